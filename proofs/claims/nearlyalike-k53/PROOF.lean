import PyProof.Rows.All
import Wide.All
import OpenK.AllK
import Wide.FinOn
import HandS.ForMost
import HandS.ForExc
import HandS.Head0
import HandS.Head1
import HandS.Head2
import HandS.HeadEnd
import HandS.HeadHook1
import HandS.HeadHook2
import HandS.Wide
import HandS.IsInst
import HandS.RaiseMore
import HandS.Text
import HandS.Style
import HandS.TupAny
import PyProof.StrOps2
import HandS.Deep
import HandS.More
import PyProof.Draws
import PyProof.EnumMake
import KE.KIntText
import PyProof.Rows.StrOr
import HandS.Dict
import HandS.HeadHook3
import HandS.EndBits
import HandS.ExcOwn
import KE.IntTextLaws
import PySem.Challenge.RW_nearlyalike_k53_whole_plain_data
set_option Elab.async false
set_option linter.all false
set_option maxRecDepth 100000
/-! SL: what a def computes, as a total function over plain data; the simulation. -/
namespace SL
open PySem PySem.Spec PyProof.Rows L2
/-- data: tuples are values, lists and instances stand in a plain heap -/
inductive D where
  | non | bl (b : Bool) | int (i : Int) | str (x : Str) | tup (ds : List D) | ref (n : Nat) | ty (n : String) | frl (ds : List D)
mutual
def D.beq : D → D → Bool
  | .non, .non => true
  | .bl a, .bl b => a == b
  | .int a, .int b => decide (a = b)
  | .str a, .str b => decide (a = b)
  | .tup a, .tup b => D.beqs a b
  | .frl a, .frl b => D.beqs a b
  | .ref a, .ref b => decide (a = b)
  | .ty a, .ty b => decide (a = b)
  | _, _ => false
def D.beqs : List D → List D → Bool
  | [], [] => true
  | a :: as, b :: bs => D.beq a b && D.beqs as bs
  | _, _ => false
end
mutual
theorem D.beq_iff : ∀ a b : D, D.beq a b = true ↔ a = b
  | .non, b => by cases b <;> simp [D.beq]
  | .bl x, b => by cases b <;> simp [D.beq]
  | .int x, b => by cases b <;> simp [D.beq]
  | .str x, b => by cases b <;> simp [D.beq]
  | .ref x, b => by cases b <;> simp [D.beq]
  | .ty x, b => by cases b <;> simp [D.beq]
  | .tup x, b => by cases b <;> simp [D.beq, D.beqs_iff x]
  | .frl x, b => by cases b <;> simp [D.beq, D.beqs_iff x]
theorem D.beqs_iff : ∀ a b : List D, D.beqs a b = true ↔ a = b
  | [], b => by cases b <;> simp [D.beqs]
  | x :: xs, b => by cases b <;> simp [D.beqs, D.beq_iff x, D.beqs_iff xs]
end
instance : DecidableEq D := fun a b => if h : D.beq a b = true then isTrue ((D.beq_iff a b).mp h) else isFalse fun e => h ((D.beq_iff a b).mpr e)
inductive O where
  | lst (ds : List D)
  | ins (c : Str) (fs : List (Str × D))
  deriving DecidableEq
/-- a result: a value, an exception of the class named c, or nothing that is told -/
inductive R (α : Type) where
  | ok (a : α) (h : List O) | exc (c : Str) (h : List O) | bad
def R.bind {α β : Type} : R α → (α → List O → R β) → R β
  | .ok a h, f => f a h
  | .exc c h, _ => .exc c h
  | .bad, _ => .bad
@[simp] theorem R.bind_ok {α β : Type} (a : α) (h : List O) (f : α → List O → R β) : (R.ok a h).bind f = f a h := rfl
@[simp] theorem R.bind_exc {α β : Type} (c : Str) (h : List O) (f : α → List O → R β) : (R.exc c h : R α).bind f = .exc c h := rfl
@[simp] theorem R.bind_bad {α β : Type} (f : α → List O → R β) : (R.bad : R α).bind f = .bad := rfl
inductive RS where
  | nx (r : List (Option D)) (h : List O) | rt (d : D) (h : List O) | bk (r : List (Option D)) (h : List O) | ct (r : List (Option D)) (h : List O) | exc (c : Str) (r : List (Option D)) (h : List O) | bad
abbrev Sl := List (Option D)
abbrev M (α : Type) := Sl → List O → R α
abbrev ME := M D
abbrev MS := Sl → List O → RS
/-- an expression ahead of a statement's end -/
def R.thn {α : Type} (x : R α) (r : Sl) (f : α → List O → RS) : RS := match x with
  | .ok a h => f a h
  | .exc c h => .exc c r h
  | .bad => .bad
@[simp] theorem R.thn_ok {α : Type} (a : α) (h : List O) (r : Sl) (f : α → List O → RS) : (R.ok a h).thn r f = f a h := rfl
@[simp] theorem R.thn_exc {α : Type} (c : Str) (h : List O) (r : Sl) (f : α → List O → RS) : (R.exc c h : R α).thn r f = .exc c r h := rfl
@[simp] theorem R.thn_bad {α : Type} (r : Sl) (f : α → List O → RS) : (R.bad : R α).thn r f = .bad := rfl

/-! ### the relation -/
/-- a list that nobody changes -/
def SqF (K : PySem.W.Frag) (H : Hp) (a : Addr) (vs : List V) : Prop := (∃ o, H a = some (.frz o (.lst vs))) ∨ ∀ H' : Hp, SqL K H' a vs
theorem SqF.l {K : PySem.W.Frag} {H : Hp} {a : Addr} {vs : List V} (h : SqF K H a vs) : SqL K H a vs := by
  rcases h with ⟨o, h⟩ | h
  · exact .inl (.inr ⟨o, h⟩)
  · exact h H
section
variable (K : PySem.W.Frag) (H : Hp) (μ : List Addr)
mutual
def RelD : D → V → Prop
  | .non, v => v = .non
  | .bl b, v => v = .bl b
  | .int i, v => v = .int i
  | .str x, v => v = .str x
  | .ty n, v => v = .ty n
  | .tup ds, v => ∃ a vs, v = .ref a ∧ SqT K H a vs ∧ RelDs ds vs
  | .frl ds, v => ∃ a vs, v = .ref a ∧ SqF K H a vs ∧ RelDs ds vs
  | .ref n, v => ∃ a, v = .ref a ∧ μ[n]? = some a
def RelDs : List D → List V → Prop
  | [], vs => vs = []
  | d :: ds, vs => ∃ v r, vs = v :: r ∧ RelD d v ∧ RelDs ds r
end
def RelF : List (Str × D) → List (Str × V) → Prop
  | [], fs => fs = []
  | p :: ps, fs => ∃ v r, fs = (p.1, v) :: r ∧ RelD K H μ p.2 v ∧ RelF ps r
def RelS : Sl → L2.St → Prop
  | [], s => s = []
  | none :: r, s => ∃ o t, s = o :: t ∧ RelS r t
  | some d :: r, s => ∃ v t, s = some v :: t ∧ RelD K H μ d v ∧ RelS r t
def ObjR : O → Addr → Prop
  | .lst ds, a => ∃ vs, H a = some (.lst vs) ∧ RelDs K H μ ds vs
  | .ins c fs, a => ∃ dx fv, H a = some (.ins (He.ga K c) dx fv) ∧ RelF K H μ fs fv
structure RelH (eh : List O) : Prop where
  len : μ.length = eh.length
  nd : μ.Nodup
  obj : ∀ (i : Nat) (a : Addr) (o : O), μ[i]? = some a → eh[i]? = some o → ObjR K H μ o a
end
/-- what stands still on the way from H to H' -/
structure Ext (K : PySem.W.Frag) (H : Hp) (μ : List Addr) (H' : Hp) (μ' : List Addr) : Prop where
  pre : ∃ ν, μ' = μ ++ ν ∧ ∀ a ∈ ν, a ∉ μ ∧ H a = none
  fr : ∀ a o, H a = some o → a ∉ μ → H' a = some o
  tp : ∀ a xs, SqT K H a xs → SqT K H' a xs
  tf : ∀ a xs, SqF K H a xs → SqF K H' a xs
section
variable {K : PySem.W.Frag} {H H' H1 H2 : Hp} {μ μ' μ1 μ2 : List Addr}
theorem Ext.refl : Ext K H μ H μ := ⟨⟨[], by simp, by simp⟩, fun _ _ h _ => h, fun _ _ h => h, fun _ _ h => h⟩
theorem Ext.trans (a : Ext K H μ H1 μ1) (b : Ext K H1 μ1 H2 μ2) : Ext K H μ H2 μ2 := by
  obtain ⟨ν, e, n⟩ := a.pre
  obtain ⟨ν', e', n'⟩ := b.pre
  subst e e'
  refine ⟨⟨ν ++ ν', by simp, fun x hx => ?_⟩, fun x o h hm => ?_, fun x xs h => b.tp _ _ (a.tp _ _ h), fun x xs h => b.tf _ _ (a.tf _ _ h)⟩
  · rcases List.mem_append.mp hx with hx | hx
    · exact n x hx
    · obtain ⟨q1, q2⟩ := n' x hx
      have hm : x ∉ μ := fun z => q1 (List.mem_append_left _ z)
      refine ⟨hm, ?_⟩
      cases q : H x with
      | none => rfl
      | some o =>
        have q3 := a.fr x o q hm
        rw [q2] at q3
        cases q3
  · refine b.fr x o (a.fr x o h hm) fun hx => ?_
    rcases List.mem_append.mp hx with hx | hx
    · exact hm hx
    · rw [(n x hx).2] at h
      cases h
theorem Ext.at (e : Ext K H μ H' μ') {i : Nat} {a : Addr} (h : μ[i]? = some a) : μ'[i]? = some a := by
  obtain ⟨ν, e, _⟩ := e.pre
  have hl : i < μ.length := (List.getElem?_eq_some_iff.mp h).1
  rw [e, List.getElem?_append_left hl]
  exact h
/-- what told data lean on -/
structure Mo (K : PySem.W.Frag) (H : Hp) (μ : List Addr) (H' : Hp) (μ' : List Addr) : Prop where
  at_ : ∀ (i : Nat) (a : Addr), μ[i]? = some a → μ'[i]? = some a
  tp : ∀ a xs, SqT K H a xs → SqT K H' a xs
  tf : ∀ a xs, SqF K H a xs → SqF K H' a xs
theorem Ext.mo (e : Ext K H μ H' μ') : Mo K H μ H' μ' := ⟨fun _ _ h => e.at h, e.tp, e.tf⟩
mutual
theorem RelD.mo (e : Mo K H μ H' μ') : ∀ (d : D) (v : V), RelD K H μ d v → RelD K H' μ' d v
  | .non, _, h => h
  | .bl _, _, h => h
  | .int _, _, h => h
  | .str _, _, h => h
  | .ty _, _, h => h
  | .tup ds, v, h => by
    obtain ⟨a, vs, h1, h2, h3⟩ := h
    exact ⟨a, vs, h1, e.tp _ _ h2, RelDs.mo e ds vs h3⟩
  | .frl ds, v, h => by
    obtain ⟨a, vs, h1, h2, h3⟩ := h
    exact ⟨a, vs, h1, e.tf _ _ h2, RelDs.mo e ds vs h3⟩
  | .ref n, v, h => by
    obtain ⟨a, h1, h2⟩ := h
    exact ⟨a, h1, e.at_ _ _ h2⟩
theorem RelDs.mo (e : Mo K H μ H' μ') : ∀ (ds : List D) (vs : List V), RelDs K H μ ds vs → RelDs K H' μ' ds vs
  | [], _, h => h
  | d :: ds, vs, h => by
    obtain ⟨v, r, h1, h2, h3⟩ := h
    exact ⟨v, r, h1, RelD.mo e d v h2, RelDs.mo e ds r h3⟩
end
theorem RelF.mo (e : Mo K H μ H' μ') : ∀ (fs : List (Str × D)) (fv : List (Str × V)), RelF K H μ fs fv → RelF K H' μ' fs fv
  | [], _, h => h
  | p :: ps, _, h => by
    obtain ⟨v, r, h1, h2, h3⟩ := h
    exact ⟨v, r, h1, RelD.mo e _ v h2, RelF.mo e ps r h3⟩
theorem RelS.mo (e : Mo K H μ H' μ') : ∀ (r : Sl) (s : L2.St), RelS K H μ r s → RelS K H' μ' r s
  | [], _, h => h
  | none :: r, _, h => by
    obtain ⟨o, t, h1, h2⟩ := h
    exact ⟨o, t, h1, RelS.mo e r t h2⟩
  | some d :: r, _, h => by
    obtain ⟨v, t, h1, h2, h3⟩ := h
    exact ⟨v, t, h1, RelD.mo e d v h2, RelS.mo e r t h3⟩
theorem RelD.mono (e : Ext K H μ H' μ') (d : D) (v : V) (h : RelD K H μ d v) : RelD K H' μ' d v := RelD.mo e.mo d v h
theorem RelDs.mono (e : Ext K H μ H' μ') (ds : List D) (vs : List V) (h : RelDs K H μ ds vs) : RelDs K H' μ' ds vs := RelDs.mo e.mo ds vs h
theorem RelF.mono (e : Ext K H μ H' μ') (fs : List (Str × D)) (fv : List (Str × V)) (h : RelF K H μ fs fv) : RelF K H' μ' fs fv := RelF.mo e.mo fs fv h
theorem RelS.mono (e : Ext K H μ H' μ') (r : Sl) (s : L2.St) (h : RelS K H μ r s) : RelS K H' μ' r s := RelS.mo e.mo r s h
theorem RelDs.len : ∀ {ds : List D} {vs : List V}, RelDs K H μ ds vs → vs.length = ds.length
  | [], vs, h => by rw [show vs = [] from h]; rfl
  | d :: ds, vs, h => by
    obtain ⟨v, r, h1, _, h3⟩ := h
    rw [h1, List.length_cons, List.length_cons, RelDs.len h3]
theorem RelDs.get : ∀ {ds : List D} {vs : List V} {i : Nat} {d : D}, RelDs K H μ ds vs → ds[i]? = some d → ∃ v, vs[i]? = some v ∧ RelD K H μ d v
  | [], _, _, _, _, e => by simp at e
  | d :: ds, vs, 0, d', h, e => by
    obtain ⟨v, r, h1, h2, _⟩ := h
    simp at e
    subst e h1
    exact ⟨v, by simp, h2⟩
  | d :: ds, vs, i + 1, d', h, e => by
    obtain ⟨v, r, h1, _, h3⟩ := h
    subst h1
    simp at e ⊢
    exact RelDs.get h3 e
theorem RelDs.app : ∀ {ds es : List D} {vs us : List V}, RelDs K H μ ds vs → RelDs K H μ es us → RelDs K H μ (ds ++ es) (vs ++ us)
  | [], _, vs, _, h, k => by rw [show vs = [] from h]; exact k
  | d :: ds, es, vs, us, h, k => by
    obtain ⟨v, r, h1, h2, h3⟩ := h
    subst h1
    exact ⟨v, r ++ us, by simp, h2, RelDs.app h3 k⟩
theorem RelDs.one {d : D} {v : V} (h : RelD K H μ d v) : RelDs K H μ [d] [v] := ⟨v, [], rfl, h, rfl⟩
theorem RelDs.set : ∀ {ds : List D} {vs : List V} (i : Nat) {d : D} {v : V}, RelDs K H μ ds vs → RelD K H μ d v → RelDs K H μ (ds.set i d) (vs.set i v)
  | [], vs, _, _, _, h, _ => by rw [show vs = [] from h]; simp; rfl
  | d :: ds, vs, 0, _, v, h, k => by
    obtain ⟨w, r, h1, h2, h3⟩ := h
    subst h1
    exact ⟨v, r, rfl, k, h3⟩
  | d :: ds, vs, i + 1, _, v, h, k => by
    obtain ⟨w, r, h1, h2, h3⟩ := h
    subst h1
    exact ⟨w, r.set i v, rfl, h2, RelDs.set i h3 k⟩
theorem RelDs.take : ∀ {ds : List D} {vs : List V} (n : Nat), RelDs K H μ ds vs → RelDs K H μ (ds.take n) (vs.take n)
  | _, _, 0, _ => by simp; rfl
  | [], vs, n + 1, h => by rw [show vs = [] from h]; simp; rfl
  | d :: ds, vs, n + 1, h => by
    obtain ⟨w, r, h1, h2, h3⟩ := h
    subst h1
    exact ⟨w, r.take n, rfl, h2, RelDs.take n h3⟩
theorem RelDs.drop : ∀ {ds : List D} {vs : List V} (n : Nat), RelDs K H μ ds vs → RelDs K H μ (ds.drop n) (vs.drop n)
  | _, _, 0, h => h
  | [], vs, n + 1, h => by rw [show vs = [] from h]; simp; rfl
  | d :: ds, vs, n + 1, h => by
    obtain ⟨w, r, h1, h2, h3⟩ := h
    subst h1
    exact RelDs.drop n h3
theorem RelS.get : ∀ {r : Sl} {s : L2.St} {i : Nat} {d : D}, RelS K H μ r s → r[i]? = some (some d) → ∃ v, s[i]? = some (some v) ∧ RelD K H μ d v
  | [], _, _, _, _, e => by simp at e
  | none :: r, _, 0, _, _, e => by simp at e
  | some d :: r, s, 0, _, h, e => by
    obtain ⟨v, t, h1, h2, _⟩ := h
    simp at e
    subst e h1
    exact ⟨v, by simp, h2⟩
  | none :: r, s, i + 1, _, h, e => by
    obtain ⟨o, t, h1, h2⟩ := h
    subst h1
    simp at e ⊢
    exact RelS.get h2 e
  | some d :: r, s, i + 1, _, h, e => by
    obtain ⟨v, t, h1, _, h2⟩ := h
    subst h1
    simp at e ⊢
    exact RelS.get h2 e
theorem RelS.set : ∀ {r : Sl} {s : L2.St} (i : Nat) {d : D} {v : V}, RelS K H μ r s → RelD K H μ d v → RelS K H μ (r.set i (some d)) (s.set i (some v))
  | [], s, _, _, _, h, _ => by rw [show s = [] from h]; simp; rfl
  | none :: r, s, 0, _, v, h, k => by
    obtain ⟨o, t, h1, h2⟩ := h
    subst h1
    exact ⟨v, t, rfl, k, h2⟩
  | some d :: r, s, 0, _, v, h, k => by
    obtain ⟨w, t, h1, _, h2⟩ := h
    subst h1
    exact ⟨v, t, rfl, k, h2⟩
  | none :: r, s, i + 1, _, v, h, k => by
    obtain ⟨o, t, h1, h2⟩ := h
    subst h1
    exact ⟨o, _, rfl, RelS.set i h2 k⟩
  | some d :: r, s, i + 1, _, v, h, k => by
    obtain ⟨w, t, h1, h3, h2⟩ := h
    subst h1
    exact ⟨w, _, rfl, h3, RelS.set i h2 k⟩
theorem RelS.unset : ∀ {r : Sl} {s : L2.St} (i : Nat) (o : Option V), RelS K H μ r s → RelS K H μ (r.set i none) (s.set i o)
  | [], s, _, _, h => by rw [show s = [] from h]; simp; rfl
  | none :: r, s, 0, o, h => by
    obtain ⟨_, t, h1, h2⟩ := h
    subst h1
    exact ⟨o, t, rfl, h2⟩
  | some d :: r, s, 0, o, h => by
    obtain ⟨w, t, h1, _, h2⟩ := h
    subst h1
    exact ⟨o, t, rfl, h2⟩
  | none :: r, s, i + 1, o, h => by
    obtain ⟨o', t, h1, h2⟩ := h
    subst h1
    exact ⟨o', _, rfl, RelS.unset i o h2⟩
  | some d :: r, s, i + 1, o, h => by
    obtain ⟨w, t, h1, h3, h2⟩ := h
    subst h1
    exact ⟨w, _, rfl, h3, RelS.unset i o h2⟩
theorem RelH.get {eh : List O} (h : RelH K H μ eh) {i : Nat} {o : O} (e : eh[i]? = some o) : ∃ a, μ[i]? = some a ∧ ObjR K H μ o a := by
  have hl : i < eh.length := (List.getElem?_eq_some_iff.mp e).1
  have hm : i < μ.length := by rw [h.len]; exact hl
  exact ⟨μ[i], List.getElem?_eq_getElem hm, h.obj i _ o (List.getElem?_eq_getElem hm) e⟩
theorem ObjR.mo (e : Mo K H μ H' μ') {o : O} {a : Addr} (h : ObjR K H μ o a) (same : H' a = H a) : ObjR K H' μ' o a := by
  cases o with
  | lst ds =>
    obtain ⟨vs, h1, h2⟩ := h
    exact ⟨vs, by rw [same]; exact h1, h2.mo e⟩
  | ins c fs =>
    obtain ⟨dx, fv, h1, h2⟩ := h
    exact ⟨dx, fv, by rw [same]; exact h1, h2.mo e⟩
theorem ObjR.mono (e : Ext K H μ H' μ') {o : O} {a : Addr} (h : ObjR K H μ o a) (same : H' a = H a) : ObjR K H' μ' o a := h.mo e.mo same
/-- a new object is tracked, and told -/
theorem sqF_upd {p : Addr} {o : HO} (hp : ∀ u w, H p ≠ some (.frz u w)) {a : Addr} {xs : List V} (h : SqF K H a xs) : SqF K (upd H p o) a xs := by
  rcases h with ⟨u, h⟩ | h
  · refine .inl ⟨u, ?_⟩
    have ne : a ≠ p := fun e => hp u (.lst xs) (by rw [← e]; exact h)
    rw [upd_ne ne]
    exact h
  · exact .inr h
theorem sqT_upd {p : Addr} {o : HO} (hf : ∀ u w, H p ≠ some (.frz u w)) (ht : ∀ w, H p ≠ some (.tup w)) {a : Addr} {xs : List V} (h : SqT K H a xs) : SqT K (upd H p o) a xs := by
  rcases h with (h | ⟨u, h⟩) | h
  · have ne : a ≠ p := fun e => ht xs (by rw [← e]; exact h)
    exact .inl (.inl (by rw [upd_ne ne]; exact h))
  · have ne : a ≠ p := fun e => hf u (.tup xs) (by rw [← e]; exact h)
    exact .inl (.inr ⟨u, by rw [upd_ne ne]; exact h⟩)
  · exact .inr h
theorem ext_new {p : Addr} {o : HO} (hp : H p = none) (hm : p ∉ μ) : Ext K H μ (upd H p o) (μ ++ [p]) := by
  refine ⟨⟨[p], rfl, fun a ha => ?_⟩, fun a u h _ => ?_, fun a xs h => ?_, fun a xs h => ?_⟩
  · have e : a = p := by simpa using ha
    subst e
    exact ⟨hm, hp⟩
  · rw [upd_ne (ne_of_none h hp)]
    exact h
  · exact sqT_upd (fun _ _ z => by rw [hp] at z; cases z) (fun _ z => by rw [hp] at z; cases z) h
  · exact sqF_upd (fun _ _ z => by rw [hp] at z; cases z) h
/-- a new object is tracked, not told -/
theorem ext_off {p : Addr} {o : HO} (hp : H p = none) : Ext K H μ (upd H p o) μ := by
  refine ⟨⟨[], by simp, by simp⟩, fun a u h _ => ?_, fun a xs h => ?_, fun a xs h => ?_⟩
  · rw [upd_ne (ne_of_none h hp)]
    exact h
  · exact sqT_upd (fun _ _ z => by rw [hp] at z; cases z) (fun _ z => by rw [hp] at z; cases z) h
  · exact sqF_upd (fun _ _ z => by rw [hp] at z; cases z) h
/-- an object that is told is written -/
theorem ext_set {p : Addr} {o : HO} (hm : p ∈ μ) (hf : ∀ u w, H p ≠ some (.frz u w)) (ht : ∀ w, H p ≠ some (.tup w)) : Ext K H μ (upd H p o) μ := by
  refine ⟨⟨[], by simp, by simp⟩, fun a u h hn => ?_, fun a xs h => sqT_upd hf ht h, fun a xs h => sqF_upd hf h⟩
  have ne : a ≠ p := fun e => hn (by rw [e]; exact hm)
  rw [upd_ne ne]
  exact h
theorem nodup_at {l : List Addr} (hn : l.Nodup) {i j : Nat} {x : Addr} (a : l[i]? = some x) (b : l[j]? = some x) : i = j := by
  obtain ⟨h1, e1⟩ := List.getElem?_eq_some_iff.mp a
  obtain ⟨h2, e2⟩ := List.getElem?_eq_some_iff.mp b
  exact (List.getElem_inj hn).mp (e1.trans e2.symm)
theorem RelH.mem_ne {eh : List O} (h : RelH K H μ eh) {p : Addr} (hp : H p = none) : p ∉ μ := fun hm => by
  obtain ⟨i, hi, e⟩ := List.mem_iff_getElem.mp hm
  have he : i < eh.length := by rw [← h.len]; exact hi
  have q := h.obj i p eh[i] (by rw [List.getElem?_eq_getElem hi, e]) (List.getElem?_eq_getElem he)
  generalize eh[i] = o at q
  cases o with
  | lst ds =>
    obtain ⟨vs, h1, _⟩ := q
    rw [hp] at h1
    cases h1
  | ins c fs =>
    obtain ⟨dx, fv, h1, _⟩ := q
    rw [hp] at h1
    cases h1
/-- .. and what is told of the heap -/
theorem RelH.new {eh : List O} (h : RelH K H μ eh) {p : Addr} {u : HO} {o : O} (hp : H p = none) (hn : ObjR K (upd H p u) (μ ++ [p]) o p) : RelH K (upd H p u) (μ ++ [p]) (eh ++ [o]) := by
  have hm := h.mem_ne hp
  have e : Ext K H μ (upd H p u) (μ ++ [p]) := ext_new hp hm
  refine ⟨by simp [h.len], ?_, fun i a q h1 h2 => ?_⟩
  · rw [List.nodup_append]
    refine ⟨h.nd, by simp, fun a ha b hb e => ?_⟩
    have eb : b = p := by simpa using hb
    rw [e, eb] at ha
    exact hm ha
  · by_cases hi : i < μ.length
    · rw [List.getElem?_append_left hi] at h1
      rw [List.getElem?_append_left (by rw [← h.len]; exact hi)] at h2
      refine (h.obj i a q h1 h2).mono e ?_
      have ne : a ≠ p := fun z => hm (by rw [← z]; exact List.mem_of_getElem? h1)
      rw [upd_ne ne]
    · have hl : i < (μ ++ [p]).length := (List.getElem?_eq_some_iff.mp h1).1
      have ei : i = μ.length := by
        rw [List.length_append, List.length_singleton] at hl
        omega
      subst ei
      rw [List.getElem?_append_right (Nat.le_refl _)] at h1
      rw [h.len, List.getElem?_append_right (Nat.le_refl _)] at h2
      simp at h1 h2
      subst h1 h2
      exact hn
theorem RelH.mo {eh : List O} (h : RelH K H μ eh) (e : Mo K H μ H' μ) (same : ∀ a ∈ μ, H' a = H a) : RelH K H' μ eh :=
  ⟨h.len, h.nd, fun i a o h1 h2 => (h.obj i a o h1 h2).mo e (same a (List.mem_of_getElem? h1))⟩
theorem RelH.mono {eh : List O} (h : RelH K H μ eh) (e : Ext K H μ H' μ) (same : ∀ a ∈ μ, H' a = H a) : RelH K H' μ eh := h.mo e.mo same
/-- a new object beside -/
theorem RelH.off {eh : List O} (h : RelH K H μ eh) {p : Addr} {u : HO} (hp : H p = none) : RelH K (upd H p u) μ eh :=
  h.mono (ext_off hp) fun a ha => upd_ne fun e => h.mem_ne hp (by rw [← e]; exact ha)
/-- .. written -/
theorem RelH.set {eh : List O} (h : RelH K H μ eh) {i : Nat} {p : Addr} {u : HO} {o : O} (hi : μ[i]? = some p) (hf : ∀ u w, H p ≠ some (.frz u w)) (ht : ∀ w, H p ≠ some (.tup w)) (hn : ObjR K (upd H p u) μ o p) : RelH K (upd H p u) μ (eh.set i o) := by
  have e : Ext K H μ (upd H p u) μ := ext_set (List.mem_of_getElem? hi) hf ht
  refine ⟨by simp [h.len], h.nd, fun j a q h1 h2 => ?_⟩
  by_cases hj : j = i
  · subst hj
    have ea : a = p := Option.some.inj (h1.symm.trans hi)
    have hl : j < eh.length := by rw [← h.len]; exact (List.getElem?_eq_some_iff.mp hi).1
    rw [List.getElem?_set_self hl] at h2
    cases h2
    rw [ea]
    exact hn
  · rw [List.getElem?_set_ne (Ne.symm hj)] at h2
    refine (h.obj j a q h1 h2).mono e ?_
    have ne : a ≠ p := fun z => hj (nodup_at h.nd h1 (by rw [z]; exact hi))
    rw [upd_ne ne]
/-- a tracked list that is not told of is written -/
theorem mo_off {p : Addr} {o : HO} (hf : ∀ u w, H p ≠ some (.frz u w)) (ht : ∀ w, H p ≠ some (.tup w)) : Mo K H μ (upd H p o) μ := ⟨fun _ _ h => h, fun _ _ h => sqT_upd hf ht h, fun _ _ h => sqF_upd hf h⟩
end
end SL
set_option Elab.async false
set_option linter.all false
set_option maxRecDepth 100000
set_option maxHeartbeats 1000000
namespace SL
open PySem PySem.Spec PyProof.Rows L2
/-! ### what is wanted behind a result -/
section
variable (K : PySem.W.Frag) {α β : Type} (rel : Hp → List Addr → α → β → Prop) (W : WX) (σ : L2.St)
def PostG (H : Hp) (μ : List Addr) (r : R α) (Q : β → Hp → Prop) : Prop := match r with
  | .ok a eh => ∀ (b : β) (H' : Hp) (μ' : List Addr), Ext K H μ H' μ' → RelH K H' μ' eh → rel H' μ' a b → Q b H'
  | .exc c eh => ∀ (H' : Hp) (μ' : List Addr), Ext K H μ H' μ' → RelH K H' μ' eh → W (.ref (He.ga K c)) none σ H'
  | .bad => False
/-- the reading of a function over slots and heap -/
def rdM (m : M α) (H : Hp) (Q : β → Hp → Prop) : Prop := ∃ (μ : List Addr) (ρ : Sl) (eh : List O), RelS K H μ ρ σ ∧ RelH K H μ eh ∧ PostG K rel W σ H μ (m ρ eh) Q
end
section
variable {K : PySem.W.Frag} {α β γ δ : Type} {rel : Hp → List Addr → α → β → Prop} {rel2 : Hp → List Addr → γ → δ → Prop} {W : WX} {σ : L2.St} {H H1 : Hp} {μ μ1 : List Addr}
theorem PostG.bind {r : R α} {f : α → List O → R γ} {Q : δ → Hp → Prop} (h : PostG K rel2 W σ H μ (r.bind f) Q) :
    PostG K rel W σ H μ r (fun b H1 => ∃ a μ1 eh1, Ext K H μ H1 μ1 ∧ RelH K H1 μ1 eh1 ∧ rel H1 μ1 a b ∧ PostG K rel2 W σ H1 μ1 (f a eh1) Q) := by
  cases r with
  | bad => exact h
  | exc c eh => exact h
  | ok a eh =>
    intro b H1 μ1 e hH hr
    refine ⟨a, μ1, eh, e, hH, hr, ?_⟩
    have h' : PostG K rel2 W σ H μ (f a eh) Q := h
    revert h'
    cases f a eh with
    | bad => exact id
    | exc c eh2 => exact fun h' H2 μ2 e2 hH2 => h' H2 μ2 (e.trans e2) hH2
    | ok g eh2 => exact fun h' d H2 μ2 e2 hH2 hr2 => h' d H2 μ2 (e.trans e2) hH2 hr2
theorem PostG.mono {r : R α} {Q Q' : β → Hp → Prop} (h : PostG K rel W σ H μ r Q) (hq : ∀ b H', Q b H' → Q' b H') : PostG K rel W σ H μ r Q' := by
  cases r with
  | bad => exact h
  | exc c eh => exact h
  | ok a eh => exact fun b H1 μ1 e hH hr => hq _ _ (h b H1 μ1 e hH hr)
/-- the rule's form: from a joined reading to the first one -/
theorem rdM.bind {m : M α} {f : α → M γ} {Q : δ → Hp → Prop} {Q' : β → Hp → Prop} (h : rdM K rel2 W σ (fun ρ eh => (m ρ eh).bind fun a => f a ρ) H Q)
    (hq : ∀ b H1 a μ1 ρ eh1, RelS K H1 μ1 ρ σ → RelH K H1 μ1 eh1 → rel H1 μ1 a b → PostG K rel2 W σ H1 μ1 (f a ρ eh1) Q → Q' b H1) : rdM K rel W σ m H Q' := by
  obtain ⟨μ, ρ, eh, hS, hH, hp⟩ := h
  refine ⟨μ, ρ, eh, hS, hH, (PostG.bind hp).mono fun b H1 ⟨a, μ1, eh1, e, hH1, hr, hp1⟩ => ?_⟩
  exact hq b H1 a μ1 ρ eh1 (hS.mono e) hH1 hr hp1
end
abbrev rB : Hp → List Addr → Bool → Bool → Prop := fun _ _ a b => a = b
abbrev rO : Hp → List Addr → Option Int → Option Int → Prop := fun _ _ a b => a = b
abbrev rdE (K : PySem.W.Frag) (W : WX) (m : ME) : TE := fun σ H Q => rdM K (RelD K) W σ m H Q
abbrev rdT (K : PySem.W.Frag) (W : WX) (m : M Bool) : TT := fun σ H Q => rdM K rB W σ m H Q
abbrev rdA (K : PySem.W.Frag) (W : WX) (m : M (List D)) : TA := fun σ H Q => rdM K (RelDs K) W σ m H Q
abbrev rdO (K : PySem.W.Frag) (W : WX) (m : M (Option Int)) : TO := fun σ H Q => rdM K rO W σ m H Q
abbrev SE (X : Cx) (W : WX) (e : Expr) (m : ME) : Prop := PE X e (rdE X.K W m)
abbrev ST (X : Cx) (W : WX) (e : Expr) (m : M Bool) : Prop := PT X e (rdT X.K W m)
abbrev SW (X : Cx) (W : WX) (e : Expr) (m : M Bool) : Prop := PW X e (rdT X.K W m)
abbrev SA (X : Cx) (W : WX) (es : List Expr) (m : M (List D)) : Prop := PA X es (rdA X.K W m)
abbrev SO (X : Cx) (W : WX) (e : Option Expr) (m : M (Option Int)) : Prop := PO X e (rdO X.K W m)
section
variable {X : Cx} {W : WX} {e a b : Expr} {es : List Expr} {pos p2 : Pos}
theorem pe_imp {t t' : TE} (h : PE X e t) (hi : ∀ σ H Q, t' σ H Q → t σ H Q) : PE X e t' := ⟨fun pins s σ H Q I q => h.run pins s σ H Q I (hi _ _ _ q)⟩
theorem pt_imp {t t' : TT} (h : PT X e t) (hi : ∀ σ H Q, t' σ H Q → t σ H Q) : PT X e t' := ⟨fun pins s σ H Q I q => h.run pins s σ H Q I (hi _ _ _ q)⟩
theorem pw_imp {t t' : TT} (h : PW X e t) (hi : ∀ σ H Q, t' σ H Q → t σ H Q) : PW X e t' := ⟨fun wh pins s σ H Q I q => h.run wh pins s σ H Q I (hi _ _ _ q)⟩
theorem pa_imp {t t' : TA} (h : PA X es t) (hi : ∀ σ H Q, t' σ H Q → t σ H Q) : PA X es t' := ⟨fun ps pins s σ H Q I q => h.run ps pins s σ H Q I (hi _ _ _ q)⟩
theorem po_imp {o : Option Expr} {t t' : TO} (h : PO X o t) (hi : ∀ σ H Q, t' σ H Q → t σ H Q) : PO X o t' := ⟨fun pins s σ H Q I q => h.run pins s σ H Q I (hi _ _ _ q)⟩
/-! ### names, constants -/
def mVar (i : Nat) : ME := fun ρ h => match ρ[i]? with
  | some (some d) => .ok d h
  | _ => .bad
def mC (d : D) : ME := fun _ h => .ok d h
theorem se_var {i : Nat} {x : Str} (hN : X.N[i]? = some x := by rfl) (hv : Vis X.env.scope x := by first | exact Or.inl rfl | exact Or.inr (Or.inl rfl) | exact Or.inr (Or.inr rfl)) (hd : (x == ("__debug__" : Str)) = false := by decide)
    (hcd : (x == ("__classdict__" : Str)) = false := by decide) : SE X W (.Name x pos) (mVar i) := by
  refine pe_imp (pe_var hN hv hd hcd) fun σ H Q ⟨μ, ρ, eh, hS, hH, hp⟩ => ?_
  unfold mVar at hp
  split at hp
  · rename_i d e
    obtain ⟨v, e1, r⟩ := hS.get e
    exact ⟨v, e1, hp v H μ .refl hH r⟩
  · exact hp.elim
theorem se_c {d : D} {v : V} (h : PE X e (tC v)) (r : ∀ H μ, RelD X.K H μ d v) : SE X W e (mC d) :=
  pe_imp h fun σ H Q ⟨μ, ρ, eh, hS, hH, hp⟩ => hp v H μ .refl hH (r H μ)
theorem se_int {i j} : SE X W (.Constant (.int i) j pos) (mC (.int i)) := se_c pe_int fun _ _ => rfl
theorem se_bl {i j} : SE X W (.Constant (.bool i) j pos) (mC (.bl i)) := se_c pe_bl fun _ _ => rfl
theorem se_non {j} : SE X W (.Constant .none j pos) (mC .non) := se_c pe_non fun _ _ => rfl
theorem se_str {i j} : SE X W (.Constant (.str i) j pos) (mC (.str i)) := se_c pe_str fun _ _ => rfl
/-! ### operators -/
abbrev F1 := D → List O → R D
abbrev F2 := D → D → List O → R D
abbrev FA := List D → List O → R D
def mOp (f : F2) (ma mb : ME) : ME := fun ρ h => (ma ρ h).bind fun x h1 => (mb ρ h1).bind fun y h2 => f x y h2
def mUn (f : F1) (ma : ME) : ME := fun ρ h => (ma ρ h).bind fun x h1 => f x h1
/-- a rule by values, told over data -/
def Sim2 (K : PySem.W.Frag) (r : R2) (f : F2) : Prop := ∀ (W : WX) (σ : L2.St) (H : Hp) (μ : List Addr) (eh : List O) (x y : V) (dx dy : D) (Q : VK), RelH K H μ eh → RelD K H μ dx x → RelD K H μ dy y → PostG K (RelD K) W σ H μ (f dx dy eh) Q → r x y H Q
def Sim1 (K : PySem.W.Frag) (r : V → Hp → VK → Prop) (f : F1) : Prop := ∀ (W : WX) (σ : L2.St) (H : Hp) (μ : List Addr) (eh : List O) (x : V) (dx : D) (Q : VK), RelH K H μ eh → RelD K H μ dx x → PostG K (RelD K) W σ H μ (f dx eh) Q → r x H Q
def SimL (K : PySem.W.Frag) (r : List V → Hp → VK → Prop) (f : FA) : Prop := ∀ (W : WX) (σ : L2.St) (H : Hp) (μ : List Addr) (eh : List O) (xs : List V) (ds : List D) (Q : VK), RelH K H μ eh → RelDs K H μ ds xs → PostG K (RelD K) W σ H μ (f ds eh) Q → r xs H Q
theorem op_sim {r : R2} {f : F2} {ma mb : ME} (hs : Sim2 X.K r f) {σ : L2.St} {H : Hp} {Q : VK} (h : rdE X.K W (mOp f ma mb) σ H Q) : tOp r (rdE X.K W ma) (rdE X.K W mb) σ H Q := by
  refine rdM.bind (f := fun x ρ h1 => (mb ρ h1).bind fun y h2 => f x y h2) h fun x H1 dx μ1 ρ eh1 hS hH hr hp => ?_
  refine ⟨μ1, ρ, eh1, hS, hH, (PostG.bind hp).mono fun y H2 ⟨dy, μ2, eh2, e2, hH2, hr2, hp2⟩ => ?_⟩
  exact hs W σ H2 μ2 eh2 x y dx dy Q hH2 (hr.mono e2 _ _) hr2 hp2
theorem se_op {op : Operator} {r : R2} {f : F2} {ma mb : ME} (ho : OpR X (binaryOp op) r) (hs : Sim2 X.K r f) (ha : SE X W a ma) (hb : SE X W b mb) : SE X W (.BinOp a op b pos) (mOp f ma mb) :=
  pe_imp (pe_op ho ha hb) fun _ _ _ h => op_sim hs h
theorem se_un {op : UnaryOp} {r : V → Hp → VK → Prop} {f : F1} {ma : ME} (ho : UnR X (unaryOp op) r) (hs : Sim1 X.K r f) (ha : SE X W a ma) : SE X W (.UnaryOp op a pos) (mUn f ma) :=
  pe_imp (pe_un ho ha) fun σ H Q h => rdM.bind (f := fun x _ => f x) h fun x H1 dx μ1 ρ eh1 hS hH hr hp => hs W σ H1 μ1 eh1 x dx Q hH hr hp
theorem se_cmp {op : CmpOp} {r : R2} {f : F2} {ma mb : ME} (ho : OpR X (compareOp op) r) (hs : Sim2 X.K r f) (ha : SE X W a ma) (hb : SE X W b mb) (hm : behindInMarks op b = false) : SE X W (.Compare a [op] [b] pos) (mOp f ma mb) :=
  pe_imp (pe_cmpR ho ha hb hm) fun _ _ _ h => op_sim hs h
/-- a value that is a bool, as a test -/
def asB : D → List O → R Bool := fun d h => match d with
  | .bl b => .ok b h
  | _ => .bad
def mTst (m : ME) : M Bool := fun ρ h => (m ρ h).bind asB
theorem tst_sim {m : ME} {σ : L2.St} {H : Hp} {Q : Bool → Hp → Prop} (h : rdT X.K W (mTst m) σ H Q) : rdE X.K W m σ H fun x H1 => ∃ c, x = .bl c ∧ Q c H1 := by
  refine rdM.bind (f := fun x _ => asB x) h fun x H1 dx μ1 ρ eh1 hS hH hr hp => ?_
  cases dx with
  | bl b => exact ⟨b, hr, hp b H1 μ1 .refl hH rfl⟩
  | _ => exact hp.elim
theorem st_cmp {op : CmpOp} {r : R2} {f : F2} {ma mb : ME} (ho : OpR X (compareOp op) r) (hs : Sim2 X.K r f) (ha : SE X W a ma) (hb : SE X W b mb) (hm : behindInMarks op b = false) : ST X W (.Compare a [op] [b] pos) (mTst (mOp f ma mb)) :=
  pt_imp (pt_cmpR ho ha hb hm) fun σ H Q h => op_sim hs (tst_sim h)
theorem st_val {m : ME} (h : SE X W e m) (he : ∀ whole, isTrue e X.env whole = (do let v ← whole; standAt e.pos; holding [v] (truthy v)) := by intro _; rfl) : ST X W e (mTst m) :=
  pt_imp (pt_val h he) fun σ H Q h => tst_sim h
/-! ### and, or, not, if -/
def mAnd (ma mb : M Bool) : M Bool := fun ρ h => (ma ρ h).bind fun c h1 => if c = true then mb ρ h1 else .ok false h1
def mOr (ma mb : M Bool) : M Bool := fun ρ h => (ma ρ h).bind fun c h1 => if c = true then .ok true h1 else mb ρ h1
def mNot (ma : M Bool) : M Bool := fun ρ h => (ma ρ h).bind fun c h1 => .ok (!c) h1
def mB (m : M Bool) : ME := fun ρ h => (m ρ h).bind fun c h1 => .ok (.bl c) h1
def mIf (mc : M Bool) (ma mb : ME) : ME := fun ρ h => (mc ρ h).bind fun c h1 => if c = true then ma ρ h1 else mb ρ h1
theorem sw_and1 {ma : M Bool} (ha : ST X W a ma) : SW X W (.BoolOp .And [a] pos) ma := pw_and1 ha
theorem sw_or1 {ma : M Bool} (ha : ST X W a ma) : SW X W (.BoolOp .Or [a] pos) ma := pw_or1 ha
theorem sw_and {ma mb : M Bool} {rest : List Expr} (ha : ST X W a ma) (hb : SW X W (.BoolOp .And (b :: rest) pos) mb) : SW X W (.BoolOp .And (a :: b :: rest) pos) (mAnd ma mb) := by
  refine pw_imp (pw_and ha hb) fun σ H Q h => ?_
  refine rdM.bind (f := fun c ρ h1 => if c = true then mb ρ h1 else .ok false h1) h fun x H1 dx μ1 ρ eh1 hS hH hr hp => ?_
  subst hr
  cases dx with
  | true => exact ⟨μ1, ρ, eh1, hS, hH, hp⟩
  | false => exact hp false H1 μ1 .refl hH rfl
theorem sw_or {ma mb : M Bool} {rest : List Expr} (ha : ST X W a ma) (hb : SW X W (.BoolOp .Or (b :: rest) pos) mb) : SW X W (.BoolOp .Or (a :: b :: rest) pos) (mOr ma mb) := by
  refine pw_imp (pw_or ha hb) fun σ H Q h => ?_
  refine rdM.bind (f := fun c ρ h1 => if c = true then .ok true h1 else mb ρ h1) h fun x H1 dx μ1 ρ eh1 hS hH hr hp => ?_
  subst hr
  cases dx with
  | false => exact ⟨μ1, ρ, eh1, hS, hH, hp⟩
  | true => exact hp true H1 μ1 .refl hH rfl
theorem st_w {m : M Bool} (h : SW X W e m) : ST X W e m := h.pt
theorem st_not {ma : M Bool} (ha : ST X W a ma) : ST X W (.UnaryOp .Not a pos) (mNot ma) :=
  pt_imp (pt_not ha) fun σ H Q h => rdM.bind (f := fun c _ h1 => .ok (!c) h1) h fun x H1 dx μ1 ρ eh1 hS hH hr hp => by
    subst hr
    exact hp (!dx) H1 μ1 .refl hH rfl
/-- .. as values -/
def mAndV (ma mb : ME) : ME := fun ρ h => ((ma ρ h).bind asB).bind fun c h1 => if c = true then mb ρ h1 else .ok (.bl false) h1
def mOrV (ma mb : ME) : ME := fun ρ h => ((ma ρ h).bind asB).bind fun c h1 => if c = true then .ok (.bl true) h1 else mb ρ h1
def mNotV (ma : ME) : ME := fun ρ h => ((ma ρ h).bind asB).bind fun c h1 => .ok (.bl (!c)) h1
theorem valB {m : ME} {f : Bool → ME} {σ : L2.St} {H : Hp} {Q : VK} {Q' : Bool → Hp → Prop} (h : rdE X.K W (fun ρ h => ((m ρ h).bind asB).bind fun c => f c ρ) σ H Q)
    (hq : ∀ c H1 μ1 ρ eh1, RelS X.K H1 μ1 ρ σ → RelH X.K H1 μ1 eh1 → PostG X.K (RelD X.K) W σ H1 μ1 (f c ρ eh1) Q → Q' c H1) : rdE X.K W m σ H fun x H1 => ∃ c, x = .bl c ∧ Q' c H1 := by
  refine tst_sim (rdM.bind (m := mTst m) (f := f) h fun x H1 dx μ1 ρ eh1 hS hH hr hp => ?_)
  subst hr
  exact hq dx H1 μ1 ρ eh1 hS hH hp
theorem se_one {op} {m : ME} (h : SE X W a m) : SE X W (.BoolOp op [a] pos) m := pe_one h
theorem se_and {ma mb : ME} {rest : List Expr} (ha : SE X W a ma) (hb : SE X W (.BoolOp .And (b :: rest) pos) mb) : SE X W (.BoolOp .And (a :: b :: rest) pos) (mAndV ma mb) := by
  refine pe_imp (pe_and ha hb) fun σ H Q h => valB (f := fun c ρ h1 => if c = true then mb ρ h1 else .ok (.bl false) h1) h fun c H1 μ1 ρ eh1 hS hH hp => ?_
  cases c with
  | true => exact ⟨μ1, ρ, eh1, hS, hH, hp⟩
  | false => exact hp _ H1 μ1 .refl hH rfl
theorem se_or {ma mb : ME} {rest : List Expr} (ha : SE X W a ma) (hb : SE X W (.BoolOp .Or (b :: rest) pos) mb) : SE X W (.BoolOp .Or (a :: b :: rest) pos) (mOrV ma mb) := by
  refine pe_imp (pe_or ha hb) fun σ H Q h => valB (f := fun c ρ h1 => if c = true then .ok (.bl true) h1 else mb ρ h1) h fun c H1 μ1 ρ eh1 hS hH hp => ?_
  cases c with
  | false => exact ⟨μ1, ρ, eh1, hS, hH, hp⟩
  | true => exact hp _ H1 μ1 .refl hH rfl
theorem se_not {ma : ME} (ha : SE X W a ma) : SE X W (.UnaryOp .Not a pos) (mNotV ma) :=
  pe_imp (pe_not ha) fun σ H Q h => valB (f := fun c _ h1 => .ok (.bl (!c)) h1) h fun c H1 μ1 ρ eh1 hS hH hp => hp _ H1 μ1 .refl hH rfl
theorem se_if {c : Expr} {mc : M Bool} {ma mb : ME} (hc : ST X W c mc) (ha : SE X W a ma) (hb : SE X W b mb) : SE X W (.IfExp c a b pos) (mIf mc ma mb) := by
  refine pe_imp (pe_ifExp hc ha hb) fun σ H Q h => ?_
  refine rdM.bind (f := fun c ρ h1 => if c = true then ma ρ h1 else mb ρ h1) h fun x H1 dx μ1 ρ eh1 hS hH hr hp => ?_
  subst hr
  cases dx with
  | true => exact ⟨μ1, ρ, eh1, hS, hH, hp⟩
  | false => exact ⟨μ1, ρ, eh1, hS, hH, hp⟩
/-! ### chains a < b < c -/
def mChain (f g : F2) (ma mb mc : ME) : ME := fun ρ h => (ma ρ h).bind fun x h1 => (mb ρ h1).bind fun y h2 => ((f x y h2).bind asB).bind fun k h3 => if k = true then (mc ρ h3).bind fun z h4 => g y z h4 else .ok (.bl false) h3
end
end SL
set_option Elab.async false
set_option linter.all false
set_option maxRecDepth 100000
set_option maxHeartbeats 1000000
namespace SL
open PySem PySem.Spec PyProof.Rows L2
section
variable {X : Cx} {W : WX} {e a b c : Expr} {es : List Expr} {pos p2 : Pos}
theorem chain_sim {r r' : R2} {f g : F2} {ma mb mc : ME} (hs : Sim2 X.K r f) (hs' : Sim2 X.K r' g) {σ : L2.St} {H : Hp} {Q : VK} (h : rdE X.K W (mChain f g ma mb mc) σ H Q) : tChain r r' (rdE X.K W ma) (rdE X.K W mb) (rdE X.K W mc) σ H Q := by
  refine rdM.bind (f := fun x ρ h1 => (mb ρ h1).bind fun y h2 => ((f x y h2).bind asB).bind fun k h3 => if k = true then (mc ρ h3).bind fun z h4 => g y z h4 else .ok (.bl false) h3) h fun x H1 dx μ1 ρ eh1 hS hH hr hp => ?_
  refine ⟨μ1, ρ, eh1, hS, hH, (PostG.bind (rel := RelD X.K) (f := fun y h2 => ((f dx y h2).bind asB).bind fun k h3 => if k = true then (mc ρ h3).bind fun z h4 => g y z h4 else .ok (.bl false) h3) hp).mono fun y H2 ⟨dy, μ2, eh2, e2, hH2, hr2, hp2⟩ => ?_⟩
  refine hs W σ H2 μ2 eh2 x y dx dy _ hH2 (hr.mono e2 _ _) hr2 ?_
  refine (PostG.bind (rel := RelD X.K) (rel2 := RelD X.K) (f := fun d h3 => (asB d h3).bind fun k h3 => if k = true then (mc ρ h3).bind fun z h4 => g dy z h4 else .ok (.bl false) h3) (Q := Q) ?_).mono fun z H3 ⟨dz, μ3, eh3, e3, hH3, hr3, hp3⟩ => ?_
  · revert hp2
    cases f dx dy eh2 <;> exact id
  · cases dz with
    | bl k =>
      refine ⟨k, hr3, ?_⟩
      cases k with
      | true =>
        rw [if_pos rfl]
        refine ⟨μ3, ρ, eh3, (hS.mono e2).mono e3, hH3, (PostG.bind (rel := RelD X.K) (f := fun z h4 => g dy z h4) hp3).mono fun w' H4 ⟨dw, μ4, eh4, e4, hH4, hr4, hp4⟩ => ?_⟩
        exact hs' W σ H4 μ4 eh4 y w' dy dw Q hH4 ((hr2.mono e3 _ _).mono e4 _ _) hr4 hp4
      | false =>
        rw [if_neg Bool.false_ne_true]
        exact hp3 _ H3 μ3 .refl hH3 rfl
    | _ => exact hp3.elim
theorem se_chain {op op' : CmpOp} {r r' : R2} {f g : F2} {ma mb mc : ME} (ho : OpR X (compareOp op) r) (ho' : OpR X (compareOp op') r') (hs : Sim2 X.K r f) (hs' : Sim2 X.K r' g) (ha : SE X W a ma) (hb : SE X W b mb) (hc : SE X W c mc)
    (hm : lastMarks [op, op'] [b, c] = false := by with_unfolding_all rfl) : SE X W (.Compare a [op, op'] [b, c] pos) (mChain f g ma mb mc) := pe_imp (pe_chain ho ho' ha hb hc hm) fun _ _ _ h => chain_sim hs hs' h
theorem st_chain {op op' : CmpOp} {r r' : R2} {f g : F2} {ma mb mc : ME} (ho : OpR X (compareOp op) r) (ho' : OpR X (compareOp op') r') (hs : Sim2 X.K r f) (hs' : Sim2 X.K r' g) (ha : SE X W a ma) (hb : SE X W b mb) (hc : SE X W c mc)
    (hm : lastMarks [op, op'] [b, c] = false := by with_unfolding_all rfl) : ST X W (.Compare a [op, op'] [b, c] pos) (mTst (mChain f g ma mb mc)) := pt_imp (pt_chain ho ho' ha hb hc hm) fun _ _ _ h => chain_sim hs hs' (tst_sim h)
/-! ### lists of arguments, displays -/
def mNil : M (List D) := fun _ h => .ok [] h
def mCons (m : ME) (ms : M (List D)) : M (List D) := fun ρ h => (m ρ h).bind fun d h1 => (ms ρ h1).bind fun ds h2 => .ok (d :: ds) h2
theorem sa_nil : SA X W [] mNil := pa_imp pa_nil fun σ H Q ⟨μ, ρ, eh, hS, hH, hp⟩ => hp [] H μ .refl hH rfl
theorem sa_cons {m : ME} {ms : M (List D)} (h1 : SE X W e m) (h2 : SA X W es ms) (hs : starEach (e :: es) X.env = (false, eval e X.env) :: starEach es X.env := by rfl) : SA X W (e :: es) (mCons m ms) := by
  refine pa_imp (pa_cons h1 h2 hs) fun σ H Q h => ?_
  refine rdM.bind (f := fun d ρ h1 => (ms ρ h1).bind fun ds h2 => .ok (d :: ds) h2) h fun x H1 dx μ1 ρ eh1 hS hH hr hp => ?_
  refine ⟨μ1, ρ, eh1, hS, hH, (PostG.bind (rel := RelDs X.K) (f := fun ds h2 => .ok (dx :: ds) h2) hp).mono fun xs H2 ⟨ds, μ2, eh2, e2, hH2, hr2, hp2⟩ => ?_⟩
  exact hp2 _ H2 μ2 .refl hH2 ⟨x, xs, rfl, hr.mono e2 _ _, hr2⟩
def newTup : List D → List O → R D := fun ds h => if ds.length ≤ sizeLine then .ok (.tup ds) h else .bad
def newLst : List D → List O → R D := fun ds h => if ds.length ≤ sizeLine then .ok (.ref h.length) (h ++ [.lst ds]) else .bad
def mTup (ms : M (List D)) : ME := fun ρ h => (ms ρ h).bind newTup
def mLst (ms : M (List D)) : ME := fun ρ h => (ms ρ h).bind newLst
/-- a new tuple, a new list -/
theorem tup_new {K : PySem.W.Frag} {σ : L2.St} {H : Hp} {μ : List Addr} {eh : List O} {xs : List V} {ds : List D} {Q : VK} (hH : RelH K H μ eh) (hr : RelDs K H μ ds xs) (h : PostG K (RelD K) W σ H μ (newTup ds eh) Q) :
    xs.length ≤ sizeLine ∧ ∀ p, H p = none → Q (.ref p) (upd H p (.tup xs)) := by
  unfold newTup at h
  split at h
  · rename_i hl
    refine ⟨by rw [hr.len]; exact hl, fun p hp => ?_⟩
    have e : Ext K H μ (upd H p (.tup xs)) μ := ext_off hp
    exact h _ _ μ e (hH.off hp) ⟨p, xs, rfl, .inl (.inl upd_same), hr.mono e _ _⟩
  · exact h.elim
theorem lst_new {K : PySem.W.Frag} {σ : L2.St} {H : Hp} {μ : List Addr} {eh : List O} {xs : List V} {ds : List D} {Q : VK} (hH : RelH K H μ eh) (hr : RelDs K H μ ds xs) (h : PostG K (RelD K) W σ H μ (newLst ds eh) Q) :
    xs.length ≤ sizeLine ∧ ∀ p, H p = none → Q (.ref p) (upd H p (.lst xs)) := by
  unfold newLst at h
  split at h
  · rename_i hl
    refine ⟨by rw [hr.len]; exact hl, fun p hp => ?_⟩
    have e : Ext K H μ (upd H p (.lst xs)) (μ ++ [p]) := ext_new hp (hH.mem_ne hp)
    refine h _ _ (μ ++ [p]) e (hH.new hp ⟨xs, upd_same, hr.mono e _ _⟩) ⟨p, rfl, ?_⟩
    rw [← hH.len, List.getElem?_append_right (Nat.le_refl _)]
    simp
  · exact h.elim
theorem se_tup {x1} {ms : M (List D)} (h : SA X W es ms) : SE X W (.Tuple es x1 pos) (mTup ms) :=
  pe_imp (pe_tup h) fun σ H Q h => rdM.bind (f := fun ds _ => newTup ds) h fun xs H1 ds μ1 ρ eh1 hS hH hr hp => tup_new hH hr hp
theorem se_lst {ms : M (List D)} (h : SA X W es ms) : SE X W (.List es pos) (mLst ms) :=
  pe_imp (pe_lst h) fun σ H Q h => rdM.bind (f := fun ds _ => newLst ds) h fun xs H1 ds μ1 ρ eh1 hS hH hr hp => lst_new hH hr hp
/-! ### subscripts, slices -/
theorem se_ix {r : R2} {f : F2} {ma mb : ME} (ho : IxR X r) (hs : Sim2 X.K r f) (ha : SE X W a ma) (hb : SE X W b mb) (hp : PlainIx b) : SE X W (.Subscript a b pos) (mOp f ma mb) := pe_imp (pe_ix ho ha hb hp) fun _ _ _ h => op_sim hs h
def mNoPart : M (Option Int) := fun _ h => .ok none h
def asI : D → List O → R (Option Int) := fun d h => match d with
  | .int i => .ok (some i) h
  | _ => .bad
def mPart (m : ME) : M (Option Int) := fun ρ h => (m ρ h).bind asI
theorem so_none : SO X W none mNoPart := po_imp po_none fun σ H Q ⟨μ, ρ, eh, hS, hH, hp⟩ => hp none H μ .refl hH rfl
theorem so_some {m : ME} (h : SE X W e m) : SO X W (some e) (mPart m) :=
  po_imp (po_some h) fun σ H Q h => rdM.bind (f := fun d _ => asI d) h fun x H1 dx μ1 ρ eh1 hS hH hr hp => by
    cases dx with
    | int i => exact ⟨i, hr, hp _ H1 μ1 .refl hH rfl⟩
    | _ => exact hp.elim
abbrev FSl := D → Option Int → Option Int → List O → R D
def SimSl (K : PySem.W.Frag) (r : V → Option Int → Option Int → Hp → VK → Prop) (f : FSl) : Prop := ∀ (W : WX) (σ : L2.St) (H : Hp) (μ : List Addr) (eh : List O) (x : V) (dx : D) (lo hi : Option Int) (Q : VK), RelH K H μ eh → RelD K H μ dx x → PostG K (RelD K) W σ H μ (f dx lo hi eh) Q → r x lo hi H Q
def mSl (f : FSl) (m : ME) (ml mh : M (Option Int)) : ME := fun ρ h => (m ρ h).bind fun d h1 => (ml ρ h1).bind fun l h2 => (mh ρ h2).bind fun u h3 => f d l u h3
theorem se_slice {r : V → Option Int → Option Int → Hp → VK → Prop} {f : FSl} {m : ME} {ml mh : M (Option Int)} {lo hi : Option Expr} (hr : SlR X r) (hs : SimSl X.K r f) (he : SE X W e m) (hl : SO X W lo ml) (hu : SO X W hi mh) : SE X W (.Subscript e (.Slice lo hi none p2) pos) (mSl f m ml mh) := by
  refine pe_imp (pe_slice hr he hl hu) fun σ H Q h => ?_
  refine rdM.bind (f := fun d ρ h1 => (ml ρ h1).bind fun l h2 => (mh ρ h2).bind fun u h3 => f d l u h3) h fun x H1 dx μ1 ρ eh1 hS hH hr hp => ?_
  refine ⟨μ1, ρ, eh1, hS, hH, (PostG.bind (rel := rO) (f := fun l h2 => (mh ρ h2).bind fun u h3 => f dx l u h3) hp).mono fun l H2 ⟨dl, μ2, eh2, e2, hH2, hr2, hp2⟩ => ?_⟩
  subst hr2
  refine ⟨μ2, ρ, eh2, hS.mono e2, hH2, (PostG.bind (rel := rO) (f := fun u h3 => f dx dl u h3) hp2).mono fun u H3 ⟨du, μ3, eh3, e3, hH3, hr3, hp3⟩ => ?_⟩
  subst hr3
  exact hs W σ H3 μ3 eh3 x dx dl du Q hH3 ((hr.mono e2 _ _).mono e3 _ _) hp3
/-! ### calls of built-ins, of their methods -/
def mCB (f : FA) (ms : M (List D)) : ME := fun ρ h => (ms ρ h).bind f
theorem cb_sim {r : List V → Hp → VK → Prop} {f : FA} {ms : M (List D)} (hs : SimL X.K r f) {σ : L2.St} {H : Hp} {Q : VK} (h : rdE X.K W (mCB f ms) σ H Q) : tCB r (rdA X.K W ms) σ H Q :=
  rdM.bind (f := fun ds _ => f ds) h fun xs H1 ds μ1 ρ eh1 hS hH hr hp => hs W σ H1 μ1 eh1 xs ds Q hH hr hp
theorem se_callB {x : Str} {id : String} {p : Pos} {r : List V → Hp → VK → Prop} {f : FA} {ms : M (List D)} (hc : CallR X (.builtin id) r) (hs : SimL X.K r f) (hg : Gl X x) (hm : X.mg x = none) (hv : bootBuiltins x = some (.builtin id)) (ha : SA X W (e :: es) ms)
    (he : starEach (e :: es) X.env = (false, eval e X.env) :: starEach es X.env := by rfl) (hpl : (backTo pos (starEach es X.env)).any (·.1) = false := by rfl)
    (hn : x ≠ "__name__" := by decide) (hdb : (x == ("__debug__" : Str)) = false := by decide) : SE X W (.Call (.Name x p) (e :: es) [] pos) (mCB f ms) := pe_imp (pe_callB hc hg hm hv ha hn hdb he hpl) fun _ _ _ h => cb_sim hs h
theorem se_callTy {x : Str} {T : String} {p : Pos} {r : List V → Hp → VK → Prop} {f : FA} {ms : M (List D)} (hc : CallR X (.type T) r) (hs : SimL X.K r f) (hg : Gl X x) (hm : X.mg x = none) (hv : bootBuiltins x = some (.type T)) (ha : SA X W (e :: es) ms)
    (he : starEach (e :: es) X.env = (false, eval e X.env) :: starEach es X.env := by rfl) (hpl : (backTo pos (starEach es X.env)).any (·.1) = false := by rfl)
    (hn : x ≠ "__name__" := by decide) (hdb : (x == ("__debug__" : Str)) = false := by decide) : SE X W (.Call (.Name x p) (e :: es) [] pos) (mCB f ms) := pe_imp (pe_callTy hc hg hm hv ha hn hdb he hpl) fun _ _ _ h => cb_sim hs h
end
end SL
set_option Elab.async false
set_option linter.all false
set_option maxRecDepth 100000
set_option maxHeartbeats 1000000
namespace SL
open PySem PySem.Spec PyProof.Rows L2
section
variable {X : Cx} {W : WX} {e o : Expr} {es : List Expr} {pos apos p : Pos}
/-! ### methods of built-in types -/
def mMt (ty : D → List O → Bool) (f : D → FA) (m : ME) (ms : M (List D)) : ME := fun ρ h => (m ρ h).bind fun d h1 => if ty d h1 = true then (ms ρ h1).bind fun ds h2 => f d ds h2 else .bad
def TySim (K : PySem.W.Frag) (T : String) (ty : D → List O → Bool) : Prop := ∀ (H : Hp) (μ : List Addr) (eh : List O) (x : V) (d : D), RelH K H μ eh → RelD K H μ d x → ty d eh = true → tyV K T x H
def SimMt (K : PySem.W.Frag) (r : V → List V → Hp → VK → Prop) (f : D → FA) : Prop := ∀ (W : WX) (σ : L2.St) (H : Hp) (μ : List Addr) (eh : List O) (x : V) (d : D) (xs : List V) (ds : List D) (Q : VK), RelH K H μ eh → RelD K H μ d x → RelDs K H μ ds xs → PostG K (RelD K) W σ H μ (f d ds eh) Q → r x xs H Q
theorem mt_sim {T : String} {ty : D → List O → Bool} {r : V → List V → Hp → VK → Prop} {f : D → FA} {m : ME} {ms : M (List D)} (ht : TySim X.K T ty) (hs : SimMt X.K r f) {σ : L2.St} {H : Hp} {Q : VK} (h : rdE X.K W (mMt ty f m ms) σ H Q) :
    tBM X.K T r (rdE X.K W m) (rdA X.K W ms) σ H Q := by
  refine rdM.bind (f := fun d ρ h1 => if ty d h1 = true then (ms ρ h1).bind fun ds h2 => f d ds h2 else .bad) h fun x H1 dx μ1 ρ eh1 hS hH hr hp => ?_
  split at hp
  · rename_i ht1
    refine ⟨ht H1 μ1 eh1 x dx hH hr ht1, μ1, ρ, eh1, hS, hH, (PostG.bind (rel := RelDs X.K) (f := fun ds h2 => f dx ds h2) hp).mono fun xs H2 ⟨ds, μ2, eh2, e2, hH2, hr2, hp2⟩ => ?_⟩
    exact hs W σ H2 μ2 eh2 x dx xs ds Q hH2 (hr.mono e2 _ _) hr2 hp2
  · exact hp.elim
theorem se_bm {name : Str} {T id : String} {ty : D → List O → Bool} {r : V → List V → Hp → VK → Prop} {f : D → FA} {m : ME} {ms : M (List D)} (pa : PlainAttrs T) (slot : Slot T name id) (hty : typeOf (.builtin id) = pure (.type "method_descriptor")) (hm : MtR X id r) (ht : TySim X.K T ty) (hs : SimMt X.K r f)
    (ho : SE X W o m) (ha : SA X W (e :: es) ms) (hbase : attributeBase o name X.env (eval o X.env) = eval o X.env := by rfl)
    (hfew : ((backTo pos (starEach (e :: es) X.env)).all (fun x => !x.1) && (backToKw pos (keywordEach [] X.env)).all (fun x => x.1.isSome) && decide ((e :: es).length + ([] : List Keyword).length + (if ([] : List Keyword).isEmpty then 0 else 1) < 30)) = true := by rfl)
    (hline : (apos.endLine == pos.line) = true := by rfl) (hst : starEach (e :: es) X.env = (false, eval e X.env) :: starEach es X.env := by rfl) (hplain : (backTo pos (starEach es X.env)).any (·.1) = false := by rfl) :
    SE X W (.Call (.Attribute o name apos) (e :: es) [] pos) (mMt ty f m ms) := pe_imp (pe_bm pa slot hty hm ho ha hbase hfew hline hst hplain) fun _ _ _ h => mt_sim ht hs h
theorem se_bm0 {name : Str} {T id : String} {ty : D → List O → Bool} {r : V → List V → Hp → VK → Prop} {f : D → FA} {m : ME} (pa : PlainAttrs T) (slot : Slot T name id) (hty : typeOf (.builtin id) = pure (.type "method_descriptor")) (hm : MtR X id r) (ht : TySim X.K T ty) (hs : SimMt X.K r f)
    (ho : SE X W o m) (hbase : attributeBase o name X.env (eval o X.env) = eval o X.env := by rfl) (hline : (apos.endLine == pos.line) = true := by rfl) :
    SE X W (.Call (.Attribute o name apos) [] [] pos) (mMt ty f m mNil) := by
  refine pe_imp (pe_bm0 pa slot hty hm ho hbase hline) fun σ H Q h => ?_
  refine rdM.bind (f := fun d ρ h1 => if ty d h1 = true then (mNil ρ h1).bind fun ds h2 => f d ds h2 else .bad) h fun x H1 dx μ1 ρ eh1 hS hH hr hp => ?_
  split at hp
  · rename_i ht1
    exact ⟨ht H1 μ1 eh1 x dx hH hr ht1, hs W σ H1 μ1 eh1 x dx [] [] Q hH hr rfl hp⟩
  · exact hp.elim
/-! ### fields -/
def mFld (c f : Str) (m : ME) : ME := fun ρ h => (m ρ h).bind fun d h1 => match d with
  | .ref n => (match h1[n]? with
    | some (.ins c' fs) => if c' = c then (match fs.lookup f with
      | some v => .ok v h1
      | none => .bad) else .bad
    | _ => .bad)
  | _ => .bad
theorem RelF.lookup {K : PySem.W.Frag} {H : Hp} {μ : List Addr} {f : Str} {d : D} : ∀ {fs : List (Str × D)} {fv : List (Str × V)}, RelF K H μ fs fv → fs.lookup f = some d → ∃ v, fv.lookup f = some v ∧ RelD K H μ d v
  | [], _, _, e => by cases e
  | q :: qs, fv, h, e => by
    obtain ⟨v, r, h1, h2, h3⟩ := h
    subst h1
    rw [List.lookup_cons] at e ⊢
    cases k : (f == q.1) with
    | true =>
      rw [k] at e
      cases e
      exact ⟨v, rfl, h2⟩
    | false =>
      rw [k] at e
      exact RelF.lookup h3 e
theorem RelF.lookup_none {K : PySem.W.Frag} {H : Hp} {μ : List Addr} {f : Str} : ∀ {fs : List (Str × D)} {fv : List (Str × V)}, RelF K H μ fs fv → fs.lookup f = none → fv.lookup f = none
  | [], fv, h, _ => by rw [show fv = [] from h]; rfl
  | q :: qs, fv, h, e => by
    obtain ⟨v, r, h1, h2, h3⟩ := h
    subst h1
    rw [List.lookup_cons] at e ⊢
    cases k : (f == q.1) with
    | true =>
      rw [k] at e
      cases e
    | false =>
      rw [k] at e
      exact RelF.lookup_none h3 e
theorem se_fld {c f : Str} {m : ME} (hc : Cls X.K (He.ga X.K c)) (hn : NoAttr X.K (He.ga X.K c) f) (ho : SE X W o m) (hb : attributeBase o f X.env (eval o X.env) = eval o X.env := by rfl) : SE X W (.Attribute o f pos) (mFld c f m) := by
  refine pe_imp (pe_fld ho hb) fun σ H Q h => ?_
  refine rdM.bind (f := fun d ρ h1 => match d with
    | .ref n => (match h1[n]? with
      | some (.ins c' fs) => if c' = c then (match fs.lookup f with
        | some v => .ok v h1
        | none => .bad) else .bad
      | _ => .bad)
    | _ => .bad) h fun x H1 dx μ1 ρ eh1 hS hH hr hp => ?_
  cases dx with
  | ref n =>
    dsimp only at hp
    split at hp
    · rename_i c' fs e
      split at hp
      · rename_i ec
        subst ec
        split at hp
        · rename_i d el
          obtain ⟨a, ha, hm⟩ := hr
          obtain ⟨a', ha', dx, fv, hH1, hf⟩ := hH.get e
          have ea : a' = a := Option.some.inj (ha'.symm.trans hm)
          subst ea
          obtain ⟨v, hv, rv⟩ := hf.lookup el
          exact ⟨a', _, dx, fv, v, ha, hH1, hc, hn, hv, hp v H1 μ1 .refl hH rv⟩
        · exact hp.elim
      · exact hp.elim
    · exact hp.elim
  | _ => exact hp.elim
/-! ### calls of own defs -/
/-- what a def promises: F over data -/
def spOf (K : PySem.W.Frag) (n : Nat) (F : FA) : Sp := fun vs H Q E => ∃ (μ : List Addr) (eh : List O) (ds : List D), RelH K H μ eh ∧ RelDs K H μ ds vs ∧ ds.length = n ∧ PostG K (RelD K) (fun c d _ H => E c d H) [] H μ (F ds eh) Q
theorem spOf.len {K : PySem.W.Frag} {n : Nat} {F : FA} {vs : List V} {H : Hp} {Q : VK} {E : XK} (h : spOf K n F vs H Q E) : vs.length = n := by
  obtain ⟨μ, eh, ds, _, h1, h2, _⟩ := h
  rw [h1.len, h2]
def mCall (n : Nat) (F : FA) (ms : M (List D)) : ME := fun ρ h => (ms ρ h).bind fun ds h1 => if ds.length = n then F ds h1 else .bad
theorem post_E {K : PySem.W.Frag} {σ σ' : L2.St} {H : Hp} {μ : List Addr} {r : R D} {Q : VK} (h : PostG K (RelD K) W σ H μ r Q) : PostG K (RelD K) (fun c d _ H => WE W σ c d H) σ' H μ r Q := by
  cases r with
  | ok a eh => exact h
  | exc c eh => exact h
  | bad => exact h
theorem se_call {k n : Nat} {f : Addr} {fd : FuncData} {ps : List Str} {F : FA} {x : Str} {ms : M (List D)} (G : FnOk X.prog X.w X.K X.mg X.base (L2.CX X.prog X.w) k f fd ps (spOf X.K n F)) (tk : Takes X W) (hr : Room k X.A) (hg : Gl X x) (hm : X.mg x = some (.ref f)) (hk : PySem.W.keepIn X.K (.ref f) = true)
    (hb : Binds X.K fd ps []) (ha : SA X W (e :: es) ms) (hdb : (x == ("__debug__" : Str)) = false := by decide) (he : starEach (e :: es) X.env = (false, eval e X.env) :: starEach es X.env := by rfl) (hpl : (backTo pos (starEach es X.env)).any (·.1) = false := by rfl) :
    SE X W (.Call (.Name x p) (e :: es) [] pos) (mCall n F ms) := by
  refine pe_imp (pe_callS (E := WE W) G hr hg hm hk hb (fun σ => passAt tk σ) ha hdb he hpl) fun σ H Q h => ?_
  refine rdM.bind (f := fun ds _ h1 => if ds.length = n then F ds h1 else .bad) h fun xs H1 ds μ1 ρ eh1 hS hH hr hp => ?_
  split at hp
  · rename_i hl
    exact ⟨μ1, eh1, ds, hH, hr, hl, post_E hp⟩
  · exact hp.elim
end
/-! ### defs that give no reference out and take none: over the empty heap -/
mutual
def D.flat : D → Bool
  | .ref _ => false
  | .tup ds => D.flats ds
  | .frl ds => D.flats ds
  | _ => true
def D.flats : List D → Bool
  | [] => true
  | d :: ds => d.flat && D.flats ds
end
section
variable {K : PySem.W.Frag} {H : Hp} {μ μ' : List Addr}
mutual
theorem RelD.any : ∀ (d : D) (v : V), d.flat = true → RelD K H μ d v → RelD K H μ' d v
  | .non, _, _, h => h
  | .bl _, _, _, h => h
  | .int _, _, _, h => h
  | .str _, _, _, h => h
  | .ty _, _, _, h => h
  | .ref _, _, f, _ => by cases f
  | .tup ds, v, f, h => by
    obtain ⟨a, vs, h1, h2, h3⟩ := h
    exact ⟨a, vs, h1, h2, RelDs.any ds vs f h3⟩
  | .frl ds, v, f, h => by
    obtain ⟨a, vs, h1, h2, h3⟩ := h
    exact ⟨a, vs, h1, h2, RelDs.any ds vs f h3⟩
theorem RelDs.any : ∀ (ds : List D) (vs : List V), D.flats ds = true → RelDs K H μ ds vs → RelDs K H μ' ds vs
  | [], _, _, h => h
  | d :: ds, vs, f, h => by
    obtain ⟨v, r, h1, h2, h3⟩ := h
    have f' := Bool.and_eq_true_iff.mp (show (d.flat && D.flats ds) = true from f)
    exact ⟨v, r, h1, RelD.any d v f'.1 h2, RelDs.any ds r f'.2 h3⟩
end
end
def pureOf (F : FA) : FA := fun ds h => if D.flats ds = true then (match F ds [] with
  | .ok d _ => if d.flat = true then .ok d h else .bad
  | .exc c _ => .exc c h
  | .bad => .bad) else .bad
theorem pure_sp {K : PySem.W.Frag} {n : Nat} {F : FA} {vs : List V} {H : Hp} {Q : VK} {E : XK} (h : spOf K n (pureOf F) vs H Q E) : spOf K n F vs H Q E := by
  obtain ⟨μ, eh, ds, hH, hr, hl, hp⟩ := h
  unfold pureOf at hp
  split at hp
  · rename_i fl
    have same : ∀ {H' : Hp} {μ' : List Addr}, Ext K H [] H' μ' → Ext K H μ H' μ ∧ RelH K H' μ eh := fun {H' μ'} e => by
      have e1 : Ext K H μ H' μ := ⟨⟨[], by simp, by simp⟩, fun a o h1 _ => e.fr a o h1 (by simp), e.tp, e.tf⟩
      refine ⟨e1, hH.mono e1 fun a ha => ?_⟩
      obtain ⟨i, hi, ei⟩ := List.mem_iff_getElem.mp ha
      have he : i < eh.length := by rw [← hH.len]; exact hi
      have q := hH.obj i a eh[i] (by rw [List.getElem?_eq_getElem hi, ei]) (List.getElem?_eq_getElem he)
      have tr : ∃ u, H a = some u := by
        generalize eh[i] = o at q
        cases o with
        | lst ds => obtain ⟨vs, h1, _⟩ := q; exact ⟨_, h1⟩
        | ins c fs => obtain ⟨dx, fv, h1, _⟩ := q; exact ⟨_, h1⟩
      obtain ⟨u, hu⟩ := tr
      rw [e.fr a u hu (by simp), hu]
    refine ⟨[], [], ds, ⟨rfl, .nil, fun i a o h1 => by simp at h1⟩, RelDs.any _ _ fl hr, hl, ?_⟩
    revert hp
    cases F ds [] with
    | bad => exact id
    | exc c eh' =>
      intro hp H' μ' e hH'
      obtain ⟨e1, hm⟩ := same e
      exact hp H' μ e1 hm
    | ok d eh' =>
      intro hp v H' μ' e hH' hr'
      dsimp only at hp
      split at hp
      · rename_i fd
        obtain ⟨e1, hm⟩ := same e
        exact hp v H' μ e1 hm (RelD.any _ _ fd hr')
      · exact hp.elim
  · exact hp.elim
end SL
set_option Elab.async false
set_option linter.all false
set_option maxRecDepth 100000
set_option maxHeartbeats 1000000
namespace SL
open PySem PySem.Spec PyProof.Rows L2
/-! ### statements -/
section
variable (K : PySem.W.Frag) (W : WX) (E : Ends) (H : Hp) (μ : List Addr)
def PostS : RS → Prop
  | .nx ρ eh => ∀ (σ' : L2.St) (H' : Hp) (μ' : List Addr), Ext K H μ H' μ' → RelH K H' μ' eh → RelS K H' μ' ρ σ' → E.nx σ' H'
  | .bk ρ eh => ∀ (σ' : L2.St) (H' : Hp) (μ' : List Addr), Ext K H μ H' μ' → RelH K H' μ' eh → RelS K H' μ' ρ σ' → E.bk σ' H'
  | .ct ρ eh => ∀ (σ' : L2.St) (H' : Hp) (μ' : List Addr), Ext K H μ H' μ' → RelH K H' μ' eh → RelS K H' μ' ρ σ' → E.ct σ' H'
  | .rt d eh => ∀ (v : V) (H' : Hp) (μ' : List Addr), Ext K H μ H' μ' → RelH K H' μ' eh → RelD K H' μ' d v → E.rt v H'
  | .exc c ρ eh => ∀ (σ' : L2.St) (H' : Hp) (μ' : List Addr), Ext K H μ H' μ' → RelH K H' μ' eh → RelS K H' μ' ρ σ' → W (.ref (He.ga K c)) none σ' H'
  | .bad => False
end
def rdS (K : PySem.W.Frag) (W : WX) (m : MS) : TS := fun E σ H => ∃ (μ : List Addr) (ρ : Sl) (eh : List O), RelS K H μ ρ σ ∧ RelH K H μ eh ∧ PostS K W E H μ (m ρ eh)
abbrev SS (X : Cx) (W : WX) (st : Stmt) (m : MS) : Prop := PS X st (rdS X.K W m)
abbrev SSs (X : Cx) (W : WX) (st : List Stmt) (m : MS) : Prop := PSs X st (rdS X.K W m)
def RS.seq (x : RS) (f : Sl → List O → RS) : RS := match x with
  | .nx ρ h => f ρ h
  | x => x
section
variable {K : PySem.W.Frag} {W : WX} {E : Ends} {H H1 : Hp} {μ μ1 : List Addr}
theorem PostS.ext {x : RS} (e : Ext K H μ H1 μ1) (h : PostS K W E H μ x) : PostS K W E H1 μ1 x := by
  cases x with
  | bad => exact h
  | rt d eh => exact fun v H2 μ2 e2 hH hr => h v H2 μ2 (e.trans e2) hH hr
  | nx ρ eh => exact fun v H2 μ2 e2 hH hr => h v H2 μ2 (e.trans e2) hH hr
  | bk ρ eh => exact fun v H2 μ2 e2 hH hr => h v H2 μ2 (e.trans e2) hH hr
  | ct ρ eh => exact fun v H2 μ2 e2 hH hr => h v H2 μ2 (e.trans e2) hH hr
  | exc c ρ eh => exact fun v H2 μ2 e2 hH hr => h v H2 μ2 (e.trans e2) hH hr
theorem PostS.seq {x : RS} {f : Sl → List O → RS} (h : PostS K W E H μ (x.seq f)) :
    PostS K W { E with nx := fun σ1 H1 => ∃ ρ μ1 eh1, Ext K H μ H1 μ1 ∧ RelH K H1 μ1 eh1 ∧ RelS K H1 μ1 ρ σ1 ∧ PostS K W E H1 μ1 (f ρ eh1) } H μ x := by
  cases x with
  | nx ρ eh => exact fun σ1 H1 μ1 e hH hr => ⟨ρ, μ1, eh, e, hH, hr, PostS.ext e h⟩
  | bad => exact h
  | rt d eh => exact h
  | bk ρ eh => exact h
  | ct ρ eh => exact h
  | exc c ρ eh => exact h
theorem PostS.nxm {N N' : L2.St → Hp → Prop} {x : RS} (h : PostS K W { E with nx := N } H μ x) (hn : ∀ σ H, N σ H → N' σ H) : PostS K W { E with nx := N' } H μ x := by
  cases x with
  | nx ρ eh => exact fun σ1 H1 μ1 e hH hr => hn _ _ (h σ1 H1 μ1 e hH hr)
  | bad => exact h
  | rt d eh => exact h
  | bk ρ eh => exact h
  | ct ρ eh => exact h
  | exc c ρ eh => exact h
/-- an expression ahead -/
theorem PostS.thn {α β : Type} {rel : Hp → List Addr → α → β → Prop} {σ : L2.St} {r : R α} {ρ : Sl} {f : α → List O → RS} (hS : RelS K H μ ρ σ) (h : PostS K W E H μ (r.thn ρ f)) :
    PostG K rel W σ H μ r (fun b H1 => ∃ a μ1 eh1, Ext K H μ H1 μ1 ∧ RelH K H1 μ1 eh1 ∧ rel H1 μ1 a b ∧ PostS K W E H1 μ1 (f a eh1)) := by
  cases r with
  | bad => exact h
  | exc c eh => exact fun H1 μ1 e hH => h σ H1 μ1 e hH (hS.mono e)
  | ok a eh => exact fun b H1 μ1 e hH hr => ⟨a, μ1, eh, e, hH, hr, PostS.ext e h⟩
end
section
variable {X : Cx} {W : WX} {e a b : Expr} {st : Stmt} {rest : List Stmt} {pos p2 : Pos}
theorem ps_imp {t t' : TS} (h : PS X st t) (hi : ∀ E σ H, t' E σ H → t E σ H) : PS X st t' := ⟨fun pins s σ H D I q => h.run pins s σ H D I (hi _ _ _ q)⟩
theorem pss_imp {t t' : TS} (h : PSs X rest t) (hi : ∀ E σ H, t' E σ H → t E σ H) : PSs X rest t' := ⟨fun pins s σ H D I q => h.run pins s σ H D I (hi _ _ _ q)⟩
def sNext : MS := fun ρ h => .nx ρ h
def sSeq (m n : MS) : MS := fun ρ h => (m ρ h).seq n
theorem ss_nil : SSs X W [] sNext := pss_imp pss_nil fun E σ H ⟨μ, ρ, eh, hS, hH, hp⟩ => hp σ H μ .refl hH hS
theorem ss_cons {m n : MS} (h1 : SS X W st m) (h2 : SSs X W rest n) : SSs X W (st :: rest) (sSeq m n) := by
  refine pss_imp (pss_cons h1 h2) fun E σ H ⟨μ, ρ, eh, hS, hH, hp⟩ => ⟨μ, ρ, eh, hS, hH, ?_⟩
  exact (PostS.seq (x := m ρ eh) hp).nxm fun σ1 H1 ⟨ρ2, μ2, eh2, _, hH2, hr2, hp2⟩ => ⟨μ2, ρ2, eh2, hr2, hH2, hp2⟩
theorem ss_one {m : MS} (h : SS X W st m) : SSs X W [st] m := pss_one h
theorem ss_pass : SS X W (.Pass pos) sNext := ps_imp ps_pass fun E σ H ⟨μ, ρ, eh, hS, hH, hp⟩ => hp σ H μ .refl hH hS
def sBreak : MS := fun ρ h => .bk ρ h
def sCont : MS := fun ρ h => .ct ρ h
theorem ss_break : SS X W (.Break pos) sBreak := ps_imp ps_break fun E σ H ⟨μ, ρ, eh, hS, hH, hp⟩ => hp σ H μ .refl hH hS
theorem ss_cont : SS X W (.Continue pos) sCont := ps_imp ps_continue fun E σ H ⟨μ, ρ, eh, hS, hH, hp⟩ => hp σ H μ .refl hH hS
theorem thnS {α β : Type} {rel : Hp → List Addr → α → β → Prop} {m : M α} {f : α → Sl → List O → RS} {E : Ends} {σ : L2.St} {H : Hp} {Q : β → Hp → Prop} (h : rdS X.K W (fun ρ h => (m ρ h).thn ρ fun a h1 => f a ρ h1) E σ H)
    (hq : ∀ b H1 a μ1 ρ eh1, RelS X.K H1 μ1 ρ σ → RelH X.K H1 μ1 eh1 → rel H1 μ1 a b → PostS X.K W E H1 μ1 (f a ρ eh1) → Q b H1) : rdM X.K rel W σ m H Q := by
  obtain ⟨μ, ρ, eh, hS, hH, hp⟩ := h
  refine ⟨μ, ρ, eh, hS, hH, (PostS.thn (rel := rel) hS hp).mono fun b H1 ⟨a, μ1, eh1, e, hH1, hr, hp1⟩ => ?_⟩
  exact hq b H1 a μ1 ρ eh1 (hS.mono e) hH1 hr hp1
def sExpr (m : ME) : MS := fun ρ h => (m ρ h).thn ρ fun _ h1 => .nx ρ h1
def sRet (m : ME) : MS := fun ρ h => (m ρ h).thn ρ fun d h1 => .rt d h1
def sRetN : MS := fun _ h => .rt .non h
def sIf (c : M Bool) (m n : MS) : MS := fun ρ h => (c ρ h).thn ρ fun b h1 => if b = true then m ρ h1 else n ρ h1
theorem ss_expr {m : ME} (he : SE X W e m) (hs : swapsWith e none pos.line X.env = pure false := by rfl) : SS X W (.Expr e pos) (sExpr m) :=
  ps_imp (ps_expr he hs) fun E σ H h => thnS (f := fun _ ρ h1 => .nx ρ h1) h fun b H1 a μ1 ρ eh1 hS hH hr hp => hp σ H1 μ1 .refl hH hS
theorem ss_doc {x j} : SS X W (.Expr (.Constant (.str x) j p2) pos) sNext := ps_imp ps_doc fun E σ H ⟨μ, ρ, eh, hS, hH, hp⟩ => hp σ H μ .refl hH hS
theorem ss_ret {m : ME} (he : SE X W e m) : SS X W (.Return (some e) pos) (sRet m) :=
  ps_imp (ps_ret he) fun E σ H h => thnS (f := fun d ρ h1 => .rt d h1) h fun b H1 a μ1 ρ eh1 hS hH hr hp => hp b H1 μ1 .refl hH hr
theorem ss_retN : SS X W (.Return none pos) sRetN := ps_imp ps_retN fun E σ H ⟨μ, ρ, eh, hS, hH, hp⟩ => hp .non H μ .refl hH rfl
theorem ss_if {c : Expr} {as bs : List Stmt} {mc : M Bool} {m n : MS} (hc : ST X W c mc) (ha : SSs X W as m) (hb : SSs X W bs n) : SS X W (.If c as bs pos) (sIf mc m n) := by
  refine ps_imp (ps_if hc ha hb) fun E σ H h => thnS (f := fun b ρ h1 => if b = true then m ρ h1 else n ρ h1) h fun b H1 a μ1 ρ eh1 hS hH hr hp => ?_
  subst hr
  cases a with
  | true => exact ⟨μ1, ρ, eh1, hS, hH, hp⟩
  | false => exact ⟨μ1, ρ, eh1, hS, hH, hp⟩
/-! ### targets -/
/-- a target: the slots behind; its own slots -/
abbrev GT := D → Sl → List O → R Sl
def rdG (K : PySem.W.Frag) (W : WX) (is : List Nat) (g : GT) : TG := fun v σ H Q => ∃ (μ : List Addr) (ρ : Sl) (eh : List O) (d : D), RelS K H μ ρ σ ∧ RelH K H μ eh ∧ RelD K H μ d v ∧ (match g d ρ eh with
  | .ok ρ' eh' => ∀ (σ' : L2.St) (H' : Hp) (μ' : List Addr), Ext K H μ H' μ' → RelH K H' μ' eh' → RelS K H' μ' ρ' σ' → (∀ vs : List Nat, (∀ i ∈ is, i ∈ vs) → wipe σ' vs = wipe σ vs) → Q σ' H'
  | .exc c eh' => ∀ (H' : Hp) (μ' : List Addr), Ext K H μ H' μ' → RelH K H' μ' eh' → W (.ref (He.ga K c)) none σ H'
  | .bad => False)
abbrev SG (X : Cx) (W : WX) (tg : Expr) (is : List Nat) (g : GT) : Prop := PG X tg (rdG X.K W is g)
theorem pg_imp {t t' : TG} (h : PG X e t) (hi : ∀ v σ H Q, t' v σ H Q → t v σ H Q) : PG X e t' := ⟨fun pins s σ H v u Q I r q => h.run pins s σ H v u Q I r (hi _ _ _ _ q)⟩
def gtName (i : Nat) : GT := fun d ρ h => .ok (ρ.set i (some d)) h
theorem wipe_set (σ : L2.St) (i : Nat) (o : Option V) : ∀ vs : List Nat, i ∈ vs → wipe (σ.set i o) vs = wipe σ vs
  | [], h => by cases h
  | v :: vs, h => by
    unfold wipe
    by_cases e : i ∈ vs
    · rw [wipe_set σ i o vs e]
    · have ev : v = i := by
        rcases List.mem_cons.mp h with h | h
        · exact h.symm
        · exact absurd h e
      subst ev
      have comm : ∀ us : List Nat, v ∉ us → wipe (σ.set v o) us = (wipe σ us).set v o := by
        intro us
        induction us with
        | nil => intro _; rfl
        | cons u us ih =>
          intro hu
          show (wipe (σ.set v o) us).set u none = ((wipe σ us).set u none).set v o
          rw [ih (fun z => hu (List.mem_cons_of_mem _ z))]
          exact List.set_comm _ _ (fun z => hu (by rw [z]; exact List.mem_cons_self))
      rw [comm vs e, List.set_set]
theorem sg_name {i : Nat} {x : Str} (hN : X.N.Nodup) (hi : X.N[i]? = some x := by rfl) (hx : Loc X.env.scope x := by first | exact Or.inl rfl | exact Or.inr rfl) (hf : X.fn x = true ∨ X.env.scope.names.lookup x = some .local := by first | exact .inl rfl | exact .inr rfl | assumption) : SG X W (.Name x pos) [i] (gtName i) :=
  pg_imp (pg_name hN hi hx hf) fun v σ H Q ⟨μ, ρ, eh, d, hS, hH, hr, hp⟩ => hp _ H μ .refl hH (hS.set i hr) fun vs hv => wipe_set σ i _ vs (hv i (by simp))
/-- the parts of a tuple's target -/
abbrev GTs := List D → Sl → List O → R Sl
def rdGs (K : PySem.W.Frag) (W : WX) (is : List Nat) (g : GTs) : TGs := fun vs σ H Q => ∃ (μ : List Addr) (ρ : Sl) (eh : List O) (ds : List D), RelS K H μ ρ σ ∧ RelH K H μ eh ∧ RelDs K H μ ds vs ∧ (match g ds ρ eh with
  | .ok ρ' eh' => ∀ (σ' : L2.St) (H' : Hp) (μ' : List Addr), Ext K H μ H' μ' → RelH K H' μ' eh' → RelS K H' μ' ρ' σ' → (∀ vs : List Nat, (∀ i ∈ is, i ∈ vs) → wipe σ' vs = wipe σ vs) → Q σ' H'
  | .exc c eh' => ∀ (H' : Hp) (μ' : List Addr), Ext K H μ H' μ' → RelH K H' μ' eh' → W (.ref (He.ga K c)) none σ H'
  | .bad => False)
abbrev SGs (X : Cx) (W : WX) (tgs : List Expr) (is : List Nat) (g : GTs) : Prop := PGs X tgs (rdGs X.K W is g)
theorem pgs_imp {es : List Expr} {t t' : TGs} (h : PGs X es t) (hi : ∀ v σ H Q, t' v σ H Q → t v σ H Q) : PGs X es t' := ⟨fun pins s σ H v u Q I r q => h.run pins s σ H v u Q I r (hi _ _ _ _ q)⟩
def gtNil : GTs := fun ds ρ h => match ds with
  | [] => .ok ρ h
  | _ => .bad
/-- only name targets or tuples of them stand in a tuple's target: the first one lets no exception out -/
def gtCons (g : GT) (gs : GTs) : GTs := fun ds ρ h => match ds with
  | d :: r => (match g d ρ h with
    | .ok ρ1 h1 => gs r ρ1 h1
    | _ => .bad)
  | [] => .bad
theorem sgs_nil : SGs X W [] [] gtNil := by
  refine pgs_imp pgs_nil fun vs σ H Q ⟨μ, ρ, eh, ds, hS, hH, hr, hp⟩ => ?_
  cases ds with
  | nil => exact ⟨hr, hp σ H μ .refl hH hS fun _ _ => rfl⟩
  | cons d r => exact hp.elim
theorem sgs_cons {es : List Expr} {is js : List Nat} {g : GT} {gs : GTs} (h1 : SG X W e is g) (h2 : SGs X (fun _ _ _ _ => False) es js gs) (hs : (assignEach (e :: es) X.env).map (·.2) = assign e X.env :: (assignEach es X.env).map (·.2) := by rfl) : SGs X (fun _ _ _ _ => False) (e :: es) (is ++ js) (gtCons g gs) := by
  refine pgs_imp (pgs_cons h1 h2 hs) fun vs σ H Q ⟨μ, ρ, eh, ds, hS, hH, hr, hp⟩ => ?_
  cases ds with
  | nil => exact hp.elim
  | cons d r =>
    obtain ⟨v, vr, ev, r1, r2⟩ := hr
    refine ⟨v, vr, ev, μ, ρ, eh, d, hS, hH, r1, ?_⟩
    revert hp
    show (match (match g d ρ eh with
      | .ok ρ1 h1 => gs r ρ1 h1
      | _ => .bad : R Sl) with | .ok ρ' eh' => _ | .exc c eh' => _ | .bad => _) → _
    cases g d ρ eh with
    | bad => exact fun z => z.elim
    | exc c h => exact fun z => z.elim
    | ok ρ1 eh1 =>
      intro hp σ1 H1 μ1 e1 hH1 hS1 hw1
      refine ⟨μ1, ρ1, eh1, r, hS1, hH1, r2.mono e1 _ _, ?_⟩
      revert hp
      dsimp only
      cases gs r ρ1 eh1 with
      | bad => exact fun z => z.elim
      | exc c h => exact fun hp H2 μ2 e2 hH2 => hp H2 μ2 (e1.trans e2) hH2
      | ok ρ2 eh2 => exact fun hp σ2 H2 μ2 e2 hH2 hS2 hw2 => hp σ2 H2 μ2 (e1.trans e2) hH2 hS2 fun us hu => (hw2 us fun i hi => hu i (List.mem_append_right _ hi)).trans (hw1 us fun i hi => hu i (List.mem_append_left _ hi))
end
end SL
set_option Elab.async false
set_option linter.all false
set_option maxRecDepth 100000
set_option maxHeartbeats 1000000
namespace SL
open PySem PySem.Spec PyProof.Rows L2
section
variable {X : Cx} {W : WX} {e a b o : Expr} {st : Stmt} {rest : List Stmt} {pos p2 : Pos}
theorem pi_imp {tg it : Expr} {t t' : TI} (h : PI X tg it t) (hi : ∀ σ H Q, t' σ H Q → t σ H Q) : PI X tg it t' := ⟨fun pins s σ H R I q => h.run pins s σ H R I (hi _ _ _ q)⟩
/-! ### tuples' targets, places -/
def gtTup (g : GTs) : GT := fun d ρ h => match d with
  | .tup ds => (match g ds ρ h with
    | .ok ρ1 h1 => .ok ρ1 h1
    | _ => .bad)
  | _ => .bad
def gtLen (n : Nat) (g : GTs) : GTs := fun ds ρ h => if ds.length = n then g ds ρ h else .bad
theorem sg_tup {es : List Expr} {k n : Nat} {is : List Nat} {g : GTs} (hc : X.calm = true) (hg : SGs X (fun _ _ _ _ => False) es is g) (hn : (assignEach es X.env).length = n := by rfl) (hst : (assignEach es X.env).findIdx? (·.1) = none := by rfl) : SG X W (.Tuple es k pos) is (gtTup (gtLen n g)) := by
  refine pg_imp (pg_tup hc hg hn hst) fun v σ H Q ⟨μ, ρ, eh, d, hS, hH, hr, hp⟩ => ?_
  cases d with
  | tup ds =>
    obtain ⟨a, vs, ev, ht, hd⟩ := hr
    unfold gtTup gtLen at hp
    dsimp only at hp
    by_cases hl : ds.length = n
    · rw [if_pos hl] at hp
      refine ⟨a, vs, ev, ht, by rw [hd.len, hl], μ, ρ, eh, ds, hS, hH, hd, ?_⟩
      revert hp
      cases g ds ρ eh with
      | ok ρ1 h1 => exact id
      | exc c h => exact fun z => z.elim
      | bad => exact id
    · rw [if_neg hl] at hp
      exact hp.elim
  | _ => exact hp.elim
/-- o[i] = v, over data -/
abbrev FSet := D → D → D → List O → R Unit
def SimSet (K : PySem.W.Frag) (r : TSet) (f : FSet) : Prop := ∀ (H : Hp) (μ : List Addr) (eh : List O) (x y v : V) (dx dy dv : D) (Q : Hp → Prop), RelH K H μ eh → RelD K H μ dx x → RelD K H μ dy y → RelD K H μ dv v →
  (match f dx dy dv eh with
    | .ok _ eh' => ∀ (H' : Hp) (μ' : List Addr), Ext K H μ H' μ' → RelH K H' μ' eh' → Q H'
    | _ => False) → r x y v H Q
def gtSub (f : FSet) (mo mi : ME) : GT := fun d ρ h => (mo ρ h).bind fun x h1 => (mi ρ h1).bind fun y h2 => match f x y d h2 with
  | .ok _ h3 => .ok ρ h3
  | _ => .bad
theorem sg_sub {i : Expr} {r : TSet} {f : FSet} {mo mi : ME} (hr : PSet X r) (hs : SimSet X.K r f) (ho : SE X W o mo) (hi : SE X W i mi)
    (ha : ∀ v, assign (.Subscript o i pos) X.env v = (do
      let ov ← holding [v] (eval o X.env)
      let iv ← holding [v, ov] (eval i X.env)
      standAt pos
      holding [v, ov, iv] (setItem ov iv v)
      release [v, ov, iv] []) := by intro _; rfl) : SG X W (.Subscript o i pos) [] (gtSub f mo mi) := by
  refine pg_imp (pg_sub ho hi hr ha) fun v σ H Q ⟨μ, ρ, eh, d, hS, hH, hd, hp⟩ => ?_
  have q : PostG X.K (fun H1 μ1 (r1 : Sl) (u : L2.St) => u = σ ∧ r1 = ρ) W σ H μ (gtSub f mo mi d ρ eh) (fun u H' => Q u H') := by
    revert hp
    have fx : ∀ ρ' h', gtSub f mo mi d ρ eh = .ok ρ' h' → ρ' = ρ := by
      intro ρ' h'
      unfold gtSub
      cases mo ρ eh with
      | ok x h1 =>
        dsimp only [R.bind]
        cases mi ρ h1 with
        | ok y h2 =>
          dsimp only [R.bind]
          cases f x y d h2 with
          | ok _ h3 => intro z; cases z; rfl
          | exc c h => intro z; cases z
          | bad => intro z; cases z
        | exc c h => intro z; cases z
        | bad => intro z; cases z
      | exc c h => intro z; cases z
      | bad => intro z; cases z
    cases q : gtSub f mo mi d ρ eh with
    | bad => exact id
    | exc c h => exact id
    | ok ρ' h' =>
      intro hp u H' μ' e hH' hu
      obtain ⟨eu, er⟩ := hu
      subst eu
      rw [er] at hp
      exact hp u H' μ' e hH' (hS.mono e) fun _ _ => rfl
  unfold gtSub at q
  refine ⟨μ, ρ, eh, hS, hH, (PostG.bind (rel := RelD X.K) q).mono fun x H1 ⟨dx, μ1, eh1, e1, hH1, hr1, hp1⟩ => ?_⟩
  refine ⟨μ1, ρ, eh1, hS.mono e1, hH1, (PostG.bind (rel := RelD X.K) hp1).mono fun y H2 ⟨dy, μ2, eh2, e2, hH2, hr2, hp2⟩ => ?_⟩
  refine hs H2 μ2 eh2 x y v dx dy d _ hH2 (hr1.mono e2 _ _) hr2 ((hd.mono e1 _ _).mono e2 _ _) ?_
  revert hp2
  cases f dx dy d eh2 with
  | bad => exact id
  | exc c h => exact id
  | ok u h => exact fun hp2 H3 μ3 e3 hH3 => hp2 σ H3 μ3 e3 hH3 ⟨rfl, rfl⟩
/-! ### assignments -/
def gtS (g : GT) (d : D) (ρ : Sl) (h : List O) (k : Sl → List O → RS) : RS := match g d ρ h with
  | .ok ρ1 h1 => k ρ1 h1
  | .exc c h1 => .exc c ρ h1
  | .bad => .bad
def sAsg (m : ME) (g : GT) : MS := fun ρ h => (m ρ h).thn ρ fun d h1 => gtS g d ρ h1 RS.nx
/-- a target met, then the rest -/
theorem tgt_sim {K : PySem.W.Frag} {is : List Nat} {g : GT} {k : Sl → List O → RS} {E : Ends} {σ : L2.St} {H : Hp} {μ : List Addr} {ρ : Sl} {eh : List O} {d : D} {v : V} {Q : L2.St → Hp → Prop} (hS : RelS K H μ ρ σ) (hH : RelH K H μ eh) (hr : RelD K H μ d v) (hp : PostS K W E H μ (gtS g d ρ eh k))
    (hq : ∀ (σ' : L2.St) (H' : Hp) (μ' : List Addr) (ρ' : Sl) (eh' : List O), Ext K H μ H' μ' → RelH K H' μ' eh' → RelS K H' μ' ρ' σ' → PostS K W E H' μ' (k ρ' eh') → Q σ' H') : rdG K W is g v σ H Q := by
  refine ⟨μ, ρ, eh, d, hS, hH, hr, ?_⟩
  unfold gtS at hp
  revert hp
  cases g d ρ eh with
  | bad => exact id
  | exc c h => exact fun hp H1 μ1 e hH1 => hp σ H1 μ1 e hH1 (hS.mono e)
  | ok ρ1 h1 => exact fun hp σ1 H1 μ1 e hH1 hS1 _ => hq σ1 H1 μ1 ρ1 h1 e hH1 hS1 (PostS.ext e hp)
theorem ss_asg {tg : Expr} {is : List Nat} {m : ME} {g : GT} (he : SE X W e m) (hg : SG X W tg is g) (hs : swapsWithSole [tg] e pos.line X.env = pure false := by rfl) (hw : swappedStores [tg] e X.env = pure none := by rfl)
    (h1 : (assignEach [tg] X.env).map (·.2) = [assign tg X.env] := by rfl) : SS X W (.Assign [tg] e pos) (sAsg m g) :=
  ps_imp (ps_asg he hg hs hw h1) fun E σ H h => thnS (f := fun d ρ h1 => gtS g d ρ h1 RS.nx) h fun b H1 a μ1 ρ eh1 hS hH hr hp =>
    tgt_sim hS hH hr hp fun σ' H' μ' ρ' eh' e hH' hS' hp' => hp' σ' H' μ' .refl hH' hS'
def sSet (i : Nat) (m : ME) : MS := fun ρ h => (m ρ h).thn ρ fun d h1 => .nx (ρ.set i (some d)) h1
theorem ss_set {i : Nat} {x : Str} {m : ME} {pos' : Pos} (hN : X.N.Nodup) (he : SE X W e m) (hi : X.N[i]? = some x := by rfl) (hx : Loc X.env.scope x := by first | exact Or.inl rfl | exact Or.inr rfl) (hs : swapsWith e (some (.Name x pos')) pos.line X.env = pure false := by rfl)
    (hf : X.fn x = true ∨ X.env.scope.names.lookup x = some .local := by first | exact .inl rfl | exact .inr rfl | assumption) : SS X W (.Assign [.Name x pos'] e pos) (sSet i m) :=
  ps_imp (ps_set hN hi hx he hs hf) fun E σ H h => thnS (f := fun d ρ h1 => .nx (ρ.set i (some d)) h1) h fun b H1 a μ1 ρ eh1 hS hH hr hp => hp _ H1 μ1 .refl hH (hS.set i hr)
def par2 (i j : Nat) : List D → Sl → List O → RS
  | [d1, d2], ρ, h => .nx ((ρ.set i (some d1)).set j (some d2)) h
  | _, _, _ => .bad
def sPar (i j : Nat) (ms : M (List D)) : MS := fun ρ h => (ms ρ h).thn ρ fun ds h1 => par2 i j ds ρ h1
theorem ss_par {i j : Nat} {x y : Str} {ms : M (List D)} {px py pt : Pos} {kt k2 pt2} (hc : X.calm = true) (hN : X.N.Nodup) (ha : SA X W [a, b] ms) (hi : X.N[i]? = some x := by rfl) (hj : X.N[j]? = some y := by rfl) (hij : i ≠ j := by decide)
    (hx : X.env.scope.names.lookup x = some .local := by rfl) (hy : X.env.scope.names.lookup y = some .local := by rfl)
    (hw : swappedStores [.Tuple [.Name x px, .Name y py] kt pt] (.Tuple [a, b] k2 pt2) X.env = pure (some [x, y]) := by rfl)
    (hs : swapsWithSole [.Tuple [.Name x px, .Name y py] kt pt] (.Tuple [a, b] k2 pt2) pos.line X.env = pure false := by rfl) :
    SS X W (.Assign [.Tuple [.Name x px, .Name y py] kt pt] (.Tuple [a, b] k2 pt2) pos) (sPar i j ms) :=
  ps_imp (ps_par hc hN hi hj hij hx hy ha hw hs) fun E σ H h => thnS (f := fun ds ρ h1 => par2 i j ds ρ h1) h fun vs H1 ds μ1 ρ eh1 hS hH hr hp => by
      match ds, hr, hp with
      | [], _, hp => exact hp.elim
      | [_], _, hp => exact hp.elim
      | _ :: _ :: _ :: _, _, hp => exact hp.elim
      | [d1, d2], hr, hp =>
        obtain ⟨v, r, e1, r1, w, r', e2, r2, e3⟩ := hr
        have e3' : r' = [] := e3
        subst e3' e2 e1
        exact ⟨v, w, rfl, hp _ H1 μ1 .refl hH ((hS.set i r1).set j r2)⟩
def sAug (i : Nat) (f : F2) (m : ME) : MS := fun ρ h => match ρ[i]? with
  | some (some x) => (m ρ h).thn ρ fun y h1 => (f x y h1).thn ρ fun z h2 => .nx (ρ.set i (some z)) h2
  | _ => .bad
theorem ss_aug {i : Nat} {x : Str} {m : ME} {op : Operator} {r : R2} {f : F2} {pos' : Pos} (hN : X.N.Nodup) (ho : OpR X (inplaceOp op) r) (hsim : Sim2 X.K r f) (he : SE X W e m) (hi : X.N[i]? = some x := by rfl) (hx : Loc X.env.scope x := by first | exact Or.inl rfl | exact Or.inr rfl)
    (hf : X.fn x = true ∨ X.env.scope.names.lookup x = some .local := by first | exact .inl rfl | exact .inr rfl | assumption) : SS X W (.AugAssign (.Name x pos') op e pos) (sAug i f m) := by
  refine ps_imp (ps_aug (ti := r) hN hi hx he ho hf) fun E σ H h => ?_
  obtain ⟨μ, ρ, eh, hS, hH, hp⟩ := h
  unfold sAug at hp
  split at hp
  · rename_i d ed
    obtain ⟨v, ev, rv⟩ := hS.get ed
    refine ⟨v, ev, μ, ρ, eh, hS, hH, (PostS.thn (rel := RelD X.K) (σ := σ) hS hp).mono fun y H1 ⟨dy, μ1, eh1, e1, hH1, hr1, hp1⟩ => ?_⟩
    refine hsim W σ H1 μ1 eh1 v y d dy _ hH1 (rv.mono e1 _ _) hr1 ((PostS.thn (rel := RelD X.K) (σ := σ) (hS.mono e1) hp1).mono fun z H2 ⟨dz, μ2, eh2, e2, hH2, hr2, hp2⟩ => ?_)
    exact hp2 _ H2 μ2 .refl hH2 (((hS.mono e1).mono e2).set i hr2)
  · exact hp.elim
/-! ### fields stored -/
def putD (f : Str) (v : D) : List (Str × D) → List (Str × D)
  | [] => [(f, v)]
  | (g, x) :: r => if g = f then (g, v) :: r else (g, x) :: putD f v r
theorem RelF.put {K : PySem.W.Frag} {H : Hp} {μ : List Addr} {f : Str} {d : D} {v : V} (rv : RelD K H μ d v) : ∀ {fs : List (Str × D)} {fv : List (Str × V)}, RelF K H μ fs fv → RelF K H μ (putD f d fs) (putF f v fv)
  | [], fv, h => by rw [show fv = [] from h]; exact ⟨v, [], rfl, rv, rfl⟩
  | (g, x) :: qs, fv, h => by
    obtain ⟨w, r, h1, h2, h3⟩ := h
    subst h1
    unfold putD putF
    by_cases e : g = f
    · rw [if_pos e, if_pos e]
      exact ⟨v, r, rfl, rv, h3⟩
    · rw [if_neg e, if_neg e]
      exact ⟨w, _, rfl, h2, RelF.put rv h3⟩
theorem RelF.len {K : PySem.W.Frag} {H : Hp} {μ : List Addr} : ∀ {fs : List (Str × D)} {fv : List (Str × V)}, RelF K H μ fs fv → fv.length = fs.length
  | [], fv, h => by rw [show fv = [] from h]; rfl
  | q :: qs, fv, h => by
    obtain ⟨w, r, h1, h2, h3⟩ := h
    rw [h1, List.length_cons, List.length_cons, RelF.len h3]
def fldSet (c f : Str) (d v : D) (h : List O) : R Unit := match d with
  | .ref n => (match h[n]? with
    | some (.ins c' fs) => if c' = c ∧ fs.length < 1000 then .ok () (h.set n (.ins c' (putD f v fs))) else .bad
    | _ => .bad)
  | _ => .bad
def sFldSet (c f : Str) (mo mv : ME) : MS := fun ρ h => (mv ρ h).thn ρ fun v h1 => (mo ρ h1).thn ρ fun d h2 => (fldSet c f d v h2).thn ρ fun _ h3 => .nx ρ h3
theorem fldSet_sim {K : PySem.W.Frag} {c f : Str} {H : Hp} {μ : List Addr} {eh : List O} {x y : V} {dx dy : D} {Q : Hp → Prop} (hH : RelH K H μ eh) (hx : RelD K H μ dx x) (hy : RelD K H μ dy y)
    (hp : match fldSet c f dx dy eh with
      | .ok _ eh' => ∀ (H' : Hp) (μ' : List Addr), Ext K H μ H' μ' → RelH K H' μ' eh' → Q H'
      | _ => False) : ∃ a dxx fs, x = .ref a ∧ H a = some (.ins (He.ga K c) dxx fs) ∧ fs.length < 1000 ∧ Q (upd H a (.ins (He.ga K c) dxx (putF f y fs))) := by
  unfold fldSet at hp
  cases dx with
  | ref n =>
    dsimp only at hp
    split at hp
    · rename_i eh' q1
      split at q1
      · rename_i c' fs e
        split at q1
        · rename_i ec
          cases q1
          obtain ⟨a, ha, hm⟩ := hx
          obtain ⟨a', ha', dxx, fv, hH1, hf⟩ := hH.get e
          have ea : a' = a := Option.some.inj (ha'.symm.trans hm)
          subst ea
          rw [ec.1] at hH1
          have nf : ∀ u w, H a' ≠ some (.frz u w) := fun u w z => by rw [hH1] at z; cases z
          have nt : ∀ w, H a' ≠ some (.tup w) := fun w z => by rw [hH1] at z; cases z
          have ex : Ext K H μ (upd H a' (.ins (He.ga K c) dxx (putF f y fv))) μ := ext_set (List.mem_of_getElem? ha') nf nt
          refine ⟨a', dxx, fv, ha, hH1, by rw [hf.len]; exact ec.2, hp _ μ ex (hH.set ha' nf nt ⟨dxx, _, by rw [upd_same, ec.1], ?_⟩)⟩
          exact (RelF.put hy hf).mono ex
        · cases q1
      · cases q1
    · exact hp.elim
  | _ => exact hp.elim
theorem ss_fld {c f : Str} {mo mv : ME} {pos' : Pos} {value : Expr} (hc : Cls X.K (He.ga X.K c)) (hn : NoAttr X.K (He.ga X.K c) f) (ho : SE X W o mo) (hv : SE X W value mv) (hs : swapsWith value (some (.Attribute o f pos')) pos.line X.env = pure false := by rfl) :
    SS X W (.Assign [.Attribute o f pos'] value pos) (sFldSet c f mo mv) := by
  refine ps_imp (ps_fld ho hv hs) fun E σ H h => thnS (f := fun v ρ h1 => (mo ρ h1).thn ρ fun d h2 => (fldSet c f d v h2).thn ρ fun _ h3 => .nx ρ h3) h fun y H1 dy μ1 ρ eh1 hS hH hr hp => ?_
  refine ⟨μ1, ρ, eh1, hS, hH, (PostS.thn (rel := RelD X.K) (σ := σ) hS hp).mono fun x H2 ⟨dx, μ2, eh2, e2, hH2, hr2, hp2⟩ => ?_⟩
  obtain ⟨a, dxx, fs, h1, h2, h3, h4⟩ := fldSet_sim (c := c) (f := f) (Q := fun H' => E.nx σ H') hH2 hr2 (hr.mono e2 _ _) (by
    revert hp2
    unfold fldSet
    cases dx with
    | ref n =>
      dsimp only
      cases eh2[n]? with
      | none => exact id
      | some o =>
        cases o with
        | lst ds => exact id
        | ins c' fs =>
          dsimp only
          by_cases ec : c' = c ∧ fs.length < 1000
          · rw [if_pos ec]
            exact fun hp2 H3 μ3 e3 hH3 => hp2 σ H3 μ3 e3 hH3 ((hS.mono e2).mono e3)
          · rw [if_neg ec]
            exact id
    | _ => exact id)
  exact ⟨a, _, dxx, fs, h1, h2, hc, hn, h3, h4⟩
/-! ### an exception raised -/
def sRaise (c : Str) : MS := fun ρ h => .exc c ρ h
theorem ss_raise {c : Str} (hc : X.calm = true) (tk : Takes X W) (he : PMk X e (fun _ H Q => Q (.ref (He.ga X.K c)) none H)) : SS X W (.Raise (some e) none pos) (sRaise c) :=
  ps_imp (ps_raise hc tk he) fun E σ H ⟨μ, ρ, eh, hS, hH, hp⟩ => hp σ H μ .refl hH hS
end
end SL
set_option Elab.async false
set_option linter.all false
set_option maxRecDepth 100000
set_option maxHeartbeats 1000000
namespace SL
open PySem PySem.Spec PyProof.Rows L2
/-! ### what a loop walks: the items, and a look at the heap that says that they still stand -/
abbrev Src := List D × (List O → Bool)
abbrev MI := M Src
def relI (K : PySem.W.Frag) (H : Hp) (μ : List Addr) (s : Src) (J : It) : Prop := ∀ (i : Nat) (H' : Hp) (μ' : List Addr) (eh' : List O), Ext K H μ H' μ' → RelH K H' μ' eh' → s.2 eh' = true →
  (s.1.length ≤ i → J.stop i H') ∧ ∀ d, s.1[i]? = some d → J.go i H' ∧ ∀ x H2, J.yld i H' x H2 → Ext K H' μ' H2 μ' ∧ RelH K H2 μ' eh' ∧ RelD K H2 μ' d x
abbrev rdI (K : PySem.W.Frag) (W : WX) (m : MI) : TI := fun σ H R => rdM K (relI K) W σ m H R
abbrev SI (X : Cx) (W : WX) (tg it : Expr) (m : MI) : Prop := PI X tg it (rdI X.K W m)
def forL (g : GT) (body : MS) (gd : List O → Bool) : List D → MS
  | [], ρ, h => if gd h = true then .nx ρ h else .bad
  | d :: ds, ρ, h => if gd h = true then gtS g d ρ h fun ρ1 h1 => (match body ρ1 h1 with
    | .nx ρ2 h2 => forL g body gd ds ρ2 h2
    | .ct ρ2 h2 => forL g body gd ds ρ2 h2
    | .bk ρ2 h2 => .nx ρ2 h2
    | .rt d h2 => .rt d h2
    | .exc c ρ2 h2 => .exc c ρ2 h2
    | .bad => .bad) else .bad
def sFor (src : MI) (g : GT) (body : MS) : MS := fun ρ h => (src ρ h).thn ρ fun s h1 => forL g body s.2 s.1 ρ h1
section
variable {X : Cx} {W : WX} {pos : Pos}
theorem ss_for {tg it : Expr} {body : List Stmt} {src : MI} {is : List Nat} {g : GT} {m : MS} (hp : PassesOwn (model X.prog X.w) X.A X.env X.xe) (hc : X.calm = true) (hi : SI X W tg it src) (hg : SG X W tg is g) (hb : SSs X W body m)
    (hs : ∀ x, foldedSetIterable it X.env x = pure x := by intro _; rfl) : SS X W (.For tg it body [] pos) (sFor src g m) := by
  refine ps_imp (ps_for hp hc hi hg hb hs) fun E σ H h => thnS (α := Src) (rel := relI X.K) (m := src) (f := fun s ρ h1 => forL g m s.2 s.1 ρ h1) h fun J H1 s μ1 ρ eh1 hS hH hJ hp => ?_
  refine ⟨fun i n σ' H' => ∃ (μ' : List Addr) (ρ' : Sl) (eh' : List O), RelS X.K H' μ' ρ' σ' ∧ RelH X.K H' μ' eh' ∧ Ext X.K H1 μ1 H' μ' ∧ n = s.1.length - i ∧ i ≤ s.1.length ∧ PostS X.K W E H' μ' (forL g m s.2 (s.1.drop i) ρ' eh'),
    ⟨s.1.length, μ1, ρ, eh1, hS, hH, .refl, by simp, Nat.zero_le _, by simpa using hp⟩, ?_⟩
  rintro i n σ' H' ⟨μ', ρ', eh', hS', hH', hE', rfl, hi', hp'⟩
  by_cases hlt : i < s.1.length
  · rw [List.drop_eq_getElem_cons hlt] at hp'
    unfold forL at hp'
    by_cases hgd : s.2 eh' = true
    · rw [if_pos hgd] at hp'
      obtain ⟨_, hgo⟩ := hJ i H' μ' eh' hE' hH' hgd
      obtain ⟨go, hy⟩ := hgo s.1[i] (List.getElem?_eq_getElem hlt)
      refine .inr ⟨go, fun σ3 H3 => ∃ (μ3 : List Addr) (ρ3 : Sl) (eh3 : List O), RelS X.K H3 μ3 ρ3 σ3 ∧ RelH X.K H3 μ3 eh3 ∧ Ext X.K H1 μ1 H3 μ3 ∧ PostS X.K W E H3 μ3 (forL g m s.2 (s.1.drop (i + 1)) ρ3 eh3), ?_, fun x H2 hx => ?_⟩
      · rintro σ3 H3 ⟨μ3, ρ3, eh3, a1, a2, a3, a4⟩
        exact ⟨s.1.length - (i + 1), by omega, μ3, ρ3, eh3, a1, a2, a3, rfl, hlt, a4⟩
      · obtain ⟨e2, hH2, hd⟩ := hy x H2 hx
        refine tgt_sim (hS'.mono e2) hH2 hd (PostS.ext e2 hp') fun σ4 H4 μ4 ρ4 eh4 e4 hH4 hS4 hp4 => ⟨μ4, ρ4, eh4, hS4, hH4, ?_⟩
        have e14 := (hE'.trans e2).trans e4
        revert hp4
        cases m ρ4 eh4 with
        | nx ρ5 eh5 => exact fun hp4 σ5 H5 μ5 e5 hH5 hS5 => ⟨μ5, ρ5, eh5, hS5, hH5, e14.trans e5, PostS.ext e5 hp4⟩
        | ct ρ5 eh5 => exact fun hp4 σ5 H5 μ5 e5 hH5 hS5 => ⟨μ5, ρ5, eh5, hS5, hH5, e14.trans e5, PostS.ext e5 hp4⟩
        | bk ρ5 eh5 => exact id
        | rt d eh5 => exact id
        | exc c ρ5 eh5 => exact id
        | bad => exact id
    · rw [if_neg hgd] at hp'
      exact hp'.elim
  · have ei : i = s.1.length := by omega
    subst ei
    rw [List.drop_length] at hp'
    unfold forL at hp'
    by_cases hgd : s.2 eh' = true
    · rw [if_pos hgd] at hp'
      exact .inl ⟨(hJ _ H' μ' eh' hE' hH' hgd).1 (Nat.le_refl _), hp' σ' H' μ' .refl hH' hS'⟩
    · rw [if_neg hgd] at hp'
      exact hp'.elim
def whileL (c : M Bool) (body : MS) : Nat → MS
  | 0, _, _ => .bad
  | n + 1, ρ, h => (c ρ h).thn ρ fun b h1 => if b = true then (match body ρ h1 with
    | .nx ρ2 h2 => whileL c body n ρ2 h2
    | .ct ρ2 h2 => whileL c body n ρ2 h2
    | .bk ρ2 h2 => .nx ρ2 h2
    | .rt d h2 => .rt d h2
    | .exc c ρ2 h2 => .exc c ρ2 h2
    | .bad => .bad) else .nx ρ h1
theorem ss_while {c : Expr} {body : List Stmt} {mc : M Bool} {m : MS} {n : Nat} (hp : PassesOwn (model X.prog X.w) X.A X.env X.xe) (hc : ST X W c mc) (hb : SSs X W body m) : SS X W (.While c body [] pos) (whileL mc m n) := by
  refine ps_imp (ps_while hp hc hb) fun E σ H ⟨μ, ρ, eh, hS, hH, hp⟩ => ?_
  refine ⟨fun k σ' H' => ∃ (μ' : List Addr) (ρ' : Sl) (eh' : List O), RelS X.K H' μ' ρ' σ' ∧ RelH X.K H' μ' eh' ∧ PostS X.K W E H' μ' (whileL mc m k ρ' eh'), ⟨n, μ, ρ, eh, hS, hH, hp⟩, ?_⟩
  rintro k σ' H' ⟨μ', ρ', eh', hS', hH', hp'⟩
  cases k with
  | zero => exact hp'.elim
  | succ k =>
    unfold whileL at hp'
    refine ⟨μ', ρ', eh', hS', hH', (PostS.thn (rel := rB) (σ := σ') hS' hp').mono fun b H1 ⟨b', μ1, eh1, e1, hH1, hr1, hp1⟩ => ?_⟩
    subst hr1
    cases b' with
    | false =>
      rw [if_neg Bool.false_ne_true] at hp1 ⊢
      exact hp1 σ' H1 μ1 .refl hH1 (hS'.mono e1)
    | true =>
      rw [if_pos rfl] at hp1 ⊢
      refine ⟨fun σ3 H3 => ∃ (μ3 : List Addr) (ρ3 : Sl) (eh3 : List O), RelS X.K H3 μ3 ρ3 σ3 ∧ RelH X.K H3 μ3 eh3 ∧ PostS X.K W E H3 μ3 (whileL mc m k ρ3 eh3), fun σ3 H3 q => ⟨k, Nat.lt_succ_self _, q⟩, μ1, ρ', eh1, hS'.mono e1, hH1, ?_⟩
      revert hp1
      cases m ρ' eh1 with
      | nx ρ5 eh5 => exact fun hp4 σ5 H5 μ5 e5 hH5 hS5 => ⟨μ5, ρ5, eh5, hS5, hH5, PostS.ext e5 hp4⟩
      | ct ρ5 eh5 => exact fun hp4 σ5 H5 μ5 e5 hH5 hS5 => ⟨μ5, ρ5, eh5, hS5, hH5, PostS.ext e5 hp4⟩
      | bk ρ5 eh5 => exact id
      | rt d eh5 => exact id
      | exc c ρ5 eh5 => exact id
      | bad => exact id
/-! ### what is walked -/
/-- the list that stands at n as it stood -/
def gdL (n : Nat) (ds : List D) : List O → Bool := fun h => decide (h[n]? = some (.lst ds))
/-- the items of a list (or a list that nobody changes) -/
def srcL : D → List O → R Src := fun d h => match d with
  | .ref n => (match h[n]? with
    | some (.lst ds) => .ok (ds, gdL n ds) h
    | _ => .bad)
  | .frl ds => .ok (ds, fun _ => true) h
  | _ => .bad
def srcT : D → List O → R Src := fun d h => match d with
  | .tup ds => .ok (ds, fun _ => true) h
  | _ => .bad
def mSrc (f : D → List O → R Src) (m : ME) : MI := fun ρ h => (m ρ h).bind f
theorem seqL_of {K : PySem.W.Frag} {H : Hp} {μ : List Addr} {eh : List O} {d : D} {x : V} {ds : List D} {gd : List O → Bool} {eh1 : List O} (hH : RelH K H μ eh) (hr : RelD K H μ d x) (hs : srcL d eh = .ok (ds, gd) eh1) :
    eh1 = eh ∧ ∃ a, x = .ref a ∧ ∀ (H' : Hp) (μ' : List Addr) (eh' : List O), Ext K H μ H' μ' → RelH K H' μ' eh' → gd eh' = true → ∃ vs, SqL K H' a vs ∧ RelDs K H' μ' ds vs := by
  cases d with
  | ref n =>
    unfold srcL at hs
    dsimp only at hs
    split at hs
    · rename_i ds' e
      cases hs
      obtain ⟨a, ha, hm⟩ := hr
      refine ⟨rfl, a, ha, fun H' μ' eh' e' hH' hg => ?_⟩
      obtain ⟨a', ha', vs, h1, h2⟩ := hH'.get (of_decide_eq_true hg)
      have ea : a' = a := Option.some.inj (ha'.symm.trans (e'.at hm))
      subst ea
      exact ⟨vs, .inl (.inl h1), h2⟩
    · cases hs
  | frl ds' =>
    cases hs
    obtain ⟨a, vs, ha, h1, h2⟩ := hr
    exact ⟨rfl, a, ha, fun H' μ' eh' e' hH' hg => ⟨vs, (e'.tf _ _ h1).l, h2.mono e'⟩⟩
  | _ => cases hs
theorem si_list {tg l : Expr} {m : ME} (hl : SE X W l m) : SI X W tg l (mSrc srcL m) :=
  pi_imp (pi_list hl) fun σ H R h => rdM.bind (f := fun d _ => srcL d) h fun x H1 dx μ1 ρ eh1 hS hH hr hp => by
    cases q : srcL dx eh1 with
    | bad => rw [q] at hp; exact hp.elim
    | exc c h =>
      rw [q] at hp
      unfold srcL at q
      cases dx with
      | ref n =>
        dsimp only at q
        split at q <;> cases q
      | _ => cases q
    | ok s eh2 =>
      rw [q] at hp
      obtain ⟨ds, gd⟩ := s
      obtain ⟨e2, a, ha, hst⟩ := seqL_of hH hr q
      subst e2
      have gd0 : gd eh2 = true := by
        unfold srcL at q
        cases dx with
        | ref n =>
          dsimp only at q
          split at q
          · rename_i ds' e
            cases q
            exact decide_eq_true e
          · cases q
        | frl ds' => cases q; rfl
        | _ => cases q
      refine ⟨a, ha, ?_, hp (Itl X.K a) H1 μ1 .refl hH fun i H' μ' eh' e' hH' hg => ?_⟩
      · obtain ⟨vs, h1, _⟩ := hst H1 μ1 eh2 .refl hH gd0
        exact ⟨vs, h1⟩
      · obtain ⟨vs, h1, h2⟩ := hst H' μ' eh' e' hH' hg
        refine ⟨fun hi => ⟨vs, h1, by rw [h2.len]; exact hi⟩, fun d hd => ?_⟩
        obtain ⟨v, hv, rv⟩ := h2.get hd
        refine ⟨⟨vs, v, h1, hv⟩, fun y H2 hy => ?_⟩
        obtain ⟨eH, hy⟩ := hy
        subst eH
        have ey : v = y := Option.some.inj (hv.symm.trans (hy vs h1))
        subst ey
        exact ⟨.refl, hH', rv⟩
theorem si_tup {tg l : Expr} {m : ME} (hl : SE X W l m) : SI X W tg l (mSrc srcT m) :=
  pi_imp (pi_tup hl) fun σ H R h => rdM.bind (f := fun d _ => srcT d) h fun x H1 dx μ1 ρ eh1 hS hH hr hp => by
    cases dx with
    | tup ds =>
      obtain ⟨a, vs, ha, h1, h2⟩ := hr
      refine ⟨a, ha, ⟨vs, h1⟩, hp (Itt X.K a) H1 μ1 .refl hH fun i H' μ' eh' e' hH' hg => ?_⟩
      have h1' := e'.tp _ _ h1
      have h2' := h2.mono e'
      refine ⟨fun hi => ⟨vs, h1', by rw [h2'.len]; exact hi⟩, fun d hd => ?_⟩
      obtain ⟨v, hv, rv⟩ := h2'.get hd
      refine ⟨⟨vs, v, h1', hv⟩, fun y H2 hy => ?_⟩
      obtain ⟨eH, hy⟩ := hy
      subst eH
      have ey : v = y := Option.some.inj (hv.symm.trans (hy vs h1'))
      subst ey
      exact ⟨.refl, hH', rv⟩
    | _ => exact hp.elim
/-- lo, lo + c, .. -/
def runI (lo c : Int) (n : Nat) : List D := (List.range n).map fun i => .int (lo + (i : Nat) * c)
def D.int? : D → Option Int
  | .int i => some i
  | _ => none
def getInts : List D → Option (List Int)
  | [] => some []
  | d :: ds => match d.int?, getInts ds with
    | some i, some is => some (i :: is)
    | _, _ => none
theorem getInts_eq : ∀ {ds : List D} {is : List Int}, getInts ds = some is → ds = is.map D.int
  | [], is, h => by cases h; rfl
  | d :: ds, is, h => by
    unfold getInts at h
    split at h
    · rename_i i is' e1 e2
      cases h
      cases d with
      | int k =>
        cases e1
        rw [getInts_eq e2]
        rfl
      | _ => cases e1
    · cases h
@[simp] theorem getInts_map (is : List Int) : getInts (is.map D.int) = some is := by
  induction is with
  | nil => rfl
  | cons i is ih => simp [getInts, ih, D.int?]
theorem RelDs.ints {K : PySem.W.Frag} {H : Hp} {μ : List Addr} : ∀ {is : List Int} {vs : List V}, RelDs K H μ (is.map D.int) vs → vs = is.map V.int
  | [], vs, h => h
  | i :: is, vs, h => by
    obtain ⟨v, r, e1, e2, e3⟩ := h
    have e2' : v = .int i := e2
    rw [e1, e2', RelDs.ints e3]
    rfl
def srcR1 : List D → List O → R Src := fun ds h => match getInts ds with
  | some [j] => if -(2 ^ 62) ≤ j ∧ j < 2 ^ 62 then .ok (runI 0 1 j.toNat, fun _ => true) h else .bad
  | _ => .bad
def srcR2 : List D → List O → R Src := fun ds h => match getInts ds with
  | some [i, j] => if -(2 ^ 62) ≤ i ∧ i < 2 ^ 62 ∧ -(2 ^ 62) ≤ j ∧ j < 2 ^ 62 then .ok (runI i 1 (j - i).toNat, fun _ => true) h else .bad
  | _ => .bad
/-- downward by ones -/
def srcRd : List D → List O → R Src := fun ds h => match getInts ds with
  | some [i, j, c] => if c = -1 ∧ -(2 ^ 62) ≤ i ∧ i < 2 ^ 62 ∧ -(2 ^ 62) ≤ j ∧ j < 2 ^ 62 then .ok (runI i (-1) (i - j).toNat, fun _ => true) h else .bad
  | _ => .bad
def mSrcA (f : List D → List O → R Src) (ms : M (List D)) : MI := fun ρ h => (ms ρ h).bind f
theorem relI_run {K : PySem.W.Frag} {H : Hp} {μ : List Addr} {lo c : Int} {n : Nat} {J : It} (hs : ∀ i H, n ≤ i → J.stop i H) (hg : ∀ i H, i < n → J.go i H) (hy : ∀ i H x H', J.yld i H x H' → H' = H ∧ x = .int (lo + (i : Nat) * c)) : relI K H μ (runI lo c n, fun _ => true) J := by
  intro i H' μ' eh' e' hH' _
  refine ⟨fun hi => hs i H' (by simpa [runI] using hi), fun d hd => ?_⟩
  have hl : i < n := by
    have z := (List.getElem?_eq_some_iff.mp hd).1
    simpa [runI] using z
  refine ⟨hg i H' hl, fun x H2 q => ?_⟩
  obtain ⟨e1, e2⟩ := hy i H' x H2 q
  subst e1 e2
  have ed : d = .int (lo + (i : Nat) * c) := by
    unfold runI at hd
    rw [List.getElem?_map, List.getElem?_range hl] at hd
    exact (Option.some.inj hd).symm
  subst ed
  exact ⟨.refl, hH', rfl⟩
theorem si_range1 {tg a : Expr} {p : Pos} {ms : M (List D)} (hg : Gl X "range") (hm : X.mg "range" = none) (ha : SA X W [a] ms) (hs : starEach [a] X.env = [(false, eval a X.env)] := by rfl) : SI X W tg (.Call (.Name "range" p) [a] [] pos) (mSrcA srcR1 ms) :=
  pi_imp (pi_range1 hg hm ha hs) fun σ H R h => rdM.bind (f := fun ds _ => srcR1 ds) h fun xs H1 ds μ1 ρ eh1 hS hH hr hp => by
    unfold srcR1 at hp
    split at hp
    · rename_i j e
      rw [getInts_eq e] at hr
      have ex := hr.ints
      split at hp
      · rename_i hb
        exact ⟨j, ex, hb.1, hb.2, hp _ H1 μ1 .refl hH (relI_run (fun _ _ z => z) (fun _ _ z => z) fun i H x H' q => ⟨q.1, by rw [q.2]; simp⟩)⟩
      · exact hp.elim
    · exact hp.elim
theorem si_range2 {tg a b : Expr} {p : Pos} {ms : M (List D)} (hg : Gl X "range") (hm : X.mg "range" = none) (ha : SA X W [a, b] ms) (hs : starEach [a, b] X.env = [(false, eval a X.env), (false, eval b X.env)] := by rfl) (hs2 : starEach [b] X.env = [(false, eval b X.env)] := by rfl) : SI X W tg (.Call (.Name "range" p) [a, b] [] pos) (mSrcA srcR2 ms) :=
  pi_imp (pi_range2 hg hm ha hs hs2) fun σ H R h => rdM.bind (f := fun ds _ => srcR2 ds) h fun xs H1 ds μ1 ρ eh1 hS hH hr hp => by
    unfold srcR2 at hp
    split at hp
    · rename_i i j e
      rw [getInts_eq e] at hr
      have ex := hr.ints
      split at hp
      · rename_i hb
        exact ⟨i, j, ex, hb, hp _ H1 μ1 .refl hH (relI_run (fun _ _ z => z) (fun _ _ z => z) fun i H x H' q => ⟨q.1, by rw [q.2]; simp⟩)⟩
      · exact hp.elim
    · exact hp.elim
theorem si_range3 {tg a b c : Expr} {p : Pos} {ms : M (List D)} (hg : Gl X "range") (hm : X.mg "range" = none) (ha : SA X W [a, b, c] ms) (hs : starEach [a, b, c] X.env = (false, eval a X.env) :: starEach [b, c] X.env := by rfl) (hpl : (backTo pos (starEach [b, c] X.env)).any (·.1) = false := by rfl) : SI X W tg (.Call (.Name "range" p) [a, b, c] [] pos) (mSrcA srcRd ms) :=
  pi_imp (pi_range3 hg hm ha hs hpl) fun σ H R h => rdM.bind (f := fun ds _ => srcRd ds) h fun xs H1 ds μ1 ρ eh1 hS hH hr hp => by
    unfold srcRd at hp
    split at hp
    · rename_i i j c e
      rw [getInts_eq e] at hr
      have ex := hr.ints
      split at hp
      · rename_i hb
        obtain ⟨rfl, h1, h2, h3, h4⟩ := hb
        exact ⟨i, j, -1, _, ex, RgC.neg h1 h2 h3 h4, hp _ H1 μ1 .refl hH (relI_run (fun _ _ z => z) (fun _ _ z => z) fun i H x H' q => q)⟩
      · exact hp.elim
    · exact hp.elim
/-- a text, sign by sign -/
def srcStr : D → List O → R Src := fun d h => match d with
  | .str x => .ok (x.cps.toList.map fun c => .str ⟨#[c]⟩, fun _ => true) h
  | _ => .bad
theorem si_str {tg e : Expr} {m : ME} (he : SE X W e m) : SI X W tg e (mSrc srcStr m) :=
  pi_imp (pi_str he) fun σ H R h => rdM.bind (f := fun d _ => srcStr d) h fun v H1 d μ1 ρ eh1 hS hH hr hp => by
    cases d with
    | str x =>
      refine ⟨x, hr, hp _ H1 μ1 .refl hH fun i H' μ' eh' e' hH' _ => ?_⟩
      refine ⟨fun hi => by simpa [Its] using hi, fun d hd => ?_⟩
      rw [List.getElem?_map, Option.map_eq_some_iff] at hd
      obtain ⟨c, hc, ed⟩ := hd
      subst ed
      have hc' : x.cps[i]? = some c := by rw [← Array.getElem?_toList]; exact hc
      have hl : i < x.cps.size := (Array.getElem?_eq_some_iff.mp hc').1
      refine ⟨hl, fun y H2 q => ?_⟩
      obtain ⟨e1, c', hc2, e2⟩ := q
      subst e1 e2
      rw [hc'] at hc2
      cases hc2
      exact ⟨.refl, hH', rfl⟩
    | _ => exact hp.elim
/-- numbered items -/
def enumD : Nat → List D → List D
  | _, [] => []
  | i, d :: ds => .tup [.int i, d] :: enumD (i + 1) ds
theorem enumD_get : ∀ (ds : List D) (k i : Nat), (enumD k ds)[i]? = (ds[i]?).map fun d => .tup [.int ((k + i : Nat) : Int), d]
  | [], k, i => by simp [enumD]
  | d :: ds, k, 0 => by simp [enumD]
  | d :: ds, k, i + 1 => by
    have e : k + 1 + i = k + (i + 1) := by omega
    simp [enumD, enumD_get ds (k + 1) i, e]
theorem enumD_len : ∀ (ds : List D) (k : Nat), (enumD k ds).length = ds.length
  | [], _ => rfl
  | d :: ds, k => by simp [enumD, enumD_len ds (k + 1)]
def one1 {α : Type} (f : D → List O → R α) : List D → List O → R α := fun ds h => match ds with
  | [d] => f d h
  | _ => .bad
def srcEn : D → List O → R Src := fun d h => (srcL d h).bind fun s h1 => .ok (enumD 0 s.1, s.2) h1
theorem srcL_gd {d : D} {h h' : List O} {s : Src} (q : srcL d h = .ok s h') : s.2 h = true := by
  unfold srcL at q
  cases d with
  | ref n =>
    dsimp only at q
    split at q
    · rename_i ds' e
      cases q
      exact decide_eq_true e
    · cases q
  | frl ds' => cases q; rfl
  | _ => cases q
theorem srcL_noexc {d : D} {h h' : List O} {c : Str} (q : srcL d h = .exc c h') : False := by
  unfold srcL at q
  cases d with
  | ref n =>
    dsimp only at q
    split at q <;> cases q
  | _ => cases q
theorem RelDs.one' {K : PySem.W.Frag} {H : Hp} {μ : List Addr} {d : D} {vs : List V} (h : RelDs K H μ [d] vs) : ∃ v, vs = [v] ∧ RelD K H μ d v := by
  obtain ⟨v, r, e1, e2, e3⟩ := h
  have e3' : r = [] := e3
  subst e3'
  exact ⟨v, e1, e2⟩
theorem RelDs.two' {K : PySem.W.Frag} {H : Hp} {μ : List Addr} {d d' : D} {vs : List V} (h : RelDs K H μ [d, d'] vs) : ∃ v w, vs = [v, w] ∧ RelD K H μ d v ∧ RelD K H μ d' w := by
  obtain ⟨v, r, e1, e2, h'⟩ := h
  obtain ⟨w, e3, e4⟩ := RelDs.one' h'
  exact ⟨v, w, by rw [e1, e3], e2, e4⟩
theorem si_enum {a : Expr} {p tpos : Pos} {elts : List Expr} {kk : Nat} {ms : M (List D)} (hg : Gl X "enumerate") (hm : X.mg "enumerate" = none) (ha : SA X W [a] ms) (hs : starEach [a] X.env = [(false, eval a X.env)] := by rfl) :
    SI X W (.Tuple elts kk tpos) (.Call (.Name "enumerate" p) [a] [] pos) (mSrcA (one1 srcEn) ms) :=
  pi_imp (pi_enum hg hm ha hs) fun σ H R h => rdM.bind (f := fun ds _ => one1 srcEn ds) h fun xs H1 ds μ1 ρ eh1 hS hH hr hp => by
    unfold one1 at hp
    split at hp
    · rename_i d
      obtain ⟨x, ex, rx⟩ := hr.one'
      unfold srcEn at hp
      cases q : srcL d eh1 with
      | bad => rw [q] at hp; exact hp.elim
      | exc c h => exact (srcL_noexc q).elim
      | ok s eh2 =>
        rw [q] at hp
        obtain ⟨ds', gd⟩ := s
        obtain ⟨e2, a', ha', hst⟩ := seqL_of hH rx q
        have gd0 := srcL_gd q
        subst e2
        obtain ⟨vs0, h0, _⟩ := hst H1 μ1 eh2 .refl hH gd0
        refine ⟨a', vs0, by rw [ex, ha'], h0, hp (Ite X.K a') H1 μ1 .refl hH fun i H' μ' eh' e' hH' hg => ?_⟩
        obtain ⟨vs, h1, h2⟩ := hst H' μ' eh' e' hH' hg
        refine ⟨fun hi => ⟨vs, h1, by rw [h2.len]; rw [enumD_len] at hi; exact hi⟩, fun dd hd => ?_⟩
        rw [enumD_get, Option.map_eq_some_iff] at hd
        obtain ⟨d0, hd0, edd⟩ := hd
        subst edd
        obtain ⟨v, hv, rv⟩ := h2.get hd0
        refine ⟨⟨vs, v, h1, hv⟩, fun y H2 hy => ?_⟩
        obtain ⟨T, x', ey, hT, eH, hx'⟩ := hy
        subst eH ey
        have exv : v = x' := Option.some.inj (hv.symm.trans (hx' vs h1))
        subst exv
        have ext : Ext X.K H' μ' (upd H' T (.tup [.int (i : Nat), v])) μ' := ext_off hT
        exact ⟨ext, hH'.off hT, T, _, rfl, .inl (.inl upd_same), .int (i : Nat), [v], rfl, by simp [RelD], v, [], rfl, rv.mono ext _ _, rfl⟩
    · exact hp.elim
def zipD : List D → List D → List D
  | a :: as, b :: bs => .tup [a, b] :: zipD as bs
  | _, _ => []
theorem zipD_get : ∀ (as bs : List D) (i : Nat), (zipD as bs)[i]? = match as[i]?, bs[i]? with
    | some a, some b => some (.tup [a, b])
    | _, _ => none
  | [], bs, i => by simp [zipD]
  | a :: as, [], i => by cases h : (a :: as)[i]? <;> simp [zipD]
  | a :: as, b :: bs, 0 => by simp [zipD]
  | a :: as, b :: bs, i + 1 => by simp [zipD, zipD_get as bs i]
theorem zipD_len : ∀ (as bs : List D), (zipD as bs).length = min as.length bs.length
  | [], bs => by simp [zipD]
  | a :: as, [] => by simp [zipD]
  | a :: as, b :: bs => by simp [zipD, zipD_len as bs]
end
end SL
set_option Elab.async false
set_option linter.all false
set_option maxRecDepth 100000
set_option maxHeartbeats 1000000
namespace SL
open PySem PySem.Spec PyProof.Rows L2
/-! ### comprehensions -/
theorem R.bind_assoc {α β γ : Type} (x : R α) (f : α → List O → R β) (g : β → List O → R γ) : (x.bind f).bind g = x.bind fun a h => (f a h).bind g := by cases x <;> rfl
def R.nox {α : Type} : R α → R α
  | .ok a h => .ok a h
  | _ => .bad
@[simp] theorem R.nox_ok {α : Type} (a : α) (h : List O) : (R.ok a h).nox = .ok a h := rfl
@[simp] theorem R.nox_exc {α : Type} (c : Str) (h : List O) : (R.exc c h : R α).nox = .bad := rfl
@[simp] theorem R.nox_bad {α : Type} : (R.bad : R α).nox = .bad := rfl
def gtR (g : GT) (d : D) (ρ : Sl) (h : List O) : R Sl := (g d ρ h).nox
/-- the items made; nothing is raised within -/
def compL (g : GT) (tt : M Bool) (te : ME) (gd : List O → Bool) (ρ : Sl) : List D → List O → R (List D)
  | [], h => if gd h = true then .ok [] h else .bad
  | d :: ds, h => if gd h = true then (gtR g d ρ h).bind fun ρ1 h1 => (tt ρ1 h1).nox.bind fun b h2 =>
      if b = true then (te ρ1 h2).nox.bind fun v h3 => (compL g tt te gd ρ ds h3).bind fun vs h4 => .ok (v :: vs) h4
      else compL g tt te gd ρ ds h2
    else .bad
def wipeD (ρ : Sl) : List Nat → Sl
  | [] => ρ
  | v :: vs => (wipeD ρ vs).set v none
theorem RelS.wipe {K : PySem.W.Frag} {H : Hp} {μ : List Addr} {ρ : Sl} {σ : L2.St} (h : RelS K H μ ρ σ) : ∀ vs : List Nat, RelS K H μ (wipeD ρ vs) (L2.wipe σ vs)
  | [] => h
  | v :: vs => (RelS.wipe h vs).unset v none
/-- the items of a comprehension -/
def mLcI (src : MI) (vs : List Nat) (g : GT) (tt : M Bool) (te : ME) : M (List D) := fun ρ h => (src ρ h).bind fun s h1 => if s.1.length ≤ sizeLine then compL g tt te s.2 (wipeD ρ vs) s.1 h1 else .bad
def allocL (ds : List D) (h : List O) : R D := .ok (.ref h.length) (h ++ [.lst ds])
def mNew (m : M (List D)) : ME := fun ρ h => (m ρ h).bind allocL
/-- a new list that is not told of: at an address that no told object has -/
def RelL (K : PySem.W.Frag) (H : Hp) (μ : List Addr) (ds : List D) (v : V) : Prop := ∃ a xs, v = .ref a ∧ H a = some (.lst xs) ∧ RelDs K H μ ds xs ∧ a ∉ μ
abbrev rdL (K : PySem.W.Frag) (W : WX) (m : M (List D)) : TE := fun σ H Q => rdM K (RelL K) W σ m H Q
abbrev SEL (X : Cx) (W : WX) (e : Expr) (m : M (List D)) : Prop := PE X e (rdL X.K W m)
def tYesD : M Bool := fun _ h => .ok true h
abbrev rdN (K : PySem.W.Frag) (W : WX) (m : M Bool) : TT := fun σ H Q => rdM K rB W σ m H Q
section
variable {K : PySem.W.Frag} {W : WX}
theorem PostG.noexc {α β : Type} {rel : Hp → List Addr → α → β → Prop} {σ : L2.St} {H : Hp} {μ : List Addr} {r : R α} {Q : β → Hp → Prop} (h : PostG K rel W σ H μ r.nox Q) (W' : WX) (σ' : L2.St) : PostG K rel W' σ' H μ r Q := by
  cases r with
  | ok a eh => exact h
  | exc c eh => exact h.elim
  | bad => exact h
/-- the comprehension's loop: fin says what its end is to give -/
theorem lc_run {wi : MI} {is : List Nat} {g : GT} {tt : M Bool} {te : ME} {vs : List Nat} (his : ∀ i ∈ is, i ∈ vs) {σ : L2.St} {H1 : Hp} {J : It} {s : Src} {μ1 : List Addr} {ρ : Sl} {eh1 : List O} {N : Addr} {Qd : Hp → Prop} (hS : RelS K H1 μ1 ρ σ) (hH : RelH K H1 μ1 eh1) (hJ : relI K H1 μ1 s J) (hl : s.1.length ≤ sizeLine) (hN : H1 N = none)
    (hp : match compL g tt te s.2 (wipeD ρ vs) s.1 eh1 with
      | .ok ds eh2 => ∀ (H2 : Hp) (μ2 : List Addr) (xs : List V), Ext K H1 μ1 H2 μ2 → RelH K H2 μ2 eh2 → H2 N = some (.lst xs) → N ∉ μ2 → RelDs K H2 μ2 ds xs → Qd H2
      | _ => False) :
    ∃ Wv : Nat → Nat → Hp → Prop, (∃ m, Wv 0 m (upd H1 N (.lst []))) ∧ ∀ i m H, Wv i m H → (J.stop i H ∧ Qd H) ∨ (J.go i H ∧ ∃ Nx : Hp → Prop, (∀ H', Nx H' → ∃ m', m' < m ∧ Wv (i + 1) m' H') ∧ ∀ x H', J.yld i H x H' → rdG K (fun _ _ _ _ => False) is g x (wipe σ vs) H' fun σ2 H2 => wipe σ2 vs = wipe σ vs ∧ rdT K (fun _ _ _ _ => False) tt σ2 H2 fun b H3 =>
      if b = true then rdE K (fun _ _ _ _ => False) te σ2 H3 fun y H4 => ∃ acc, H4 N = some (.lst acc) ∧ acc.length < sizeLine ∧ Nx (upd H4 N (.lst (acc ++ [y]))) else Nx H3) := by
  -- what is left to make, with what is made
  let Inv1 := fun (i : Nat) (H : Hp) => ∃ (μ : List Addr) (eh : List O) (acc : List V) (ad : List D), Ext K H1 μ1 H μ ∧ RelH K H μ eh ∧ H N = some (.lst acc) ∧ N ∉ μ ∧ RelDs K H μ ad acc ∧ ad.length ≤ i ∧ i ≤ s.1.length ∧
    (match compL g tt te s.2 (wipeD ρ vs) (s.1.drop i) eh with
      | .ok ds eh2 => ∀ (H2 : Hp) (μ2 : List Addr) (xs : List V), Ext K H1 μ1 H2 μ2 → RelH K H2 μ2 eh2 → H2 N = some (.lst xs) → N ∉ μ2 → RelDs K H2 μ2 (ad ++ ds) xs → Qd H2
      | _ => False)
  have e0 : Ext K H1 μ1 (upd H1 N (.lst [])) μ1 := ext_off hN
  refine ⟨fun i m H => m = s.1.length - i ∧ Inv1 i H, ⟨s.1.length, by simp, μ1, eh1, [], [], e0, hH.off hN, upd_same, hH.mem_ne hN, rfl, Nat.le_refl _, Nat.zero_le _, by simpa using hp⟩, ?_⟩
  rintro i m H ⟨rfl, μ, eh, acc, ad, hE, hR, hA, hNm, hD, hal, hi, hq⟩
  by_cases hlt : i < s.1.length
  · rw [List.drop_eq_getElem_cons hlt] at hq
    unfold compL at hq
    by_cases hgd : s.2 eh = true
    · rw [if_pos hgd] at hq
      obtain ⟨go, hy⟩ := (hJ i H μ eh hE hR hgd).2 s.1[i] (List.getElem?_eq_getElem hlt)
      refine .inr ⟨go, Inv1 (i + 1), fun H' q => ⟨s.1.length - (i + 1), by omega, rfl, q⟩, fun x H2 hx => ?_⟩
      obtain ⟨e2, hH2, hd⟩ := hy x H2 hx
      have hN2 : H2 N = some (.lst acc) := e2.fr N _ hA hNm
      refine ⟨μ, wipeD ρ vs, eh, s.1[i], ((hS.mono hE).mono e2).wipe vs, hH2, hd, ?_⟩
      unfold gtR at hq
      revert hq
      cases hg1 : g s.1[i] (wipeD ρ vs) eh with
      | bad => exact fun z => z.elim
      | exc c h => exact fun z => z.elim
      | ok ρ3 eh3 =>
        intro hq σ3 H3 μ3 e3 hH3 hS3 hw3
        refine ⟨?_, μ3, ρ3, eh3, hS3, hH3, ?_⟩
        · rw [hw3 vs his]
          have idem : ∀ us : List Nat, (∀ i ∈ us, i ∈ vs) → wipe (wipe σ us) vs = wipe σ vs := by
            intro us
            induction us with
            | nil => intro _; rfl
            | cons u us ih =>
              intro hu
              show wipe ((wipe σ us).set u none) vs = wipe σ vs
              rw [wipe_set _ u none vs (hu u (by simp)), ih fun i hi => hu i (List.mem_cons_of_mem _ hi)]
          exact idem vs fun _ h => h
        · dsimp only [R.nox, R.bind] at hq
          have hN3m : N ∉ μ := hNm
          have k3 : H3 N = some (.lst acc) := e3.fr N _ hN2 hNm
          have n3 : N ∉ μ3 := fun z => by
            obtain ⟨ν, ev, hv⟩ := e3.pre
            rw [ev] at z
            rcases List.mem_append.mp z with z | z
            · exact hNm z
            · rw [(hv N z).2] at hN2
              cases hN2
          have e13 := (hE.trans e2).trans e3
          revert hq
          cases ht1 : tt ρ3 eh3 with
          | bad => exact fun z => z.elim
          | exc c h => exact fun z => z.elim
          | ok b eh4 =>
            intro hq b' H4 μ4 e4 hH4 hb
            have hb2 : b = b' := hb
            subst hb2
            dsimp only at hq
            have k4 : H4 N = some (.lst acc) := e4.fr N _ k3 n3
            have n4 : N ∉ μ4 := fun z => by
              obtain ⟨ν, ev, hv⟩ := e4.pre
              rw [ev] at z
              rcases List.mem_append.mp z with z | z
              · exact n3 z
              · rw [(hv N z).2] at k3
                cases k3
            have e14 := e13.trans e4
            have D4 := (((hD.mono e2).mono e3).mono e4)
            cases b with
            | false =>
              rw [if_neg Bool.false_ne_true] at hq ⊢
              exact ⟨μ4, eh4, acc, ad, e14, hH4, k4, n4, D4, by omega, hlt, hq⟩
            | true =>
              rw [if_pos rfl] at hq ⊢
              refine ⟨μ4, ρ3, eh4, hS3.mono e4, hH4, ?_⟩
              revert hq
              cases hv1 : te ρ3 eh4 with
              | bad => exact fun z => z.elim
              | exc c h => exact fun z => z.elim
              | ok v eh5 =>
                intro hq y H5 μ5 e5 hH5 hy5
                dsimp only at hq
                have k5 : H5 N = some (.lst acc) := e5.fr N _ k4 n4
                have n5 : N ∉ μ5 := fun z => by
                  obtain ⟨ν, ev, hv⟩ := e5.pre
                  rw [ev] at z
                  rcases List.mem_append.mp z with z | z
                  · exact n4 z
                  · rw [(hv N z).2] at k4
                    cases k4
                have e15 := e14.trans e5
                have nf : ∀ u w, H5 N ≠ some (.frz u w) := fun u w z => by rw [k5] at z; cases z
                have nt : ∀ w, H5 N ≠ some (.tup w) := fun w z => by rw [k5] at z; cases z
                have mo : Mo K H5 μ5 (upd H5 N (.lst (acc ++ [y]))) μ5 := mo_off nf nt
                refine ⟨acc, k5, ?_, μ5, eh5, acc ++ [y], ad ++ [v], ?_, hH5.mo mo fun a ha => upd_ne fun z => n5 (by rw [← z]; exact ha), upd_same, n5, ?_, by simp; omega, hlt, ?_⟩
                · rw [hD.len]
                  omega
                · refine ⟨e15.pre, fun a o h1 h2 => ?_, fun a xs h => mo.tp _ _ (e15.tp _ _ h), fun a xs h => mo.tf _ _ (e15.tf _ _ h)⟩
                  have ne : a ≠ N := fun z => by rw [z, hN] at h1; cases h1
                  rw [upd_ne ne]
                  exact e15.fr a o h1 h2
                · exact ((D4.mono e5).app (RelDs.one hy5)).mo mo
                · revert hq
                  cases compL g tt te s.2 (wipeD ρ vs) (s.1.drop (i + 1)) eh5 with
                  | bad => exact id
                  | exc c h => exact id
                  | ok ds eh6 =>
                    intro hq H6 μ6 xs e6 hH6 hx6 n6 hd6
                    exact hq H6 μ6 xs e6 hH6 hx6 n6 (by rw [List.append_assoc] at hd6; exact hd6)
    · rw [if_neg hgd] at hq
      exact hq.elim
  · have ei : i = s.1.length := by omega
    subst ei
    rw [List.drop_length] at hq
    unfold compL at hq
    by_cases hgd : s.2 eh = true
    · rw [if_pos hgd] at hq
      exact .inl ⟨(hJ _ H μ eh hE hR hgd).1 (Nat.le_refl _), hq H μ acc hE hR hA hNm (by simpa using hD)⟩
    · rw [if_neg hgd] at hq
      exact hq.elim
end
section
variable {X : Cx} {W : WX} {pos : Pos}
theorem compL_noexc {g : GT} {tt : M Bool} {te : ME} {gd : List O → Bool} {ρ : Sl} : ∀ {ds : List D} {h h' : List O} {c : Str}, compL g tt te gd ρ ds h = .exc c h' → False
  | [], h, h', c, q => by
    unfold compL at q
    split at q <;> cases q
  | d :: ds, h, h', c, q => by
    unfold compL at q
    split at q
    · cases h1 : gtR g d ρ h with
      | bad => rw [h1] at q; cases q
      | exc c h2 =>
        unfold gtR at h1
        cases h3 : g d ρ h <;> rw [h3] at h1 <;> cases h1
      | ok ρ1 h2 =>
        rw [h1] at q
        dsimp only [R.bind] at q
        cases h4 : tt ρ1 h2 with
        | bad => rw [h4] at q; cases q
        | exc c h5 => rw [h4] at q; cases q
        | ok b h5 =>
          rw [h4] at q
          dsimp only [R.bind, R.nox] at q
          split at q
          · cases h6 : te ρ1 h5 with
            | bad => rw [h6] at q; cases q
            | exc c h7 => rw [h6] at q; cases q
            | ok v h7 =>
              rw [h6] at q
              dsimp only [R.bind, R.nox] at q
              cases h8 : compL g tt te gd ρ ds h7 with
              | bad => rw [h8] at q; cases q
              | exc c h9 => exact compL_noexc h8
              | ok vs h9 => rw [h8] at q; cases q
          · exact compL_noexc q
    · cases q
/-- what the block's context is -/
abbrev BX (X : Cx) (scope : Scope) (s : Shared) (H : Hp) (C : Addr) (cl : List (Str × Addr)) (fp : List Addr) : Cx := X.blk s H scope (compEnvC scope cl C X.env) fp
abbrev W0 : WX := fun _ _ _ _ => False
theorem lc_read {src : MI} {vs : List Nat} {is : List Nat} {g : GT} {tt : M Bool} {te : ME} (his : ∀ i ∈ is, i ∈ vs) {σ : L2.St} {H : Hp} {Q : VK} (h : rdE X.K W (mNew (mLcI src vs g tt te)) σ H Q) :
    tLc (rdI X.K W src) (rdG X.K W0 is g) (rdT X.K W0 tt) (rdE X.K W0 te) vs σ H Q := by
  have em : mNew (mLcI src vs g tt te) = fun ρ h => (src ρ h).bind fun s h1 => (if s.1.length ≤ sizeLine then compL g tt te s.2 (wipeD ρ vs) s.1 h1 else .bad).bind allocL := by
    funext ρ h
    exact R.bind_assoc _ _ _
  have h' : rdE X.K W (fun ρ h => (src ρ h).bind fun s h1 => (if s.1.length ≤ sizeLine then compL g tt te s.2 (wipeD ρ vs) s.1 h1 else .bad).bind allocL) σ H Q := by rw [← em]; exact h
  refine rdM.bind (rel := relI X.K) (f := fun s ρ h1 => (if s.1.length ≤ sizeLine then compL g tt te s.2 (wipeD ρ vs) s.1 h1 else .bad).bind allocL) h' fun J H1 s μ1 ρ eh1 hS hH hJ hp => ?_
  intro N hN1
  by_cases hl : s.1.length ≤ sizeLine
  · rw [if_pos hl] at hp
    refine lc_run (wi := src) his hS hH hJ hl hN1 (Qd := fun H' => Q (.ref N) H') ?_
    revert hp
    cases q : compL g tt te s.2 (wipeD ρ vs) s.1 eh1 with
    | bad => exact id
    | exc c h => exact (compL_noexc q).elim
    | ok ds eh2 =>
      intro hp H2 μ2 xs e2 hH2 hx hn hd
      have mo : Mo X.K H2 μ2 H2 (μ2 ++ [N]) := ⟨fun i a hi => by
        have hl : i < μ2.length := (List.getElem?_eq_some_iff.mp hi).1
        rw [List.getElem?_append_left hl]; exact hi, fun _ _ h => h, fun _ _ h => h⟩
      have hH3 : RelH X.K H2 (μ2 ++ [N]) (eh2 ++ [.lst ds]) := by
        refine ⟨by simp [hH2.len], ?_, fun i a o h1 h2 => ?_⟩
        · rw [List.nodup_append]
          refine ⟨hH2.nd, by simp, fun a ha b hb e => ?_⟩
          have eb : b = N := by simpa using hb
          rw [e, eb] at ha
          exact hn ha
        · by_cases hi : i < μ2.length
          · rw [List.getElem?_append_left hi] at h1
            rw [List.getElem?_append_left (by rw [← hH2.len]; exact hi)] at h2
            exact (hH2.obj i a o h1 h2).mo mo rfl
          · have hl : i < (μ2 ++ [N]).length := (List.getElem?_eq_some_iff.mp h1).1
            have ei : i = μ2.length := by
              rw [List.length_append, List.length_singleton] at hl
              omega
            subst ei
            rw [List.getElem?_append_right (Nat.le_refl _)] at h1
            rw [hH2.len, List.getElem?_append_right (Nat.le_refl _)] at h2
            simp at h1 h2
            subst h1 h2
            exact ⟨xs, hx, hd.mo mo⟩
      have e3 : Ext X.K H1 μ1 H2 (μ2 ++ [N]) := by
        obtain ⟨ν, ev, hv⟩ := e2.pre
        refine ⟨⟨ν ++ [N], by rw [ev, List.append_assoc], fun a ha => ?_⟩, e2.fr, e2.tp, e2.tf⟩
        rcases List.mem_append.mp ha with ha | ha
        · exact hv a ha
        · have ea : a = N := by simpa using ha
          rw [ea]
          exact ⟨hH.mem_ne hN1, hN1⟩
      refine hp (.ref N) H2 (μ2 ++ [N]) e3 hH3 ⟨N, rfl, ?_⟩
      rw [← hH2.len, List.getElem?_append_right (Nat.le_refl _)]
      simp
  · rw [if_neg hl] at hp
    exact hp.elim
theorem se_lc {elt tg iter : Expr} {ifs : List Expr} {scope : Scope} {own : List (Str × Nat)} {src : MI} {is : List Nat} {g : GT} {tt : M Bool} {te : ME} (hc : X.calm = true) (hN : X.N.Nodup) (hi : SI X W tg iter src) (ok : BlkOk X.N X.env.scope scope own) (his : ∀ i ∈ is, i ∈ own.map (·.2))
    (hg : ∀ (s : Shared) (H : Hp) (C : Addr) (cl : List (Str × Addr)) (fp : List Addr), SG (BX X scope s H C cl fp) W0 tg is g) (ht : ∀ (s : Shared) (H : Hp) (C : Addr) (cl : List (Str × Addr)) (fp : List Addr), PTs (BX X scope s H C cl fp) ifs (rdT X.K W0 tt))
    (he : ∀ (s : Shared) (H : Hp) (C : Addr) (cl : List (Str × Addr)) (fp : List Addr), SE (BX X scope s H C cl fp) W0 elt te) (hs : ∀ x, foldedSetIterable iter X.env x = pure x := by intro _; rfl) :
    SE X W (.ListComp elt [⟨tg, iter, ifs, 0⟩] scope pos) (mNew (mLcI src (own.map (·.2)) g tt te)) := by
  refine pe_imp (pe_lc (g := rdG X.K W0 is g) (tt := rdT X.K W0 tt) (te := rdE X.K W0 te) hc hN hi ok hg ht he hs) fun σ H Q h => lc_read his h
theorem sel_lc {elt tg iter : Expr} {ifs : List Expr} {scope : Scope} {own : List (Str × Nat)} {src : MI} {is : List Nat} {g : GT} {tt : M Bool} {te : ME} (hc : X.calm = true) (hN : X.N.Nodup) (hi : SI X W tg iter src) (ok : BlkOk X.N X.env.scope scope own) (his : ∀ i ∈ is, i ∈ own.map (·.2))
    (hg : ∀ (s : Shared) (H : Hp) (C : Addr) (cl : List (Str × Addr)) (fp : List Addr), SG (BX X scope s H C cl fp) W0 tg is g) (ht : ∀ (s : Shared) (H : Hp) (C : Addr) (cl : List (Str × Addr)) (fp : List Addr), PTs (BX X scope s H C cl fp) ifs (rdT X.K W0 tt))
    (he : ∀ (s : Shared) (H : Hp) (C : Addr) (cl : List (Str × Addr)) (fp : List Addr), SE (BX X scope s H C cl fp) W0 elt te) (hs : ∀ x, foldedSetIterable iter X.env x = pure x := by intro _; rfl) :
    SEL X W (.ListComp elt [⟨tg, iter, ifs, 0⟩] scope pos) (mLcI src (own.map (·.2)) g tt te) := by
  refine pe_imp (pe_lc (g := rdG X.K W0 is g) (tt := rdT X.K W0 tt) (te := rdE X.K W0 te) hc hN hi ok hg ht he hs) fun σ H Q h => ?_
  refine rdM.bind (rel := relI X.K) (f := fun s ρ h1 => if s.1.length ≤ sizeLine then compL g tt te s.2 (wipeD ρ (own.map (·.2))) s.1 h1 else .bad) h fun J H1 s μ1 ρ eh1 hS hH hJ hp => ?_
  intro N hN1
  by_cases hl : s.1.length ≤ sizeLine
  · rw [if_pos hl] at hp
    refine lc_run (wi := src) his hS hH hJ hl hN1 (Qd := fun H' => Q (.ref N) H') ?_
    revert hp
    cases q : compL g tt te s.2 (wipeD ρ (own.map (·.2))) s.1 eh1 with
    | bad => exact id
    | exc c h => exact (compL_noexc q).elim
    | ok ds eh2 => exact fun hp H2 μ2 xs e2 hH2 hx hn hd => hp (.ref N) H2 μ2 e2 hH2 ⟨N, xs, rfl, hx, hd, hn⟩
  · rw [if_neg hl] at hp
    exact hp.elim
theorem spt_nil : PTs X [] (rdT X.K W tYesD) := by
  refine ⟨fun pins s σ H Q I h => pts_nil.run pins s σ H Q I ?_⟩
  obtain ⟨μ, ρ, eh, hS, hH, hp⟩ := h
  exact hp true H μ .refl hH rfl
theorem spt_one {c : Expr} {m : M Bool} (h : ST X W c m) : PTs X [c] (rdT X.K W m) := pts_one h
end
end SL
set_option Elab.async false
set_option linter.all false
set_option maxRecDepth 100000
set_option maxHeartbeats 1000000
namespace SL
open PySem PySem.Spec PyProof.Rows L2
section
variable {K : PySem.W.Frag} {W : WX} {σ : L2.St} {H : Hp} {μ : List Addr} {eh : List O}
theorem post_ok {d : D} {v : V} {Q : VK} (hp : PostG K (RelD K) W σ H μ (.ok d eh) Q) (hH : RelH K H μ eh) (hr : RelD K H μ d v) : Q v H := hp v H μ .refl hH hr
end
/-! ### numbers -/
def fAdd : F2 := fun x y h => match x, y with
  | .int i, .int j => .ok (.int (i + j)) h
  | .str a, .str b => if a.length + b.length ≤ sizeLine then .ok (.str (a ++ b)) h else .bad
  | .ref m, .ref n => (match h[m]?, h[n]? with
    | some (.lst a), some (.lst b) => if a.length + b.length ≤ sizeLine then allocL (a ++ b) h else .bad
    | _, _ => .bad)
  | .tup a, .tup b => if a.length + b.length ≤ sizeLine then .ok (.tup (a ++ b)) h else .bad
  | _, _ => .bad
theorem alloc_sim {K : PySem.W.Frag} {W : WX} {σ : L2.St} {H : Hp} {μ : List Addr} {eh : List O} {xs : List V} {ds : List D} {Q : VK} (hH : RelH K H μ eh) (hr : RelDs K H μ ds xs) (h : PostG K (RelD K) W σ H μ (allocL ds eh) Q) : ∀ p, H p = none → Q (.ref p) (upd H p (.lst xs)) := fun p hp => by
  have e : Ext K H μ (upd H p (.lst xs)) (μ ++ [p]) := ext_new hp (hH.mem_ne hp)
  refine h _ _ (μ ++ [p]) e (hH.new hp ⟨xs, upd_same, hr.mono e _ _⟩) ⟨p, rfl, ?_⟩
  rw [← hH.len, List.getElem?_append_right (Nat.le_refl _)]
  simp
theorem RelH.lst {K : PySem.W.Frag} {H : Hp} {μ : List Addr} {eh : List O} (hH : RelH K H μ eh) {n : Nat} {x : V} {ds : List D} (hx : RelD K H μ (.ref n) x) (e : eh[n]? = some (.lst ds)) : ∃ a vs, x = .ref a ∧ μ[n]? = some a ∧ H a = some (.lst vs) ∧ RelDs K H μ ds vs := by
  obtain ⟨a, ha, hm⟩ := hx
  obtain ⟨a', ha', vs, h1, h2⟩ := hH.get e
  have ea : a' = a := Option.some.inj (ha'.symm.trans hm)
  subst ea
  exact ⟨a', vs, ha, ha', h1, h2⟩
section
variable {X : Cx}
def rAdd4 (K : PySem.W.Frag) : R2 := fun x y H Q => (rI0 (fun i j => .int (i + j)) x y H Q ∨ (∃ i j, x = .str i ∧ y = .str j ∧ i.length + j.length ≤ sizeLine ∧ Q (.str (i ++ j)) H)) ∨ (rCat x y H Q ∨ rCatA K x y H Q)
theorem o_add : OpR X (binaryOp .Add) (rAdd4 X.K) := (op_add.or op_add_str).or (op_cat.or op_catA)
theorem s_add (K : PySem.W.Frag) : Sim2 K (rAdd4 K) fAdd := by
  intro W σ H μ eh x y dx dy Q hH hx hy hp
  unfold fAdd at hp
  split at hp
  · rename_i i j
    exact .inl (.inl ⟨i, j, hx, hy, post_ok hp hH rfl⟩)
  · rename_i a b
    split at hp
    · rename_i hl
      exact .inl (.inr ⟨a, b, hx, hy, hl, post_ok hp hH rfl⟩)
    · exact hp.elim
  · rename_i m n
    split at hp
    · rename_i a b e1 e2
      split at hp
      · rename_i hl
        obtain ⟨p, vs, ep, _, h1, r1⟩ := hH.lst hx e1
        obtain ⟨q, us, eq, _, h2, r2⟩ := hH.lst hy e2
        exact .inr (.inl ⟨p, q, vs, us, ep, eq, h1, h2, by rw [r1.len, r2.len]; exact hl, alloc_sim hH (r1.app r2) hp⟩)
      · exact hp.elim
    · exact hp.elim
  · rename_i a b
    split at hp
    · rename_i hl
      obtain ⟨p, vs, ep, h1, r1⟩ := hx
      obtain ⟨q, us, eq, h2, r2⟩ := hy
      refine .inr (.inr ⟨p, q, vs, us, ep, eq, h1, h2, by rw [r1.len, r2.len]; exact hl, fun z => ?_, fun _ z => ?_, fun _ _ p' hp' => ?_⟩)
      · have ea : a = [] := by
          have := r1.len
          rw [z] at this
          exact List.length_eq_zero_iff.mp this.symm
        subst ea
        exact post_ok hp hH ⟨q, us, rfl, h2, r2⟩
      · have eb : b = [] := by
          have := r2.len
          rw [z] at this
          exact List.length_eq_zero_iff.mp this.symm
        subst eb
        rw [List.append_nil] at hp
        exact post_ok hp hH ⟨p, vs, rfl, h1, r1⟩
      · have e : Ext K H μ (upd H p' (.tup (vs ++ us))) μ := ext_off hp'
        exact hp _ _ μ e (hH.off hp') ⟨p', _, rfl, .inl (.inl upd_same), (r1.app r2).mono e _ _⟩
    · exact hp.elim
  · exact hp.elim
def fSub : F2 := fun x y h => match x, y with
  | .int i, .int j => .ok (.int (i - j)) h
  | _, _ => .bad
theorem s_sub (K : PySem.W.Frag) : Sim2 K (rI0 fun i j => .int (i - j)) fSub := by
  intro W σ H μ eh x y dx dy Q hH hx hy hp
  unfold fSub at hp
  split at hp
  · exact ⟨_, _, hx, hy, post_ok hp hH rfl⟩
  · exact hp.elim
/-- how large a product may be -/
def mulOk (i j : Int) : Bool := decide (i.natAbs < 2 ^ 64) || (decide (j.natAbs < 2 ^ 64) || decide (i.natAbs.log2 + j.natAbs.log2 < 1000000))
def fMul : F2 := fun x y h => match x, y with
  | .int i, .int j => if mulOk i j = true then .ok (.int (i * j)) h else .bad
  | .ref m, .int k => (match h[m]? with
    | some (.lst a) => if -(2 ^ 63) ≤ k ∧ k < 2 ^ 63 ∧ a.length * k.toNat ≤ sizeLine then allocL (List.replicate k.toNat a).flatten h else .bad
    | _ => .bad)
  | .str a, .int k => if 1 < k ∧ k < 2 ^ 63 ∧ a.length ≠ 0 ∧ a.length * k.toNat ≤ sizeLine then .ok (.str ⟨(List.replicate k.toNat a.cps.toList).flatten.toArray⟩) h else .bad
  | _, _ => .bad
theorem mulOk_ok {i j : Int} (h : mulOk i j = true) : CMul i j ∨ CMulW i j := by
  unfold mulOk at h
  simp only [Bool.or_eq_true, decide_eq_true_eq] at h
  rcases h with h | h | h
  · exact .inl (.inl ⟨by omega, by omega⟩)
  · exact .inl (.inr ⟨by omega, by omega⟩)
  · exact .inr h
theorem RelDs.rep {K : PySem.W.Frag} {H : Hp} {μ : List Addr} {ds : List D} {vs : List V} (h : RelDs K H μ ds vs) : ∀ k : Nat, RelDs K H μ (List.replicate k ds).flatten (List.replicate k vs).flatten
  | 0 => rfl
  | k + 1 => by
    rw [List.replicate_succ, List.replicate_succ, List.flatten_cons, List.flatten_cons]
    exact h.app (RelDs.rep h k)
def rMulS : R2 := fun x y H Q => ∃ (a : Str) (k : Int), x = .str a ∧ y = .int k ∧ 1 < k ∧ k < 2 ^ 63 ∧ a.length ≠ 0 ∧ a.length * k.toNat ≤ sizeLine ∧ Q (.str ⟨(List.replicate k.toNat a.cps.toList).flatten.toArray⟩) H
theorem rep_toList (x : Str) : ∀ k : Nat, ((List.replicate k x.cps).foldl (· ++ ·) #[]) = (List.replicate k x.cps.toList).flatten.toArray := by
  have go : ∀ (k : Nat) (acc : Array Nat), (List.replicate k x.cps).foldl (· ++ ·) acc = acc ++ (List.replicate k x.cps.toList).flatten.toArray := by
    intro k
    induction k with
    | zero => intro acc; simp
    | succ k ih =>
      intro acc
      rw [List.replicate_succ, List.foldl_cons, ih, List.replicate_succ, List.flatten_cons]
      apply Array.toList_inj.mp
      simp
  intro k
  rw [go]
  simp
theorem o_mulS : OpR X (binaryOp .Mult) rMulS := by
  intro pins s σ H x y v u Q I rx ry h
  obtain ⟨a, k, rfl, rfl, h1, h2, h3, h4, q⟩ := h
  obtain ⟨t, rfl⟩ := rx
  obtain ⟨t', rfl⟩ := ry
  have z : sizeLine = 16777216 := by rw [sizeLine_eq]
  have hk : k.toNat * a.length ≤ 16777216 := by rw [Nat.mul_comm, ← z]; exact h4
  have hlen : (⟨(List.replicate k.toNat a.cps).foldl (· ++ ·) #[]⟩ : Str).length ≤ sizeLine := by
    rw [rep_toList]
    show ((List.replicate k.toNat a.cps.toList).flatten.toArray).size ≤ sizeLine
    rw [List.size_toArray, List.length_flatten, List.map_replicate, List.sum_replicate_nat, Array.length_toList, Nat.mul_comm]
    exact h4
  refine PySem.P.mul_str ?_ (fun _ _ => ?_) (fun _ _ => ?_) ?_
  · rw [decide_eq_false (by omega), decide_eq_false (by omega)]
    rfl
  · intro hb
    have hb' : k * ((a.length : Int)) > 2 ^ 63 - 1 := by
      have q0 : 0 < k := by omega
      have := Int.lt_ediv_iff_mul_lt q0 (a := (2 ^ 63 - 1 : Int)) (b := (a.length : Int))
      by_cases hc : (a.length : Int) * k ≤ 2 ^ 63 - 1
      · have := (Int.le_ediv_iff_mul_le q0).mpr hc
        omega
      · rw [Int.mul_comm]
        omega
    have hk' : k * (a.length : Int) ≤ 16777216 := by
      have e : ((k.toNat * a.length : Nat) : Int) = k * (a.length : Int) := by
        rw [Int.natCast_mul, Int.toNat_of_nonneg (by omega)]
      rw [← e]
      omega
    omega
  · unfold Builtin.Str.tooLong
    exact decide_eq_false (by omega)
  · rw [if_neg (by omega), if_neg (by
      intro hz
      rcases Bool.or_eq_true_iff.mp hz with hz | hz
      · have := eq_of_beq hz
        omega
      · have := eq_of_beq hz
        exact h3 this)]
    exact ⟨hlen, .str _, H, I.tok _, ⟨_, by rw [rep_toList]⟩, q⟩
def rMul5 (K : PySem.W.Frag) : R2 := fun x y H Q => (rI CMul (fun i j => .int (i * j)) x y H Q ∨ rI CMulW (fun i j => .int (i * j)) x y H Q) ∨ (rRep x y H Q ∨ rMulS x y H Q)
theorem o_mul : OpR X (binaryOp .Mult) (rMul5 X.K) := (op_mul.or op_mulW).or (op_rep.or o_mulS)
theorem s_mul (K : PySem.W.Frag) : Sim2 K (rMul5 K) fMul := by
  intro W σ H μ eh x y dx dy Q hH hx hy hp
  unfold fMul at hp
  split at hp
  · split at hp
    · rename_i hc
      rcases mulOk_ok hc with hc | hc
      · exact .inl (.inl ⟨_, _, hx, hy, hc, post_ok hp hH rfl⟩)
      · exact .inl (.inr ⟨_, _, hx, hy, hc, post_ok hp hH rfl⟩)
    · exact hp.elim
  · split at hp
    · rename_i a e
      split at hp
      · rename_i hl
        obtain ⟨p, vs, ep, _, h1, r1⟩ := hH.lst hx e
        exact .inr (.inl ⟨p, _, vs, ep, hy, h1, hl.1, hl.2.1, by rw [r1.len]; exact hl.2.2, alloc_sim hH (r1.rep _) hp⟩)
      · exact hp.elim
    · exact hp.elim
  · split at hp
    · rename_i hl
      exact .inr (.inr ⟨_, _, hx, hy, hl.1, hl.2.1, hl.2.2.1, hl.2.2.2, post_ok hp hH rfl⟩)
    · exact hp.elim
  · exact hp.elim
/-- x *= y of ints -/
def fMulI : F2 := fun x y h => match x, y with
  | .int i, .int j => if mulOk i j = true then .ok (.int (i * j)) h else .bad
  | _, _ => .bad
def rMulI : R2 := fun x y H Q => rI CMul (fun i j => .int (i * j)) x y H Q ∨ rI CMulW (fun i j => .int (i * j)) x y H Q
theorem io_mul : OpR X (inplaceOp .Mult) rMulI := by
  refine iop_mul.or ?_
  exact opI fun _ _ _ _ _ _ _ hc q => imul_int q hc.ok
theorem s_mulI (K : PySem.W.Frag) : Sim2 K rMulI fMulI := by
  intro W σ H μ eh x y dx dy Q hH hx hy hp
  unfold fMulI at hp
  split at hp
  · split at hp
    · rename_i hc
      rcases mulOk_ok hc with hc | hc
      · exact .inl ⟨_, _, hx, hy, hc, post_ok hp hH rfl⟩
      · exact .inr ⟨_, _, hx, hy, hc, post_ok hp hH rfl⟩
    · exact hp.elim
  · exact hp.elim
def fAddI : F2 := fun x y h => match x, y with
  | .int i, .int j => .ok (.int (i + j)) h
  | _, _ => .bad
theorem s_addI (K : PySem.W.Frag) : Sim2 K (rI0 fun i j => .int (i + j)) fAddI := by
  intro W σ H μ eh x y dx dy Q hH hx hy hp
  unfold fAddI at hp
  split at hp
  · exact ⟨_, _, hx, hy, post_ok hp hH rfl⟩
  · exact hp.elim
/-- // and % by a positive number -/
def fDiv : F2 := fun x y h => match x, y with
  | .int i, .int j => if 0 < j ∧ (j < 1073741824 ∨ j.natAbs.log2 ≤ 8999) then .ok (.int (i / j)) h else if j ≠ 0 ∧ j.natAbs < 1073741824 then .ok (.int (i.fdiv j)) h else .bad
  | _, _ => .bad
def rDiv3 : R2 := fun x y H Q => (rI CDiv (fun i j => .int (i / j)) x y H Q ∨ rI CDivW (fun i j => .int (i / j)) x y H Q) ∨ rI CDivN (fun i j => .int (i.fdiv j)) x y H Q
theorem o_div : OpR X (binaryOp .FloorDiv) rDiv3 := (op_fdiv.or op_fdivW).or op_fdivN
theorem s_div (K : PySem.W.Frag) : Sim2 K rDiv3 fDiv := by
  intro W σ H μ eh x y dx dy Q hH hx hy hp
  unfold fDiv at hp
  split at hp
  · split at hp
    · rename_i hc
      rcases hc.2 with h2 | h2
      · exact .inl (.inl ⟨_, _, hx, hy, ⟨hc.1, h2⟩, post_ok hp hH rfl⟩)
      · exact .inl (.inr ⟨_, _, hx, hy, ⟨hc.1, by omega⟩, post_ok hp hH rfl⟩)
    · split at hp
      · rename_i hc
        exact .inr ⟨_, _, hx, hy, hc, post_ok hp hH rfl⟩
      · exact hp.elim
  · exact hp.elim
def fMod : F2 := fun x y h => match x, y with
  | .int i, .int j => if 0 < j then .ok (.int (i % j)) h else if j ≠ 0 then .ok (.int (i.fmod j)) h else .bad
  | _, _ => .bad
def rMod2 : R2 := fun x y H Q => rI (fun _ j => 0 < j) (fun i j => .int (i % j)) x y H Q ∨ rI (fun _ j => j ≠ 0) (fun i j => .int (i.fmod j)) x y H Q
theorem o_mod : OpR X (binaryOp .Mod) rMod2 := op_mod.or op_modN
theorem s_mod (K : PySem.W.Frag) : Sim2 K rMod2 fMod := by
  intro W σ H μ eh x y dx dy Q hH hx hy hp
  unfold fMod at hp
  split at hp
  · split at hp
    · rename_i hc
      exact .inl ⟨_, _, hx, hy, hc, post_ok hp hH rfl⟩
    · split at hp
      · rename_i hc
        exact .inr ⟨_, _, hx, hy, hc, post_ok hp hH rfl⟩
      · exact hp.elim
  · exact hp.elim
def fPow : F2 := fun x y h => match x, y with
  | .int i, .int j => if 0 ≤ j ∧ j ≤ 1000000 ∧ i.natAbs < 2 ^ 64 then .ok (.int (i ^ j.toNat)) h else .bad
  | _, _ => .bad
theorem s_pow (K : PySem.W.Frag) : Sim2 K (rI CPow fun i j => .int (i ^ j.toNat)) fPow := by
  intro W σ H μ eh x y dx dy Q hH hx hy hp
  unfold fPow at hp
  split at hp
  · split at hp
    · rename_i hc
      exact ⟨_, _, hx, hy, hc, post_ok hp hH rfl⟩
    · exact hp.elim
  · exact hp.elim
def fNeg : F1 := fun x h => match x with
  | .int i => .ok (.int (-i)) h
  | _ => .bad
theorem s_neg (K : PySem.W.Frag) : Sim1 K (rU fun i => .int (-i)) fNeg := by
  intro W σ H μ eh x dx Q hH hx hp
  unfold fNeg at hp
  split at hp
  · exact ⟨_, hx, post_ok hp hH rfl⟩
  · exact hp.elim
/-! ### comparisons -/
/-- a comparison of two ints or of two texts -/
def fCmp (f : Int → Int → Bool) (g : List Nat → List Nat → Bool) : F2 := fun x y h => match x, y with
  | .int i, .int j => .ok (.bl (f i j)) h
  | .str a, .str b => .ok (.bl (g a.cps.toList b.cps.toList)) h
  | _, _ => .bad
def rCmp (f : Int → Int → Bool) (g : List Nat → List Nat → Bool) : R2 := fun x y H Q => rI0 (fun i j => .bl (f i j)) x y H Q ∨ ∃ i j : Str, x = .str i ∧ y = .str j ∧ Q (.bl (g i.cps.toList j.cps.toList)) H
theorem s_cmp (K : PySem.W.Frag) (f : Int → Int → Bool) (g : List Nat → List Nat → Bool) : Sim2 K (rCmp f g) (fCmp f g) := by
  intro W σ H μ eh x y dx dy Q hH hx hy hp
  unfold fCmp at hp
  split at hp
  · exact .inl ⟨_, _, hx, hy, post_ok hp hH rfl⟩
  · exact .inr ⟨_, _, hx, hy, post_ok hp hH rfl⟩
  · exact hp.elim
abbrev fLt : F2 := fCmp (fun i j => decide (i < j)) (fun a b => decide (a < b))
abbrev fLe : F2 := fCmp (fun i j => decide (i ≤ j)) (fun a b => !decide (b < a))
abbrev fGt : F2 := fCmp (fun i j => decide (j < i)) (fun a b => decide (b < a))
abbrev fGe : F2 := fCmp (fun i j => decide (j ≤ i)) (fun a b => !decide (a < b))
theorem o_lt : OpR X (compareOp .Lt) (rCmp (fun i j => decide (i < j)) (fun a b => decide (a < b))) := op_lt.or op_lt_str
theorem o_le : OpR X (compareOp .LtE) (rCmp (fun i j => decide (i ≤ j)) (fun a b => !decide (b < a))) := op_le.or op_le_str
theorem o_gt : OpR X (compareOp .Gt) (rCmp (fun i j => decide (j < i)) (fun a b => decide (b < a))) := op_gt.or op_gt_str
theorem o_ge : OpR X (compareOp .GtE) (rCmp (fun i j => decide (j ≤ i)) (fun a b => !decide (a < b))) := op_ge.or op_ge_str
theorem s_lt (K : PySem.W.Frag) : Sim2 K (rCmp (fun i j => decide (i < j)) (fun a b => decide (a < b))) fLt := s_cmp K _ _
theorem s_le (K : PySem.W.Frag) : Sim2 K (rCmp (fun i j => decide (i ≤ j)) (fun a b => !decide (b < a))) fLe := s_cmp K _ _
theorem s_gt (K : PySem.W.Frag) : Sim2 K (rCmp (fun i j => decide (j < i)) (fun a b => decide (b < a))) fGt := s_cmp K _ _
theorem s_ge (K : PySem.W.Frag) : Sim2 K (rCmp (fun i j => decide (j ≤ i)) (fun a b => !decide (a < b))) fGe := s_cmp K _ _
end
end SL
set_option Elab.async false
set_option linter.all false
set_option maxRecDepth 100000
set_option maxHeartbeats 1000000
namespace SL
open PySem PySem.Spec PyProof.Rows L2
/-! ### equality: data as the library has it -/
mutual
def toPy (h : List O) : Nat → D → Option PyData
  | 0, _ => none
  | _ + 1, .non => some .none
  | _ + 1, .bl b => some (.bool b)
  | _ + 1, .int i => some (.int i)
  | _ + 1, .str x => some (.str x)
  | n + 1, .tup ds => (toPys h n ds).map .tuple
  | n + 1, .frl ds => (toPys h n ds).map .list
  | n + 1, .ref k => match h[k]? with
    | some (.lst ds) => (toPys h n ds).map .list
    | _ => none
  | _ + 1, .ty _ => none
def toPys (h : List O) : Nat → List D → Option (List PyData)
  | 0, _ => none
  | _ + 1, [] => some []
  | n + 1, d :: ds => match toPy h n d, toPys h n ds with
    | some p, some ps => some (p :: ps)
    | _, _ => none
end
section
variable {K : PySem.W.Frag} {H : Hp} {μ : List Addr} {eh : List O}
mutual
theorem toPy_ok (hH : RelH K H μ eh) : ∀ (n : Nat) (d : D) (v : V) (p : PyData), RelD K H μ d v → toPy eh n d = some p → Dp K H v p
  | 0, _, _, _, _, e => by simp [toPy] at e
  | n + 1, .non, v, p, r, e => by
    simp [toPy] at e
    rw [show v = .non from r, ← e]
    exact .non
  | n + 1, .bl b, v, p, r, e => by
    simp [toPy] at e
    rw [show v = .bl b from r, ← e]
    exact .bl b
  | n + 1, .int i, v, p, r, e => by
    simp [toPy] at e
    rw [show v = .int i from r, ← e]
    exact .int i
  | n + 1, .str x, v, p, r, e => by
    simp [toPy] at e
    rw [show v = .str x from r, ← e]
    exact .str x
  | n + 1, .ty m, v, p, r, e => by simp [toPy] at e
  | n + 1, .tup ds, v, p, r, e => by
    simp only [toPy, Option.map_eq_some_iff] at e
    obtain ⟨ps, e1, e2⟩ := e
    obtain ⟨a, vs, h1, h2, h3⟩ := r
    rw [h1, ← e2]
    exact .tup h2 (toPys_ok hH n ds vs ps h3 e1)
  | n + 1, .frl ds, v, p, r, e => by
    simp only [toPy, Option.map_eq_some_iff] at e
    obtain ⟨ps, e1, e2⟩ := e
    obtain ⟨a, vs, h1, h2, h3⟩ := r
    rw [h1, ← e2]
    exact .lst h2.l (toPys_ok hH n ds vs ps h3 e1)
  | n + 1, .ref k, v, p, r, e => by
    rw [toPy] at e
    split at e
    · rename_i ds ek
      rw [Option.map_eq_some_iff] at e
      obtain ⟨ps, e1, e2⟩ := e
      obtain ⟨a, vs, ea, _, h1, h2⟩ := hH.lst r ek
      rw [ea, ← e2]
      exact .lst (.inl (.inl h1)) (toPys_ok hH n ds vs ps h2 e1)
    · cases e
theorem toPys_ok (hH : RelH K H μ eh) : ∀ (n : Nat) (ds : List D) (vs : List V) (ps : List PyData), RelDs K H μ ds vs → toPys eh n ds = some ps → DpAll K H vs ps
  | 0, _, _, _, _, e => by simp [toPys] at e
  | n + 1, [], vs, ps, r, e => by
    simp [toPys] at e
    rw [show vs = [] from r, e]
    exact .nil
  | n + 1, d :: ds, vs, ps, r, e => by
    rw [toPys] at e
    split at e
    · rename_i p ps' e1 e2
      cases e
      obtain ⟨v, r', h1, h2, h3⟩ := r
      rw [h1]
      exact .cons (toPy_ok hH n d v p h2 e1) (toPys_ok hH n ds r' ps' h3 e2)
    · cases e
end
end
def pyF : Nat := 1000000
/-- == of data -/
def eqPy (x y : D) (h : List O) : Option Bool := match toPy h pyF x, toPy h pyF y with
  | some a, some b => if SeqAt.shaped a = true ∧ SeqAt.shaped b = true then some (PyData.eqv a b) else none
  | _, _ => none
def fEq : F2 := fun x y h => match x, y with
  | .int i, .int j => .ok (.bl (decide (i = j))) h
  | .str a, .str b => .ok (.bl (decide (a = b))) h
  | .bl a, .bl b => .ok (.bl (decide (a = b))) h
  | .non, .int _ => .ok (.bl false) h
  | .int _, .non => .ok (.bl false) h
  | .int _, .str _ => .ok (.bl false) h
  | .str _, .int _ => .ok (.bl false) h
  | .bl _, .str _ => .ok (.bl false) h
  | .str _, .bl _ => .ok (.bl false) h
  | .non, .str _ => .ok (.bl false) h
  | .str _, .non => .ok (.bl false) h
  | x, y => match eqPy x y h with
    | some b => .ok (.bl b) h
    | none => .bad
def fNe : F2 := fun x y h => match fEq x y h with
  | .ok (.bl b) h' => .ok (.bl (!b)) h'
  | _ => .bad
section
variable {X : Cx}
theorem o_eq (hu : X.A.units + 64 < cLine) : OpR X (compareOp .Eq) (fun x y H Q => rEq x y H Q ∨ rEqD X.K x y H Q) := op_eq.or (op_eqD hu)
theorem o_ne (hu : X.A.units + 64 < cLine) : OpR X (compareOp .NotEq) (fun x y H Q => rNe x y H Q ∨ rNeD X.K x y H Q) := op_ne.or (op_neD hu)
theorem eqPy_ok {K : PySem.W.Frag} {H : Hp} {μ : List Addr} {eh : List O} {x y : V} {dx dy : D} {b : Bool} (hH : RelH K H μ eh) (hx : RelD K H μ dx x) (hy : RelD K H μ dy y) (e : eqPy dx dy eh = some b) :
    ∃ d f, Dp K H x d ∧ Dp K H y f ∧ SeqAt.shaped d = true ∧ SeqAt.shaped f = true ∧ PyData.eqv d f = b := by
  unfold eqPy at e
  split at e
  · rename_i p q e1 e2
    split at e
    · rename_i hs
      cases e
      exact ⟨p, q, toPy_ok hH _ _ _ _ hx e1, toPy_ok hH _ _ _ _ hy e2, hs.1, hs.2, rfl⟩
    · cases e
  · cases e
theorem s_eq (K : PySem.W.Frag) : Sim2 K (fun x y H Q => rEq x y H Q ∨ rEqD K x y H Q) fEq := by
  intro W σ H μ eh x y dx dy Q hH hx hy hp
  unfold fEq at hp
  split at hp
  · rw [show x = _ from hx, show y = _ from hy]
    exact .inl ⟨rfl, post_ok hp hH (by simp [RelD])⟩
  · rw [show x = _ from hx, show y = _ from hy]
    exact .inl ⟨rfl, post_ok hp hH (by simp [RelD])⟩
  · rw [show x = _ from hx, show y = _ from hy]
    exact .inl ⟨rfl, post_ok hp hH (by simp [RelD])⟩
  · rw [show x = _ from hx, show y = _ from hy]
    exact .inl ⟨rfl, post_ok hp hH (by simp [RelD])⟩
  · rw [show x = _ from hx, show y = _ from hy]
    exact .inl ⟨rfl, post_ok hp hH (by simp [RelD])⟩
  · rw [show x = _ from hx, show y = _ from hy]
    exact .inl ⟨rfl, post_ok hp hH (by simp [RelD])⟩
  · rw [show x = _ from hx, show y = _ from hy]
    exact .inl ⟨rfl, post_ok hp hH (by simp [RelD])⟩
  · rw [show x = _ from hx, show y = _ from hy]
    exact .inl ⟨rfl, post_ok hp hH (by simp [RelD])⟩
  · rw [show x = _ from hx, show y = _ from hy]
    exact .inl ⟨rfl, post_ok hp hH (by simp [RelD])⟩
  · rw [show x = _ from hx, show y = _ from hy]
    exact .inl ⟨rfl, post_ok hp hH (by simp [RelD])⟩
  · rw [show x = _ from hx, show y = _ from hy]
    exact .inl ⟨rfl, post_ok hp hH (by simp [RelD])⟩
  · split at hp
    · rename_i b e
      obtain ⟨d, f, h1, h2, h3, h4, h5⟩ := eqPy_ok hH hx hy e
      exact .inr ⟨d, f, h1, h2, h3, h4, post_ok hp hH (by rw [h5]; rfl)⟩
    · exact hp.elim
theorem s_ne (K : PySem.W.Frag) : Sim2 K (fun x y H Q => rNe x y H Q ∨ rNeD K x y H Q) fNe := by
  intro W σ H μ eh x y dx dy Q hH hx hy hp
  unfold fNe at hp
  split at hp
  · rename_i b h' e
    have eh' : h' = eh := by
      unfold fEq at e
      split at e <;> first | (cases e; rfl) | (split at e <;> first | (cases e; rfl) | cases e)
    subst eh'
    have key := s_eq K W σ H μ h' x y dx dy (fun v _ => v = .bl b) hH hx hy (by
      rw [e]
      exact fun v H' μ' _ _ hr => hr)
    rcases key with ⟨k1, k2⟩ | ⟨d, f, k1, k2, k3, k4, k5⟩
    · refine .inl ⟨k1, post_ok hp hH ?_⟩
      have k2' : V.bl (decide (x = y)) = .bl b := k2
      cases k2'
      rfl
    · refine .inr ⟨d, f, k1, k2, k3, k4, post_ok hp hH ?_⟩
      have k5' : V.bl (PyData.eqv d f) = .bl b := k5
      cases k5'
      rfl
  · exact hp.elim
/-! ### is None -/
def fIsN : F2 := fun x y h => match y with
  | .non => .ok (.bl (decide (x = .non))) h
  | _ => .bad
def fNotN : F2 := fun x y h => match y with
  | .non => .ok (.bl (!decide (x = .non))) h
  | _ => .bad
theorem RelD.non_iff {K : PySem.W.Frag} {H : Hp} {μ : List Addr} {d : D} {v : V} (r : RelD K H μ d v) : decide (v = .non) = decide (d = .non) := by
  cases d with
  | non => rw [show v = .non from r]; simp
  | bl b => rw [show v = .bl b from r]; simp
  | int b => rw [show v = .int b from r]; simp
  | str b => rw [show v = .str b from r]; simp
  | ty b => rw [show v = .ty b from r]; simp
  | tup ds => obtain ⟨a, vs, e, _⟩ := r; rw [e]; simp
  | frl ds => obtain ⟨a, vs, e, _⟩ := r; rw [e]; simp
  | ref n => obtain ⟨a, e, _⟩ := r; rw [e]; simp
theorem s_isN (K : PySem.W.Frag) : Sim2 K (fun x y H Q => y = .non ∧ Q (.bl (decide (x = .non))) H) fIsN := by
  intro W σ H μ eh x y dx dy Q hH hx hy hp
  unfold fIsN at hp
  split at hp
  · exact ⟨hy, post_ok hp hH (by rw [hx.non_iff]; rfl)⟩
  · exact hp.elim
theorem s_notN (K : PySem.W.Frag) : Sim2 K (fun x y H Q => y = .non ∧ Q (.bl (!decide (x = .non))) H) fNotN := by
  intro W σ H μ eh x y dx dy Q hH hx hy hp
  unfold fNotN at hp
  split at hp
  · exact ⟨hy, post_ok hp hH (by rw [hx.non_iff]; rfl)⟩
  · exact hp.elim
/-! ### the items of a value -/
def itemsD : D → List O → Option (List D)
  | .tup ds, _ => some ds
  | .frl ds, _ => some ds
  | .ref n, h => match h[n]? with
    | some (.lst ds) => some ds
    | _ => none
  | _, _ => none
theorem items_ok {K : PySem.W.Frag} {H : Hp} {μ : List Addr} {eh : List O} {d : D} {v : V} {ds : List D} (hH : RelH K H μ eh) (hr : RelD K H μ d v) (e : itemsD d eh = some ds) : ∃ a vs, v = .ref a ∧ (SqL K H a vs ∨ SqT K H a vs) ∧ RelDs K H μ ds vs := by
  unfold itemsD at e
  split at e
  · cases e
    obtain ⟨a, vs, h1, h2, h3⟩ := hr
    exact ⟨a, vs, h1, .inr h2, h3⟩
  · cases e
    obtain ⟨a, vs, h1, h2, h3⟩ := hr
    exact ⟨a, vs, h1, .inl h2.l, h3⟩
  · split at e
    · rename_i ds' ek
      cases e
      obtain ⟨a, vs, ea, _, h1, h2⟩ := hH.lst hr ek
      exact ⟨a, vs, ea, .inl (.inl (.inl h1)), h2⟩
    · cases e
  · cases e
/-! ### in, not in: a sign in a text, a flat value among flat items, data among data -/
def D.sc : D → Option V
  | .non => some .non
  | .bl b => some (.bl b)
  | .int i => some (.int i)
  | .str x => some (.str x)
  | _ => none
def scs : List D → Option (List V)
  | [] => some []
  | d :: ds => match d.sc, scs ds with
    | some v, some vs => some (v :: vs)
    | _, _ => none
theorem sc_ok {K : PySem.W.Frag} {H : Hp} {μ : List Addr} {d : D} {v w : V} (r : RelD K H μ d v) (e : d.sc = some w) : v = w ∧ flatV w = true := by
  cases d <;> simp [D.sc] at e <;> subst e <;> exact ⟨r, rfl⟩
theorem scs_ok {K : PySem.W.Frag} {H : Hp} {μ : List Addr} : ∀ {ds : List D} {vs ws : List V}, RelDs K H μ ds vs → scs ds = some ws → vs = ws ∧ ws.all flatV = true
  | [], vs, ws, r, e => by
    cases e
    exact ⟨r, rfl⟩
  | d :: ds, vs, ws, r, e => by
    unfold scs at e
    split at e
    · rename_i w ws' e1 e2
      cases e
      obtain ⟨v, r', h1, h2, h3⟩ := r
      obtain ⟨a1, a2⟩ := sc_ok h2 e1
      obtain ⟨b1, b2⟩ := scs_ok h3 e2
      exact ⟨by rw [h1, a1, b1], by simp [a2, b2]⟩
    · cases e
/-- is x among the items -/
def inFlat (x : D) (ds : List D) : Option Bool := match x.sc, scs ds with
  | some v, some vs => some (inV v vs)
  | _, _ => none
def inDeep (x y : D) (h : List O) : Option Bool := match toPy h pyF x, toPy h pyF y with
  | some a, some (.list bs) => if SeqAt.shaped a = true ∧ SeqAt.shaped (.list bs) = true then some (bs.any fun z => PyData.eqv z a) else none
  | _, _ => none
def inD (x y : D) (h : List O) : Option Bool := match x, y with
  | .str a, .str z => if a.cps.size = 1 then some (decide (a.cps.toList.getD 0 0 ∈ z.cps.toList)) else none
  | x, y => match itemsD y h with
    | some ds => (match inFlat x ds with
      | some b => some b
      | none => inDeep x y h)
    | none => none
def fIn : F2 := fun x y h => match inD x y h with
  | some b => .ok (.bl b) h
  | none => .bad
def fNotIn : F2 := fun x y h => match inD x y h with
  | some b => .ok (.bl (!b)) h
  | none => .bad
def rIn3 (K : PySem.W.Frag) : R2 := fun x y H Q => (∃ (c : Nat) (z : Str), x = .str ⟨#[c]⟩ ∧ y = .str z ∧ Q (.bl (decide (c ∈ z.cps.toList))) H) ∨ (rIn K false x y H Q ∨ rInD K x y H Q)
def rNotIn3 (K : PySem.W.Frag) : R2 := fun x y H Q => (∃ (c : Nat) (z : Str), x = .str ⟨#[c]⟩ ∧ y = .str z ∧ Q (.bl (!decide (c ∈ z.cps.toList))) H) ∨ (rIn K true x y H Q ∨ rNotInD K x y H Q)
theorem o_in (hu : X.A.units + 65 < cLine) : OpR X (compareOp .In) (rIn3 X.K) := op_in_sign.or (op_in_seq.or (op_inD hu))
theorem o_notIn (hu : X.A.units + 65 < cLine) : OpR X (compareOp .NotIn) (rNotIn3 X.K) := op_notIn_sign.or (op_notIn_seq.or (op_notInD hu))
theorem str_one {a : Str} (h : a.cps.size = 1) : a = ⟨#[a.cps.toList.getD 0 0]⟩ := by
  obtain ⟨⟨l⟩⟩ := a
  match l, h with
  | [c], _ => rfl
theorem in_ok {K : PySem.W.Frag} {H : Hp} {μ : List Addr} {eh : List O} {x y : V} {dx dy : D} {b : Bool} (hH : RelH K H μ eh) (hx : RelD K H μ dx x) (hy : RelD K H μ dy y) (e : inD dx dy eh = some b) :
    (∃ (c : Nat) (z : Str), x = .str ⟨#[c]⟩ ∧ y = .str z ∧ decide (c ∈ z.cps.toList) = b) ∨ (∃ p xs, y = .ref p ∧ (SqL K H p xs ∨ SqT K H p xs) ∧ flatV x = true ∧ xs.all flatV = true ∧ inV x xs = b) ∨
      ∃ d ds, Dp K H x d ∧ Dp K H y (.list ds) ∧ SeqAt.shaped d = true ∧ SeqAt.shaped (.list ds) = true ∧ (ds.any fun z => PyData.eqv z d) = b := by
  unfold inD at e
  split at e
  · rename_i a z
    split at e
    · rename_i h1
      cases e
      refine .inl ⟨_, z, ?_, hy, rfl⟩
      rw [← str_one h1]
      exact hx
    · cases e
  · split at e
    · rename_i ds ei
      obtain ⟨p, vs, e1, e2, e3⟩ := items_ok hH hy ei
      split at e
      · rename_i b' ef
        cases e
        unfold inFlat at ef
        split at ef
        · rename_i v vs' s1 s2
          cases ef
          obtain ⟨a1, a2⟩ := sc_ok hx s1
          obtain ⟨b1, b2⟩ := scs_ok e3 s2
          subst a1 b1
          exact .inr (.inl ⟨p, vs, e1, e2, a2, b2, rfl⟩)
        · cases ef
      · unfold inDeep at e
        split at e
        · rename_i pa bs s1 s2
          split at e
          · rename_i hs
            cases e
            exact .inr (.inr ⟨pa, bs, toPy_ok hH _ _ _ _ hx s1, toPy_ok hH _ _ _ _ hy s2, hs.1, hs.2, rfl⟩)
          · cases e
        · cases e
    · cases e
theorem s_in (K : PySem.W.Frag) : Sim2 K (rIn3 K) fIn := by
  intro W σ H μ eh x y dx dy Q hH hx hy hp
  unfold fIn at hp
  split at hp
  · rename_i b e
    rcases in_ok hH hx hy e with ⟨c, z, h1, h2, h3⟩ | ⟨p, xs, h1, h2, h3, h4, h5⟩ | ⟨d, ds, h1, h2, h3, h4, h5⟩
    · exact .inl ⟨c, z, h1, h2, post_ok hp hH (by rw [h3]; rfl)⟩
    · exact .inr (.inl ⟨p, xs, h1, h2, h3, h4, post_ok hp hH (by rw [← h5]; rfl)⟩)
    · exact .inr (.inr ⟨d, ds, h1, h2, h3, h4, post_ok hp hH (by rw [h5]; rfl)⟩)
  · exact hp.elim
theorem s_notIn (K : PySem.W.Frag) : Sim2 K (rNotIn3 K) fNotIn := by
  intro W σ H μ eh x y dx dy Q hH hx hy hp
  unfold fNotIn at hp
  split at hp
  · rename_i b e
    rcases in_ok hH hx hy e with ⟨c, z, h1, h2, h3⟩ | ⟨p, xs, h1, h2, h3, h4, h5⟩ | ⟨d, ds, h1, h2, h3, h4, h5⟩
    · exact .inl ⟨c, z, h1, h2, post_ok hp hH (by rw [h3]; rfl)⟩
    · exact .inr (.inl ⟨p, xs, h1, h2, h3, h4, post_ok hp hH (by rw [← h5]; rfl)⟩)
    · exact .inr (.inr ⟨d, ds, h1, h2, h3, h4, post_ok hp hH (by rw [h5]; rfl)⟩)
  · exact hp.elim
/-! ### subscripts -/
def fIx : F2 := fun x y h => match y with
  | .int i => (match x with
    | .str z => if z.length ≤ sizeLine then (match atI z.cps.toList i with
      | some c => .ok (.str ⟨#[c]⟩) h
      | none => .bad) else .bad
    | x => match itemsD x h with
      | some ds => (match atI ds i with
        | some d => .ok d h
        | none => .bad)
      | none => .bad)
  | _ => .bad
theorem RelDs.atI {K : PySem.W.Frag} {H : Hp} {μ : List Addr} {ds : List D} {vs : List V} {i : Int} {d : D} (r : RelDs K H μ ds vs) (e : L2.atI ds i = some d) : ∃ v, L2.atI vs i = some v ∧ RelD K H μ d v := by
  unfold L2.atI at e ⊢
  rw [Option.bind_eq_some_iff] at e
  obtain ⟨j, e1, e2⟩ := e
  obtain ⟨v, h1, h2⟩ := r.get e2
  exact ⟨v, by rw [r.len, e1]; exact h1, h2⟩
theorem s_ix (K : PySem.W.Frag) : Sim2 K (rIx K) fIx := by
  intro W σ H μ eh x y dx dy Q hH hx hy hp
  unfold fIx at hp
  split at hp
  · split at hp
    · split at hp
      · rename_i hl
        split at hp
        · rename_i c e
          exact .inr (.inr ⟨_, _, c, hx, hy, hl, e, post_ok hp hH rfl⟩)
        · exact hp.elim
      · exact hp.elim
    · split at hp
      · rename_i ds ei
        split at hp
        · rename_i d e
          obtain ⟨a, vs, e1, e2, e3⟩ := items_ok hH hx ei
          obtain ⟨v, f1, f2⟩ := e3.atI e
          rcases e2 with e2 | e2
          · exact .inl ⟨a, vs, _, v, e1, hy, e2, f1, post_ok hp hH f2⟩
          · exact .inr (.inl ⟨a, vs, _, v, e1, hy, e2, f1, post_ok hp hH f2⟩)
        · exact hp.elim
      · exact hp.elim
  · exact hp.elim
def cutD {α : Type} (xs : List α) (lo hi : Option Int) : List α := (xs.drop (HT.sIx xs.length 0 lo)).take (HT.sIx xs.length xs.length hi - HT.sIx xs.length 0 lo)
theorem RelDs.cut {K : PySem.W.Frag} {H : Hp} {μ : List Addr} {ds : List D} {vs : List V} (r : RelDs K H μ ds vs) (lo hi : Option Int) : RelDs K H μ (cutD ds lo hi) (cutV vs lo hi) := by
  unfold cutD cutV
  rw [r.len]
  exact (r.drop _).take _
def fSl : FSl := fun x lo hi h => match x with
  | .str z => if z.length ≤ sizeLine then .ok (.str (cutS z lo hi)) h else .bad
  | .tup ds => .ok (.tup (cutD ds lo hi)) h
  | .frl ds => allocL (cutD ds lo hi) h
  | .ref n => (match h[n]? with
    | some (.lst ds) => allocL (cutD ds lo hi) h
    | _ => .bad)
  | _ => .bad
def rSl3 (K : PySem.W.Frag) : V → Option Int → Option Int → Hp → VK → Prop := fun x lo hi H Q => rSlL K x lo hi H Q ∨ (rSlA K x lo hi H Q ∨ rSlS x lo hi H Q)
theorem o_sl : SlR X (rSl3 X.K) := sl_list.or (sl_tupA.or sl_str)
theorem sIx_whole {α : Type} (xs : List α) (lo hi : Option Int) (h : HT.sIx xs.length 0 lo = 0 ∧ HT.sIx xs.length xs.length hi = xs.length) : cutD xs lo hi = xs := by
  unfold cutD
  rw [h.1, h.2, List.drop_zero, Nat.sub_zero, List.take_length]
theorem s_sl (K : PySem.W.Frag) : SimSl K (rSl3 K) fSl := by
  intro W σ H μ eh x dx lo hi Q hH hx hp
  unfold fSl at hp
  split at hp
  · split at hp
    · rename_i hl
      exact .inr (.inr ⟨_, hx, hl, post_ok hp hH rfl⟩)
    · exact hp.elim
  · rename_i ds
    obtain ⟨a, vs, e1, e2, e3⟩ := hx
    refine .inr (.inl ⟨a, vs, e1, e2, fun hw => ?_, fun _ p hp' => ?_⟩)
    · rw [e3.len] at hw
      rw [sIx_whole ds lo hi hw] at hp
      exact post_ok hp hH ⟨a, vs, rfl, e2, e3⟩
    · have e : Ext K H μ (upd H p (.tup (cutV vs lo hi))) μ := ext_off hp'
      exact hp _ _ μ e (hH.off hp') ⟨p, _, rfl, .inl (.inl upd_same), (e3.cut lo hi).mono e _ _⟩
  · obtain ⟨a, vs, e1, e2, e3⟩ := hx
    exact .inl ⟨a, vs, e1, e2.l, alloc_sim hH (e3.cut lo hi) hp⟩
  · split at hp
    · rename_i ds e
      obtain ⟨a, vs, ea, _, h1, h2⟩ := hH.lst hx e
      exact .inl ⟨a, vs, ea, .inl (.inl h1), alloc_sim hH (h2.cut lo hi) hp⟩
    · exact hp.elim
  · exact hp.elim
/-- xs[i] = v -/
def fSetL : FSet := fun x y v h => match x, y with
  | .ref n, .int i => (match h[n]? with
    | some (.lst ds) => (match ixN ds.length i with
      | some j => .ok () (h.set n (.lst (ds.set j v)))
      | none => .bad)
    | _ => .bad)
  | _, _ => .bad
theorem s_setL (K : PySem.W.Frag) : SimSet K rSetL fSetL := by
  intro H μ eh x y v dx dy dv Q hH hx hy hv hp
  unfold fSetL at hp
  split at hp
  · rename_i eh' q
    split at q
    · rename_i n i
      split at q
      · rename_i ds e
        split at q
        · rename_i j ej
          cases q
          obtain ⟨a, vs, ea, hm, h1, h2⟩ := hH.lst hx e
          have nf : ∀ u w, H a ≠ some (.frz u w) := fun u w z => by rw [h1] at z; cases z
          have nt : ∀ w, H a ≠ some (.tup w) := fun w z => by rw [h1] at z; cases z
          have ex : Ext K H μ (upd H a (.lst (vs.set j v))) μ := ext_set (List.mem_of_getElem? hm) nf nt
          refine ⟨a, vs, i, j, ea, hy, h1, by rw [h2.len]; exact ej, hp _ μ ex (hH.set hm nf nt ⟨_, upd_same, (h2.set j hv).mono ex _ _⟩)⟩
        · cases q
      · cases q
    · cases q
  · exact hp.elim
end
end SL
set_option Elab.async false
set_option linter.all false
set_option maxRecDepth 100000
set_option maxHeartbeats 1000000
namespace SL
open PySem PySem.Spec PyProof.Rows L2
section
variable {X : Cx} {W : WX} {e o : Expr} {es : List Expr} {pos apos p : Pos}
/-! ### new lists as they are made -/
def capL (ms : M (List D)) : M (List D) := fun ρ h => (ms ρ h).bind fun ds h1 => if ds.length ≤ sizeLine then .ok ds h1 else .bad
theorem sel_lst {ms : M (List D)} (h : SA X W es ms) : SEL X W (.List es pos) (capL ms) :=
  pe_imp (pe_lst h) fun σ H Q h => rdM.bind (f := fun ds _ h1 => if ds.length ≤ sizeLine then .ok ds h1 else .bad) h fun xs H1 ds μ1 ρ eh1 hS hH hr hp => by
    split at hp
    · rename_i hl
      refine ⟨by rw [hr.len]; exact hl, fun p hp' => ?_⟩
      have e : Ext X.K H1 μ1 (upd H1 p (.lst xs)) μ1 := ext_off hp'
      exact hp _ _ μ1 e (hH.off hp') ⟨p, xs, rfl, upd_same, hr.mono e _ _, hH.mem_ne hp'⟩
    · exact hp.elim
/-- a call of a built-in over the items of one value -/
def SimI (K : PySem.W.Frag) (r : List V → Hp → VK → Prop) (f : FA) : Prop := ∀ (W : WX) (σ : L2.St) (H : Hp) (μ : List Addr) (eh : List O) (a : Addr) (vs : List V) (ds : List D) (Q : VK), RelH K H μ eh → SqL K H a vs → RelDs K H μ ds vs → PostG K (RelD K) W σ H μ (f ds eh) Q → r [.ref a] H Q
/-- .. of a tuple too -/
def SimIT (K : PySem.W.Frag) (r : List V → Hp → VK → Prop) (f : FA) : Prop := ∀ (W : WX) (σ : L2.St) (H : Hp) (μ : List Addr) (eh : List O) (a : Addr) (vs : List V) (ds : List D) (Q : VK), RelH K H μ eh → SqT K H a vs → RelDs K H μ ds vs → PostG K (RelD K) W σ H μ (f ds eh) Q → r [.ref a] H Q
def overL (f : FA) : FA := fun args h => match args with
  | [d] => (match srcL d h with
    | .ok s _ => f s.1 h
    | _ => .bad)
  | _ => .bad
def overI (f : FA) : FA := fun args h => match args with
  | [d] => (match itemsD d h with
    | some ds => f ds h
    | none => .bad)
  | _ => .bad
theorem overL_sim {K : PySem.W.Frag} {r : List V → Hp → VK → Prop} {f : FA} (h : SimI K r f) : SimL K r (overL f) := by
  intro W σ H μ eh xs ds Q hH hr hp
  unfold overL at hp
  split at hp
  · rename_i d
    obtain ⟨v, ev, rv⟩ := hr.one'
    split at hp
    · rename_i s h' q
      obtain ⟨ds', gd⟩ := s
      obtain ⟨e2, a, ha, hst⟩ := seqL_of hH rv q
      subst e2
      obtain ⟨vs, h1, h2⟩ := hst H μ _ .refl hH (srcL_gd q)
      rw [ev, ha]
      exact h W σ H μ _ a vs ds' Q hH h1 h2 hp
    · exact hp.elim
  · exact hp.elim
theorem overI_sim {K : PySem.W.Frag} {r : List V → Hp → VK → Prop} {f : FA} (h : SimI K r f) (ht : SimIT K r f) : SimL K r (overI f) := by
  intro W σ H μ eh xs ds Q hH hr hp
  unfold overI at hp
  split at hp
  · rename_i d
    obtain ⟨v, ev, rv⟩ := hr.one'
    split at hp
    · rename_i ds' q
      obtain ⟨a, vs, ea, h1, h2⟩ := items_ok hH rv q
      rw [ev, ea]
      rcases h1 with h1 | h1
      · exact h W σ H μ eh a vs ds' Q hH h1 h2 hp
      · exact ht W σ H μ eh a vs ds' Q hH h1 h2 hp
    · exact hp.elim
  · exact hp.elim
/-- f(a new list) -/
def mCBL (f : FA) (m : M (List D)) : ME := fun ρ h => (m ρ h).bind f
theorem cbl_sim {r : List V → Hp → VK → Prop} {f : FA} {m : M (List D)} (hs : SimI X.K r f) {σ : L2.St} {H : Hp} {Q : VK} (h : rdE X.K W (mCBL f m) σ H Q) : tCB r (tCons (rdL X.K W m) tNil) σ H Q :=
  rdM.bind (rel := RelL X.K) (f := fun ds _ => f ds) h fun x H1 ds μ1 ρ eh1 hS hH hr hp => by
    obtain ⟨a, xs, ea, h1, h2, h3⟩ := hr
    rw [ea]
    exact hs W σ H1 μ1 eh1 a xs ds Q hH (.inl (.inl h1)) h2 hp
theorem se_callBL {x : Str} {id : String} {r : List V → Hp → VK → Prop} {f : FA} {m : M (List D)} (hc : CallR X (.builtin id) r) (hs : SimI X.K r f) (hg : Gl X x) (hm : X.mg x = none) (hv : bootBuiltins x = some (.builtin id)) (ha : SEL X W e m)
    (he : starEach [e] X.env = (false, eval e X.env) :: starEach [] X.env := by rfl) (hpl : (backTo pos (starEach [] X.env)).any (·.1) = false := by rfl)
    (hn : x ≠ "__name__" := by decide) (hdb : (x == ("__debug__" : Str)) = false := by decide) : SE X W (.Call (.Name x p) [e] [] pos) (mCBL f m) := pe_imp (pe_callB hc hg hm hv (pa_cons ha pa_nil he) hn hdb he hpl) fun _ _ _ h => cbl_sim hs h
theorem se_callTyL {x : Str} {T : String} {r : List V → Hp → VK → Prop} {f : FA} {m : M (List D)} (hc : CallR X (.type T) r) (hs : SimI X.K r f) (hg : Gl X x) (hm : X.mg x = none) (hv : bootBuiltins x = some (.type T)) (ha : SEL X W e m)
    (he : starEach [e] X.env = (false, eval e X.env) :: starEach [] X.env := by rfl) (hpl : (backTo pos (starEach [] X.env)).any (·.1) = false := by rfl)
    (hn : x ≠ "__name__" := by decide) (hdb : (x == ("__debug__" : Str)) = false := by decide) : SE X W (.Call (.Name x p) [e] [] pos) (mCBL f m) := pe_imp (pe_callTy hc hg hm hv (pa_cons ha pa_nil he) hn hdb he hpl) fun _ _ _ h => cbl_sim hs h
/-- o.m(a new list), o a value of a built-in type -/
def mMtL (ty : D → List O → Bool) (f : D → FA) (m : ME) (ms : M (List D)) : ME := fun ρ h => (m ρ h).bind fun d h1 => if ty d h1 = true then (ms ρ h1).bind fun ds h2 => f d ds h2 else .bad
def SimMtL (K : PySem.W.Frag) (r : V → List V → Hp → VK → Prop) (f : D → FA) : Prop := ∀ (W : WX) (σ : L2.St) (H : Hp) (μ : List Addr) (eh : List O) (x : V) (d : D) (a : Addr) (vs : List V) (ds : List D) (Q : VK), RelH K H μ eh → RelD K H μ d x → H a = some (.lst vs) → a ∉ μ → RelDs K H μ ds vs → PostG K (RelD K) W σ H μ (f d ds eh) Q → r x [.ref a] H Q
theorem se_bmL {name : Str} {T id : String} {ty : D → List O → Bool} {r : V → List V → Hp → VK → Prop} {f : D → FA} {m : ME} {ms : M (List D)} (pa : PlainAttrs T) (slot : Slot T name id) (hty : typeOf (.builtin id) = pure (.type "method_descriptor")) (hm : MtR X id r) (ht : TySim X.K T ty) (hs : SimMtL X.K r f)
    (ho : SE X W o m) (ha : SEL X W e ms) (hbase : attributeBase o name X.env (eval o X.env) = eval o X.env := by rfl)
    (hfew : ((backTo pos (starEach [e] X.env)).all (fun x => !x.1) && (backToKw pos (keywordEach [] X.env)).all (fun x => x.1.isSome) && decide ([e].length + ([] : List Keyword).length + (if ([] : List Keyword).isEmpty then 0 else 1) < 30)) = true := by rfl)
    (hline : (apos.endLine == pos.line) = true := by rfl) (hst : starEach [e] X.env = (false, eval e X.env) :: starEach [] X.env := by rfl) (hplain : (backTo pos (starEach [] X.env)).any (·.1) = false := by rfl) :
    SE X W (.Call (.Attribute o name apos) [e] [] pos) (mMtL ty f m ms) := by
  refine pe_imp (pe_bm pa slot hty hm ho (pa_cons ha pa_nil hst) hbase hfew hline hst hplain) fun σ H Q h => ?_
  refine rdM.bind (f := fun d ρ h1 => if ty d h1 = true then (ms ρ h1).bind fun ds h2 => f d ds h2 else .bad) h fun x H1 dx μ1 ρ eh1 hS hH hr hp => ?_
  split at hp
  · rename_i ht1
    refine ⟨ht H1 μ1 eh1 x dx hH hr ht1, μ1, ρ, eh1, hS, hH, (PostG.bind (rel := RelL X.K) (f := fun ds h2 => f dx ds h2) hp).mono fun y H2 ⟨ds, μ2, eh2, e2, hH2, hr2, hp2⟩ => ?_⟩
    obtain ⟨a, xs, ea, h1, h2, h3⟩ := hr2
    rw [ea]
    exact hs W σ H2 μ2 eh2 x dx a xs ds Q hH2 (hr.mono e2 _ _) h1 h3 h2 hp2
  · exact hp.elim
/-! ### which built-ins -/
theorem i_tuple (K : PySem.W.Frag) : SimI K (fun xs H Q => ∃ p ys, xs = [.ref p] ∧ ((SqL K H p ys ∧ ∀ l, H l = none → Q (.ref l) (upd H l (.tup ys))) ∨ (SqT K H p ys ∧ Q (.ref p) H))) (fun ds h => .ok (.tup ds) h) := by
  intro W σ H μ eh a vs ds Q hH hs hr hp
  refine ⟨a, vs, rfl, .inl ⟨hs, fun l hl => ?_⟩⟩
  have e : Ext K H μ (upd H l (.tup vs)) μ := ext_off hl
  exact hp _ _ μ e (hH.off hl) ⟨l, vs, rfl, .inl (.inl upd_same), hr.mono e _ _⟩
theorem it_tuple (K : PySem.W.Frag) : SimIT K (fun xs H Q => ∃ p ys, xs = [.ref p] ∧ ((SqL K H p ys ∧ ∀ l, H l = none → Q (.ref l) (upd H l (.tup ys))) ∨ (SqT K H p ys ∧ Q (.ref p) H))) (fun ds h => .ok (.tup ds) h) := by
  intro W σ H μ eh a vs ds Q hH hs hr hp
  exact ⟨a, vs, rfl, .inr ⟨hs, post_ok hp hH ⟨a, vs, rfl, hs, hr⟩⟩⟩
def fTuple : FA := fun ds h => .ok (.tup ds) h
theorem i_list (K : PySem.W.Frag) : SimI K (fun xs H Q => ∃ p ys, xs = [.ref p] ∧ (SqL K H p ys ∨ SqT K H p ys) ∧ ∀ l, H l = none → Q (.ref l) (upd H l (.lst ys))) allocL := by
  intro W σ H μ eh a vs ds Q hH hs hr hp
  exact ⟨a, vs, rfl, .inl hs, alloc_sim hH hr hp⟩
theorem it_list (K : PySem.W.Frag) : SimIT K (fun xs H Q => ∃ p ys, xs = [.ref p] ∧ (SqL K H p ys ∨ SqT K H p ys) ∧ ∀ l, H l = none → Q (.ref l) (upd H l (.lst ys))) allocL := by
  intro W σ H μ eh a vs ds Q hH hs hr hp
  exact ⟨a, vs, rfl, .inr hs, alloc_sim hH hr hp⟩
def getBools : List D → Option (List Bool)
  | [] => some []
  | .bl b :: ds => (getBools ds).map (b :: ·)
  | _ :: _ => none
theorem getBools_eq : ∀ {ds : List D} {bs : List Bool}, getBools ds = some bs → ds = bs.map D.bl
  | [], bs, h => by cases h; rfl
  | d :: ds, bs, h => by
    cases d with
    | bl b =>
      simp only [getBools, Option.map_eq_some_iff] at h
      obtain ⟨bs', h1, h2⟩ := h
      rw [getBools_eq h1, ← h2]
      rfl
    | _ => cases h
@[simp] theorem getBools_map (bs : List Bool) : getBools (bs.map D.bl) = some bs := by
  induction bs with
  | nil => rfl
  | cons b bs ih => simp [getBools, ih]
theorem RelDs.bools {K : PySem.W.Frag} {H : Hp} {μ : List Addr} : ∀ {is : List Bool} {vs : List V}, RelDs K H μ (is.map D.bl) vs → vs = is.map V.bl
  | [], vs, h => h
  | i :: is, vs, h => by
    obtain ⟨v, r, e1, e2, e3⟩ := h
    have e2' : v = .bl i := e2
    rw [e1, e2', RelDs.bools e3]
    rfl
def fAll : FA := fun ds h => match getBools ds with
  | some bs => .ok (.bl (bs.all id)) h
  | none => .bad
def fAny : FA := fun ds h => match getBools ds with
  | some bs => .ok (.bl (bs.any id)) h
  | none => .bad
theorem i_all (K : PySem.W.Frag) : SimI K (rAll K) fAll := by
  intro W σ H μ eh a vs ds Q hH hs hr hp
  unfold fAll at hp
  split at hp
  · rename_i bs e
    rw [getBools_eq e] at hr
    rw [hr.bools] at hs
    exact ⟨a, bs, rfl, hs, post_ok hp hH rfl⟩
  · exact hp.elim
theorem i_any (K : PySem.W.Frag) : SimI K (rAny K) fAny := by
  intro W σ H μ eh a vs ds Q hH hs hr hp
  unfold fAny at hp
  split at hp
  · rename_i bs e
    rw [getBools_eq e] at hr
    rw [hr.bools] at hs
    exact ⟨a, bs, rfl, hs, post_ok hp hH rfl⟩
  · exact hp.elim
def fSum : FA := fun ds h => match getInts ds with
  | some is => .ok (.int is.sum) h
  | none => .bad
theorem i_sum (K : PySem.W.Frag) : SimI K (rSum K) fSum := by
  intro W σ H μ eh a vs ds Q hH hs hr hp
  unfold fSum at hp
  split at hp
  · rename_i bs e
    rw [getInts_eq e] at hr
    rw [hr.ints] at hs
    exact ⟨a, bs, rfl, hs, post_ok hp hH rfl⟩
  · exact hp.elim
/-! ### len -/
def fLen : FA := fun args h => match args with
  | [.str z] => if z.length ≤ sizeLine then .ok (.int z.length) h else .bad
  | [d] => (match itemsD d h with
    | some ds => .ok (.int ds.length) h
    | none => .bad)
  | _ => .bad
def rLen2 (K : PySem.W.Frag) : List V → Hp → VK → Prop := fun xs H Q => (∃ z, xs = [.str z] ∧ z.length ≤ sizeLine ∧ Q (.int z.length) H) ∨ ∃ p ys, xs = [.ref p] ∧ (SqL K H p ys ∨ SqT K H p ys) ∧ Q (.int ys.length) H
theorem c_len : CallR X (.builtin "len") (rLen2 X.K) := call_len_str.or call_len_seq
theorem s_len (K : PySem.W.Frag) : SimL K (rLen2 K) fLen := by
  intro W σ H μ eh xs ds Q hH hr hp
  unfold fLen at hp
  split at hp
  · obtain ⟨v, ev, rv⟩ := hr.one'
    split at hp
    · rename_i hl
      exact .inl ⟨_, by rw [ev, show v = _ from rv], hl, post_ok hp hH rfl⟩
    · exact hp.elim
  · obtain ⟨v, ev, rv⟩ := hr.one'
    split at hp
    · rename_i ds' q
      obtain ⟨a, vs, ea, h1, h2⟩ := items_ok hH rv q
      exact .inr ⟨a, vs, by rw [ev, ea], h1, post_ok hp hH (by rw [h2.len]; rfl)⟩
    · exact hp.elim
  · exact hp.elim
/-! ### numbers -/
def fAbs : FA := fun args h => match args with
  | [.int i] => .ok (.int (if i < 0 then -i else i)) h
  | _ => .bad
theorem s_abs (K : PySem.W.Frag) : SimL K (fun xs H Q => ∃ i, xs = [.int i] ∧ Q (.int (if i < 0 then -i else i)) H) fAbs := by
  intro W σ H μ eh xs ds Q hH hr hp
  unfold fAbs at hp
  split at hp
  · obtain ⟨v, ev, rv⟩ := hr.one'
    exact ⟨_, by rw [ev, show v = _ from rv], post_ok hp hH rfl⟩
  · exact hp.elim
/-- int(n), int(flag) -/
def fInt : FA := fun args h => match args with
  | [.int i] => .ok (.int i) h
  | [.bl k] => .ok (.int (if k then 1 else 0)) h
  | [.str a] => (match PySem.intText? a with
    | some n => if a.length ≤ 640 then .ok (.int n) h else .bad
    | none => .bad)
  | _ => .bad
def rInt2 : List V → Hp → VK → Prop := fun xs H Q => ((∃ i, xs = [.int i] ∧ Q (.int i) H) ∨ ∃ k, xs = [.bl k] ∧ Q (.int (if k then 1 else 0)) H) ∨ ∃ a n, xs = [.str a] ∧ PySem.intText? a = some n ∧ a.length ≤ 640 ∧ Q (.int n) H
theorem c_int : CallR X (.type "int") rInt2 := call_int1.or call_int_str
theorem s_int (K : PySem.W.Frag) : SimL K rInt2 fInt := by
  intro W σ H μ eh xs ds Q hH hr hp
  unfold fInt at hp
  split at hp
  · obtain ⟨v, ev, rv⟩ := hr.one'
    exact .inl (.inl ⟨_, by rw [ev, show v = _ from rv], post_ok hp hH rfl⟩)
  · obtain ⟨v, ev, rv⟩ := hr.one'
    exact .inl (.inr ⟨_, by rw [ev, show v = _ from rv], post_ok hp hH rfl⟩)
  · obtain ⟨v, ev, rv⟩ := hr.one'
    split at hp
    · rename_i n e
      split at hp
      · rename_i hl
        exact .inr ⟨_, n, by rw [ev, show v = _ from rv], e, hl, post_ok hp hH rfl⟩
      · exact hp.elim
    · exact hp.elim
  · exact hp.elim
/-! ### isinstance -/
def tyName : D → List O → Option String
  | .non, _ => some "NoneType"
  | .bl _, _ => some "bool"
  | .int _, _ => some "int"
  | .str _, _ => some "str"
  | .tup _, _ => some "tuple"
  | .frl _, _ => some "list"
  | .ref n, h => match h[n]? with
    | some (.lst _) => some "list"
    | _ => none
  | .ty _, _ => none
def fIsi : FA := fun args h => match args with
  | [d, .ty T] => (match tyName d h with
    | some t => (match kitB t T with
      | some b => .ok (.bl b) h
      | none => .bad)
    | none => .bad)
  | _ => .bad
theorem ty_ok {K : PySem.W.Frag} {H : Hp} {μ : List Addr} {eh : List O} {d : D} {v : V} {t : String} (hH : RelH K H μ eh) (hr : RelD K H μ d v) (e : tyName d eh = some t) : TyX K H v (.type t) := by
  cases d with
  | non => cases e; rw [show v = .non from hr]; exact .base .non
  | bl b => cases e; rw [show v = .bl b from hr]; exact .base (.bl b)
  | int b => cases e; rw [show v = .int b from hr]; exact .base (.int b)
  | str b => cases e; rw [show v = .str b from hr]; exact .base (.str b)
  | ty b => cases e
  | tup ds =>
    cases e
    obtain ⟨a, vs, e1, e2, _⟩ := hr
    rw [e1]
    rcases e2 with (e2 | ⟨o, e2⟩) | ⟨o, its, n, e2, e3, _⟩
    · exact .base (.tup e2)
    · exact .fTuple e2
    · exact .kTuple e2 e3
  | frl ds =>
    cases e
    obtain ⟨a, vs, e1, e2, _⟩ := hr
    rw [e1]
    rcases e2 with ⟨o, e2⟩ | e2
    · exact .base (.frz e2)
    · rcases e2 (fun _ => none) with (e2 | ⟨o, e2⟩) | ⟨o, its, n, e2, e3, _⟩
      · cases e2
      · cases e2
      · exact .kList e2 e3
  | ref n =>
    unfold tyName at e
    dsimp only at e
    split at e
    · rename_i ds ek
      cases e
      obtain ⟨a, vs, ea, _, h1, h2⟩ := hH.lst hr ek
      rw [ea]
      exact .base (.lst h1)
    · cases e
theorem s_isi (K : PySem.W.Frag) : SimL K (rIsi K) fIsi := by
  intro W σ H μ eh xs ds Q hH hr hp
  unfold fIsi at hp
  split at hp
  · rename_i d T
    obtain ⟨v, w, ev, rv, rw'⟩ := hr.two'
    split at hp
    · rename_i t et
      split at hp
      · rename_i b eb
        have ew : w = .ty T := rw'
        refine ⟨v, w, .type t, .type T, b, ev, ?_, ty_ok hH rv et, kit_ty eb, post_ok hp hH rfl⟩
        rw [ew]
        exact .ty T
      · exact hp.elim
    · exact hp.elim
  · exact hp.elim
theorem se_ty {x : Str} {T : String} (hg : Gl X x) (hm : X.mg x = none) (hv : bootBuiltins x = some (.type T)) (hn : x ≠ "__name__" := by decide) (hd : (x == ("__debug__" : Str)) = false := by decide) : SE X W (.Name x pos) (mC (.ty T)) :=
  se_c (v := .ty T) (pe_bltn hg hm hv rfl hn hd) fun _ _ => rfl
/-! ### lists' own methods -/
def tyLst : D → List O → Bool := fun d h => match d with
  | .ref n => (match h[n]? with
    | some (.lst _) => true
    | _ => false)
  | _ => false
theorem ty_lst (K : PySem.W.Frag) : TySim K "list" tyLst := by
  intro H μ eh x d hH hr e
  unfold tyLst at e
  split at e
  · split at e
    · rename_i ds ek
      obtain ⟨a, vs, ea, _, h1, h2⟩ := hH.lst hr ek
      rw [ea]
      exact .inl ⟨rfl, vs, .inl (.inl h1)⟩
    · cases e
  · cases e
def tyStr : D → List O → Bool := fun d _ => match d with
  | .str _ => true
  | _ => false
theorem ty_str (K : PySem.W.Frag) : TySim K "str" tyStr := by
  intro H μ eh x d hH hr e
  unfold tyStr at e
  split at e
  · rw [show x = _ from hr]
    rfl
  · cases e
theorem lst_set {K : PySem.W.Frag} {H : Hp} {μ : List Addr} {eh : List O} {n : Nat} {a : Addr} {vs us : List V} {es : List D} (hH : RelH K H μ eh) (hm : μ[n]? = some a) (h1 : H a = some (.lst vs)) (hr : RelDs K H μ es us) :
    Ext K H μ (upd H a (.lst us)) μ ∧ RelH K (upd H a (.lst us)) μ (eh.set n (.lst es)) := by
  have nf : ∀ u w, H a ≠ some (.frz u w) := fun u w z => by rw [h1] at z; cases z
  have nt : ∀ w, H a ≠ some (.tup w) := fun w z => by rw [h1] at z; cases z
  have ex : Ext K H μ (upd H a (.lst us)) μ := ext_set (List.mem_of_getElem? hm) nf nt
  exact ⟨ex, hH.set hm nf nt ⟨_, upd_same, hr.mono ex _ _⟩⟩
def fAppend : D → FA := fun d args h => match d, args with
  | .ref n, [v] => (match h[n]? with
    | some (.lst ds) => if ds.length < sizeLine then .ok .non (h.set n (.lst (ds ++ [v]))) else .bad
    | _ => .bad)
  | _, _ => .bad
theorem m_append (K : PySem.W.Frag) : SimMt K rAppend fAppend := by
  intro W σ H μ eh x d xs ds Q hH hr hrs hp
  unfold fAppend at hp
  split at hp
  · rename_i n v
    split at hp
    · rename_i ds' e
      split at hp
      · rename_i hl
        obtain ⟨w, ew, rw'⟩ := hrs.one'
        obtain ⟨a, vs, ea, hm, h1, h2⟩ := hH.lst hr e
        obtain ⟨ex, hH'⟩ := lst_set hH hm h1 (h2.app (RelDs.one rw'))
        exact ⟨a, vs, w, ea, ew, h1, by rw [h2.len]; exact hl, hp .non _ μ ex hH' rfl⟩
      · exact hp.elim
    · exact hp.elim
  · exact hp.elim
theorem RelDs.dropLast {K : PySem.W.Frag} {H : Hp} {μ : List Addr} {ds : List D} {vs : List V} (r : RelDs K H μ ds vs) : RelDs K H μ ds.dropLast vs.dropLast := by
  rw [List.dropLast_eq_take, List.dropLast_eq_take, r.len]
  exact r.take _
def fPop : D → FA := fun d args h => match d, args with
  | .ref n, [] => (match h[n]? with
    | some (.lst ds) => (match ds[ds.length - 1]? with
      | some v => .ok v (h.set n (.lst ds.dropLast))
      | none => .bad)
    | _ => .bad)
  | _, _ => .bad
theorem m_pop (K : PySem.W.Frag) : SimMt K rPop fPop := by
  intro W σ H μ eh x d xs ds Q hH hr hrs hp
  unfold fPop at hp
  split at hp
  · rename_i n
    split at hp
    · rename_i ds' e
      split at hp
      · rename_i v ev
        obtain ⟨a, vs, ea, hm, h1, h2⟩ := hH.lst hr e
        obtain ⟨w, hw, rw'⟩ := h2.get ev
        obtain ⟨ex, hH'⟩ := lst_set hH hm h1 h2.dropLast
        exact ⟨a, vs, w, ea, hrs, h1, by rw [h2.len]; exact hw, hp w _ μ ex hH' (rw'.mono ex _ _)⟩
      · exact hp.elim
    · exact hp.elim
  · exact hp.elim
/-- xs.extend(a new list) -/
def fExtL : D → FA := fun d es h => match d with
  | .ref n => (match h[n]? with
    | some (.lst ds) => if ds.length + es.length ≤ sizeLine then .ok .non (h.set n (.lst (ds ++ es))) else .bad
    | _ => .bad)
  | _ => .bad
theorem m_extL (K : PySem.W.Frag) : SimMtL K rExtend fExtL := by
  intro W σ H μ eh x d a' vs' es Q hH hr hA hn hrs hp
  unfold fExtL at hp
  split at hp
  · rename_i n
    split at hp
    · rename_i ds' e
      split at hp
      · rename_i hl
        obtain ⟨a, vs, ea, hm, h1, h2⟩ := hH.lst hr e
        obtain ⟨ex, hH'⟩ := lst_set hH hm h1 (h2.app hrs)
        exact ⟨a, a', vs, vs', ea, rfl, h1, hA, by rw [h2.len, hrs.len]; exact hl, hp .non _ μ ex hH' rfl⟩
      · exact hp.elim
    · exact hp.elim
  · exact hp.elim
/-! ### texts joined -/
def getStrs : List D → Option (List Str)
  | [] => some []
  | .str b :: ds => (getStrs ds).map (b :: ·)
  | _ :: _ => none
theorem getStrs_eq : ∀ {ds : List D} {bs : List Str}, getStrs ds = some bs → ds = bs.map D.str
  | [], bs, h => by cases h; rfl
  | d :: ds, bs, h => by
    cases d with
    | str b =>
      simp only [getStrs, Option.map_eq_some_iff] at h
      obtain ⟨bs', h1, h2⟩ := h
      rw [getStrs_eq h1, ← h2]
      rfl
    | _ => cases h
@[simp] theorem getStrs_map (bs : List Str) : getStrs (bs.map D.str) = some bs := by
  induction bs with
  | nil => rfl
  | cons b bs ih => simp [getStrs, ih]
theorem RelDs.strs {K : PySem.W.Frag} {H : Hp} {μ : List Addr} : ∀ {is : List Str} {vs : List V}, RelDs K H μ (is.map D.str) vs → vs = is.map V.str
  | [], vs, h => h
  | i :: is, vs, h => by
    obtain ⟨v, r, e1, e2, e3⟩ := h
    have e2' : v = .str i := e2
    rw [e1, e2', RelDs.strs e3]
    rfl
def joinOk (a : Str) (ys : List Str) : Bool := decide ((ys.map (·.length)).sum + ys.length * a.length ≤ 16777216)
def fJoinI : D → FA := fun d ds h => match d, getStrs ds with
  | .str a, some ys => if joinOk a ys = true then .ok (.str (Txt.join a ys)) h else .bad
  | _, _ => .bad
def fJoin : D → FA := fun d args h => match args with
  | [x] => (match itemsD x h with
    | some ds => fJoinI d ds h
    | none => .bad)
  | _ => .bad
def rJoin (K : PySem.W.Frag) : V → List V → Hp → VK → Prop := fun x xs H Q => ∃ a p, ∃ ys : List Str, x = .str a ∧ xs = [.ref p] ∧ (SqL K H p (ys.map V.str) ∨ SqT K H p (ys.map V.str)) ∧
    (ys.map (·.length)).sum + ys.length * a.length ≤ 16777216 ∧ Q (.str (Txt.join a ys)) H
theorem m_joinL (K : PySem.W.Frag) : SimMtL K (rJoin K) fJoinI := by
  intro W σ H μ eh x d a' vs' es Q hH hr hA hn hrs hp
  unfold fJoinI at hp
  split at hp
  · rename_i a ys e
    split at hp
    · rename_i hl
      rw [getStrs_eq e] at hrs
      exact ⟨a, a', ys, hr, rfl, .inl (.inl (.inl (by rw [← hrs.strs]; exact hA))), of_decide_eq_true hl, post_ok hp hH rfl⟩
    · exact hp.elim
  · exact hp.elim
theorem m_join (K : PySem.W.Frag) : SimMt K (rJoin K) fJoin := by
  intro W σ H μ eh x d xs args Q hH hr hrs hp
  unfold fJoin at hp
  split at hp
  · rename_i y
    obtain ⟨v, ev, rv⟩ := hrs.one'
    split at hp
    · rename_i ds q
      obtain ⟨p, vs, ea, h1, h2⟩ := items_ok hH rv q
      unfold fJoinI at hp
      split at hp
      · rename_i a ys e
        split at hp
        · rename_i hl
          rw [getStrs_eq e] at h2
          exact ⟨a, p, ys, hr, by rw [ev, ea], by rw [← h2.strs]; exact h1, of_decide_eq_true hl, post_ok hp hH rfl⟩
        · exact hp.elim
      · exact hp.elim
    · exact hp.elim
  · exact hp.elim
/-- list(x) as a new list that is not told of -/
def mListL (m : ME) : M (List D) := fun ρ h => (m ρ h).bind fun d h1 => match itemsD d h1 with
  | some ds => .ok ds h1
  | none => .bad
theorem sel_list {x : Str} {m : ME} (hg : Gl X x) (hm : X.mg x = none) (hv : bootBuiltins x = some (.type "list")) (ha : SE X W e m)
    (he : starEach [e] X.env = (false, eval e X.env) :: starEach [] X.env := by rfl) (hpl : (backTo pos (starEach [] X.env)).any (·.1) = false := by rfl)
    (hn : x ≠ "__name__" := by decide) (hdb : (x == ("__debug__" : Str)) = false := by decide) : SEL X W (.Call (.Name x p) [e] [] pos) (mListL m) := by
  refine pe_imp (pe_callTy call_list_of hg hm hv (pa_cons ha pa_nil he) hn hdb he hpl) fun σ H Q h => ?_
  refine rdM.bind (f := fun d _ h1 => match itemsD d h1 with
    | some ds => .ok ds h1
    | none => .bad) h fun x H1 d μ1 ρ eh1 hS hH hr hp => ?_
  split at hp
  · rename_i ds q
    obtain ⟨a, vs, ea, h1, h2⟩ := items_ok hH hr q
    refine ⟨a, vs, by rw [ea], h1, fun l hl => ?_⟩
    have e : Ext X.K H1 μ1 (upd H1 l (.lst vs)) μ1 := ext_off hl
    exact hp _ _ μ1 e (hH.off hl) ⟨l, vs, rfl, upd_same, h2.mono e _ _, hH.mem_ne hl⟩
  · exact hp.elim
/-- a for over a new list that is not told of: nobody changes it -/
def mSrcN (m : M (List D)) : MI := fun ρ h => (m ρ h).bind fun ds h1 => .ok (ds, fun _ => true) h1
theorem si_new {tg : Expr} {m : M (List D)} (hl : SEL X W e m) : SI X W tg e (mSrcN m) :=
  pi_imp (pi_list hl) fun σ H R h => rdM.bind (rel := RelL X.K) (f := fun ds _ h1 => .ok (ds, fun _ => true) h1) h fun x H1 ds μ1 ρ eh1 hS hH hr hp => by
    obtain ⟨a, vs, ea, h1, h2, h3⟩ := hr
    refine ⟨a, ea, ⟨vs, .inl (.inl h1)⟩, hp (Itl X.K a) H1 μ1 .refl hH fun i H' μ' eh' e' hH' _ => ?_⟩
    have h1' : SqL X.K H' a vs := .inl (.inl (e'.fr a _ h1 h3))
    have h2' := h2.mono e'
    refine ⟨fun hi => ⟨vs, h1', by rw [h2'.len]; exact hi⟩, fun d hd => ?_⟩
    obtain ⟨v, hv, rv⟩ := h2'.get hd
    refine ⟨⟨vs, v, h1', hv⟩, fun y H2 hy => ?_⟩
    obtain ⟨eH, hy⟩ := hy
    subst eH
    have ey : v = y := Option.some.inj (hv.symm.trans (hy vs h1'))
    subst ey
    exact ⟨.refl, hH', rv⟩
end
end SL
set_option Elab.async false
set_option linter.all false
set_option maxRecDepth 100000
set_option maxHeartbeats 1000000
namespace SL
open PySem PySem.Spec PyProof.Rows L2
section
variable {X : Cx} {W : WX} {e o : Expr} {es : List Expr} {pos apos p : Pos}
/-! ### own methods -/
/-- o.m(..) of an instance of the class named c: its own fields do not hide m -/
def mMeth (c m : Str) (n : Nat) (F : FA) (mo : ME) (ms : M (List D)) : ME := fun ρ h => (mo ρ h).bind fun d h1 => if insOf c m d h1 = true then (ms ρ h1).bind fun ds h2 => if (d :: ds).length = n then F (d :: ds) h2 else .bad else .bad
where insOf (c m : Str) (d : D) (h : List O) : Bool := match d with
  | .ref k => (match h[k]? with
    | some (.ins c' fs) => decide (c' = c) && (match fs.lookup m with
      | none => true
      | some _ => false)
    | _ => false)
  | _ => false
theorem ins_ok {K : PySem.W.Frag} {H : Hp} {μ : List Addr} {eh : List O} {d : D} {v : V} {c m : Str} (hH : RelH K H μ eh) (hr : RelD K H μ d v) (e : mMeth.insOf c m d eh = true) : ∃ a dx fs, v = .ref a ∧ H a = some (.ins (He.ga K c) dx fs) ∧ fs.lookup m = none := by
  unfold mMeth.insOf at e
  split at e
  · split at e
    · rename_i c' fs ek
      obtain ⟨e1, e2⟩ := Bool.and_eq_true_iff.mp e
      have ec := of_decide_eq_true e1
      obtain ⟨a, ha, hm⟩ := hr
      obtain ⟨a', ha', dx, fv, h1, h2⟩ := hH.get ek
      have ea : a' = a := Option.some.inj (ha'.symm.trans hm)
      subst ea
      rw [ec] at h1
      refine ⟨a', dx, fv, ha, h1, h2.lookup_none ?_⟩
      split at e2
      · assumption
      · cases e2
    · cases e
  · cases e
/-- the call of a method, where what it raises is wished for at the slots -/
theorem pe_methS {CX : CXT} {k : Nat} {f C : Addr} {fd : FuncData} {ps : List Str} {sp : Sp} {E : L2.St → XK} {m : Str} {ta : TE} {t : TA} {pl : Sem Bool} (he : PE X o ta) (c : Cls X.K C) (hm : Meth X.K C m f) (F : FnOk X.prog X.w X.K X.mg X.base CX k f fd ps sp) (hr : Room k X.A)
    (hb : Binds X.K fd ps []) (hx : ∀ σ, PassesAt CX X σ (E σ)) (ha : PA X (e :: es) t) (hst : starEach (e :: es) X.env = (false, eval e X.env) :: starEach es X.env := by rfl) (hpl : (backTo pos (starEach es X.env)).any (·.1) = false := by rfl)
    (ht : eval (.Call (.Attribute o m apos) (e :: es) [] pos) X.env = (do
      let ov ← eval o X.env
      standAt apos.atName
      let (f, first) ← holding [ov] (getMethod ov m pl)
      callWith pos f first (backTo pos (starEach (e :: es) X.env)) (backToKw pos (keywordEach [] X.env))) := by rfl) :
    PE X (.Call (.Attribute o m apos) (e :: es) [] pos) (fun σ H Q => ta σ H fun x H1 => ∃ a dx fs, x = .ref a ∧ H1 a = some (.ins C dx fs) ∧ fs.lookup m = none ∧ t σ H1 fun vs H2 => sp (x :: vs) H2 Q (E σ)) := by
  constructor
  intro pins s σ H Q I h
  apply PySem.W.methodCall_KW (pl := pl) _ ht
  apply thn (he.run pins s σ H _ I h)
  intro u s1 hu
  obtain ⟨x, H1, I1, rx, a, dx, fs, ex, ea, l, q⟩ := hu
  subst ex
  obtain rfl : u = Value.ref a := rx
  apply getmeth_ok I1 ea c hm l
  apply PySem.W.callWith_K (first := [.ref a]) (h₀ := X.base) I.ok.mod.kin hm.kp _ hst hpl
  apply thn (ha.run pos pins s1 σ H1 _ I1 q)
  intro us s2 hv
  obtain ⟨vs, H2, I2, r, q2⟩ := hv
  exact ⟨I2.kIn, run_fnS (us := .ref a :: us) (vs := .ref a :: vs) F hr hb (hx σ) I2 (.cons rfl r) q2⟩
theorem pe_methS0 {CX : CXT} {k : Nat} {f C : Addr} {fd : FuncData} {ps : List Str} {sp : Sp} {E : L2.St → XK} {m : Str} {ta : TE} {pl : Sem Bool} (he : PE X o ta) (c : Cls X.K C) (hm : Meth X.K C m f) (F : FnOk X.prog X.w X.K X.mg X.base CX k f fd ps sp) (hr : Room k X.A)
    (hb : Binds X.K fd ps []) (hx : ∀ σ, PassesAt CX X σ (E σ))
    (ht : eval (.Call (.Attribute o m apos) [] [] pos) X.env = (do
      let ov ← eval o X.env
      standAt apos.atName
      let (f, first) ← holding [ov] (getMethod ov m pl)
      callWith pos f first (backTo pos (starEach [] X.env)) (backToKw pos (keywordEach [] X.env))) := by rfl) :
    PE X (.Call (.Attribute o m apos) [] [] pos) (fun σ H Q => ta σ H fun x H1 => ∃ a dx fs, x = .ref a ∧ H1 a = some (.ins C dx fs) ∧ fs.lookup m = none ∧ sp [x] H1 Q (E σ)) := by
  constructor
  intro pins s σ H Q I h
  apply PySem.W.methodCall_KW (pl := pl) _ ht
  apply thn (he.run pins s σ H _ I h)
  intro u s1 hu
  obtain ⟨x, H1, I1, rx, a, dx, fs, ex, ea, l, q⟩ := hu
  subst ex
  obtain rfl : u = Value.ref a := rx
  apply getmeth_ok I1 ea c hm l
  exact PySem.W.callWith_K0 (first := [.ref a]) I1.kIn hm.kp (run_fnS (us := [.ref a]) (vs := [.ref a]) F hr hb (hx σ) I1 (.cons rfl .nil) q)
theorem se_meth {k n : Nat} {f : Addr} {fd : FuncData} {ps : List Str} {F : FA} {c m : Str} {mo : ME} {ms : M (List D)} {pl : Sem Bool} (hc : Cls X.K (He.ga X.K c)) (hm : Meth X.K (He.ga X.K c) m f) (G : FnOk X.prog X.w X.K X.mg X.base (L2.CX X.prog X.w) k f fd ps (spOf X.K n F)) (tk : Takes X W) (hr : Room k X.A)
    (hb : Binds X.K fd ps []) (ho : SE X W o mo) (ha : SA X W (e :: es) ms) (hst : starEach (e :: es) X.env = (false, eval e X.env) :: starEach es X.env := by rfl) (hpl : (backTo pos (starEach es X.env)).any (·.1) = false := by rfl)
    (ht : eval (.Call (.Attribute o m apos) (e :: es) [] pos) X.env = (do
      let ov ← eval o X.env
      standAt apos.atName
      let (f, first) ← holding [ov] (getMethod ov m pl)
      callWith pos f first (backTo pos (starEach (e :: es) X.env)) (backToKw pos (keywordEach [] X.env))) := by rfl) :
    SE X W (.Call (.Attribute o m apos) (e :: es) [] pos) (mMeth c m n F mo ms) := by
  refine pe_imp (pe_methS (E := WE W) ho hc hm G hr hb (fun σ => passAt tk σ) ha hst hpl ht) fun σ H Q h => ?_
  refine rdM.bind (f := fun d ρ h1 => if mMeth.insOf c m d h1 = true then (ms ρ h1).bind fun ds h2 => if (d :: ds).length = n then F (d :: ds) h2 else .bad else .bad) h fun x H1 d μ1 ρ eh1 hS hH hr hp => ?_
  split at hp
  · rename_i hi
    obtain ⟨a, dx, fs, ea, h1, h2⟩ := ins_ok hH hr hi
    refine ⟨a, dx, fs, ea, h1, h2, μ1, ρ, eh1, hS, hH, (PostG.bind (rel := RelDs X.K) (f := fun ds h2 => if (d :: ds).length = n then F (d :: ds) h2 else .bad) hp).mono fun xs H2 ⟨ds, μ2, eh2, e2, hH2, hr2, hp2⟩ => ?_⟩
    split at hp2
    · rename_i hl
      exact ⟨μ2, eh2, d :: ds, hH2, ⟨x, xs, rfl, hr.mono e2 _ _, hr2⟩, hl, post_E hp2⟩
    · exact hp2.elim
  · exact hp.elim
theorem se_meth0 {k n : Nat} {f : Addr} {fd : FuncData} {ps : List Str} {F : FA} {c m : Str} {mo : ME} {pl : Sem Bool} (hc : Cls X.K (He.ga X.K c)) (hm : Meth X.K (He.ga X.K c) m f) (G : FnOk X.prog X.w X.K X.mg X.base (L2.CX X.prog X.w) k f fd ps (spOf X.K n F)) (tk : Takes X W) (hr : Room k X.A)
    (hb : Binds X.K fd ps []) (ho : SE X W o mo)
    (ht : eval (.Call (.Attribute o m apos) [] [] pos) X.env = (do
      let ov ← eval o X.env
      standAt apos.atName
      let (f, first) ← holding [ov] (getMethod ov m pl)
      callWith pos f first (backTo pos (starEach [] X.env)) (backToKw pos (keywordEach [] X.env))) := by rfl) :
    SE X W (.Call (.Attribute o m apos) [] [] pos) (mMeth c m n F mo mNil) := by
  refine pe_imp (pe_methS0 (E := WE W) ho hc hm G hr hb (fun σ => passAt tk σ) ht) fun σ H Q h => ?_
  refine rdM.bind (f := fun d ρ h1 => if mMeth.insOf c m d h1 = true then (mNil ρ h1).bind fun ds h2 => if (d :: ds).length = n then F (d :: ds) h2 else .bad else .bad) h fun x H1 d μ1 ρ eh1 hS hH hr hp => ?_
  split at hp
  · rename_i hi
    obtain ⟨a, dx, fs, ea, h1, h2⟩ := ins_ok hH hr hi
    refine ⟨a, dx, fs, ea, h1, h2, ?_⟩
    have hp2 : PostG X.K (RelD X.K) W σ H1 μ1 (if ([d] : List D).length = n then F [d] eh1 else .bad) Q := hp
    split at hp2
    · rename_i hl
      exact ⟨μ1, eh1, [d], hH, .one hr, hl, post_E hp2⟩
    · exact hp2.elim
  · exact hp.elim
theorem se_call0 {k n : Nat} {f : Addr} {fd : FuncData} {ps : List Str} {F : FA} {x : Str} (G : FnOk X.prog X.w X.K X.mg X.base (L2.CX X.prog X.w) k f fd ps (spOf X.K n F)) (hr : Room k X.A) (hg : Gl X x) (hm : X.mg x = some (.ref f)) (hk : PySem.W.keepIn X.K (.ref f) = true)
    (hb : Binds X.K fd ps []) (hdb : (x == ("__debug__" : Str)) = false := by decide) : SE X W (.Call (.Name x p) [] [] pos) (fun ρ h => (mCall n F mNil ρ h).nox) := by
  refine pe_imp (pe_call0 (dvs := []) (E := E0) G hr hg hm hk hb .nil passL hdb) fun σ H Q h => ?_
  obtain ⟨μ, ρ, eh, hS, hH, hp⟩ := h
  have hp2 : PostG X.K (RelD X.K) W σ H μ ((if ([] : List D).length = n then F [] eh else .bad : R D)).nox Q := hp
  split at hp2
  · rename_i hl
    refine ⟨μ, eh, [], hH, rfl, hl, ?_⟩
    exact hp2.noexc _ _
  · exact hp2.elim
/-! ### an instance made -/
def madeR (k : Nat) : R D → R D
  | .ok .non h2 => .ok (.ref k) h2
  | _ => .bad
def makeF (c : Str) (n : Nat) (F : FA) : FA := fun ds h1 => if ds.length + 1 = n then madeR h1.length (F (.ref h1.length :: ds) (h1 ++ [.ins c []])) else .bad
def mMake (c : Str) (n : Nat) (F : FA) (ms : M (List D)) : ME := fun ρ h => (ms ρ h).bind (makeF c n F)
theorem make_sim {n : Nat} {F : FA} {c : Str} {K : PySem.W.Frag} {σ : L2.St} {H1 : Hp} {μ1 : List Addr} {eh1 : List O} {xs : List V} {ds : List D} {Q : VK} {E : XK} (hH : RelH K H1 μ1 eh1) (hr : RelDs K H1 μ1 ds xs)
    (hp : PostG K (RelD K) W σ H1 μ1 (makeF c n F ds eh1) Q) :
    ∀ x dx, H1 x = none → H1 dx = none → dx ≠ x → spOf K n F (.ref x :: (xs ++ [])) (upd (upd H1 dx (.own x)) x (.ins (He.ga K c) dx [])) (fun v H2 => v = .non ∧ Q (.ref x) H2) E := by
  intro x dx hx hdx hne
  unfold makeF at hp
  split at hp
  · rename_i hl
    rw [List.append_nil]
    have e1 : Ext K H1 μ1 (upd H1 dx (.own x)) μ1 := ext_off hdx
    have hx1 : (upd H1 dx (.own x)) x = none := by rw [upd_ne (Ne.symm hne)]; exact hx
    have hH1 : RelH K (upd H1 dx (.own x)) μ1 eh1 := hH.off hdx
    have hm := hH1.mem_ne hx1
    have e2 : Ext K (upd H1 dx (.own x)) μ1 (upd (upd H1 dx (.own x)) x (.ins (He.ga K c) dx [])) (μ1 ++ [x]) := ext_new hx1 hm
    have hH2 := hH1.new (u := .ins (He.ga K c) dx []) (o := .ins c []) hx1 ⟨dx, [], upd_same, rfl⟩
    have at1 : (μ1 ++ [x])[eh1.length]? = some x := by
      rw [← hH.len, List.getElem?_append_right (Nat.le_refl _)]
      simp
    refine ⟨μ1 ++ [x], eh1 ++ [.ins c []], .ref eh1.length :: ds, hH2, ⟨.ref x, xs, rfl, ⟨x, rfl, at1⟩, (hr.mono e1).mono e2⟩, by simp [hl], ?_⟩
    revert hp
    cases F (.ref eh1.length :: ds) (eh1 ++ [.ins c []]) with
    | bad => exact id
    | exc c h => exact fun z => z.elim
    | ok d h2 =>
      cases d with
      | non =>
        intro hp v H3 μ3 e3 hH3 hv
        exact ⟨hv, hp (.ref x) H3 μ3 ((e1.trans e2).trans e3) hH3 ⟨x, rfl, e3.at at1⟩⟩
      | _ => exact fun z => z.elim
  · exact hp.elim
theorem se_make0 {k n : Nat} {f : Addr} {fd : FuncData} {ps : List Str} {F : FA} {c : Str} (Mk0 : Mk X.K (He.ga X.K c) f) (G : FnOk X.prog X.w X.K X.mg X.base (L2.CX X.prog X.w) k f fd ps (spOf X.K n F)) (hr : Room (k + 1) X.A) (hg : Gl X c) (hm : X.mg c = some (.ref (He.ga X.K c)))
    (hb : Binds X.K fd ps []) (hdb : (c == ("__debug__" : Str)) = false := by decide) : SE X W (.Call (.Name c p) [] [] pos) (mMake c n F mNil) := by
  refine pe_imp (pe_make0 (dvs := []) (E := E0) Mk0 G hr hg hm hb .nil passL hdb) fun σ H Q h => ?_
  obtain ⟨μ, ρ, eh, hS, hH, hp⟩ := h
  exact make_sim (W := W) (σ := σ) (xs := []) (ds := []) hH rfl hp
theorem se_make {k n : Nat} {f : Addr} {fd : FuncData} {ps : List Str} {F : FA} {c : Str} {ms : M (List D)} (Mk0 : Mk X.K (He.ga X.K c) f) (G : FnOk X.prog X.w X.K X.mg X.base (L2.CX X.prog X.w) k f fd ps (spOf X.K n F)) (hr : Room (k + 1) X.A) (hg : Gl X c) (hm : X.mg c = some (.ref (He.ga X.K c)))
    (hb : Binds X.K fd ps []) (ha : SA X W (e :: es) ms) (hdb : (c == ("__debug__" : Str)) = false := by decide) (he : starEach (e :: es) X.env = (false, eval e X.env) :: starEach es X.env := by rfl) (hpl : (backTo pos (starEach es X.env)).any (·.1) = false := by rfl) :
    SE X W (.Call (.Name c p) (e :: es) [] pos) (mMake c n F ms) := by
  refine pe_imp (pe_make (dvs := []) (E := E0) Mk0 G hr hg hm hb .nil passL ha hdb he hpl) fun σ H Q h => ?_
  refine rdM.bind (f := fun ds _ => makeF c n F ds) h fun xs H1 ds μ1 ρ eh1 hS hH hr hp => ?_
  exact make_sim (W := W) (σ := σ) hH hr hp
/-! ### try .. except X: .. -/
def sTry (ct : Str → Option Bool) (mb ms : MS) : MS := fun ρ h => match mb ρ h with
  | .exc c ρ1 h1 => (match ct c with
    | some true => (match ms ρ1 h1 with
      | .exc _ _ _ => .bad
      | r => r)
    | some false => .exc c ρ1 h1
    | none => .bad)
  | r => r
theorem ss_try {x : Str} {c : Value} {body suite : List Stmt} {b0 : Stmt} {np pos' : Pos} {mb ms : MS} {ct : Str → Option Bool} (hs : X.stack = X.env :: X.outer) (hf : X.env.frame = some X.env.locals) (hc : Names X x c) (tk : Takes X W)
    (hct : ∀ n b, ct n = some b → PySem.W.exmOne X.K (.ref (He.ga X.K n)) c = some b)
    (hb : ∀ (W' : WX) (pn : List (Addr × Obj)) (xe : Value → Shared → Prop), Takes (X.tr pn xe) W' → PassesOwn (model X.prog X.w) X.A X.env xe → SSs (X.tr pn xe) W' body mb)
    (hsu : ∀ (a : Addr) (oe : Obj) (pn : List (Addr × Obj)), SSs (X.suite a ((a, oe) :: pn)) W0 (b0 :: suite) ms) :
    SS X W (.Try body [.ExceptHandler (some (.Name x np)) none (b0 :: suite) pos'] [] [] pos) (sTry ct mb ms) := by
  refine ps_imp (ps_try_only (tb := fun W' => rdS X.K W' mb) (ts := fun _ _ _ => rdS X.K W0 ms) (Wout := W) hs hf hc tk (fun W' pn xe t p => hb W' pn xe t p) (fun a oe cls d pn _ _ => hsu a oe pn)) fun E σ H ⟨μ, ρ, eh, hS, hH, hp⟩ => ?_
  refine ⟨μ, ρ, eh, hS, hH, ?_⟩
  unfold sTry at hp
  revert hp
  cases mb ρ eh with
  | nx ρ1 h1 => exact id
  | rt d h1 => exact id
  | bk ρ1 h1 => exact id
  | ct ρ1 h1 => exact id
  | bad => exact id
  | exc n ρ1 h1 =>
    intro hp σ1 H1 μ1 e1 hH1 hS1
    dsimp only at hp
    split at hp
    · rename_i e2
      refine ⟨true, hct n true e2, fun _ a _ => ⟨μ1, ρ1, h1, hS1, hH1, ?_⟩, fun z => Bool.noConfusion z⟩
      revert hp
      cases ms ρ1 h1 with
      | nx ρ2 h2 => exact fun hp => PostS.ext e1 hp
      | rt d h2 => exact fun hp => PostS.ext (x := .rt d h2) e1 hp
      | bk ρ2 h2 => exact fun hp => PostS.ext e1 hp
      | ct ρ2 h2 => exact fun hp => PostS.ext e1 hp
      | bad => exact id
      | exc c ρ2 h2 => exact fun z => z.elim
    · rename_i e2
      refine ⟨false, hct n false e2, ?_, ?_⟩
      · exact fun z => Bool.noConfusion z
      · exact fun _ => hp σ1 H1 μ1 e1 hH1 hS1
    · exact hp.elim
/-! ### three names at once -/
def par3 (i j l : Nat) : List D → Sl → List O → RS
  | [d1, d2, d3], ρ, h => .nx (((ρ.set i (some d1)).set j (some d2)).set l (some d3)) h
  | _, _, _ => .bad
def sPar3 (i j l : Nat) (ms : M (List D)) : MS := fun ρ h => (ms ρ h).thn ρ fun ds h1 => par3 i j l ds ρ h1
theorem ss_par3 {i j l : Nat} {x y z : Str} {a b c : Expr} {ms : M (List D)} {px py pz pt : Pos} {kt k2 pt2} (hc : X.calm = true) (hN : X.N.Nodup) (ha : SA X W [a, b, c] ms) (hi : X.N[i]? = some x := by rfl) (hj : X.N[j]? = some y := by rfl) (hl : X.N[l]? = some z := by rfl) (hij : i ≠ j := by decide) (hil : i ≠ l := by decide) (hjl : j ≠ l := by decide)
    (hx : X.env.scope.names.lookup x = some .local := by rfl) (hy : X.env.scope.names.lookup y = some .local := by rfl) (hz : X.env.scope.names.lookup z = some .local := by rfl)
    (hw : swappedStores [.Tuple [.Name x px, .Name y py, .Name z pz] kt pt] (.Tuple [a, b, c] k2 pt2) X.env = pure (some [x, y, z]) := by rfl)
    (hs : swapsWithSole [.Tuple [.Name x px, .Name y py, .Name z pz] kt pt] (.Tuple [a, b, c] k2 pt2) pos.line X.env = pure false := by rfl) :
    SS X W (.Assign [.Tuple [.Name x px, .Name y py, .Name z pz] kt pt] (.Tuple [a, b, c] k2 pt2) pos) (sPar3 i j l ms) :=
  ps_imp (ps_par3 hc hN hi hj hl hij hil hjl hx hy hz ha hw hs) fun E σ H h => thnS (f := fun ds ρ h1 => par3 i j l ds ρ h1) h fun vs H1 ds μ1 ρ eh1 hS hH hr hp => by
      match ds, hr, hp with
      | [], _, hp => exact hp.elim
      | [_], _, hp => exact hp.elim
      | [_, _], _, hp => exact hp.elim
      | _ :: _ :: _ :: _ :: _, _, hp => exact hp.elim
      | [d1, d2, d3], hr, hp =>
        obtain ⟨v, r, e1, r1, h'⟩ := hr
        obtain ⟨w, u, e2, r2, r3⟩ := h'.two'
        subst e2 e1
        exact ⟨v, w, u, rfl, hp _ H1 μ1 .refl hH (((hS.set i r1).set j r2).set l r3)⟩
end
/-! ### a def -/
def startD (n : Nat) (ds : List D) : Sl := ds.map some ++ List.replicate (n - ds.length) none
def runDef (n : Nat) (m : MS) : FA := fun ds h => match m (startD n ds) h with
  | .rt d h1 => .ok d h1
  | .nx _ h1 => .ok .non h1
  | .exc c _ h1 => .exc c h1
  | _ => .bad
section
variable {P : Program} {w : World} {K : PySem.W.Frag} {mg : Str → Option Value} {base : Heap}
theorem start_rel {H : Hp} {μ : List Addr} (N : List Str) : ∀ {ds : List D} {vs : List V}, RelDs K H μ ds vs → RelS K H μ (startD N.length ds) (L2.start N vs) := by
  intro ds vs h
  unfold startD L2.start
  rw [h.len]
  have tail : ∀ k : Nat, RelS K H μ (List.replicate k none) (List.replicate k none) := by
    intro k
    induction k with
    | zero => rfl
    | succ k ih => exact ⟨none, _, rfl, ih⟩
  have go : ∀ (ds : List D) (vs : List V), RelDs K H μ ds vs → ∀ k, RelS K H μ (ds.map some ++ List.replicate k none) (vs.map some ++ List.replicate k none) := by
    intro ds
    induction ds with
    | nil =>
      intro vs h k
      rw [show vs = [] from h]
      exact tail k
    | cons d ds ih =>
      intro vs h k
      obtain ⟨v, r, e1, e2, e3⟩ := h
      rw [e1]
      exact ⟨v, _, rfl, e2, ih r e3 k⟩
  exact go ds vs h _
/-- the end of a def's body, as the def's promise -/
theorem def_read {N : List Str} {m : MS} {H : Hp} {μ : List Addr} {eh : List O} {ds : List D} {vs : List V} {Q : VK} {E : XK} (hH : RelH K H μ eh) (hd : RelDs K H μ ds vs) (hp : PostG K (RelD K) (fun c d _ H => E c d H) [] H μ (runDef N.length m ds eh) Q) :
    rdS K (fun cls d _ H => E cls d H) m { nx := fun _ H' => Q .non H', rt := Q } (L2.start N vs) H := by
  refine ⟨μ, startD N.length ds, eh, start_rel N hd, hH, ?_⟩
  unfold runDef at hp
  revert hp
  show PostG K (RelD K) _ _ H μ (match m (startD N.length ds) eh with
    | .rt d h1 => .ok d h1
    | .nx _ h1 => .ok .non h1
    | .exc c _ h1 => .exc c h1
    | _ => .bad) Q → PostS K _ _ H μ (m (startD N.length ds) eh)
  cases m (startD N.length ds) eh with
  | rt d h1 => exact id
  | nx ρ h1 => exact fun hp σ1 H1 μ1 e1 hH1 _ => hp .non H1 μ1 e1 hH1 rfl
  | exc c ρ h1 => exact fun hp σ1 H1 μ1 e1 hH1 _ => hp H1 μ1 e1 hH1
  | bk ρ h1 => exact fun hp => hp.elim
  | ct ρ h1 => exact fun hp => hp.elim
  | bad => exact fun hp => hp.elim
/-- a def whose body is told by m keeps the promise of m -/
theorem ok_def {x qual : Str} {params : Arguments} {body : List Stmt} {scope : Scope} {dvs : List V} {kws : List (Str × V)} {f : Addr} {fd : FuncData} {N ps : List Str} {k : Nat} {m : MS} (F : FunD K x qual params body scope dvs kws f fd) (S : FnScope N ps scope)
    (hb : ∀ (cdv : Value) (A : Around) (outer : List Env) (s : Shared) (H : Hp) (E : XK), Room k (A.deeper (envOfC qual scope s.heap.objs.size f cdv)) →
      SSs (cxOf (L2.CX P w) P w K mg base N qual scope f cdv A outer s H E) (fun cls d _ H => E cls d H) body m) : FnOk P w K mg base (L2.CX P w) (k + 1) f fd ps (spOf K ps.length (runDef N.length m)) := by
  refine F.ok S (fun vs H Q E h => h.len) fun cdv A outer s H vs Q E hr h => ⟨_, hb cdv A outer s H E hr, ?_⟩
  obtain ⟨μ, eh, ds, hH, hd, hl, hp⟩ := h
  exact def_read hH hd hp
end
end SL
set_option Elab.async false
set_option linter.all false
set_option maxRecDepth 100000
set_option maxHeartbeats 1000000
namespace SL
open PySem PySem.Spec PyProof.Rows L2
/-! ### a def of the text, as it is promised -/
section
variable {P : Program} {w : World} {K : PySem.W.Frag} {mg : Str → Option Value} {base : Heap}
/-- the def keeps the promise F over data, in a room of L -/
def OkF (P : Program) (w : World) (K : PySem.W.Frag) (mg : Str → Option Value) (base : Heap) (d : He.DefD) (L : Nat) (ps : List Str) (F : FA) : Prop :=
  ∃ fd, FnOk P w K mg base (L2.CX P w) L (He.fAd K d.at_) fd ps (spOf K ps.length F) ∧ Binds K fd ps [] ∧ PySem.W.keepIn K (.ref (He.fAd K d.at_)) = true
/-- no fuel: nothing is promised -/
theorem bad_ok {f : Addr} {fd : FuncData} {ps : List Str} {k : Nat} {F : FA} (hF : F = fun _ _ => .bad) :
    FnOk P w K mg base (L2.CX P w) k f fd ps (spOf K ps.length F) := by
  subst hF
  refine ⟨fun vs H Q E h => h.len, fun A outer s H args us vs Q E hr he hb hv hs => ?_⟩
  obtain ⟨μ, eh, ds, _, _, _, hp⟩ := hs
  exact hp.elim
end
/-- pure where no argument holds an object -/
def pureOr (F : FA) : FA := fun ds h => if D.flats ds = true then pureOf F ds h else F ds h
theorem pureOr_sp {K : PySem.W.Frag} {n : Nat} {F : FA} {vs : List V} {H : Hp} {Q : VK} {E : XK} (h : spOf K n (pureOr F) vs H Q E) : spOf K n F vs H Q E := by
  by_cases c : ∃ (μ : List Addr) (eh : List O) (ds : List D), D.flats ds = true ∧ RelH K H μ eh ∧ RelDs K H μ ds vs ∧ ds.length = n ∧ PostG K (RelD K) (fun c d _ H => E c d H) [] H μ (pureOf F ds eh) Q
  · obtain ⟨μ, eh, ds, _, q⟩ := c
    exact pure_sp ⟨μ, eh, ds, q⟩
  · obtain ⟨μ, eh, ds, hH, hr, hl, hp⟩ := h
    unfold pureOr at hp
    by_cases fl : D.flats ds = true
    · rw [if_pos fl] at hp
      exact absurd ⟨μ, eh, ds, fl, hH, hr, hl, hp⟩ c
    · rw [if_neg fl] at hp
      exact ⟨μ, eh, ds, hH, hr, hl, hp⟩
/-- the turns a while loop is given -/
def bigN : Nat := 1000000
section
variable {X : Cx} {W : WX} {pos : Pos}
/-! ### the module's numbers and texts -/
theorem se_gint {x : Str} {i : Int} (hg : Gl X x) (h : ∃ t, X.mg x = some (.int i t)) (hd : (x == ("__debug__" : Str)) = false := by decide) : SE X W (.Name x pos) (mC (.int i)) :=
  by
  obtain ⟨t, e⟩ := h
  exact se_c (v := .int i) (pe_glob hg e ⟨t, rfl⟩ hd) fun _ _ => rfl
theorem se_gstr {x : Str} {z : Str} (hg : Gl X x) (h : ∃ t, X.mg x = some (.str z t)) (hd : (x == ("__debug__" : Str)) = false := by decide) : SE X W (.Name x pos) (mC (.str z)) :=
  by
  obtain ⟨t, e⟩ := h
  exact se_c (v := .str z) (pe_glob hg e ⟨t, rfl⟩ hd) fun _ _ => rfl
/-! ### name = [..] -/
theorem ss_setLc {i : Nat} {y : Str} {py : Pos} {elt tg iter : Expr} {ifs : List Expr} {scope : Scope} {own : List (Str × Nat)} {spos : Pos} {src : MI} {is : List Nat} {g : GT} {tt : M Bool} {te : ME} (hc : X.calm = true) (hN : X.N.Nodup) (hi : SI X W tg iter src) (ok : BlkOk X.N X.env.scope scope own) (his : ∀ i ∈ is, i ∈ own.map (·.2))
    (hg : ∀ (s : Shared) (H : Hp) (C : Addr) (cl : List (Str × Addr)) (fp : List Addr), SG (BX X scope s H C cl fp) W0 tg is g) (ht : ∀ (s : Shared) (H : Hp) (C : Addr) (cl : List (Str × Addr)) (fp : List Addr), PTs (BX X scope s H C cl fp) ifs (rdT X.K W0 tt))
    (he : ∀ (s : Shared) (H : Hp) (C : Addr) (cl : List (Str × Addr)) (fp : List Addr), SE (BX X scope s H C cl fp) W0 elt te)
    (hy : X.N[i]? = some y := by rfl) (hyl : X.env.scope.names.lookup y = some .local := by rfl) (hk : X.env.scope.kind = .function := by rfl) (hl : (py.line == pos.line) = true := by rfl)
    (ha : (scope.names.any fun (n, k) => n == y && (k == .local || k == .cell)) = false := by rfl)
    (hs : ∀ x, foldedSetIterable iter X.env x = pure x := by intro _; rfl) :
    SS X W (.Assign [.Name y py] (.ListComp elt [⟨tg, iter, ifs, 0⟩] scope pos) spos) (sSet i (mNew (mLcI src (own.map (·.2)) g tt te))) := by
  refine ps_imp (ps_setLc (g := rdG X.K W0 is g) (tt := rdT X.K W0 tt) (te := rdE X.K W0 te) hc hN hy hyl (sw_true hk hyl hl ha) hi ok hg ht he hs) fun E σ H h => ?_
  have h2 : rdM X.K (RelD X.K) W σ (mNew (mLcI src (own.map (·.2)) g tt te)) H fun v H1 => E.nx (σ.set i (some v)) H1 :=
    thnS (f := fun d ρ h1 => .nx (ρ.set i (some d)) h1) h fun b H1 a μ1 ρ eh1 hS hH hr hp => hp _ H1 μ1 .refl hH (hS.set i hr)
  exact lc_read his h2
end
end SL
set_option Elab.async false
set_option linter.all false
set_option maxRecDepth 100000
set_option maxHeartbeats 1000000
namespace SL
open PySem PySem.Spec PyProof.Rows L2
/-! ### enumerate(text) -/
/-- a text's signs, each in a new pair -/
def Its2 (x : Str) : It :=
  ⟨fun i _ => i < x.cps.size, fun i H v H' => ∃ T c, v = .ref T ∧ H T = none ∧ H' = upd H T (.tup [.int (i : Nat), .str ⟨#[c]⟩]) ∧ x.cps[i]? = some c, fun i _ => x.cps.size ≤ i⟩
theorem draws_str {P : Program} {w : World} {A : Around} (hh : A.handled = none) (it : Addr) (x : Str) (t : Tok) :
    Draws P w A it [it] x.cps.size (fun i v => ∃ c u, x.cps[i]? = some c ∧ v = .str ⟨#[c]⟩ u) (fun i h => h.IsStrIter it (strIterType x) x t i) := by
  unfold strIterType
  split
  · exact Draws.strAscii hh it x t
  · exact Draws.strWide hh it x t
theorem turn_enumS {P : Program} {w : World} {K : PySem.W.Frag} {elts : List Expr} {kk : Nat} {tpos : Pos} (x : Str) (t : Tok) (e it : Addr) :
    Turn P w K (.Tuple elts kk tpos) (Its2 x) [e, it] e (fun i h => (∃ old, IsEnum h e it ((i : Nat) : Int) old) ∧ h.IsStrIter it (strIterType x) x t i ∧ e ≠ it ∧ i ≤ x.cps.size) where
  mem := by simp
  obj := fun i h st b hb => by
    obtain ⟨⟨old, q1⟩, ⟨o, q2, q3, q4⟩, _⟩ := st
    have eb : b = e ∨ b = it := by simpa using hb
    cases eb with
    | inl z => rw [z]; exact ⟨_, q1, fun v q => nomatch q⟩
    | inr z => rw [z]; exact ⟨o, q2, fun v q => by rw [q4] at q; cases q⟩
  keep := fun i h h' st k => by
    obtain ⟨⟨old, q1⟩, ⟨o, q2, q3⟩, ne, le⟩ := st
    exact ⟨⟨old, k e (by simp) _ q1⟩, ⟨o, k it (by simp) o q2, q3⟩, ne, le⟩
  item := by
    intro X hP hw hK hc i pins s σ H E I hf st hg
    subst hP hw hK
    obtain ⟨⟨old, q1⟩, q2, ne, lz⟩ := st
    have le : e < s.heap.objs.size := Heap.lt_size q1
    have li : it < s.heap.objs.size := by
      obtain ⟨_, q, _⟩ := q2
      exact Heap.lt_size q
    have hi : i < x.cps.size := hg
    refine wpAny_pyNext_enum_itemD (fp := [it]) (St := fun i h => h.IsStrIter it (strIterType x) x t i) (draws_str (A := X.A.in1) (I.ok.hd hc) it x t) q1 q2 hi ne (by simpa using ne) fun u h' tk hu ho q2' hT hsz hk => ?_
    obtain ⟨c, tu, hcx, eu⟩ := hu
    subst eu
    refine ⟨_, rfl, wpAny_letOwnedTupleGo_enum (s := { s with heap := h', toks := tk + 1 }) ho fun h2 q1' sb => ?_⟩
    have hT2 : h2.get? s.heap.objs.size = some { cls := .type "tuple", data := .seq #[.int i tk, .str ⟨#[c]⟩ tu] } := (sb.2 _ (Nat.ne_of_gt le)).trans hT
    have new : ObjOk X.prog X.w (upd H s.heap.objs.size (.tup [.int (i : Nat), .str ⟨#[c]⟩])) h2 s.heap.objs.size (.tup [.int (i : Nat), .str ⟨#[c]⟩]) :=
      ⟨by show 2 ≤ sizeLine; decide, [.int i tk, .str ⟨#[c]⟩ tu], .cons ⟨_, rfl⟩ (.cons ⟨_, rfl⟩ .nil), ⟨_, hT2, rfl, _, rfl⟩⟩
    have I1 : Inv X pins σ (upd H s.heap.objs.size (.tup [.int (i : Nat), .str ⟨#[c]⟩])) { s with heap := h2, toks := tk + 1 } :=
      I.turnedNew (ch := [e, it]) (fun b ob hb q => (sb.2 b (fun z => hb (by simp [z]))).trans (hk b ob (fun z => hb (by simp [z])) (fun z => hb (by simp [z])) q)) hf (Nat.le_refl _) new
    refine ⟨.ref s.heap.objs.size, _, I1, rfl, ⟨_, c, rfl, I.hok.fresh (Nat.le_refl _), rfl, hcx⟩, ⟨⟨.str ⟨#[c]⟩ tu, ?_⟩, ?_, ne, hi⟩, fun b hb => ?_⟩
    · rw [show ((i + 1 : Nat) : Int) = (i : Int) + 1 by omega]
      exact q1'
    · obtain ⟨o, r1, r2⟩ := q2'
      exact ⟨o, (sb.2 it (Ne.symm ne)).trans r1, r2⟩
    · have eb : b = e ∨ b = it := by simpa using hb
      have lb : b < s.heap.objs.size := by
        cases eb with
        | inl z => rw [z]; exact le
        | inr z => rw [z]; exact li
      rw [upd_ne (Nat.ne_of_lt lb)]
      exact (hf b hb).1
  done := by
    intro X hP hw hK hc i pins s σ H E I hf st hg
    subst hP hw hK
    obtain ⟨⟨old, q1⟩, q2, ne, lz⟩ := st
    obtain ⟨f0, f1, f2, f3, f4, f5⟩ := hf it (by simp)
    have hi : x.cps.size ≤ i := hg
    have ei : i = x.cps.size := Nat.le_antisymm lz hi
    subst ei
    exact wpAny_pyNext_enum_endD (fp := [it]) (St := fun i h => h.IsStrIter it (strIterType x) x t i) (draws_str (A := X.A.in1) (I.ok.hd hc) it x t) q1 q2 fun h' eb => ⟨rfl, I.turned (t' := s.toks) (fun b o hb q => eb b o hb q) f0 f1 f3 f4 f5⟩
  self := fun A i s Q E st h => by
    obtain ⟨⟨_, q1⟩, _⟩ := st
    exact wpAny_pyIter_enum q1 h
def iEnumS (ta : TA) : TI := fun σ H R => ta σ H fun vs H1 => ∃ x, vs = [.str x] ∧ R (Its2 x) H1
theorem pi_enumS {X : Cx} {e : Expr} {ta : TA} {p pos tpos : Pos} {elts : List Expr} {kk : Nat} (hg : Gl X "enumerate") (hm : X.mg "enumerate" = none) (ha : PA X [e] ta) (hs : starEach [e] X.env = [(false, eval e X.env)] := by rfl) :
    PI X (.Tuple elts kk tpos) (.Call (.Name "enumerate" p) [e] [] pos) (iEnumS ta) := by
  refine ⟨fun pins s σ H R I h => ?_⟩
  refine Call_ (ld_blt I hg hm boot_enumerate (PyProof.Rows.callWith_type1 (thn (ha.run pos pins s σ H _ I h) fun us s1 ⟨vs, H1, I1, r1, x, ex, q⟩ => ?_) hs rfl))
  subst ex
  cases r1 with
  | cons r rr =>
    cases rr
    obtain ⟨t, rfl⟩ := r
    refine call_enumerate_str fun h' he hit hsz hk => wpAny_pyIter_enum he ?_
    have I2 : Inv X pins σ H1 { s1 with heap := h' } := I1.kept (t' := s1.toks) hk
    refine ⟨s1.heap.objs.size + 1, [s1.heap.objs.size + 1, s1.heap.objs.size], _, _, H1, rfl, I2, turn_enumS x t (s1.heap.objs.size + 1) s1.heap.objs.size, ⟨⟨.none, he⟩, hit, Nat.succ_ne_self _, Nat.zero_le _⟩, fun b hb => ?_, q⟩
    have eb : b = s1.heap.objs.size + 1 ∨ b = s1.heap.objs.size := by simpa using hb
    have lb : s1.heap.objs.size ≤ b := by
      cases eb with
      | inl z => rw [z]; exact Nat.le_add_right _ _
      | inr z => rw [z]; exact Nat.le_refl _
    exact I1.fpOk lb (I1.hok.fresh lb)
def srcEnS : D → List O → R Src := fun d h => match d with
  | .str x => .ok (enumD 0 (x.cps.toList.map fun c => .str ⟨#[c]⟩), fun _ => true) h
  | _ => .bad
theorem si_enumS {X : Cx} {W : WX} {pos : Pos} {a : Expr} {p tpos : Pos} {elts : List Expr} {kk : Nat} {ms : M (List D)} (hg : Gl X "enumerate") (hm : X.mg "enumerate" = none) (ha : SA X W [a] ms) (hs : starEach [a] X.env = [(false, eval a X.env)] := by rfl) :
    SI X W (.Tuple elts kk tpos) (.Call (.Name "enumerate" p) [a] [] pos) (mSrcA (one1 srcEnS) ms) :=
  pi_imp (pi_enumS hg hm ha hs) fun σ H R h => rdM.bind (f := fun ds _ => one1 srcEnS ds) h fun xs H1 ds μ1 ρ eh1 hS hH hr hp => by
    unfold one1 at hp
    split at hp
    · rename_i d
      obtain ⟨x, ex, rx⟩ := hr.one'
      cases d with
      | str z =>
        have rx' : x = .str z := rx
        refine ⟨z, by rw [ex, rx'], hp (Its2 z) H1 μ1 .refl hH fun i H' μ' eh' e' hH' hg => ?_⟩
        refine ⟨fun hi => by rw [enumD_len] at hi; simpa [Its2] using hi, fun dd hd => ?_⟩
        rw [enumD_get, Option.map_eq_some_iff] at hd
        obtain ⟨d0, hd0, edd⟩ := hd
        rw [List.getElem?_map, Option.map_eq_some_iff] at hd0
        obtain ⟨c, hc, ed⟩ := hd0
        subst ed edd
        have hc' : z.cps[i]? = some c := by rw [← Array.getElem?_toList]; exact hc
        have hl : i < z.cps.size := (Array.getElem?_eq_some_iff.mp hc').1
        refine ⟨hl, fun y H2 hy => ?_⟩
        obtain ⟨T, c', ey, hT, eH, hx'⟩ := hy
        subst eH ey
        have ec : c = c' := Option.some.inj (hc'.symm.trans hx')
        subst ec
        have ext : Ext X.K H' μ' (upd H' T (.tup [.int (i : Nat), .str ⟨#[c]⟩])) μ' := ext_off hT
        exact ⟨ext, hH'.off hT, T, _, rfl, .inl (.inl upd_same), .int (i : Nat), [.str ⟨#[c]⟩], rfl, by simp [RelD], .str ⟨#[c]⟩, [], rfl, rfl, rfl⟩
      | _ => exact hp.elim
    · exact hp.elim
end SL
set_option Elab.async false
set_option linter.all false
set_option maxRecDepth 100000
set_option maxHeartbeats 2000000
namespace SL
open PySem PySem.Spec PyProof.Rows L2
open PySem.NumText
/-! ### int(text), of up to 4300 digits -/
section
theorem wpText {M : Model} {A : Around} {E : Value → Shared → Prop} {s : Shared} {Q : Value → Shared → Prop} {v : Value} {text : List Nat} {n : Int} (hn : s.heap.NoDigits)
    (hr : (int_private% "readNumeral") (if (text.takeWhile (· != 0)).length ≤ 640 then 0 else 4300) 10 (text.takeWhile (· != 0)) = (int_private% "Numeral.value") n)
    (ha : ((text.takeWhile (· != 0)).length == text.length) = true) (h : Q (.int n s.toks) { s with toks := s.toks + 1 }) :
    wpAny M A ((int_private% "intFromText") v text 10) Q E s := by
  by_cases hs : (text.takeWhile (· != 0)).length ≤ 640
  · rw [if_pos hs] at hr
    exact PySem.W.KIN.wp_text hs hr ha h
  · rw [if_neg hs] at hr
    obtain ⟨hp, g, d, tk, os⟩ := s
    have hlim : ∀ (Q : Nat → Shared → Prop), Q 4300 ⟨hp, g, d, tk, os⟩ → wpAny M A Builtin.intMaxStrDigits Q E ⟨hp, g, d, tk, os⟩ := fun Q hq => by
      obtain ⟨mc, hns, hnone⟩ := hn
      unfold Builtin.intMaxStrDigits
      refine wpAny_bind (wpAny_nsGet hns ?_)
      rw [hnone]
      exact wpAny_pure hq
    have hs' : decide ((text.takeWhile (· != 0)).length ≤ 640) = false := decide_eq_false hs
    repeat (any_goals (first
      | assumption
      | (with_reducible refine wpAny_ite_false hs' ?_)
      | (with_reducible refine wpAny_ite_true (decide_eq_true ha) ?_)
      | (with_reducible refine wpAny_bind (hlim _ ?_))
      | (with_reducible refine hlim _ ?_)
      | wp_step))
    all_goals (try rw [hr])
    all_goals (try dsimp only)
    repeat (any_goals (first
      | assumption
      | (with_reducible refine wpAny_ite_true (decide_eq_true ha) ?_)
      | wp_step))
set_option maxHeartbeats 4000000 in
theorem newText {x : PySem.Str} {u : Tok} {n : Int} (hl : x.length ≤ sizeLine) (hn : PySem.intText? x = some n) (M : Model) (A : Around) (E : Value → Shared → Prop) (s : Shared) (Q : Value → Shared → Prop) (hd : s.heap.NoDigits)
    (h : Q (.int n s.toks) { s with toks := s.toks + 1 }) : wpAny M A (Builtin.«int.__new__» ⟨[.type "int", .str x u], []⟩) (fun fin s' => ∃ v, fin = .done (.ret v) ∧ Q v s') E s := by
  obtain ⟨hp, g, d, tk, os⟩ := s
  have f1 := F.conv_sub_int
  have f2 := F.madeHere_int
  have f3 := PySem.W.KIN.str_int
  have f4 := PySem.W.KIN.str_idx
  have f5 := PySem.W.KIN.str_trunc
  have f6 : typeOf (.str x u) = pure (.type "str") := rfl
  have hr : (int_private% "readNumeral") (numLimitOf x) 10 (numSeenOf x) = (int_private% "Numeral.value") n ∧ ((numSeenOf x).length == (numTextOf x).length) = true := by
    rcases readAny x hl with ⟨m, h1, h2, h3⟩ | ⟨h1, _⟩
    · rw [hn] at h1
      injection h1 with h1
      subst h1
      exact ⟨h3, h2⟩
    · rw [hn] at h1
      cases h1
  have hk := PySem.W.KIN.Hid.mk (And.intro hd hr)
  clear hr hl hn hd
  repeat (any_goals (first
    | assumption
    | ((with_reducible show wpAny _ _ ((int_private% "intFromText") _ _ _) _ _ _); refine wpText hk.out.1 hk.out.2.1 hk.out.2.2 ?_)
    | wp_step))
  all_goals first | exact ⟨_, rfl, h⟩ | skip
theorem meetsText {x : PySem.Str} {u : Tok} {n : Int} (hl : x.length ≤ sizeLine) (hn : PySem.intText? x = some n) :
    Meets (Builtin.«int.__new__» ⟨[.type "int", .str x u], []⟩) (fun _ R s => s.heap.NoDigits ∧ R (.ok (.ret (.int n s.toks))) { s with toks := s.toks + 1 }) := fun prog w A R s h => by
  refine wpAny_mono (newText hl hn _ A.in1 _ s (fun v s' => R (.ok (.ret v)) s') h.1 h.2) (fun fin s' h' => ?_) fun _ _ q => q
  obtain ⟨v, rfl, hv⟩ := h'
  exact hv
theorem callText {prog : Program} {w : World} {A : Around} {E : Value → Shared → Prop} {s : Shared} {Q : Value → Shared → Prop} {x : PySem.Str} {t : Tok} {n : Int} (hd : s.heap.NoDigits) (hn : PySem.intText? x = some n) (hl : x.length ≤ sizeLine)
    (h : Q (.int n s.toks) { s with toks := s.toks + 1 }) : wpAny (model prog w) A (call (.type "int") [.str x t]) Q E s :=
  call_int_1 (meetsText hl hn) ⟨hd, rfl, h⟩
end
section
variable {X : Cx} {W : WX} {K : PySem.W.Frag}
theorem noDig {pins : List (Addr × Obj)} {σ : L2.St} {H : Hp} {s : Shared} (hd : X.base.NoDigits) (I : Inv X pins σ H s) : s.heap.NoDigits := hd.keeps I.bk
theorem call_intN (hd : X.base.NoDigits) : CallR X (.type "int") (fun xs H Q => ∃ a n, xs = [.str a] ∧ PySem.intText? a = some n ∧ a.length ≤ sizeLine ∧ Q (.int n) H) := by
  intro pins s σ H xs us Q I rs h
  obtain ⟨a, n, rfl, hn, hl, h⟩ := h
  cases rs with
  | cons r1 rs =>
    cases rs
    obtain ⟨t, rfl⟩ := r1
    exact callText (noDig hd I) hn hl ⟨.int n, H, I.tok _, ⟨_, rfl⟩, h⟩
/-- int(n), int(flag), int(text) -/
def fIntN : FA := fun args h => match args with
  | [.int i] => .ok (.int i) h
  | [.bl k] => .ok (.int (if k then 1 else 0)) h
  | [.str a] => (match PySem.intText? a with
    | some n => if a.length ≤ sizeLine then .ok (.int n) h else .bad
    | none => .bad)
  | _ => .bad
def rIntN : List V → Hp → VK → Prop := fun xs H Q => ((∃ i, xs = [.int i] ∧ Q (.int i) H) ∨ ∃ k, xs = [.bl k] ∧ Q (.int (if k then 1 else 0)) H) ∨ ∃ a n, xs = [.str a] ∧ PySem.intText? a = some n ∧ a.length ≤ sizeLine ∧ Q (.int n) H
theorem c_intN (hd : X.base.NoDigits) : CallR X (.type "int") rIntN := call_int1.or (call_intN hd)
theorem s_intN (K : PySem.W.Frag) : SimL K rIntN fIntN := by
  intro W σ H μ eh xs ds Q hH hr hp
  unfold fIntN at hp
  split at hp
  · obtain ⟨v, ev, rv⟩ := hr.one'
    exact .inl (.inl ⟨_, by rw [ev, show v = _ from rv], post_ok hp hH rfl⟩)
  · obtain ⟨v, ev, rv⟩ := hr.one'
    exact .inl (.inr ⟨_, by rw [ev, show v = _ from rv], post_ok hp hH rfl⟩)
  · obtain ⟨v, ev, rv⟩ := hr.one'
    split at hp
    · rename_i n q
      split at hp
      · rename_i hl
        exact .inr ⟨_, n, by rw [ev, show v = _ from rv], q, hl, post_ok hp hH rfl⟩
      · exact hp.elim
    · exact hp.elim
  · exact hp.elim
/-! ### str(n), str(flag), str(text) -/
def rStrN : List V → Hp → VK → Prop := fun xs H Q => (∃ i, xs = [.int i] ∧ i.natAbs < 10 ^ 4300 ∧ Q (.str (toString i)) H) ∨ ((∃ a, xs = [.str a] ∧ Q (.str a) H) ∨ ∃ b, xs = [.bl b] ∧ Q (.str (if b then "True" else "False")) H)
theorem call_strN (hc : X.calm = true) (hd : X.base.NoDigits) : CallR X (.type "str") (fun xs H Q => ∃ i, xs = [.int i] ∧ i.natAbs < 10 ^ 4300 ∧ Q (.str (toString i)) H) := by
  intro pins s σ H xs us Q I r h
  obtain ⟨i, rfl, hz, q⟩ := h
  obtain ⟨u, rfl, t, rfl⟩ := vals1 r
  exact str_of_int_or (I.ok.hd hc) (noDig hd I) (fun _ => ⟨.str _, H, I.tok _, ⟨_, rfl⟩, q⟩) fun hge => absurd hz (Nat.not_lt.mpr hge)
theorem call_strT : CallR X (.type "str") (fun xs H Q => ∃ a, xs = [.str a] ∧ Q (.str a) H) := by
  intro pins s σ H xs us Q I r h
  obtain ⟨a, rfl, q⟩ := h
  obtain ⟨u, rfl, t, rfl⟩ := vals1 r
  exact PySem.P.str_of_str ⟨.str a, H, I, ⟨t, rfl⟩, q⟩
theorem call_strB : CallR X (.type "str") (fun xs H Q => ∃ b, xs = [.bl b] ∧ Q (.str (if b then "True" else "False")) H) := by
  intro pins s σ H xs us Q I r h
  obtain ⟨b, rfl, q⟩ := h
  obtain ⟨u, rfl, r1⟩ := vals1 r
  cases r1
  exact PySem.P.str_of_bool ⟨.str _, H, I.tok _, ⟨_, rfl⟩, q⟩
theorem c_strN (hc : X.calm = true) (hd : X.base.NoDigits) : CallR X (.type "str") rStrN := (call_strN hc hd).or (call_strT.or call_strB)
def most4300 : Nat := 10 ^ 4300
def fStrN : FA := fun args h => match args with
  | [.int i] => if i.natAbs < most4300 then .ok (.str (toString i)) h else .bad
  | [.str a] => .ok (.str a) h
  | [.bl b] => .ok (.str (if b then "True" else "False")) h
  | _ => .bad
theorem s_strN (K : PySem.W.Frag) : SimL K rStrN fStrN := by
  intro W σ H μ eh xs ds Q hH hr hp
  unfold fStrN at hp
  split at hp
  · obtain ⟨v, ev, rv⟩ := hr.one'
    split at hp
    · rename_i hl
      exact .inl ⟨_, by rw [ev, show v = _ from rv], hl, post_ok hp hH rfl⟩
    · exact hp.elim
  · obtain ⟨v, ev, rv⟩ := hr.one'
    exact .inr (.inl ⟨_, by rw [ev, show v = _ from rv], post_ok hp hH rfl⟩)
  · obtain ⟨v, ev, rv⟩ := hr.one'
    exact .inr (.inr ⟨_, by rw [ev, show v = _ from rv], post_ok hp hH rfl⟩)
  · exact hp.elim
end
end SL
set_option Elab.async false
set_option linter.all false
set_option maxRecDepth 100000
set_option maxHeartbeats 1000000
namespace SL
open PySem PySem.Spec PyProof.Rows L2
/-! ### tables of constants with text keys -/
def scV : D → V
  | .bl b => .bl b
  | .int i => .int i
  | .str x => .str x
  | _ => .non
def scOk : D → Bool
  | .non | .bl _ | .int _ | .str _ => true
  | _ => false
theorem scV_rel {K : PySem.W.Frag} {H : Hp} {μ : List Addr} {d : D} (h : scOk d = true) : RelD K H μ d (scV d) := by
  cases d <;> first | rfl | cases h
def tabGet : List (Str × D) → Str → Option D
  | [], _ => none
  | p :: r, z => match tabGet r z with
    | some d => some d
    | none => if z = p.1 then some p.2 else none
theorem tabGet_cons (p : Str × D) (r : List (Str × D)) (z : Str) : tabGet (p :: r) z = (tabGet r z).or (if z = p.1 then some p.2 else none) := by
  show (match tabGet r z with
    | some d => some d
    | none => if z = p.1 then some p.2 else none) = _
  cases tabGet r z <;> rfl
theorem tabGet_mem : ∀ {kvs : List (Str × D)} {z : Str} {d : D}, tabGet kvs z = some d → (z, d) ∈ kvs
  | [], _, _, h => by cases h
  | p :: r, z, d, h => by
    rw [tabGet_cons] at h
    cases q : tabGet r z with
    | some d' =>
      rw [q] at h
      cases h
      exact List.mem_cons_of_mem _ (tabGet_mem q)
    | none =>
      rw [q] at h
      by_cases e : z = p.1
      · rw [if_pos e] at h
        cases h
        rw [e]
        exact List.mem_cons_self
      · rw [if_neg e] at h
        cases h
theorem tabGet_none : ∀ {kvs : List (Str × D)} {z : Str}, tabGet kvs z = none → z ∉ kvs.map (·.1)
  | [], _, _ => by simp
  | p :: r, z, h => by
    rw [tabGet_cons] at h
    cases q : tabGet r z with
    | some d' =>
      rw [q] at h
      cases h
    | none =>
      rw [q] at h
      by_cases e : z = p.1
      · rw [if_pos e] at h
        cases h
      · rw [List.map_cons, List.mem_cons]
        exact fun k => k.elim e (tabGet_none q)
def tabT (kvs : List (Str × D)) : List (TE × TE) := kvs.map fun q => (tC (.str q.1), tC (scV q.2))
def tabV (kvs : List (Str × D)) : List (Key × V) := kvs.map fun q => (.inr q.1, scV q.2)
theorem tabT_run : ∀ (kvs : List (Str × D)) (σ : L2.St) (H : Hp) (Q : List (V × V) → Hp → Prop), Q ((tabV kvs).map fun kv => (kV kv.1, kv.2)) H → tPairs (tabT kvs) σ H Q
  | [], _, _, _, h => h
  | p :: r, σ, H, Q, h => tabT_run r σ H _ h
theorem tab_val : ∀ (kvs : List (Str × D)) (acc : List (Key × V)) (z : Str), valV (mergeK acc (tabV kvs)) (.inr z) = match tabGet kvs z with
    | some d => some (scV d)
    | none => valV acc (.inr z)
  | [], _, _ => rfl
  | p :: r, acc, z => by
    show valV (mergeK (putK acc (.inr p.1) (scV p.2)) (tabV r)) (.inr z) = _
    rw [tab_val r, valV_put, tabGet_cons]
    cases tabGet r z with
    | some d => rfl
    | none =>
      by_cases e : z = p.1
      · simp [e]
      · have e2 : ¬ (Sum.inr z : Key) = Sum.inr p.1 := fun k => e (Sum.inr.inj k)
        simp [e, e2]
section
variable {X : Cx} {W : WX} {pos dpos : Pos} {e f : Expr} {keys : List (Option Expr)} {values : List Expr}
theorem PostG.ext {K : PySem.W.Frag} {α β : Type} {rel : Hp → List Addr → α → β → Prop} {W : WX} {σ : L2.St} {H H1 : Hp} {μ μ1 : List Addr} {r : R α} {Q : β → Hp → Prop} (e : Ext K H μ H1 μ1) (h : PostG K rel W σ H μ r Q) : PostG K rel W σ H1 μ1 r Q := by
  cases r with
  | bad => exact h
  | exc c eh => exact fun H2 μ2 e2 hH => h H2 μ2 (e.trans e2) hH
  | ok a eh => exact fun b H2 μ2 e2 hH hr => h b H2 μ2 (e.trans e2) hH hr
theorem upd_two (H : Hp) (p : Addr) (a b : HO) : upd (upd H p a) p b = upd H p b := by
  funext q
  by_cases h : q = p
  · rw [h, upd_same, upd_same]
  · rw [upd_ne h, upd_ne h, upd_ne h]
def tabIx (kvs : List (Str × D)) : D → List O → R D := fun d h => match d with
  | .str z => (match tabGet kvs z with
    | some r => .ok r h
    | none => .bad)
  | _ => .bad
/-- {..}[e], of constants -/
def mDisp (kvs : List (Str × D)) (me : ME) : ME := fun ρ h => (me ρ h).bind (tabIx kvs)
/-- {..}.get(e, f), of constants -/
def mDispGet (kvs : List (Str × D)) (me mf : ME) : ME := fun ρ h => (me ρ h).bind fun d h1 => (mf ρ h1).bind fun z h2 => match d with
  | .str x => .ok ((tabGet kvs x).getD z) h2
  | _ => .bad
theorem se_disp {me : ME} (kvs : List (Str × D)) (hu : X.A.units + 64 < cLine) (hpp : PPs X dpos keys values (tabT kvs)) (he : SE X W e me) (hsc : kvs.all (fun q => scOk q.2) = true := by rfl) (h15 : kvs.length ≤ 15 := by decide)
    (hall : keys.all (·.isSome) = true := by rfl) (hl : keys.length = values.length := by rfl) (h0 : keys ≠ [] := by simp) (hk : keys.length ≤ 15 := by decide) (hs : NoSl e := by intro _ _; rfl) :
    SE X W (.Subscript (.Dict keys values dpos) e pos) (mDisp kvs me) := by
  refine pe_imp (pe_dget (by omega) (pe_disp hpp hall hl h0 hk) he hs) fun σ H Q ⟨μ, ρ, eh, hS, hH, hp⟩ => ?_
  intro p hp0
  refine tabT_run kvs σ _ _ ⟨upd_same, tabV kvs, rfl, by unfold tabV; rw [List.length_map]; exact h15, ?_⟩
  rw [upd_two]
  have e1 : Ext X.K H μ (upd H p (.dK (mergeK [] (tabV kvs)))) μ := ext_off hp0
  refine ⟨μ, ρ, eh, hS.mono e1, hH.off hp0, (PostG.bind (rel := RelD X.K) (PostG.ext e1 hp)).mono fun y H2 ⟨dy, μ2, eh2, e2, hH2, hr2, hp2⟩ => ?_⟩
  have at2 := e2.fr p _ upd_same (hH.mem_ne hp0)
  unfold tabIx at hp2
  split at hp2
  · rename_i z
    split at hp2
    · rename_i d q
      have g := DGet.k (k := .inr z) at2
      rw [tab_val, q] at g
      have ey : y = .str z := hr2
      exact ⟨p, scV d, rfl, by rw [ey]; exact g, hp2 _ H2 μ2 .refl hH2 (scV_rel (List.all_eq_true.mp hsc _ (tabGet_mem q)))⟩
    · exact hp2.elim
  · exact hp2.elim
theorem se_dispGet {apos : Pos} {me mf : ME} (kvs : List (Str × D)) (hu : X.A.units + 64 < cLine) (hpp : PPs X dpos keys values (tabT kvs)) (he : SE X W e me) (hf : SE X W f mf) (hm : M2 X (.Dict keys values dpos) "get" apos e f pos) (hsc : kvs.all (fun q => scOk q.2) = true := by rfl) (h15 : kvs.length ≤ 15 := by decide)
    (hall : keys.all (·.isSome) = true := by rfl) (hl : keys.length = values.length := by rfl) (h0 : keys ≠ [] := by simp) (hk : keys.length ≤ 15 := by decide) :
    SE X W (.Call (.Attribute (.Dict keys values dpos) "get" apos) [e, f] [] pos) (mDispGet kvs me mf) := by
  refine pe_imp (pe_dget2 (by omega) (pe_disp hpp hall hl h0 hk) he hf hm) fun σ H Q ⟨μ, ρ, eh, hS, hH, hp⟩ => ?_
  intro p hp0
  refine tabT_run kvs σ _ _ ⟨upd_same, tabV kvs, rfl, by unfold tabV; rw [List.length_map]; exact h15, ?_⟩
  rw [upd_two]
  have e1 : Ext X.K H μ (upd H p (.dK (mergeK [] (tabV kvs)))) μ := ext_off hp0
  refine ⟨p, rfl, .inl ⟨_, .inl upd_same⟩, ?_⟩
  refine ⟨μ, ρ, eh, hS.mono e1, hH.off hp0, (PostG.bind (rel := RelD X.K) (PostG.ext e1 hp)).mono fun y H2 ⟨dy, μ2, eh2, e2, hH2, hr2, hp2⟩ => ?_⟩
  refine ⟨μ2, ρ, eh2, hS.mono (e1.trans e2), hH2, (PostG.bind (rel := RelD X.K) hp2).mono fun z H3 ⟨dz, μ3, eh3, e3, hH3, hr3, hp3⟩ => ?_⟩
  have at3 := (e2.trans e3).fr p _ upd_same (hH.mem_ne hp0)
  cases dy with
  | str x =>
    have g := DGet.k (k := .inr x) at3
    rw [tab_val] at g
    have ey : y = .str x := hr2
    subst ey
    have hp4 : PostG X.K (RelD X.K) W σ H3 μ3 (.ok ((tabGet kvs x).getD dz) eh3) Q := hp3
    cases q : tabGet kvs x with
    | none =>
      rw [q] at g hp4
      exact ⟨none, g, hp4 _ H3 μ3 .refl hH3 hr3⟩
    | some d =>
      rw [q] at g hp4
      exact ⟨some (scV d), g, hp4 _ H3 μ3 .refl hH3 (scV_rel (List.all_eq_true.mp hsc _ (tabGet_mem q)))⟩
  | _ => exact hp3.elim
/-! ### a table of the module -/
def TabK (K : PySem.W.Frag) (w : World) (a : Addr) (kvs : List (Str × D)) : Prop :=
  ∃ es n, KDict K w a es n ∧ (∀ z d, tabGet kvs z = some d → scOk d = true ∧ ∃ u, PySem.W.nsIn K a z = some (some u) ∧ RelV (scV d) u) ∧ ∀ z, tabGet kvs z = none → PySem.W.nsIn K a z = some none
def tabIn (kvs : List (Str × D)) : D → List O → R D := fun d h => match d with
  | .str z => .ok (.bl (tabGet kvs z).isSome) h
  | _ => .bad
def mInTab (kvs : List (Str × D)) (me : ME) : ME := fun ρ h => (me ρ h).bind (tabIn kvs)
theorem tab_pe {x : Str} (hg : Gl X x) (hm : X.mg x = some (.ref (He.ga X.K x))) (hd : (x == ("__debug__" : Str)) = false := by decide) : PE X (.Name x pos) (tC (.ref (He.ga X.K x))) := pe_glob hg hm rfl hd
theorem in_read {x : Str} {kvs : List (Str × D)} {me : ME} {es : Array DictEntry} {n : Nat} (kd : KDict X.K X.w (He.ga X.K x) es n) (h1 : ∀ z d, tabGet kvs z = some d → scOk d = true ∧ ∃ u, PySem.W.nsIn X.K (He.ga X.K x) z = some (some u) ∧ RelV (scV d) u)
    (h2 : ∀ z, tabGet kvs z = none → PySem.W.nsIn X.K (He.ga X.K x) z = some none) {σ : L2.St} {H : Hp} {Q : VK} (h : rdE X.K W (mInTab kvs me) σ H Q) :
    tOp (fun x' y H Q => ∃ (z : Str) (r : Option Value), x' = .str z ∧ y = .ref (He.ga X.K x) ∧ PySem.W.nsIn X.K (He.ga X.K x) z = some r ∧ Q (.bl r.isSome) H) (rdE X.K W me) (tC (.ref (He.ga X.K x))) σ H Q := by
  refine rdM.bind (f := fun d _ => tabIn kvs d) h fun v H1 d μ1 ρ eh1 hS hH hr hp => ?_
  cases d with
  | str z =>
    have ev : v = .str z := hr
    subst ev
    cases q : tabGet kvs z with
    | none =>
      have hp' : PostG X.K (RelD X.K) W σ H1 μ1 (.ok (.bl (tabGet kvs z).isSome) eh1) Q := hp
      rw [q] at hp'
      exact ⟨z, none, rfl, rfl, h2 z q, hp' _ H1 μ1 .refl hH rfl⟩
    | some d =>
      have hp' : PostG X.K (RelD X.K) W σ H1 μ1 (.ok (.bl (tabGet kvs z).isSome) eh1) Q := hp
      rw [q] at hp'
      obtain ⟨_, u, hu, _⟩ := h1 z d q
      exact ⟨z, some u, rfl, rfl, hu, hp' _ H1 μ1 .refl hH rfl⟩
  | _ => exact hp.elim
theorem se_inTab {x : Str} {p : Pos} {me : ME} (kvs : List (Str × D)) (T : TabK X.K X.w (He.ga X.K x) kvs) (hg : Gl X x) (hm : X.mg x = some (.ref (He.ga X.K x))) (he : SE X W e me) (hmk : behindInMarks .In (.Name x p) = false := by rfl) (hd : (x == ("__debug__" : Str)) = false := by decide) :
    SE X W (.Compare e [.In] [.Name x p] pos) (mInTab kvs me) := by
  obtain ⟨es, n, kd, h1, h2⟩ := T
  exact pe_imp (pe_cmpR (op_in_kd kd) he (tab_pe hg hm hd) hmk) fun σ H Q h => in_read kd h1 h2 h
theorem st_inTab {x : Str} {p : Pos} {me : ME} (kvs : List (Str × D)) (T : TabK X.K X.w (He.ga X.K x) kvs) (hg : Gl X x) (hm : X.mg x = some (.ref (He.ga X.K x))) (he : SE X W e me) (hmk : behindInMarks .In (.Name x p) = false := by rfl) (hd : (x == ("__debug__" : Str)) = false := by decide) :
    ST X W (.Compare e [.In] [.Name x p] pos) (mTst (mInTab kvs me)) := by
  obtain ⟨es, n, kd, h1, h2⟩ := T
  exact pt_imp (pt_cmpR (op_in_kd kd) he (tab_pe hg hm hd) hmk) fun σ H Q h => in_read kd h1 h2 (tst_sim h)
theorem se_ixTab {x : Str} {p : Pos} {me : ME} (kvs : List (Str × D)) (T : TabK X.K X.w (He.ga X.K x) kvs) (hg : Gl X x) (hm : X.mg x = some (.ref (He.ga X.K x))) (he : SE X W e me) (hp : PlainIx e) (hd : (x == ("__debug__" : Str)) = false := by decide) :
    SE X W (.Subscript (.Name x p) e pos) (mDisp kvs me) := by
  obtain ⟨es, n, kd, h1, h2⟩ := T
  refine pe_imp (pe_ix ix_kdict (tab_pe hg hm hd) he hp) fun σ H Q h => ?_
  refine rdM.bind (f := fun d _ => tabIx kvs d) h fun v H1 d μ1 ρ eh1 hS hH hr hp => ?_
  unfold tabIx at hp
  split at hp
  · rename_i z
    split at hp
    · rename_i r q
      obtain ⟨ok, u, hu, ru⟩ := h1 z r q
      exact ⟨_, z, scV r, rfl, hr, ⟨es, n, u, kd.at_, kd.lit, hu, ru⟩, hp _ H1 μ1 .refl hH (scV_rel ok)⟩
    · exact hp.elim
  · exact hp.elim
end
end SL
set_option Elab.async false
set_option linter.all false
set_option maxRecDepth 100000
set_option maxHeartbeats 1000000
namespace SL
open PySem PySem.Spec PyProof.Rows L2
/-! ### what is looked at behind the top: defs, names, tables, the limit of digits -/
def isTxt (v : Value) : Bool := match v with
  | .str _ _ => true
  | _ => false
def digB (K : PySem.W.Frag) : Bool := match K.lookup cStatics with
  | some ⟨_, _, .dict es _, _⟩ => es.toList.all (fun e => isTxt e.key && !e.key.isStr "sys.int_max_str_digits")
  | _ => false
theorem digB_ok {K : PySem.W.Frag} {h : Heap} (X : K.In h) (c : digB K = true) : h.NoDigits := by
  unfold digB at c
  split at c
  · rename_i oc od es n sl q
    have hg := X _ _ q
    have c1 : ∀ e ∈ es, isTxt e.key = true ∧ e.key.isStr "sys.int_max_str_digits" = false := fun e he => by
      have h1 := List.all_eq_true.mp c e (Array.mem_toList_iff.mpr he)
      rw [Bool.and_eq_true, Bool.not_eq_true'] at h1
      exact h1
    refine ⟨fun x => nsFind es x, ⟨_, es, n, hg, rfl, ?_, fun _ => rfl⟩, ?_⟩
    · intro e he
      have h1 := (c1 e he).1
      cases k : e.key with
      | str y t => exact ⟨y, t, rfl⟩
      | _ => rw [k] at h1; cases h1
    · show nsFind es _ = none
      unfold nsFind findBy
      rw [Option.map_eq_none_iff, Array.find?_eq_none]
      intro e he
      show ¬ e.key.isStr _ = true
      rw [(c1 e he).2]
      exact Bool.false_ne_true
  · cases c
/-- no other key in the table -/
theorem tab_miss {K : PySem.W.Frag} {P : Params} {a : Addr} {ks : List Str} {z : Str} (h : He.dicW K a = some (He.keysIn P ks)) (hz : z ∉ ks) : PySem.W.nsIn K a z = some none := by
  unfold He.dicW at h
  split at h
  · rename_i c es n sl q
    split at h
    · have e := Option.some.inj h
      have hk : ∀ en ∈ es.toList, ∃ k t, en.key = .str k t ∧ k ∈ ks := fun en hen => by
        have h1 : He.keyOf en ∈ He.keysIn P ks := by
          rw [← e]
          exact List.mem_map_of_mem hen
        obtain ⟨k, hk, e2⟩ := List.mem_map.mp h1
        unfold He.keyOf at e2
        split at e2
        · rename_i y t e3
          have e4 := Option.some.inj e2
          have e5 : k = y := (Prod.mk.inj e4).1
          exact ⟨y, t, e3, e5 ▸ hk⟩
        · cases e2
      unfold PySem.W.nsIn
      rw [q]
      have f0 : es.toList.find? (fun x => x.key.isStr z) = none := by
        rw [List.find?_eq_none]
        intro en hen hs
        obtain ⟨k, t, e1, e2⟩ := hk en hen
        rw [e1] at hs
        have e3 : k = z := by simpa [Value.isStr] using hs
        exact hz (e3 ▸ e2)
      have f1 : es.toList.any (·.refKey) = false := by
        rw [List.any_eq_false]
        intro en hen
        obtain ⟨k, t, e1, e2⟩ := hk en hen
        unfold DictEntry.refKey
        rw [e1]
        exact Bool.false_ne_true
      show (match es.toList.find? (fun x => x.key.isStr z) with
        | some e => some (some e.val)
        | none => if es.toList.any (·.refKey) then none else some none) = _
      rw [f0, f1]
      rfl
    · cases h
  · cases h
def tabB (K : PySem.W.Frag) (a : Addr) (kvs : List (Str × D)) : Bool := kvs.all fun q => scOk q.2 && match PySem.W.nsIn K a q.1 with
  | some (some u) => He.relB (scV q.2) u
  | _ => false
theorem tabK_of {K : PySem.W.Frag} {w : World} {a : Addr} {kvs : List (Str × D)} (h : He.dicW K a = some (He.keysIn w.params (kvs.map (·.1)))) (c : tabB K a kvs = true) : TabK K w a kvs := by
  obtain ⟨es, n, kd⟩ := He.dicW_ok h
  refine ⟨es, n, kd, fun z d q => ?_, fun z q => tab_miss h (tabGet_none q)⟩
  have h1 := List.all_eq_true.mp c _ (tabGet_mem q)
  rw [Bool.and_eq_true] at h1
  refine ⟨h1.1, ?_⟩
  have h2 := h1.2
  split at h2
  · rename_i u e
    exact ⟨u, e, He.relB_ok h2⟩
  · cases h2
/-! ### the Hook -/
abbrev Tb := Str × List (Str × D)
abbrev AlX : Type := He.AlD × (Bool × List (Option (List (Option (Str × Int)))))
def obsX (fa : List He.Fa) (fn : List He.DefD) (ts : List Tb) (K : PySem.W.Frag) : AlX := (He.obsD fa fn K, (digB K && ts.all fun t => tabB K (He.ga K t.1) t.2, ts.map fun t => He.dicW K (He.ga K t.1)))
def valX (fn : List He.DefD) (ts : List Tb) (w : World) : AlX := (He.valD fn, (true, ts.map fun t => some (He.keysIn w.params (t.2.map (·.1)))))
def SaysX (fa : List He.Fa) (fn : List He.DefD) (ts : List Tb) (w : World) (K : PySem.W.Frag) : Prop := obsX fa fn ts K = valX fn ts w
def obsXG (n : Nat) (fa : List He.Fa) (fn : List He.DefD) (ts : List Tb) (g : Addr → Option Obj) : AlX := obsX fa fn ts (He.frG g (cStatics :: He.asD g n))
def hookX (n : Nat) (fa : List He.Fa) (fn : List He.DefD) (ts : List Tb) : PySem.W.Hook where
  α := AlX
  obs := fun s => obsXG n fa fn ts s.heap.get?
  val := fun w => valX fn ts w
  says := fun w h => ∃ K : PySem.W.Frag, K.In h ∧ SaysX fa fn ts w K
  of := fun _ _ e => ⟨_, He.frG_in, e⟩
  keeps := fun _ _ _ ⟨K, hK, c⟩ k => ⟨K, PySem.W.Frag.In.keeps hK k, c⟩
theorem obsXG_eq {n : Nat} {fa : List He.Fa} {fn : List He.DefD} {ts : List Tb} {g : Addr → Option Obj} {s : Shared} (h : ∀ a, g a = s.heap.get? a) : obsXG n fa fn ts g = (hookX n fa fn ts).obs s := by
  rw [show g = s.heap.get? from funext h]
  rfl
section
variable {fa : List He.Fa} {fn : List He.DefD} {ts : List Tb} {w : World} {K : PySem.W.Frag}
theorem SaysX.d (c : SaysX fa fn ts w K) : He.SaysD fa fn K := congrArg (fun z : AlX => z.1) c
theorem SaysX.dig (c : SaysX fa fn ts w K) : digB K = true := (He.ba (show (digB K && ts.all fun t => tabB K (He.ga K t.1) t.2) = true from congrArg (fun z : AlX => z.2.1) c)).1
theorem SaysX.tab (c : SaysX fa fn ts w K) (i : Nat) {t : Tb} (h : ts[i]? = some t := by rfl) : TabK K w (He.ga K t.1) t.2 := by
  have c1 := (He.ba (show (digB K && ts.all fun t => tabB K (He.ga K t.1) t.2) = true from congrArg (fun z : AlX => z.2.1) c)).2
  have e : ts.map (fun t => He.dicW K (He.ga K t.1)) = ts.map fun t => some (He.keysIn w.params (t.2.map (·.1))) := congrArg (fun z : AlX => z.2.2) c
  have e2 : (ts.map fun t => He.dicW K (He.ga K t.1))[i]? = (ts.map fun t => some (He.keysIn w.params (t.2.map (·.1))))[i]? := by rw [e]
  rw [List.getElem?_map, List.getElem?_map, h] at e2
  exact tabK_of (Option.some.inj e2) (List.all_eq_true.mp c1 t (List.mem_of_getElem? h))
end
end SL
set_option Elab.async false
set_option linter.all false
set_option maxRecDepth 100000
set_option maxHeartbeats 1000000
namespace SL
open PySem PySem.Spec PyProof.Rows L2
/-! ### repr of data, where no repr is under way -/
section
variable {X : Cx} {W : WX} {K : PySem.W.Frag}
def reprOk (p : PyData) : Bool := p.showable && (!p.hasDict && (decide (p.depth ≤ 62) && decide (p.shown.length ≤ sizeLine)))
def rRepr (K : PySem.W.Frag) : List V → Hp → VK → Prop := fun xs H Q => (xs = [.non] ∧ Q (.str "None") H) ∨ ∃ a p, xs = [.ref a] ∧ Dp K H (.ref a) p ∧ reprOk p = true ∧ Q (.str p.shown) H
theorem c_repr (hg : X.A.guards = some []) (hu : X.A.units + 64 < cLine) : CallR X (.builtin "repr") (rRepr X.K) := by
  intro pins s σ H xs us Q I r h
  rcases h with ⟨rfl, q⟩ | ⟨a, p, rfl, hp, ok, q⟩
  · obtain ⟨u, rfl, r1⟩ := vals1 r
    cases r1
    exact PySem.P.repr_of_none ⟨.str "None", H, I.tok _, ⟨_, rfl⟩, q⟩
  · obtain ⟨u, rfl, r1⟩ := vals1 r
    unfold reprOk at ok
    simp only [Bool.and_eq_true, Bool.not_eq_true', decide_eq_true_eq] at ok
    obtain ⟨o1, o2, o3, o4⟩ := ok
    obtain ⟨as, rd⟩ := Dp.reads I p (.ref a) u hp r1
    obtain rfl : u = Value.ref a := r1
    exact repr_of_reads' rd o1 (PyData.noDict_hsm o2) hg (by omega) (fun _ _ e => e) (fun h' t tk hk => ⟨.str p.shown, H, I.kept (t' := tk) hk, ⟨t, rfl⟩, q⟩) o4
def fRepr : FA := fun args h => match args with
  | [.non] => .ok (.str "None") h
  | [.ref n] => (match toPy h pyF (.ref n) with
    | some p => if reprOk p = true then .ok (.str p.shown) h else .bad
    | none => .bad)
  | _ => .bad
theorem s_repr (K : PySem.W.Frag) : SimL K (rRepr K) fRepr := by
  intro W σ H μ eh xs ds Q hH hr hp
  unfold fRepr at hp
  split at hp
  · obtain ⟨v, ev, rv⟩ := hr.one'
    exact .inl ⟨by rw [ev, show v = _ from rv], post_ok hp hH rfl⟩
  · rename_i n
    obtain ⟨v, ev, rv⟩ := hr.one'
    split at hp
    · rename_i p e
      split at hp
      · rename_i ok
        obtain ⟨a, ea, _⟩ := id rv
        subst ea
        exact .inr ⟨a, p, ev, toPy_ok hH _ _ _ _ rv e, ok, post_ok hp hH rfl⟩
      · exact hp.elim
    · exact hp.elim
  · exact hp.elim
end
/-! ### a def that is called where nothing is under way -/
structure FnG (P : Program) (w : World) (K : PySem.W.Frag) (mg : Str → Option Value) (base : Heap) (CX : CXT) (k : Nat) (f : Addr) (fd : FuncData) (ps : List Str) (sp : Sp) : Prop where
  run : ∀ (A : Around) (outer : List Env) (s : Shared) (H : Hp) (args : Args) (us : List Value) (vs : List V) (Q : VK) (E : XK), A.guards = some [] → Room k A → Env0 P w K mg base A outer s H → BindsTo s fd args (ps.zip us) → Vals vs us → sp vs H Q E →
    codeAny (model P w) A (.call (.ref f) args) (CR CX outer P w H s Q E) s
section
variable {P : Program} {w : World} {K : PySem.W.Frag} {mg : Str → Option Value} {base : Heap} {CX : CXT} {k : Nat} {f : Addr}
theorem fnG_of {qual name : Str} {ar : Arguments} {bd : List Stmt} {sc : Scope} {v1 v2 v3 v4 v5 v6 v7 : Value} {o1 o2 : Option Addr} {sl : Array (Option Value)} {N ps : List Str} {sp : Sp}
    (at_ : K.lookup f = some ⟨v7, o2, .func (PySem.W.fnOf name qual ar bd sc v1 v2 v3 v4 o1 v5 v6), sl⟩) (code : PySem.W.codeIn K v5 qual = true) (S : FnScope N ps sc) (len : ∀ vs H Q E, sp vs H Q E → vs.length = ps.length)
    (body : ∀ (A : Around) (out : List Env) (s : Shared) (H : Hp) (vs : List V) (Q : VK) (E : XK), A.guards = some [] → Room k (A.deeper (envOfC qual sc s.heap.objs.size f v5)) → sp vs H Q E →
      ∃ t, PSs (cxOf CX P w K mg base N qual sc f v5 A out s H E) bd t ∧ t { nx := fun _ H1 => Q .non H1, rt := Q } (start N vs) H) :
    FnG P w K mg base CX (k + 1) f (PySem.W.fnOf name qual ar bd sc v1 v2 v3 v4 o1 v5 v6) ps sp := by
  constructor
  intro A out s H args us vs Q E gd room e0 bnd rv hs
  have ln := len _ _ _ _ hs
  have inK : K.In s.heap := e0.mod.kin.keeps fun b o q => (e0.bs b o q).1
  have noLim : s.heap.NoLimit := e0.mod.nolimit.keeps fun b o q => (e0.bs b o q).1
  have kinds : ∀ y ∈ ps.zip us, sc.names.lookup y.1 = some .local ∨ (sc.names.lookup y.1 = some .cell ∧ ((cellsFrom (s.heap.objs.size + 1) sc.names []).lookup y.1).isSome = true) := by
    intro ⟨n, v⟩ hy
    cases S.par n (List.of_mem_zip hy).1 with
    | inl q => exact .inl q
    | inr q => exact .inr ⟨q, PySem.W.cellsFrom_some _ _ _ (.inl q)⟩
  apply codeAny_call_function room.depth (inK _ _ at_) rfl S.co S.gen rfl (PySem.W.codeRec_of inK code) (bnd _ _ _ _ _)
  apply wpAny_newFunctionEnv_cells S.kind kinds
  intro env he s1 x
  subst he
  refine ⟨noLim.keeps x.toInCall.keep, codeAny_func ?_⟩
  obtain ⟨t, ht, hq⟩ := body A out s H vs Q E gd (room.deeper _) hs
  have I1 : Inv (cxOf CX P w K mg base N qual sc f v5 A out s H E) [] (start N vs) H s1 := inv_start S room.hd e0 ln rv x
  refine wpAny_mono (ht.run [] s1 (start N vs) H _ I1 hq) (fun fl s2 z => ?_) fun _ _ z => z
  have goal : ∀ {σ2 : L2.St} {H2 : Hp} {v : V} {u : Value}, Inv (cxOf CX P w K mg base N qual sc f v5 A out s H E) [] σ2 H2 s2 → RelV v u → Q v H2 → CE out P w H s Q u s2 := by
    intro σ2 H2 v u J r q
    exact ⟨v, H2, J.os, J.bare, J.base, J.hok, r, q⟩
  match fl, z with
  | .ret u, ⟨v, σ2, H2, J, r, q⟩ => exact goal J r q
  | .next, ⟨σ2, H2, J, q⟩ => exact goal (v := V.non) (u := Value.none) J rfl q
  | .brk, ⟨_, _, _, q⟩ => exact False.elim q
  | .cont, ⟨_, _, _, q⟩ => exact False.elim q
theorem ok_defG {x qual : Str} {params : Arguments} {body : List Stmt} {scope : Scope} {dvs : List V} {kws : List (Str × V)} {fd : FuncData} {N ps : List Str} {m : MS} (F : FunD K x qual params body scope dvs kws f fd) (S : FnScope N ps scope)
    (hb : ∀ (cdv : Value) (A : Around) (outer : List Env) (s : Shared) (H : Hp) (E : XK), A.guards = some [] → Room k (A.deeper (envOfC qual scope s.heap.objs.size f cdv)) →
      SSs (cxOf (L2.CX P w) P w K mg base N qual scope f cdv A outer s H E) (fun cls d _ H => E cls d H) body m) : FnG P w K mg base (L2.CX P w) (k + 1) f fd ps (spOf K ps.length (runDef N.length m)) := by
  obtain ⟨oc, od, dV, kV, doc, pm, an, cdv, ct, osl, rfl, lk, hcd, _, _⟩ := F.ex
  refine fnG_of lk hcd S (fun vs H Q E h => h.len) fun A outer s H vs Q E hg hr h => ⟨_, hb cdv A outer s H E hg hr, ?_⟩
  obtain ⟨μ, eh, ds, hH, hd, hl, hp⟩ := h
  exact def_read hH hd hp
end
end SL
set_option Elab.async false
set_option linter.all false
set_option maxRecDepth 100000
set_option maxHeartbeats 1000000
namespace SL
open PySem PySem.Spec PyProof.Rows L2
/-! ### the law's end, for a promise where nothing is under way -/
/-- the heap at the law's call: the script alone, or nothing -/
structure AtCall (K : PySem.W.Frag) (P : Program) (w : World) (h : Heap) (a : Addr) (xs : List V) (H : Hp) : Prop where
  only : ∀ b, H b ≠ none → b = a ∧ K.lookup a = none ∧ ∃ o, H b = some (.frz o (.lst xs))
  sq : SqF K H a xs
  hok : HOk P w H h
theorem at_call {K : PySem.W.Frag} {P : Program} {w : World} {h : Heap} {a : Addr} {vs : List Value} {xs : List V} (KX : K.In h) (ha : h.get? a = some { cls := .type "list", data := .seq vs.toArray }) (rv : Vals xs vs) (hl : xs.length ≤ sizeLine) :
    ∃ H, AtCall K P w h a xs H := by
  cases hk : K.lookup a with
  | some o =>
    have e := KX a o hk
    rw [ha] at e
    cases e
    refine ⟨fun _ => none, fun b z => absurd rfl z, .inr fun H1 => .inr ⟨_, vs.toArray, _, hk, rfl, rfl, rfl, ?_, ?_⟩, fun b u z => nomatch z⟩
    · rw [List.size_toArray, ← rv.length]
      exact hl
    · simpa using rv
  | none =>
    have same : ∀ {b : Addr}, b = a → (if b = a then some (HO.frz { cls := .type "list", data := .seq vs.toArray } (.lst xs)) else none) = some (HO.frz { cls := .type "list", data := .seq vs.toArray } (.lst xs)) := fun e => if_pos e
    refine ⟨fun b => if b = a then some (.frz { cls := .type "list", data := .seq vs.toArray } (.lst xs)) else none, fun b z => ?_, .inl ⟨_, same rfl⟩, fun b u z => ?_⟩
    · have e : b = a := Decidable.byContradiction fun n => z (if_neg n)
      exact ⟨e, hk, _, same e⟩
    · by_cases e : b = a
      · have z1 := (same e).symm.trans z
        cases z1
        rw [e]
        exact ⟨ha, hl, vs, _, rv, ha⟩
      · have z1 := (if_neg e).symm.trans z
        cases z1
theorem lawG {P : Program} {w : World} {K : PySem.W.Frag} {mg mb : Str → Option Value} {k : Nat} {fa a : Addr} {fd : FuncData} {x : Str} {F : FA} {s1 : Shared} {vs : List Value} {ns : List Int}
    (KX : K.In s1.heap) (hns : s1.heap.Ns mainGlobals mg) (hb : s1.heap.Ns builtinsNs mb) (hbb : ∀ y : Str, y ≠ "__name__" → mb y = bootBuiltins y) (hlim : s1.heap.NoLimit) (hg : s1.gens = #[])
    (ha : s1.heap.get? a = some { cls := .type "list", data := .seq vs.toArray }) (hi : IntsAre vs ns) (hl : ns.length ≤ sizeLine) (hr : Room k callerA)
    (G : ∀ base : Heap, K.In base → base.Ns mainGlobals mg → FnG P w K mg base (L2.CX P w) k fa fd [x] (spOf K 1 F)) (hbind : ∀ (s : Shared) (u : Value), BindsTo s fd ⟨[u], []⟩ [(x, u)])
    (hF : ∃ h1, F [.frl (ns.map D.int)] [] = .ok (.bl true) h1) (hCX : ∀ H e s2, L2.CX P w [] H s1 (fun _ _ _ => False) e s2 → False) :
    codeAny (model P w) callerA (.call (.ref fa) ⟨[.ref a], []⟩) (fun r s2 => r = .ok (.ret (.bool true)) ∧ OldK s1.heap s2.heap ∧ s2.os = s1.os ∧ AllBare s2.gens) s1 := by
  have rv := vals_ints hi
  obtain ⟨H, C⟩ := at_call (P := P) (w := w) KX ha rv (by rw [List.length_map]; exact hl)
  have inBase : ∀ {b : Addr} {o : Obj}, s1.heap.get? b = some o → H b = none → (hidT s1.heap H).get? b = some o := fun e n => hidT_get e n
  have noDict : ∀ {b : Addr} {o : Obj} {es : Array DictEntry} {ep : Nat}, s1.heap.get? b = some o → o.data = .dict es ep → H b = none := by
    intro b o es ep e d
    refine Decidable.byContradiction fun z => ?_
    obtain ⟨eb, _⟩ := C.only b z
    rw [eb, ha] at e
    cases e
    cases d
  have nsB : ∀ {b : Addr} {m : Str → Option Value}, s1.heap.Ns b m → (hidT s1.heap H).Ns b m := fun {b m} ⟨o, es, ep, e, d, r⟩ => ⟨o, es, ep, inBase e (noDict e d), d, r⟩
  have inB : K.In (hidT s1.heap H) := by
    intro b o e
    refine inBase (KX b o e) (Decidable.byContradiction fun z => ?_)
    obtain ⟨eb, en, _⟩ := C.only b z
    rw [eb, en] at e
    cases e
  have hM : Mod K mg (hidT s1.heap H) := ⟨inB, nsB hns, ⟨mb, nsB hb, hbb⟩, let ⟨mc, q1, q2⟩ := hlim; ⟨mc, nsB q1, q2⟩⟩
  have e0 : Env0 P w K mg (hidT s1.heap H) callerA [] s1 H :=
    { frames := rfl, mod := hM, bs := fun b o e => of_hidT e, bsz := Nat.le_of_eq (hidT_size _ _), funs := trivial, frf := fun b hb => (List.not_mem_nil hb).elim, hok := C.hok, bare := .of_eq hg }
  have sp0 : spOf K 1 F [.ref a] H (fun v _ => v = .bl true) fun _ _ _ => False := by
    refine ⟨[], [], [.frl (ns.map D.int)], ⟨rfl, List.nodup_nil, fun i b o z => by simp at z⟩, ⟨.ref a, [], rfl, ⟨a, ns.map V.int, rfl, C.sq, ?_⟩, rfl⟩, rfl, ?_⟩
    · have go : ∀ l : List Int, RelDs K H [] (l.map D.int) (l.map V.int) := fun l => by
        induction l with
        | nil => rfl
        | cons i l ih => exact ⟨.int i, l.map V.int, rfl, rfl, ih⟩
      exact go ns
    · obtain ⟨h1, e⟩ := hF
      rw [e]
      exact fun b H1 μ1 _ _ hr => hr
  refine codeAny_mono ((G _ inB (nsB hns)).run callerA [] s1 H ⟨[.ref a], []⟩ [.ref a] [.ref a] _ _ rfl hr e0 (hbind s1 (.ref a)) (.cons rfl .nil) sp0) fun r s2 z => ?_
  match r, z with
  | .error e, z => exact (hCX H e s2 z).elim
  | .ok .next, z => exact False.elim z
  | .ok .brk, z => exact False.elim z
  | .ok .cont, z => exact False.elim z
  | .ok (.ret u), ⟨v, H2, os, bare, un, hok2, ru, q⟩ =>
    have q1 : v = .bl true := q
    subst q1
    obtain rfl : u = Value.bool true := ru
    refine ⟨rfl, OldK.of_keep fun b o e => ?_, os, bare⟩
    by_cases z : H b = none
    · exact un.keep b o e z (fun y => (List.not_mem_nil y).elim) (by simp)
    · obtain ⟨_, _, ob, z1⟩ := C.only b z
      have z2 := un.frzs b ob _ z1
      obtain ⟨e1, _⟩ := C.hok b _ z1
      obtain ⟨e2, _⟩ := hok2 b _ z2
      rw [e] at e1
      cases e1
      exact e2
theorem walkG {l : PySem.W.OpenLaw} {n k : Nat} {q : Program} {loose : List Str} {XP : (Str → Option Value) → Heap → Prop} {YP : World → Heap → Prop} {d : DefRec} {x : Str}
    (hn : l.most = some n) (hn2 : n ≤ sizeLine) (hdf : d.params.defaults = []) (hr : Room k callerA)
    (F : ∀ (w : World) (mg : Str → Option Value) (fa : Addr) (h : Heap), YP w h → h.Ns mainGlobals mg → mg d.name = some (.ref fa) →
      ∃ (K : PySem.W.Frag) (fd : FuncData) (Fn : FA), K.In h ∧ (∀ (s : Shared) (u : Value), BindsTo s fd ⟨[u], []⟩ [(x, u)]) ∧
        (∀ ns : List Int, ns.length ≤ n → (∀ z ∈ ns, Builtin.Int.intBits z ≤ 1048576) → ∃ h1, Fn [.frl (ns.map D.int)] [] = .ok (.bl true) h1) ∧
        ∀ base : Heap, K.In base → base.Ns mainGlobals mg → FnG l.prog w K mg base (L2.CX l.prog w) k fa fd [x] (spOf K 1 Fn)) :
    PySem.W.WalkO q loose XP YP l.row.toRowW d [] (fun f vs => PySem.call f vs) := by
  refine Att.attach_callB hn hdf fun w s0 s1 mg mb fa o pm cd doc a vs ns G Y ho hd hcd hmg hobj hints hlen hbits hg => ?_
  obtain ⟨K, fd, Fn, KX, hb, hF, hG⟩ := F w mg fa _ Y G.T.g hmg
  refine lawG KX G.T.g G.T.b G.T.builtins G.T.nolimit hg hobj hints (Nat.le_trans hlen hn2) hr hG hb (hF ns hlen hbits) fun H e s2 z => ?_
  obtain ⟨_, _, _, _, _, _, _, _, _, _, _, _, z1⟩ := z
  exact z1
end SL
set_option Elab.async false
set_option linter.all false
set_option maxRecDepth 100000
set_option maxHeartbeats 1000000
namespace SL
open PySem PySem.Spec PyProof.Rows L2
/-! ### an exception class of the text under ValueError -/
def OwnExc (K : PySem.W.Frag) (c : Str) : Prop := (He.Fa.exc c).ok K = true
theorem OwnExc.pmk {X : Cx} {c m : Str} {j : Nat} {p p2 pos : Pos} (h : OwnExc X.K c) (gC : X.mg c = some (.ref (He.ga X.K c))) (hg : Gl X c) (hdb : (c == ("__debug__" : Str)) = false := by decide) :
    PMk X (.Call (.Name c p) [.Constant (.str m) j p2] [] pos) (fun _ H Q => Q (.ref (He.ga X.K c)) none H) := by
  obtain ⟨h1, h2, h3, h4⟩ := He.exc_ok h
  exact pmk_own PySem.F.excBase_ValueError h1 gC h2 (raises_own h3 h4) hg hdb
/-- the bundle: what is known of a base heap -/
structure Tx (fa : List He.Fa) (fn : List He.DefD) (ts : List Tb) (w : World) (K : PySem.W.Frag) (mg : Str → Option Value) (base : Heap) : Prop where
  c : SaysX fa fn ts w K
  kx : K.In base
  g : base.Ns mainGlobals mg
section
variable {fa : List He.Fa} {fn : List He.DefD} {ts : List Tb} {w : World} {K : PySem.W.Frag} {mg : Str → Option Value} {base : Heap}
theorem Tx.def_ (T : Tx fa fn ts w K mg base) (i : Nat) {d : He.DefD} (h : fn[i]? = some d := by rfl) : ∃ fd, FunD K d.name d.qual d.params d.body d.scope (d.dvs K) (d.kws K) (He.fAd K d.at_) fd := T.c.d.def_ i h
theorem Tx.dig (T : Tx fa fn ts w K mg base) : base.NoDigits := digB_ok T.kx T.c.dig
theorem Tx.glo (T : Tx fa fn ts w K mg base) (i : Nat) {x : Str} (h : fa[i]? = some (.glo x) := by rfl) : mg x = some (.ref (He.ga K x)) := He.glo_ok T.kx T.g (T.c.d.fact i h)
theorem Tx.free (T : Tx fa fn ts w K mg base) (i : Nat) {x : Str} (h : fa[i]? = some (.free x) := by rfl) : mg x = none := He.free_ok T.kx T.g (T.c.d.fact i h)
theorem Tx.int (T : Tx fa fn ts w K mg base) (i : Nat) {x : Str} {n : Int} (h : fa[i]? = some (.int x n) := by rfl) : ∃ t, mg x = some (.int n t) := He.int_ok T.kx T.g (T.c.d.fact i h)
theorem Tx.str (T : Tx fa fn ts w K mg base) (i : Nat) {x z : Str} (h : fa[i]? = some (.str x z) := by rfl) : ∃ t, mg x = some (.str z t) := He.str_ok T.kx T.g (T.c.d.fact i h)
theorem Tx.cls (T : Tx fa fn ts w K mg base) (i : Nat) {x : Str} (h : fa[i]? = some (.cls x) := by rfl) : Cls K (He.ga K x) := He.cls_ok (T.c.d.fact i h)
theorem Tx.noat (T : Tx fa fn ts w K mg base) (i : Nat) {x f : Str} (h : fa[i]? = some (.noat x f) := by rfl) : NoAttr K (He.ga K x) f := He.noat_ok (T.c.d.fact i h)
theorem Tx.meth (T : Tx fa fn ts w K mg base) (i : Nat) {x m : Str} (h : fa[i]? = some (.meth x m) := by rfl) : Meth K (He.ga K x) m (He.ma K (He.ga K x) m) := He.meth_ok (T.c.d.fact i h)
theorem Tx.mkr (T : Tx fa fn ts w K mg base) (i : Nat) {x : Str} (h : fa[i]? = some (.mkr x) := by rfl) : Mk K (He.ga K x) (He.ma K (He.ga K x) "__init__") := He.mkr_ok (T.c.d.fact i h)
theorem Tx.exc (T : Tx fa fn ts w K mg base) (i : Nat) {x : Str} (h : fa[i]? = some (.exc x) := by rfl) : OwnExc K x := T.c.d.fact i h
theorem Tx.exm (T : Tx fa fn ts w K mg base) (i : Nat) {x y : Str} {b : Bool} (h : fa[i]? = some (.exm x y b) := by rfl) : PySem.W.exmOne K (.ref (He.ga K x)) (.ref (He.ga K y)) = some b := He.exm_ok (T.c.d.fact i h)
theorem Tx.nm (T : Tx fa fn ts w K mg base) (i : Nat) {x : Str} (h : fa[i]? = some (.glo x) := by rfl) {X : Cx} (hX : X.mg = mg) (hg : Gl X x) (hd : (x == ("__debug__" : Str)) = false := by decide) : Names X x (.ref (He.ga K x)) :=
  ⟨hg, hd, .inl (by rw [hX]; exact T.glo i h)⟩
end
end SL
set_option Elab.async false
set_option linter.all false
set_option maxRecDepth 100000
set_option maxHeartbeats 4000000
namespace K53
open PySem PySem.Spec PyProof.Rows L2 SL
def top (i : Nat) : Stmt := PySem.Challenge.pw_nearlyalike_k53_whole_plain_data.main.body.getD i (.Pass ⟨0, 0, 0, 0⟩)
def d_is_whole : He.DefD := ⟨("is_whole", none), "is_whole", "is_whole", defArgs (top 4), defBody (top 4), defScope (top 4), [], []⟩
def d_is_word : He.DefD := ⟨("is_word", none), "is_word", "is_word", defArgs (top 12), defBody (top 12), defScope (top 12), [], []⟩
def d_is_short : He.DefD := ⟨("is_short", none), "is_short", "is_short", defArgs (top 13), defBody (top 13), defScope (top 13), [], []⟩
def d_atom_text : He.DefD := ⟨("atom_text", none), "atom_text", "atom_text", defArgs (top 14), defBody (top 14), defScope (top 14), [], []⟩
def d_write_data : He.DefD := ⟨("write_data", none), "write_data", "write_data", defArgs (top 15), defBody (top 15), defScope (top 15), [], []⟩
def d_read_whole : He.DefD := ⟨("read_whole", none), "read_whole", "read_whole", defArgs (top 16), defBody (top 16), defScope (top 16), [], []⟩
def d_read_atom : He.DefD := ⟨("read_atom", none), "read_atom", "read_atom", defArgs (top 17), defBody (top 17), defScope (top 17), [], []⟩
def d_pieces_of : He.DefD := ⟨("pieces_of", none), "pieces_of", "pieces_of", defArgs (top 18), defBody (top 18), defScope (top 18), [], []⟩
def d_DataReader___init__ : He.DefD := ⟨("DataReader", some "__init__"), "__init__", "DataReader.__init__", defArgs (inClass (top 19) 0), defBody (inClass (top 19) 0), defScope (inClass (top 19) 0), [], []⟩
def d_DataReader_item : He.DefD := ⟨("DataReader", some "item"), "item", "DataReader.item", defArgs (inClass (top 19) 1), defBody (inClass (top 19) 1), defScope (inClass (top 19) 1), [], []⟩
def d_DataReader_open_one : He.DefD := ⟨("DataReader", some "open_one"), "open_one", "DataReader.open_one", defArgs (inClass (top 19) 2), defBody (inClass (top 19) 2), defScope (inClass (top 19) 2), [], []⟩
def d_DataReader_close_one : He.DefD := ⟨("DataReader", some "close_one"), "close_one", "DataReader.close_one", defArgs (inClass (top 19) 3), defBody (inClass (top 19) 3), defScope (inClass (top 19) 3), [], []⟩
def d_DataReader_comma : He.DefD := ⟨("DataReader", some "comma"), "comma", "DataReader.comma", defArgs (inClass (top 19) 4), defBody (inClass (top 19) 4), defScope (inClass (top 19) 4), [], []⟩
def d_DataReader_take : He.DefD := ⟨("DataReader", some "take"), "take", "DataReader.take", defArgs (inClass (top 19) 5), defBody (inClass (top 19) 5), defScope (inClass (top 19) 5), [], []⟩
def d_read_data : He.DefD := ⟨("read_data", none), "read_data", "read_data", defArgs (top 20), defBody (top 20), defScope (top 20), [], []⟩
def d__law_draw : He.DefD := ⟨("_law_draw", none), "_law_draw", "_law_draw", defArgs (top 22), defBody (top 22), defScope (top 22), [], []⟩
def d__law_take : He.DefD := ⟨("_law_take", none), "_law_take", "_law_take", defArgs (top 23), defBody (top 23), defScope (top 23), [], []⟩
def d__law_data : He.DefD := ⟨("_law_data", none), "_law_data", "_law_data", defArgs (top 24), defBody (top 24), defScope (top 24), [], []⟩
def d__law_word : He.DefD := ⟨("_law_word", none), "_law_word", "_law_word", defArgs (top 25), defBody (top 25), defScope (top 25), [], []⟩
def d__law_written : He.DefD := ⟨("_law_written", none), "_law_written", "_law_written", defArgs (top 26), defBody (top 26), defScope (top 26), [], []⟩
def d__law_number : He.DefD := ⟨("_law_number", none), "_law_number", "_law_number", defArgs (top 27), defBody (top 27), defScope (top 27), [], []⟩
def d__law_read : He.DefD := ⟨("_law_read", none), "_law_read", "_law_read", defArgs (top 28), defBody (top 28), defScope (top 28), [], []⟩
def d__law_told : He.DefD := ⟨("_law_told", none), "_law_told", "_law_told", defArgs (top 29), defBody (top 29), defScope (top 29), [], []⟩
def d_law : He.DefD := ⟨("law", none), "law", "law", defArgs (top 30), defBody (top 30), defScope (top 30), [], []⟩
def fn : List He.DefD := [d_is_whole, d_is_word, d_is_short, d_atom_text, d_write_data, d_read_whole, d_read_atom, d_pieces_of, d_DataReader___init__, d_DataReader_item, d_DataReader_open_one, d_DataReader_close_one, d_DataReader_comma, d_DataReader_take, d_read_data, d__law_draw, d__law_take, d__law_data, d__law_word, d__law_written, d__law_number, d__law_read, d__law_told, d_law]
def fa : List He.Fa := [.glo "Fault", .glo "Malformed", .glo "is_whole", .glo "is_word", .glo "is_short", .glo "atom_text", .glo "write_data", .glo "read_whole", .glo "read_atom", .glo "pieces_of", .glo "DataReader", .glo "read_data", .glo "_law_draw", .glo "_law_take", .glo "_law_data", .glo "_law_word", .glo "_law_written", .glo "_law_number", .glo "_law_read", .glo "_law_told", .glo "law", .free "ValueError", .free "abs", .free "all", .free "any", .free "bool", .free "enumerate", .free "int", .free "isinstance", .free "len", .free "range", .free "repr", .free "str", .free "tuple", .str "LETTERS" "abcdefghijklmnopqrstuvwxyz", .str "DIGITS" "0123456789", .int "MOST_WORD" 12, .int "MOST_DEPTH" 1000, .int "MOST_DIGITS" 4000, .glo "SIGNS", .exc "Fault", .exc "Malformed", .cls "DataReader", .mkr "DataReader", .noat "DataReader" "tuples", .noat "DataReader" "ready", .noat "DataReader" "told", .meth "DataReader" "item", .meth "DataReader" "open_one", .meth "DataReader" "close_one", .meth "DataReader" "comma", .meth "DataReader" "take", .exm "Fault" "Fault" true, .exm "Fault" "Malformed" false, .exm "Malformed" "Fault" true, .exm "Malformed" "Malformed" true]
def tab_SIGNS : List (Str × D) := [("+", .bl true), ("-", .bl false), (".", .str "")]
def ts : List Tb := [("SIGNS", tab_SIGNS)]
abbrev R : PySem.W.OpenRow := PySem.W.OpenLaw.row PySem.Challenge.rw_nearlyalike_k53_whole_plain_data
abbrev hk : PySem.W.Hook := hookX 5 fa fn ts
def ob (s : PySem.W.SharedT) : AlX := obsXG 5 fa fn ts (HandSHeadRun.getT s)
theorem ob_eq (s : PySem.W.SharedT) : ob s = hk.obs s.abs := obsXG_eq (HandSHeadRun.getT_eq s)
def loose : List PySem.Str := (["Fault", "Malformed", "is_whole", "LETTERS", "DIGITS", "MOST_WORD", "MOST_DEPTH", "MOST_DIGITS", "SIGNS", "is_word", "is_short", "atom_text", "write_data", "read_whole", "read_atom", "pieces_of", "DataReader", "read_data", "_law_draw", "_law_take", "_law_data", "_law_word", "_law_written", "_law_number", "_law_read", "_law_told"] : List PySem.Str)
abbrev Tz (w : World) (K : PySem.W.Frag) (mg : Str → Option Value) (base : Heap) : Prop := Tx fa fn ts w K mg base
section
variable {w : World} {K : PySem.W.Frag} {mg : Str → Option Value} {base : Heap}
theorem Tz.g_Fault (T : Tz w K mg base) : mg "Fault" = some (.ref (He.ga K "Fault")) := T.glo 0
theorem Tz.nm_Fault (T : Tz w K mg base) {X : Cx} (hg : Gl X "Fault") (hX : X.mg = mg := by rfl) : Names X "Fault" (.ref (He.ga K "Fault")) := T.nm 0 rfl hX hg
theorem Tz.g_Malformed (T : Tz w K mg base) : mg "Malformed" = some (.ref (He.ga K "Malformed")) := T.glo 1
theorem Tz.nm_Malformed (T : Tz w K mg base) {X : Cx} (hg : Gl X "Malformed") (hX : X.mg = mg := by rfl) : Names X "Malformed" (.ref (He.ga K "Malformed")) := T.nm 1 rfl hX hg
theorem Tz.g_is_whole (T : Tz w K mg base) : mg "is_whole" = some (.ref (He.ga K "is_whole")) := T.glo 2
theorem Tz.g_is_word (T : Tz w K mg base) : mg "is_word" = some (.ref (He.ga K "is_word")) := T.glo 3
theorem Tz.g_is_short (T : Tz w K mg base) : mg "is_short" = some (.ref (He.ga K "is_short")) := T.glo 4
theorem Tz.g_atom_text (T : Tz w K mg base) : mg "atom_text" = some (.ref (He.ga K "atom_text")) := T.glo 5
theorem Tz.g_write_data (T : Tz w K mg base) : mg "write_data" = some (.ref (He.ga K "write_data")) := T.glo 6
theorem Tz.g_read_whole (T : Tz w K mg base) : mg "read_whole" = some (.ref (He.ga K "read_whole")) := T.glo 7
theorem Tz.g_read_atom (T : Tz w K mg base) : mg "read_atom" = some (.ref (He.ga K "read_atom")) := T.glo 8
theorem Tz.g_pieces_of (T : Tz w K mg base) : mg "pieces_of" = some (.ref (He.ga K "pieces_of")) := T.glo 9
theorem Tz.g_DataReader (T : Tz w K mg base) : mg "DataReader" = some (.ref (He.ga K "DataReader")) := T.glo 10
theorem Tz.g_read_data (T : Tz w K mg base) : mg "read_data" = some (.ref (He.ga K "read_data")) := T.glo 11
theorem Tz.g__law_draw (T : Tz w K mg base) : mg "_law_draw" = some (.ref (He.ga K "_law_draw")) := T.glo 12
theorem Tz.g__law_take (T : Tz w K mg base) : mg "_law_take" = some (.ref (He.ga K "_law_take")) := T.glo 13
theorem Tz.g__law_data (T : Tz w K mg base) : mg "_law_data" = some (.ref (He.ga K "_law_data")) := T.glo 14
theorem Tz.g__law_word (T : Tz w K mg base) : mg "_law_word" = some (.ref (He.ga K "_law_word")) := T.glo 15
theorem Tz.g__law_written (T : Tz w K mg base) : mg "_law_written" = some (.ref (He.ga K "_law_written")) := T.glo 16
theorem Tz.g__law_number (T : Tz w K mg base) : mg "_law_number" = some (.ref (He.ga K "_law_number")) := T.glo 17
theorem Tz.g__law_read (T : Tz w K mg base) : mg "_law_read" = some (.ref (He.ga K "_law_read")) := T.glo 18
theorem Tz.g__law_told (T : Tz w K mg base) : mg "_law_told" = some (.ref (He.ga K "_law_told")) := T.glo 19
theorem Tz.g_law (T : Tz w K mg base) : mg "law" = some (.ref (He.ga K "law")) := T.glo 20
theorem Tz.f_ValueError (T : Tz w K mg base) : mg "ValueError" = none := T.free 21
theorem Tz.f_abs (T : Tz w K mg base) : mg "abs" = none := T.free 22
theorem Tz.f_all (T : Tz w K mg base) : mg "all" = none := T.free 23
theorem Tz.f_any (T : Tz w K mg base) : mg "any" = none := T.free 24
theorem Tz.f_bool (T : Tz w K mg base) : mg "bool" = none := T.free 25
theorem Tz.f_enumerate (T : Tz w K mg base) : mg "enumerate" = none := T.free 26
theorem Tz.f_int (T : Tz w K mg base) : mg "int" = none := T.free 27
theorem Tz.f_isinstance (T : Tz w K mg base) : mg "isinstance" = none := T.free 28
theorem Tz.f_len (T : Tz w K mg base) : mg "len" = none := T.free 29
theorem Tz.f_range (T : Tz w K mg base) : mg "range" = none := T.free 30
theorem Tz.f_repr (T : Tz w K mg base) : mg "repr" = none := T.free 31
theorem Tz.f_str (T : Tz w K mg base) : mg "str" = none := T.free 32
theorem Tz.f_tuple (T : Tz w K mg base) : mg "tuple" = none := T.free 33
theorem Tz.c_LETTERS (T : Tz w K mg base) : ∃ t, mg "LETTERS" = some (.str "abcdefghijklmnopqrstuvwxyz" t) := T.str 34
theorem Tz.c_DIGITS (T : Tz w K mg base) : ∃ t, mg "DIGITS" = some (.str "0123456789" t) := T.str 35
theorem Tz.c_MOST_WORD (T : Tz w K mg base) : ∃ t, mg "MOST_WORD" = some (.int (12) t) := T.int 36
theorem Tz.c_MOST_DEPTH (T : Tz w K mg base) : ∃ t, mg "MOST_DEPTH" = some (.int (1000) t) := T.int 37
theorem Tz.c_MOST_DIGITS (T : Tz w K mg base) : ∃ t, mg "MOST_DIGITS" = some (.int (4000) t) := T.int 38
theorem Tz.g_SIGNS (T : Tz w K mg base) : mg "SIGNS" = some (.ref (He.ga K "SIGNS")) := T.glo 39
theorem Tz.ex_Fault (T : Tz w K mg base) : OwnExc K "Fault" := T.exc 40
theorem Tz.ex_Malformed (T : Tz w K mg base) : OwnExc K "Malformed" := T.exc 41
theorem Tz.cls_DataReader (T : Tz w K mg base) : Cls K (He.ga K "DataReader") := T.cls 42
theorem Tz.mk_DataReader (T : Tz w K mg base) : Mk K (He.ga K "DataReader") (He.ma K (He.ga K "DataReader") "__init__") := T.mkr 43
theorem Tz.na_DataReader_tuples (T : Tz w K mg base) : NoAttr K (He.ga K "DataReader") "tuples" := T.noat 44
theorem Tz.na_DataReader_ready (T : Tz w K mg base) : NoAttr K (He.ga K "DataReader") "ready" := T.noat 45
theorem Tz.na_DataReader_told (T : Tz w K mg base) : NoAttr K (He.ga K "DataReader") "told" := T.noat 46
theorem Tz.mt_DataReader_item (T : Tz w K mg base) : Meth K (He.ga K "DataReader") "item" (He.ma K (He.ga K "DataReader") "item") := T.meth 47
theorem Tz.mt_DataReader_open_one (T : Tz w K mg base) : Meth K (He.ga K "DataReader") "open_one" (He.ma K (He.ga K "DataReader") "open_one") := T.meth 48
theorem Tz.mt_DataReader_close_one (T : Tz w K mg base) : Meth K (He.ga K "DataReader") "close_one" (He.ma K (He.ga K "DataReader") "close_one") := T.meth 49
theorem Tz.mt_DataReader_comma (T : Tz w K mg base) : Meth K (He.ga K "DataReader") "comma" (He.ma K (He.ga K "DataReader") "comma") := T.meth 50
theorem Tz.mt_DataReader_take (T : Tz w K mg base) : Meth K (He.ga K "DataReader") "take" (He.ma K (He.ga K "DataReader") "take") := T.meth 51
def ct_Fault (n : Str) : Option Bool := if n = "Fault" then some true else if n = "Malformed" then some true else none
theorem Tz.ct_Fault (T : Tz w K mg base) : ∀ n b, K53.ct_Fault n = some b → PySem.W.exmOne K (.ref (He.ga K n)) (.ref (He.ga K "Fault")) = some b := by
  intro n b h
  unfold K53.ct_Fault at h
  by_cases e : n = "Fault"
  · rw [if_pos e] at h
    rw [e, ← h]
    exact T.exm 52
  rw [if_neg e] at h
  clear e
  by_cases e : n = "Malformed"
  · rw [if_pos e] at h
    rw [e, ← h]
    exact T.exm 54
  rw [if_neg e] at h
  clear e
  cases h
def ct_Malformed (n : Str) : Option Bool := if n = "Fault" then some false else if n = "Malformed" then some true else none
theorem Tz.ct_Malformed (T : Tz w K mg base) : ∀ n b, K53.ct_Malformed n = some b → PySem.W.exmOne K (.ref (He.ga K n)) (.ref (He.ga K "Malformed")) = some b := by
  intro n b h
  unfold K53.ct_Malformed at h
  by_cases e : n = "Fault"
  · rw [if_pos e] at h
    rw [e, ← h]
    exact T.exm 53
  rw [if_neg e] at h
  clear e
  by_cases e : n = "Malformed"
  · rw [if_pos e] at h
    rw [e, ← h]
    exact T.exm 55
  rw [if_neg e] at h
  clear e
  cases h
theorem Tz.tab_SIGNS (T : Tz w K mg base) : TabK K w (He.ga K "SIGNS") K53.tab_SIGNS := T.c.tab 0 (t := ("SIGNS", K53.tab_SIGNS))
end
end K53
set_option Elab.async false
set_option linter.all false
set_option maxRecDepth 100000
set_option maxHeartbeats 4000000
namespace K53
open PySem PySem.Spec PyProof.Rows L2 SL
section
variable {P : Program} {w : World} {K : PySem.W.Frag} {mg : Str → Option Value} {base : Heap}
/-! ### is_whole -/
def m_is_whole : MS :=
  (sRet (mAndV (mCB fIsi (mCons (mVar 0) (mCons (mC (.ty "int")) mNil))) (mNotV (mCB fIsi (mCons (mVar 0) (mCons (mC (.ty "bool")) mNil))))))
def F_is_whole : FA := pureOr (runDef 1 m_is_whole)
def L_is_whole : Nat := 0 + 1
theorem sc_is_whole : FnScope ["value"] ["value"] (defScope (top 4)) := ⟨rfl, rfl, rfl, by decide +kernel, rfl, by decide +kernel, by decide +kernel⟩
theorem ok_is_whole (T : Tz w K mg base) : OkF P w K mg base d_is_whole L_is_whole ["value"] F_is_whole := by
  obtain ⟨fd, F⟩ := T.def_ 0 (d := d_is_whole) rfl
  refine ⟨fd, ((ok_def F sc_is_whole fun cdv A outer s H E hr => ?_)).imp fun _ _ _ _ => pureOr_sp, FunD.bindsN F fun _ _ _ _ _ _ us hl => match us, hl with | [_], _ => rfl, F.kp⟩
  have tk : Takes (cxOf (L2.CX P w) P w K mg base ["value"] d_is_whole.qual d_is_whole.scope (He.fAd K d_is_whole.at_) cdv A outer s H E) (fun cls d _ H => E cls d H) := takes_of rfl rfl rfl rfl
  have hp : PassesOwn (model P w) (cxOf (L2.CX P w) P w K mg base ["value"] d_is_whole.qual d_is_whole.scope (He.fAd K d_is_whole.at_) cdv A outer s H E).A (cxOf (L2.CX P w) P w K mg base ["value"] d_is_whole.qual d_is_whole.scope (He.fAd K d_is_whole.at_) cdv A outer s H E).env (cxOf (L2.CX P w) P w K mg base ["value"] d_is_whole.qual d_is_whole.scope (He.fAd K d_is_whole.at_) cdv A outer s H E).xe := passes_of rfl
  have nd := sc_is_whole.nd
  have hu := hr.units
  have hu1 : (A.deeper (envOfC d_is_whole.qual d_is_whole.scope s.heap.objs.size (He.fAd K d_is_whole.at_) cdv)).units + 65 < cLine := by have := hr.un; omega
  exact (ss_one (ss_ret (se_and (se_callB call_isi (s_isi _) (by rfl) T.f_isinstance (by decide +kernel) (sa_cons (se_var (i := 0)) (sa_cons (se_ty (by rfl) T.f_int (by decide +kernel)) sa_nil))) (se_one (se_not (se_callB call_isi (s_isi _) (by rfl) T.f_isinstance (by decide +kernel) (sa_cons (se_var (i := 0)) (sa_cons (se_ty (by rfl) T.f_bool (by decide +kernel)) sa_nil))))))))
/-! ### is_word -/
def m_is_word : MS :=
  (sSeq (sIf (mOr (mNot (mTst (mCB fIsi (mCons (mVar 0) (mCons (mC (.ty "str")) mNil))))) (mOr (mNot (mTst (mChain fLe fLe (mC (.int 1)) (mCB fLen (mCons (mVar 0) mNil)) (mC (.int 12))))) (mTst (mOp fNotIn (mOp fIx (mVar 0) (mC (.int 0))) (mC (.str "abcdefghijklmnopqrstuvwxyz")))))) (sRet (mC (.bl false))) sNext)
    (sRet (mCBL fAll (mLcI (mSrc srcStr (mVar 0)) [1] (gtName 1) tYesD (mOrV (mOp fIn (mVar 1) (mC (.str "abcdefghijklmnopqrstuvwxyz"))) (mOp fIn (mVar 1) (mC (.str "0123456789"))))))))
def F_is_word : FA := pureOr (runDef 2 m_is_word)
def L_is_word : Nat := 0 + 1
theorem sc_is_word : FnScope ["value", "sign"] ["value"] (defScope (top 12)) := ⟨rfl, rfl, rfl, by decide +kernel, rfl, by decide +kernel, by decide +kernel⟩
theorem ok_is_word (T : Tz w K mg base) : OkF P w K mg base d_is_word L_is_word ["value"] F_is_word := by
  obtain ⟨fd, F⟩ := T.def_ 1 (d := d_is_word) rfl
  refine ⟨fd, ((ok_def F sc_is_word fun cdv A outer s H E hr => ?_)).imp fun _ _ _ _ => pureOr_sp, FunD.bindsN F fun _ _ _ _ _ _ us hl => match us, hl with | [_], _ => rfl, F.kp⟩
  have tk : Takes (cxOf (L2.CX P w) P w K mg base ["value", "sign"] d_is_word.qual d_is_word.scope (He.fAd K d_is_word.at_) cdv A outer s H E) (fun cls d _ H => E cls d H) := takes_of rfl rfl rfl rfl
  have hp : PassesOwn (model P w) (cxOf (L2.CX P w) P w K mg base ["value", "sign"] d_is_word.qual d_is_word.scope (He.fAd K d_is_word.at_) cdv A outer s H E).A (cxOf (L2.CX P w) P w K mg base ["value", "sign"] d_is_word.qual d_is_word.scope (He.fAd K d_is_word.at_) cdv A outer s H E).env (cxOf (L2.CX P w) P w K mg base ["value", "sign"] d_is_word.qual d_is_word.scope (He.fAd K d_is_word.at_) cdv A outer s H E).xe := passes_of rfl
  have nd := sc_is_word.nd
  have hu := hr.units
  have hu1 : (A.deeper (envOfC d_is_word.qual d_is_word.scope s.heap.objs.size (He.fAd K d_is_word.at_) cdv)).units + 65 < cLine := by have := hr.un; omega
  exact (ss_cons (ss_if (st_w (sw_or (st_not (st_val (se_callB call_isi (s_isi _) (by rfl) T.f_isinstance (by decide +kernel) (sa_cons (se_var (i := 0)) (sa_cons (se_ty (by rfl) T.f_str (by decide +kernel)) sa_nil))))) (sw_or (st_not (st_chain o_le o_le (s_le _) (s_le _) se_int (se_callB c_len (s_len _) (by rfl) T.f_len (by decide +kernel) (sa_cons (se_var (i := 0)) sa_nil)) (se_gint (by rfl) T.c_MOST_WORD))) (sw_or1 (st_cmp (o_notIn hu1) (s_notIn _) (se_ix ix_seq (s_ix _) (se_var (i := 0)) se_int (fun _ _ => rfl)) (se_gstr (by rfl) T.c_LETTERS) (by rfl)))))) (ss_one (ss_ret se_bl)) ss_nil)
    (ss_one (ss_ret (se_callBL (cr_all rfl) (i_all _) (by rfl) T.f_all (by decide +kernel) (sel_lc (own := [("sign", 1)]) (is := [1]) rfl nd (si_str (se_var (i := 0))) (blkOk_by (by rfl)) (by decide) (fun _ _ _ _ _ => (sg_name (i := 1) nd)) (fun _ _ _ _ _ => spt_nil) (fun _ _ _ _ _ => (se_or (se_cmp (o_in hu1) (s_in _) (se_var (i := 1)) (se_gstr (by rfl) T.c_LETTERS) (by rfl)) (se_one (se_cmp (o_in hu1) (s_in _) (se_var (i := 1)) (se_gstr (by rfl) T.c_DIGITS) (by rfl))))))))))
/-! ### is_short -/
def m_is_short : MS :=
  (sSeq (sIf (mNot (mTst (mCall 1 F_is_whole (mCons (mVar 0) mNil)))) (sRet (mC (.bl false))) sNext)
    (sSeq (sSet 1 (mOp fPow (mC (.int 10)) (mC (.int 32))))
    (sSeq (sIf (mTst (mChain fLt fLt (mUn fNeg (mVar 1)) (mVar 0) (mVar 1))) (sRet (mC (.bl true))) sNext)
    (sSeq (sFor (mSrcA srcR1 (mCons (mOp fSub (mOp fDiv (mC (.int 4000)) (mC (.int 32))) (mC (.int 1))) mNil)) (gtName 2)
    (sAug 1 fMulI (mOp fPow (mC (.int 10)) (mC (.int 32)))))
    (sRet (mChain fLt fLt (mUn fNeg (mVar 1)) (mVar 0) (mVar 1)))))))
def F_is_short : FA := pureOr (runDef 3 m_is_short)
def L_is_short : Nat := (Nat.max L_is_whole 0) + 1
theorem sc_is_short : FnScope ["value", "most", "_"] ["value"] (defScope (top 13)) := ⟨rfl, rfl, rfl, by decide +kernel, rfl, by decide +kernel, by decide +kernel⟩
theorem ok_is_short (T : Tz w K mg base) : OkF P w K mg base d_is_short L_is_short ["value"] F_is_short := by
  obtain ⟨fd_is_whole, G_is_whole, B_is_whole, K_is_whole⟩ := ok_is_whole (P := P) T
  obtain ⟨fd, F⟩ := T.def_ 2 (d := d_is_short) rfl
  refine ⟨fd, ((ok_def F sc_is_short fun cdv A outer s H E hr => ?_)).imp fun _ _ _ _ => pureOr_sp, FunD.bindsN F fun _ _ _ _ _ _ us hl => match us, hl with | [_], _ => rfl, F.kp⟩
  have tk : Takes (cxOf (L2.CX P w) P w K mg base ["value", "most", "_"] d_is_short.qual d_is_short.scope (He.fAd K d_is_short.at_) cdv A outer s H E) (fun cls d _ H => E cls d H) := takes_of rfl rfl rfl rfl
  have hp : PassesOwn (model P w) (cxOf (L2.CX P w) P w K mg base ["value", "most", "_"] d_is_short.qual d_is_short.scope (He.fAd K d_is_short.at_) cdv A outer s H E).A (cxOf (L2.CX P w) P w K mg base ["value", "most", "_"] d_is_short.qual d_is_short.scope (He.fAd K d_is_short.at_) cdv A outer s H E).env (cxOf (L2.CX P w) P w K mg base ["value", "most", "_"] d_is_short.qual d_is_short.scope (He.fAd K d_is_short.at_) cdv A outer s H E).xe := passes_of rfl
  have nd := sc_is_short.nd
  have hu := hr.units
  have hu1 : (A.deeper (envOfC d_is_short.qual d_is_short.scope s.heap.objs.size (He.fAd K d_is_short.at_) cdv)).units + 65 < cLine := by have := hr.un; omega
  exact (ss_cons (ss_if (st_not (st_val (se_call G_is_whole tk (hr.mono (by decide)) (by rfl) (T.g_is_whole) K_is_whole B_is_whole (sa_cons (se_var (i := 0)) sa_nil)))) (ss_one (ss_ret se_bl)) ss_nil)
    (ss_cons (ss_set (i := 1) nd (se_op op_pow (s_pow _) se_int se_int))
    (ss_cons (ss_if (st_chain o_lt o_lt (s_lt _) (s_lt _) (se_un un_neg (s_neg _) (se_var (i := 1))) (se_var (i := 0)) (se_var (i := 1))) (ss_one (ss_ret se_bl)) ss_nil)
    (ss_cons (ss_for hp rfl (si_range1 (by rfl) T.f_range (sa_cons (se_op op_sub (s_sub _) (se_op o_div (s_div _) (se_gint (by rfl) T.c_MOST_DIGITS) se_int) se_int) sa_nil)) (sg_name (i := 2) nd)
    (ss_one (ss_aug (i := 1) nd io_mul (s_mulI _) (se_op op_pow (s_pow _) se_int se_int))))
    (ss_one (ss_ret (se_chain o_lt o_lt (s_lt _) (s_lt _) (se_un un_neg (s_neg _) (se_var (i := 1))) (se_var (i := 0)) (se_var (i := 1)))))))))
/-! ### atom_text -/
def m_atom_text : MS :=
  (sSeq (sIf (mTst (mCB fIsi (mCons (mVar 0) (mCons (mC (.ty "bool")) mNil)))) (sRet (mIf (mTst (mVar 0)) (mC (.str "+")) (mC (.str "-")))) sNext)
    (sSeq (sIf (mAnd (mNot (mTst (mCall 1 F_is_word (mCons (mVar 0) mNil)))) (mAnd (mNot (mTst (mCall 1 F_is_short (mCons (mVar 0) mNil)))) (mNot (mAnd (mTst (mCB fIsi (mCons (mVar 0) (mCons (mC (.ty "str")) mNil)))) (mTst (mOp fEq (mVar 0) (mC (.str "")))))))) (sRaise "Malformed") sNext)
    (sRet (mIf (mTst (mOp fNe (mVar 0) (mC (.str "")))) (mCB fStrN (mCons (mVar 0) mNil)) (mC (.str "."))))))
def F_atom_text : FA := pureOr (runDef 1 m_atom_text)
def L_atom_text : Nat := (Nat.max L_is_short (Nat.max L_is_word 0)) + 1
theorem sc_atom_text : FnScope ["value"] ["value"] (defScope (top 14)) := ⟨rfl, rfl, rfl, by decide +kernel, rfl, by decide +kernel, by decide +kernel⟩
theorem ok_atom_text (T : Tz w K mg base) : OkF P w K mg base d_atom_text L_atom_text ["value"] F_atom_text := by
  obtain ⟨fd_is_word, G_is_word, B_is_word, K_is_word⟩ := ok_is_word (P := P) T
  obtain ⟨fd_is_short, G_is_short, B_is_short, K_is_short⟩ := ok_is_short (P := P) T
  obtain ⟨fd, F⟩ := T.def_ 3 (d := d_atom_text) rfl
  refine ⟨fd, ((ok_def F sc_atom_text fun cdv A outer s H E hr => ?_)).imp fun _ _ _ _ => pureOr_sp, FunD.bindsN F fun _ _ _ _ _ _ us hl => match us, hl with | [_], _ => rfl, F.kp⟩
  have tk : Takes (cxOf (L2.CX P w) P w K mg base ["value"] d_atom_text.qual d_atom_text.scope (He.fAd K d_atom_text.at_) cdv A outer s H E) (fun cls d _ H => E cls d H) := takes_of rfl rfl rfl rfl
  have hp : PassesOwn (model P w) (cxOf (L2.CX P w) P w K mg base ["value"] d_atom_text.qual d_atom_text.scope (He.fAd K d_atom_text.at_) cdv A outer s H E).A (cxOf (L2.CX P w) P w K mg base ["value"] d_atom_text.qual d_atom_text.scope (He.fAd K d_atom_text.at_) cdv A outer s H E).env (cxOf (L2.CX P w) P w K mg base ["value"] d_atom_text.qual d_atom_text.scope (He.fAd K d_atom_text.at_) cdv A outer s H E).xe := passes_of rfl
  have nd := sc_atom_text.nd
  have hu := hr.units
  have hu1 : (A.deeper (envOfC d_atom_text.qual d_atom_text.scope s.heap.objs.size (He.fAd K d_atom_text.at_) cdv)).units + 65 < cLine := by have := hr.un; omega
  exact (ss_cons (ss_if (st_val (se_callB call_isi (s_isi _) (by rfl) T.f_isinstance (by decide +kernel) (sa_cons (se_var (i := 0)) (sa_cons (se_ty (by rfl) T.f_bool (by decide +kernel)) sa_nil)))) (ss_one (ss_ret (se_if (st_val (se_var (i := 0))) se_str se_str))) ss_nil)
    (ss_cons (ss_if (st_w (sw_and (st_not (st_val (se_call G_is_word tk (hr.mono (by decide)) (by rfl) (T.g_is_word) K_is_word B_is_word (sa_cons (se_var (i := 0)) sa_nil)))) (sw_and (st_not (st_val (se_call G_is_short tk (hr.mono (by decide)) (by rfl) (T.g_is_short) K_is_short B_is_short (sa_cons (se_var (i := 0)) sa_nil)))) (sw_and1 (st_not (st_w (sw_and (st_val (se_callB call_isi (s_isi _) (by rfl) T.f_isinstance (by decide +kernel) (sa_cons (se_var (i := 0)) (sa_cons (se_ty (by rfl) T.f_str (by decide +kernel)) sa_nil)))) (sw_and1 (st_cmp (o_eq hu) (s_eq _) (se_var (i := 0)) se_str (nomark _)))))))))) (ss_one (ss_raise rfl tk (T.ex_Malformed.pmk (T.g_Malformed) (by rfl)))) ss_nil)
    (ss_one (ss_ret (se_if (st_cmp (o_ne hu) (s_ne _) (se_var (i := 0)) se_str (nomark _)) (se_callTy (c_strN rfl T.dig) (s_strN _) (by rfl) T.f_str (by decide +kernel) (sa_cons (se_var (i := 0)) sa_nil)) se_str)))))
/-! ### write_data -/
def m_write_data : MS :=
  (sSeq (sPar 1 2 (mCons (mLst (mCons (mTup (mCons (mVar 0) (mCons (mC (.int 1)) mNil))) mNil)) (mCons (mLst mNil) mNil)))
    (sSeq (whileL (mTst (mOp fGt (mCB fLen (mCons (mVar 1) mNil)) (mC (.int 0)))) (sSeq (sAsg (mMt tyLst fPop (mVar 1) mNil) (gtTup (gtLen 2 (gtCons (gtName 3) (gtCons (gtName 4) gtNil)))))
    (sIf (mTst (mOp fEq (mVar 4) (mC (.int 0)))) (sExpr (mMt tyLst fAppend (mVar 2) (mCons (mVar 3) mNil))) (sIf (mAnd (mTst (mCB fIsi (mCons (mVar 3) (mCons (mC (.ty "tuple")) mNil)))) (mTst (mOp fLe (mVar 4) (mC (.int 1000))))) (sSeq (sExpr (mMt tyLst fAppend (mVar 2) (mCons (mC (.str "[")) mNil)))
    (sSeq (sExpr (mMt tyLst fAppend (mVar 1) (mCons (mTup (mCons (mC (.str "]")) (mCons (mC (.int 0)) mNil))) mNil)))
    (sFor (mSrcA srcRd (mCons (mOp fSub (mCB fLen (mCons (mVar 3) mNil)) (mC (.int 1))) (mCons (mUn fNeg (mC (.int 1))) (mCons (mUn fNeg (mC (.int 1))) mNil)))) (gtName 5)
    (sSeq (sExpr (mMt tyLst fAppend (mVar 1) (mCons (mTup (mCons (mOp fIx (mVar 3) (mVar 5)) (mCons (mOp fAdd (mVar 4) (mC (.int 1))) mNil))) mNil)))
    (sIf (mTst (mOp fGt (mVar 5) (mC (.int 0)))) (sExpr (mMt tyLst fAppend (mVar 1) (mCons (mTup (mCons (mC (.str ",")) (mCons (mC (.int 0)) mNil))) mNil))) sNext))))) (sExpr (mMt tyLst fAppend (mVar 2) (mCons (mCall 1 F_atom_text (mCons (mVar 3) mNil)) mNil)))))) bigN)
    (sRet (mMt tyStr fJoin (mC (.str "")) (mCons (mVar 2) mNil)))))
def F_write_data : FA := pureOr (runDef 6 m_write_data)
def L_write_data : Nat := (Nat.max L_atom_text 0) + 1
theorem sc_write_data : FnScope ["data", "waiting", "found", "one", "depth", "k"] ["data"] (defScope (top 15)) := ⟨rfl, rfl, rfl, by decide +kernel, rfl, by decide +kernel, by decide +kernel⟩
theorem ok_write_data (T : Tz w K mg base) : OkF P w K mg base d_write_data L_write_data ["data"] F_write_data := by
  obtain ⟨fd_atom_text, G_atom_text, B_atom_text, K_atom_text⟩ := ok_atom_text (P := P) T
  obtain ⟨fd, F⟩ := T.def_ 4 (d := d_write_data) rfl
  refine ⟨fd, ((ok_def F sc_write_data fun cdv A outer s H E hr => ?_)).imp fun _ _ _ _ => pureOr_sp, FunD.bindsN F fun _ _ _ _ _ _ us hl => match us, hl with | [_], _ => rfl, F.kp⟩
  have tk : Takes (cxOf (L2.CX P w) P w K mg base ["data", "waiting", "found", "one", "depth", "k"] d_write_data.qual d_write_data.scope (He.fAd K d_write_data.at_) cdv A outer s H E) (fun cls d _ H => E cls d H) := takes_of rfl rfl rfl rfl
  have hp : PassesOwn (model P w) (cxOf (L2.CX P w) P w K mg base ["data", "waiting", "found", "one", "depth", "k"] d_write_data.qual d_write_data.scope (He.fAd K d_write_data.at_) cdv A outer s H E).A (cxOf (L2.CX P w) P w K mg base ["data", "waiting", "found", "one", "depth", "k"] d_write_data.qual d_write_data.scope (He.fAd K d_write_data.at_) cdv A outer s H E).env (cxOf (L2.CX P w) P w K mg base ["data", "waiting", "found", "one", "depth", "k"] d_write_data.qual d_write_data.scope (He.fAd K d_write_data.at_) cdv A outer s H E).xe := passes_of rfl
  have nd := sc_write_data.nd
  have hu := hr.units
  have hu1 : (A.deeper (envOfC d_write_data.qual d_write_data.scope s.heap.objs.size (He.fAd K d_write_data.at_) cdv)).units + 65 < cLine := by have := hr.un; omega
  exact (ss_cons (ss_par (i := 1) (j := 2) rfl nd (sa_cons (se_lst (sa_cons (se_tup (sa_cons (se_var (i := 0)) (sa_cons se_int sa_nil))) sa_nil)) (sa_cons (se_lst sa_nil) sa_nil)))
    (ss_cons (ss_while hp (st_cmp o_gt (s_gt _) (se_callB c_len (s_len _) (by rfl) T.f_len (by decide +kernel) (sa_cons (se_var (i := 1)) sa_nil)) se_int (nomark _)) (ss_cons (ss_asg (se_bm0 PySem.F.plainAttrs_list PySem.F.slot_list_pop PySem.F.type_list_pop mt_pop (ty_lst _) (m_pop _) (se_var (i := 1))) (sg_tup rfl (sgs_cons (W := W0) (sg_name (W := W0) (i := 3) nd) (sgs_cons (W := W0) (sg_name (W := W0) (i := 4) nd) (sgs_nil (W := W0))))))
    (ss_one (ss_if (st_cmp (o_eq hu) (s_eq _) (se_var (i := 4)) se_int (nomark _)) (ss_one (ss_expr (se_bm PySem.F.plainAttrs_list PySem.F.slot_list_append PySem.F.type_list_append mt_append (ty_lst _) (m_append _) (se_var (i := 2)) (sa_cons (se_var (i := 3)) sa_nil)))) (ss_one (ss_if (st_w (sw_and (st_val (se_callB call_isi (s_isi _) (by rfl) T.f_isinstance (by decide +kernel) (sa_cons (se_var (i := 3)) (sa_cons (se_ty (by rfl) T.f_tuple (by decide +kernel)) sa_nil)))) (sw_and1 (st_cmp o_le (s_le _) (se_var (i := 4)) (se_gint (by rfl) T.c_MOST_DEPTH) (nomark _))))) (ss_cons (ss_expr (se_bm PySem.F.plainAttrs_list PySem.F.slot_list_append PySem.F.type_list_append mt_append (ty_lst _) (m_append _) (se_var (i := 2)) (sa_cons se_str sa_nil)))
    (ss_cons (ss_expr (se_bm PySem.F.plainAttrs_list PySem.F.slot_list_append PySem.F.type_list_append mt_append (ty_lst _) (m_append _) (se_var (i := 1)) (sa_cons (se_tup (sa_cons se_str (sa_cons se_int sa_nil))) sa_nil)))
    (ss_one (ss_for hp rfl (si_range3 (by rfl) T.f_range (sa_cons (se_op op_sub (s_sub _) (se_callB c_len (s_len _) (by rfl) T.f_len (by decide +kernel) (sa_cons (se_var (i := 3)) sa_nil)) se_int) (sa_cons (se_un un_neg (s_neg _) se_int) (sa_cons (se_un un_neg (s_neg _) se_int) sa_nil)))) (sg_name (i := 5) nd)
    (ss_cons (ss_expr (se_bm PySem.F.plainAttrs_list PySem.F.slot_list_append PySem.F.type_list_append mt_append (ty_lst _) (m_append _) (se_var (i := 1)) (sa_cons (se_tup (sa_cons (se_ix ix_seq (s_ix _) (se_var (i := 3)) (se_var (i := 5)) (fun _ _ => rfl)) (sa_cons (se_op o_add (s_add _) (se_var (i := 4)) se_int) sa_nil))) sa_nil)))
    (ss_one (ss_if (st_cmp o_gt (s_gt _) (se_var (i := 5)) se_int (nomark _)) (ss_one (ss_expr (se_bm PySem.F.plainAttrs_list PySem.F.slot_list_append PySem.F.type_list_append mt_append (ty_lst _) (m_append _) (se_var (i := 1)) (sa_cons (se_tup (sa_cons se_str (sa_cons se_int sa_nil))) sa_nil)))) ss_nil))))))) (ss_one (ss_expr (se_bm PySem.F.plainAttrs_list PySem.F.slot_list_append PySem.F.type_list_append mt_append (ty_lst _) (m_append _) (se_var (i := 2)) (sa_cons (se_call G_atom_text tk (hr.mono (by decide)) (by rfl) (T.g_atom_text) K_atom_text B_atom_text (sa_cons (se_var (i := 3)) sa_nil)) sa_nil))))))))))
    (ss_one (ss_ret (se_bm PySem.F.plainAttrs_str PySem.F.slot_str_join PySem.F.type_str_join mt_join (ty_str _) (m_join _) se_str (sa_cons (se_var (i := 2)) sa_nil))))))
/-! ### read_whole -/
def m_read_whole : MS :=
  (sSeq (sSet 1 (mIf (mTst (mOp fEq (mSl fSl (mVar 0) mNoPart (mPart (mC (.int 1)))) (mC (.str "-")))) (mSl fSl (mVar 0) (mPart (mC (.int 1))) mNoPart) (mVar 0)))
    (sSeq (sIf (mOr (mNot (mTst (mChain fLe fLe (mC (.int 1)) (mCB fLen (mCons (mVar 1) mNil)) (mC (.int 4000))))) (mNot (mTst (mCBL fAll (mLcI (mSrc srcStr (mVar 1)) [2] (gtName 2) tYesD (mOp fIn (mVar 2) (mC (.str "0123456789")))))))) (sRaise "Malformed") sNext)
    (sSeq (sIf (mAnd (mTst (mOp fEq (mOp fIx (mVar 1) (mC (.int 0))) (mC (.str "0")))) (mTst (mOp fNe (mVar 0) (mC (.str "0"))))) (sRaise "Malformed") sNext)
    (sRet (mCB fIntN (mCons (mVar 0) mNil))))))
def F_read_whole : FA := pureOr (runDef 3 m_read_whole)
def L_read_whole : Nat := 0 + 1
theorem sc_read_whole : FnScope ["text", "body", "sign"] ["text"] (defScope (top 16)) := ⟨rfl, rfl, rfl, by decide +kernel, rfl, by decide +kernel, by decide +kernel⟩
theorem ok_read_whole (T : Tz w K mg base) : OkF P w K mg base d_read_whole L_read_whole ["text"] F_read_whole := by
  obtain ⟨fd, F⟩ := T.def_ 5 (d := d_read_whole) rfl
  refine ⟨fd, ((ok_def F sc_read_whole fun cdv A outer s H E hr => ?_)).imp fun _ _ _ _ => pureOr_sp, FunD.bindsN F fun _ _ _ _ _ _ us hl => match us, hl with | [_], _ => rfl, F.kp⟩
  have tk : Takes (cxOf (L2.CX P w) P w K mg base ["text", "body", "sign"] d_read_whole.qual d_read_whole.scope (He.fAd K d_read_whole.at_) cdv A outer s H E) (fun cls d _ H => E cls d H) := takes_of rfl rfl rfl rfl
  have hp : PassesOwn (model P w) (cxOf (L2.CX P w) P w K mg base ["text", "body", "sign"] d_read_whole.qual d_read_whole.scope (He.fAd K d_read_whole.at_) cdv A outer s H E).A (cxOf (L2.CX P w) P w K mg base ["text", "body", "sign"] d_read_whole.qual d_read_whole.scope (He.fAd K d_read_whole.at_) cdv A outer s H E).env (cxOf (L2.CX P w) P w K mg base ["text", "body", "sign"] d_read_whole.qual d_read_whole.scope (He.fAd K d_read_whole.at_) cdv A outer s H E).xe := passes_of rfl
  have nd := sc_read_whole.nd
  have hu := hr.units
  have hu1 : (A.deeper (envOfC d_read_whole.qual d_read_whole.scope s.heap.objs.size (He.fAd K d_read_whole.at_) cdv)).units + 65 < cLine := by have := hr.un; omega
  exact (ss_cons (ss_set (i := 1) nd (se_if (st_cmp (o_eq hu) (s_eq _) (se_slice o_sl (s_sl _) (se_var (i := 0)) so_none (so_some se_int)) se_str (nomark _)) (se_slice o_sl (s_sl _) (se_var (i := 0)) (so_some se_int) so_none) (se_var (i := 0))))
    (ss_cons (ss_if (st_w (sw_or (st_not (st_chain o_le o_le (s_le _) (s_le _) se_int (se_callB c_len (s_len _) (by rfl) T.f_len (by decide +kernel) (sa_cons (se_var (i := 1)) sa_nil)) (se_gint (by rfl) T.c_MOST_DIGITS))) (sw_or1 (st_not (st_val (se_callBL (cr_all rfl) (i_all _) (by rfl) T.f_all (by decide +kernel) (sel_lc (own := [("sign", 2)]) (is := [2]) rfl nd (si_str (se_var (i := 1))) (blkOk_by (by rfl)) (by decide) (fun _ _ _ _ _ => (sg_name (i := 2) nd)) (fun _ _ _ _ _ => spt_nil) (fun _ _ _ _ _ => (se_cmp (o_in hu1) (s_in _) (se_var (i := 2)) (se_gstr (by rfl) T.c_DIGITS) (by rfl)))))))))) (ss_one (ss_raise rfl tk (T.ex_Malformed.pmk (T.g_Malformed) (by rfl)))) ss_nil)
    (ss_cons (ss_if (st_w (sw_and (st_cmp (o_eq hu) (s_eq _) (se_ix ix_seq (s_ix _) (se_var (i := 1)) se_int (fun _ _ => rfl)) se_str (nomark _)) (sw_and1 (st_cmp (o_ne hu) (s_ne _) (se_var (i := 0)) se_str (nomark _))))) (ss_one (ss_raise rfl tk (T.ex_Malformed.pmk (T.g_Malformed) (by rfl)))) ss_nil)
    (ss_one (ss_ret (se_callTy (c_intN T.dig) (s_intN _) (by rfl) T.f_int (by decide +kernel) (sa_cons (se_var (i := 0)) sa_nil)))))))
/-! ### read_atom -/
def m_read_atom : MS :=
  (sSeq (sIf (mTst (mInTab tab_SIGNS (mVar 0))) (sRet (mDisp tab_SIGNS (mVar 0))) sNext)
    (sRet (mIf (mTst (mCall 1 F_is_word (mCons (mVar 0) mNil))) (mVar 0) (mCall 1 F_read_whole (mCons (mVar 0) mNil)))))
def F_read_atom : FA := pureOr (runDef 1 m_read_atom)
def L_read_atom : Nat := (Nat.max L_read_whole (Nat.max L_is_word 0)) + 1
theorem sc_read_atom : FnScope ["piece"] ["piece"] (defScope (top 17)) := ⟨rfl, rfl, rfl, by decide +kernel, rfl, by decide +kernel, by decide +kernel⟩
theorem ok_read_atom (T : Tz w K mg base) : OkF P w K mg base d_read_atom L_read_atom ["piece"] F_read_atom := by
  obtain ⟨fd_is_word, G_is_word, B_is_word, K_is_word⟩ := ok_is_word (P := P) T
  obtain ⟨fd_read_whole, G_read_whole, B_read_whole, K_read_whole⟩ := ok_read_whole (P := P) T
  obtain ⟨fd, F⟩ := T.def_ 6 (d := d_read_atom) rfl
  refine ⟨fd, ((ok_def F sc_read_atom fun cdv A outer s H E hr => ?_)).imp fun _ _ _ _ => pureOr_sp, FunD.bindsN F fun _ _ _ _ _ _ us hl => match us, hl with | [_], _ => rfl, F.kp⟩
  have tk : Takes (cxOf (L2.CX P w) P w K mg base ["piece"] d_read_atom.qual d_read_atom.scope (He.fAd K d_read_atom.at_) cdv A outer s H E) (fun cls d _ H => E cls d H) := takes_of rfl rfl rfl rfl
  have hp : PassesOwn (model P w) (cxOf (L2.CX P w) P w K mg base ["piece"] d_read_atom.qual d_read_atom.scope (He.fAd K d_read_atom.at_) cdv A outer s H E).A (cxOf (L2.CX P w) P w K mg base ["piece"] d_read_atom.qual d_read_atom.scope (He.fAd K d_read_atom.at_) cdv A outer s H E).env (cxOf (L2.CX P w) P w K mg base ["piece"] d_read_atom.qual d_read_atom.scope (He.fAd K d_read_atom.at_) cdv A outer s H E).xe := passes_of rfl
  have nd := sc_read_atom.nd
  have hu := hr.units
  have hu1 : (A.deeper (envOfC d_read_atom.qual d_read_atom.scope s.heap.objs.size (He.fAd K d_read_atom.at_) cdv)).units + 65 < cLine := by have := hr.un; omega
  exact (ss_cons (ss_if (st_inTab tab_SIGNS T.tab_SIGNS (by rfl) T.g_SIGNS (se_var (i := 0))) (ss_one (ss_ret (se_ixTab tab_SIGNS T.tab_SIGNS (by rfl) T.g_SIGNS (se_var (i := 0)) (fun _ _ => rfl)))) ss_nil)
    (ss_one (ss_ret (se_if (st_val (se_call G_is_word tk (hr.mono (by decide)) (by rfl) (T.g_is_word) K_is_word B_is_word (sa_cons (se_var (i := 0)) sa_nil))) (se_var (i := 0)) (se_call G_read_whole tk (hr.mono (by decide)) (by rfl) (T.g_read_whole) K_read_whole B_read_whole (sa_cons (se_var (i := 0)) sa_nil))))))
/-! ### pieces_of -/
def m_pieces_of : MS :=
  (sSeq (sPar 1 2 (mCons (mLst mNil) (mCons (mC (.int 0)) mNil)))
    (sSeq (sFor (mSrcA (one1 srcEnS) (mCons (mVar 0) mNil)) (gtTup (gtLen 2 (gtCons (gtName 3) (gtCons (gtName 4) gtNil))))
    (sIf (mTst (mOp fIn (mVar 4) (mC (.str "[],")))) (sSeq (sIf (mTst (mOp fLt (mVar 2) (mVar 3))) (sExpr (mMt tyLst fAppend (mVar 1) (mCons (mSl fSl (mVar 0) (mPart (mVar 2)) (mPart (mVar 3))) mNil))) sNext)
    (sSeq (sExpr (mMt tyLst fAppend (mVar 1) (mCons (mVar 4) mNil)))
    (sSet 2 (mOp fAdd (mVar 3) (mC (.int 1)))))) sNext))
    (sRet (mOp fAdd (mVar 1) (mIf (mTst (mOp fLt (mVar 2) (mCB fLen (mCons (mVar 0) mNil)))) (mLst (mCons (mSl fSl (mVar 0) (mPart (mVar 2)) mNoPart) mNil)) (mLst mNil))))))
def F_pieces_of : FA := (runDef 5 m_pieces_of)
def L_pieces_of : Nat := 0 + 1
theorem sc_pieces_of : FnScope ["text", "found", "start", "place", "sign"] ["text"] (defScope (top 18)) := ⟨rfl, rfl, rfl, by decide +kernel, rfl, by decide +kernel, by decide +kernel⟩
theorem ok_pieces_of (T : Tz w K mg base) : OkF P w K mg base d_pieces_of L_pieces_of ["text"] F_pieces_of := by
  obtain ⟨fd, F⟩ := T.def_ 7 (d := d_pieces_of) rfl
  refine ⟨fd, (ok_def F sc_pieces_of fun cdv A outer s H E hr => ?_), FunD.bindsN F fun _ _ _ _ _ _ us hl => match us, hl with | [_], _ => rfl, F.kp⟩
  have tk : Takes (cxOf (L2.CX P w) P w K mg base ["text", "found", "start", "place", "sign"] d_pieces_of.qual d_pieces_of.scope (He.fAd K d_pieces_of.at_) cdv A outer s H E) (fun cls d _ H => E cls d H) := takes_of rfl rfl rfl rfl
  have hp : PassesOwn (model P w) (cxOf (L2.CX P w) P w K mg base ["text", "found", "start", "place", "sign"] d_pieces_of.qual d_pieces_of.scope (He.fAd K d_pieces_of.at_) cdv A outer s H E).A (cxOf (L2.CX P w) P w K mg base ["text", "found", "start", "place", "sign"] d_pieces_of.qual d_pieces_of.scope (He.fAd K d_pieces_of.at_) cdv A outer s H E).env (cxOf (L2.CX P w) P w K mg base ["text", "found", "start", "place", "sign"] d_pieces_of.qual d_pieces_of.scope (He.fAd K d_pieces_of.at_) cdv A outer s H E).xe := passes_of rfl
  have nd := sc_pieces_of.nd
  have hu := hr.units
  have hu1 : (A.deeper (envOfC d_pieces_of.qual d_pieces_of.scope s.heap.objs.size (He.fAd K d_pieces_of.at_) cdv)).units + 65 < cLine := by have := hr.un; omega
  exact (ss_cons (ss_par (i := 1) (j := 2) rfl nd (sa_cons (se_lst sa_nil) (sa_cons se_int sa_nil)))
    (ss_cons (ss_for hp rfl (si_enumS (by rfl) T.f_enumerate (sa_cons (se_var (i := 0)) sa_nil)) (sg_tup rfl (sgs_cons (W := W0) (sg_name (W := W0) (i := 3) nd) (sgs_cons (W := W0) (sg_name (W := W0) (i := 4) nd) (sgs_nil (W := W0)))))
    (ss_one (ss_if (st_cmp (o_in hu1) (s_in _) (se_var (i := 4)) se_str (by rfl)) (ss_cons (ss_if (st_cmp o_lt (s_lt _) (se_var (i := 2)) (se_var (i := 3)) (nomark _)) (ss_one (ss_expr (se_bm PySem.F.plainAttrs_list PySem.F.slot_list_append PySem.F.type_list_append mt_append (ty_lst _) (m_append _) (se_var (i := 1)) (sa_cons (se_slice o_sl (s_sl _) (se_var (i := 0)) (so_some (se_var (i := 2))) (so_some (se_var (i := 3)))) sa_nil)))) ss_nil)
    (ss_cons (ss_expr (se_bm PySem.F.plainAttrs_list PySem.F.slot_list_append PySem.F.type_list_append mt_append (ty_lst _) (m_append _) (se_var (i := 1)) (sa_cons (se_var (i := 4)) sa_nil)))
    (ss_one (ss_set (i := 2) nd (se_op o_add (s_add _) (se_var (i := 3)) se_int))))) ss_nil)))
    (ss_one (ss_ret (se_op o_add (s_add _) (se_var (i := 1)) (se_if (st_cmp o_lt (s_lt _) (se_var (i := 2)) (se_callB c_len (s_len _) (by rfl) T.f_len (by decide +kernel) (sa_cons (se_var (i := 0)) sa_nil)) (nomark _)) (se_lst (sa_cons (se_slice o_sl (s_sl _) (se_var (i := 0)) (so_some (se_var (i := 2))) so_none) sa_nil)) (se_lst sa_nil)))))))
/-! ### DataReader___init__ -/
def m_DataReader___init__ : MS :=
  (sSeq (sFldSet "DataReader" "tuples" (mVar 0) (mLst mNil))
    (sSeq (sFldSet "DataReader" "ready" (mVar 0) (mC (.bl true)))
    (sFldSet "DataReader" "told" (mVar 0) (mLst mNil))))
def F_DataReader___init__ : FA := (runDef 1 m_DataReader___init__)
def L_DataReader___init__ : Nat := 0 + 1
theorem sc_DataReader___init__ : FnScope ["self"] ["self"] (defScope (inClass (top 19) 0)) := ⟨rfl, rfl, rfl, by decide +kernel, rfl, by decide +kernel, by decide +kernel⟩
theorem ok_DataReader___init__ (T : Tz w K mg base) : OkF P w K mg base d_DataReader___init__ L_DataReader___init__ ["self"] F_DataReader___init__ := by
  obtain ⟨fd, F⟩ := T.def_ 8 (d := d_DataReader___init__) rfl
  refine ⟨fd, (ok_def F sc_DataReader___init__ fun cdv A outer s H E hr => ?_), FunD.bindsN F fun _ _ _ _ _ _ us hl => match us, hl with | [_], _ => rfl, F.kp⟩
  have tk : Takes (cxOf (L2.CX P w) P w K mg base ["self"] d_DataReader___init__.qual d_DataReader___init__.scope (He.fAd K d_DataReader___init__.at_) cdv A outer s H E) (fun cls d _ H => E cls d H) := takes_of rfl rfl rfl rfl
  have hp : PassesOwn (model P w) (cxOf (L2.CX P w) P w K mg base ["self"] d_DataReader___init__.qual d_DataReader___init__.scope (He.fAd K d_DataReader___init__.at_) cdv A outer s H E).A (cxOf (L2.CX P w) P w K mg base ["self"] d_DataReader___init__.qual d_DataReader___init__.scope (He.fAd K d_DataReader___init__.at_) cdv A outer s H E).env (cxOf (L2.CX P w) P w K mg base ["self"] d_DataReader___init__.qual d_DataReader___init__.scope (He.fAd K d_DataReader___init__.at_) cdv A outer s H E).xe := passes_of rfl
  have nd := sc_DataReader___init__.nd
  have hu := hr.units
  have hu1 : (A.deeper (envOfC d_DataReader___init__.qual d_DataReader___init__.scope s.heap.objs.size (He.fAd K d_DataReader___init__.at_) cdv)).units + 65 < cLine := by have := hr.un; omega
  exact (ss_cons (ss_fld T.cls_DataReader T.na_DataReader_tuples (se_var (i := 0)) (se_lst sa_nil))
    (ss_cons (ss_fld T.cls_DataReader T.na_DataReader_ready (se_var (i := 0)) se_bl)
    (ss_one (ss_fld T.cls_DataReader T.na_DataReader_told (se_var (i := 0)) (se_lst sa_nil)))))
/-! ### DataReader_item -/
def m_DataReader_item : MS :=
  (sSeq (sIf (mNot (mTst (mFld "DataReader" "ready" (mVar 0)))) (sRaise "Malformed") sNext)
    (sSeq (sIf (mTst (mOp fGt (mCB fLen (mCons (mFld "DataReader" "tuples" (mVar 0)) mNil)) (mC (.int 0)))) (sExpr (mMt tyLst fAppend (mOp fIx (mFld "DataReader" "tuples" (mVar 0)) (mUn fNeg (mC (.int 1)))) (mCons (mVar 1) mNil))) (sExpr (mMt tyLst fAppend (mFld "DataReader" "told" (mVar 0)) (mCons (mVar 1) mNil))))
    (sFldSet "DataReader" "ready" (mVar 0) (mC (.bl false)))))
def F_DataReader_item : FA := (runDef 2 m_DataReader_item)
def L_DataReader_item : Nat := 0 + 1
theorem sc_DataReader_item : FnScope ["self", "value"] ["self", "value"] (defScope (inClass (top 19) 1)) := ⟨rfl, rfl, rfl, by decide +kernel, rfl, by decide +kernel, by decide +kernel⟩
theorem ok_DataReader_item (T : Tz w K mg base) : OkF P w K mg base d_DataReader_item L_DataReader_item ["self", "value"] F_DataReader_item := by
  obtain ⟨fd, F⟩ := T.def_ 9 (d := d_DataReader_item) rfl
  refine ⟨fd, (ok_def F sc_DataReader_item fun cdv A outer s H E hr => ?_), FunD.bindsN F fun _ _ _ _ _ _ us hl => match us, hl with | [_, _], _ => rfl, F.kp⟩
  have tk : Takes (cxOf (L2.CX P w) P w K mg base ["self", "value"] d_DataReader_item.qual d_DataReader_item.scope (He.fAd K d_DataReader_item.at_) cdv A outer s H E) (fun cls d _ H => E cls d H) := takes_of rfl rfl rfl rfl
  have hp : PassesOwn (model P w) (cxOf (L2.CX P w) P w K mg base ["self", "value"] d_DataReader_item.qual d_DataReader_item.scope (He.fAd K d_DataReader_item.at_) cdv A outer s H E).A (cxOf (L2.CX P w) P w K mg base ["self", "value"] d_DataReader_item.qual d_DataReader_item.scope (He.fAd K d_DataReader_item.at_) cdv A outer s H E).env (cxOf (L2.CX P w) P w K mg base ["self", "value"] d_DataReader_item.qual d_DataReader_item.scope (He.fAd K d_DataReader_item.at_) cdv A outer s H E).xe := passes_of rfl
  have nd := sc_DataReader_item.nd
  have hu := hr.units
  have hu1 : (A.deeper (envOfC d_DataReader_item.qual d_DataReader_item.scope s.heap.objs.size (He.fAd K d_DataReader_item.at_) cdv)).units + 65 < cLine := by have := hr.un; omega
  exact (ss_cons (ss_if (st_not (st_val (se_fld (T.cls_DataReader) (T.na_DataReader_ready) (se_var (i := 0))))) (ss_one (ss_raise rfl tk (T.ex_Malformed.pmk (T.g_Malformed) (by rfl)))) ss_nil)
    (ss_cons (ss_if (st_cmp o_gt (s_gt _) (se_callB c_len (s_len _) (by rfl) T.f_len (by decide +kernel) (sa_cons (se_fld (T.cls_DataReader) (T.na_DataReader_tuples) (se_var (i := 0))) sa_nil)) se_int (nomark _)) (ss_one (ss_expr (se_bm PySem.F.plainAttrs_list PySem.F.slot_list_append PySem.F.type_list_append mt_append (ty_lst _) (m_append _) (se_ix ix_seq (s_ix _) (se_fld (T.cls_DataReader) (T.na_DataReader_tuples) (se_var (i := 0))) (se_un un_neg (s_neg _) se_int) (fun _ _ => rfl)) (sa_cons (se_var (i := 1)) sa_nil)))) (ss_one (ss_expr (se_bm PySem.F.plainAttrs_list PySem.F.slot_list_append PySem.F.type_list_append mt_append (ty_lst _) (m_append _) (se_fld (T.cls_DataReader) (T.na_DataReader_told) (se_var (i := 0))) (sa_cons (se_var (i := 1)) sa_nil)))))
    (ss_one (ss_fld T.cls_DataReader T.na_DataReader_ready (se_var (i := 0)) se_bl))))
/-! ### DataReader_open_one -/
def m_DataReader_open_one : MS :=
  (sSeq (sIf (mOr (mNot (mTst (mFld "DataReader" "ready" (mVar 0)))) (mTst (mOp fGe (mCB fLen (mCons (mFld "DataReader" "tuples" (mVar 0)) mNil)) (mC (.int 1000))))) (sRaise "Malformed") sNext)
    (sExpr (mMt tyLst fAppend (mFld "DataReader" "tuples" (mVar 0)) (mCons (mLst mNil) mNil))))
def F_DataReader_open_one : FA := (runDef 1 m_DataReader_open_one)
def L_DataReader_open_one : Nat := 0 + 1
theorem sc_DataReader_open_one : FnScope ["self"] ["self"] (defScope (inClass (top 19) 2)) := ⟨rfl, rfl, rfl, by decide +kernel, rfl, by decide +kernel, by decide +kernel⟩
theorem ok_DataReader_open_one (T : Tz w K mg base) : OkF P w K mg base d_DataReader_open_one L_DataReader_open_one ["self"] F_DataReader_open_one := by
  obtain ⟨fd, F⟩ := T.def_ 10 (d := d_DataReader_open_one) rfl
  refine ⟨fd, (ok_def F sc_DataReader_open_one fun cdv A outer s H E hr => ?_), FunD.bindsN F fun _ _ _ _ _ _ us hl => match us, hl with | [_], _ => rfl, F.kp⟩
  have tk : Takes (cxOf (L2.CX P w) P w K mg base ["self"] d_DataReader_open_one.qual d_DataReader_open_one.scope (He.fAd K d_DataReader_open_one.at_) cdv A outer s H E) (fun cls d _ H => E cls d H) := takes_of rfl rfl rfl rfl
  have hp : PassesOwn (model P w) (cxOf (L2.CX P w) P w K mg base ["self"] d_DataReader_open_one.qual d_DataReader_open_one.scope (He.fAd K d_DataReader_open_one.at_) cdv A outer s H E).A (cxOf (L2.CX P w) P w K mg base ["self"] d_DataReader_open_one.qual d_DataReader_open_one.scope (He.fAd K d_DataReader_open_one.at_) cdv A outer s H E).env (cxOf (L2.CX P w) P w K mg base ["self"] d_DataReader_open_one.qual d_DataReader_open_one.scope (He.fAd K d_DataReader_open_one.at_) cdv A outer s H E).xe := passes_of rfl
  have nd := sc_DataReader_open_one.nd
  have hu := hr.units
  have hu1 : (A.deeper (envOfC d_DataReader_open_one.qual d_DataReader_open_one.scope s.heap.objs.size (He.fAd K d_DataReader_open_one.at_) cdv)).units + 65 < cLine := by have := hr.un; omega
  exact (ss_cons (ss_if (st_w (sw_or (st_not (st_val (se_fld (T.cls_DataReader) (T.na_DataReader_ready) (se_var (i := 0))))) (sw_or1 (st_cmp o_ge (s_ge _) (se_callB c_len (s_len _) (by rfl) T.f_len (by decide +kernel) (sa_cons (se_fld (T.cls_DataReader) (T.na_DataReader_tuples) (se_var (i := 0))) sa_nil)) (se_gint (by rfl) T.c_MOST_DEPTH) (nomark _))))) (ss_one (ss_raise rfl tk (T.ex_Malformed.pmk (T.g_Malformed) (by rfl)))) ss_nil)
    (ss_one (ss_expr (se_bm PySem.F.plainAttrs_list PySem.F.slot_list_append PySem.F.type_list_append mt_append (ty_lst _) (m_append _) (se_fld (T.cls_DataReader) (T.na_DataReader_tuples) (se_var (i := 0))) (sa_cons (se_lst sa_nil) sa_nil)))))
/-! ### DataReader_close_one -/
def m_DataReader_close_one : MS :=
  (sSeq (sIf (mOr (mTst (mOp fEq (mCB fLen (mCons (mFld "DataReader" "tuples" (mVar 0)) mNil)) (mC (.int 0)))) (mAnd (mTst (mFld "DataReader" "ready" (mVar 0))) (mTst (mOp fGt (mCB fLen (mCons (mOp fIx (mFld "DataReader" "tuples" (mVar 0)) (mUn fNeg (mC (.int 1)))) mNil)) (mC (.int 0)))))) (sRaise "Malformed") sNext)
    (sSeq (sSet 1 (mCB (overI fTuple) (mCons (mMt tyLst fPop (mFld "DataReader" "tuples" (mVar 0)) mNil) mNil)))
    (sSeq (sFldSet "DataReader" "ready" (mVar 0) (mC (.bl true)))
    (sExpr (mMeth "DataReader" "item" 2 F_DataReader_item (mVar 0) (mCons (mVar 1) mNil))))))
def F_DataReader_close_one : FA := (runDef 2 m_DataReader_close_one)
def L_DataReader_close_one : Nat := (Nat.max L_DataReader_item 0) + 1
theorem sc_DataReader_close_one : FnScope ["self", "found"] ["self"] (defScope (inClass (top 19) 3)) := ⟨rfl, rfl, rfl, by decide +kernel, rfl, by decide +kernel, by decide +kernel⟩
theorem ok_DataReader_close_one (T : Tz w K mg base) : OkF P w K mg base d_DataReader_close_one L_DataReader_close_one ["self"] F_DataReader_close_one := by
  obtain ⟨fd_DataReader_item, G_DataReader_item, B_DataReader_item, K_DataReader_item⟩ := ok_DataReader_item (P := P) T
  obtain ⟨fd, F⟩ := T.def_ 11 (d := d_DataReader_close_one) rfl
  refine ⟨fd, (ok_def F sc_DataReader_close_one fun cdv A outer s H E hr => ?_), FunD.bindsN F fun _ _ _ _ _ _ us hl => match us, hl with | [_], _ => rfl, F.kp⟩
  have tk : Takes (cxOf (L2.CX P w) P w K mg base ["self", "found"] d_DataReader_close_one.qual d_DataReader_close_one.scope (He.fAd K d_DataReader_close_one.at_) cdv A outer s H E) (fun cls d _ H => E cls d H) := takes_of rfl rfl rfl rfl
  have hp : PassesOwn (model P w) (cxOf (L2.CX P w) P w K mg base ["self", "found"] d_DataReader_close_one.qual d_DataReader_close_one.scope (He.fAd K d_DataReader_close_one.at_) cdv A outer s H E).A (cxOf (L2.CX P w) P w K mg base ["self", "found"] d_DataReader_close_one.qual d_DataReader_close_one.scope (He.fAd K d_DataReader_close_one.at_) cdv A outer s H E).env (cxOf (L2.CX P w) P w K mg base ["self", "found"] d_DataReader_close_one.qual d_DataReader_close_one.scope (He.fAd K d_DataReader_close_one.at_) cdv A outer s H E).xe := passes_of rfl
  have nd := sc_DataReader_close_one.nd
  have hu := hr.units
  have hu1 : (A.deeper (envOfC d_DataReader_close_one.qual d_DataReader_close_one.scope s.heap.objs.size (He.fAd K d_DataReader_close_one.at_) cdv)).units + 65 < cLine := by have := hr.un; omega
  exact (ss_cons (ss_if (st_w (sw_or (st_cmp (o_eq hu) (s_eq _) (se_callB c_len (s_len _) (by rfl) T.f_len (by decide +kernel) (sa_cons (se_fld (T.cls_DataReader) (T.na_DataReader_tuples) (se_var (i := 0))) sa_nil)) se_int (nomark _)) (sw_or1 (st_w (sw_and (st_val (se_fld (T.cls_DataReader) (T.na_DataReader_ready) (se_var (i := 0)))) (sw_and1 (st_cmp o_gt (s_gt _) (se_callB c_len (s_len _) (by rfl) T.f_len (by decide +kernel) (sa_cons (se_ix ix_seq (s_ix _) (se_fld (T.cls_DataReader) (T.na_DataReader_tuples) (se_var (i := 0))) (se_un un_neg (s_neg _) se_int) (fun _ _ => rfl)) sa_nil)) se_int (nomark _)))))))) (ss_one (ss_raise rfl tk (T.ex_Malformed.pmk (T.g_Malformed) (by rfl)))) ss_nil)
    (ss_cons (ss_set (i := 1) nd (se_callTy call_tuple_of (overI_sim (i_tuple _) (it_tuple _)) (by rfl) T.f_tuple (by decide +kernel) (sa_cons (se_bm0 PySem.F.plainAttrs_list PySem.F.slot_list_pop PySem.F.type_list_pop mt_pop (ty_lst _) (m_pop _) (se_fld (T.cls_DataReader) (T.na_DataReader_tuples) (se_var (i := 0)))) sa_nil)))
    (ss_cons (ss_fld T.cls_DataReader T.na_DataReader_ready (se_var (i := 0)) se_bl)
    (ss_one (ss_expr (se_meth T.cls_DataReader T.mt_DataReader_item G_DataReader_item tk (hr.mono (by decide)) B_DataReader_item (se_var (i := 0)) (sa_cons (se_var (i := 1)) sa_nil)))))))
/-! ### DataReader_comma -/
def m_DataReader_comma : MS :=
  (sSeq (sIf (mOr (mTst (mFld "DataReader" "ready" (mVar 0))) (mTst (mOp fEq (mCB fLen (mCons (mFld "DataReader" "tuples" (mVar 0)) mNil)) (mC (.int 0))))) (sRaise "Malformed") sNext)
    (sFldSet "DataReader" "ready" (mVar 0) (mC (.bl true))))
def F_DataReader_comma : FA := (runDef 1 m_DataReader_comma)
def L_DataReader_comma : Nat := 0 + 1
theorem sc_DataReader_comma : FnScope ["self"] ["self"] (defScope (inClass (top 19) 4)) := ⟨rfl, rfl, rfl, by decide +kernel, rfl, by decide +kernel, by decide +kernel⟩
theorem ok_DataReader_comma (T : Tz w K mg base) : OkF P w K mg base d_DataReader_comma L_DataReader_comma ["self"] F_DataReader_comma := by
  obtain ⟨fd, F⟩ := T.def_ 12 (d := d_DataReader_comma) rfl
  refine ⟨fd, (ok_def F sc_DataReader_comma fun cdv A outer s H E hr => ?_), FunD.bindsN F fun _ _ _ _ _ _ us hl => match us, hl with | [_], _ => rfl, F.kp⟩
  have tk : Takes (cxOf (L2.CX P w) P w K mg base ["self"] d_DataReader_comma.qual d_DataReader_comma.scope (He.fAd K d_DataReader_comma.at_) cdv A outer s H E) (fun cls d _ H => E cls d H) := takes_of rfl rfl rfl rfl
  have hp : PassesOwn (model P w) (cxOf (L2.CX P w) P w K mg base ["self"] d_DataReader_comma.qual d_DataReader_comma.scope (He.fAd K d_DataReader_comma.at_) cdv A outer s H E).A (cxOf (L2.CX P w) P w K mg base ["self"] d_DataReader_comma.qual d_DataReader_comma.scope (He.fAd K d_DataReader_comma.at_) cdv A outer s H E).env (cxOf (L2.CX P w) P w K mg base ["self"] d_DataReader_comma.qual d_DataReader_comma.scope (He.fAd K d_DataReader_comma.at_) cdv A outer s H E).xe := passes_of rfl
  have nd := sc_DataReader_comma.nd
  have hu := hr.units
  have hu1 : (A.deeper (envOfC d_DataReader_comma.qual d_DataReader_comma.scope s.heap.objs.size (He.fAd K d_DataReader_comma.at_) cdv)).units + 65 < cLine := by have := hr.un; omega
  exact (ss_cons (ss_if (st_w (sw_or (st_val (se_fld (T.cls_DataReader) (T.na_DataReader_ready) (se_var (i := 0)))) (sw_or1 (st_cmp (o_eq hu) (s_eq _) (se_callB c_len (s_len _) (by rfl) T.f_len (by decide +kernel) (sa_cons (se_fld (T.cls_DataReader) (T.na_DataReader_tuples) (se_var (i := 0))) sa_nil)) se_int (nomark _))))) (ss_one (ss_raise rfl tk (T.ex_Malformed.pmk (T.g_Malformed) (by rfl)))) ss_nil)
    (ss_one (ss_fld T.cls_DataReader T.na_DataReader_ready (se_var (i := 0)) se_bl)))
/-! ### DataReader_take -/
def m_DataReader_take : MS :=
  (sIf (mTst (mOp fEq (mVar 1) (mC (.str "[")))) (sExpr (mMeth "DataReader" "open_one" 1 F_DataReader_open_one (mVar 0) mNil)) (sIf (mTst (mOp fEq (mVar 1) (mC (.str "]")))) (sExpr (mMeth "DataReader" "close_one" 1 F_DataReader_close_one (mVar 0) mNil)) (sIf (mTst (mOp fEq (mVar 1) (mC (.str ",")))) (sExpr (mMeth "DataReader" "comma" 1 F_DataReader_comma (mVar 0) mNil)) (sExpr (mMeth "DataReader" "item" 2 F_DataReader_item (mVar 0) (mCons (mCall 1 F_read_atom (mCons (mVar 1) mNil)) mNil))))))
def F_DataReader_take : FA := (runDef 2 m_DataReader_take)
def L_DataReader_take : Nat := (Nat.max L_read_atom (Nat.max L_DataReader_item (Nat.max L_DataReader_comma (Nat.max L_DataReader_close_one (Nat.max L_DataReader_open_one 0))))) + 1
theorem sc_DataReader_take : FnScope ["self", "piece"] ["self", "piece"] (defScope (inClass (top 19) 5)) := ⟨rfl, rfl, rfl, by decide +kernel, rfl, by decide +kernel, by decide +kernel⟩
theorem ok_DataReader_take (T : Tz w K mg base) : OkF P w K mg base d_DataReader_take L_DataReader_take ["self", "piece"] F_DataReader_take := by
  obtain ⟨fd_DataReader_open_one, G_DataReader_open_one, B_DataReader_open_one, K_DataReader_open_one⟩ := ok_DataReader_open_one (P := P) T
  obtain ⟨fd_DataReader_close_one, G_DataReader_close_one, B_DataReader_close_one, K_DataReader_close_one⟩ := ok_DataReader_close_one (P := P) T
  obtain ⟨fd_DataReader_comma, G_DataReader_comma, B_DataReader_comma, K_DataReader_comma⟩ := ok_DataReader_comma (P := P) T
  obtain ⟨fd_DataReader_item, G_DataReader_item, B_DataReader_item, K_DataReader_item⟩ := ok_DataReader_item (P := P) T
  obtain ⟨fd_read_atom, G_read_atom, B_read_atom, K_read_atom⟩ := ok_read_atom (P := P) T
  obtain ⟨fd, F⟩ := T.def_ 13 (d := d_DataReader_take) rfl
  refine ⟨fd, (ok_def F sc_DataReader_take fun cdv A outer s H E hr => ?_), FunD.bindsN F fun _ _ _ _ _ _ us hl => match us, hl with | [_, _], _ => rfl, F.kp⟩
  have tk : Takes (cxOf (L2.CX P w) P w K mg base ["self", "piece"] d_DataReader_take.qual d_DataReader_take.scope (He.fAd K d_DataReader_take.at_) cdv A outer s H E) (fun cls d _ H => E cls d H) := takes_of rfl rfl rfl rfl
  have hp : PassesOwn (model P w) (cxOf (L2.CX P w) P w K mg base ["self", "piece"] d_DataReader_take.qual d_DataReader_take.scope (He.fAd K d_DataReader_take.at_) cdv A outer s H E).A (cxOf (L2.CX P w) P w K mg base ["self", "piece"] d_DataReader_take.qual d_DataReader_take.scope (He.fAd K d_DataReader_take.at_) cdv A outer s H E).env (cxOf (L2.CX P w) P w K mg base ["self", "piece"] d_DataReader_take.qual d_DataReader_take.scope (He.fAd K d_DataReader_take.at_) cdv A outer s H E).xe := passes_of rfl
  have nd := sc_DataReader_take.nd
  have hu := hr.units
  have hu1 : (A.deeper (envOfC d_DataReader_take.qual d_DataReader_take.scope s.heap.objs.size (He.fAd K d_DataReader_take.at_) cdv)).units + 65 < cLine := by have := hr.un; omega
  exact (ss_one (ss_if (st_cmp (o_eq hu) (s_eq _) (se_var (i := 1)) se_str (nomark _)) (ss_one (ss_expr (se_meth0 T.cls_DataReader T.mt_DataReader_open_one G_DataReader_open_one tk (hr.mono (by decide)) B_DataReader_open_one (se_var (i := 0))))) (ss_one (ss_if (st_cmp (o_eq hu) (s_eq _) (se_var (i := 1)) se_str (nomark _)) (ss_one (ss_expr (se_meth0 T.cls_DataReader T.mt_DataReader_close_one G_DataReader_close_one tk (hr.mono (by decide)) B_DataReader_close_one (se_var (i := 0))))) (ss_one (ss_if (st_cmp (o_eq hu) (s_eq _) (se_var (i := 1)) se_str (nomark _)) (ss_one (ss_expr (se_meth0 T.cls_DataReader T.mt_DataReader_comma G_DataReader_comma tk (hr.mono (by decide)) B_DataReader_comma (se_var (i := 0))))) (ss_one (ss_expr (se_meth T.cls_DataReader T.mt_DataReader_item G_DataReader_item tk (hr.mono (by decide)) B_DataReader_item (se_var (i := 0)) (sa_cons (se_call G_read_atom tk (hr.mono (by decide)) (by rfl) (T.g_read_atom) K_read_atom B_read_atom (sa_cons (se_var (i := 1)) sa_nil)) sa_nil))))))))))
/-! ### read_data -/
def m_read_data : MS :=
  (sSeq (sIf (mNot (mTst (mCB fIsi (mCons (mVar 0) (mCons (mC (.ty "str")) mNil))))) (sRaise "Malformed") sNext)
    (sSeq (sSet 1 (mMake "DataReader" 1 F_DataReader___init__ mNil))
    (sSeq (sFor (mSrc srcL (mCall 1 F_pieces_of (mCons (mVar 0) mNil))) (gtName 2)
    (sExpr (mMeth "DataReader" "take" 2 F_DataReader_take (mVar 1) (mCons (mVar 2) mNil))))
    (sSeq (sIf (mOr (mTst (mOp fGt (mCB fLen (mCons (mFld "DataReader" "tuples" (mVar 1)) mNil)) (mC (.int 0)))) (mTst (mOp fNe (mCB fLen (mCons (mFld "DataReader" "told" (mVar 1)) mNil)) (mC (.int 1))))) (sRaise "Malformed") sNext)
    (sRet (mOp fIx (mFld "DataReader" "told" (mVar 1)) (mC (.int 0))))))))
def F_read_data : FA := pureOr (runDef 3 m_read_data)
def L_read_data : Nat := (Nat.max L_DataReader_take (Nat.max L_pieces_of (Nat.max (L_DataReader___init__ + 1) 0))) + 1
theorem sc_read_data : FnScope ["text", "reader", "piece"] ["text"] (defScope (top 20)) := ⟨rfl, rfl, rfl, by decide +kernel, rfl, by decide +kernel, by decide +kernel⟩
theorem ok_read_data (T : Tz w K mg base) : OkF P w K mg base d_read_data L_read_data ["text"] F_read_data := by
  obtain ⟨fd_DataReader___init__, G_DataReader___init__, B_DataReader___init__, K_DataReader___init__⟩ := ok_DataReader___init__ (P := P) T
  obtain ⟨fd_pieces_of, G_pieces_of, B_pieces_of, K_pieces_of⟩ := ok_pieces_of (P := P) T
  obtain ⟨fd_DataReader_take, G_DataReader_take, B_DataReader_take, K_DataReader_take⟩ := ok_DataReader_take (P := P) T
  obtain ⟨fd, F⟩ := T.def_ 14 (d := d_read_data) rfl
  refine ⟨fd, ((ok_def F sc_read_data fun cdv A outer s H E hr => ?_)).imp fun _ _ _ _ => pureOr_sp, FunD.bindsN F fun _ _ _ _ _ _ us hl => match us, hl with | [_], _ => rfl, F.kp⟩
  have tk : Takes (cxOf (L2.CX P w) P w K mg base ["text", "reader", "piece"] d_read_data.qual d_read_data.scope (He.fAd K d_read_data.at_) cdv A outer s H E) (fun cls d _ H => E cls d H) := takes_of rfl rfl rfl rfl
  have hp : PassesOwn (model P w) (cxOf (L2.CX P w) P w K mg base ["text", "reader", "piece"] d_read_data.qual d_read_data.scope (He.fAd K d_read_data.at_) cdv A outer s H E).A (cxOf (L2.CX P w) P w K mg base ["text", "reader", "piece"] d_read_data.qual d_read_data.scope (He.fAd K d_read_data.at_) cdv A outer s H E).env (cxOf (L2.CX P w) P w K mg base ["text", "reader", "piece"] d_read_data.qual d_read_data.scope (He.fAd K d_read_data.at_) cdv A outer s H E).xe := passes_of rfl
  have nd := sc_read_data.nd
  have hu := hr.units
  have hu1 : (A.deeper (envOfC d_read_data.qual d_read_data.scope s.heap.objs.size (He.fAd K d_read_data.at_) cdv)).units + 65 < cLine := by have := hr.un; omega
  exact (ss_cons (ss_if (st_not (st_val (se_callB call_isi (s_isi _) (by rfl) T.f_isinstance (by decide +kernel) (sa_cons (se_var (i := 0)) (sa_cons (se_ty (by rfl) T.f_str (by decide +kernel)) sa_nil))))) (ss_one (ss_raise rfl tk (T.ex_Malformed.pmk (T.g_Malformed) (by rfl)))) ss_nil)
    (ss_cons (ss_set (i := 1) nd (se_make0 T.mk_DataReader G_DataReader___init__ (hr.mono (by decide)) (by rfl) (T.g_DataReader) B_DataReader___init__))
    (ss_cons (ss_for hp rfl (si_list (se_call G_pieces_of tk (hr.mono (by decide)) (by rfl) (T.g_pieces_of) K_pieces_of B_pieces_of (sa_cons (se_var (i := 0)) sa_nil))) (sg_name (i := 2) nd)
    (ss_one (ss_expr (se_meth T.cls_DataReader T.mt_DataReader_take G_DataReader_take tk (hr.mono (by decide)) B_DataReader_take (se_var (i := 1)) (sa_cons (se_var (i := 2)) sa_nil)))))
    (ss_cons (ss_if (st_w (sw_or (st_cmp o_gt (s_gt _) (se_callB c_len (s_len _) (by rfl) T.f_len (by decide +kernel) (sa_cons (se_fld (T.cls_DataReader) (T.na_DataReader_tuples) (se_var (i := 1))) sa_nil)) se_int (nomark _)) (sw_or1 (st_cmp (o_ne hu) (s_ne _) (se_callB c_len (s_len _) (by rfl) T.f_len (by decide +kernel) (sa_cons (se_fld (T.cls_DataReader) (T.na_DataReader_told) (se_var (i := 1))) sa_nil)) se_int (nomark _))))) (ss_one (ss_raise rfl tk (T.ex_Malformed.pmk (T.g_Malformed) (by rfl)))) ss_nil)
    (ss_one (ss_ret (se_ix ix_seq (s_ix _) (se_fld (T.cls_DataReader) (T.na_DataReader_told) (se_var (i := 1))) se_int (fun _ _ => rfl))))))))
/-! ### _law_draw -/
def m__law_draw : MS :=
  (sSeq (sSet 1 (mC (.int 7)))
    (sSeq (sFor (mSrc srcL (mSl fSl (mVar 0) mNoPart (mPart (mC (.int 63))))) (gtName 2)
    (sSet 1 (mOp fAdd (mOp fMod (mCB fIntN (mCons (mOp fAdd (mOp fMul (mVar 1) (mC (.int 48271))) (mVar 2)) mNil)) (mC (.int 2147483629))) (mC (.int 1)))))
    (sRet (mLst (mCons (mNew (mLcI (mSrc srcL (mSl fSl (mVar 0) mNoPart (mPart (mC (.int 63))))) [2] (gtName 2) tYesD (mCB fAbs (mCons (mCB fIntN (mCons (mVar 2) mNil)) mNil)))) (mCons (mC (.int 0)) (mCons (mC (.int 0)) (mCons (mC (.int 0)) (mCons (mVar 1) (mCons (mC (.int 0)) mNil))))))))))
def F__law_draw : FA := (runDef 3 m__law_draw)
def L__law_draw : Nat := 0 + 1
theorem sc__law_draw : FnScope ["script", "seed", "cell"] ["script"] (defScope (top 22)) := ⟨rfl, rfl, rfl, by decide +kernel, rfl, by decide +kernel, by decide +kernel⟩
theorem ok__law_draw (T : Tz w K mg base) : OkF P w K mg base d__law_draw L__law_draw ["script"] F__law_draw := by
  obtain ⟨fd, F⟩ := T.def_ 15 (d := d__law_draw) rfl
  refine ⟨fd, (ok_def F sc__law_draw fun cdv A outer s H E hr => ?_), FunD.bindsN F fun _ _ _ _ _ _ us hl => match us, hl with | [_], _ => rfl, F.kp⟩
  have tk : Takes (cxOf (L2.CX P w) P w K mg base ["script", "seed", "cell"] d__law_draw.qual d__law_draw.scope (He.fAd K d__law_draw.at_) cdv A outer s H E) (fun cls d _ H => E cls d H) := takes_of rfl rfl rfl rfl
  have hp : PassesOwn (model P w) (cxOf (L2.CX P w) P w K mg base ["script", "seed", "cell"] d__law_draw.qual d__law_draw.scope (He.fAd K d__law_draw.at_) cdv A outer s H E).A (cxOf (L2.CX P w) P w K mg base ["script", "seed", "cell"] d__law_draw.qual d__law_draw.scope (He.fAd K d__law_draw.at_) cdv A outer s H E).env (cxOf (L2.CX P w) P w K mg base ["script", "seed", "cell"] d__law_draw.qual d__law_draw.scope (He.fAd K d__law_draw.at_) cdv A outer s H E).xe := passes_of rfl
  have nd := sc__law_draw.nd
  have hu := hr.units
  have hu1 : (A.deeper (envOfC d__law_draw.qual d__law_draw.scope s.heap.objs.size (He.fAd K d__law_draw.at_) cdv)).units + 65 < cLine := by have := hr.un; omega
  exact (ss_cons (ss_set (i := 1) nd se_int)
    (ss_cons (ss_for hp rfl (si_list (se_slice o_sl (s_sl _) (se_var (i := 0)) so_none (so_some se_int))) (sg_name (i := 2) nd)
    (ss_one (ss_set (i := 1) nd (se_op o_add (s_add _) (se_op o_mod (s_mod _) (se_callTy (c_intN T.dig) (s_intN _) (by rfl) T.f_int (by decide +kernel) (sa_cons (se_op o_add (s_add _) (se_op o_mul (s_mul _) (se_var (i := 1)) se_int) (se_var (i := 2))) sa_nil)) se_int) se_int))))
    (ss_one (ss_ret (se_lst (sa_cons (se_lc (own := [("cell", 2)]) (is := [2]) rfl nd (si_list (se_slice o_sl (s_sl _) (se_var (i := 0)) so_none (so_some se_int))) (blkOk_by (by rfl)) (by decide) (fun _ _ _ _ _ => (sg_name (i := 2) nd)) (fun _ _ _ _ _ => spt_nil) (fun _ _ _ _ _ => (se_callB call_abs (s_abs _) (by rfl) T.f_abs (by decide +kernel) (sa_cons (se_callTy (c_intN T.dig) (s_intN _) (by rfl) T.f_int (by decide +kernel) (sa_cons (se_var (i := 2)) sa_nil)) sa_nil)))) (sa_cons se_int (sa_cons se_int (sa_cons se_int (sa_cons (se_var (i := 1)) (sa_cons se_int sa_nil)))))))))))
/-! ### _law_take -/
def m__law_take : MS :=
  (sSeq (sIf (mAnd (mTst (mOp fEq (mOp fIx (mVar 0) (mC (.int 3))) (mC (.int 0)))) (mTst (mOp fLt (mOp fIx (mVar 0) (mC (.int 1))) (mCB fLen (mCons (mOp fIx (mVar 0) (mC (.int 0))) mNil))))) (sAsg (mTup (mCons (mOp fIx (mOp fIx (mVar 0) (mC (.int 0))) (mOp fIx (mVar 0) (mC (.int 1)))) (mCons (mC (.int 60)) (mCons (mOp fAdd (mOp fIx (mVar 0) (mC (.int 1))) (mC (.int 1))) mNil)))) (gtTup (gtLen 3 (gtCons (gtSub fSetL (mVar 0) (mC (.int 2))) (gtCons (gtSub fSetL (mVar 0) (mC (.int 3))) (gtCons (gtSub fSetL (mVar 0) (mC (.int 1))) gtNil)))))) sNext)
    (sSeq (sIf (mTst (mOp fGt (mOp fIx (mVar 0) (mC (.int 3))) (mC (.int 0)))) (sSeq (sSet 2 (mOp fMod (mCB fIntN (mCons (mOp fIx (mVar 0) (mC (.int 2))) mNil)) (mVar 1)))
    (sSeq (sAsg (mOp fDiv (mOp fIx (mVar 0) (mC (.int 2))) (mVar 1)) (gtSub fSetL (mVar 0) (mC (.int 2))))
    (sSeq (sAsg (mIf (mTst (mOp fGt (mOp fIx (mVar 0) (mC (.int 2))) (mC (.int 0)))) (mOp fSub (mOp fIx (mVar 0) (mC (.int 3))) (mC (.int 1))) (mC (.int 0))) (gtSub fSetL (mVar 0) (mC (.int 3))))
    (sRet (mVar 2))))) sNext)
    (sSeq (sAsg (mOp fAdd (mOp fIx (mVar 0) (mC (.int 5))) (mC (.int 1))) (gtSub fSetL (mVar 0) (mC (.int 5))))
    (sSeq (sAsg (mOp fMod (mCB fIntN (mCons (mOp fAdd (mOp fAdd (mOp fMul (mOp fIx (mVar 0) (mC (.int 4))) (mC (.int 48271))) (mOp fMul (mOp fMul (mOp fIx (mVar 0) (mC (.int 5))) (mOp fIx (mVar 0) (mC (.int 5)))) (mC (.int 69621)))) (mC (.int 11))) mNil)) (mC (.int 2147483647))) (gtSub fSetL (mVar 0) (mC (.int 4))))
    (sRet (mOp fMod (mCB fIntN (mCons (mOp fDiv (mOp fIx (mVar 0) (mC (.int 4))) (mC (.int 13))) mNil)) (mVar 1)))))))
def F__law_take : FA := (runDef 3 m__law_take)
def L__law_take : Nat := 0 + 1
theorem sc__law_take : FnScope ["draw", "many", "found"] ["draw", "many"] (defScope (top 23)) := ⟨rfl, rfl, rfl, by decide +kernel, rfl, by decide +kernel, by decide +kernel⟩
theorem ok__law_take (T : Tz w K mg base) : OkF P w K mg base d__law_take L__law_take ["draw", "many"] F__law_take := by
  obtain ⟨fd, F⟩ := T.def_ 16 (d := d__law_take) rfl
  refine ⟨fd, (ok_def F sc__law_take fun cdv A outer s H E hr => ?_), FunD.bindsN F fun _ _ _ _ _ _ us hl => match us, hl with | [_, _], _ => rfl, F.kp⟩
  have tk : Takes (cxOf (L2.CX P w) P w K mg base ["draw", "many", "found"] d__law_take.qual d__law_take.scope (He.fAd K d__law_take.at_) cdv A outer s H E) (fun cls d _ H => E cls d H) := takes_of rfl rfl rfl rfl
  have hp : PassesOwn (model P w) (cxOf (L2.CX P w) P w K mg base ["draw", "many", "found"] d__law_take.qual d__law_take.scope (He.fAd K d__law_take.at_) cdv A outer s H E).A (cxOf (L2.CX P w) P w K mg base ["draw", "many", "found"] d__law_take.qual d__law_take.scope (He.fAd K d__law_take.at_) cdv A outer s H E).env (cxOf (L2.CX P w) P w K mg base ["draw", "many", "found"] d__law_take.qual d__law_take.scope (He.fAd K d__law_take.at_) cdv A outer s H E).xe := passes_of rfl
  have nd := sc__law_take.nd
  have hu := hr.units
  have hu1 : (A.deeper (envOfC d__law_take.qual d__law_take.scope s.heap.objs.size (He.fAd K d__law_take.at_) cdv)).units + 65 < cLine := by have := hr.un; omega
  exact (ss_cons (ss_if (st_w (sw_and (st_cmp (o_eq hu) (s_eq _) (se_ix ix_seq (s_ix _) (se_var (i := 0)) se_int (fun _ _ => rfl)) se_int (nomark _)) (sw_and1 (st_cmp o_lt (s_lt _) (se_ix ix_seq (s_ix _) (se_var (i := 0)) se_int (fun _ _ => rfl)) (se_callB c_len (s_len _) (by rfl) T.f_len (by decide +kernel) (sa_cons (se_ix ix_seq (s_ix _) (se_var (i := 0)) se_int (fun _ _ => rfl)) sa_nil)) (nomark _))))) (ss_one (ss_asg (se_tup (sa_cons (se_ix ix_seq (s_ix _) (se_ix ix_seq (s_ix _) (se_var (i := 0)) se_int (fun _ _ => rfl)) (se_ix ix_seq (s_ix _) (se_var (i := 0)) se_int (fun _ _ => rfl)) (fun _ _ => rfl)) (sa_cons se_int (sa_cons (se_op o_add (s_add _) (se_ix ix_seq (s_ix _) (se_var (i := 0)) se_int (fun _ _ => rfl)) se_int) sa_nil)))) (sg_tup rfl (sgs_cons (W := W0) (sg_sub set_list (s_setL _) (se_var (i := 0)) se_int) (sgs_cons (W := W0) (sg_sub set_list (s_setL _) (se_var (i := 0)) se_int) (sgs_cons (W := W0) (sg_sub set_list (s_setL _) (se_var (i := 0)) se_int) (sgs_nil (W := W0)))))))) ss_nil)
    (ss_cons (ss_if (st_cmp o_gt (s_gt _) (se_ix ix_seq (s_ix _) (se_var (i := 0)) se_int (fun _ _ => rfl)) se_int (nomark _)) (ss_cons (ss_set (i := 2) nd (se_op o_mod (s_mod _) (se_callTy (c_intN T.dig) (s_intN _) (by rfl) T.f_int (by decide +kernel) (sa_cons (se_ix ix_seq (s_ix _) (se_var (i := 0)) se_int (fun _ _ => rfl)) sa_nil)) (se_var (i := 1))))
    (ss_cons (ss_asg (se_op o_div (s_div _) (se_ix ix_seq (s_ix _) (se_var (i := 0)) se_int (fun _ _ => rfl)) (se_var (i := 1))) (sg_sub set_list (s_setL _) (se_var (i := 0)) se_int))
    (ss_cons (ss_asg (se_if (st_cmp o_gt (s_gt _) (se_ix ix_seq (s_ix _) (se_var (i := 0)) se_int (fun _ _ => rfl)) se_int (nomark _)) (se_op op_sub (s_sub _) (se_ix ix_seq (s_ix _) (se_var (i := 0)) se_int (fun _ _ => rfl)) se_int) se_int) (sg_sub set_list (s_setL _) (se_var (i := 0)) se_int))
    (ss_one (ss_ret (se_var (i := 2))))))) ss_nil)
    (ss_cons (ss_asg (se_op o_add (s_add _) (se_ix ix_seq (s_ix _) (se_var (i := 0)) se_int (fun _ _ => rfl)) se_int) (sg_sub set_list (s_setL _) (se_var (i := 0)) se_int))
    (ss_cons (ss_asg (se_op o_mod (s_mod _) (se_callTy (c_intN T.dig) (s_intN _) (by rfl) T.f_int (by decide +kernel) (sa_cons (se_op o_add (s_add _) (se_op o_add (s_add _) (se_op o_mul (s_mul _) (se_ix ix_seq (s_ix _) (se_var (i := 0)) se_int (fun _ _ => rfl)) se_int) (se_op o_mul (s_mul _) (se_op o_mul (s_mul _) (se_ix ix_seq (s_ix _) (se_var (i := 0)) se_int (fun _ _ => rfl)) (se_ix ix_seq (s_ix _) (se_var (i := 0)) se_int (fun _ _ => rfl))) se_int)) se_int) sa_nil)) se_int) (sg_sub set_list (s_setL _) (se_var (i := 0)) se_int))
    (ss_one (ss_ret (se_op o_mod (s_mod _) (se_callTy (c_intN T.dig) (s_intN _) (by rfl) T.f_int (by decide +kernel) (sa_cons (se_op o_div (s_div _) (se_ix ix_seq (s_ix _) (se_var (i := 0)) se_int (fun _ _ => rfl)) se_int) sa_nil)) (se_var (i := 1)))))))))
/-! ### _law_data -/
def m__law_data (n : Nat) (F : Nat → FA) : MS :=
  (sSeq (sSet 2 (mCall 2 F__law_take (mCons (mVar 0) (mCons (mC (.int 6)) mNil))))
    (sSeq (sIf (mAnd (mTst (mOp fGt (mVar 1) (mC (.int 0)))) (mTst (mOp fLt (mVar 2) (mC (.int 3))))) (sRet (mCBL fTuple (mLcI (mSrcA srcR1 (mCons (mCall 2 F__law_take (mCons (mVar 0) (mCons (mC (.int 4)) mNil))) mNil)) [3] (gtName 3) tYesD (mCall 2 (F n) (mCons (mVar 0) (mCons (mOp fSub (mVar 1) (mC (.int 1))) mNil)))))) sNext)
    (sSeq (sIf (mTst (mOp fEq (mVar 2) (mC (.int 3)))) (sRet (mIf (mTst (mOp fGt (mCall 2 F__law_take (mCons (mVar 0) (mCons (mC (.int 4)) mNil))) (mC (.int 0)))) (mSl fSl (mC (.str "abz9")) (mPart (mCall 2 F__law_take (mCons (mVar 0) (mCons (mC (.int 3)) mNil)))) mNoPart) (mC (.str "a23456789012")))) sNext)
    (sRet (mOp fIx (mLst (mCons (mC (.int 0)) (mCons (mUn fNeg (mC (.int 1))) (mCons (mC (.int 7)) (mCons (mOp fPow (mC (.int 10)) (mC (.int 40))) (mCons (mUn fNeg (mOp fPow (mC (.int 10)) (mC (.int 20)))) (mCons (mC (.int 1000)) (mCons (mC (.bl true)) (mCons (mC (.bl false)) (mCons (mC (.str "")) mNil)))))))))) (mCall 2 F__law_take (mCons (mVar 0) (mCons (mC (.int 9)) mNil))))))))
def F__law_data : Nat → FA
  | 0 => fun _ _ => .bad
  | n + 1 => (runDef 4 ((sSeq (sSet 2 (mCall 2 F__law_take (mCons (mVar 0) (mCons (mC (.int 6)) mNil))))
    (sSeq (sIf (mAnd (mTst (mOp fGt (mVar 1) (mC (.int 0)))) (mTst (mOp fLt (mVar 2) (mC (.int 3))))) (sRet (mCBL fTuple (mLcI (mSrcA srcR1 (mCons (mCall 2 F__law_take (mCons (mVar 0) (mCons (mC (.int 4)) mNil))) mNil)) [3] (gtName 3) tYesD (mCall 2 (F__law_data n) (mCons (mVar 0) (mCons (mOp fSub (mVar 1) (mC (.int 1))) mNil)))))) sNext)
    (sSeq (sIf (mTst (mOp fEq (mVar 2) (mC (.int 3)))) (sRet (mIf (mTst (mOp fGt (mCall 2 F__law_take (mCons (mVar 0) (mCons (mC (.int 4)) mNil))) (mC (.int 0)))) (mSl fSl (mC (.str "abz9")) (mPart (mCall 2 F__law_take (mCons (mVar 0) (mCons (mC (.int 3)) mNil)))) mNoPart) (mC (.str "a23456789012")))) sNext)
    (sRet (mOp fIx (mLst (mCons (mC (.int 0)) (mCons (mUn fNeg (mC (.int 1))) (mCons (mC (.int 7)) (mCons (mOp fPow (mC (.int 10)) (mC (.int 40))) (mCons (mUn fNeg (mOp fPow (mC (.int 10)) (mC (.int 20)))) (mCons (mC (.int 1000)) (mCons (mC (.bl true)) (mCons (mC (.bl false)) (mCons (mC (.str "")) mNil)))))))))) (mCall 2 F__law_take (mCons (mVar 0) (mCons (mC (.int 9)) mNil))))))))))
def L0__law_data : Nat := (Nat.max L__law_take 0)
def L__law_data (n : Nat) : Nat := L0__law_data + n
theorem sc__law_data : FnScope ["draw", "deep", "k", "turn"] ["draw", "deep"] (defScope (top 24)) := ⟨rfl, rfl, rfl, by decide +kernel, rfl, by decide +kernel, by decide +kernel⟩
theorem ok__law_data_at (T : Tz w K mg base) : ∀ {n : Nat}, OkF P w K mg base d__law_data (L__law_data n) ["draw", "deep"] (F__law_data n)
  | 0 => by
    obtain ⟨fd, F⟩ := T.def_ 17 (d := d__law_data) rfl
    exact ⟨fd, bad_ok rfl, FunD.bindsN F fun _ _ _ _ _ _ us hl => match us, hl with | [_, _], _ => rfl, F.kp⟩
  | n + 1 => by
    obtain ⟨fd__law_take, G__law_take, B__law_take, K__law_take⟩ := ok__law_take (P := P) T
    obtain ⟨fd__law_data, G__law_data, B__law_data, K__law_data⟩ := ok__law_data_at T (n := n)
    obtain ⟨fd, F⟩ := T.def_ 17 (d := d__law_data) rfl
    refine ⟨fd, (ok_def F sc__law_data fun cdv A outer s H E hr => ?_), FunD.bindsN F fun _ _ _ _ _ _ us hl => match us, hl with | [_, _], _ => rfl, F.kp⟩
    have tk : Takes (cxOf (L2.CX P w) P w K mg base ["draw", "deep", "k", "turn"] d__law_data.qual d__law_data.scope (He.fAd K d__law_data.at_) cdv A outer s H E) (fun cls d _ H => E cls d H) := takes_of rfl rfl rfl rfl
    have hp : PassesOwn (model P w) (cxOf (L2.CX P w) P w K mg base ["draw", "deep", "k", "turn"] d__law_data.qual d__law_data.scope (He.fAd K d__law_data.at_) cdv A outer s H E).A (cxOf (L2.CX P w) P w K mg base ["draw", "deep", "k", "turn"] d__law_data.qual d__law_data.scope (He.fAd K d__law_data.at_) cdv A outer s H E).env (cxOf (L2.CX P w) P w K mg base ["draw", "deep", "k", "turn"] d__law_data.qual d__law_data.scope (He.fAd K d__law_data.at_) cdv A outer s H E).xe := passes_of rfl
    have nd := sc__law_data.nd
    have hu := hr.units
    have hu1 : (A.deeper (envOfC d__law_data.qual d__law_data.scope s.heap.objs.size (He.fAd K d__law_data.at_) cdv)).units + 65 < cLine := by have := hr.un; omega
    exact (ss_cons (ss_set (i := 2) nd (se_call G__law_take tk (hr.mono (Nat.le_trans (by decide : L__law_take ≤ L0__law_data) (Nat.le_add_right _ _))) (by rfl) (T.g__law_take) K__law_take B__law_take (sa_cons (se_var (i := 0)) (sa_cons se_int sa_nil))))
      (ss_cons (ss_if (st_w (sw_and (st_cmp o_gt (s_gt _) (se_var (i := 1)) se_int (nomark _)) (sw_and1 (st_cmp o_lt (s_lt _) (se_var (i := 2)) se_int (nomark _))))) (ss_one (ss_ret (se_callTyL call_tuple_of (i_tuple _) (by rfl) T.f_tuple (by decide +kernel) (sel_lc (own := [("turn", 3)]) (is := [3]) rfl nd (si_range1 (by rfl) T.f_range (sa_cons (se_call G__law_take tk (hr.mono (Nat.le_trans (by decide : L__law_take ≤ L0__law_data) (Nat.le_add_right _ _))) (by rfl) (T.g__law_take) K__law_take B__law_take (sa_cons (se_var (i := 0)) (sa_cons se_int sa_nil))) sa_nil)) (blkOk_by (by rfl)) (by decide) (fun _ _ _ _ _ => (sg_name (i := 3) nd)) (fun _ _ _ _ _ => spt_nil) (fun _ _ _ _ _ => (se_call G__law_data takes0 (hr.mono (Nat.le_refl _)) (by rfl) (T.g__law_data) K__law_data B__law_data (sa_cons (se_var (i := 0)) (sa_cons (se_op op_sub (s_sub _) (se_var (i := 1)) se_int) sa_nil)))))))) ss_nil)
      (ss_cons (ss_if (st_cmp (o_eq hu) (s_eq _) (se_var (i := 2)) se_int (nomark _)) (ss_one (ss_ret (se_if (st_cmp o_gt (s_gt _) (se_call G__law_take tk (hr.mono (Nat.le_trans (by decide : L__law_take ≤ L0__law_data) (Nat.le_add_right _ _))) (by rfl) (T.g__law_take) K__law_take B__law_take (sa_cons (se_var (i := 0)) (sa_cons se_int sa_nil))) se_int (nomark _)) (se_slice o_sl (s_sl _) se_str (so_some (se_call G__law_take tk (hr.mono (Nat.le_trans (by decide : L__law_take ≤ L0__law_data) (Nat.le_add_right _ _))) (by rfl) (T.g__law_take) K__law_take B__law_take (sa_cons (se_var (i := 0)) (sa_cons se_int sa_nil)))) so_none) se_str))) ss_nil)
      (ss_one (ss_ret (se_ix ix_seq (s_ix _) (se_lst (sa_cons se_int (sa_cons (se_un un_neg (s_neg _) se_int) (sa_cons se_int (sa_cons (se_op op_pow (s_pow _) se_int se_int) (sa_cons (se_un un_neg (s_neg _) (se_op op_pow (s_pow _) se_int se_int)) (sa_cons se_int (sa_cons se_bl (sa_cons se_bl (sa_cons se_str sa_nil)))))))))) (se_call G__law_take tk (hr.mono (Nat.le_trans (by decide : L__law_take ≤ L0__law_data) (Nat.le_add_right _ _))) (by rfl) (T.g__law_take) K__law_take B__law_take (sa_cons (se_var (i := 0)) (sa_cons se_int sa_nil))) (fun _ _ => rfl)))))))
/-! ### _law_word -/
def m__law_word : MS :=
  (sSeq (sIf (mOr (mNot (mTst (mCB fIsi (mCons (mVar 0) (mCons (mC (.ty "str")) mNil))))) (mOr (mNot (mTst (mChain fLe fLe (mC (.int 1)) (mCB fLen (mCons (mVar 0) mNil)) (mC (.int 12))))) (mNot (mTst (mChain fLe fLe (mC (.str "a")) (mOp fIx (mVar 0) (mC (.int 0))) (mC (.str "z"))))))) (sRet (mC (.bl false))) sNext)
    (sRet (mCBL fAll (mLcI (mSrc srcStr (mVar 0)) [1] (gtName 1) tYesD (mOrV (mChain fLe fLe (mC (.str "a")) (mVar 1) (mC (.str "z"))) (mChain fLe fLe (mC (.str "0")) (mVar 1) (mC (.str "9"))))))))
def F__law_word : FA := pureOr (runDef 2 m__law_word)
def L__law_word : Nat := 0 + 1
theorem sc__law_word : FnScope ["value", "sign"] ["value"] (defScope (top 25)) := ⟨rfl, rfl, rfl, by decide +kernel, rfl, by decide +kernel, by decide +kernel⟩
theorem ok__law_word (T : Tz w K mg base) : OkF P w K mg base d__law_word L__law_word ["value"] F__law_word := by
  obtain ⟨fd, F⟩ := T.def_ 18 (d := d__law_word) rfl
  refine ⟨fd, ((ok_def F sc__law_word fun cdv A outer s H E hr => ?_)).imp fun _ _ _ _ => pureOr_sp, FunD.bindsN F fun _ _ _ _ _ _ us hl => match us, hl with | [_], _ => rfl, F.kp⟩
  have tk : Takes (cxOf (L2.CX P w) P w K mg base ["value", "sign"] d__law_word.qual d__law_word.scope (He.fAd K d__law_word.at_) cdv A outer s H E) (fun cls d _ H => E cls d H) := takes_of rfl rfl rfl rfl
  have hp : PassesOwn (model P w) (cxOf (L2.CX P w) P w K mg base ["value", "sign"] d__law_word.qual d__law_word.scope (He.fAd K d__law_word.at_) cdv A outer s H E).A (cxOf (L2.CX P w) P w K mg base ["value", "sign"] d__law_word.qual d__law_word.scope (He.fAd K d__law_word.at_) cdv A outer s H E).env (cxOf (L2.CX P w) P w K mg base ["value", "sign"] d__law_word.qual d__law_word.scope (He.fAd K d__law_word.at_) cdv A outer s H E).xe := passes_of rfl
  have nd := sc__law_word.nd
  have hu := hr.units
  have hu1 : (A.deeper (envOfC d__law_word.qual d__law_word.scope s.heap.objs.size (He.fAd K d__law_word.at_) cdv)).units + 65 < cLine := by have := hr.un; omega
  exact (ss_cons (ss_if (st_w (sw_or (st_not (st_val (se_callB call_isi (s_isi _) (by rfl) T.f_isinstance (by decide +kernel) (sa_cons (se_var (i := 0)) (sa_cons (se_ty (by rfl) T.f_str (by decide +kernel)) sa_nil))))) (sw_or (st_not (st_chain o_le o_le (s_le _) (s_le _) se_int (se_callB c_len (s_len _) (by rfl) T.f_len (by decide +kernel) (sa_cons (se_var (i := 0)) sa_nil)) se_int)) (sw_or1 (st_not (st_chain o_le o_le (s_le _) (s_le _) se_str (se_ix ix_seq (s_ix _) (se_var (i := 0)) se_int (fun _ _ => rfl)) se_str)))))) (ss_one (ss_ret se_bl)) ss_nil)
    (ss_one (ss_ret (se_callBL (cr_all rfl) (i_all _) (by rfl) T.f_all (by decide +kernel) (sel_lc (own := [("sign", 1)]) (is := [1]) rfl nd (si_str (se_var (i := 0))) (blkOk_by (by rfl)) (by decide) (fun _ _ _ _ _ => (sg_name (i := 1) nd)) (fun _ _ _ _ _ => spt_nil) (fun _ _ _ _ _ => (se_or (se_chain o_le o_le (s_le _) (s_le _) se_str (se_var (i := 1)) se_str) (se_one (se_chain o_le o_le (s_le _) (s_le _) se_str (se_var (i := 1)) se_str)))))))))
/-! ### _law_written -/
def m__law_written (n : Nat) (F : Nat → FA) : MS :=
  (sSeq (sIf (mTst (mCB fIsi (mCons (mVar 0) (mCons (mC (.ty "tuple")) mNil)))) (sSeq (sSet 1 (mNew (mLcI (mSrc srcT (mVar 0)) [2] (gtName 2) tYesD (mCall 1 (F n) (mCons (mVar 2) mNil)))))
    (sRet (mIf (mTst (mOp fIn (mC .non) (mVar 1))) (mC .non) (mOp fAdd (mOp fAdd (mC (.str "[")) (mMt tyStr fJoin (mC (.str ",")) (mCons (mVar 1) mNil))) (mC (.str "]")))))) sNext)
    (sSeq (sIf (mTst (mCall 1 F__law_word (mCons (mVar 0) mNil))) (sRet (mVar 0)) sNext)
    (sSeq (sIf (mOr (mTst (mCB fIsi (mCons (mVar 0) (mCons (mC (.ty "bool")) mNil)))) (mAnd (mTst (mCB fIsi (mCons (mVar 0) (mCons (mC (.ty "str")) mNil)))) (mTst (mOp fEq (mVar 0) (mC (.str "")))))) (sRet (mDisp [("True", .str "+"), ("False", .str "-"), ("", .str ".")] (mCB fStrN (mCons (mVar 0) mNil)))) sNext)
    (sRet (mIf (mTst (mCB fIsi (mCons (mVar 0) (mCons (mC (.ty "int")) mNil)))) (mCB fStrN (mCons (mVar 0) mNil)) (mC .non))))))
def F__law_written : Nat → FA
  | 0 => fun _ _ => .bad
  | n + 1 => pureOr (runDef 3 ((sSeq (sIf (mTst (mCB fIsi (mCons (mVar 0) (mCons (mC (.ty "tuple")) mNil)))) (sSeq (sSet 1 (mNew (mLcI (mSrc srcT (mVar 0)) [2] (gtName 2) tYesD (mCall 1 (F__law_written n) (mCons (mVar 2) mNil)))))
    (sRet (mIf (mTst (mOp fIn (mC .non) (mVar 1))) (mC .non) (mOp fAdd (mOp fAdd (mC (.str "[")) (mMt tyStr fJoin (mC (.str ",")) (mCons (mVar 1) mNil))) (mC (.str "]")))))) sNext)
    (sSeq (sIf (mTst (mCall 1 F__law_word (mCons (mVar 0) mNil))) (sRet (mVar 0)) sNext)
    (sSeq (sIf (mOr (mTst (mCB fIsi (mCons (mVar 0) (mCons (mC (.ty "bool")) mNil)))) (mAnd (mTst (mCB fIsi (mCons (mVar 0) (mCons (mC (.ty "str")) mNil)))) (mTst (mOp fEq (mVar 0) (mC (.str "")))))) (sRet (mDisp [("True", .str "+"), ("False", .str "-"), ("", .str ".")] (mCB fStrN (mCons (mVar 0) mNil)))) sNext)
    (sRet (mIf (mTst (mCB fIsi (mCons (mVar 0) (mCons (mC (.ty "int")) mNil)))) (mCB fStrN (mCons (mVar 0) mNil)) (mC .non))))))))
def L0__law_written : Nat := (Nat.max L__law_word 0)
def L__law_written (n : Nat) : Nat := L0__law_written + n
theorem sc__law_written : FnScope ["data", "parts", "item"] ["data"] (defScope (top 26)) := ⟨rfl, rfl, rfl, by decide +kernel, rfl, by decide +kernel, by decide +kernel⟩
theorem ok__law_written_at (T : Tz w K mg base) : ∀ {n : Nat}, OkF P w K mg base d__law_written (L__law_written n) ["data"] (F__law_written n)
  | 0 => by
    obtain ⟨fd, F⟩ := T.def_ 19 (d := d__law_written) rfl
    exact ⟨fd, bad_ok rfl, FunD.bindsN F fun _ _ _ _ _ _ us hl => match us, hl with | [_], _ => rfl, F.kp⟩
  | n + 1 => by
    obtain ⟨fd__law_word, G__law_word, B__law_word, K__law_word⟩ := ok__law_word (P := P) T
    obtain ⟨fd__law_written, G__law_written, B__law_written, K__law_written⟩ := ok__law_written_at T (n := n)
    obtain ⟨fd, F⟩ := T.def_ 19 (d := d__law_written) rfl
    refine ⟨fd, ((ok_def F sc__law_written fun cdv A outer s H E hr => ?_)).imp fun _ _ _ _ => pureOr_sp, FunD.bindsN F fun _ _ _ _ _ _ us hl => match us, hl with | [_], _ => rfl, F.kp⟩
    have tk : Takes (cxOf (L2.CX P w) P w K mg base ["data", "parts", "item"] d__law_written.qual d__law_written.scope (He.fAd K d__law_written.at_) cdv A outer s H E) (fun cls d _ H => E cls d H) := takes_of rfl rfl rfl rfl
    have hp : PassesOwn (model P w) (cxOf (L2.CX P w) P w K mg base ["data", "parts", "item"] d__law_written.qual d__law_written.scope (He.fAd K d__law_written.at_) cdv A outer s H E).A (cxOf (L2.CX P w) P w K mg base ["data", "parts", "item"] d__law_written.qual d__law_written.scope (He.fAd K d__law_written.at_) cdv A outer s H E).env (cxOf (L2.CX P w) P w K mg base ["data", "parts", "item"] d__law_written.qual d__law_written.scope (He.fAd K d__law_written.at_) cdv A outer s H E).xe := passes_of rfl
    have nd := sc__law_written.nd
    have hu := hr.units
    have hu1 : (A.deeper (envOfC d__law_written.qual d__law_written.scope s.heap.objs.size (He.fAd K d__law_written.at_) cdv)).units + 65 < cLine := by have := hr.un; omega
    exact (ss_cons (ss_if (st_val (se_callB call_isi (s_isi _) (by rfl) T.f_isinstance (by decide +kernel) (sa_cons (se_var (i := 0)) (sa_cons (se_ty (by rfl) T.f_tuple (by decide +kernel)) sa_nil)))) (ss_cons (ss_setLc (i := 1) (own := [("item", 2)]) (is := [2]) rfl nd (si_tup (se_var (i := 0))) (blkOk_by (by rfl)) (by decide) (fun _ _ _ _ _ => (sg_name (i := 2) nd)) (fun _ _ _ _ _ => spt_nil) (fun _ _ _ _ _ => (se_call G__law_written takes0 (hr.mono (Nat.le_refl _)) (by rfl) (T.g__law_written) K__law_written B__law_written (sa_cons (se_var (i := 2)) sa_nil))))
      (ss_one (ss_ret (se_if (st_cmp (o_in hu1) (s_in _) se_non (se_var (i := 1)) (by rfl)) se_non (se_op o_add (s_add _) (se_op o_add (s_add _) se_str (se_bm PySem.F.plainAttrs_str PySem.F.slot_str_join PySem.F.type_str_join mt_join (ty_str _) (m_join _) se_str (sa_cons (se_var (i := 1)) sa_nil))) se_str))))) ss_nil)
      (ss_cons (ss_if (st_val (se_call G__law_word tk (hr.mono (Nat.le_trans (by decide : L__law_word ≤ L0__law_written) (Nat.le_add_right _ _))) (by rfl) (T.g__law_word) K__law_word B__law_word (sa_cons (se_var (i := 0)) sa_nil))) (ss_one (ss_ret (se_var (i := 0)))) ss_nil)
      (ss_cons (ss_if (st_w (sw_or (st_val (se_callB call_isi (s_isi _) (by rfl) T.f_isinstance (by decide +kernel) (sa_cons (se_var (i := 0)) (sa_cons (se_ty (by rfl) T.f_bool (by decide +kernel)) sa_nil)))) (sw_or1 (st_w (sw_and (st_val (se_callB call_isi (s_isi _) (by rfl) T.f_isinstance (by decide +kernel) (sa_cons (se_var (i := 0)) (sa_cons (se_ty (by rfl) T.f_str (by decide +kernel)) sa_nil)))) (sw_and1 (st_cmp (o_eq hu) (s_eq _) (se_var (i := 0)) se_str (nomark _)))))))) (ss_one (ss_ret (se_disp [("True", .str "+"), ("False", .str "-"), ("", .str ".")] hu (pps_cons pe_str pe_str (pps_cons pe_str pe_str (pps_cons pe_str pe_str pps_nil))) (se_callTy (c_strN rfl T.dig) (s_strN _) (by rfl) T.f_str (by decide +kernel) (sa_cons (se_var (i := 0)) sa_nil))))) ss_nil)
      (ss_one (ss_ret (se_if (st_val (se_callB call_isi (s_isi _) (by rfl) T.f_isinstance (by decide +kernel) (sa_cons (se_var (i := 0)) (sa_cons (se_ty (by rfl) T.f_int (by decide +kernel)) sa_nil)))) (se_callTy (c_strN rfl T.dig) (s_strN _) (by rfl) T.f_str (by decide +kernel) (sa_cons (se_var (i := 0)) sa_nil)) se_non))))))
/-! ### _law_number -/
def m__law_number : MS :=
  (sSeq (sSet 1 (mIf (mTst (mOp fEq (mSl fSl (mVar 0) mNoPart (mPart (mC (.int 1)))) (mC (.str "-")))) (mSl fSl (mVar 0) (mPart (mC (.int 1))) mNoPart) (mVar 0)))
    (sSeq (sIf (mOr (mTst (mOp fEq (mVar 1) (mC (.str "")))) (mOr (mTst (mCBL fAny (mLcI (mSrc srcStr (mVar 1)) [2] (gtName 2) tYesD (mOp fNotIn (mVar 2) (mC (.str "0123456789")))))) (mAnd (mTst (mOp fEq (mOp fIx (mVar 1) (mC (.int 0))) (mC (.str "0")))) (mTst (mOp fNe (mVar 0) (mC (.str "0"))))))) (sRet (mC .non)) sNext)
    (sRet (mCB fIntN (mCons (mVar 0) mNil)))))
def F__law_number : FA := pureOr (runDef 3 m__law_number)
def L__law_number : Nat := 0 + 1
theorem sc__law_number : FnScope ["text", "body", "sign"] ["text"] (defScope (top 27)) := ⟨rfl, rfl, rfl, by decide +kernel, rfl, by decide +kernel, by decide +kernel⟩
theorem ok__law_number (T : Tz w K mg base) : OkF P w K mg base d__law_number L__law_number ["text"] F__law_number := by
  obtain ⟨fd, F⟩ := T.def_ 20 (d := d__law_number) rfl
  refine ⟨fd, ((ok_def F sc__law_number fun cdv A outer s H E hr => ?_)).imp fun _ _ _ _ => pureOr_sp, FunD.bindsN F fun _ _ _ _ _ _ us hl => match us, hl with | [_], _ => rfl, F.kp⟩
  have tk : Takes (cxOf (L2.CX P w) P w K mg base ["text", "body", "sign"] d__law_number.qual d__law_number.scope (He.fAd K d__law_number.at_) cdv A outer s H E) (fun cls d _ H => E cls d H) := takes_of rfl rfl rfl rfl
  have hp : PassesOwn (model P w) (cxOf (L2.CX P w) P w K mg base ["text", "body", "sign"] d__law_number.qual d__law_number.scope (He.fAd K d__law_number.at_) cdv A outer s H E).A (cxOf (L2.CX P w) P w K mg base ["text", "body", "sign"] d__law_number.qual d__law_number.scope (He.fAd K d__law_number.at_) cdv A outer s H E).env (cxOf (L2.CX P w) P w K mg base ["text", "body", "sign"] d__law_number.qual d__law_number.scope (He.fAd K d__law_number.at_) cdv A outer s H E).xe := passes_of rfl
  have nd := sc__law_number.nd
  have hu := hr.units
  have hu1 : (A.deeper (envOfC d__law_number.qual d__law_number.scope s.heap.objs.size (He.fAd K d__law_number.at_) cdv)).units + 65 < cLine := by have := hr.un; omega
  exact (ss_cons (ss_set (i := 1) nd (se_if (st_cmp (o_eq hu) (s_eq _) (se_slice o_sl (s_sl _) (se_var (i := 0)) so_none (so_some se_int)) se_str (nomark _)) (se_slice o_sl (s_sl _) (se_var (i := 0)) (so_some se_int) so_none) (se_var (i := 0))))
    (ss_cons (ss_if (st_w (sw_or (st_cmp (o_eq hu) (s_eq _) (se_var (i := 1)) se_str (nomark _)) (sw_or (st_val (se_callBL (cr_any rfl) (i_any _) (by rfl) T.f_any (by decide +kernel) (sel_lc (own := [("sign", 2)]) (is := [2]) rfl nd (si_str (se_var (i := 1))) (blkOk_by (by rfl)) (by decide) (fun _ _ _ _ _ => (sg_name (i := 2) nd)) (fun _ _ _ _ _ => spt_nil) (fun _ _ _ _ _ => (se_cmp (o_notIn hu1) (s_notIn _) (se_var (i := 2)) se_str (by rfl)))))) (sw_or1 (st_w (sw_and (st_cmp (o_eq hu) (s_eq _) (se_ix ix_seq (s_ix _) (se_var (i := 1)) se_int (fun _ _ => rfl)) se_str (nomark _)) (sw_and1 (st_cmp (o_ne hu) (s_ne _) (se_var (i := 0)) se_str (nomark _))))))))) (ss_one (ss_ret se_non)) ss_nil)
    (ss_one (ss_ret (se_callTy (c_intN T.dig) (s_intN _) (by rfl) T.f_int (by decide +kernel) (sa_cons (se_var (i := 0)) sa_nil))))))
/-! ### _law_read -/
def m__law_read : MS :=
  (sSeq (sAsg (mTup (mCons (mLst mNil) (mCons (mLst mNil) (mCons (mC (.str "")) (mCons (mC (.bl true)) mNil))))) (gtTup (gtLen 4 (gtCons (gtName 1) (gtCons (gtName 2) (gtCons (gtName 3) (gtCons (gtName 4) gtNil)))))))
    (sSeq (sFor (mSrc srcStr (mOp fAdd (mVar 0) (mC (.str ";")))) (gtName 5)
    (sIf (mTst (mOp fIn (mVar 5) (mC (.str "[],;")))) (sSeq (sIf (mTst (mOp fNe (mVar 3) (mC (.str "")))) (sSeq (sSet 6 (mDispGet [("+", .bl true), ("-", .bl false), (".", .str "")] (mVar 3) (mIf (mTst (mCall 1 F__law_word (mCons (mVar 3) mNil))) (mVar 3) (mCall 1 F__law_number (mCons (mVar 3) mNil)))))
    (sSeq (sIf (mOr (mTst (mOp fIsN (mVar 6) (mC .non))) (mNot (mTst (mVar 4)))) (sRet (mC .non)) sNext)
    (sPar3 2 4 3 (mCons (mLst (mCons (mVar 6) mNil)) (mCons (mC (.bl false)) (mCons (mC (.str "")) mNil)))))) sNext)
    (sIf (mTst (mOp fEq (mVar 5) (mC (.str "[")))) (sSeq (sIf (mNot (mTst (mVar 4))) (sRet (mC .non)) sNext)
    (sExpr (mMt tyLst fAppend (mVar 1) (mCons (mLst mNil) mNil)))) (sIf (mTst (mOp fEq (mVar 5) (mC (.str ",")))) (sSeq (sIf (mOr (mTst (mVar 4)) (mTst (mOp fEq (mVar 1) (mLst mNil)))) (sRet (mC .non)) sNext)
    (sSeq (sExpr (mMt tyLst fAppend (mOp fIx (mVar 1) (mUn fNeg (mC (.int 1)))) (mCons (mOp fIx (mVar 2) (mC (.int 0))) mNil)))
    (sSet 4 (mC (.bl true))))) (sIf (mTst (mOp fEq (mVar 5) (mC (.str "]")))) (sSeq (sIf (mOr (mTst (mOp fEq (mVar 1) (mLst mNil))) (mAnd (mTst (mVar 4)) (mTst (mOp fNe (mOp fIx (mVar 1) (mUn fNeg (mC (.int 1)))) (mLst mNil))))) (sRet (mC .non)) sNext)
    (sSeq (sSet 7 (mMt tyLst fPop (mVar 1) mNil))
    (sPar 2 4 (mCons (mLst (mCons (mCB (overI fTuple) (mCons (mOp fAdd (mVar 7) (mIf (mTst (mVar 4)) (mLst mNil) (mLst (mCons (mOp fIx (mVar 2) (mC (.int 0))) mNil)))) mNil)) mNil)) (mCons (mC (.bl false)) mNil))))) sNext)))) (sSet 3 (mOp fAdd (mVar 3) (mVar 5)))))
    (sRet (mIf (mAnd (mTst (mOp fEq (mVar 1) (mLst mNil))) (mAnd (mNot (mTst (mVar 4))) (mTst (mOp fNotIn (mC (.str ";")) (mVar 0))))) (mVar 2) (mC .non)))))
def F__law_read : FA := (runDef 8 m__law_read)
def L__law_read : Nat := (Nat.max L__law_number (Nat.max L__law_word 0)) + 1
theorem sc__law_read : FnScope ["text", "rows", "done", "token", "ahead", "sign", "atom", "row"] ["text"] (defScope (top 28)) := ⟨rfl, rfl, rfl, by decide +kernel, rfl, by decide +kernel, by decide +kernel⟩
theorem ok__law_read (T : Tz w K mg base) : OkF P w K mg base d__law_read L__law_read ["text"] F__law_read := by
  obtain ⟨fd__law_word, G__law_word, B__law_word, K__law_word⟩ := ok__law_word (P := P) T
  obtain ⟨fd__law_number, G__law_number, B__law_number, K__law_number⟩ := ok__law_number (P := P) T
  obtain ⟨fd, F⟩ := T.def_ 21 (d := d__law_read) rfl
  refine ⟨fd, (ok_def F sc__law_read fun cdv A outer s H E hr => ?_), FunD.bindsN F fun _ _ _ _ _ _ us hl => match us, hl with | [_], _ => rfl, F.kp⟩
  have tk : Takes (cxOf (L2.CX P w) P w K mg base ["text", "rows", "done", "token", "ahead", "sign", "atom", "row"] d__law_read.qual d__law_read.scope (He.fAd K d__law_read.at_) cdv A outer s H E) (fun cls d _ H => E cls d H) := takes_of rfl rfl rfl rfl
  have hp : PassesOwn (model P w) (cxOf (L2.CX P w) P w K mg base ["text", "rows", "done", "token", "ahead", "sign", "atom", "row"] d__law_read.qual d__law_read.scope (He.fAd K d__law_read.at_) cdv A outer s H E).A (cxOf (L2.CX P w) P w K mg base ["text", "rows", "done", "token", "ahead", "sign", "atom", "row"] d__law_read.qual d__law_read.scope (He.fAd K d__law_read.at_) cdv A outer s H E).env (cxOf (L2.CX P w) P w K mg base ["text", "rows", "done", "token", "ahead", "sign", "atom", "row"] d__law_read.qual d__law_read.scope (He.fAd K d__law_read.at_) cdv A outer s H E).xe := passes_of rfl
  have nd := sc__law_read.nd
  have hu := hr.units
  have hu1 : (A.deeper (envOfC d__law_read.qual d__law_read.scope s.heap.objs.size (He.fAd K d__law_read.at_) cdv)).units + 65 < cLine := by have := hr.un; omega
  exact (ss_cons (ss_asg (se_tup (sa_cons (se_lst sa_nil) (sa_cons (se_lst sa_nil) (sa_cons se_str (sa_cons se_bl sa_nil))))) (sg_tup rfl (sgs_cons (W := W0) (sg_name (W := W0) (i := 1) nd) (sgs_cons (W := W0) (sg_name (W := W0) (i := 2) nd) (sgs_cons (W := W0) (sg_name (W := W0) (i := 3) nd) (sgs_cons (W := W0) (sg_name (W := W0) (i := 4) nd) (sgs_nil (W := W0))))))))
    (ss_cons (ss_for hp rfl (si_str (se_op o_add (s_add _) (se_var (i := 0)) se_str)) (sg_name (i := 5) nd)
    (ss_one (ss_if (st_cmp (o_in hu1) (s_in _) (se_var (i := 5)) se_str (by rfl)) (ss_cons (ss_if (st_cmp (o_ne hu) (s_ne _) (se_var (i := 3)) se_str (nomark _)) (ss_cons (ss_set (i := 6) nd (se_dispGet [("+", .bl true), ("-", .bl false), (".", .str "")] hu (pps_cons pe_str pe_bl (pps_cons pe_str pe_bl (pps_cons pe_str pe_str pps_nil))) (se_var (i := 3)) (se_if (st_val (se_call G__law_word tk (hr.mono (by decide)) (by rfl) (T.g__law_word) K__law_word B__law_word (sa_cons (se_var (i := 3)) sa_nil))) (se_var (i := 3)) (se_call G__law_number tk (hr.mono (by decide)) (by rfl) (T.g__law_number) K__law_number B__law_number (sa_cons (se_var (i := 3)) sa_nil))) ⟨by rfl, by rfl, by rfl, by rfl⟩))
    (ss_cons (ss_if (st_w (sw_or (st_cmp op_isN (s_isN _) (se_var (i := 6)) se_non (nomark _)) (sw_or1 (st_not (st_val (se_var (i := 4))))))) (ss_one (ss_ret se_non)) ss_nil)
    (ss_one (ss_par3 (i := 2) (j := 4) (l := 3) rfl nd (sa_cons (se_lst (sa_cons (se_var (i := 6)) sa_nil)) (sa_cons se_bl (sa_cons se_str sa_nil))))))) ss_nil)
    (ss_one (ss_if (st_cmp (o_eq hu) (s_eq _) (se_var (i := 5)) se_str (nomark _)) (ss_cons (ss_if (st_not (st_val (se_var (i := 4)))) (ss_one (ss_ret se_non)) ss_nil)
    (ss_one (ss_expr (se_bm PySem.F.plainAttrs_list PySem.F.slot_list_append PySem.F.type_list_append mt_append (ty_lst _) (m_append _) (se_var (i := 1)) (sa_cons (se_lst sa_nil) sa_nil))))) (ss_one (ss_if (st_cmp (o_eq hu) (s_eq _) (se_var (i := 5)) se_str (nomark _)) (ss_cons (ss_if (st_w (sw_or (st_val (se_var (i := 4))) (sw_or1 (st_cmp (o_eq hu) (s_eq _) (se_var (i := 1)) (se_lst sa_nil) (nomark _))))) (ss_one (ss_ret se_non)) ss_nil)
    (ss_cons (ss_expr (se_bm PySem.F.plainAttrs_list PySem.F.slot_list_append PySem.F.type_list_append mt_append (ty_lst _) (m_append _) (se_ix ix_seq (s_ix _) (se_var (i := 1)) (se_un un_neg (s_neg _) se_int) (fun _ _ => rfl)) (sa_cons (se_ix ix_seq (s_ix _) (se_var (i := 2)) se_int (fun _ _ => rfl)) sa_nil)))
    (ss_one (ss_set (i := 4) nd se_bl)))) (ss_one (ss_if (st_cmp (o_eq hu) (s_eq _) (se_var (i := 5)) se_str (nomark _)) (ss_cons (ss_if (st_w (sw_or (st_cmp (o_eq hu) (s_eq _) (se_var (i := 1)) (se_lst sa_nil) (nomark _)) (sw_or1 (st_w (sw_and (st_val (se_var (i := 4))) (sw_and1 (st_cmp (o_ne hu) (s_ne _) (se_ix ix_seq (s_ix _) (se_var (i := 1)) (se_un un_neg (s_neg _) se_int) (fun _ _ => rfl)) (se_lst sa_nil) (nomark _)))))))) (ss_one (ss_ret se_non)) ss_nil)
    (ss_cons (ss_set (i := 7) nd (se_bm0 PySem.F.plainAttrs_list PySem.F.slot_list_pop PySem.F.type_list_pop mt_pop (ty_lst _) (m_pop _) (se_var (i := 1))))
    (ss_one (ss_par (i := 2) (j := 4) rfl nd (sa_cons (se_lst (sa_cons (se_callTy call_tuple_of (overI_sim (i_tuple _) (it_tuple _)) (by rfl) T.f_tuple (by decide +kernel) (sa_cons (se_op o_add (s_add _) (se_var (i := 7)) (se_if (st_val (se_var (i := 4))) (se_lst sa_nil) (se_lst (sa_cons (se_ix ix_seq (s_ix _) (se_var (i := 2)) se_int (fun _ _ => rfl)) sa_nil)))) sa_nil)) sa_nil)) (sa_cons se_bl sa_nil)))))) ss_nil))))))) (ss_one (ss_set (i := 3) nd (se_op o_add (s_add _) (se_var (i := 3)) (se_var (i := 5))))))))
    (ss_one (ss_ret (se_if (st_w (sw_and (st_cmp (o_eq hu) (s_eq _) (se_var (i := 1)) (se_lst sa_nil) (nomark _)) (sw_and (st_not (st_val (se_var (i := 4)))) (sw_and1 (st_cmp (o_notIn hu1) (s_notIn _) se_str (se_var (i := 0)) (by rfl)))))) (se_var (i := 2)) se_non)))))
/-! ### _law_told -/
def m__law_told : MS :=
  (sTry ct_Malformed (sRet (mIf (mTst (mOp fEq (mVar 0) (mC (.int 0)))) (mLst (mCons (mCall 1 F_write_data (mCons (mVar 1) mNil)) mNil)) (mLst (mCons (mCall 1 F_read_data (mCons (mVar 1) mNil)) mNil)))) (sRet (mC .non)))
def F__law_told : FA := (runDef 2 m__law_told)
def L__law_told : Nat := (Nat.max L_read_data (Nat.max L_write_data 0)) + 1
theorem sc__law_told : FnScope ["which", "value"] ["which", "value"] (defScope (top 29)) := ⟨rfl, rfl, rfl, by decide +kernel, rfl, by decide +kernel, by decide +kernel⟩
theorem ok__law_told (T : Tz w K mg base) : OkF P w K mg base d__law_told L__law_told ["which", "value"] F__law_told := by
  obtain ⟨fd_write_data, G_write_data, B_write_data, K_write_data⟩ := ok_write_data (P := P) T
  obtain ⟨fd_read_data, G_read_data, B_read_data, K_read_data⟩ := ok_read_data (P := P) T
  obtain ⟨fd, F⟩ := T.def_ 22 (d := d__law_told) rfl
  refine ⟨fd, (ok_def F sc__law_told fun cdv A outer s H E hr => ?_), FunD.bindsN F fun _ _ _ _ _ _ us hl => match us, hl with | [_, _], _ => rfl, F.kp⟩
  have tk : Takes (cxOf (L2.CX P w) P w K mg base ["which", "value"] d__law_told.qual d__law_told.scope (He.fAd K d__law_told.at_) cdv A outer s H E) (fun cls d _ H => E cls d H) := takes_of rfl rfl rfl rfl
  have hp : PassesOwn (model P w) (cxOf (L2.CX P w) P w K mg base ["which", "value"] d__law_told.qual d__law_told.scope (He.fAd K d__law_told.at_) cdv A outer s H E).A (cxOf (L2.CX P w) P w K mg base ["which", "value"] d__law_told.qual d__law_told.scope (He.fAd K d__law_told.at_) cdv A outer s H E).env (cxOf (L2.CX P w) P w K mg base ["which", "value"] d__law_told.qual d__law_told.scope (He.fAd K d__law_told.at_) cdv A outer s H E).xe := passes_of rfl
  have nd := sc__law_told.nd
  have hu := hr.units
  have hu1 : (A.deeper (envOfC d__law_told.qual d__law_told.scope s.heap.objs.size (He.fAd K d__law_told.at_) cdv)).units + 65 < cLine := by have := hr.un; omega
  exact (ss_one (ss_try rfl rfl (T.nm_Malformed (by rfl)) tk (T.ct_Malformed) (fun W1 pn1 xe1 tk1 hp1 => (ss_one (ss_ret (se_if (st_cmp (o_eq hu) (s_eq _) (se_var (i := 0)) se_int (nomark _)) (se_lst (sa_cons (se_call G_write_data tk1 (hr.mono (by decide)) (by rfl) (T.g_write_data) K_write_data B_write_data (sa_cons (se_var (i := 1)) sa_nil)) sa_nil)) (se_lst (sa_cons (se_call G_read_data tk1 (hr.mono (by decide)) (by rfl) (T.g_read_data) K_read_data B_read_data (sa_cons (se_var (i := 1)) sa_nil)) sa_nil)))))) (fun a1 oe1 pn2 => (ss_one (ss_ret se_non)))))
/-! ### law -/
def m_law : MS :=
  (sSeq (sSet 1 (mCall 1 F__law_draw (mCons (mVar 0) mNil)))
    (sSeq (sFor (mSrcA srcR1 (mCons (mC (.int 4)) mNil)) (gtName 2)
    (sSeq (sSet 3 (mCall 2 (F__law_data 8) (mCons (mVar 1) (mCons (mC (.int 5)) mNil))))
    (sSeq (sSet 4 (mCall 1 (F__law_written 80) (mCons (mVar 3) mNil)))
    (sSeq (sIf (mOr (mTst (mOp fNe (mCall 2 F__law_told (mCons (mC (.int 0)) (mCons (mVar 3) mNil))) (mLst (mCons (mVar 4) mNil)))) (mTst (mOp fNe (mCB fRepr (mCons (mCall 2 F__law_told (mCons (mC (.int 1)) (mCons (mVar 4) mNil))) mNil)) (mCB fRepr (mCons (mLst (mCons (mVar 3) mNil)) mNil))))) (sRet (mC (.bl false))) sNext)
    (sFor (mSrcA srcR1 (mCons (mC (.int 8)) mNil)) (gtName 5)
    (sSeq (sPar 6 7 (mCons (mCall 2 F__law_take (mCons (mVar 1) (mCons (mOp fAdd (mCB fLen (mCons (mVar 4) mNil)) (mC (.int 1))) mNil))) (mCons (mOp fIx (mC (.str "[],a0-1 A+.")) (mCall 2 F__law_take (mCons (mVar 1) (mCons (mC (.int 11)) mNil)))) mNil)))
    (sFor (mSrcN (capL (mCons (mOp fAdd (mOp fAdd (mSl fSl (mVar 4) mNoPart (mPart (mVar 6))) (mVar 7)) (mSl fSl (mVar 4) (mPart (mVar 6)) mNoPart)) (mCons (mOp fAdd (mSl fSl (mVar 4) mNoPart (mPart (mVar 6))) (mSl fSl (mVar 4) (mPart (mOp fAdd (mVar 6) (mC (.int 1)))) mNoPart)) (mCons (mOp fAdd (mOp fAdd (mSl fSl (mVar 4) mNoPart (mPart (mVar 6))) (mVar 7)) (mSl fSl (mVar 4) (mPart (mOp fAdd (mVar 6) (mC (.int 1)))) mNoPart)) mNil))))) (gtName 8)
    (sSeq (sSet 9 (mCall 1 F__law_read (mCons (mVar 8) mNil)))
    (sIf (mTst (mOp fNe (mCB fRepr (mCons (mCall 2 F__law_told (mCons (mC (.int 1)) (mCons (mVar 8) mNil))) mNil)) (mCB fRepr (mCons (mIf (mAnd (mTst (mOp fNotN (mVar 9) (mC .non))) (mTst (mOp fEq (mCall 1 (F__law_written 80) (mCons (mOp fIx (mVar 9) (mC (.int 0))) mNil)) (mVar 8)))) (mVar 9) (mC .non)) mNil)))) (sRet (mC (.bl false))) sNext)))))))))
    (sSeq (sFor (mSrcN (capL (mCons (mC .non) (mCons (mC (.str "A")) (mCons (mC (.str "+")) (mCons (mC (.str "a b")) (mCons (mC (.str "9a")) (mCons (mC (.str "abcdefghijklm")) (mCons (mLst (mCons (mC (.int 1)) mNil)) (mCons (mTup (mCons (mC (.int 1)) (mCons (mC .non) mNil))) (mCons (mTup (mCons (mTup (mCons (mC .non) mNil)) mNil)) (mCons (mLst (mCons (mC (.str "a")) mNil)) (mCons (mTup (mCons (mC (.str "a")) (mCons (mLst mNil) mNil))) (mCons (mC (.str "]")) (mCons (mTup (mCons (mC (.str "]")) mNil)) mNil))))))))))))))) (gtName 10)
    (sIf (mTst (mOp fNotN (mCall 2 F__law_told (mCons (mC (.int 0)) (mCons (mVar 10) mNil))) (mC .non))) (sRet (mC (.bl false))) sNext))
    (sSeq (sSet 11 (mOp fMul (mC (.str "9")) (mC (.int 4000))))
    (sSeq (sIf (mOr (mTst (mOp fNe (mCall 2 F__law_told (mCons (mC (.int 0)) (mCons (mCB fIntN (mCons (mVar 11) mNil)) mNil))) (mLst (mCons (mVar 11) mNil)))) (mOr (mTst (mOp fIsN (mCall 2 F__law_told (mCons (mC (.int 1)) (mCons (mOp fAdd (mC (.str "-")) (mVar 11)) mNil))) (mC .non))) (mOr (mTst (mOp fNotN (mCall 2 F__law_told (mCons (mC (.int 1)) (mCons (mOp fAdd (mVar 11) (mC (.str "0"))) mNil))) (mC .non))) (mTst (mOp fNotN (mCall 2 F__law_told (mCons (mC (.int 0)) (mCons (mOp fAdd (mCB fIntN (mCons (mVar 11) mNil)) (mC (.int 1))) mNil))) (mC .non)))))) (sRet (mC (.bl false))) sNext)
    (sSeq (sSet 12 (mTup mNil))
    (sSeq (sFor (mSrcA srcR1 (mCons (mC (.int 999)) mNil)) (gtName 2)
    (sSet 12 (mTup (mCons (mVar 12) mNil))))
    (sSeq (sIf (mOr (mTst (mOp fNe (mCall 2 F__law_told (mCons (mC (.int 0)) (mCons (mVar 12) mNil))) (mLst (mCons (mOp fAdd (mOp fMul (mC (.str "[")) (mC (.int 1000))) (mOp fMul (mC (.str "]")) (mC (.int 1000)))) mNil)))) (mOr (mTst (mOp fNotN (mCall 2 F__law_told (mCons (mC (.int 0)) (mCons (mTup (mCons (mVar 12) mNil)) mNil))) (mC .non))) (mTst (mOp fNotN (mCall 2 F__law_told (mCons (mC (.int 1)) (mCons (mOp fAdd (mOp fMul (mC (.str "[")) (mC (.int 1001))) (mOp fMul (mC (.str "]")) (mC (.int 1001)))) mNil))) (mC .non))))) (sRet (mC (.bl false))) sNext)
    (sRet (mAndV (mOp fNotN (mCall 2 F__law_told (mCons (mC (.int 1)) (mCons (mOp fAdd (mOp fMul (mC (.str "[")) (mC (.int 1000))) (mOp fMul (mC (.str "]")) (mC (.int 1000)))) mNil))) (mC .non)) (mOp fEq (mNew (mLcI (mSrcN (capL (mCons (mC .non) (mCons (mC (.int 5)) (mCons (mTup (mCons (mC (.int 1)) mNil)) (mCons (mC (.str "")) (mCons (mC (.str "[a][b]")) (mCons (mC (.str "a,b")) (mCons (mC (.str "[a")) mNil))))))))) [13] (gtName 13) tYesD (mCall 2 F__law_told (mCons (mC (.int 1)) (mCons (mVar 13) mNil))))) (mOp fMul (mLst (mCons (mC .non) mNil)) (mC (.int 7))))))))))))))
def F_law : FA := (runDef 14 m_law)
def L_law : Nat := (Nat.max L__law_read (Nat.max L__law_take (Nat.max L__law_told (Nat.max (L__law_written 80) (Nat.max (L__law_data 8) (Nat.max L__law_draw 0)))))) + 1
theorem sc_law : FnScope ["script", "draw", "turn", "data", "text", "again", "i", "sign", "other", "due", "bad", "long", "deep", "value"] ["script"] (defScope (top 30)) := ⟨rfl, rfl, rfl, by decide +kernel, rfl, by decide +kernel, by decide +kernel⟩
theorem ok_law (T : Tz w K mg base) {fd : FuncData} (F : FunD K d_law.name d_law.qual d_law.params d_law.body d_law.scope (d_law.dvs K) (d_law.kws K) (He.fAd K d_law.at_) fd) : FnG P w K mg base (L2.CX P w) L_law (He.fAd K d_law.at_) fd ["script"] (spOf K 1 F_law) := by
  obtain ⟨fd__law_draw, G__law_draw, B__law_draw, K__law_draw⟩ := ok__law_draw (P := P) T
  obtain ⟨fd__law_data, G__law_data, B__law_data, K__law_data⟩ := ok__law_data_at (n := 8) (P := P) T
  obtain ⟨fd__law_written, G__law_written, B__law_written, K__law_written⟩ := ok__law_written_at (n := 80) (P := P) T
  obtain ⟨fd__law_told, G__law_told, B__law_told, K__law_told⟩ := ok__law_told (P := P) T
  obtain ⟨fd__law_take, G__law_take, B__law_take, K__law_take⟩ := ok__law_take (P := P) T
  obtain ⟨fd__law_read, G__law_read, B__law_read, K__law_read⟩ := ok__law_read (P := P) T
  refine ok_defG F sc_law fun cdv A outer s H E gd hr => ?_
  have tk : Takes (cxOf (L2.CX P w) P w K mg base ["script", "draw", "turn", "data", "text", "again", "i", "sign", "other", "due", "bad", "long", "deep", "value"] d_law.qual d_law.scope (He.fAd K d_law.at_) cdv A outer s H E) (fun cls d _ H => E cls d H) := takes_of rfl rfl rfl rfl
  have hp : PassesOwn (model P w) (cxOf (L2.CX P w) P w K mg base ["script", "draw", "turn", "data", "text", "again", "i", "sign", "other", "due", "bad", "long", "deep", "value"] d_law.qual d_law.scope (He.fAd K d_law.at_) cdv A outer s H E).A (cxOf (L2.CX P w) P w K mg base ["script", "draw", "turn", "data", "text", "again", "i", "sign", "other", "due", "bad", "long", "deep", "value"] d_law.qual d_law.scope (He.fAd K d_law.at_) cdv A outer s H E).env (cxOf (L2.CX P w) P w K mg base ["script", "draw", "turn", "data", "text", "again", "i", "sign", "other", "due", "bad", "long", "deep", "value"] d_law.qual d_law.scope (He.fAd K d_law.at_) cdv A outer s H E).xe := passes_of rfl
  have nd := sc_law.nd
  have hu := hr.units
  have hu1 : (A.deeper (envOfC d_law.qual d_law.scope s.heap.objs.size (He.fAd K d_law.at_) cdv)).units + 65 < cLine := by have := hr.un; omega
  exact (ss_cons (ss_set (i := 1) nd (se_call G__law_draw tk (hr.mono (by decide)) (by rfl) (T.g__law_draw) K__law_draw B__law_draw (sa_cons (se_var (i := 0)) sa_nil)))
    (ss_cons (ss_for hp rfl (si_range1 (by rfl) T.f_range (sa_cons se_int sa_nil)) (sg_name (i := 2) nd)
    (ss_cons (ss_set (i := 3) nd (se_call G__law_data tk (hr.mono (by decide)) (by rfl) (T.g__law_data) K__law_data B__law_data (sa_cons (se_var (i := 1)) (sa_cons se_int sa_nil))))
    (ss_cons (ss_set (i := 4) nd (se_call G__law_written tk (hr.mono (by decide)) (by rfl) (T.g__law_written) K__law_written B__law_written (sa_cons (se_var (i := 3)) sa_nil)))
    (ss_cons (ss_if (st_w (sw_or (st_cmp (o_ne hu) (s_ne _) (se_call G__law_told tk (hr.mono (by decide)) (by rfl) (T.g__law_told) K__law_told B__law_told (sa_cons se_int (sa_cons (se_var (i := 3)) sa_nil))) (se_lst (sa_cons (se_var (i := 4)) sa_nil)) (nomark _)) (sw_or1 (st_cmp (o_ne hu) (s_ne _) (se_callB (c_repr gd hu) (s_repr _) (by rfl) T.f_repr (by decide +kernel) (sa_cons (se_call G__law_told tk (hr.mono (by decide)) (by rfl) (T.g__law_told) K__law_told B__law_told (sa_cons se_int (sa_cons (se_var (i := 4)) sa_nil))) sa_nil)) (se_callB (c_repr gd hu) (s_repr _) (by rfl) T.f_repr (by decide +kernel) (sa_cons (se_lst (sa_cons (se_var (i := 3)) sa_nil)) sa_nil)) (nomark _))))) (ss_one (ss_ret se_bl)) ss_nil)
    (ss_one (ss_for hp rfl (si_range1 (by rfl) T.f_range (sa_cons se_int sa_nil)) (sg_name (i := 5) nd)
    (ss_cons (ss_par (i := 6) (j := 7) rfl nd (sa_cons (se_call G__law_take tk (hr.mono (by decide)) (by rfl) (T.g__law_take) K__law_take B__law_take (sa_cons (se_var (i := 1)) (sa_cons (se_op o_add (s_add _) (se_callB c_len (s_len _) (by rfl) T.f_len (by decide +kernel) (sa_cons (se_var (i := 4)) sa_nil)) se_int) sa_nil))) (sa_cons (se_ix ix_seq (s_ix _) se_str (se_call G__law_take tk (hr.mono (by decide)) (by rfl) (T.g__law_take) K__law_take B__law_take (sa_cons (se_var (i := 1)) (sa_cons se_int sa_nil))) (fun _ _ => rfl)) sa_nil)))
    (ss_one (ss_for hp rfl (si_new (sel_lst (sa_cons (se_op o_add (s_add _) (se_op o_add (s_add _) (se_slice o_sl (s_sl _) (se_var (i := 4)) so_none (so_some (se_var (i := 6)))) (se_var (i := 7))) (se_slice o_sl (s_sl _) (se_var (i := 4)) (so_some (se_var (i := 6))) so_none)) (sa_cons (se_op o_add (s_add _) (se_slice o_sl (s_sl _) (se_var (i := 4)) so_none (so_some (se_var (i := 6)))) (se_slice o_sl (s_sl _) (se_var (i := 4)) (so_some (se_op o_add (s_add _) (se_var (i := 6)) se_int)) so_none)) (sa_cons (se_op o_add (s_add _) (se_op o_add (s_add _) (se_slice o_sl (s_sl _) (se_var (i := 4)) so_none (so_some (se_var (i := 6)))) (se_var (i := 7))) (se_slice o_sl (s_sl _) (se_var (i := 4)) (so_some (se_op o_add (s_add _) (se_var (i := 6)) se_int)) so_none)) sa_nil))))) (sg_name (i := 8) nd)
    (ss_cons (ss_set (i := 9) nd (se_call G__law_read tk (hr.mono (by decide)) (by rfl) (T.g__law_read) K__law_read B__law_read (sa_cons (se_var (i := 8)) sa_nil)))
    (ss_one (ss_if (st_cmp (o_ne hu) (s_ne _) (se_callB (c_repr gd hu) (s_repr _) (by rfl) T.f_repr (by decide +kernel) (sa_cons (se_call G__law_told tk (hr.mono (by decide)) (by rfl) (T.g__law_told) K__law_told B__law_told (sa_cons se_int (sa_cons (se_var (i := 8)) sa_nil))) sa_nil)) (se_callB (c_repr gd hu) (s_repr _) (by rfl) T.f_repr (by decide +kernel) (sa_cons (se_if (st_w (sw_and (st_cmp op_notN (s_notN _) (se_var (i := 9)) se_non (nomark _)) (sw_and1 (st_cmp (o_eq hu) (s_eq _) (se_call G__law_written tk (hr.mono (by decide)) (by rfl) (T.g__law_written) K__law_written B__law_written (sa_cons (se_ix ix_seq (s_ix _) (se_var (i := 9)) se_int (fun _ _ => rfl)) sa_nil)) (se_var (i := 8)) (nomark _))))) (se_var (i := 9)) se_non) sa_nil)) (nomark _)) (ss_one (ss_ret se_bl)) ss_nil))))))))))))
    (ss_cons (ss_for hp rfl (si_new (sel_lst (sa_cons se_non (sa_cons se_str (sa_cons se_str (sa_cons se_str (sa_cons se_str (sa_cons se_str (sa_cons (se_lst (sa_cons se_int sa_nil)) (sa_cons (se_tup (sa_cons se_int (sa_cons se_non sa_nil))) (sa_cons (se_tup (sa_cons (se_tup (sa_cons se_non sa_nil)) sa_nil)) (sa_cons (se_lst (sa_cons se_str sa_nil)) (sa_cons (se_tup (sa_cons se_str (sa_cons (se_lst sa_nil) sa_nil))) (sa_cons se_str (sa_cons (se_tup (sa_cons se_str sa_nil)) sa_nil))))))))))))))) (sg_name (i := 10) nd)
    (ss_one (ss_if (st_cmp op_notN (s_notN _) (se_call G__law_told tk (hr.mono (by decide)) (by rfl) (T.g__law_told) K__law_told B__law_told (sa_cons se_int (sa_cons (se_var (i := 10)) sa_nil))) se_non (nomark _)) (ss_one (ss_ret se_bl)) ss_nil)))
    (ss_cons (ss_set (i := 11) nd (se_op o_mul (s_mul _) se_str se_int))
    (ss_cons (ss_if (st_w (sw_or (st_cmp (o_ne hu) (s_ne _) (se_call G__law_told tk (hr.mono (by decide)) (by rfl) (T.g__law_told) K__law_told B__law_told (sa_cons se_int (sa_cons (se_callTy (c_intN T.dig) (s_intN _) (by rfl) T.f_int (by decide +kernel) (sa_cons (se_var (i := 11)) sa_nil)) sa_nil))) (se_lst (sa_cons (se_var (i := 11)) sa_nil)) (nomark _)) (sw_or (st_cmp op_isN (s_isN _) (se_call G__law_told tk (hr.mono (by decide)) (by rfl) (T.g__law_told) K__law_told B__law_told (sa_cons se_int (sa_cons (se_op o_add (s_add _) se_str (se_var (i := 11))) sa_nil))) se_non (nomark _)) (sw_or (st_cmp op_notN (s_notN _) (se_call G__law_told tk (hr.mono (by decide)) (by rfl) (T.g__law_told) K__law_told B__law_told (sa_cons se_int (sa_cons (se_op o_add (s_add _) (se_var (i := 11)) se_str) sa_nil))) se_non (nomark _)) (sw_or1 (st_cmp op_notN (s_notN _) (se_call G__law_told tk (hr.mono (by decide)) (by rfl) (T.g__law_told) K__law_told B__law_told (sa_cons se_int (sa_cons (se_op o_add (s_add _) (se_callTy (c_intN T.dig) (s_intN _) (by rfl) T.f_int (by decide +kernel) (sa_cons (se_var (i := 11)) sa_nil)) se_int) sa_nil))) se_non (nomark _))))))) (ss_one (ss_ret se_bl)) ss_nil)
    (ss_cons (ss_set (i := 12) nd (se_tup sa_nil))
    (ss_cons (ss_for hp rfl (si_range1 (by rfl) T.f_range (sa_cons se_int sa_nil)) (sg_name (i := 2) nd)
    (ss_one (ss_set (i := 12) nd (se_tup (sa_cons (se_var (i := 12)) sa_nil)))))
    (ss_cons (ss_if (st_w (sw_or (st_cmp (o_ne hu) (s_ne _) (se_call G__law_told tk (hr.mono (by decide)) (by rfl) (T.g__law_told) K__law_told B__law_told (sa_cons se_int (sa_cons (se_var (i := 12)) sa_nil))) (se_lst (sa_cons (se_op o_add (s_add _) (se_op o_mul (s_mul _) se_str se_int) (se_op o_mul (s_mul _) se_str se_int)) sa_nil)) (nomark _)) (sw_or (st_cmp op_notN (s_notN _) (se_call G__law_told tk (hr.mono (by decide)) (by rfl) (T.g__law_told) K__law_told B__law_told (sa_cons se_int (sa_cons (se_tup (sa_cons (se_var (i := 12)) sa_nil)) sa_nil))) se_non (nomark _)) (sw_or1 (st_cmp op_notN (s_notN _) (se_call G__law_told tk (hr.mono (by decide)) (by rfl) (T.g__law_told) K__law_told B__law_told (sa_cons se_int (sa_cons (se_op o_add (s_add _) (se_op o_mul (s_mul _) se_str se_int) (se_op o_mul (s_mul _) se_str se_int)) sa_nil))) se_non (nomark _)))))) (ss_one (ss_ret se_bl)) ss_nil)
    (ss_one (ss_ret (se_and (se_cmp op_notN (s_notN _) (se_call G__law_told tk (hr.mono (by decide)) (by rfl) (T.g__law_told) K__law_told B__law_told (sa_cons se_int (sa_cons (se_op o_add (s_add _) (se_op o_mul (s_mul _) se_str se_int) (se_op o_mul (s_mul _) se_str se_int)) sa_nil))) se_non (nomark _)) (se_one (se_cmp (o_eq hu) (s_eq _) (se_lc (own := [("value", 13)]) (is := [13]) rfl nd (si_new (sel_lst (sa_cons se_non (sa_cons se_int (sa_cons (se_tup (sa_cons se_int sa_nil)) (sa_cons se_str (sa_cons se_str (sa_cons se_str (sa_cons se_str sa_nil))))))))) (blkOk_by (by rfl)) (by decide) (fun _ _ _ _ _ => (sg_name (i := 13) nd)) (fun _ _ _ _ _ => spt_nil) (fun _ _ _ _ _ => (se_call G__law_told takes0 (hr.mono (by decide)) (by rfl) (T.g__law_told) K__law_told B__law_told (sa_cons se_int (sa_cons (se_var (i := 13)) sa_nil))))) (se_op o_mul (s_mul _) (se_lst (sa_cons se_non sa_nil)) se_int) (nomark _))))))))))))))
end
end K53
set_option Elab.async false
set_option linter.all false
set_option maxRecDepth 100000
set_option maxHeartbeats 1000000
namespace SL
open PySem PySem.Spec PyProof.Rows L2
/-! ### running the functions, by rewriting -/
section
variable {α β : Type} {ρ : Sl} {h : List O}
@[simp] theorem sSeq_ap {m n : MS} : sSeq m n ρ h = (m ρ h).seq n := rfl
@[simp] theorem seq_nx {n : MS} : (RS.nx ρ h).seq n = n ρ h := rfl
@[simp] theorem seq_rt {n : MS} {d : D} : (RS.rt d h).seq n = .rt d h := rfl
@[simp] theorem seq_exc {n : MS} {c : Str} : (RS.exc c ρ h).seq n = .exc c ρ h := rfl
@[simp] theorem seq_bad {n : MS} : RS.bad.seq n = .bad := rfl
@[simp] theorem seq_bk {n : MS} : (RS.bk ρ h).seq n = .bk ρ h := rfl
@[simp] theorem seq_ct {n : MS} : (RS.ct ρ h).seq n = .ct ρ h := rfl
@[simp] theorem sNext_ap : sNext ρ h = .nx ρ h := rfl
@[simp] theorem sRet_ap {m : ME} : sRet m ρ h = (m ρ h).thn ρ fun d h1 => .rt d h1 := rfl
@[simp] theorem sRetN_ap : sRetN ρ h = .rt .non h := rfl
@[simp] theorem sExpr_ap {m : ME} : sExpr m ρ h = (m ρ h).thn ρ fun _ h1 => .nx ρ h1 := rfl
@[simp] theorem sSet_ap {i : Nat} {m : ME} : sSet i m ρ h = (m ρ h).thn ρ fun d h1 => .nx (ρ.set i (some d)) h1 := rfl
@[simp] theorem sIf_ap {c : M Bool} {m n : MS} : sIf c m n ρ h = (c ρ h).thn ρ fun b h1 => if b = true then m ρ h1 else n ρ h1 := rfl
@[simp] theorem sRaise_ap {c : Str} : sRaise c ρ h = .exc c ρ h := rfl
@[simp] theorem sFor_ap {src : MI} {g : GT} {body : MS} : sFor src g body ρ h = (src ρ h).thn ρ fun s h1 => forL g body s.2 s.1 ρ h1 := rfl
@[simp] theorem sAsg_ap {m : ME} {g : GT} : sAsg m g ρ h = (m ρ h).thn ρ fun d h1 => gtS g d ρ h1 RS.nx := rfl
@[simp] theorem sPar_ap {i j : Nat} {ms : M (List D)} : sPar i j ms ρ h = (ms ρ h).thn ρ fun ds h1 => par2 i j ds ρ h1 := rfl
@[simp] theorem par2_ap {i j : Nat} {a b : D} : par2 i j [a, b] ρ h = .nx ((ρ.set i (some a)).set j (some b)) h := rfl
@[simp] theorem sPar3_ap {i j l : Nat} {ms : M (List D)} : sPar3 i j l ms ρ h = (ms ρ h).thn ρ fun ds h1 => par3 i j l ds ρ h1 := rfl
@[simp] theorem par3_ap {i j l : Nat} {a b c : D} : par3 i j l [a, b, c] ρ h = .nx (((ρ.set i (some a)).set j (some b)).set l (some c)) h := rfl
@[simp] theorem mVar_ap {i : Nat} : mVar i ρ h = match ρ[i]? with
  | some (some d) => .ok d h
  | _ => .bad := rfl
@[simp] theorem mC_ap {d : D} : mC d ρ h = .ok d h := rfl
@[simp] theorem mOp_ap {f : F2} {a b : ME} : mOp f a b ρ h = (a ρ h).bind fun x h1 => (b ρ h1).bind fun y h2 => f x y h2 := rfl
@[simp] theorem mUn_ap {f : F1} {a : ME} : mUn f a ρ h = (a ρ h).bind fun x h1 => f x h1 := rfl
@[simp] theorem mTst_ap {m : ME} : mTst m ρ h = (m ρ h).bind asB := rfl
@[simp] theorem asB_ap {b : Bool} : asB (.bl b) h = .ok b h := rfl
@[simp] theorem mAnd_ap {a b : M Bool} : mAnd a b ρ h = (a ρ h).bind fun c h1 => if c = true then b ρ h1 else .ok false h1 := rfl
@[simp] theorem mOr_ap {a b : M Bool} : mOr a b ρ h = (a ρ h).bind fun c h1 => if c = true then .ok true h1 else b ρ h1 := rfl
@[simp] theorem mNot_ap {a : M Bool} : mNot a ρ h = (a ρ h).bind fun c h1 => .ok (!c) h1 := rfl
@[simp] theorem mIf_ap {c : M Bool} {a b : ME} : mIf c a b ρ h = (c ρ h).bind fun k h1 => if k = true then a ρ h1 else b ρ h1 := rfl
@[simp] theorem mAndV_ap {a b : ME} : mAndV a b ρ h = ((a ρ h).bind asB).bind fun c h1 => if c = true then b ρ h1 else .ok (.bl false) h1 := rfl
@[simp] theorem mOrV_ap {a b : ME} : mOrV a b ρ h = ((a ρ h).bind asB).bind fun c h1 => if c = true then .ok (.bl true) h1 else b ρ h1 := rfl
@[simp] theorem mNotV_ap {a : ME} : mNotV a ρ h = ((a ρ h).bind asB).bind fun c h1 => .ok (.bl (!c)) h1 := rfl
@[simp] theorem mChain_ap {f g : F2} {a b c : ME} : mChain f g a b c ρ h = (a ρ h).bind fun x h1 => (b ρ h1).bind fun y h2 => ((f x y h2).bind asB).bind fun k h3 => if k = true then (c ρ h3).bind fun z h4 => g y z h4 else .ok (.bl false) h3 := rfl
@[simp] theorem mNil_ap : mNil ρ h = .ok [] h := rfl
@[simp] theorem mCons_ap {m : ME} {ms : M (List D)} : mCons m ms ρ h = (m ρ h).bind fun d h1 => (ms ρ h1).bind fun ds h2 => .ok (d :: ds) h2 := rfl
@[simp] theorem mTup_ap {ms : M (List D)} : mTup ms ρ h = (ms ρ h).bind newTup := rfl
@[simp] theorem mLst_ap {ms : M (List D)} : mLst ms ρ h = (ms ρ h).bind newLst := rfl
@[simp] theorem mCB_ap {f : FA} {ms : M (List D)} : mCB f ms ρ h = (ms ρ h).bind f := rfl
@[simp] theorem mCBL_ap {f : FA} {ms : M (List D)} : mCBL f ms ρ h = (ms ρ h).bind f := rfl
@[simp] theorem mNew_ap {ms : M (List D)} : mNew ms ρ h = (ms ρ h).bind allocL := rfl
@[simp] theorem allocL_ap {ds : List D} : allocL ds h = .ok (.ref h.length) (h ++ [.lst ds]) := rfl
@[simp] theorem mNoPart_ap : mNoPart ρ h = .ok none h := rfl
@[simp] theorem mPart_ap {m : ME} : mPart m ρ h = (m ρ h).bind asI := rfl
@[simp] theorem asI_ap {i : Int} : asI (.int i) h = .ok (some i) h := rfl
@[simp] theorem mSl_ap {f : FSl} {m : ME} {l u : M (Option Int)} : mSl f m l u ρ h = (m ρ h).bind fun d h1 => (l ρ h1).bind fun l h2 => (u ρ h2).bind fun u h3 => f d l u h3 := rfl
@[simp] theorem mCall_ap {n : Nat} {F : FA} {ms : M (List D)} : mCall n F ms ρ h = (ms ρ h).bind fun ds h1 => if ds.length = n then F ds h1 else .bad := rfl
@[simp] theorem mMt_ap {ty : D → List O → Bool} {f : D → FA} {m : ME} {ms : M (List D)} : mMt ty f m ms ρ h = (m ρ h).bind fun d h1 => if ty d h1 = true then (ms ρ h1).bind fun ds h2 => f d ds h2 else .bad := rfl
@[simp] theorem mSrc_ap {f : D → List O → R Src} {m : ME} : mSrc f m ρ h = (m ρ h).bind f := rfl
@[simp] theorem mSrcA_ap {f : List D → List O → R Src} {m : M (List D)} : mSrcA f m ρ h = (m ρ h).bind f := rfl
@[simp] theorem mSrcN_ap {m : M (List D)} : mSrcN m ρ h = (m ρ h).bind fun ds h1 => .ok (ds, fun _ => true) h1 := rfl
@[simp] theorem capL_ap {m : M (List D)} : capL m ρ h = (m ρ h).bind fun ds h1 => if ds.length ≤ sizeLine then .ok ds h1 else .bad := rfl
@[simp] theorem mLcI_ap {src : MI} {vs : List Nat} {g : GT} {tt : M Bool} {te : ME} : mLcI src vs g tt te ρ h = (src ρ h).bind fun s h1 => if s.1.length ≤ sizeLine then compL g tt te s.2 (wipeD ρ vs) s.1 h1 else .bad := rfl
@[simp] theorem mDisp_ap {kvs : List (Str × D)} {m : ME} : mDisp kvs m ρ h = (m ρ h).bind (tabIx kvs) := rfl
@[simp] theorem mInTab_ap {kvs : List (Str × D)} {m : ME} : mInTab kvs m ρ h = (m ρ h).bind (tabIn kvs) := rfl
@[simp] theorem mDispGet_ap {kvs : List (Str × D)} {m n : ME} : mDispGet kvs m n ρ h = (m ρ h).bind fun d h1 => (n ρ h1).bind fun z h2 => match d with
  | .str x => .ok ((tabGet kvs x).getD z) h2
  | _ => .bad := rfl
@[simp] theorem mMeth_ap {c m : Str} {n : Nat} {F : FA} {o : ME} {ms : M (List D)} : mMeth c m n F o ms ρ h = (o ρ h).bind fun d h1 => if mMeth.insOf c m d h1 = true then (ms ρ h1).bind fun ds h2 => if (d :: ds).length = n then F (d :: ds) h2 else .bad else .bad := rfl
@[simp] theorem one1_ap {f : D → List O → R α} {d : D} : one1 f [d] h = f d h := rfl
@[simp] theorem gtName_ap {i : Nat} {d : D} : gtName i d ρ h = .ok (ρ.set i (some d)) h := rfl
@[simp] theorem gtS_name {i : Nat} {d : D} {k : Sl → List O → RS} : gtS (gtName i) d ρ h k = k (ρ.set i (some d)) h := rfl
@[simp] theorem newTup_ap {ds : List D} : newTup ds h = if ds.length ≤ sizeLine then .ok (.tup ds) h else .bad := rfl
@[simp] theorem newLst_ap {ds : List D} : newLst ds h = if ds.length ≤ sizeLine then .ok (.ref h.length) (h ++ [.lst ds]) else .bad := rfl
end
/-- items told without a change of the heap -/
theorem compL_map {i : Nat} {te : ME} {ρ : Sl} {f : D → D} {gd : List O → Bool} : ∀ {ds : List D} {h : List O}, gd h = true → (∀ d ∈ ds, te (ρ.set i (some d)) h = .ok (f d) h) → compL (gtName i) tYesD te gd ρ ds h = .ok (ds.map f) h
  | [], h, g, _ => by simp [compL, g]
  | d :: ds, h, g, hf => by
    have h1 := hf d List.mem_cons_self
    have h2 := compL_map (ds := ds) g fun x hx => hf x (List.mem_cons_of_mem _ hx)
    simp [compL, g, gtR, R.nox, tYesD, h1, h2]
theorem pureOr_ok {F : FA} {ds : List D} {d : D} {h h1 : List O} (e : F ds [] = .ok d h1) (hd : d.flat = true) (hf : D.flats ds = true) : pureOr F ds h = .ok d h := by
  unfold pureOr pureOf
  rw [if_pos hf, if_pos hf, e]
  exact if_pos hd
theorem pureOr_exc {F : FA} {ds : List D} {c : Str} {h h1 : List O} (e : F ds [] = .exc c h1) (hf : D.flats ds = true) : pureOr F ds h = .exc c h := by
  unfold pureOr pureOf
  rw [if_pos hf, if_pos hf, e]
theorem pureOr_all {F : FA} {ds : List D} {d : D} (e : ∀ h, F ds h = .ok d h) (hd : d.flat = true) (h : List O) : pureOr F ds h = .ok d h := by
  by_cases hf : D.flats ds = true
  · exact pureOr_ok (e []) hd hf
  · unfold pureOr
    rw [if_neg hf, e]
theorem pureOr_excA {F : FA} {ds : List D} {c : Str} (e : ∀ h, F ds h = .exc c h) (h : List O) : pureOr F ds h = .exc c h := by
  by_cases hf : D.flats ds = true
  · exact pureOr_exc (e []) hf
  · unfold pureOr
    rw [if_neg hf, e]
theorem pureOr_dir {F : FA} {ds : List D} (h : List O) (hf : D.flats ds = false) : pureOr F ds h = F ds h := by
  unfold pureOr
  rw [if_neg (by rw [hf]; exact Bool.false_ne_true)]
/-! ### texts -/
def T (t : List Nat) : Str := ⟨t.toArray⟩
@[simp] theorem T_cps (t : List Nat) : (T t).cps.toList = t := rfl
@[simp] theorem T_len (t : List Nat) : (T t).length = t.length := rfl
theorem T_inj {a b : List Nat} : T a = T b ↔ a = b := ⟨fun e => congrArg (fun z : Str => z.cps.toList) e, fun e => e ▸ rfl⟩
theorem T_of (z : Str) : z = T z.cps.toList := by cases z; rfl
@[simp] theorem T_app (a b : List Nat) : T a ++ T b = T (a ++ b) := by
  show Str.append (T a) (T b) = _
  unfold Str.append T
  simp
theorem T_dec (a b : List Nat) : decide (T a = T b) = decide (a = b) := by
  by_cases e : a = b
  · simp [e]
  · have : ¬ T a = T b := fun q => e (T_inj.mp q)
    simp [e, this]
theorem cut_to (t : List Nat) (i : Nat) : cutS (T t) none (some (i : Int)) = T (t.take i) := by
  unfold cutS
  simp only [HT.sIx_none, HT.sIx_nat, T_len, T_cps, List.drop_zero, Nat.sub_zero]
  unfold T
  congr 2
  by_cases h : i ≤ t.length
  · rw [Nat.min_eq_left h]
  · rw [Nat.min_eq_right (by omega), List.take_of_length_le (Nat.le_refl _), List.take_of_length_le (by omega)]
theorem cut_from (t : List Nat) (i : Nat) : cutS (T t) (some (i : Int)) none = T (t.drop i) := by
  unfold cutS
  simp only [HT.sIx_none, HT.sIx_nat, T_len, T_cps]
  unfold T
  congr 2
  by_cases h : i ≤ t.length
  · rw [Nat.min_eq_left h, List.take_of_length_le (by simp)]
  · rw [Nat.min_eq_right (by omega), List.drop_eq_nil_of_le (by omega), List.drop_eq_nil_of_le (by omega)]
    simp
theorem cut_mid (t : List Nat) (i j : Nat) (hij : i ≤ j) (hj : j ≤ t.length) : cutS (T t) (some (i : Int)) (some (j : Int)) = T ((t.drop i).take (j - i)) := by
  unfold cutS
  simp only [HT.sIx_nat, T_len, T_cps]
  unfold T
  rw [Nat.min_eq_left hj, Nat.min_eq_left (Nat.le_trans hij hj)]
end SL
set_option Elab.async false
set_option linter.all false
set_option maxRecDepth 100000
set_option maxHeartbeats 1000000
namespace K53
open PySem PySem.Spec PyProof.Rows L2 SL
def low (c : Nat) : Bool := decide (97 ≤ c) && decide (c ≤ 122)
def dig (c : Nat) : Bool := decide (48 ≤ c) && decide (c ≤ 57)
theorem low_mem (c : Nat) : decide (c ∈ ("abcdefghijklmnopqrstuvwxyz" : Str).cps.toList) = low c := by
  have e : ("abcdefghijklmnopqrstuvwxyz" : Str).cps.toList = (List.range 26).map (· + 97) := by decide +kernel
  rw [e]
  unfold low
  rw [Bool.eq_iff_iff]
  simp only [decide_eq_true_eq, Bool.and_eq_true, List.mem_map, List.mem_range]
  constructor
  · rintro ⟨a, h1, h2⟩
    omega
  · intro h
    exact ⟨c - 97, by omega, by omega⟩
theorem dig_mem (c : Nat) : decide (c ∈ ("0123456789" : Str).cps.toList) = dig c := by
  have e : ("0123456789" : Str).cps.toList = (List.range 10).map (· + 48) := by decide +kernel
  rw [e]
  unfold dig
  rw [Bool.eq_iff_iff]
  simp only [decide_eq_true_eq, Bool.and_eq_true, List.mem_map, List.mem_range]
  constructor
  · rintro ⟨a, h1, h2⟩
    omega
  · intro h
    exact ⟨c - 48, by omega, by omega⟩
/-- a word -/
def wordC (t : List Nat) : Bool := decide (1 ≤ t.length) && (decide (t.length ≤ 12) && (low (t.headD 0) && t.all fun c => low c || dig c))
theorem inD_sign (c : Nat) (z : Str) (h : List O) : inD (.str ⟨#[c]⟩) (.str z) h = some (decide (c ∈ z.cps.toList)) := rfl
theorem fIn_sign (c : Nat) (z : Str) (h : List O) : fIn (.str ⟨#[c]⟩) (.str z) h = .ok (.bl (decide (c ∈ z.cps.toList))) h := rfl
theorem fNotIn_sign (c : Nat) (z : Str) (h : List O) : fNotIn (.str ⟨#[c]⟩) (.str z) h = .ok (.bl (!decide (c ∈ z.cps.toList))) h := rfl
theorem fIn_low (c : Nat) (h : List O) : fIn (.str ⟨#[c]⟩) (.str "abcdefghijklmnopqrstuvwxyz") h = .ok (.bl (low c)) h := by rw [fIn_sign, low_mem]
theorem fIn_dig (c : Nat) (h : List O) : fIn (.str ⟨#[c]⟩) (.str "0123456789") h = .ok (.bl (dig c)) h := by rw [fIn_sign, dig_mem]
theorem fNotIn_low (c : Nat) (h : List O) : fNotIn (.str ⟨#[c]⟩) (.str "abcdefghijklmnopqrstuvwxyz") h = .ok (.bl (!low c)) h := by rw [fNotIn_sign, low_mem]
theorem fNotIn_dig (c : Nat) (h : List O) : fNotIn (.str ⟨#[c]⟩) (.str "0123456789") h = .ok (.bl (!dig c)) h := by rw [fNotIn_sign, dig_mem]
theorem fIx_first (c : Nat) (r : List Nat) (h : List O) (hl : (c :: r).length ≤ sizeLine) : fIx (.str (T (c :: r))) (.int 0) h = .ok (.str ⟨#[c]⟩) h := by
  have e : atI (c :: r) (0 : Int) = some c := by
    unfold atI ixN
    simp
  show (if (T (c :: r)).length ≤ sizeLine then (match atI (c :: r) (0 : Int) with
    | some c => R.ok (D.str ⟨#[c]⟩) h
    | none => .bad) else .bad) = _
  rw [if_pos (show (T (c :: r)).length ≤ sizeLine from hl), e]
theorem fLen_T (t : List Nat) (h : List O) (hl : t.length ≤ sizeLine) : fLen [D.str (T t)] h = .ok (.int t.length) h := by
  show (if (T t).length ≤ sizeLine then _ else _) = _
  rw [if_pos (show (T t).length ≤ sizeLine from hl)] <;> rfl
theorem fLe_int (i j : Int) (h : List O) : fLe (.int i) (.int j) h = .ok (.bl (decide (i ≤ j))) h := rfl
theorem fLt_int (i j : Int) (h : List O) : fLt (.int i) (.int j) h = .ok (.bl (decide (i < j))) h := rfl
theorem isi_str (z : Str) (h : List O) : fIsi [D.str z, .ty "str"] h = .ok (.bl true) h := rfl
theorem getBools_all (l : List Nat) (f : Nat → Bool) : getBools (l.map fun c => D.bl (f c)) = some (l.map f) := by
  rw [show (l.map fun c => D.bl (f c)) = (l.map f).map D.bl by rw [List.map_map]; rfl]
  exact getBools_map _
def wordD (d : D) : D := match d with
  | .str z => .bl (low (z.cps.toList.headD 0) || dig (z.cps.toList.headD 0))
  | _ => .non
theorem all_word (t : List Nat) (h : List O) : fAll ((t.map fun c => D.str ⟨#[c]⟩).map wordD) h = .ok (.bl (t.all fun c => low c || dig c)) h := by
  unfold fAll
  rw [List.map_map]
  have e := getBools_all t fun c => low c || dig c
  rw [show (t.map (wordD ∘ fun c => D.str ⟨#[c]⟩)) = t.map fun c => D.bl (low c || dig c) from rfl, e]
  simp
theorem signs_src (t : List Nat) (h : List O) : srcStr (.str (T t)) h = .ok (t.map fun c => D.str ⟨#[c]⟩, fun _ => true) h := rfl
theorem is_word_run (t : List Nat) (h : List O) (hl : t.length ≤ sizeLine) : runDef 2 m_is_word [.str (T t)] h = .ok (.bl (wordC t)) h := by
  unfold runDef m_is_word
  rw [show startD 2 [D.str (T t)] = [some (.str (T t)), none] from rfl]
  cases t with
  | nil => simp [isi_str, fLen_T _ _ hl, fLe_int, wordC]
  | cons c r =>
    have cm : ∀ h, compL (gtName 1) tYesD (mOrV (mOp fIn (mVar 1) (mC (.str "abcdefghijklmnopqrstuvwxyz"))) (mOp fIn (mVar 1) (mC (.str "0123456789")))) (fun _ => true) (wipeD [some (.str (T (c :: r))), none] [1]) ((c :: r).map fun c => D.str ⟨#[c]⟩) h = .ok _ h := fun h =>
      compL_map (f := wordD) rfl fun d hd => by
          obtain ⟨x, _, rfl⟩ := List.mem_map.mp hd
          show _ = R.ok (D.bl (low x || dig x)) h
          simp [wipeD, fIn_low, fIn_dig]
          cases low x <;> simp
    have cl : ((c :: r).map fun c => D.str ⟨#[c]⟩).length ≤ sizeLine := by rw [List.length_map]; exact hl
    by_cases h12 : (c :: r).length ≤ 12
    · have i12 : ((c :: r).length : Int) ≤ 12 := by omega
      have i1 : (1 : Int) ≤ ((c :: r).length : Int) := by rw [List.length_cons]; omega
      cases hw : low c
      · simp only [sSeq_ap, sIf_ap, mOr_ap, mNot_ap, mTst_ap, mCB_ap, mCons_ap, mVar_ap, mC_ap, mNil_ap, mChain_ap, mOp_ap, sRet_ap, List.getElem?_cons_zero, isi_str, fLen_T _ _ hl, fLe_int, fIx_first c r _ hl, fNotIn_low, hw, R.bind_ok, R.thn_ok, asB_ap, i12, i1, decide_true, if_true, Bool.not_true, Bool.not_false, Bool.false_eq_true, if_false, seq_rt]
        unfold wordC
        rw [List.headD_cons, hw]
        simp
      · simp only [sSeq_ap, sIf_ap, mOr_ap, mNot_ap, mTst_ap, mCB_ap, mCons_ap, mVar_ap, mC_ap, mNil_ap, mChain_ap, mOp_ap, sRet_ap, List.getElem?_cons_zero, isi_str, fLen_T _ _ hl, fLe_int, fIx_first c r _ hl, fNotIn_low, hw, R.bind_ok, R.thn_ok, asB_ap, i12, i1, decide_true, if_true, Bool.not_true, Bool.not_false, Bool.false_eq_true, if_false, seq_nx, sNext_ap, mCBL_ap, mLcI_ap, mSrc_ap, signs_src]
        rw [if_pos cl, cm, R.bind_ok, all_word]
        unfold wordC
        rw [List.headD_cons, hw]
        simp only [R.thn_ok]
        have k1 : decide (1 ≤ (c :: r).length) = true := by simp
        rw [k1, decide_eq_true h12]
        simp
    · have i12 : ¬ ((c :: r).length : Int) ≤ 12 := by omega
      have i1 : (1 : Int) ≤ ((c :: r).length : Int) := by rw [List.length_cons]; omega
      simp only [sSeq_ap, sIf_ap, mOr_ap, mNot_ap, mTst_ap, mCB_ap, mCons_ap, mVar_ap, mC_ap, mNil_ap, mChain_ap, mOp_ap, sRet_ap, List.getElem?_cons_zero, isi_str, fLen_T _ _ hl, fLe_int, R.bind_ok, R.thn_ok, asB_ap, i12, i1, decide_true, decide_false, if_true, Bool.not_true, Bool.not_false, Bool.false_eq_true, if_false, seq_rt]
      unfold wordC
      rw [decide_eq_false h12]
      simp
end K53
set_option Elab.async false
set_option linter.all false
set_option maxRecDepth 100000
set_option maxHeartbeats 1000000
namespace K53
open PySem PySem.Spec PyProof.Rows L2 SL PySem.NumText
theorem is_word_str (t : List Nat) (h : List O) (hl : t.length ≤ sizeLine) : F_is_word [.str (T t)] h = .ok (.bl (wordC t)) h :=
  pureOr_all (fun h => is_word_run t h hl) rfl h
theorem is_word_no (d : D) (h : List O) (n : String) (hn : tyName d h = some n) (hs : n = "tuple" ∨ n = "int" ∨ n = "bool" ∨ n = "NoneType" ∨ n = "list") : runDef 2 m_is_word [d] h = .ok (.bl false) h := by
  have i0 : fIsi [d, .ty "str"] h = .ok (.bl false) h := by
    unfold fIsi
    simp only [hn]
    rcases hs with e | e | e | e | e <;> (subst e; rfl)
  unfold runDef m_is_word
  rw [show startD 2 [d] = [some d, none] from rfl]
  simp only [sSeq_ap, seq_nx, seq_rt, seq_exc, seq_bad, sNext_ap, sRet_ap, sRetN_ap, sExpr_ap, sSet_ap, sIf_ap, sRaise_ap, sFor_ap, sAsg_ap, sPar_ap, par2_ap, sPar3_ap, par3_ap, mVar_ap, mC_ap, mOp_ap, mUn_ap, mTst_ap, asB_ap, mAnd_ap, mOr_ap, mNot_ap, mIf_ap, mAndV_ap, mOrV_ap, mNotV_ap, mChain_ap, mNil_ap, mCons_ap, mTup_ap, mLst_ap, mCB_ap, mCBL_ap, mNew_ap, allocL_ap, mNoPart_ap, mPart_ap, asI_ap, mSl_ap, mCall_ap, mMt_ap, mSrc_ap, mSrcA_ap, mSrcN_ap, capL_ap, mLcI_ap, mDisp_ap, mInTab_ap, mDispGet_ap, mMeth_ap, one1_ap, gtName_ap, gtS_name, R.bind_ok, R.bind_exc, R.bind_bad, R.thn_ok, R.thn_exc, R.thn_bad, List.getElem?_cons_zero, List.getElem?_cons_succ, List.set_cons_zero, List.set_cons_succ, if_true, Bool.not_true, Bool.not_false, Bool.false_eq_true, if_false, decide_true, decide_false, i0]
theorem is_word_other (d : D) (n : String) (hn : ∀ h, tyName d h = some n) (hs : n = "tuple" ∨ n = "int" ∨ n = "bool" ∨ n = "NoneType" ∨ n = "list") (h : List O) : F_is_word [d] h = .ok (.bl false) h :=
  pureOr_all (fun h => is_word_no d h n (hn h) hs) rfl h
/-! ### numbers of the text -/
def bodyOf (t : List Nat) : List Nat := if t.take 1 = [45] then t.drop 1 else t
def numC (t : List Nat) : Bool := !(bodyOf t).isEmpty && ((bodyOf t).all dig && !(decide ((bodyOf t).headD 0 = 48) && !decide (t = [48])))
def txtI (i : Int) : List Nat := (Str.ofString (toString i)).cps.toList
theorem str_txtI (i : Int) : Str.ofString (toString i) = T (txtI i) := T_of _
theorem digs_of {t : List Nat} (h : t.all dig = true) : AllDigits t := by
  intro c hc
  have h1 := List.all_eq_true.mp h c hc
  unfold dig at h1
  simp only [Bool.and_eq_true, decide_eq_true_eq] at h1
  exact h1
theorem back_digits {t : List Nat} (h : AllDigits t) : (t.map Char.ofNat).map Char.toNat = t := by
  rw [List.map_map]
  conv => rhs; rw [← List.map_id t]
  refine List.map_congr_left fun c hc => ?_
  obtain ⟨h1, h2⟩ := h c hc
  show (Char.ofNat c).toNat = c
  have e : ∀ n : Nat, n < 58 → (Char.ofNat n).toNat = n := by decide
  exact e c (by omega)
theorem txt_nat {t : List Nat} (h : AllDigits t) (h0 : t ≠ []) (hz : t = [48] ∨ t.headD 0 ≠ 48) : Str.ofString (toString ((digitsVal t : Nat) : Int)) = T t := by
  cases t with
  | nil => exact absurd rfl h0
  | cons c r =>
    have e : Nat.toDigits 10 (digitsVal (c :: r)) = (c :: r).map Char.ofNat := by
      refine toDigits_digitsVal r.length (c :: r) rfl h ?_
      rcases hz with hz | hz
      · left
        have := congrArg List.length hz
        simpa using this
      · right
        have := (h c List.mem_cons_self).1
        exact ⟨c, r, rfl, by have hz' : c ≠ 48 := hz; omega⟩
    have e2 := text_ofNat (digitsVal (c :: r))
    rw [e, back_digits h] at e2
    exact e2
theorem txt_neg {t : List Nat} (h : AllDigits t) (h0 : t ≠ []) (hz : t.headD 0 ≠ 48) : Str.ofString (toString (-((digitsVal t : Nat) : Int))) = T (45 :: t) := by
  have e1 := txt_nat h h0 (.inr hz)
  have hp : 0 < digitsVal t := by
    cases t with
    | nil => exact absurd rfl h0
    | cons c r =>
      have := (h c List.mem_cons_self).1
      have hz' : c ≠ 48 := hz
      exact digitsVal_pos (by omega)
  obtain ⟨m, em⟩ := Nat.exists_eq_succ_of_ne_zero (Nat.ne_of_gt hp)
  rw [em] at e1 ⊢
  have e3 : toString (-((m.succ : Nat) : Int)) = "-" ++ toString ((m.succ : Nat) : Int) := rfl
  rw [e3]
  have e4 : ∀ s : String, (Str.ofString ("-" ++ s)).cps.toList = 45 :: (Str.ofString s).cps.toList := by
    intro s
    rw [signs_ofString, signs_ofString]
    simp
  rw [T_of (Str.ofString _), e4, e1]
  rfl
theorem num_val {t : List Nat} (h : numC t = true) (hl : t.length ≤ 4300) : ∃ n : Int, PySem.intText? (T t) = some n ∧ Str.ofString (toString n) = T t := by
  unfold numC at h
  simp only [Bool.and_eq_true, Bool.not_eq_true', Bool.and_eq_false_iff, decide_eq_false_iff_not, Bool.not_eq_false', decide_eq_true_eq, List.isEmpty_eq_false_iff] at h
  obtain ⟨h1, h2, h3⟩ := h
  by_cases hm : t.take 1 = [45]
  · have eb : bodyOf t = t.drop 1 := if_pos hm
    cases t with
    | nil => cases hm
    | cons c r =>
      have ec : c = 45 := by simpa using hm
      subst ec
      rw [eb] at h1 h2 h3
      have h1' : r ≠ [] := h1
      have h2' : AllDigits r := digs_of h2
      have hz : r.headD 0 ≠ 48 := by
        rcases h3 with h3 | h3
        · exact h3
        · cases h3
      exact ⟨_, intText_neg (x := T (45 :: r)) rfl h2' h1' hl, txt_neg h2' h1' hz⟩
  · have eb : bodyOf t = t := if_neg hm
    rw [eb] at h1 h2 h3
    have h2' : AllDigits t := digs_of h2
    exact ⟨_, intText_digits (x := T t) h2' h1 hl, txt_nat h2' h1 (h3.elim .inr .inl)⟩
end K53
set_option Elab.async false
set_option linter.all false
set_option maxRecDepth 100000
set_option maxHeartbeats 1000000
namespace K53
open PySem PySem.Spec PyProof.Rows L2 SL PySem.NumText
theorem lit_dash : ("-" : Str) = T [45] := by decide +kernel
theorem lit_zero : ("0" : Str) = T [48] := by decide +kernel
theorem lit_nil : ("" : Str) = T [] := by decide +kernel
theorem lit_plus : ("+" : Str) = T [43] := by decide +kernel
theorem lit_dot : ("." : Str) = T [46] := by decide +kernel
theorem lit_open : ("[" : Str) = T [91] := by decide +kernel
theorem lit_close : ("]" : Str) = T [93] := by decide +kernel
theorem lit_comma : ("," : Str) = T [44] := by decide +kernel
theorem one_T (c : Nat) : (⟨#[c]⟩ : Str) = T [c] := rfl
theorem fEq_T (a b : List Nat) (h : List O) : fEq (.str (T a)) (.str (T b)) h = .ok (.bl (decide (a = b))) h := by
  show R.ok (D.bl (decide (T a = T b))) h = _
  rw [T_dec]
theorem fNe_T (a b : List Nat) (h : List O) : fNe (.str (T a)) (.str (T b)) h = .ok (.bl (!decide (a = b))) h := by
  unfold fNe
  rw [fEq_T]
theorem fSl_T (t : List Nat) (lo hi : Option Int) (h : List O) (hl : t.length ≤ sizeLine) : fSl (.str (T t)) lo hi h = .ok (.str (cutS (T t) lo hi)) h := by
  show (if (T t).length ≤ sizeLine then _ else _) = _
  rw [if_pos (show (T t).length ≤ sizeLine from hl)]
theorem cut_to1 (t : List Nat) : cutS (T t) none (some 1) = T (t.take 1) := cut_to t 1
theorem cut_from1 (t : List Nat) : cutS (T t) (some 1) none = T (t.drop 1) := cut_from t 1
/-- the body of a number's text -/
theorem body_run (t : List Nat) (h : List O) (o1 o2 : Option D) (hl : t.length ≤ sizeLine) : mIf (mTst (mOp fEq (mSl fSl (mVar 0) mNoPart (mPart (mC (.int 1)))) (mC (.str "-")))) (mSl fSl (mVar 0) (mPart (mC (.int 1))) mNoPart) (mVar 0) [some (.str (T t)), o1, o2] h = .ok (.str (T (bodyOf t))) h := by
  simp only [sSeq_ap, seq_nx, seq_rt, seq_exc, seq_bad, sNext_ap, sRet_ap, sRetN_ap, sExpr_ap, sSet_ap, sIf_ap, sRaise_ap, sFor_ap, sAsg_ap, sPar_ap, par2_ap, sPar3_ap, par3_ap, mVar_ap, mC_ap, mOp_ap, mUn_ap, mTst_ap, asB_ap, mAnd_ap, mOr_ap, mNot_ap, mIf_ap, mAndV_ap, mOrV_ap, mNotV_ap, mChain_ap, mNil_ap, mCons_ap, mTup_ap, mLst_ap, mCB_ap, mCBL_ap, mNew_ap, allocL_ap, mNoPart_ap, mPart_ap, asI_ap, mSl_ap, mCall_ap, mMt_ap, mSrc_ap, mSrcA_ap, mSrcN_ap, capL_ap, mLcI_ap, mDisp_ap, mInTab_ap, mDispGet_ap, mMeth_ap, one1_ap, gtName_ap, gtS_name, R.bind_ok, R.bind_exc, R.bind_bad, R.thn_ok, R.thn_exc, R.thn_bad, List.getElem?_cons_zero, List.getElem?_cons_succ, List.set_cons_zero, List.set_cons_succ, if_true, Bool.not_true, Bool.not_false, Bool.false_eq_true, if_false, decide_true, decide_false, fSl_T _ _ _ _ hl, cut_to1, cut_from1, lit_dash, fEq_T]
  unfold bodyOf
  by_cases e : t.take 1 = [45]
  · rw [if_pos e, decide_eq_true e]
    rfl
  · rw [if_neg e, decide_eq_false e]
    rfl
theorem all_dig (t : List Nat) (h : List O) : fAll ((t.map fun c => D.str ⟨#[c]⟩).map fun d => match d with
    | .str z => .bl (dig (z.cps.toList.headD 0))
    | _ => .non) h = .ok (.bl (t.all dig)) h := by
  unfold fAll
  rw [List.map_map]
  have e := getBools_all t dig
  rw [show (t.map ((fun d => match d with
    | .str z => .bl (dig (z.cps.toList.headD 0))
    | _ => .non) ∘ fun c => D.str ⟨#[c]⟩)) = t.map fun c => D.bl (dig c) from rfl, e]
  simp
theorem any_ndig (t : List Nat) (h : List O) : fAny ((t.map fun c => D.str ⟨#[c]⟩).map fun d => match d with
    | .str z => .bl (!dig (z.cps.toList.headD 0))
    | _ => .non) h = .ok (.bl (!t.all dig)) h := by
  unfold fAny
  rw [List.map_map]
  have e := getBools_all t fun c => !dig c
  rw [show (t.map ((fun d => match d with
    | .str z => .bl (!dig (z.cps.toList.headD 0))
    | _ => .non) ∘ fun c => D.str ⟨#[c]⟩)) = t.map fun c => D.bl (!dig c) from rfl, e]
  simp only [R.ok.injEq, D.bl.injEq, and_true]
  clear e
  induction t with
  | nil => rfl
  | cons c r ih =>
    rw [List.map_cons, List.any_cons, List.all_cons, ih]
    cases dig c <;> rfl
theorem digs_run (b : List Nat) (ρ : Sl) (h : List O) (hb : ρ[1]? = some (some (.str (T b)))) (h3 : 2 < ρ.length) (hl : b.length ≤ sizeLine) : mCBL fAll (mLcI (mSrc srcStr (mVar 1)) [2] (gtName 2) tYesD (mOp fIn (mVar 2) (mC (.str "0123456789")))) ρ h = .ok (.bl (b.all dig)) h := by
  have cl : (b.map fun c => D.str ⟨#[c]⟩).length ≤ sizeLine := by rw [List.length_map]; exact hl
  have cm := compL_map (i := 2) (te := mOp fIn (mVar 2) (mC (.str "0123456789"))) (ρ := wipeD ρ [2]) (gd := fun _ => true) (ds := b.map fun c => D.str ⟨#[c]⟩) (h := h) (f := fun d => match d with
        | .str z => .bl (dig (z.cps.toList.headD 0))
        | _ => .non) rfl fun d hd => by
          obtain ⟨x, _, rfl⟩ := List.mem_map.mp hd
          simp [wipeD, fIn_dig, h3]
  simp only [mCBL_ap, mLcI_ap, mSrc_ap, mVar_ap, hb, R.bind_ok, signs_src]
  rw [if_pos cl, cm, R.bind_ok, all_dig]
theorem ndigs_run (b : List Nat) (ρ : Sl) (h : List O) (hb : ρ[1]? = some (some (.str (T b)))) (h3 : 2 < ρ.length) (hl : b.length ≤ sizeLine) : mCBL fAny (mLcI (mSrc srcStr (mVar 1)) [2] (gtName 2) tYesD (mOp fNotIn (mVar 2) (mC (.str "0123456789")))) ρ h = .ok (.bl (!b.all dig)) h := by
  have cl : (b.map fun c => D.str ⟨#[c]⟩).length ≤ sizeLine := by rw [List.length_map]; exact hl
  have cm := compL_map (i := 2) (te := mOp fNotIn (mVar 2) (mC (.str "0123456789"))) (ρ := wipeD ρ [2]) (gd := fun _ => true) (ds := b.map fun c => D.str ⟨#[c]⟩) (h := h) (f := fun d => match d with
        | .str z => .bl (!dig (z.cps.toList.headD 0))
        | _ => .non) rfl fun d hd => by
          obtain ⟨x, _, rfl⟩ := List.mem_map.mp hd
          simp [wipeD, fNotIn_dig, h3]
  simp only [mCBL_ap, mLcI_ap, mSrc_ap, mVar_ap, hb, R.bind_ok, signs_src]
  rw [if_pos cl, cm, R.bind_ok, any_ndig]
/-- the number told by a text -/
def numR (t : List Nat) : Option Int := if numC t = true then PySem.intText? (T t) else none
theorem body_len (t : List Nat) : (bodyOf t).length ≤ t.length := by
  unfold bodyOf
  split
  · rw [List.length_drop]
    omega
  · exact Nat.le_refl _
theorem fIntN_T {t : List Nat} {n : Int} (h : List O) (e : PySem.intText? (T t) = some n) (hl : t.length ≤ sizeLine) : fIntN [.str (T t)] h = .ok (.int n) h := by
  show (match PySem.intText? (T t) with
    | some n => if (T t).length ≤ sizeLine then R.ok (D.int n) h else .bad
    | none => .bad) = _
  rw [e]
  exact if_pos hl
theorem read_whole_run (t : List Nat) (h : List O) (hl1 : t.length ≤ 4100) (hl : (bodyOf t).length ≤ 4000) : runDef 3 m_read_whole [.str (T t)] h = match numR t with
    | some n => .ok (.int n) h
    | none => .exc "Malformed" h := by
  have hs : t.length ≤ sizeLine := by rw [sizeLine_eq]; omega
  have hbl := body_len t
  have hbs : (bodyOf t).length ≤ sizeLine := Nat.le_trans hbl hs
  unfold runDef m_read_whole
  rw [show startD 3 [D.str (T t)] = [some (.str (T t)), none, none] from rfl, sSeq_ap, sSet_ap, body_run t h none none hs]
  simp only [R.thn_ok, seq_nx, List.set_cons_succ, List.set_cons_zero]
  rw [sSeq_ap, sIf_ap, mOr_ap]
  have ds := digs_run (bodyOf t) [some (.str (T t)), some (.str (T (bodyOf t))), none] h rfl (by simp) hbs
  simp only [mNot_ap, mTst_ap, mChain_ap, mC_ap, R.bind_ok, mCB_ap, mCons_ap, mVar_ap, List.getElem?_cons_succ, List.getElem?_cons_zero, mNil_ap, fLen_T _ _ hbs, fLe_int, asB_ap, ds]
  cases hb : bodyOf t with
  | nil =>
    have en : numR t = none := by unfold numR numC; rw [hb]; rfl
    rw [en]
    rfl
  | cons c r =>
    have hz : (c :: r).length ≤ 4000 := by rw [← hb]; exact hl
    have i1 : (1 : Int) ≤ ((c :: r).length : Int) := by rw [List.length_cons]; omega
    have i2 : ((c :: r).length : Int) ≤ 4000 := by omega
    rw [hb] at ds
    simp only [i1, i2, decide_true, if_true, R.bind_ok, asB_ap, Bool.not_true, Bool.false_eq_true, if_false, ds]
    cases hd : (c :: r).all dig with
    | false =>
      have en : numR t = none := by unfold numR numC; rw [hb, hd]; rfl
      rw [en]
      rfl
    | true =>
      rw [hb] at hbs
      simp only [Bool.not_true, Bool.false_eq_true, if_false, R.thn_ok, sNext_ap, seq_nx]
      rw [sSeq_ap, sIf_ap, mAnd_ap]
      simp only [sSeq_ap, seq_nx, seq_rt, seq_exc, seq_bad, sNext_ap, sRet_ap, sRetN_ap, sExpr_ap, sSet_ap, sIf_ap, sRaise_ap, sFor_ap, sAsg_ap, sPar_ap, par2_ap, sPar3_ap, par3_ap, mVar_ap, mC_ap, mOp_ap, mUn_ap, mTst_ap, asB_ap, mAnd_ap, mOr_ap, mNot_ap, mIf_ap, mAndV_ap, mOrV_ap, mNotV_ap, mChain_ap, mNil_ap, mCons_ap, mTup_ap, mLst_ap, mCB_ap, mCBL_ap, mNew_ap, allocL_ap, mNoPart_ap, mPart_ap, asI_ap, mSl_ap, mCall_ap, mMt_ap, mSrc_ap, mSrcA_ap, mSrcN_ap, capL_ap, mLcI_ap, mDisp_ap, mInTab_ap, mDispGet_ap, mMeth_ap, one1_ap, gtName_ap, gtS_name, R.bind_ok, R.bind_exc, R.bind_bad, R.thn_ok, R.thn_exc, R.thn_bad, List.getElem?_cons_zero, List.getElem?_cons_succ, List.set_cons_zero, List.set_cons_succ, if_true, Bool.not_true, Bool.not_false, Bool.false_eq_true, if_false, decide_true, decide_false, fIx_first c r _ hbs, one_T, lit_zero, fEq_T, fNe_T]
      by_cases e0 : c = 48
      · subst e0
        by_cases e1 : t = [48]
        · obtain ⟨n, hn, _⟩ := num_val (t := t) (by unfold numC; rw [hb, hd, e1]; rfl) (by omega)
          have en : numR t = some n := by unfold numR; rw [if_pos (by unfold numC; rw [hb, hd, e1]; rfl), hn]
          rw [en]
          have e3 : decide (t = [48]) = true := decide_eq_true e1
          have e4 : decide (([48] : List Nat) = [48]) = true := by decide
          simp only [sSeq_ap, seq_nx, seq_rt, seq_exc, seq_bad, sNext_ap, sRet_ap, sRetN_ap, sExpr_ap, sSet_ap, sIf_ap, sRaise_ap, sFor_ap, sAsg_ap, sPar_ap, par2_ap, sPar3_ap, par3_ap, mVar_ap, mC_ap, mOp_ap, mUn_ap, mTst_ap, asB_ap, mAnd_ap, mOr_ap, mNot_ap, mIf_ap, mAndV_ap, mOrV_ap, mNotV_ap, mChain_ap, mNil_ap, mCons_ap, mTup_ap, mLst_ap, mCB_ap, mCBL_ap, mNew_ap, allocL_ap, mNoPart_ap, mPart_ap, asI_ap, mSl_ap, mCall_ap, mMt_ap, mSrc_ap, mSrcA_ap, mSrcN_ap, capL_ap, mLcI_ap, mDisp_ap, mInTab_ap, mDispGet_ap, mMeth_ap, one1_ap, gtName_ap, gtS_name, R.bind_ok, R.bind_exc, R.bind_bad, R.thn_ok, R.thn_exc, R.thn_bad, List.getElem?_cons_zero, List.getElem?_cons_succ, List.set_cons_zero, List.set_cons_succ, if_true, Bool.not_true, Bool.not_false, Bool.false_eq_true, if_false, decide_true, decide_false, e3, e4, fIntN_T h hn hs]
        · have en : numR t = none := by
            unfold numR numC
            rw [hb, hd]
            simp [e1]
          rw [en]
          simp [e1]
      · have nc : numC t = true := by unfold numC; rw [hb, hd]; simp [e0]
        obtain ⟨n, hn, _⟩ := num_val (t := t) nc (by omega)
        have en : numR t = some n := by unfold numR; rw [if_pos nc, hn]
        rw [en]
        have e2 : ([c] = [48]) = False := by simp [e0]
        simp [e0, fIntN_T h hn hs]
theorem read_whole_T2 (t : List Nat) (h : List O) (hl1 : t.length ≤ 4100) (hl : (bodyOf t).length ≤ 4000) : F_read_whole [.str (T t)] h = match numR t with
    | some n => .ok (.int n) h
    | none => .exc "Malformed" h := by
  have e := fun h => read_whole_run t h hl1 hl
  cases q : numR t with
  | none =>
    rw [q] at e
    exact pureOr_excA e h
  | some n =>
    rw [q] at e
    exact pureOr_all e rfl h
theorem read_whole_T (t : List Nat) (h : List O) (hl : t.length ≤ 4000) : F_read_whole [.str (T t)] h = match numR t with
    | some n => .ok (.int n) h
    | none => .exc "Malformed" h := read_whole_T2 t h (by omega) (Nat.le_trans (body_len t) hl)
theorem read_whole_long (t : List Nat) (h : List O) (hl1 : t.length ≤ 4100) (hl : 4000 < (bodyOf t).length) : F_read_whole [.str (T t)] h = .exc "Malformed" h := by
  refine pureOr_excA (fun h => ?_) h
  have hs : t.length ≤ sizeLine := by rw [sizeLine_eq]; omega
  have hbl := body_len t
  have hbs : (bodyOf t).length ≤ sizeLine := Nat.le_trans hbl hs
  unfold runDef m_read_whole
  rw [show startD 3 [D.str (T t)] = [some (.str (T t)), none, none] from rfl, sSeq_ap, sSet_ap, body_run t h none none hs]
  simp only [R.thn_ok, seq_nx, List.set_cons_succ, List.set_cons_zero]
  rw [sSeq_ap, sIf_ap, mOr_ap]
  have i1 : decide ((1 : Int) ≤ ((bodyOf t).length : Int)) = true := decide_eq_true (by omega)
  have i2 : decide (((bodyOf t).length : Int) ≤ 4000) = false := decide_eq_false (by omega)
  simp only [mNot_ap, mTst_ap, mChain_ap, mC_ap, R.bind_ok, mCB_ap, mCons_ap, mVar_ap, List.getElem?_cons_succ, List.getElem?_cons_zero, mNil_ap, fLen_T _ _ hbs, fLe_int, asB_ap, i1, i2, if_true, Bool.not_false, R.thn_ok, sRaise_ap, seq_exc]
theorem law_number_run (t : List Nat) (h : List O) (hl : t.length ≤ 4000) : runDef 3 m__law_number [.str (T t)] h = .ok (match numR t with
    | some n => .int n
    | none => .non) h := by
  have hs : t.length ≤ sizeLine := by rw [sizeLine_eq]; omega
  have hbl := body_len t
  have hbs : (bodyOf t).length ≤ sizeLine := Nat.le_trans hbl hs
  unfold runDef m__law_number
  rw [show startD 3 [D.str (T t)] = [some (.str (T t)), none, none] from rfl, sSeq_ap, sSet_ap, body_run t h none none hs]
  simp only [R.thn_ok, seq_nx, List.set_cons_succ, List.set_cons_zero]
  rw [sSeq_ap, sIf_ap, mOr_ap]
  have ds := ndigs_run (bodyOf t) [some (.str (T t)), some (.str (T (bodyOf t))), none] h rfl (by simp) hbs
  simp only [mOr_ap, mAnd_ap, mTst_ap, mOp_ap, mC_ap, R.bind_ok, mVar_ap, List.getElem?_cons_succ, List.getElem?_cons_zero, asB_ap, ds, lit_nil, fEq_T]
  cases hb : bodyOf t with
  | nil =>
    have en : numR t = none := by unfold numR numC; rw [hb]; rfl
    rw [en]
    rfl
  | cons c r =>
    have e9 : decide (c :: r = []) = false := by simp
    rw [hb] at ds
    simp only [e9, Bool.false_eq_true, if_false, ds, R.bind_ok, asB_ap]
    cases hd : (c :: r).all dig with
    | false =>
      have en : numR t = none := by unfold numR numC; rw [hb, hd]; rfl
      rw [en]
      rfl
    | true =>
      rw [hb] at hbs
      simp only [sSeq_ap, seq_nx, seq_rt, seq_exc, seq_bad, sNext_ap, sRet_ap, sRetN_ap, sExpr_ap, sSet_ap, sIf_ap, sRaise_ap, sFor_ap, sAsg_ap, sPar_ap, par2_ap, sPar3_ap, par3_ap, mVar_ap, mC_ap, mOp_ap, mUn_ap, mTst_ap, asB_ap, mAnd_ap, mOr_ap, mNot_ap, mIf_ap, mAndV_ap, mOrV_ap, mNotV_ap, mChain_ap, mNil_ap, mCons_ap, mTup_ap, mLst_ap, mCB_ap, mCBL_ap, mNew_ap, allocL_ap, mNoPart_ap, mPart_ap, asI_ap, mSl_ap, mCall_ap, mMt_ap, mSrc_ap, mSrcA_ap, mSrcN_ap, capL_ap, mLcI_ap, mDisp_ap, mInTab_ap, mDispGet_ap, mMeth_ap, one1_ap, gtName_ap, gtS_name, R.bind_ok, R.bind_exc, R.bind_bad, R.thn_ok, R.thn_exc, R.thn_bad, List.getElem?_cons_zero, List.getElem?_cons_succ, List.set_cons_zero, List.set_cons_succ, if_true, Bool.not_true, Bool.not_false, Bool.false_eq_true, if_false, decide_true, decide_false, fIx_first c r _ hbs, one_T, lit_zero, fEq_T, fNe_T]
      by_cases e0 : c = 48
      · subst e0
        by_cases e1 : t = [48]
        · obtain ⟨n, hn, _⟩ := num_val (t := t) (by unfold numC; rw [hb, hd, e1]; rfl) (by omega)
          have en : numR t = some n := by unfold numR; rw [if_pos (by unfold numC; rw [hb, hd, e1]; rfl), hn]
          rw [en]
          have e3 : decide (t = [48]) = true := decide_eq_true e1
          have e4 : decide (([48] : List Nat) = [48]) = true := by decide
          simp only [sSeq_ap, seq_nx, seq_rt, seq_exc, seq_bad, sNext_ap, sRet_ap, sRetN_ap, sExpr_ap, sSet_ap, sIf_ap, sRaise_ap, sFor_ap, sAsg_ap, sPar_ap, par2_ap, sPar3_ap, par3_ap, mVar_ap, mC_ap, mOp_ap, mUn_ap, mTst_ap, asB_ap, mAnd_ap, mOr_ap, mNot_ap, mIf_ap, mAndV_ap, mOrV_ap, mNotV_ap, mChain_ap, mNil_ap, mCons_ap, mTup_ap, mLst_ap, mCB_ap, mCBL_ap, mNew_ap, allocL_ap, mNoPart_ap, mPart_ap, asI_ap, mSl_ap, mCall_ap, mMt_ap, mSrc_ap, mSrcA_ap, mSrcN_ap, capL_ap, mLcI_ap, mDisp_ap, mInTab_ap, mDispGet_ap, mMeth_ap, one1_ap, gtName_ap, gtS_name, R.bind_ok, R.bind_exc, R.bind_bad, R.thn_ok, R.thn_exc, R.thn_bad, List.getElem?_cons_zero, List.getElem?_cons_succ, List.set_cons_zero, List.set_cons_succ, if_true, Bool.not_true, Bool.not_false, Bool.false_eq_true, if_false, decide_true, decide_false, e3, e4, fIntN_T h hn hs]
        · have en : numR t = none := by
            unfold numR numC
            rw [hb, hd]
            simp [e1]
          rw [en]
          simp [e1]
      · have nc : numC t = true := by unfold numC; rw [hb, hd]; simp [e0]
        obtain ⟨n, hn, _⟩ := num_val (t := t) nc (by omega)
        have en : numR t = some n := by unfold numR; rw [if_pos nc, hn]
        rw [en]
        simp [e0, fIntN_T h hn hs]
theorem law_number_T (t : List Nat) (h : List O) (hl : t.length ≤ 4000) : F__law_number [.str (T t)] h = .ok (match numR t with
    | some n => .int n
    | none => .non) h := by
  refine pureOr_all (fun h => law_number_run t h hl) ?_ h
  cases numR t <;> rfl
end K53
set_option Elab.async false
set_option linter.all false
set_option maxRecDepth 100000
set_option maxHeartbeats 1000000
namespace K53
open PySem PySem.Spec PyProof.Rows L2 SL PySem.NumText
/-! ### the law's words -/
theorem lst_lt1 (a b : Nat) : decide (([a] : List Nat) < [b]) = decide (a < b) := by
  by_cases h : a < b
  · have : ([a] : List Nat) < [b] := List.Lex.rel h
    rw [decide_eq_true h, decide_eq_true this]
  · have : ¬ ([a] : List Nat) < [b] := by
      intro q
      cases q with
      | rel q => exact h q
      | cons q => cases q
    rw [decide_eq_false h, decide_eq_false this]
theorem fLe_str (a b : Nat) (h : List O) : fLe (.str ⟨#[a]⟩) (.str ⟨#[b]⟩) h = .ok (.bl (decide (a ≤ b))) h := by
  show R.ok (D.bl (!decide (([b] : List Nat) < [a]))) h = _
  rw [lst_lt1]
  by_cases q : b < a
  · rw [decide_eq_true q, decide_eq_false (by omega)]; rfl
  · rw [decide_eq_false q, decide_eq_true (by omega)]; rfl
theorem la : ("a" : Str) = ⟨#[97]⟩ := by decide +kernel
theorem lz : ("z" : Str) = ⟨#[122]⟩ := by decide +kernel
theorem l0 : ("0" : Str) = ⟨#[48]⟩ := by decide +kernel
theorem l9 : ("9" : Str) = ⟨#[57]⟩ := by decide +kernel
theorem law_word_run (t : List Nat) (h : List O) (hl : t.length ≤ sizeLine) : runDef 2 m__law_word [.str (T t)] h = .ok (.bl (wordC t)) h := by
  unfold runDef m__law_word
  rw [show startD 2 [D.str (T t)] = [some (.str (T t)), none] from rfl]
  cases t with
  | nil => simp [isi_str, fLen_T _ _ hl, fLe_int, wordC]
  | cons c r =>
    have cm : ∀ h, compL (gtName 1) tYesD (mOrV (mChain fLe fLe (mC (.str "a")) (mVar 1) (mC (.str "z"))) (mChain fLe fLe (mC (.str "0")) (mVar 1) (mC (.str "9")))) (fun _ => true) (wipeD [some (.str (T (c :: r))), none] [1]) ((c :: r).map fun c => D.str ⟨#[c]⟩) h = .ok _ h := fun h =>
      compL_map (f := wordD) rfl fun d hd => by
          obtain ⟨x, _, rfl⟩ := List.mem_map.mp hd
          simp only [sSeq_ap, seq_nx, seq_rt, seq_exc, seq_bad, sNext_ap, sRet_ap, sRetN_ap, sExpr_ap, sSet_ap, sIf_ap, sRaise_ap, sFor_ap, sAsg_ap, sPar_ap, par2_ap, sPar3_ap, par3_ap, mVar_ap, mC_ap, mOp_ap, mUn_ap, mTst_ap, asB_ap, mAnd_ap, mOr_ap, mNot_ap, mIf_ap, mAndV_ap, mOrV_ap, mNotV_ap, mChain_ap, mNil_ap, mCons_ap, mTup_ap, mLst_ap, mCB_ap, mCBL_ap, mNew_ap, allocL_ap, mNoPart_ap, mPart_ap, asI_ap, mSl_ap, mCall_ap, mMt_ap, mSrc_ap, mSrcA_ap, mSrcN_ap, capL_ap, mLcI_ap, mDisp_ap, mInTab_ap, mDispGet_ap, mMeth_ap, one1_ap, gtName_ap, gtS_name, R.bind_ok, R.bind_exc, R.bind_bad, R.thn_ok, R.thn_exc, R.thn_bad, List.getElem?_cons_zero, List.getElem?_cons_succ, List.set_cons_zero, List.set_cons_succ, if_true, Bool.not_true, Bool.not_false, Bool.false_eq_true, if_false, decide_true, decide_false, wipeD, la, lz, l0, l9, fLe_str]
          show _ = R.ok (D.bl (low x || dig x)) h
          unfold low dig
          by_cases p1 : 97 ≤ x <;> by_cases p2 : x ≤ 122 <;> by_cases p3 : 48 ≤ x <;> by_cases p4 : x ≤ 57 <;> simp [p1, p2, p3, p4]
    have cl : ((c :: r).map fun c => D.str ⟨#[c]⟩).length ≤ sizeLine := by rw [List.length_map]; exact hl
    by_cases h12 : (c :: r).length ≤ 12
    · have i12 : ((c :: r).length : Int) ≤ 12 := by omega
      have i1 : (1 : Int) ≤ ((c :: r).length : Int) := by rw [List.length_cons]; omega
      have hx : low c = (decide (97 ≤ c) && decide (c ≤ 122)) := rfl
      by_cases p1 : 97 ≤ c
      · by_cases p2 : c ≤ 122
        · simp only [sSeq_ap, seq_nx, seq_rt, seq_exc, seq_bad, sNext_ap, sRet_ap, sRetN_ap, sExpr_ap, sSet_ap, sIf_ap, sRaise_ap, sFor_ap, sAsg_ap, sPar_ap, par2_ap, sPar3_ap, par3_ap, mVar_ap, mC_ap, mOp_ap, mUn_ap, mTst_ap, asB_ap, mAnd_ap, mOr_ap, mNot_ap, mIf_ap, mAndV_ap, mOrV_ap, mNotV_ap, mChain_ap, mNil_ap, mCons_ap, mTup_ap, mLst_ap, mCB_ap, mCBL_ap, mNew_ap, allocL_ap, mNoPart_ap, mPart_ap, asI_ap, mSl_ap, mCall_ap, mMt_ap, mSrc_ap, mSrcA_ap, mSrcN_ap, capL_ap, mLcI_ap, mDisp_ap, mInTab_ap, mDispGet_ap, mMeth_ap, one1_ap, gtName_ap, gtS_name, R.bind_ok, R.bind_exc, R.bind_bad, R.thn_ok, R.thn_exc, R.thn_bad, List.getElem?_cons_zero, List.getElem?_cons_succ, List.set_cons_zero, List.set_cons_succ, if_true, Bool.not_true, Bool.not_false, Bool.false_eq_true, if_false, decide_true, decide_false, isi_str, fLen_T _ _ hl, fLe_int, i1, i12, la, lz, fLe_str, fIx_first c r _ hl, p1, p2, signs_src]
          rw [← la, ← lz, if_pos cl, cm, R.bind_ok, all_word]
          unfold wordC
          rw [List.headD_cons, hx, decide_eq_true p1, decide_eq_true p2, decide_eq_true h12, decide_eq_true (show 1 ≤ (c :: r).length by simp)]
          rfl
        · simp only [sSeq_ap, seq_nx, seq_rt, seq_exc, seq_bad, sNext_ap, sRet_ap, sRetN_ap, sExpr_ap, sSet_ap, sIf_ap, sRaise_ap, sFor_ap, sAsg_ap, sPar_ap, par2_ap, sPar3_ap, par3_ap, mVar_ap, mC_ap, mOp_ap, mUn_ap, mTst_ap, asB_ap, mAnd_ap, mOr_ap, mNot_ap, mIf_ap, mAndV_ap, mOrV_ap, mNotV_ap, mChain_ap, mNil_ap, mCons_ap, mTup_ap, mLst_ap, mCB_ap, mCBL_ap, mNew_ap, allocL_ap, mNoPart_ap, mPart_ap, asI_ap, mSl_ap, mCall_ap, mMt_ap, mSrc_ap, mSrcA_ap, mSrcN_ap, capL_ap, mLcI_ap, mDisp_ap, mInTab_ap, mDispGet_ap, mMeth_ap, one1_ap, gtName_ap, gtS_name, R.bind_ok, R.bind_exc, R.bind_bad, R.thn_ok, R.thn_exc, R.thn_bad, List.getElem?_cons_zero, List.getElem?_cons_succ, List.set_cons_zero, List.set_cons_succ, if_true, Bool.not_true, Bool.not_false, Bool.false_eq_true, if_false, decide_true, decide_false, isi_str, fLen_T _ _ hl, fLe_int, i1, i12, la, lz, fLe_str, fIx_first c r _ hl, p1, p2]
          unfold wordC
          rw [List.headD_cons, hx, decide_eq_false p2]
          simp
      · simp only [sSeq_ap, seq_nx, seq_rt, seq_exc, seq_bad, sNext_ap, sRet_ap, sRetN_ap, sExpr_ap, sSet_ap, sIf_ap, sRaise_ap, sFor_ap, sAsg_ap, sPar_ap, par2_ap, sPar3_ap, par3_ap, mVar_ap, mC_ap, mOp_ap, mUn_ap, mTst_ap, asB_ap, mAnd_ap, mOr_ap, mNot_ap, mIf_ap, mAndV_ap, mOrV_ap, mNotV_ap, mChain_ap, mNil_ap, mCons_ap, mTup_ap, mLst_ap, mCB_ap, mCBL_ap, mNew_ap, allocL_ap, mNoPart_ap, mPart_ap, asI_ap, mSl_ap, mCall_ap, mMt_ap, mSrc_ap, mSrcA_ap, mSrcN_ap, capL_ap, mLcI_ap, mDisp_ap, mInTab_ap, mDispGet_ap, mMeth_ap, one1_ap, gtName_ap, gtS_name, R.bind_ok, R.bind_exc, R.bind_bad, R.thn_ok, R.thn_exc, R.thn_bad, List.getElem?_cons_zero, List.getElem?_cons_succ, List.set_cons_zero, List.set_cons_succ, if_true, Bool.not_true, Bool.not_false, Bool.false_eq_true, if_false, decide_true, decide_false, isi_str, fLen_T _ _ hl, fLe_int, i1, i12, la, lz, fLe_str, fIx_first c r _ hl, p1]
        unfold wordC
        rw [List.headD_cons, hx, decide_eq_false p1]
        simp
    · have i12 : ¬ ((c :: r).length : Int) ≤ 12 := by omega
      have i1 : (1 : Int) ≤ ((c :: r).length : Int) := by rw [List.length_cons]; omega
      simp only [sSeq_ap, seq_nx, seq_rt, seq_exc, seq_bad, sNext_ap, sRet_ap, sRetN_ap, sExpr_ap, sSet_ap, sIf_ap, sRaise_ap, sFor_ap, sAsg_ap, sPar_ap, par2_ap, sPar3_ap, par3_ap, mVar_ap, mC_ap, mOp_ap, mUn_ap, mTst_ap, asB_ap, mAnd_ap, mOr_ap, mNot_ap, mIf_ap, mAndV_ap, mOrV_ap, mNotV_ap, mChain_ap, mNil_ap, mCons_ap, mTup_ap, mLst_ap, mCB_ap, mCBL_ap, mNew_ap, allocL_ap, mNoPart_ap, mPart_ap, asI_ap, mSl_ap, mCall_ap, mMt_ap, mSrc_ap, mSrcA_ap, mSrcN_ap, capL_ap, mLcI_ap, mDisp_ap, mInTab_ap, mDispGet_ap, mMeth_ap, one1_ap, gtName_ap, gtS_name, R.bind_ok, R.bind_exc, R.bind_bad, R.thn_ok, R.thn_exc, R.thn_bad, List.getElem?_cons_zero, List.getElem?_cons_succ, List.set_cons_zero, List.set_cons_succ, if_true, Bool.not_true, Bool.not_false, Bool.false_eq_true, if_false, decide_true, decide_false, isi_str, fLen_T _ _ hl, fLe_int, i12, i1]
      unfold wordC
      rw [decide_eq_false h12]
      simp
end K53
set_option Elab.async false
set_option linter.all false
set_option maxRecDepth 100000
set_option maxHeartbeats 1000000
namespace K53
open PySem PySem.Spec PyProof.Rows L2 SL PySem.NumText
theorem law_word_T (t : List Nat) (h : List O) (hl : t.length ≤ sizeLine) : F__law_word [.str (T t)] h = .ok (.bl (wordC t)) h :=
  pureOr_all (fun h => law_word_run t h hl) rfl h
theorem law_word_no (d : D) (h : List O) (n : String) (hn : tyName d h = some n) (hs : n = "tuple" ∨ n = "int" ∨ n = "bool" ∨ n = "NoneType" ∨ n = "list") : runDef 2 m__law_word [d] h = .ok (.bl false) h := by
  have i0 : fIsi [d, .ty "str"] h = .ok (.bl false) h := by
    unfold fIsi
    simp only [hn]
    rcases hs with e | e | e | e | e <;> (subst e; rfl)
  unfold runDef m__law_word
  rw [show startD 2 [d] = [some d, none] from rfl]
  simp only [sSeq_ap, seq_nx, seq_rt, seq_exc, seq_bad, sNext_ap, sRet_ap, sRetN_ap, sExpr_ap, sSet_ap, sIf_ap, sRaise_ap, sFor_ap, sAsg_ap, sPar_ap, par2_ap, sPar3_ap, par3_ap, mVar_ap, mC_ap, mOp_ap, mUn_ap, mTst_ap, asB_ap, mAnd_ap, mOr_ap, mNot_ap, mIf_ap, mAndV_ap, mOrV_ap, mNotV_ap, mChain_ap, mNil_ap, mCons_ap, mTup_ap, mLst_ap, mCB_ap, mCBL_ap, mNew_ap, allocL_ap, mNoPart_ap, mPart_ap, asI_ap, mSl_ap, mCall_ap, mMt_ap, mSrc_ap, mSrcA_ap, mSrcN_ap, capL_ap, mLcI_ap, mDisp_ap, mInTab_ap, mDispGet_ap, mMeth_ap, one1_ap, gtName_ap, gtS_name, R.bind_ok, R.bind_exc, R.bind_bad, R.thn_ok, R.thn_exc, R.thn_bad, List.getElem?_cons_zero, List.getElem?_cons_succ, List.set_cons_zero, List.set_cons_succ, if_true, Bool.not_true, Bool.not_false, Bool.false_eq_true, if_false, decide_true, decide_false, i0]
theorem law_word_other (d : D) (n : String) (hn : ∀ h, tyName d h = some n) (hs : n = "tuple" ∨ n = "int" ∨ n = "bool" ∨ n = "NoneType" ∨ n = "list") (h : List O) : F__law_word [d] h = .ok (.bl false) h :=
  pureOr_all (fun h => law_word_no d h n (hn h) hs) rfl h
/-! ### atoms -/
def atomR (t : List Nat) : Option D := if t = [43] then some (.bl true) else if t = [45] then some (.bl false) else if t = [46] then some (.str (T [])) else if wordC t = true then some (.str (T t)) else (numR t).map D.int
theorem tab_get (t : List Nat) : tabGet [("+", .bl true), ("-", .bl false), (".", .str "")] (T t) = if t = [43] then some (.bl true) else if t = [45] then some (.bl false) else if t = [46] then some (.str (T [])) else none := by
  rw [lit_plus, lit_dash, lit_dot, lit_nil]
  simp only [tabGet_cons, T_inj]
  have e0 : tabGet [] (T t) = none := rfl
  rw [e0]
  by_cases h1 : t = [43]
  · subst h1; rfl
  · by_cases h2 : t = [45]
    · subst h2; rfl
    · by_cases h3 : t = [46]
      · subst h3; rfl
      · simp [h1, h2, h3]
def atomX (t : List Nat) (X : Option Int) : Option D := if t = [43] then some (.bl true) else if t = [45] then some (.bl false) else if t = [46] then some (.str (T [])) else if wordC t = true then some (.str (T t)) else X.map D.int
theorem read_atom_run0 (t : List Nat) (h : List O) (hs : t.length ≤ sizeLine) (X : Option Int) (hw : ∀ h, F_read_whole [.str (T t)] h = match X with
    | some n => .ok (.int n) h
    | none => .exc "Malformed" h) : runDef 1 m_read_atom [.str (T t)] h = match atomX t X with
    | some d => .ok d h
    | none => .exc "Malformed" h := by
  have g : tabGet tab_SIGNS (T t) = _ := tab_get t
  have gin : ∀ h, tabIn tab_SIGNS (.str (T t)) h = .ok (.bl (tabGet tab_SIGNS (T t)).isSome) h := fun _ => rfl
  have gix : ∀ h, tabIx tab_SIGNS (.str (T t)) h = (match tabGet tab_SIGNS (T t) with
    | some r => .ok r h
    | none => .bad) := fun _ => rfl
  unfold runDef m_read_atom
  rw [show startD 1 [D.str (T t)] = [some (.str (T t))] from rfl]
  simp only [sSeq_ap, seq_nx, seq_rt, seq_exc, seq_bad, sNext_ap, sRet_ap, sRetN_ap, sExpr_ap, sSet_ap, sIf_ap, sRaise_ap, sFor_ap, sAsg_ap, sPar_ap, par2_ap, sPar3_ap, par3_ap, mVar_ap, mC_ap, mOp_ap, mUn_ap, mTst_ap, asB_ap, mAnd_ap, mOr_ap, mNot_ap, mIf_ap, mAndV_ap, mOrV_ap, mNotV_ap, mChain_ap, mNil_ap, mCons_ap, mTup_ap, mLst_ap, mCB_ap, mCBL_ap, mNew_ap, allocL_ap, mNoPart_ap, mPart_ap, asI_ap, mSl_ap, mCall_ap, mMt_ap, mSrc_ap, mSrcA_ap, mSrcN_ap, capL_ap, mLcI_ap, mDisp_ap, mInTab_ap, mDispGet_ap, mMeth_ap, one1_ap, gtName_ap, gtS_name, R.bind_ok, R.bind_exc, R.bind_bad, R.thn_ok, R.thn_exc, R.thn_bad, List.getElem?_cons_zero, List.getElem?_cons_succ, List.set_cons_zero, List.set_cons_succ, if_true, Bool.not_true, Bool.not_false, Bool.false_eq_true, if_false, decide_true, decide_false, gin, gix, g, List.length_cons, List.length_nil, is_word_str _ _ hs, hw]
  unfold atomX
  by_cases h1 : t = [43]
  · simp only [h1, if_true, Option.isSome_some, R.thn_ok, seq_rt]
  · by_cases h2 : t = [45]
    · have : ¬ ([45] : List Nat) = [43] := by decide
      simp only [h2, this, if_true, if_false, Option.isSome_some, R.thn_ok, seq_rt]
    · by_cases h3 : t = [46]
      · have q1 : ¬ ([46] : List Nat) = [43] := by decide
        have q2 : ¬ ([46] : List Nat) = [45] := by decide
        simp only [h3, q1, q2, if_true, if_false, Option.isSome_some, R.thn_ok, seq_rt]
      · simp only [h1, h2, h3, if_false, Option.isSome_none, Bool.false_eq_true, seq_nx]
        simp only [sSeq_ap, seq_nx, seq_rt, seq_exc, seq_bad, sNext_ap, sRet_ap, sRetN_ap, sExpr_ap, sSet_ap, sIf_ap, sRaise_ap, sFor_ap, sAsg_ap, sPar_ap, par2_ap, sPar3_ap, par3_ap, mVar_ap, mC_ap, mOp_ap, mUn_ap, mTst_ap, asB_ap, mAnd_ap, mOr_ap, mNot_ap, mIf_ap, mAndV_ap, mOrV_ap, mNotV_ap, mChain_ap, mNil_ap, mCons_ap, mTup_ap, mLst_ap, mCB_ap, mCBL_ap, mNew_ap, allocL_ap, mNoPart_ap, mPart_ap, asI_ap, mSl_ap, mCall_ap, mMt_ap, mSrc_ap, mSrcA_ap, mSrcN_ap, capL_ap, mLcI_ap, mDisp_ap, mInTab_ap, mDispGet_ap, mMeth_ap, one1_ap, gtName_ap, gtS_name, R.bind_ok, R.bind_exc, R.bind_bad, R.thn_ok, R.thn_exc, R.thn_bad, List.getElem?_cons_zero, List.getElem?_cons_succ, List.set_cons_zero, List.set_cons_succ, if_true, Bool.not_true, Bool.not_false, Bool.false_eq_true, if_false, decide_true, decide_false, List.length_cons, List.length_nil, is_word_str _ _ hs, hw]
        cases wordC t with
        | true => rfl
        | false =>
          simp only [Bool.false_eq_true, if_false]
          cases X <;> rfl
theorem read_atom_run (t : List Nat) (h : List O) (hl : t.length ≤ 4000) : runDef 1 m_read_atom [.str (T t)] h = match atomR t with
    | some d => .ok d h
    | none => .exc "Malformed" h := read_atom_run0 t h (by rw [sizeLine_eq]; omega) (numR t) fun h => read_whole_T t h hl
theorem atomR_flat {t : List Nat} {d : D} (e : atomR t = some d) : d.flat = true := by
  unfold atomR at e
  repeat' split at e
  all_goals first
    | (cases e; rfl)
    | skip
  cases q : numR t with
  | none => rw [q] at e; cases e
  | some n => rw [q] at e; cases e; rfl
theorem atomX_flat {t : List Nat} {X : Option Int} {d : D} (e : atomX t X = some d) : d.flat = true := by
  unfold atomX at e
  repeat' split at e
  all_goals first
    | (cases e; rfl)
    | skip
  cases X with
  | none => cases e
  | some n => cases e; rfl
theorem read_atom_T0 (t : List Nat) (h : List O) (hs : t.length ≤ sizeLine) (X : Option Int) (hw : ∀ h, F_read_whole [.str (T t)] h = match X with
    | some n => .ok (.int n) h
    | none => .exc "Malformed" h) : F_read_atom [.str (T t)] h = match atomX t X with
    | some d => .ok d h
    | none => .exc "Malformed" h := by
  have e := fun h => read_atom_run0 t h hs X hw
  cases q : atomX t X with
  | none =>
    rw [q] at e
    exact pureOr_excA e h
  | some d =>
    rw [q] at e
    exact pureOr_all e (atomX_flat q) h
theorem read_atom_T (t : List Nat) (h : List O) (hl : t.length ≤ 4000) : F_read_atom [.str (T t)] h = match atomR t with
    | some d => .ok d h
    | none => .exc "Malformed" h := by
  have e := fun h => read_atom_run t h hl
  cases q : atomR t with
  | none =>
    rw [q] at e
    exact pureOr_excA e h
  | some d =>
    rw [q] at e
    exact pureOr_all e (atomR_flat q) h
/-! ### atoms written -/
theorem is_whole_int (i : Int) (h : List O) : F_is_whole [.int i] h = .ok (.bl true) h := pureOr_all (fun h => by rfl) rfl h
theorem is_whole_no (d : D) (h : List O) (n : String) (hn : tyName d h = some n) (hs : n = "tuple" ∨ n = "str" ∨ n = "bool" ∨ n = "NoneType" ∨ n = "list") : runDef 1 m_is_whole [d] h = .ok (.bl false) h := by
  unfold runDef m_is_whole
  rw [show startD 1 [d] = [some d] from rfl]
  have k1 : kitB "bool" "int" = some true := rfl
  have k2 : kitB "bool" "bool" = some true := rfl
  have k3 : kitB "tuple" "int" = some false := rfl
  have k4 : kitB "str" "int" = some false := rfl
  have k5 : kitB "NoneType" "int" = some false := rfl
  have k6 : kitB "list" "int" = some false := rfl
  rcases hs with e | e | e | e | e
  all_goals
    subst e
    simp only [sSeq_ap, seq_nx, seq_rt, seq_exc, seq_bad, sNext_ap, sRet_ap, sRetN_ap, sExpr_ap, sSet_ap, sIf_ap, sRaise_ap, sFor_ap, sAsg_ap, sPar_ap, par2_ap, sPar3_ap, par3_ap, mVar_ap, mC_ap, mOp_ap, mUn_ap, mTst_ap, asB_ap, mAnd_ap, mOr_ap, mNot_ap, mIf_ap, mAndV_ap, mOrV_ap, mNotV_ap, mChain_ap, mNil_ap, mCons_ap, mTup_ap, mLst_ap, mCB_ap, mCBL_ap, mNew_ap, allocL_ap, mNoPart_ap, mPart_ap, asI_ap, mSl_ap, mCall_ap, mMt_ap, mSrc_ap, mSrcA_ap, mSrcN_ap, capL_ap, mLcI_ap, mDisp_ap, mInTab_ap, mDispGet_ap, mMeth_ap, one1_ap, gtName_ap, gtS_name, R.bind_ok, R.bind_exc, R.bind_bad, R.thn_ok, R.thn_exc, R.thn_bad, List.getElem?_cons_zero, List.getElem?_cons_succ, List.set_cons_zero, List.set_cons_succ, if_true, Bool.not_true, Bool.not_false, Bool.false_eq_true, if_false, decide_true, decide_false, fIsi, hn, k1, k2, k3, k4, k5, k6]
theorem is_whole_other (d : D) (n : String) (hn : ∀ h, tyName d h = some n) (hs : n = "tuple" ∨ n = "str" ∨ n = "bool" ∨ n = "NoneType" ∨ n = "list") (h : List O) : F_is_whole [d] h = .ok (.bl false) h :=
  pureOr_all (fun h => is_whole_no d h n (hn h) hs) rfl h
theorem fNeg_int (i : Int) (h : List O) : fNeg (.int i) h = .ok (.int (-i)) h := rfl
end K53
set_option Elab.async false
set_option linter.all false
set_option maxRecDepth 100000
set_option maxHeartbeats 1000000
namespace K53
open PySem PySem.Spec PyProof.Rows L2 SL PySem.NumText
theorem pow32 (ρ : Sl) (h : List O) : mOp fPow (mC (.int 10)) (mC (.int 32)) ρ h = .ok (.int ((100000000000000000000000000000000 : Nat) : Int)) h := by rfl
theorem mul_ok (m : Nat) (h : List O) (hm : m.log2 < 800000) : fMulI (.int (m : Int)) (.int ((100000000000000000000000000000000 : Nat) : Int)) h = .ok (.int ((m * 100000000000000000000000000000000 : Nat) : Int)) h := by
  have e : mulOk (m : Int) ((100000000000000000000000000000000 : Nat) : Int) = true := by
    unfold mulOk
    have l : Nat.log2 100000000000000000000000000000000 = 106 := by decide +kernel
    simp only [Int.natAbs_natCast, l]
    rw [decide_eq_true (show m.log2 + 106 < 1000000 by omega)]
    simp
  show (if mulOk _ _ = true then R.ok (D.int _) h else .bad) = _
  rw [if_pos e]
  congr 2
theorem log_mul (m : Nat) (hm : 0 < m) : (m * 100000000000000000000000000000000).log2 ≤ m.log2 + 107 := by
  have h1 : m < 2 ^ (m.log2 + 1) := Nat.lt_log2_self
  have h2 : 100000000000000000000000000000000 < 2 ^ 107 := by decide
  have h3 : m * 100000000000000000000000000000000 < 2 ^ (m.log2 + 1) * 2 ^ 107 := Nat.mul_lt_mul'' h1 h2
  rw [← Nat.pow_add] at h3
  have h4 := (Nat.log2_lt (by omega : m * 100000000000000000000000000000000 ≠ 0)).mpr h3
  omega
theorem mul_loop : ∀ (ds : List D) (m : Nat) (i : Option D) (o : Option D) (h : List O), 0 < m → m.log2 + 107 * ds.length < 800000 →
    ∃ o1, forL (gtName 2) (sAug 1 fMulI (mOp fPow (mC (.int 10)) (mC (.int 32)))) (fun _ => true) ds [i, some (.int (m : Int)), o] h = .nx [i, some (.int ((m * 100000000000000000000000000000000 ^ ds.length : Nat) : Int)), o1] h
  | [], m, i, o, h, _, _ => ⟨o, by simp [forL]⟩
  | d :: ds, m, i, o, h, h0, hm => by
    rw [List.length_cons] at hm
    have l1 := log_mul m h0
    obtain ⟨o1, e1⟩ := mul_loop ds (m * 100000000000000000000000000000000) i (some d) h (by omega) (by omega)
    refine ⟨o1, ?_⟩
    have st : sAug 1 fMulI (mOp fPow (mC (.int 10)) (mC (.int 32))) [i, some (.int (m : Int)), some d] h = .nx [i, some (.int ((m * 100000000000000000000000000000000 : Nat) : Int)), some d] h := by
      unfold sAug
      simp only [List.getElem?_cons_succ, List.getElem?_cons_zero, pow32, R.thn_ok, mul_ok m h (by omega), List.set_cons_succ, List.set_cons_zero]
    show (if (fun _ : List O => true) h = true then gtS (gtName 2) d [i, some (.int (m : Int)), o] h _ else .bad) = _
    simp only [if_true, gtS_name, List.set_cons_succ, List.set_cons_zero, st]
    rw [e1, List.length_cons, Nat.pow_succ', Nat.mul_assoc]
def bigM : Nat := 10 ^ 4000
theorem pow_all : (100000000000000000000000000000000 : Nat) * 100000000000000000000000000000000 ^ 124 = bigM := by unfold bigM; decide +kernel
def small (i : Int) : Bool := decide (-(bigM : Int) < i) && decide (i < (bigM : Int))
theorem pow_lt : (100000000000000000000000000000000 : Nat) < bigM := by unfold bigM; decide +kernel
theorem is_short_run (i : Int) (h : List O) : runDef 3 m_is_short [.int i] h = .ok (.bl (small i)) h := by
  unfold runDef m_is_short
  rw [show startD 3 [D.int i] = [some (.int i), none, none] from rfl]
  simp only [sSeq_ap, sIf_ap, mNot_ap, mTst_ap, mCall_ap, mCons_ap, mVar_ap, List.getElem?_cons_zero, mNil_ap, R.bind_ok, List.length_cons, List.length_nil, if_true, is_whole_int, asB_ap, Bool.not_true, Bool.false_eq_true, if_false, R.thn_ok, sNext_ap, seq_nx, sSet_ap, pow32, List.set_cons_succ, List.set_cons_zero]
  have sm : small i = (decide (-(bigM : Int) < i) && decide (i < (bigM : Int))) := rfl
  have lt := pow_lt
  have ch : ∀ (o1 o2 : Option D) (m : Nat) (h : List O), mChain fLt fLt (mUn fNeg (mVar 1)) (mVar 0) (mVar 1) [some (.int i), some (.int (m : Int)), o2] h = .ok (.bl (decide (-(m : Int) < i) && decide (i < (m : Int)))) h := fun o1 o2 m h => by
    simp only [mChain_ap, mUn_ap, mVar_ap, List.getElem?_cons_succ, List.getElem?_cons_zero, R.bind_ok, fNeg_int, fLt_int, asB_ap]
    by_cases c1 : -(m : Int) < i
    · simp only [c1, decide_true, if_true, Bool.true_and]
    · simp only [c1, decide_false, Bool.false_eq_true, if_false, Bool.false_and]
  rw [ch none]
  simp only [R.bind_ok, asB_ap, R.thn_ok]
  cases hb : (decide (-((100000000000000000000000000000000 : Nat) : Int) < i) && decide (i < ((100000000000000000000000000000000 : Nat) : Int))) with
  | true =>
    rw [Bool.and_eq_true, decide_eq_true_eq, decide_eq_true_eq] at hb
    have s1 : small i = true := by
      rw [sm, decide_eq_true (show -(bigM : Int) < i by omega), decide_eq_true (show i < (bigM : Int) by omega)]; rfl
    rw [s1]
    rfl
  | false =>
    have src : mSrcA srcR1 (mCons (mOp fSub (mOp fDiv (mC (.int 4000)) (mC (.int 32))) (mC (.int 1))) mNil) [some (.int i), some (.int ((100000000000000000000000000000000 : Nat) : Int)), none] h = .ok (runI 0 1 124, fun _ => true) h := by rfl
    obtain ⟨o1, lp⟩ := mul_loop (runI 0 1 124) 100000000000000000000000000000000 (some (.int i)) none h (by decide) (by
      have l : Nat.log2 100000000000000000000000000000000 = 106 := by decide +kernel
      rw [l]
      decide)
    have ln : (runI 0 1 124).length = 124 := by decide
    rw [ln, pow_all] at lp
    have fo : ∀ (src : MI) (g : GT) (b : MS) (ρ : Sl) (l : List D) (gd : List O → Bool) (x : RS), src ρ h = .ok (l, gd) h → forL g b gd l ρ h = x → sFor src g b ρ h = x := fun src g b ρ l gd x e1 e2 => by
      rw [sFor_ap, e1]
      exact e2
    have fo2 := fo _ _ _ _ _ _ _ src lp
    clear fo src lp lt ln
    rw [if_neg Bool.false_ne_true, seq_nx, sSeq_ap, fo2, seq_nx, sRet_ap, ch none, ← sm]
    rfl
theorem is_short_int (i : Int) (h : List O) : F_is_short [.int i] h = .ok (.bl (small i)) h := pureOr_all (is_short_run i) rfl h
theorem is_short_no (d : D) (h : List O) (n : String) (hn : tyName d h = some n) (hs : n = "tuple" ∨ n = "str" ∨ n = "bool" ∨ n = "NoneType" ∨ n = "list") (hw : F_is_whole [d] h = .ok (.bl false) h) : runDef 3 m_is_short [d] h = .ok (.bl false) h := by
  unfold runDef m_is_short
  rw [show startD 3 [d] = [some d, none, none] from rfl]
  simp only [sSeq_ap, seq_nx, seq_rt, seq_exc, seq_bad, sNext_ap, sRet_ap, sRetN_ap, sExpr_ap, sSet_ap, sIf_ap, sRaise_ap, sFor_ap, sAsg_ap, sPar_ap, par2_ap, sPar3_ap, par3_ap, mVar_ap, mC_ap, mOp_ap, mUn_ap, mTst_ap, asB_ap, mAnd_ap, mOr_ap, mNot_ap, mIf_ap, mAndV_ap, mOrV_ap, mNotV_ap, mChain_ap, mNil_ap, mCons_ap, mTup_ap, mLst_ap, mCB_ap, mCBL_ap, mNew_ap, allocL_ap, mNoPart_ap, mPart_ap, asI_ap, mSl_ap, mCall_ap, mMt_ap, mSrc_ap, mSrcA_ap, mSrcN_ap, capL_ap, mLcI_ap, mDisp_ap, mInTab_ap, mDispGet_ap, mMeth_ap, one1_ap, gtName_ap, gtS_name, R.bind_ok, R.bind_exc, R.bind_bad, R.thn_ok, R.thn_exc, R.thn_bad, List.getElem?_cons_zero, List.getElem?_cons_succ, List.set_cons_zero, List.set_cons_succ, if_true, Bool.not_true, Bool.not_false, Bool.false_eq_true, if_false, decide_true, decide_false, List.length_cons, List.length_nil, hw]
theorem is_short_other (d : D) (n : String) (hn : ∀ h, tyName d h = some n) (hs : n = "tuple" ∨ n = "str" ∨ n = "bool" ∨ n = "NoneType" ∨ n = "list") (h : List O) : F_is_short [d] h = .ok (.bl false) h :=
  pureOr_all (fun h => is_short_no d h n (hn h) hs (is_whole_other d n hn hs h)) rfl h
/-! ### an atom's text -/
def atomT : D → Option (List Nat)
  | .bl b => some (if b then [43] else [45])
  | .int i => if small i = true then some (txtI i) else none
  | .str z => if wordC z.cps.toList = true then some z.cps.toList else if z.cps.toList = [] then some [46] else none
  | _ => none
theorem fStrN_int (i : Int) (h : List O) (hs : small i = true) : fStrN [.int i] h = .ok (.str (T (txtI i))) h := by
  have hl : i.natAbs < most4300 := by
    unfold small at hs
    rw [Bool.and_eq_true, decide_eq_true_eq, decide_eq_true_eq] at hs
    have h1 : i.natAbs < bigM := by omega
    have h2 : bigM ≤ most4300 := by unfold bigM most4300; exact Nat.pow_le_pow_right (by decide) (by decide)
    omega
  show (if i.natAbs < most4300 then R.ok (D.str (Str.ofString (toString i))) h else .bad) = _
  rw [if_pos hl, str_txtI]
theorem atom_text_no (d : D) (h : List O) (n : String) (hn : tyName d h = some n) (hs : n = "tuple" ∨ n = "NoneType" ∨ n = "list") (hw : F_is_word [d] h = .ok (.bl false) h) (hq : F_is_short [d] h = .ok (.bl false) h) : runDef 1 m_atom_text [d] h = .exc "Malformed" h := by
  have k1 : kitB "tuple" "bool" = some false := rfl
  have k2 : kitB "NoneType" "bool" = some false := rfl
  have k3 : kitB "list" "bool" = some false := rfl
  have k4 : kitB "tuple" "str" = some false := rfl
  have k5 : kitB "NoneType" "str" = some false := rfl
  have k6 : kitB "list" "str" = some false := rfl
  unfold runDef m_atom_text
  rw [show startD 1 [d] = [some d] from rfl]
  rcases hs with e | e | e
  all_goals
    subst e
    simp only [sSeq_ap, seq_nx, seq_rt, seq_exc, seq_bad, sNext_ap, sRet_ap, sRetN_ap, sExpr_ap, sSet_ap, sIf_ap, sRaise_ap, sFor_ap, sAsg_ap, sPar_ap, par2_ap, sPar3_ap, par3_ap, mVar_ap, mC_ap, mOp_ap, mUn_ap, mTst_ap, asB_ap, mAnd_ap, mOr_ap, mNot_ap, mIf_ap, mAndV_ap, mOrV_ap, mNotV_ap, mChain_ap, mNil_ap, mCons_ap, mTup_ap, mLst_ap, mCB_ap, mCBL_ap, mNew_ap, allocL_ap, mNoPart_ap, mPart_ap, asI_ap, mSl_ap, mCall_ap, mMt_ap, mSrc_ap, mSrcA_ap, mSrcN_ap, capL_ap, mLcI_ap, mDisp_ap, mInTab_ap, mDispGet_ap, mMeth_ap, one1_ap, gtName_ap, gtS_name, R.bind_ok, R.bind_exc, R.bind_bad, R.thn_ok, R.thn_exc, R.thn_bad, List.getElem?_cons_zero, List.getElem?_cons_succ, List.set_cons_zero, List.set_cons_succ, if_true, Bool.not_true, Bool.not_false, Bool.false_eq_true, if_false, decide_true, decide_false, fIsi, hn, k1, k2, k3, k4, k5, k6, List.length_cons, List.length_nil, hw, hq]
theorem atom_text_ref (m : Nat) (h : List O) (hn : tyName (.ref m) h = some "list") : F_atom_text [.ref m] h = .exc "Malformed" h := by
  have a : F_is_whole [.ref m] h = .ok (.bl false) h := (pureOr_dir (F := runDef 1 m_is_whole) (ds := [.ref m]) h rfl).trans (is_whole_no _ h "list" hn (by simp))
  have b : F_is_short [.ref m] h = .ok (.bl false) h := (pureOr_dir (F := runDef 3 m_is_short) (ds := [.ref m]) h rfl).trans (is_short_no _ h "list" hn (by simp) a)
  have c : F_is_word [.ref m] h = .ok (.bl false) h := (pureOr_dir (F := runDef 2 m_is_word) (ds := [.ref m]) h rfl).trans (is_word_no _ h "list" hn (by simp))
  exact (pureOr_dir (F := runDef 1 m_atom_text) (ds := [.ref m]) h rfl).trans (atom_text_no _ h "list" hn (by simp) c b)
def atomIn : D → Prop
  | .bl _ => True
  | .int _ => True
  | .str z => z.length ≤ sizeLine
  | .non => True
  | .tup _ => True
  | _ => False
theorem atom_text_run (d : D) (h : List O) (hd : atomIn d) : runDef 1 m_atom_text [d] h = match atomT d with
    | some t => .ok (.str (T t)) h
    | none => .exc "Malformed" h := by
  cases d with
  | non => exact atom_text_no .non h "NoneType" rfl (by simp) (is_word_other _ _ (fun _ => rfl) (by simp) h) (is_short_other _ _ (fun _ => rfl) (by simp) h)
  | tup ds => exact atom_text_no (.tup ds) h "tuple" rfl (by simp) (is_word_other _ _ (fun _ => rfl) (by simp) h) (is_short_other _ _ (fun _ => rfl) (by simp) h)
  | bl b => cases b <;> rfl
  | int i =>
    have i1 : ∀ h, fIsi [.int i, .ty "bool"] h = .ok (.bl false) h := fun _ => rfl
    have i2 : ∀ h, fIsi [.int i, .ty "str"] h = .ok (.bl false) h := fun _ => rfl
    have i3 : ∀ h, fNe (.int i) (.str "") h = .ok (.bl true) h := fun _ => rfl
    unfold runDef m_atom_text
    rw [show startD 1 [D.int i] = [some (.int i)] from rfl]
    simp only [sSeq_ap, seq_nx, seq_rt, seq_exc, seq_bad, sNext_ap, sRet_ap, sRetN_ap, sExpr_ap, sSet_ap, sIf_ap, sRaise_ap, sFor_ap, sAsg_ap, sPar_ap, par2_ap, sPar3_ap, par3_ap, mVar_ap, mC_ap, mOp_ap, mUn_ap, mTst_ap, asB_ap, mAnd_ap, mOr_ap, mNot_ap, mIf_ap, mAndV_ap, mOrV_ap, mNotV_ap, mChain_ap, mNil_ap, mCons_ap, mTup_ap, mLst_ap, mCB_ap, mCBL_ap, mNew_ap, allocL_ap, mNoPart_ap, mPart_ap, asI_ap, mSl_ap, mCall_ap, mMt_ap, mSrc_ap, mSrcA_ap, mSrcN_ap, capL_ap, mLcI_ap, mDisp_ap, mInTab_ap, mDispGet_ap, mMeth_ap, one1_ap, gtName_ap, gtS_name, R.bind_ok, R.bind_exc, R.bind_bad, R.thn_ok, R.thn_exc, R.thn_bad, List.getElem?_cons_zero, List.getElem?_cons_succ, List.set_cons_zero, List.set_cons_succ, if_true, Bool.not_true, Bool.not_false, Bool.false_eq_true, if_false, decide_true, decide_false, i1, i2, i3, List.length_cons, List.length_nil, is_word_other (.int i) "int" (fun _ => rfl) (by simp), is_short_int]
    rw [show atomT (.int i) = if small i = true then some (txtI i) else none from rfl]
    cases hs : small i with
    | true => simp only [sSeq_ap, seq_nx, seq_rt, seq_exc, seq_bad, sNext_ap, sRet_ap, sRetN_ap, sExpr_ap, sSet_ap, sIf_ap, sRaise_ap, sFor_ap, sAsg_ap, sPar_ap, par2_ap, sPar3_ap, par3_ap, mVar_ap, mC_ap, mOp_ap, mUn_ap, mTst_ap, asB_ap, mAnd_ap, mOr_ap, mNot_ap, mIf_ap, mAndV_ap, mOrV_ap, mNotV_ap, mChain_ap, mNil_ap, mCons_ap, mTup_ap, mLst_ap, mCB_ap, mCBL_ap, mNew_ap, allocL_ap, mNoPart_ap, mPart_ap, asI_ap, mSl_ap, mCall_ap, mMt_ap, mSrc_ap, mSrcA_ap, mSrcN_ap, capL_ap, mLcI_ap, mDisp_ap, mInTab_ap, mDispGet_ap, mMeth_ap, one1_ap, gtName_ap, gtS_name, R.bind_ok, R.bind_exc, R.bind_bad, R.thn_ok, R.thn_exc, R.thn_bad, List.getElem?_cons_zero, List.getElem?_cons_succ, List.set_cons_zero, List.set_cons_succ, if_true, Bool.not_true, Bool.not_false, Bool.false_eq_true, if_false, decide_true, decide_false, fStrN_int i _ hs, i3]
    | false => simp only [sSeq_ap, seq_nx, seq_rt, seq_exc, seq_bad, sNext_ap, sRet_ap, sRetN_ap, sExpr_ap, sSet_ap, sIf_ap, sRaise_ap, sFor_ap, sAsg_ap, sPar_ap, par2_ap, sPar3_ap, par3_ap, mVar_ap, mC_ap, mOp_ap, mUn_ap, mTst_ap, asB_ap, mAnd_ap, mOr_ap, mNot_ap, mIf_ap, mAndV_ap, mOrV_ap, mNotV_ap, mChain_ap, mNil_ap, mCons_ap, mTup_ap, mLst_ap, mCB_ap, mCBL_ap, mNew_ap, allocL_ap, mNoPart_ap, mPart_ap, asI_ap, mSl_ap, mCall_ap, mMt_ap, mSrc_ap, mSrcA_ap, mSrcN_ap, capL_ap, mLcI_ap, mDisp_ap, mInTab_ap, mDispGet_ap, mMeth_ap, one1_ap, gtName_ap, gtS_name, R.bind_ok, R.bind_exc, R.bind_bad, R.thn_ok, R.thn_exc, R.thn_bad, List.getElem?_cons_zero, List.getElem?_cons_succ, List.set_cons_zero, List.set_cons_succ, if_true, Bool.not_true, Bool.not_false, Bool.false_eq_true, if_false, decide_true, decide_false]
  | str z =>
    obtain ⟨t, rfl⟩ : ∃ t, z = T t := ⟨_, T_of z⟩
    have hl : t.length ≤ sizeLine := hd
    have i1 : ∀ h, fIsi [.str (T t), .ty "bool"] h = .ok (.bl false) h := fun _ => rfl
    have i2 : ∀ h, fIsi [.str (T t), .ty "str"] h = .ok (.bl true) h := fun _ => rfl
    have i3 : ∀ h, fStrN [.str (T t)] h = .ok (.str (T t)) h := fun _ => rfl
    rw [show atomT (.str (T t)) = if wordC t = true then some t else if t = [] then some [46] else none from rfl]
    unfold runDef m_atom_text
    rw [show startD 1 [D.str (T t)] = [some (.str (T t))] from rfl]
    simp only [sSeq_ap, seq_nx, seq_rt, seq_exc, seq_bad, sNext_ap, sRet_ap, sRetN_ap, sExpr_ap, sSet_ap, sIf_ap, sRaise_ap, sFor_ap, sAsg_ap, sPar_ap, par2_ap, sPar3_ap, par3_ap, mVar_ap, mC_ap, mOp_ap, mUn_ap, mTst_ap, asB_ap, mAnd_ap, mOr_ap, mNot_ap, mIf_ap, mAndV_ap, mOrV_ap, mNotV_ap, mChain_ap, mNil_ap, mCons_ap, mTup_ap, mLst_ap, mCB_ap, mCBL_ap, mNew_ap, allocL_ap, mNoPart_ap, mPart_ap, asI_ap, mSl_ap, mCall_ap, mMt_ap, mSrc_ap, mSrcA_ap, mSrcN_ap, capL_ap, mLcI_ap, mDisp_ap, mInTab_ap, mDispGet_ap, mMeth_ap, one1_ap, gtName_ap, gtS_name, R.bind_ok, R.bind_exc, R.bind_bad, R.thn_ok, R.thn_exc, R.thn_bad, List.getElem?_cons_zero, List.getElem?_cons_succ, List.set_cons_zero, List.set_cons_succ, if_true, Bool.not_true, Bool.not_false, Bool.false_eq_true, if_false, decide_true, decide_false, i1, i2, i3, List.length_cons, List.length_nil, is_word_str _ _ hl, is_short_other (.str (T t)) "str" (fun _ => rfl) (by simp), lit_nil, fEq_T, fNe_T]
    by_cases hw : wordC t = true
    · have ne : t ≠ [] := fun e => by rw [e] at hw; cases hw
      simp only [sSeq_ap, seq_nx, seq_rt, seq_exc, seq_bad, sNext_ap, sRet_ap, sRetN_ap, sExpr_ap, sSet_ap, sIf_ap, sRaise_ap, sFor_ap, sAsg_ap, sPar_ap, par2_ap, sPar3_ap, par3_ap, mVar_ap, mC_ap, mOp_ap, mUn_ap, mTst_ap, asB_ap, mAnd_ap, mOr_ap, mNot_ap, mIf_ap, mAndV_ap, mOrV_ap, mNotV_ap, mChain_ap, mNil_ap, mCons_ap, mTup_ap, mLst_ap, mCB_ap, mCBL_ap, mNew_ap, allocL_ap, mNoPart_ap, mPart_ap, asI_ap, mSl_ap, mCall_ap, mMt_ap, mSrc_ap, mSrcA_ap, mSrcN_ap, capL_ap, mLcI_ap, mDisp_ap, mInTab_ap, mDispGet_ap, mMeth_ap, one1_ap, gtName_ap, gtS_name, R.bind_ok, R.bind_exc, R.bind_bad, R.thn_ok, R.thn_exc, R.thn_bad, List.getElem?_cons_zero, List.getElem?_cons_succ, List.set_cons_zero, List.set_cons_succ, if_true, Bool.not_true, Bool.not_false, Bool.false_eq_true, if_false, decide_true, decide_false, hw, decide_eq_false ne, fNe_T, i3]
    · have hw2 : wordC t = false := by simpa using hw
      by_cases ne : t = []
      · subst ne
        rw [lit_dot]
        simp only [sSeq_ap, seq_nx, seq_rt, seq_exc, seq_bad, sNext_ap, sRet_ap, sRetN_ap, sExpr_ap, sSet_ap, sIf_ap, sRaise_ap, sFor_ap, sAsg_ap, sPar_ap, par2_ap, sPar3_ap, par3_ap, mVar_ap, mC_ap, mOp_ap, mUn_ap, mTst_ap, asB_ap, mAnd_ap, mOr_ap, mNot_ap, mIf_ap, mAndV_ap, mOrV_ap, mNotV_ap, mChain_ap, mNil_ap, mCons_ap, mTup_ap, mLst_ap, mCB_ap, mCBL_ap, mNew_ap, allocL_ap, mNoPart_ap, mPart_ap, asI_ap, mSl_ap, mCall_ap, mMt_ap, mSrc_ap, mSrcA_ap, mSrcN_ap, capL_ap, mLcI_ap, mDisp_ap, mInTab_ap, mDispGet_ap, mMeth_ap, one1_ap, gtName_ap, gtS_name, R.bind_ok, R.bind_exc, R.bind_bad, R.thn_ok, R.thn_exc, R.thn_bad, List.getElem?_cons_zero, List.getElem?_cons_succ, List.set_cons_zero, List.set_cons_succ, if_true, Bool.not_true, Bool.not_false, Bool.false_eq_true, if_false, decide_true, decide_false, hw2, fEq_T, fNe_T]
      · simp only [sSeq_ap, seq_nx, seq_rt, seq_exc, seq_bad, sNext_ap, sRet_ap, sRetN_ap, sExpr_ap, sSet_ap, sIf_ap, sRaise_ap, sFor_ap, sAsg_ap, sPar_ap, par2_ap, sPar3_ap, par3_ap, mVar_ap, mC_ap, mOp_ap, mUn_ap, mTst_ap, asB_ap, mAnd_ap, mOr_ap, mNot_ap, mIf_ap, mAndV_ap, mOrV_ap, mNotV_ap, mChain_ap, mNil_ap, mCons_ap, mTup_ap, mLst_ap, mCB_ap, mCBL_ap, mNew_ap, allocL_ap, mNoPart_ap, mPart_ap, asI_ap, mSl_ap, mCall_ap, mMt_ap, mSrc_ap, mSrcA_ap, mSrcN_ap, capL_ap, mLcI_ap, mDisp_ap, mInTab_ap, mDispGet_ap, mMeth_ap, one1_ap, gtName_ap, gtS_name, R.bind_ok, R.bind_exc, R.bind_bad, R.thn_ok, R.thn_exc, R.thn_bad, List.getElem?_cons_zero, List.getElem?_cons_succ, List.set_cons_zero, List.set_cons_succ, if_true, Bool.not_true, Bool.not_false, Bool.false_eq_true, if_false, decide_true, decide_false, hw2, ne, fEq_T, fNe_T]
  | ref n => exact hd.elim
  | ty n => exact hd.elim
  | frl ds => exact hd.elim
theorem atomT_flat {d : D} {t : List Nat} (_ : atomT d = some t) : (D.str (T t)).flat = true := rfl
theorem atom_text_T (d : D) (h : List O) (hd : atomIn d) : F_atom_text [d] h = match atomT d with
    | some t => .ok (.str (T t)) h
    | none => .exc "Malformed" h := by
  have e := fun h => atom_text_run d h hd
  cases q : atomT d with
  | none =>
    rw [q] at e
    exact pureOr_excA e h
  | some t =>
    rw [q] at e
    exact pureOr_all e rfl h
end K53
set_option Elab.async false
set_option linter.all false
set_option maxRecDepth 100000
set_option maxHeartbeats 1000000
namespace K53
open PySem PySem.Spec PyProof.Rows L2 SL PySem.NumText
/-! ### lists on the heap -/
theorem app_ok {n : Nat} {v : D} {ds : List D} {h : List O} (e : h[n]? = some (.lst ds)) (hl : ds.length < sizeLine) : fAppend (.ref n) [v] h = .ok .non (h.set n (.lst (ds ++ [v]))) := by
  show (match h[n]? with
    | some (.lst ds) => if ds.length < sizeLine then R.ok D.non (h.set n (.lst (ds ++ [v]))) else .bad
    | _ => .bad) = _
  rw [e]
  exact if_pos hl
theorem pop_ok {n : Nat} {v : D} {ds : List D} {h : List O} (e : h[n]? = some (.lst (ds ++ [v]))) : fPop (.ref n) [] h = .ok v (h.set n (.lst ds)) := by
  show (match h[n]? with
    | some (.lst ds) => (match ds[ds.length - 1]? with
      | some v => R.ok v (h.set n (.lst ds.dropLast))
      | none => .bad)
    | _ => .bad) = _
  rw [e]
  simp
theorem ty_ok1 {n : Nat} {ds : List D} {h : List O} (e : h[n]? = some (.lst ds)) : tyLst (.ref n) h = true := by
  show (match h[n]? with
    | some (.lst _) => true
    | _ => false) = true
  rw [e]
theorem len_ok {n : Nat} {ds : List D} {h : List O} (e : h[n]? = some (.lst ds)) : fLen [.ref n] h = .ok (.int ds.length) h := by
  have i : itemsD (.ref n) h = some ds := by
    show (match h[n]? with
      | some (.lst ds) => some ds
      | _ => none) = _
    rw [e]
  show (match itemsD (.ref n) h with
    | some ds => R.ok (D.int ds.length) h
    | none => .bad) = _
  rw [i]
theorem fGt_int (i j : Int) (h : List O) : fGt (.int i) (.int j) h = .ok (.bl (decide (j < i))) h := rfl
theorem fGe_int (i j : Int) (h : List O) : fGe (.int i) (.int j) h = .ok (.bl (decide (j ≤ i))) h := rfl
theorem fEq_int (i j : Int) (h : List O) : fEq (.int i) (.int j) h = .ok (.bl (decide (i = j))) h := rfl
theorem fAdd_int (i j : Int) (h : List O) : fAdd (.int i) (.int j) h = .ok (.int (i + j)) h := rfl
theorem fSub_int (i j : Int) (h : List O) : fSub (.int i) (.int j) h = .ok (.int (i - j)) h := rfl
def hp (h0 : List O) (W F : List D) : List O := h0 ++ [.lst W, .lst F]
section
variable {h0 : List O} {W W2 F F2 : List D}
theorem hpA : (hp h0 W F)[h0.length]? = some (.lst W) := by simp [hp]
theorem hpB : (hp h0 W F)[h0.length + 1]? = some (.lst F) := by simp [hp, List.getElem?_append_right]
theorem hpSA : (hp h0 W F).set h0.length (.lst W2) = hp h0 W2 F := by simp [hp, List.set_append]
theorem hpSB : (hp h0 W F).set (h0.length + 1) (.lst F2) = hp h0 W F2 := by
  simp [hp, List.set_append]
end
/-! ### the text of data -/
mutual
def wrD (k : Nat) : D → Option (List Nat)
  | .tup ds => if k ≤ 1000 then (wrsD (k + 1) ds).map fun t => 91 :: (t ++ [93]) else none
  | .non => none
  | .bl b => atomT (.bl b)
  | .int i => atomT (.int i)
  | .str z => atomT (.str z)
  | .ref n => none
  | .ty n => none
  | .frl ds => none
def wrsD (k : Nat) : List D → Option (List Nat)
  | [] => some []
  | d :: ds => match ds with
    | [] => wrD k d
    | _ :: _ => (wrD k d).bind fun a => (wrsD k ds).map fun b => a ++ 44 :: b
end
mutual
def costD : D → Nat
  | .tup ds => 2 + costs ds
  | .non => 1
  | .bl _ => 1
  | .int _ => 1
  | .str _ => 1
  | .ref _ => 1
  | .ty _ => 1
  | .frl _ => 1
def costs : List D → Nat
  | [] => 0
  | d :: ds => costD d + 1 + costs ds
end
mutual
def plainD : D → Bool
  | .tup ds => decide (ds.length ≤ sizeLine) && plainDs ds
  | .non => true
  | .bl _ => true
  | .int _ => true
  | .str z => decide (z.length ≤ sizeLine)
  | .ref _ => false
  | .ty _ => false
  | .frl _ => false
def plainDs : List D → Bool
  | [] => true
  | d :: ds => plainD d && plainDs ds
end
/-! .. and lists that stand in the heap -/
mutual
def plainH (h0 : List O) : D → Bool
  | .tup ds => decide (ds.length ≤ sizeLine) && plainHs h0 ds
  | .non => true
  | .bl _ => true
  | .int _ => true
  | .str z => decide (z.length ≤ sizeLine)
  | .ref n => (match h0[n]? with
    | some (.lst _) => true
    | _ => false)
  | .ty _ => false
  | .frl _ => false
def plainHs (h0 : List O) : List D → Bool
  | [] => true
  | d :: ds => plainH h0 d && plainHs h0 ds
end
mutual
theorem plainH_of {h0 : List O} : ∀ d : D, plainD d = true → plainH h0 d = true
  | .tup ds, h => by
    unfold plainD at h
    rw [Bool.and_eq_true] at h
    unfold plainH
    rw [h.1, plainHs_of ds h.2]
    rfl
  | .non, _ => by unfold plainH; rfl
  | .bl _, _ => by unfold plainH; rfl
  | .int _, _ => by unfold plainH; rfl
  | .str z, h => by unfold plainD at h; unfold plainH; exact h
  | .ref _, h => by unfold plainD at h; cases h
  | .ty _, h => by unfold plainD at h; cases h
  | .frl _, h => by unfold plainD at h; cases h
theorem plainHs_of {h0 : List O} : ∀ ds : List D, plainDs ds = true → plainHs h0 ds = true
  | [], _ => by unfold plainHs; rfl
  | d :: ds, h => by
    unfold plainDs at h
    rw [Bool.and_eq_true] at h
    unfold plainHs
    rw [plainH_of d h.1, plainHs_of ds h.2]
    rfl
end
/-- an entry that waits: a text, or data of a depth -/
inductive En where
  | txt (t : List Nat) | dat (d : D) (k : Nat)
def En.enc : En → D
  | .txt t => .tup [.str (T t), .int 0]
  | .dat d k => .tup [d, .int (k : Nat)]
def En.cost : En → Nat
  | .txt _ => 1
  | .dat d _ => costD d
def En.out : En → Option (List Nat)
  | .txt t => some t
  | .dat d k => wrD k d
def En.good (h0 : List O) : En → Prop
  | .txt _ => True
  | .dat d k => 1 ≤ k ∧ plainH h0 d = true
def costE : List En → Nat
  | [] => 0
  | e :: es => e.cost + costE es
def outE : List En → Option (List Nat)
  | [] => some []
  | e :: es => e.out.bind fun a => (outE es).map fun b => a ++ b
/-- items of a tuple, with the commas -/
def inter (k : Nat) : List D → List En
  | [] => []
  | d :: ds => match ds with
    | [] => [.dat d k]
    | _ :: _ => .dat d k :: .txt [44] :: inter k ds
theorem costD_pos (d : D) : 1 ≤ costD d := by
  cases d <;> simp [costD] <;> omega
theorem costE_len : ∀ es : List En, es.length ≤ costE es
  | [] => Nat.le_refl _
  | e :: es => by
    have h1 := costE_len es
    have h2 : 1 ≤ e.cost := by
      cases e with
      | txt t => exact Nat.le_refl _
      | dat d k => exact costD_pos d
    rw [List.length_cons]
    show es.length + 1 ≤ e.cost + costE es
    omega
theorem costE_app (a b : List En) : costE (a ++ b) = costE a + costE b := by
  induction a with
  | nil => show costE b = 0 + costE b; omega
  | cons e a ih => show e.cost + costE (a ++ b) = e.cost + costE a + costE b; rw [ih]; omega
theorem outE_app (a b : List En) : outE (a ++ b) = (outE a).bind fun x => (outE b).map fun y => x ++ y := by
  induction a with
  | nil =>
    show outE b = (some []).bind fun x => (outE b).map fun y => x ++ y
    cases outE b <;> rfl
  | cons e a ih =>
    show (e.out.bind fun x => (outE (a ++ b)).map fun y => x ++ y) = (e.out.bind fun x => (outE a).map fun y => x ++ y).bind fun x => (outE b).map fun y => x ++ y
    rw [ih]
    cases e.out with
    | none => rfl
    | some x =>
      cases outE a with
      | none => rfl
      | some y =>
        cases outE b with
        | none => rfl
        | some z => simp
theorem inter_cost (k : Nat) : ∀ ds : List D, costE (inter k ds) ≤ costs ds
  | [] => Nat.le_refl _
  | [d] => by
    show costD d + 0 ≤ costD d + 1 + 0
    omega
  | d :: d2 :: ds => by
    have h := inter_cost k (d2 :: ds)
    show costD d + (1 + costE (inter k (d2 :: ds))) ≤ costD d + 1 + costs (d2 :: ds)
    omega
theorem inter_out (k : Nat) : ∀ ds : List D, outE (inter k ds) = wrsD k ds
  | [] => by unfold wrsD; rfl
  | [d] => by
    unfold wrsD
    show ((wrD k d).bind fun a => (some []).map fun b => a ++ b) = _
    cases wrD k d <;> simp
  | d :: d2 :: ds => by
    have h := inter_out k (d2 :: ds)
    conv => rhs; unfold wrsD
    show ((wrD k d).bind fun a => ((some [44]).bind fun x => (outE (inter k (d2 :: ds))).map fun y => x ++ y).map fun b => a ++ b) = _
    rw [h]
    cases wrD k d with
    | none => rfl
    | some a => cases wrsD k (d2 :: ds) <;> rfl
theorem inter_good {h0 : List O} (k : Nat) (hk : 1 ≤ k) : ∀ ds : List D, plainHs h0 ds = true → ∀ e ∈ inter k ds, e.good h0
  | [], _, e, he => by cases he
  | [d], h, e, he => by
    unfold plainHs at h
    rw [Bool.and_eq_true] at h
    have : e = .dat d k := by simpa [inter] using he
    subst this
    exact ⟨hk, h.1⟩
  | d :: d2 :: ds, h, e, he => by
    unfold plainHs at h
    rw [Bool.and_eq_true] at h
    have he' : e = .dat d k ∨ e = .txt [44] ∨ e ∈ inter k (d2 :: ds) := by
      have : e ∈ (.dat d k :: .txt [44] :: inter k (d2 :: ds)) := he
      simpa using this
    rcases he' with q | q | q
    · subst q; exact ⟨hk, h.1⟩
    · subst q; trivial
    · exact inter_good k hk (d2 :: ds) h.2 e q
/-- the pushes of the loop over k = j - 1, .., 0 -/
def pushes (k : Nat) (ds : List D) : Nat → List En
  | 0 => []
  | j + 1 => .dat (ds.getD j .non) k :: ((if 0 < j then [.txt [44]] else []) ++ pushes k ds j)
theorem inter_snoc (k : Nat) (d : D) : ∀ ds : List D, inter k (ds ++ [d]) = inter k ds ++ ((if 0 < ds.length then [.txt [44]] else []) ++ [.dat d k])
  | [] => rfl
  | [a] => rfl
  | a :: b :: ds => by
    have h := inter_snoc k d (b :: ds)
    show En.dat a k :: .txt [44] :: inter k ((b :: ds) ++ [d]) = En.dat a k :: .txt [44] :: inter k (b :: ds) ++ _
    rw [h]
    simp
theorem pushes_rev (k : Nat) (ds : List D) : ∀ j : Nat, j ≤ ds.length → (pushes k ds j).reverse = inter k (ds.take j)
  | 0, _ => by simp [pushes, inter]
  | j + 1, h => by
    have ih := pushes_rev k ds j (by omega)
    have hj : j < ds.length := by omega
    have e : ds.take (j + 1) = ds.take j ++ [ds.getD j .non] := by
      rw [List.take_succ, List.getD_eq_getElem?_getD, List.getElem?_eq_getElem hj]
      rfl
    rw [e, inter_snoc, ← ih]
    show (En.dat (ds.getD j .non) k :: ((if 0 < j then [.txt [44]] else []) ++ pushes k ds j)).reverse = _
    rw [List.reverse_cons, List.reverse_append, List.length_take, Nat.min_eq_left (by omega)]
    by_cases z : 0 < j
    · rw [if_pos z]; simp
    · rw [if_neg z]; simp
/-! ### the loop of write_data -/
def encE (E : List En) : List D := (E.map En.enc).reverse
def encF (F : List (List Nat)) : List D := F.map fun t => D.str (T t)
def bodyW : MS := sSeq (sAsg (mMt tyLst fPop (mVar 1) mNil) (gtTup (gtLen 2 (gtCons (gtName 3) (gtCons (gtName 4) gtNil)))))
    (sIf (mTst (mOp fEq (mVar 4) (mC (.int 0)))) (sExpr (mMt tyLst fAppend (mVar 2) (mCons (mVar 3) mNil))) (sIf (mAnd (mTst (mCB fIsi (mCons (mVar 3) (mCons (mC (.ty "tuple")) mNil)))) (mTst (mOp fLe (mVar 4) (mC (.int 1000))))) (sSeq (sExpr (mMt tyLst fAppend (mVar 2) (mCons (mC (.str "[")) mNil)))
    (sSeq (sExpr (mMt tyLst fAppend (mVar 1) (mCons (mTup (mCons (mC (.str "]")) (mCons (mC (.int 0)) mNil))) mNil)))
    (sFor (mSrcA srcRd (mCons (mOp fSub (mCB fLen (mCons (mVar 3) mNil)) (mC (.int 1))) (mCons (mUn fNeg (mC (.int 1))) (mCons (mUn fNeg (mC (.int 1))) mNil)))) (gtName 5)
    (sSeq (sExpr (mMt tyLst fAppend (mVar 1) (mCons (mTup (mCons (mOp fIx (mVar 3) (mVar 5)) (mCons (mOp fAdd (mVar 4) (mC (.int 1))) mNil))) mNil)))
    (sIf (mTst (mOp fGt (mVar 5) (mC (.int 0)))) (sExpr (mMt tyLst fAppend (mVar 1) (mCons (mTup (mCons (mC (.str ",")) (mCons (mC (.int 0)) mNil))) mNil))) sNext))))) (sExpr (mMt tyLst fAppend (mVar 2) (mCons (mCall 1 F_atom_text (mCons (mVar 3) mNil)) mNil)))))
def condW : M Bool := mTst (mOp fGt (mCB fLen (mCons (mVar 1) mNil)) (mC (.int 0)))
theorem m_write_eq : m_write_data = sSeq (sPar 1 2 (mCons (mLst (mCons (mTup (mCons (mVar 0) (mCons (mC (.int 1)) mNil))) mNil)) (mCons (mLst mNil) mNil)))
    (sSeq (whileL condW bodyW bigN) (sRet (mMt tyStr fJoin (mC (.str "")) (mCons (mVar 2) mNil)))) := rfl
section
variable {h0 : List O} {W F : List D} {o0 o3 o4 o5 : Option D}
abbrev rW (h0 : List O) (o0 o3 o4 o5 : Option D) : Sl := [o0, some (.ref h0.length), some (.ref (h0.length + 1)), o3, o4, o5]
theorem popW {x : D} {i : Int} : sAsg (mMt tyLst fPop (mVar 1) mNil) (gtTup (gtLen 2 (gtCons (gtName 3) (gtCons (gtName 4) gtNil)))) (rW h0 o0 o3 o4 o5) (hp h0 (W ++ [.tup [x, .int i]]) F) = .nx (rW h0 o0 (some x) (some (.int i)) o5) (hp h0 W F) := by
  simp only [sSeq_ap, seq_nx, seq_rt, seq_exc, seq_bad, sNext_ap, sRet_ap, sRetN_ap, sExpr_ap, sSet_ap, sIf_ap, sRaise_ap, sFor_ap, sAsg_ap, sPar_ap, par2_ap, sPar3_ap, par3_ap, mVar_ap, mC_ap, mOp_ap, mUn_ap, mTst_ap, asB_ap, mAnd_ap, mOr_ap, mNot_ap, mIf_ap, mAndV_ap, mOrV_ap, mNotV_ap, mChain_ap, mNil_ap, mCons_ap, mTup_ap, mLst_ap, mCB_ap, mCBL_ap, mNew_ap, allocL_ap, mNoPart_ap, mPart_ap, asI_ap, mSl_ap, mCall_ap, mMt_ap, mSrc_ap, mSrcA_ap, mSrcN_ap, capL_ap, mLcI_ap, mDisp_ap, mInTab_ap, mDispGet_ap, mMeth_ap, one1_ap, gtName_ap, gtS_name, R.bind_ok, R.bind_exc, R.bind_bad, R.thn_ok, R.thn_exc, R.thn_bad, List.getElem?_cons_zero, List.getElem?_cons_succ, List.set_cons_zero, List.set_cons_succ, if_true, Bool.not_true, Bool.not_false, Bool.false_eq_true, if_false, decide_true, decide_false, ty_ok1 hpA, pop_ok hpA, hpSA]
  rfl
theorem condW_pos (hW : W ≠ []) : condW (rW h0 o0 o3 o4 o5) (hp h0 W F) = .ok true (hp h0 W F) := by
  unfold condW
  have : (0 : Int) < (W.length : Int) := by
    have := List.length_pos_iff.mpr hW
    omega
  simp only [sSeq_ap, seq_nx, seq_rt, seq_exc, seq_bad, sNext_ap, sRet_ap, sRetN_ap, sExpr_ap, sSet_ap, sIf_ap, sRaise_ap, sFor_ap, sAsg_ap, sPar_ap, par2_ap, sPar3_ap, par3_ap, mVar_ap, mC_ap, mOp_ap, mUn_ap, mTst_ap, asB_ap, mAnd_ap, mOr_ap, mNot_ap, mIf_ap, mAndV_ap, mOrV_ap, mNotV_ap, mChain_ap, mNil_ap, mCons_ap, mTup_ap, mLst_ap, mCB_ap, mCBL_ap, mNew_ap, allocL_ap, mNoPart_ap, mPart_ap, asI_ap, mSl_ap, mCall_ap, mMt_ap, mSrc_ap, mSrcA_ap, mSrcN_ap, capL_ap, mLcI_ap, mDisp_ap, mInTab_ap, mDispGet_ap, mMeth_ap, one1_ap, gtName_ap, gtS_name, R.bind_ok, R.bind_exc, R.bind_bad, R.thn_ok, R.thn_exc, R.thn_bad, List.getElem?_cons_zero, List.getElem?_cons_succ, List.set_cons_zero, List.set_cons_succ, if_true, Bool.not_true, Bool.not_false, Bool.false_eq_true, if_false, decide_true, decide_false, len_ok hpA, fGt_int, this]
theorem condW_nil : condW (rW h0 o0 o3 o4 o5) (hp h0 [] F) = .ok false (hp h0 [] F) := by
  unfold condW
  simp only [sSeq_ap, seq_nx, seq_rt, seq_exc, seq_bad, sNext_ap, sRet_ap, sRetN_ap, sExpr_ap, sSet_ap, sIf_ap, sRaise_ap, sFor_ap, sAsg_ap, sPar_ap, par2_ap, sPar3_ap, par3_ap, mVar_ap, mC_ap, mOp_ap, mUn_ap, mTst_ap, asB_ap, mAnd_ap, mOr_ap, mNot_ap, mIf_ap, mAndV_ap, mOrV_ap, mNotV_ap, mChain_ap, mNil_ap, mCons_ap, mTup_ap, mLst_ap, mCB_ap, mCBL_ap, mNew_ap, allocL_ap, mNoPart_ap, mPart_ap, asI_ap, mSl_ap, mCall_ap, mMt_ap, mSrc_ap, mSrcA_ap, mSrcN_ap, capL_ap, mLcI_ap, mDisp_ap, mInTab_ap, mDispGet_ap, mMeth_ap, one1_ap, gtName_ap, gtS_name, R.bind_ok, R.bind_exc, R.bind_bad, R.thn_ok, R.thn_exc, R.thn_bad, List.getElem?_cons_zero, List.getElem?_cons_succ, List.set_cons_zero, List.set_cons_succ, if_true, Bool.not_true, Bool.not_false, Bool.false_eq_true, if_false, decide_true, decide_false, len_ok hpA, fGt_int]
  rfl
theorem appW {v : D} (hl : W.length < sizeLine) {ρ : Sl} (e : ρ[1]? = some (some (.ref h0.length))) {ms : M (List D)} (em : ms ρ (hp h0 W F) = .ok [v] (hp h0 W F)) : sExpr (mMt tyLst fAppend (mVar 1) ms) ρ (hp h0 W F) = .nx ρ (hp h0 (W ++ [v]) F) := by
  simp only [sExpr_ap, mMt_ap, mVar_ap, e, R.bind_ok, ty_ok1 hpA, if_true, em, app_ok hpA hl, hpSA, R.thn_ok]
theorem appF {v : D} (hl : F.length < sizeLine) {ρ : Sl} (e : ρ[2]? = some (some (.ref (h0.length + 1)))) {ms : M (List D)} (em : ms ρ (hp h0 W F) = .ok [v] (hp h0 W F)) : sExpr (mMt tyLst fAppend (mVar 2) ms) ρ (hp h0 W F) = .nx ρ (hp h0 W (F ++ [v])) := by
  simp only [sExpr_ap, mMt_ap, mVar_ap, e, R.bind_ok, ty_ok1 hpB, if_true, em, app_ok hpB hl, hpSB, R.thn_ok]
end
end K53
set_option Elab.async false
set_option linter.all false
set_option maxRecDepth 100000
set_option maxHeartbeats 1000000
namespace K53
open PySem PySem.Spec PyProof.Rows L2 SL PySem.NumText
theorem while_step {c : M Bool} {b : MS} {n : Nat} {ρ ρ2 : Sl} {h h2 : List O} (e1 : c ρ h = .ok true h) (e2 : b ρ h = .nx ρ2 h2) : whileL c b (n + 1) ρ h = whileL c b n ρ2 h2 := by
  show (c ρ h).thn ρ _ = _
  rw [e1]
  show (if true = true then (match b ρ h with
    | .nx ρ2 h2 => whileL c b n ρ2 h2
    | .ct ρ2 h2 => whileL c b n ρ2 h2
    | .bk ρ2 h2 => .nx ρ2 h2
    | .rt d h2 => .rt d h2
    | .exc c ρ2 h2 => .exc c ρ2 h2
    | .bad => .bad) else .nx ρ h) = _
  rw [if_pos rfl, e2]
theorem while_exc {c : M Bool} {b : MS} {n : Nat} {ρ ρ2 : Sl} {h h2 : List O} {x : Str} (e1 : c ρ h = .ok true h) (e2 : b ρ h = .exc x ρ2 h2) : whileL c b (n + 1) ρ h = .exc x ρ2 h2 := by
  show (c ρ h).thn ρ _ = _
  rw [e1]
  show (if true = true then (match b ρ h with
    | .nx ρ2 h2 => whileL c b n ρ2 h2
    | .ct ρ2 h2 => whileL c b n ρ2 h2
    | .bk ρ2 h2 => .nx ρ2 h2
    | .rt d h2 => .rt d h2
    | .exc c ρ2 h2 => .exc c ρ2 h2
    | .bad => .bad) else .nx ρ h) = _
  rw [if_pos rfl, e2]
theorem while_end {c : M Bool} {b : MS} {n : Nat} {ρ : Sl} {h : List O} (e1 : c ρ h = .ok false h) : whileL c b (n + 1) ρ h = .nx ρ h := by
  show (c ρ h).thn ρ _ = _
  rw [e1]
  rfl
theorem for_step {g : Nat} {b : MS} {d : D} {ds : List D} {ρ ρ2 : Sl} {h h2 : List O} (e : b (ρ.set g (some d)) h = .nx ρ2 h2) : forL (gtName g) b (fun _ => true) (d :: ds) ρ h = forL (gtName g) b (fun _ => true) ds ρ2 h2 := by
  show (if true = true then gtS (gtName g) d ρ h (fun ρ1 h1 => match b ρ1 h1 with
    | .nx ρ2 h2 => forL (gtName g) b (fun _ => true) ds ρ2 h2
    | .ct ρ2 h2 => forL (gtName g) b (fun _ => true) ds ρ2 h2
    | .bk ρ2 h2 => .nx ρ2 h2
    | .rt d h2 => .rt d h2
    | .exc c ρ2 h2 => .exc c ρ2 h2
    | .bad => .bad) else .bad) = _
  rw [if_pos rfl, gtS_name, e]
theorem for_nil {g : GT} {b : MS} {ρ : Sl} {h : List O} : forL g b (fun _ => true) [] ρ h = .nx ρ h := rfl
theorem tup2 (a b : D) (h : List O) : newTup [a, b] h = .ok (.tup [a, b]) h := rfl
theorem fIx_tup {ds : List D} {j : Nat} (hj : j < ds.length) (h : List O) : fIx (.tup ds) (.int (j : Nat)) h = .ok (ds.getD j .non) h := by
  have e : atI ds ((j : Nat) : Int) = some (ds.getD j .non) := by
    unfold atI ixN
    rw [if_pos (by omega), if_pos (by omega)]
    simp [List.getElem?_eq_getElem hj, List.getD_eq_getElem?_getD]
  show (match atI ds ((j : Nat) : Int) with
    | some d => R.ok d h
    | none => .bad) = _
  rw [e]
theorem run_succ (j : Nat) : runI (((j + 1 : Nat) : Int) - 1) (-1) (j + 1) = .int (j : Nat) :: runI ((j : Int) - 1) (-1) j := by
  unfold runI
  rw [List.range_succ_eq_map, List.map_cons, List.map_map]
  congr 1
  · congr 1
    omega
  · refine List.map_congr_left fun i _ => ?_
    show D.int _ = D.int _
    congr 1
    show ((j + 1 : Nat) : Int) - 1 + ((i + 1 : Nat) : Int) * (-1) = (j : Int) - 1 + (i : Int) * (-1)
    omega
def bodyK : MS := sSeq (sExpr (mMt tyLst fAppend (mVar 1) (mCons (mTup (mCons (mOp fIx (mVar 3) (mVar 5)) (mCons (mOp fAdd (mVar 4) (mC (.int 1))) mNil))) mNil)))
    (sIf (mTst (mOp fGt (mVar 5) (mC (.int 0)))) (sExpr (mMt tyLst fAppend (mVar 1) (mCons (mTup (mCons (mC (.str ",")) (mCons (mC (.int 0)) mNil))) mNil))) sNext)
section
variable {h0 : List O} {F : List D} {o0 : Option D}
theorem kloop (ds : List D) (k : Nat) : ∀ (j : Nat) (W : List D) (o5 : Option D), j ≤ ds.length → W.length + 2 * j < sizeLine →
    ∃ o5', forL (gtName 5) bodyK (fun _ => true) (runI ((j : Int) - 1) (-1) j) (rW h0 o0 (some (.tup ds)) (some (.int (k : Nat))) o5) (hp h0 W F) =
      .nx (rW h0 o0 (some (.tup ds)) (some (.int (k : Nat))) o5') (hp h0 (W ++ (pushes (k + 1) ds j).map En.enc) F)
  | 0, W, o5, _, _ => ⟨o5, by
    show RS.nx _ _ = _
    simp [pushes]⟩
  | j + 1, W, o5, hj, hz => by
    have a1 := appW (h0 := h0) (W := W) (F := F) (v := .tup [ds.getD j .non, .int ((k + 1 : Nat) : Int)]) (by omega) (ρ := rW h0 o0 (some (.tup ds)) (some (.int (k : Nat))) (some (.int (j : Nat)))) rfl (ms := mCons (mTup (mCons (mOp fIx (mVar 3) (mVar 5)) (mCons (mOp fAdd (mVar 4) (mC (.int 1))) mNil))) mNil) (by
      simp only [sSeq_ap, seq_nx, seq_rt, seq_exc, seq_bad, sNext_ap, sRet_ap, sRetN_ap, sExpr_ap, sSet_ap, sIf_ap, sRaise_ap, sFor_ap, sAsg_ap, sPar_ap, par2_ap, sPar3_ap, par3_ap, mVar_ap, mC_ap, mOp_ap, mUn_ap, mTst_ap, asB_ap, mAnd_ap, mOr_ap, mNot_ap, mIf_ap, mAndV_ap, mOrV_ap, mNotV_ap, mChain_ap, mNil_ap, mCons_ap, mTup_ap, mLst_ap, mCB_ap, mCBL_ap, mNew_ap, allocL_ap, mNoPart_ap, mPart_ap, asI_ap, mSl_ap, mCall_ap, mMt_ap, mSrc_ap, mSrcA_ap, mSrcN_ap, capL_ap, mLcI_ap, mDisp_ap, mInTab_ap, mDispGet_ap, mMeth_ap, one1_ap, gtName_ap, gtS_name, R.bind_ok, R.bind_exc, R.bind_bad, R.thn_ok, R.thn_exc, R.thn_bad, List.getElem?_cons_zero, List.getElem?_cons_succ, List.set_cons_zero, List.set_cons_succ, if_true, Bool.not_true, Bool.not_false, Bool.false_eq_true, if_false, decide_true, decide_false, fIx_tup (show j < ds.length by omega), fAdd_int, tup2]
      rfl)
    rw [run_succ]
    by_cases z : 0 < j
    · have a2 := appW (h0 := h0) (W := W ++ [.tup [ds.getD j .non, .int ((k + 1 : Nat) : Int)]]) (F := F) (v := .tup [.str (T [44]), .int 0]) (by rw [List.length_append, List.length_singleton]; omega) (ρ := rW h0 o0 (some (.tup ds)) (some (.int (k : Nat))) (some (.int (j : Nat)))) rfl (ms := mCons (mTup (mCons (mC (.str ",")) (mCons (mC (.int 0)) mNil))) mNil) (by
        rw [lit_comma]
        simp only [sSeq_ap, seq_nx, seq_rt, seq_exc, seq_bad, sNext_ap, sRet_ap, sRetN_ap, sExpr_ap, sSet_ap, sIf_ap, sRaise_ap, sFor_ap, sAsg_ap, sPar_ap, par2_ap, sPar3_ap, par3_ap, mVar_ap, mC_ap, mOp_ap, mUn_ap, mTst_ap, asB_ap, mAnd_ap, mOr_ap, mNot_ap, mIf_ap, mAndV_ap, mOrV_ap, mNotV_ap, mChain_ap, mNil_ap, mCons_ap, mTup_ap, mLst_ap, mCB_ap, mCBL_ap, mNew_ap, allocL_ap, mNoPart_ap, mPart_ap, asI_ap, mSl_ap, mCall_ap, mMt_ap, mSrc_ap, mSrcA_ap, mSrcN_ap, capL_ap, mLcI_ap, mDisp_ap, mInTab_ap, mDispGet_ap, mMeth_ap, one1_ap, gtName_ap, gtS_name, R.bind_ok, R.bind_exc, R.bind_bad, R.thn_ok, R.thn_exc, R.thn_bad, List.getElem?_cons_zero, List.getElem?_cons_succ, List.set_cons_zero, List.set_cons_succ, if_true, Bool.not_true, Bool.not_false, Bool.false_eq_true, if_false, decide_true, decide_false, tup2])
      have b : bodyK ((rW h0 o0 (some (.tup ds)) (some (.int (k : Nat))) o5).set 5 (some (.int (j : Nat)))) (hp h0 W F) = .nx (rW h0 o0 (some (.tup ds)) (some (.int (k : Nat))) (some (.int (j : Nat)))) (hp h0 (W ++ [.tup [ds.getD j .non, .int ((k + 1 : Nat) : Int)]] ++ [.tup [.str (T [44]), .int 0]]) F) := by
        show bodyK (rW h0 o0 (some (.tup ds)) (some (.int (k : Nat))) (some (.int (j : Nat)))) (hp h0 W F) = _
        unfold bodyK
        rw [sSeq_ap, a1, seq_nx]
        have zi : (0 : Int) < ((j : Nat) : Int) := by omega
        simp only [sIf_ap, mTst_ap, mOp_ap, mVar_ap, mC_ap, List.getElem?_cons_succ, List.getElem?_cons_zero, R.bind_ok, fGt_int, zi, decide_true, asB_ap, R.thn_ok, if_true]
        exact a2
      obtain ⟨o5', ih⟩ := kloop ds k j (W ++ [.tup [ds.getD j .non, .int ((k + 1 : Nat) : Int)]] ++ [.tup [.str (T [44]), .int 0]]) (some (.int (j : Nat))) (by omega) (by simp only [List.length_append, List.length_singleton]; omega)
      refine ⟨o5', ?_⟩
      rw [for_step b, ih]
      congr 2
      show _ = W ++ (En.dat (ds.getD j .non) (k + 1) :: ((if 0 < j then [En.txt [44]] else []) ++ pushes (k + 1) ds j)).map En.enc
      rw [if_pos z]
      simp [En.enc]
    · have j0 : j = 0 := by omega
      subst j0
      have b : bodyK ((rW h0 o0 (some (.tup ds)) (some (.int (k : Nat))) o5).set 5 (some (.int ((0 : Nat) : Int)))) (hp h0 W F) = .nx (rW h0 o0 (some (.tup ds)) (some (.int (k : Nat))) (some (.int ((0 : Nat) : Int)))) (hp h0 (W ++ [.tup [ds.getD 0 .non, .int ((k + 1 : Nat) : Int)]]) F) := by
        show bodyK (rW h0 o0 (some (.tup ds)) (some (.int (k : Nat))) (some (.int ((0 : Nat) : Int)))) (hp h0 W F) = _
        unfold bodyK
        rw [sSeq_ap, a1, seq_nx]
        rfl
      refine ⟨some (.int ((0 : Nat) : Int)), ?_⟩
      rw [for_step b]
      show RS.nx _ _ = _
      congr 2
theorem wloop : ∀ (n : Nat) (E : List En) (Fd : List (List Nat)) (o3 o4 o5 : Option D), costE E < n → (∀ e ∈ E, e.good h0) → Fd.length + costE E ≤ 1000000 →
    match outE E with
    | some t => ∃ o3' o4' o5' Fd', whileL condW bodyW n (rW h0 o0 o3 o4 o5) (hp h0 (encE E) (encF Fd)) = .nx (rW h0 o0 o3' o4' o5') (hp h0 [] (encF Fd')) ∧ Fd'.flatten = Fd.flatten ++ t
    | none => ∃ ρ' W' F', whileL condW bodyW n (rW h0 o0 o3 o4 o5) (hp h0 (encE E) (encF Fd)) = .exc "Malformed" ρ' (hp h0 W' F')
  | 0, E, Fd, o3, o4, o5, hc, _, _ => absurd hc (Nat.not_lt_zero _)
  | n + 1, [], Fd, o3, o4, o5, hc, hg, hz => by
    show ∃ o3' o4' o5' Fd', _ ∧ _
    exact ⟨o3, o4, o5, Fd, while_end condW_nil, by simp⟩
  | n + 1, .txt t :: es, Fd, o3, o4, o5, hc, hg, hz => by
    have hcs : costE (.txt t :: es) = 1 + costE es := rfl
    have sl : sizeLine = 16777216 := sizeLine_eq
    have ee : encE (.txt t :: es) = encE es ++ [.tup [.str (T t), .int 0]] := by simp [encE, En.enc]
    have fl : (encF Fd).length = Fd.length := by simp [encF]
    have ef : encF Fd ++ [.str (T t)] = encF (Fd ++ [t]) := by simp [encF]
    have b : bodyW (rW h0 o0 o3 o4 o5) (hp h0 (encE (.txt t :: es)) (encF Fd)) = .nx (rW h0 o0 (some (.str (T t))) (some (.int 0)) o5) (hp h0 (encE es) (encF (Fd ++ [t]))) := by
      unfold bodyW
      rw [ee, sSeq_ap, popW, seq_nx]
      simp only [sIf_ap, mTst_ap, mOp_ap, mVar_ap, mC_ap, List.getElem?_cons_succ, List.getElem?_cons_zero, R.bind_ok, fEq_int, decide_true, asB_ap, R.thn_ok, if_true]
      rw [appF (v := .str (T t)) (by rw [fl]; omega) rfl (by simp only [sSeq_ap, seq_nx, seq_rt, seq_exc, seq_bad, sNext_ap, sRet_ap, sRetN_ap, sExpr_ap, sSet_ap, sIf_ap, sRaise_ap, sFor_ap, sAsg_ap, sPar_ap, par2_ap, sPar3_ap, par3_ap, mVar_ap, mC_ap, mOp_ap, mUn_ap, mTst_ap, asB_ap, mAnd_ap, mOr_ap, mNot_ap, mIf_ap, mAndV_ap, mOrV_ap, mNotV_ap, mChain_ap, mNil_ap, mCons_ap, mTup_ap, mLst_ap, mCB_ap, mCBL_ap, mNew_ap, allocL_ap, mNoPart_ap, mPart_ap, asI_ap, mSl_ap, mCall_ap, mMt_ap, mSrc_ap, mSrcA_ap, mSrcN_ap, capL_ap, mLcI_ap, mDisp_ap, mInTab_ap, mDispGet_ap, mMeth_ap, one1_ap, gtName_ap, gtS_name, R.bind_ok, R.bind_exc, R.bind_bad, R.thn_ok, R.thn_exc, R.thn_bad, List.getElem?_cons_zero, List.getElem?_cons_succ, List.set_cons_zero, List.set_cons_succ, if_true, Bool.not_true, Bool.not_false, Bool.false_eq_true, if_false, decide_true, decide_false]), ef]
    have ih := wloop n es (Fd ++ [t]) (some (.str (T t))) (some (.int 0)) o5 (by omega) (fun e he => hg e (List.mem_cons_of_mem _ he)) (by rw [List.length_append, List.length_singleton]; omega)
    rw [while_step (condW_pos (by rw [ee]; simp)) b]
    show match (some t).bind fun a => (outE es).map fun b => a ++ b with
      | some t => _
      | none => _
    revert ih
    cases outE es with
    | none => exact id
    | some u =>
      rintro ⟨o3', o4', o5', Fd', e1, e2⟩
      exact ⟨o3', o4', o5', Fd', e1, by rw [e2]; simp⟩
  | n + 1, .dat d k :: es, Fd, o3, o4, o5, hc, hg, hz => by
    have hcs : costE (.dat d k :: es) = costD d + costE es := rfl
    have sl : sizeLine = 16777216 := sizeLine_eq
    have ee : encE (.dat d k :: es) = encE es ++ [.tup [d, .int (k : Nat)]] := by simp [encE, En.enc]
    have fl : (encF Fd).length = Fd.length := by simp [encF]
    have el : (encE es).length = es.length := by simp [encE]
    have lc := costE_len es
    have cp := costD_pos d
    obtain ⟨hk, hpd⟩ : 1 ≤ k ∧ plainH h0 d = true := hg _ List.mem_cons_self
    have hge : ∀ e ∈ es, e.good h0 := fun e he => hg e (List.mem_cons_of_mem _ he)
    have k0 : decide (((k : Nat) : Int) = 0) = false := decide_eq_false (by omega)
    have pos : condW (rW h0 o0 o3 o4 o5) (hp h0 (encE (.dat d k :: es)) (encF Fd)) = .ok true _ := condW_pos (by rw [ee]; simp)
    have hout : outE (.dat d k :: es) = (wrD k d).bind fun a => (outE es).map fun b => a ++ b := rfl
    -- an atom, or what can not be written
    have atom : (∃ b, fIsi [d, .ty "tuple"] (hp h0 (encE es) (encF Fd)) = .ok (.bl b) (hp h0 (encE es) (encF Fd)) ∧ (b && decide (((k : Nat) : Int) ≤ 1000)) = false) → wrD k d = atomT d → (F_atom_text [d] (hp h0 (encE es) (encF Fd)) = match atomT d with
      | some t => .ok (.str (T t)) (hp h0 (encE es) (encF Fd))
      | none => .exc "Malformed" (hp h0 (encE es) (encF Fd))) → match outE (.dat d k :: es) with
    | some t => ∃ o3' o4' o5' Fd', whileL condW bodyW (n + 1) (rW h0 o0 o3 o4 o5) (hp h0 (encE (.dat d k :: es)) (encF Fd)) = .nx (rW h0 o0 o3' o4' o5') (hp h0 [] (encF Fd')) ∧ Fd'.flatten = Fd.flatten ++ t
    | none => ∃ ρ' W' F', whileL condW bodyW (n + 1) (rW h0 o0 o3 o4 o5) (hp h0 (encE (.dat d k :: es)) (encF Fd)) = .exc "Malformed" ρ' (hp h0 W' F') := by
      intro hi hw at_
      have b0 : bodyW (rW h0 o0 o3 o4 o5) (hp h0 (encE (.dat d k :: es)) (encF Fd)) = sExpr (mMt tyLst fAppend (mVar 2) (mCons (mCall 1 F_atom_text (mCons (mVar 3) mNil)) mNil)) (rW h0 o0 (some d) (some (.int (k : Nat))) o5) (hp h0 (encE es) (encF Fd)) := by
        obtain ⟨b, hb1, hb2⟩ := hi
        unfold bodyW
        rw [ee, sSeq_ap, popW, seq_nx]
        simp only [sIf_ap, mTst_ap, mOp_ap, mVar_ap, mC_ap, List.getElem?_cons_succ, List.getElem?_cons_zero, R.bind_ok, fEq_int, k0, asB_ap, R.thn_ok, Bool.false_eq_true, if_false, mAnd_ap, mCB_ap, mCons_ap, mNil_ap, hb1, fLe_int]
        cases b with
        | false => rfl
        | true =>
          rw [Bool.true_and] at hb2
          simp only [if_true, hb2, R.thn_ok, Bool.false_eq_true, if_false]
      rw [hout, hw]
      cases q : atomT d with
      | none =>
        rw [q] at at_
        have b1 : bodyW (rW h0 o0 o3 o4 o5) (hp h0 (encE (.dat d k :: es)) (encF Fd)) = .exc "Malformed" (rW h0 o0 (some d) (some (.int (k : Nat))) o5) (hp h0 (encE es) (encF Fd)) := by
          rw [b0]
          simp only [sSeq_ap, seq_nx, seq_rt, seq_exc, seq_bad, sNext_ap, sRet_ap, sRetN_ap, sExpr_ap, sSet_ap, sIf_ap, sRaise_ap, sFor_ap, sAsg_ap, sPar_ap, par2_ap, sPar3_ap, par3_ap, mVar_ap, mC_ap, mOp_ap, mUn_ap, mTst_ap, asB_ap, mAnd_ap, mOr_ap, mNot_ap, mIf_ap, mAndV_ap, mOrV_ap, mNotV_ap, mChain_ap, mNil_ap, mCons_ap, mTup_ap, mLst_ap, mCB_ap, mCBL_ap, mNew_ap, allocL_ap, mNoPart_ap, mPart_ap, asI_ap, mSl_ap, mCall_ap, mMt_ap, mSrc_ap, mSrcA_ap, mSrcN_ap, capL_ap, mLcI_ap, mDisp_ap, mInTab_ap, mDispGet_ap, mMeth_ap, one1_ap, gtName_ap, gtS_name, R.bind_ok, R.bind_exc, R.bind_bad, R.thn_ok, R.thn_exc, R.thn_bad, List.getElem?_cons_zero, List.getElem?_cons_succ, List.set_cons_zero, List.set_cons_succ, if_true, Bool.not_true, Bool.not_false, Bool.false_eq_true, if_false, decide_true, decide_false, ty_ok1 hpB, List.length_cons, List.length_nil, at_]
        exact ⟨_, _, _, while_exc pos b1⟩
      | some t =>
        rw [q] at at_
        have ef : encF Fd ++ [.str (T t)] = encF (Fd ++ [t]) := by simp [encF]
        have b1 : bodyW (rW h0 o0 o3 o4 o5) (hp h0 (encE (.dat d k :: es)) (encF Fd)) = .nx (rW h0 o0 (some d) (some (.int (k : Nat))) o5) (hp h0 (encE es) (encF (Fd ++ [t]))) := by
          rw [b0, appF (v := .str (T t)) (by rw [fl]; omega) rfl (by simp only [sSeq_ap, seq_nx, seq_rt, seq_exc, seq_bad, sNext_ap, sRet_ap, sRetN_ap, sExpr_ap, sSet_ap, sIf_ap, sRaise_ap, sFor_ap, sAsg_ap, sPar_ap, par2_ap, sPar3_ap, par3_ap, mVar_ap, mC_ap, mOp_ap, mUn_ap, mTst_ap, asB_ap, mAnd_ap, mOr_ap, mNot_ap, mIf_ap, mAndV_ap, mOrV_ap, mNotV_ap, mChain_ap, mNil_ap, mCons_ap, mTup_ap, mLst_ap, mCB_ap, mCBL_ap, mNew_ap, allocL_ap, mNoPart_ap, mPart_ap, asI_ap, mSl_ap, mCall_ap, mMt_ap, mSrc_ap, mSrcA_ap, mSrcN_ap, capL_ap, mLcI_ap, mDisp_ap, mInTab_ap, mDispGet_ap, mMeth_ap, one1_ap, gtName_ap, gtS_name, R.bind_ok, R.bind_exc, R.bind_bad, R.thn_ok, R.thn_exc, R.thn_bad, List.getElem?_cons_zero, List.getElem?_cons_succ, List.set_cons_zero, List.set_cons_succ, if_true, Bool.not_true, Bool.not_false, Bool.false_eq_true, if_false, decide_true, decide_false, List.length_cons, List.length_nil, at_]), ef]
        have ih := wloop n es (Fd ++ [t]) (some d) (some (.int (k : Nat))) o5 (by omega) hge (by rw [List.length_append, List.length_singleton]; omega)
        rw [while_step pos b1]
        show match (some t).bind fun a => (outE es).map fun b => a ++ b with
          | some t => _
          | none => _
        revert ih
        cases outE es with
        | none => exact id
        | some u =>
          rintro ⟨o3', o4', o5', Fd', e1, e2⟩
          exact ⟨o3', o4', o5', Fd', e1, by rw [e2]; simp⟩
    cases d with
    | non => exact atom ⟨false, rfl, rfl⟩ (by unfold wrD; rfl) (atom_text_T _ _ trivial)
    | bl b => exact atom ⟨false, rfl, rfl⟩ (by unfold wrD; rfl) (atom_text_T _ _ trivial)
    | int i => exact atom ⟨false, rfl, rfl⟩ (by unfold wrD; rfl) (atom_text_T _ _ trivial)
    | str z => exact atom ⟨false, rfl, rfl⟩ (by unfold wrD; rfl) (atom_text_T _ _ (by unfold plainH at hpd; exact (of_decide_eq_true hpd : z.length ≤ sizeLine)))
    | ref m =>
      have tn : tyName (.ref m) (hp h0 (encE es) (encF Fd)) = some "list" := by
        unfold plainH at hpd
        have hm : ∃ ds, h0[m]? = some (.lst ds) := by
          revert hpd
          cases h0[m]? with
          | none => intro z; cases z
          | some o =>
            cases o with
            | lst ds => exact fun _ => ⟨ds, rfl⟩
            | ins c fs => intro z; cases z
        obtain ⟨ds, hm⟩ := hm
        have hm2 : (hp h0 (encE es) (encF Fd))[m]? = some (.lst ds) := by
          unfold hp
          rw [List.getElem?_append_left (List.getElem?_eq_some_iff.mp hm).1]
          exact hm
        unfold tyName
        simp only [hm2]
      refine atom ⟨false, ?_, rfl⟩ (by unfold wrD; rfl) (atom_text_ref m _ tn)
      unfold fIsi
      simp only [tn]
      rfl
    | ty m => unfold plainH at hpd; cases hpd
    | frl m => unfold plainH at hpd; cases hpd
    | tup ds =>
      by_cases k1 : k ≤ 1000
      · have ki : decide (((k : Nat) : Int) ≤ 1000) = true := decide_eq_true (by omega)
        have hpd2 : ds.length ≤ sizeLine ∧ plainHs h0 ds = true := by
          unfold plainH at hpd
          rw [Bool.and_eq_true, decide_eq_true_eq] at hpd
          exact hpd
        have cd : costD (.tup ds) = 2 + costs ds := by unfold costD; rfl
        have ci := inter_cost (k + 1) ds
        have cdl : ds.length ≤ costs ds := by
          have go : ∀ l : List D, l.length ≤ costs l := fun l => by
            induction l with
            | nil => exact Nat.le_refl _
            | cons a l ih => unfold costs; rw [List.length_cons]; omega
          exact go ds
        have ef : encF Fd ++ [.str (T [91])] = encF (Fd ++ [[91]]) := by simp [encF]
        have eE : encE es ++ [.tup [.str (T [93]), .int 0]] ++ (pushes (k + 1) ds ds.length).map En.enc = encE (inter (k + 1) ds ++ .txt [93] :: es) := by
          have pr := pushes_rev (k + 1) ds ds.length (Nat.le_refl _)
          rw [List.take_length] at pr
          rw [← pr]
          simp [encE, En.enc]
        have a1 := appF (h0 := h0) (W := encE es) (F := encF Fd) (v := .str (T [91])) (by rw [fl]; omega) (ρ := rW h0 o0 (some (.tup ds)) (some (.int (k : Nat))) o5) rfl (ms := mCons (mC (.str "[")) mNil) (by rw [lit_open]; simp only [sSeq_ap, seq_nx, seq_rt, seq_exc, seq_bad, sNext_ap, sRet_ap, sRetN_ap, sExpr_ap, sSet_ap, sIf_ap, sRaise_ap, sFor_ap, sAsg_ap, sPar_ap, par2_ap, sPar3_ap, par3_ap, mVar_ap, mC_ap, mOp_ap, mUn_ap, mTst_ap, asB_ap, mAnd_ap, mOr_ap, mNot_ap, mIf_ap, mAndV_ap, mOrV_ap, mNotV_ap, mChain_ap, mNil_ap, mCons_ap, mTup_ap, mLst_ap, mCB_ap, mCBL_ap, mNew_ap, allocL_ap, mNoPart_ap, mPart_ap, asI_ap, mSl_ap, mCall_ap, mMt_ap, mSrc_ap, mSrcA_ap, mSrcN_ap, capL_ap, mLcI_ap, mDisp_ap, mInTab_ap, mDispGet_ap, mMeth_ap, one1_ap, gtName_ap, gtS_name, R.bind_ok, R.bind_exc, R.bind_bad, R.thn_ok, R.thn_exc, R.thn_bad, List.getElem?_cons_zero, List.getElem?_cons_succ, List.set_cons_zero, List.set_cons_succ, if_true, Bool.not_true, Bool.not_false, Bool.false_eq_true, if_false, decide_true, decide_false])
        have a2 := appW (h0 := h0) (W := encE es) (F := encF Fd ++ [.str (T [91])]) (v := .tup [.str (T [93]), .int 0]) (by rw [el]; omega) (ρ := rW h0 o0 (some (.tup ds)) (some (.int (k : Nat))) o5) rfl (ms := mCons (mTup (mCons (mC (.str "]")) (mCons (mC (.int 0)) mNil))) mNil) (by rw [lit_close]; simp only [sSeq_ap, seq_nx, seq_rt, seq_exc, seq_bad, sNext_ap, sRet_ap, sRetN_ap, sExpr_ap, sSet_ap, sIf_ap, sRaise_ap, sFor_ap, sAsg_ap, sPar_ap, par2_ap, sPar3_ap, par3_ap, mVar_ap, mC_ap, mOp_ap, mUn_ap, mTst_ap, asB_ap, mAnd_ap, mOr_ap, mNot_ap, mIf_ap, mAndV_ap, mOrV_ap, mNotV_ap, mChain_ap, mNil_ap, mCons_ap, mTup_ap, mLst_ap, mCB_ap, mCBL_ap, mNew_ap, allocL_ap, mNoPart_ap, mPart_ap, asI_ap, mSl_ap, mCall_ap, mMt_ap, mSrc_ap, mSrcA_ap, mSrcN_ap, capL_ap, mLcI_ap, mDisp_ap, mInTab_ap, mDispGet_ap, mMeth_ap, one1_ap, gtName_ap, gtS_name, R.bind_ok, R.bind_exc, R.bind_bad, R.thn_ok, R.thn_exc, R.thn_bad, List.getElem?_cons_zero, List.getElem?_cons_succ, List.set_cons_zero, List.set_cons_succ, if_true, Bool.not_true, Bool.not_false, Bool.false_eq_true, if_false, decide_true, decide_false, tup2])
        obtain ⟨o5', kl⟩ := kloop (h0 := h0) (o0 := o0) (F := encF Fd ++ [.str (T [91])]) ds k ds.length (encE es ++ [.tup [.str (T [93]), .int 0]]) o5 (Nat.le_refl _) (by rw [List.length_append, List.length_singleton, el]; omega)
        have ld : ∀ h, fLen [.tup ds] h = .ok (.int ds.length) h := fun _ => rfl
        have it : ∀ h, fIsi [.tup ds, .ty "tuple"] h = .ok (.bl true) h := fun _ => rfl
        have src : ∀ h, mSrcA srcRd (mCons (mOp fSub (mCB fLen (mCons (mVar 3) mNil)) (mC (.int 1))) (mCons (mUn fNeg (mC (.int 1))) (mCons (mUn fNeg (mC (.int 1))) mNil))) (rW h0 o0 (some (.tup ds)) (some (.int (k : Nat))) o5) h = .ok (runI ((ds.length : Int) - 1) (-1) ds.length, fun _ => true) h := fun h => by
          simp only [sSeq_ap, seq_nx, seq_rt, seq_exc, seq_bad, sNext_ap, sRet_ap, sRetN_ap, sExpr_ap, sSet_ap, sIf_ap, sRaise_ap, sFor_ap, sAsg_ap, sPar_ap, par2_ap, sPar3_ap, par3_ap, mVar_ap, mC_ap, mOp_ap, mUn_ap, mTst_ap, asB_ap, mAnd_ap, mOr_ap, mNot_ap, mIf_ap, mAndV_ap, mOrV_ap, mNotV_ap, mChain_ap, mNil_ap, mCons_ap, mTup_ap, mLst_ap, mCB_ap, mCBL_ap, mNew_ap, allocL_ap, mNoPart_ap, mPart_ap, asI_ap, mSl_ap, mCall_ap, mMt_ap, mSrc_ap, mSrcA_ap, mSrcN_ap, capL_ap, mLcI_ap, mDisp_ap, mInTab_ap, mDispGet_ap, mMeth_ap, one1_ap, gtName_ap, gtS_name, R.bind_ok, R.bind_exc, R.bind_bad, R.thn_ok, R.thn_exc, R.thn_bad, List.getElem?_cons_zero, List.getElem?_cons_succ, List.set_cons_zero, List.set_cons_succ, if_true, Bool.not_true, Bool.not_false, Bool.false_eq_true, if_false, decide_true, decide_false, ld, fSub_int, fNeg_int]
          show (if (-1 : Int) = -1 ∧ -(2 ^ 62 : Int) ≤ (ds.length : Int) - 1 ∧ (ds.length : Int) - 1 < 2 ^ 62 ∧ -(2 ^ 62 : Int) ≤ -1 ∧ (-1 : Int) < 2 ^ 62 then R.ok (runI ((ds.length : Int) - 1) (-1) ((ds.length : Int) - 1 - -1).toNat, fun _ => true) h else .bad) = _
          have e62 : (2 : Int) ^ 62 = 4611686018427387904 := by decide
          rw [if_pos (by rw [e62]; omega)]
          congr 3
          omega
        have b1 : bodyW (rW h0 o0 o3 o4 o5) (hp h0 (encE (.dat (.tup ds) k :: es)) (encF Fd)) = .nx (rW h0 o0 (some (.tup ds)) (some (.int (k : Nat))) o5') (hp h0 (encE (inter (k + 1) ds ++ .txt [93] :: es)) (encF (Fd ++ [[91]]))) := by
          unfold bodyW
          rw [ee, sSeq_ap, popW, seq_nx]
          simp only [sIf_ap, mTst_ap, mOp_ap, mVar_ap, mC_ap, List.getElem?_cons_succ, List.getElem?_cons_zero, R.bind_ok, fEq_int, k0, asB_ap, R.thn_ok, Bool.false_eq_true, if_false, mAnd_ap, mCB_ap, mCons_ap, mNil_ap, it, fLe_int, ki, if_true]
          rw [sSeq_ap, a1, seq_nx, sSeq_ap, a2, seq_nx, sFor_ap, src, R.thn_ok]
          show forL (gtName 5) bodyK (fun _ => true) (runI ((ds.length : Int) - 1) (-1) ds.length) _ _ = _
          rw [kl, eE, ef]
        have ih := wloop n (inter (k + 1) ds ++ .txt [93] :: es) (Fd ++ [[91]]) (some (.tup ds)) (some (.int (k : Nat))) o5' (by
          rw [costE_app]
          show costE (inter (k + 1) ds) + (1 + costE es) < n
          omega) (fun e he => by
            rcases List.mem_append.mp he with q | q
            · exact inter_good (k + 1) (by omega) ds hpd2.2 e q
            · rcases List.mem_cons.mp q with q | q
              · subst q; trivial
              · exact hge e q) (by
          rw [costE_app, List.length_append, List.length_singleton]
          show Fd.length + 1 + (costE (inter (k + 1) ds) + (1 + costE es)) ≤ 1000000
          omega)
        rw [while_step pos b1]
        have wd : wrD k (.tup ds) = (wrsD (k + 1) ds).map fun t => 91 :: (t ++ [93]) := by
          unfold wrD
          rw [if_pos k1]
        have oe : outE (inter (k + 1) ds ++ .txt [93] :: es) = (wrsD (k + 1) ds).bind fun x => (outE es).map fun y => x ++ (93 :: y) := by
          rw [outE_app, inter_out]
          show ((wrsD (k + 1) ds).bind fun x => ((some [93]).bind fun a => (outE es).map fun b => a ++ b).map fun y => x ++ y) = _
          cases wrsD (k + 1) ds with
          | none => rfl
          | some a => cases outE es <;> rfl
        rw [oe] at ih
        rw [hout, wd]
        revert ih
        cases wrsD (k + 1) ds with
        | none => exact id
        | some a =>
          cases outE es with
          | none => exact id
          | some u =>
            rintro ⟨o3', o4', o5'', Fd', e1, e2⟩
            exact ⟨o3', o4', o5'', Fd', e1, by rw [e2]; simp⟩
      · have ki : decide (((k : Nat) : Int) ≤ 1000) = false := decide_eq_false (by omega)
        exact atom ⟨true, rfl, by rw [ki]; rfl⟩ (by unfold wrD; rw [if_neg k1]; rfl) (atom_text_T _ _ trivial)
/-! ### write_data -/
theorem joinN_nil : ∀ F : List (List Nat), Txt.join (T []) (F.map T) = T F.flatten := by
  intro F
  refine Eq.trans (PySem.StrLaws.glued_eq_join (T []) (F.map T)) ?_
  induction F with
  | nil => rfl
  | cons a r ih =>
    cases r with
    | nil => show T a = _; simp
    | cons b r =>
      show T a ++ T [] ++ Str.join (T []) ((b :: r).map T) = _
      rw [ih, T_app, T_app]
      simp
theorem getStrs_T (F : List (List Nat)) : getStrs (encF F) = some (F.map T) := by
  induction F with
  | nil => rfl
  | cons a r ih =>
    have e : encF (a :: r) = .str (T a) :: encF r := rfl
    rw [e]
    unfold getStrs
    rw [ih]
    rfl
theorem sum_len (F : List (List Nat)) : ((F.map T).map (·.length)).sum = F.flatten.length := by
  induction F with
  | nil => rfl
  | cons a r ih =>
    simp only [List.map_cons, List.sum_cons, List.flatten_cons, List.length_append, ih, T_len]
theorem write_run (d : D) (h : List O) (hp0 : plainH h d = true) (hc : costD d ≤ 900000) (hl : ∀ t, wrD 1 d = some t → t.length ≤ 16000000) : match wrD 1 d with
    | some t => ∃ h', runDef 6 m_write_data [d] h = .ok (.str (T t)) h'
    | none => ∃ W' F', runDef 6 m_write_data [d] h = .exc "Malformed" (hp h W' F') := by
  have sl : sizeLine = 16777216 := sizeLine_eq
  have st : sPar 1 2 (mCons (mLst (mCons (mTup (mCons (mVar 0) (mCons (mC (.int 1)) mNil))) mNil)) (mCons (mLst mNil) mNil)) [some d, none, none, none, none, none] h = .nx (rW h (some d) none none none) (hp h (encE [.dat d 1]) (encF [])) := by
    have n1 : ∀ (a : D) h, newLst [a] h = .ok (.ref h.length) (h ++ [.lst [a]]) := fun _ _ => rfl
    have n0 : ∀ h, newLst [] h = .ok (.ref h.length) (h ++ [.lst []]) := fun _ => rfl
    simp only [sSeq_ap, seq_nx, seq_rt, seq_exc, seq_bad, sNext_ap, sRet_ap, sRetN_ap, sExpr_ap, sSet_ap, sIf_ap, sRaise_ap, sFor_ap, sAsg_ap, sPar_ap, par2_ap, sPar3_ap, par3_ap, mVar_ap, mC_ap, mOp_ap, mUn_ap, mTst_ap, asB_ap, mAnd_ap, mOr_ap, mNot_ap, mIf_ap, mAndV_ap, mOrV_ap, mNotV_ap, mChain_ap, mNil_ap, mCons_ap, mTup_ap, mLst_ap, mCB_ap, mCBL_ap, mNew_ap, allocL_ap, mNoPart_ap, mPart_ap, asI_ap, mSl_ap, mCall_ap, mMt_ap, mSrc_ap, mSrcA_ap, mSrcN_ap, capL_ap, mLcI_ap, mDisp_ap, mInTab_ap, mDispGet_ap, mMeth_ap, one1_ap, gtName_ap, gtS_name, R.bind_ok, R.bind_exc, R.bind_bad, R.thn_ok, R.thn_exc, R.thn_bad, List.getElem?_cons_zero, List.getElem?_cons_succ, List.set_cons_zero, List.set_cons_succ, if_true, Bool.not_true, Bool.not_false, Bool.false_eq_true, if_false, decide_true, decide_false, tup2, n1, n0]
    simp [hp, encE, encF, En.enc]
  have wl := wloop (h0 := h) (o0 := some d) bigN [.dat d 1] [] none none none (by
    show costD d + 0 < bigN
    unfold bigN
    omega) (fun e he => by
      have : e = .dat d 1 := by simpa using he
      subst this
      exact ⟨Nat.le_refl _, hp0⟩) (by
    show 0 + (costD d + 0) ≤ 1000000
    omega)
  have oe : outE [.dat d 1] = wrD 1 d := by
    show ((wrD 1 d).bind fun a => (some []).map fun b => a ++ b) = _
    cases wrD 1 d <;> simp
  rw [oe] at wl
  unfold runDef
  rw [m_write_eq, show startD 6 [d] = [some d, none, none, none, none, none] from rfl, sSeq_ap, st, seq_nx, sSeq_ap]
  revert wl hl
  cases wrD 1 d with
  | none =>
    rintro _ ⟨ρ', W', F', e⟩
    rw [e]
    exact ⟨W', F', rfl⟩
  | some t =>
    rintro hl ⟨o3', o4', o5', Fd', e1, e2⟩
    rw [e1, seq_nx]
    have e3 : Fd'.flatten = t := by rw [e2]; rfl
    have jl := hl t rfl
    have ok : joinOk (T []) (Fd'.map T) = true := by
      unfold joinOk
      rw [sum_len, e3]
      simp
      omega
    refine ⟨hp h [] (encF Fd'), ?_⟩
    have it : itemsD (.ref (h.length + 1)) (hp h [] (encF Fd')) = some (encF Fd') := by
      show (match (hp h [] (encF Fd'))[h.length + 1]? with
        | some (.lst ds) => some ds
        | _ => none) = _
      rw [hpB]
    have jn : fJoin (.str (T [])) [.ref (h.length + 1)] (hp h [] (encF Fd')) = .ok (.str (T t)) (hp h [] (encF Fd')) := by
      show (match itemsD (.ref (h.length + 1)) (hp h [] (encF Fd')) with
        | some ds => fJoinI (.str (T [])) ds (hp h [] (encF Fd'))
        | none => .bad) = _
      rw [it]
      show (match D.str (T []), getStrs (encF Fd') with
        | .str a, some ys => if joinOk a ys = true then R.ok (D.str (Txt.join a ys)) (hp h [] (encF Fd')) else .bad
        | _, _ => .bad) = _
      rw [getStrs_T]
      show (if joinOk (T []) (Fd'.map T) = true then _ else _) = _
      rw [if_pos ok, joinN_nil, e3]
    have ts : tyStr (.str (T [])) (hp h [] (encF Fd')) = true := rfl
    rw [lit_nil]
    simp only [sSeq_ap, seq_nx, seq_rt, seq_exc, seq_bad, sNext_ap, sRet_ap, sRetN_ap, sExpr_ap, sSet_ap, sIf_ap, sRaise_ap, sFor_ap, sAsg_ap, sPar_ap, par2_ap, sPar3_ap, par3_ap, mVar_ap, mC_ap, mOp_ap, mUn_ap, mTst_ap, asB_ap, mAnd_ap, mOr_ap, mNot_ap, mIf_ap, mAndV_ap, mOrV_ap, mNotV_ap, mChain_ap, mNil_ap, mCons_ap, mTup_ap, mLst_ap, mCB_ap, mCBL_ap, mNew_ap, allocL_ap, mNoPart_ap, mPart_ap, asI_ap, mSl_ap, mCall_ap, mMt_ap, mSrc_ap, mSrcA_ap, mSrcN_ap, capL_ap, mLcI_ap, mDisp_ap, mInTab_ap, mDispGet_ap, mMeth_ap, one1_ap, gtName_ap, gtS_name, R.bind_ok, R.bind_exc, R.bind_bad, R.thn_ok, R.thn_exc, R.thn_bad, List.getElem?_cons_zero, List.getElem?_cons_succ, List.set_cons_zero, List.set_cons_succ, if_true, Bool.not_true, Bool.not_false, Bool.false_eq_true, if_false, decide_true, decide_false, ts, jn]
end
mutual
theorem plain_flat : ∀ d : D, plainD d = true → d.flat = true
  | .tup ds, h => by
    unfold plainD at h
    rw [Bool.and_eq_true] at h
    unfold D.flat
    exact plains_flat ds h.2
  | .non, _ => rfl
  | .bl _, _ => rfl
  | .int _, _ => rfl
  | .str _, _ => rfl
  | .ref _, h => by unfold plainD at h; cases h
  | .ty _, _ => rfl
  | .frl _, h => by unfold plainD at h; cases h
theorem plains_flat : ∀ ds : List D, plainDs ds = true → D.flats ds = true
  | [], _ => rfl
  | d :: ds, h => by
    unfold plainDs at h
    rw [Bool.and_eq_true] at h
    unfold D.flats
    rw [plain_flat d h.1, plains_flat ds h.2]
    rfl
end
theorem write_T (d : D) (h : List O) (hp0 : plainD d = true) (hc : costD d ≤ 900000) (hl : ∀ t, wrD 1 d = some t → t.length ≤ 16000000) : F_write_data [d] h = match wrD 1 d with
    | some t => .ok (.str (T t)) h
    | none => .exc "Malformed" h := by
  have hf : D.flats [d] = true := by
    show (d.flat && true) = true
    rw [plain_flat d hp0]
    rfl
  have w := write_run d [] (plainH_of d hp0) hc hl
  cases q : wrD 1 d with
  | none =>
    rw [q] at w
    obtain ⟨W', F', e⟩ := w
    exact pureOr_exc e hf
  | some t =>
    rw [q] at w
    obtain ⟨h', e⟩ := w
    exact pureOr_ok e rfl hf
/-- data with a list somewhere have no text -/
theorem write_ref (d : D) (h : List O) (hp0 : plainH h d = true) (hf : D.flats [d] = false) (hc : costD d ≤ 900000) (hw : wrD 1 d = none) : ∃ W' F', F_write_data [d] h = .exc "Malformed" (hp h W' F') := by
  have w := write_run d h hp0 hc fun t e => by rw [hw] at e; cases e
  rw [hw] at w
  obtain ⟨W', F', e⟩ := w
  exact ⟨W', F', (pureOr_dir (F := runDef 6 m_write_data) h hf).trans e⟩
end K53
set_option Elab.async false
set_option linter.all false
set_option maxRecDepth 100000
set_option maxHeartbeats 1000000
namespace K53
open PySem PySem.Spec PyProof.Rows L2 SL PySem.NumText
/-! ### the pieces of a text -/
def isS (c : Nat) : Bool := decide (c = 91) || (decide (c = 93) || decide (c = 44))
theorem isS_mem (c : Nat) : decide (c ∈ ("[]," : Str).cps.toList) = isS c := by
  have e : ("[]," : Str).cps.toList = [91, 93, 44] := by decide +kernel
  rw [e]
  unfold isS
  rw [Bool.eq_iff_iff]
  simp
theorem fIn_isS (c : Nat) (h : List O) : fIn (.str ⟨#[c]⟩) (.str "[],") h = .ok (.bl (isS c)) h := by rw [fIn_sign, isS_mem]
def optT (tok : List Nat) : List (List Nat) := if tok = [] then [] else [tok]
def pieces : List Nat → List Nat → List (List Nat)
  | [], tok => optT tok
  | c :: r, tok => if isS c = true then optT tok ++ [c] :: pieces r [] else pieces r (tok ++ [c])
def bodyP : MS := sIf (mTst (mOp fIn (mVar 4) (mC (.str "[],")))) (sSeq (sIf (mTst (mOp fLt (mVar 2) (mVar 3))) (sExpr (mMt tyLst fAppend (mVar 1) (mCons (mSl fSl (mVar 0) (mPart (mVar 2)) (mPart (mVar 3))) mNil))) sNext)
    (sSeq (sExpr (mMt tyLst fAppend (mVar 1) (mCons (mVar 4) mNil)))
    (sSet 2 (mOp fAdd (mVar 3) (mC (.int 1)))))) sNext
def tgP : GT := gtTup (gtLen 2 (gtCons (gtName 3) (gtCons (gtName 4) gtNil)))
def endP : MS := sRet (mOp fAdd (mVar 1) (mIf (mTst (mOp fLt (mVar 2) (mCB fLen (mCons (mVar 0) mNil)))) (mLst (mCons (mSl fSl (mVar 0) (mPart (mVar 2)) mNoPart) mNil)) (mLst mNil)))
theorem m_pieces_eq : m_pieces_of = sSeq (sPar 1 2 (mCons (mLst mNil) (mCons (mC (.int 0)) mNil))) (sSeq (sFor (mSrcA (one1 srcEnS) (mCons (mVar 0) mNil)) tgP bodyP) endP) := rfl
theorem forT_step {b : MS} {g : GT} {d : D} {ds : List D} {ρ ρ1 ρ2 : Sl} {h h2 : List O} {gd : List O → Bool} (hg : gd h = true) (e0 : g d ρ h = .ok ρ1 h) (e : b ρ1 h = .nx ρ2 h2) : forL g b gd (d :: ds) ρ h = forL g b gd ds ρ2 h2 := by
  show (if gd h = true then gtS g d ρ h (fun ρ1 h1 => match b ρ1 h1 with
    | .nx ρ2 h2 => forL g b gd ds ρ2 h2
    | .ct ρ2 h2 => forL g b gd ds ρ2 h2
    | .bk ρ2 h2 => .nx ρ2 h2
    | .rt d h2 => .rt d h2
    | .exc c ρ2 h2 => .exc c ρ2 h2
    | .bad => .bad) else .bad) = _
  unfold gtS
  rw [if_pos hg, e0]
  show (match b ρ1 h with
    | .nx ρ2 h2 => forL g b gd ds ρ2 h2
    | .ct ρ2 h2 => forL g b gd ds ρ2 h2
    | .bk ρ2 h2 => .nx ρ2 h2
    | .rt d h2 => .rt d h2
    | .exc c ρ2 h2 => .exc c ρ2 h2
    | .bad => .bad) = _
  rw [e]
section
variable {h0 : List O} {F : List D}
theorem h1A : (h0 ++ [O.lst F])[h0.length]? = some (.lst F) := by simp
theorem h1S {F2 : List D} : (h0 ++ [O.lst F]).set h0.length (.lst F2) = h0 ++ [.lst F2] := by simp [List.set_append]
theorem app1 {v : D} (hl : F.length < sizeLine) {ρ : Sl} (e : ρ[1]? = some (some (.ref h0.length))) {ms : M (List D)} (em : ms ρ (h0 ++ [.lst F]) = .ok [v] (h0 ++ [.lst F])) : sExpr (mMt tyLst fAppend (mVar 1) ms) ρ (h0 ++ [.lst F]) = .nx ρ (h0 ++ [.lst (F ++ [v])]) := by
  simp only [sExpr_ap, mMt_ap, mVar_ap, e, R.bind_ok, ty_ok1 h1A, if_true, em, app_ok h1A hl, h1S, R.thn_ok]
end
theorem ploop {h0 : List O} (t : List Nat) (ht : t.length ≤ 1000000) : ∀ (r p : List Nat) (s : Nat) (F : List (List Nat)) (o3 o4 : Option D), t = p ++ r → s ≤ p.length → F.length ≤ 2 * p.length →
    ∃ s' F' o3' o4', forL tgP bodyP (fun _ => true) (enumD p.length (r.map fun c => D.str ⟨#[c]⟩)) [some (.str (T t)), some (.ref h0.length), some (.int (s : Nat)), o3, o4] (h0 ++ [.lst (encF F)]) =
      .nx [some (.str (T t)), some (.ref h0.length), some (.int ((s' : Nat) : Int)), o3', o4'] (h0 ++ [.lst (encF F')]) ∧ s' ≤ t.length ∧ F'.length ≤ 2 * t.length ∧ F' ++ optT (t.drop s') = F ++ pieces r (p.drop s)
  | [], p, s, F, o3, o4, e, hs, hf => by
    rw [List.append_nil] at e
    subst e
    exact ⟨s, F, o3, o4, rfl, hs, hf, rfl⟩
  | c :: r, p, s, F, o3, o4, e, hs, hf => by
    have sl : sizeLine = 16777216 := sizeLine_eq
    have hlen : t.length = p.length + (r.length + 1) := by rw [e, List.length_append, List.length_cons]
    have htl : t.length ≤ sizeLine := by omega
    have fl : ∀ F : List (List Nat), (encF F).length = F.length := fun F => by simp [encF]
    have g0 : tgP (.tup [.int (p.length : Nat), .str ⟨#[c]⟩]) [some (.str (T t)), some (.ref h0.length), some (.int (s : Nat)), o3, o4] (h0 ++ [.lst (encF F)]) = .ok [some (.str (T t)), some (.ref h0.length), some (.int (s : Nat)), some (.int (p.length : Nat)), some (.str ⟨#[c]⟩)] (h0 ++ [.lst (encF F)]) := rfl
    have en : enumD p.length ((c :: r).map fun c => D.str ⟨#[c]⟩) = .tup [.int (p.length : Nat), .str ⟨#[c]⟩] :: enumD (p ++ [c]).length (r.map fun c => D.str ⟨#[c]⟩) := by
      rw [List.length_append, List.length_singleton]
      rfl
    have e2 : t = (p ++ [c]) ++ r := by rw [e]; simp
    cases hc : isS c with
    | false =>
      have b : bodyP [some (.str (T t)), some (.ref h0.length), some (.int (s : Nat)), some (.int (p.length : Nat)), some (.str ⟨#[c]⟩)] (h0 ++ [.lst (encF F)]) = .nx [some (.str (T t)), some (.ref h0.length), some (.int (s : Nat)), some (.int (p.length : Nat)), some (.str ⟨#[c]⟩)] (h0 ++ [.lst (encF F)]) := by
        unfold bodyP
        simp only [sSeq_ap, seq_nx, seq_rt, seq_exc, seq_bad, sNext_ap, sRet_ap, sRetN_ap, sExpr_ap, sSet_ap, sIf_ap, sRaise_ap, sFor_ap, sAsg_ap, sPar_ap, par2_ap, sPar3_ap, par3_ap, mVar_ap, mC_ap, mOp_ap, mUn_ap, mTst_ap, asB_ap, mAnd_ap, mOr_ap, mNot_ap, mIf_ap, mAndV_ap, mOrV_ap, mNotV_ap, mChain_ap, mNil_ap, mCons_ap, mTup_ap, mLst_ap, mCB_ap, mCBL_ap, mNew_ap, allocL_ap, mNoPart_ap, mPart_ap, asI_ap, mSl_ap, mCall_ap, mMt_ap, mSrc_ap, mSrcA_ap, mSrcN_ap, capL_ap, mLcI_ap, mDisp_ap, mInTab_ap, mDispGet_ap, mMeth_ap, one1_ap, gtName_ap, gtS_name, R.bind_ok, R.bind_exc, R.bind_bad, R.thn_ok, R.thn_exc, R.thn_bad, List.getElem?_cons_zero, List.getElem?_cons_succ, List.set_cons_zero, List.set_cons_succ, if_true, Bool.not_true, Bool.not_false, Bool.false_eq_true, if_false, decide_true, decide_false, fIn_isS, hc]
      obtain ⟨s', F', o3', o4', q1, q2, q3, q4⟩ := ploop (h0 := h0) t ht r (p ++ [c]) s F (some (.int (p.length : Nat))) (some (.str ⟨#[c]⟩)) e2 (by rw [List.length_append]; omega) (by rw [List.length_append]; omega)
      refine ⟨s', F', o3', o4', ?_, q2, q3, ?_⟩
      · rw [en, forT_step rfl g0 b, q1]
      · rw [q4, List.drop_append_of_le_length hs]
        conv => rhs; unfold pieces
        rw [hc]
        rfl
    | true =>
      have fin : ∀ (F1 : List (List Nat)), F1.length ≤ 2 * p.length + 1 → F1 = F ++ optT (p.drop s) →
          sIf (mTst (mOp fLt (mVar 2) (mVar 3))) (sExpr (mMt tyLst fAppend (mVar 1) (mCons (mSl fSl (mVar 0) (mPart (mVar 2)) (mPart (mVar 3))) mNil))) sNext [some (.str (T t)), some (.ref h0.length), some (.int (s : Nat)), some (.int (p.length : Nat)), some (.str ⟨#[c]⟩)] (h0 ++ [.lst (encF F)]) = .nx [some (.str (T t)), some (.ref h0.length), some (.int (s : Nat)), some (.int (p.length : Nat)), some (.str ⟨#[c]⟩)] (h0 ++ [.lst (encF F1)]) →
          ∃ s' F' o3' o4', forL tgP bodyP (fun _ => true) (enumD p.length ((c :: r).map fun c => D.str ⟨#[c]⟩)) [some (.str (T t)), some (.ref h0.length), some (.int (s : Nat)), o3, o4] (h0 ++ [.lst (encF F)]) =
            .nx [some (.str (T t)), some (.ref h0.length), some (.int ((s' : Nat) : Int)), o3', o4'] (h0 ++ [.lst (encF F')]) ∧ s' ≤ t.length ∧ F'.length ≤ 2 * t.length ∧ F' ++ optT (t.drop s') = F ++ pieces (c :: r) (p.drop s) := by
        intro F1 hF1 eF1 st
        have ef : encF F1 ++ [.str ⟨#[c]⟩] = encF (F1 ++ [[c]]) := by simp [encF, one_T]
        have b : bodyP [some (.str (T t)), some (.ref h0.length), some (.int (s : Nat)), some (.int (p.length : Nat)), some (.str ⟨#[c]⟩)] (h0 ++ [.lst (encF F)]) = .nx [some (.str (T t)), some (.ref h0.length), some (.int (((p ++ [c]).length : Nat) : Int)), some (.int (p.length : Nat)), some (.str ⟨#[c]⟩)] (h0 ++ [.lst (encF (F1 ++ [[c]]))]) := by
          unfold bodyP
          rw [sIf_ap]
          simp only [mTst_ap, mOp_ap, mVar_ap, mC_ap, List.getElem?_cons_succ, List.getElem?_cons_zero, R.bind_ok, fIn_isS, hc, asB_ap, R.thn_ok, if_true]
          rw [sSeq_ap, st, seq_nx, sSeq_ap, app1 (v := .str ⟨#[c]⟩) (by rw [fl]; omega) rfl (by simp only [sSeq_ap, seq_nx, seq_rt, seq_exc, seq_bad, sNext_ap, sRet_ap, sRetN_ap, sExpr_ap, sSet_ap, sIf_ap, sRaise_ap, sFor_ap, sAsg_ap, sPar_ap, par2_ap, sPar3_ap, par3_ap, mVar_ap, mC_ap, mOp_ap, mUn_ap, mTst_ap, asB_ap, mAnd_ap, mOr_ap, mNot_ap, mIf_ap, mAndV_ap, mOrV_ap, mNotV_ap, mChain_ap, mNil_ap, mCons_ap, mTup_ap, mLst_ap, mCB_ap, mCBL_ap, mNew_ap, allocL_ap, mNoPart_ap, mPart_ap, asI_ap, mSl_ap, mCall_ap, mMt_ap, mSrc_ap, mSrcA_ap, mSrcN_ap, capL_ap, mLcI_ap, mDisp_ap, mInTab_ap, mDispGet_ap, mMeth_ap, one1_ap, gtName_ap, gtS_name, R.bind_ok, R.bind_exc, R.bind_bad, R.thn_ok, R.thn_exc, R.thn_bad, List.getElem?_cons_zero, List.getElem?_cons_succ, List.set_cons_zero, List.set_cons_succ, if_true, Bool.not_true, Bool.not_false, Bool.false_eq_true, if_false, decide_true, decide_false]), seq_nx, ef]
          simp only [sSeq_ap, seq_nx, seq_rt, seq_exc, seq_bad, sNext_ap, sRet_ap, sRetN_ap, sExpr_ap, sSet_ap, sIf_ap, sRaise_ap, sFor_ap, sAsg_ap, sPar_ap, par2_ap, sPar3_ap, par3_ap, mVar_ap, mC_ap, mOp_ap, mUn_ap, mTst_ap, asB_ap, mAnd_ap, mOr_ap, mNot_ap, mIf_ap, mAndV_ap, mOrV_ap, mNotV_ap, mChain_ap, mNil_ap, mCons_ap, mTup_ap, mLst_ap, mCB_ap, mCBL_ap, mNew_ap, allocL_ap, mNoPart_ap, mPart_ap, asI_ap, mSl_ap, mCall_ap, mMt_ap, mSrc_ap, mSrcA_ap, mSrcN_ap, capL_ap, mLcI_ap, mDisp_ap, mInTab_ap, mDispGet_ap, mMeth_ap, one1_ap, gtName_ap, gtS_name, R.bind_ok, R.bind_exc, R.bind_bad, R.thn_ok, R.thn_exc, R.thn_bad, List.getElem?_cons_zero, List.getElem?_cons_succ, List.set_cons_zero, List.set_cons_succ, if_true, Bool.not_true, Bool.not_false, Bool.false_eq_true, if_false, decide_true, decide_false, fAdd_int]
          rw [List.length_append, List.length_singleton]
          rfl
        obtain ⟨s', F', o3', o4', q1, q2, q3, q4⟩ := ploop (h0 := h0) t ht r (p ++ [c]) (p ++ [c]).length (F1 ++ [[c]]) (some (.int (p.length : Nat))) (some (.str ⟨#[c]⟩)) e2 (Nat.le_refl _) (by simp only [List.length_append, List.length_singleton]; omega)
        refine ⟨s', F', o3', o4', ?_, q2, q3, ?_⟩
        · rw [en, forT_step rfl g0 b, q1]
        · rw [q4, List.drop_length, eF1]
          conv => rhs; unfold pieces
          rw [hc, if_pos rfl]
          simp
      by_cases hsp : s < p.length
      · have nd : p.drop s ≠ [] := by
          intro z
          have := List.drop_eq_nil_iff.mp z
          omega
        have sd : (t.drop s).take (p.length - s) = p.drop s := by
          rw [e, List.drop_append_of_le_length hs, List.take_left' (by rw [List.length_drop])]
        have ef : encF F ++ [.str (T (p.drop s))] = encF (F ++ [p.drop s]) := by simp [encF]
        have lt : decide (((s : Nat) : Int) < ((p.length : Nat) : Int)) = true := decide_eq_true (by omega)
        refine fin (F ++ [p.drop s]) (by rw [List.length_append, List.length_singleton]; omega) (by unfold optT; rw [if_neg nd]) ?_
        rw [sIf_ap]
        simp only [mTst_ap, mOp_ap, mVar_ap, List.getElem?_cons_succ, List.getElem?_cons_zero, R.bind_ok, fLt_int, lt, asB_ap, R.thn_ok, if_true]
        rw [app1 (v := .str (T (p.drop s))) (by rw [fl]; omega) rfl (by
          simp only [sSeq_ap, seq_nx, seq_rt, seq_exc, seq_bad, sNext_ap, sRet_ap, sRetN_ap, sExpr_ap, sSet_ap, sIf_ap, sRaise_ap, sFor_ap, sAsg_ap, sPar_ap, par2_ap, sPar3_ap, par3_ap, mVar_ap, mC_ap, mOp_ap, mUn_ap, mTst_ap, asB_ap, mAnd_ap, mOr_ap, mNot_ap, mIf_ap, mAndV_ap, mOrV_ap, mNotV_ap, mChain_ap, mNil_ap, mCons_ap, mTup_ap, mLst_ap, mCB_ap, mCBL_ap, mNew_ap, allocL_ap, mNoPart_ap, mPart_ap, asI_ap, mSl_ap, mCall_ap, mMt_ap, mSrc_ap, mSrcA_ap, mSrcN_ap, capL_ap, mLcI_ap, mDisp_ap, mInTab_ap, mDispGet_ap, mMeth_ap, one1_ap, gtName_ap, gtS_name, R.bind_ok, R.bind_exc, R.bind_bad, R.thn_ok, R.thn_exc, R.thn_bad, List.getElem?_cons_zero, List.getElem?_cons_succ, List.set_cons_zero, List.set_cons_succ, if_true, Bool.not_true, Bool.not_false, Bool.false_eq_true, if_false, decide_true, decide_false, fSl_T _ _ _ _ htl]
          rw [cut_mid t s p.length hs (by omega), sd]), ef]
      · have es : s = p.length := by omega
        have lt : decide (((s : Nat) : Int) < ((p.length : Nat) : Int)) = false := decide_eq_false (by omega)
        refine fin F (by omega) (by unfold optT; rw [es, List.drop_length, if_pos rfl]; simp) ?_
        simp only [sSeq_ap, seq_nx, seq_rt, seq_exc, seq_bad, sNext_ap, sRet_ap, sRetN_ap, sExpr_ap, sSet_ap, sIf_ap, sRaise_ap, sFor_ap, sAsg_ap, sPar_ap, par2_ap, sPar3_ap, par3_ap, mVar_ap, mC_ap, mOp_ap, mUn_ap, mTst_ap, asB_ap, mAnd_ap, mOr_ap, mNot_ap, mIf_ap, mAndV_ap, mOrV_ap, mNotV_ap, mChain_ap, mNil_ap, mCons_ap, mTup_ap, mLst_ap, mCB_ap, mCBL_ap, mNew_ap, allocL_ap, mNoPart_ap, mPart_ap, asI_ap, mSl_ap, mCall_ap, mMt_ap, mSrc_ap, mSrcA_ap, mSrcN_ap, capL_ap, mLcI_ap, mDisp_ap, mInTab_ap, mDispGet_ap, mMeth_ap, one1_ap, gtName_ap, gtS_name, R.bind_ok, R.bind_exc, R.bind_bad, R.thn_ok, R.thn_exc, R.thn_bad, List.getElem?_cons_zero, List.getElem?_cons_succ, List.set_cons_zero, List.set_cons_succ, if_true, Bool.not_true, Bool.not_false, Bool.false_eq_true, if_false, decide_true, decide_false, fLt_int, lt]
theorem pieces_len : ∀ (r tok : List Nat), (pieces r tok).length ≤ 2 * r.length + 1
  | [], tok => by unfold pieces optT; split <;> simp
  | c :: r, tok => by
    have h1 := pieces_len r []
    have h2 := pieces_len r (tok ++ [c])
    have h3 : (optT tok).length ≤ 1 := by unfold optT; split <;> simp
    unfold pieces
    split
    · simp only [List.length_append, List.length_cons]; omega
    · simp only [List.length_cons]; omega
theorem pieces_T (t : List Nat) (h : List O) (ht : t.length ≤ 1000000) : ∃ o1 o2, F_pieces_of [.str (T t)] h = .ok (.ref (h.length + 2)) (h ++ [o1, o2, .lst (encF (pieces t []))]) := by
  have sl : sizeLine = 16777216 := sizeLine_eq
  have htl : t.length ≤ sizeLine := by omega
  obtain ⟨s', F', o3', o4', q1, q2, q3, q4⟩ := ploop (h0 := h) t ht t [] 0 [] none none rfl (Nat.le_refl _) (by simp)
  rw [List.drop_nil, List.nil_append] at q4
  have fl : ∀ F : List (List Nat), (encF F).length = F.length := fun F => by simp [encF]
  have n0 : ∀ h, newLst [] h = .ok (.ref h.length) (h ++ [.lst []]) := fun _ => rfl
  have n1 : ∀ (a : D) h, newLst [a] h = .ok (.ref h.length) (h ++ [.lst [a]]) := fun _ _ => rfl
  have src : ∀ ρ h, ρ[0]? = some (some (.str (T t))) → mSrcA (one1 srcEnS) (mCons (mVar 0) mNil) ρ h = .ok (enumD 0 (t.map fun c => D.str ⟨#[c]⟩), fun _ => true) h := fun ρ h e => by
    simp only [mSrcA_ap, mCons_ap, mVar_ap, e, mNil_ap, R.bind_ok, one1_ap]
    rfl
  have st : sPar 1 2 (mCons (mLst mNil) (mCons (mC (.int 0)) mNil)) [some (.str (T t)), none, none, none, none] h = .nx [some (.str (T t)), some (.ref h.length), some (.int ((0 : Nat) : Int)), none, none] (h ++ [.lst (encF [])]) := by
    simp only [sSeq_ap, seq_nx, seq_rt, seq_exc, seq_bad, sNext_ap, sRet_ap, sRetN_ap, sExpr_ap, sSet_ap, sIf_ap, sRaise_ap, sFor_ap, sAsg_ap, sPar_ap, par2_ap, sPar3_ap, par3_ap, mVar_ap, mC_ap, mOp_ap, mUn_ap, mTst_ap, asB_ap, mAnd_ap, mOr_ap, mNot_ap, mIf_ap, mAndV_ap, mOrV_ap, mNotV_ap, mChain_ap, mNil_ap, mCons_ap, mTup_ap, mLst_ap, mCB_ap, mCBL_ap, mNew_ap, allocL_ap, mNoPart_ap, mPart_ap, asI_ap, mSl_ap, mCall_ap, mMt_ap, mSrc_ap, mSrcA_ap, mSrcN_ap, capL_ap, mLcI_ap, mDisp_ap, mInTab_ap, mDispGet_ap, mMeth_ap, one1_ap, gtName_ap, gtS_name, R.bind_ok, R.bind_exc, R.bind_bad, R.thn_ok, R.thn_exc, R.thn_bad, List.getElem?_cons_zero, List.getElem?_cons_succ, List.set_cons_zero, List.set_cons_succ, if_true, Bool.not_true, Bool.not_false, Bool.false_eq_true, if_false, decide_true, decide_false, n0]
    rfl
  have fadd : ∀ (a b : List D), a.length + b.length ≤ sizeLine → fAdd (.ref h.length) (.ref (h.length + 1)) (h ++ [.lst a] ++ [.lst b]) = .ok (.ref (h.length + 2)) (h ++ [.lst a, .lst b, .lst (a ++ b)]) := fun a b hab => by
    have g1 : (h ++ [O.lst a] ++ [O.lst b])[h.length]? = some (.lst a) := by simp
    have g2 : (h ++ [O.lst a] ++ [O.lst b])[h.length + 1]? = some (.lst b) := by simp [List.getElem?_append_right]
    unfold fAdd
    dsimp only
    rw [g1, g2]
    dsimp only
    rw [if_pos hab, allocL_ap]
    simp
  have pl := pieces_len t []
  have hlen1 : ∀ a : List D, (h ++ [O.lst a]).length = h.length + 1 := fun a => by simp
  unfold F_pieces_of runDef
  rw [m_pieces_eq, show startD 5 [D.str (T t)] = [some (.str (T t)), none, none, none, none] from rfl, sSeq_ap, st, seq_nx, sSeq_ap, sFor_ap, src _ _ rfl, R.thn_ok]
  refine ⟨.lst (encF F'), .lst (encF (optT (t.drop s'))), ?_⟩
  have q1' : forL tgP bodyP (fun _ => true) (enumD 0 (t.map fun c => D.str ⟨#[c]⟩)) [some (.str (T t)), some (.ref h.length), some (.int ((0 : Nat) : Int)), none, none] (h ++ [.lst (encF [])]) = _ := q1
  show (match ((forL tgP bodyP (fun _ => true) (enumD 0 (t.map fun c => D.str ⟨#[c]⟩)) [some (.str (T t)), some (.ref h.length), some (.int ((0 : Nat) : Int)), none, none] (h ++ [.lst (encF [])])).seq endP) with
    | .rt d h1 => R.ok d h1
    | .nx _ h1 => .ok .non h1
    | .exc c _ h1 => .exc c h1
    | _ => .bad) = _
  rw [q1', seq_nx]
  unfold endP
  have ecat : encF F' ++ encF (optT (t.drop s')) = encF (pieces t []) := by
    rw [← q4]
    simp [encF]
  by_cases hlt : s' < t.length
  · have nd : t.drop s' ≠ [] := by
      intro z
      have := List.drop_eq_nil_iff.mp z
      omega
    have lt : decide (((s' : Nat) : Int) < (t.length : Int)) = true := decide_eq_true (by omega)
    have eo : optT (t.drop s') = [t.drop s'] := by unfold optT; rw [if_neg nd]
    simp only [sSeq_ap, seq_nx, seq_rt, seq_exc, seq_bad, sNext_ap, sRet_ap, sRetN_ap, sExpr_ap, sSet_ap, sIf_ap, sRaise_ap, sFor_ap, sAsg_ap, sPar_ap, par2_ap, sPar3_ap, par3_ap, mVar_ap, mC_ap, mOp_ap, mUn_ap, mTst_ap, asB_ap, mAnd_ap, mOr_ap, mNot_ap, mIf_ap, mAndV_ap, mOrV_ap, mNotV_ap, mChain_ap, mNil_ap, mCons_ap, mTup_ap, mLst_ap, mCB_ap, mCBL_ap, mNew_ap, allocL_ap, mNoPart_ap, mPart_ap, asI_ap, mSl_ap, mCall_ap, mMt_ap, mSrc_ap, mSrcA_ap, mSrcN_ap, capL_ap, mLcI_ap, mDisp_ap, mInTab_ap, mDispGet_ap, mMeth_ap, one1_ap, gtName_ap, gtS_name, R.bind_ok, R.bind_exc, R.bind_bad, R.thn_ok, R.thn_exc, R.thn_bad, List.getElem?_cons_zero, List.getElem?_cons_succ, List.set_cons_zero, List.set_cons_succ, if_true, Bool.not_true, Bool.not_false, Bool.false_eq_true, if_false, decide_true, decide_false, fLen_T _ _ htl, fLt_int, lt, fSl_T _ _ _ _ htl, cut_from, n1, hlen1]
    rw [fadd (encF F') [.str (T (t.drop s'))] (by rw [fl]; simp; omega)]
    rw [eo] at ecat ⊢
    rw [← ecat]
    rfl
  · have nd : t.drop s' = [] := List.drop_eq_nil_iff.mpr (by omega)
    have lt : decide (((s' : Nat) : Int) < (t.length : Int)) = false := decide_eq_false (by omega)
    have eo : optT (t.drop s') = [] := by unfold optT; rw [if_pos nd]
    simp only [sSeq_ap, seq_nx, seq_rt, seq_exc, seq_bad, sNext_ap, sRet_ap, sRetN_ap, sExpr_ap, sSet_ap, sIf_ap, sRaise_ap, sFor_ap, sAsg_ap, sPar_ap, par2_ap, sPar3_ap, par3_ap, mVar_ap, mC_ap, mOp_ap, mUn_ap, mTst_ap, asB_ap, mAnd_ap, mOr_ap, mNot_ap, mIf_ap, mAndV_ap, mOrV_ap, mNotV_ap, mChain_ap, mNil_ap, mCons_ap, mTup_ap, mLst_ap, mCB_ap, mCBL_ap, mNew_ap, allocL_ap, mNoPart_ap, mPart_ap, asI_ap, mSl_ap, mCall_ap, mMt_ap, mSrc_ap, mSrcA_ap, mSrcN_ap, capL_ap, mLcI_ap, mDisp_ap, mInTab_ap, mDispGet_ap, mMeth_ap, one1_ap, gtName_ap, gtS_name, R.bind_ok, R.bind_exc, R.bind_bad, R.thn_ok, R.thn_exc, R.thn_bad, List.getElem?_cons_zero, List.getElem?_cons_succ, List.set_cons_zero, List.set_cons_succ, if_true, Bool.not_true, Bool.not_false, Bool.false_eq_true, if_false, decide_true, decide_false, fLen_T _ _ htl, fLt_int, lt, n0, hlen1]
    rw [fadd (encF F') [] (by rw [fl]; simp; omega)]
    rw [eo] at ecat ⊢
    rw [← ecat]
    rfl
end K53
set_option Elab.async false
set_option linter.all false
set_option maxRecDepth 100000
set_option maxHeartbeats 1000000
namespace K53
open PySem PySem.Spec PyProof.Rows L2 SL PySem.NumText
/-! ### reading, piece by piece -/
structure St where
  rows : List (List D)
  cur : Option D
def stA (t : List Nat) (s : St) : Option St := match s.cur with
  | none => (atomR t).map fun d => ⟨s.rows, some d⟩
  | some _ => none
def stO (m : Nat) (s : St) : Option St := match s.cur with
  | none => if s.rows.length < m then some ⟨[] :: s.rows, none⟩ else none
  | some _ => none
def stC (s : St) : Option St := match s.rows, s.cur with
  | r :: rs, some d => some ⟨rs, some (.tup (r ++ [d]))⟩
  | r :: rs, none => if r = [] then some ⟨rs, some (.tup [])⟩ else none
  | [], _ => none
def stM (s : St) : Option St := match s.rows, s.cur with
  | r :: rs, some d => some ⟨(r ++ [d]) :: rs, none⟩
  | _, _ => none
def stepP (m : Nat) (p : List Nat) (s : St) : Option St := if p = [91] then stO m s else if p = [93] then stC s else if p = [44] then stM s else stA p s
def stepsP (m : Nat) : List (List Nat) → St → Option St
  | [], s => some s
  | p :: ps, s => (stepP m p s).bind (stepsP m ps)
/-! ### the reader's objects -/
def rdO (b : Bool) : O := .ins "DataReader" [("tuples", .ref 1), ("ready", .bl b), ("told", .ref 2)]
def Rws (h : List O) : List Nat → List (List D) → Prop
  | [], rows => rows = []
  | r :: rs, rows => ∃ row rest, rows = row :: rest ∧ h[r]? = some (.lst row) ∧ Rws h rs rest
theorem Rws.keep {h h' : List O} : ∀ {rs : List Nat} {rows : List (List D)}, Rws h rs rows → (∀ r ∈ rs, h'[r]? = h[r]?) → Rws h' rs rows
  | [], _, e, _ => e
  | r :: rs, _, ⟨row, rest, e1, e2, e3⟩, k => ⟨row, rest, e1, (k r List.mem_cons_self).trans e2, Rws.keep e3 fun x hx => k x (List.mem_cons_of_mem _ hx)⟩
theorem Rws.len {h : List O} : ∀ {rs : List Nat} {rows : List (List D)}, Rws h rs rows → rs.length = rows.length
  | [], _, e => by rw [show _ = [] from e]; rfl
  | r :: rs, _, ⟨row, rest, e1, e2, e3⟩ => by rw [e1, List.length_cons, List.length_cons, Rws.len e3]
structure RdH (all : List (List Nat)) (h : List O) (b : Bool) (rs : List Nat) (rows : List (List D)) (told : List D) : Prop where
  o0 : h[0]? = some (rdO b)
  o1 : h[1]? = some (.lst (rs.reverse.map D.ref))
  o2 : h[2]? = some (.lst told)
  o5 : h[5]? = some (.lst (encF all))
  rws : Rws h rs rows
  nd : rs.Nodup
  ge : ∀ r ∈ rs, 6 ≤ r ∧ r < h.length
  big : 6 ≤ h.length
section
variable {all : List (List Nat)} {h : List O} {b : Bool} {rs : List Nat} {rows : List (List D)} {told : List D}
theorem fldT {ρ : Sl} (e : ρ[0]? = some (some (.ref 0))) (e0 : h[0]? = some (rdO b)) : mFld "DataReader" "tuples" (mVar 0) ρ h = .ok (.ref 1) h := by
  unfold mFld
  simp only [mVar_ap, e, R.bind_ok, e0]
  rfl
theorem fldR {ρ : Sl} (e : ρ[0]? = some (some (.ref 0))) (e0 : h[0]? = some (rdO b)) : mFld "DataReader" "ready" (mVar 0) ρ h = .ok (.bl b) h := by
  unfold mFld
  simp only [mVar_ap, e, R.bind_ok, e0]
  rfl
theorem fldD {ρ : Sl} (e : ρ[0]? = some (some (.ref 0))) (e0 : h[0]? = some (rdO b)) : mFld "DataReader" "told" (mVar 0) ρ h = .ok (.ref 2) h := by
  unfold mFld
  simp only [mVar_ap, e, R.bind_ok, e0]
  rfl
theorem setR {ρ : Sl} {c : Bool} (e : ρ[0]? = some (some (.ref 0))) (e0 : h[0]? = some (rdO b)) : sFldSet "DataReader" "ready" (mVar 0) (mC (.bl c)) ρ h = .nx ρ (h.set 0 (rdO c)) := by
  unfold sFldSet
  simp only [mC_ap, R.thn_ok, mVar_ap, e]
  unfold fldSet
  simp only [e0]
  rfl
theorem RdH.ready (H : RdH all h b rs rows told) (c : Bool) : RdH all (h.set 0 (rdO c)) c rs rows told where
  o0 := by rw [List.getElem?_set_self (by have := H.big; omega)]
  o1 := by rw [List.getElem?_set_ne (by decide)]; exact H.o1
  o2 := by rw [List.getElem?_set_ne (by decide)]; exact H.o2
  o5 := by rw [List.getElem?_set_ne (by decide)]; exact H.o5
  rws := H.rws.keep fun r hr => List.getElem?_set_ne (by have := (H.ge r hr).1; omega)
  nd := H.nd
  ge := fun r hr => by rw [List.length_set]; exact H.ge r hr
  big := by rw [List.length_set]; exact H.big
theorem RdH.told_ (H : RdH all h b rs rows told) (t2 : List D) : RdH all (h.set 2 (.lst t2)) b rs rows t2 where
  o0 := by rw [List.getElem?_set_ne (by decide)]; exact H.o0
  o1 := by rw [List.getElem?_set_ne (by decide)]; exact H.o1
  o2 := by rw [List.getElem?_set_self (by have := H.big; omega)]
  o5 := by rw [List.getElem?_set_ne (by decide)]; exact H.o5
  rws := H.rws.keep fun r hr => List.getElem?_set_ne (by have := (H.ge r hr).1; omega)
  nd := H.nd
  ge := fun r hr => by rw [List.length_set]; exact H.ge r hr
  big := by rw [List.length_set]; exact H.big
theorem RdH.row {r : Nat} {row : List D} {rest : List (List D)} (H : RdH all h b (r :: rs) (row :: rest) told) (row2 : List D) : RdH all (h.set r (.lst row2)) b (r :: rs) (row2 :: rest) told := by
  obtain ⟨g1, g2⟩ := H.ge r List.mem_cons_self
  obtain ⟨row', rest', e1, e2, e3⟩ := H.rws
  obtain ⟨rfl, rfl⟩ := List.cons.inj e1
  exact {
    o0 := by rw [List.getElem?_set_ne (by omega)]; exact H.o0
    o1 := by rw [List.getElem?_set_ne (by omega)]; exact H.o1
    o2 := by rw [List.getElem?_set_ne (by omega)]; exact H.o2
    o5 := by rw [List.getElem?_set_ne (by omega)]; exact H.o5
    rws := ⟨row2, rest, rfl, by rw [List.getElem?_set_self g2], e3.keep fun x hx => List.getElem?_set_ne fun z => (List.nodup_cons.mp H.nd).1 (by rw [show r = x from z]; exact hx)⟩
    nd := H.nd
    ge := fun x hx => by rw [List.length_set]; exact H.ge x hx
    big := by rw [List.length_set]; exact H.big }
theorem RdH.pop {r : Nat} {row : List D} {rest : List (List D)} (H : RdH all h b (r :: rs) (row :: rest) told) : RdH all (h.set 1 (.lst (rs.reverse.map D.ref))) b rs rest told := by
  obtain ⟨row', rest', e1, e2, e3⟩ := H.rws
  obtain ⟨rfl, rfl⟩ := List.cons.inj e1
  exact {
    o0 := by rw [List.getElem?_set_ne (by decide)]; exact H.o0
    o1 := by rw [List.getElem?_set_self (by have := H.big; omega)]
    o2 := by rw [List.getElem?_set_ne (by decide)]; exact H.o2
    o5 := by rw [List.getElem?_set_ne (by decide)]; exact H.o5
    rws := e3.keep fun x hx => List.getElem?_set_ne (by have := (H.ge x (List.mem_cons_of_mem _ hx)).1; omega)
    nd := (List.nodup_cons.mp H.nd).2
    ge := fun x hx => by rw [List.length_set]; exact H.ge x (List.mem_cons_of_mem _ hx)
    big := by rw [List.length_set]; exact H.big }
theorem RdH.push (H : RdH all h b rs rows told) : RdH all ((h ++ [O.lst []]).set 1 (.lst ((h.length :: rs).reverse.map D.ref))) b (h.length :: rs) ([] :: rows) told where
  o0 := by rw [List.getElem?_set_ne (by decide), List.getElem?_append_left (by have := H.big; omega)]; exact H.o0
  o1 := by rw [List.getElem?_set_self (by rw [List.length_append]; have := H.big; omega)]
  o2 := by rw [List.getElem?_set_ne (by decide), List.getElem?_append_left (by have := H.big; omega)]; exact H.o2
  o5 := by rw [List.getElem?_set_ne (by decide), List.getElem?_append_left (by have := H.big; omega)]; exact H.o5
  rws := ⟨[], rows, rfl, by rw [List.getElem?_set_ne (by have := H.big; omega)]; simp, H.rws.keep fun x hx => by
    obtain ⟨g1, g2⟩ := H.ge x hx
    rw [List.getElem?_set_ne (by omega), List.getElem?_append_left g2]⟩
  nd := List.nodup_cons.mpr ⟨fun z => Nat.lt_irrefl _ (H.ge _ z).2, H.nd⟩
  ge := fun x hx => by
    rw [List.length_set, List.length_append, List.length_singleton]
    rcases List.mem_cons.mp hx with e | e
    · subst e; exact ⟨H.big, Nat.lt_succ_self _⟩
    · obtain ⟨g1, g2⟩ := H.ge x e; exact ⟨g1, Nat.lt_succ_of_lt g2⟩
  big := by rw [List.length_set, List.length_append]; have := H.big; omega
theorem fIx_last {xs : List D} {x : D} (e : h[1]? = some (.lst (xs ++ [x]))) : fIx (.ref 1) (.int (-1)) h = .ok x h := by
  have i : itemsD (.ref 1) h = some (xs ++ [x]) := by
    show (match h[1]? with
      | some (.lst ds) => some ds
      | _ => none) = _
    rw [e]
  have a : atI (xs ++ [x]) (-1 : Int) = some x := by
    unfold atI ixN
    rw [if_neg (by decide), if_pos (by rw [List.length_append, List.length_singleton]; omega)]
    have : ((-1 : Int) + ((xs ++ [x]).length : Int)).toNat = xs.length := by rw [List.length_append, List.length_singleton]; omega
    show (xs ++ [x])[((-1 : Int) + ((xs ++ [x]).length : Int)).toNat]? = some x
    rw [this]
    simp
  show (match itemsD (.ref 1) h with
    | some ds => (match atI ds (-1 : Int) with
      | some d => R.ok d h
      | none => .bad)
    | none => .bad) = _
  rw [i]
  show (match atI (xs ++ [x]) (-1 : Int) with
      | some d => R.ok d h
      | none => .bad) = _
  rw [a]
theorem rev_last (r : Nat) : (r :: rs).reverse.map D.ref = rs.reverse.map D.ref ++ [D.ref r] := by simp
/-- item: where nothing may come -/
theorem item_not {v : D} (e0 : h[0]? = some (rdO false)) : F_DataReader_item [.ref 0, v] h = .exc "Malformed" h := by
  unfold F_DataReader_item runDef m_DataReader_item
  rw [show startD 2 [D.ref 0, v] = [some (.ref 0), some v] from rfl]
  simp only [sSeq_ap, sIf_ap, mNot_ap, mTst_ap, fldR (ρ := [some (.ref 0), some v]) rfl e0, R.bind_ok, asB_ap, R.thn_ok, Bool.not_false, if_true, sRaise_ap, seq_exc]
theorem item_ok {v : D} (H : RdH all h true rs rows told) (hz : ∀ row ∈ rows, row.length < 5000000) (ht : told.length < 5000000) : ∃ h', F_DataReader_item [.ref 0, v] h = .ok .non h' ∧ match rows with
    | [] => RdH all h' false rs [] (told ++ [v])
    | row :: rest => RdH all h' false rs ((row ++ [v]) :: rest) told := by
  have sl : sizeLine = 16777216 := sizeLine_eq
  have r0 : ([some (.ref 0), some v] : Sl)[0]? = some (some (.ref 0)) := rfl
  unfold F_DataReader_item runDef m_DataReader_item
  rw [show startD 2 [D.ref 0, v] = [some (.ref 0), some v] from rfl]
  have f0 : sIf (mNot (mTst (mFld "DataReader" "ready" (mVar 0)))) (sRaise "Malformed") sNext [some (.ref 0), some v] h = .nx [some (.ref 0), some v] h := by
    simp only [sIf_ap, mNot_ap, mTst_ap, fldR r0 H.o0, R.bind_ok, asB_ap, R.thn_ok, Bool.not_true, Bool.false_eq_true, if_false, sNext_ap]
  rw [sSeq_ap, f0, seq_nx, sSeq_ap]
  cases rows with
  | nil =>
    have ers : rs = [] := by
      have := H.rws.len
      exact List.length_eq_zero_iff.mp this
    subst ers
    have st : sIf (mTst (mOp fGt (mCB fLen (mCons (mFld "DataReader" "tuples" (mVar 0)) mNil)) (mC (.int 0)))) (sExpr (mMt tyLst fAppend (mOp fIx (mFld "DataReader" "tuples" (mVar 0)) (mUn fNeg (mC (.int 1)))) (mCons (mVar 1) mNil))) (sExpr (mMt tyLst fAppend (mFld "DataReader" "told" (mVar 0)) (mCons (mVar 1) mNil))) [some (.ref 0), some v] h = .nx [some (.ref 0), some v] (h.set 2 (.lst (told ++ [v]))) := by
      have e1 : h[1]? = some (.lst []) := H.o1
      simp only [sIf_ap, mTst_ap, mOp_ap, mCB_ap, mCons_ap, fldT r0 H.o0, R.bind_ok, mNil_ap, len_ok e1, mC_ap, fGt_int, asB_ap, R.thn_ok]
      rw [if_neg (by decide)]
      simp only [sExpr_ap, mMt_ap, fldD r0 H.o0, R.bind_ok, ty_ok1 H.o2, if_true, mCons_ap, mVar_ap, List.getElem?_cons_succ, List.getElem?_cons_zero, mNil_ap, app_ok H.o2 (show told.length < sizeLine by omega), R.thn_ok]
    have H2 := H.told_ (told ++ [v])
    rw [st, seq_nx, setR r0 H2.o0]
    exact ⟨_, rfl, H2.ready false⟩
  | cons row rest =>
    cases rs with
    | nil =>
      have : row :: rest = [] := H.rws
      cases this
    | cons r rs =>
      obtain ⟨row', rest', e1, e2, e3⟩ := H.rws
      obtain ⟨rfl, rfl⟩ := List.cons.inj e1
      have o1 := H.o1
      rw [rev_last] at o1
      have lt : decide ((0 : Int) < ((rs.reverse.map D.ref ++ [D.ref r]).length : Int)) = true := decide_eq_true (by rw [List.length_append, List.length_singleton]; omega)
      have st : sIf (mTst (mOp fGt (mCB fLen (mCons (mFld "DataReader" "tuples" (mVar 0)) mNil)) (mC (.int 0)))) (sExpr (mMt tyLst fAppend (mOp fIx (mFld "DataReader" "tuples" (mVar 0)) (mUn fNeg (mC (.int 1)))) (mCons (mVar 1) mNil))) (sExpr (mMt tyLst fAppend (mFld "DataReader" "told" (mVar 0)) (mCons (mVar 1) mNil))) [some (.ref 0), some v] h = .nx [some (.ref 0), some v] (h.set r (.lst (row ++ [v]))) := by
        simp only [sIf_ap, mTst_ap, mOp_ap, mCB_ap, mCons_ap, fldT r0 H.o0, R.bind_ok, mNil_ap, len_ok o1, mC_ap, fGt_int, lt, asB_ap, R.thn_ok, if_true]
        simp only [sExpr_ap, mMt_ap, mOp_ap, mUn_ap, fldT r0 H.o0, R.bind_ok, mC_ap, fNeg_int, fIx_last o1, ty_ok1 e2, if_true, mCons_ap, mVar_ap, List.getElem?_cons_succ, List.getElem?_cons_zero, mNil_ap, app_ok e2 (show row.length < sizeLine by have := hz row List.mem_cons_self; omega), R.thn_ok]
      have H2 := H.row (row ++ [v])
      rw [st, seq_nx, setR r0 H2.o0]
      exact ⟨_, rfl, H2.ready false⟩
end
end K53
set_option Elab.async false
set_option linter.all false
set_option maxRecDepth 100000
set_option maxHeartbeats 1000000
namespace K53
open PySem PySem.Spec PyProof.Rows L2 SL PySem.NumText
def contR (s : St) : List (List D) := match s.rows, s.cur with
  | r :: rs, some d => (r ++ [d]) :: rs
  | rows, _ => rows
def toldR (s : St) : List D := match s.rows, s.cur with
  | [], some d => [d]
  | _, _ => []
def RS1 (all : List (List Nat)) (h : List O) (s : St) : Prop := ∃ rs, RdH all h s.cur.isNone rs (contR s) (toldR s)
section
variable {all : List (List Nat)} {h : List O} {b : Bool} {rs : List Nat} {rows : List (List D)} {told : List D}
theorem ins_open (e0 : h[0]? = some (rdO b)) : mMeth.insOf "DataReader" "open_one" (.ref 0) h = true := by unfold mMeth.insOf; simp only [e0]; rfl
theorem ins_close (e0 : h[0]? = some (rdO b)) : mMeth.insOf "DataReader" "close_one" (.ref 0) h = true := by unfold mMeth.insOf; simp only [e0]; rfl
theorem ins_comma (e0 : h[0]? = some (rdO b)) : mMeth.insOf "DataReader" "comma" (.ref 0) h = true := by unfold mMeth.insOf; simp only [e0]; rfl
theorem ins_item (e0 : h[0]? = some (rdO b)) : mMeth.insOf "DataReader" "item" (.ref 0) h = true := by unfold mMeth.insOf; simp only [e0]; rfl
theorem ins_take (e0 : h[0]? = some (rdO b)) : mMeth.insOf "DataReader" "take" (.ref 0) h = true := by unfold mMeth.insOf; simp only [e0]; rfl
theorem lenT (H : RdH all h b rs rows told) {ρ : Sl} (e : ρ[0]? = some (some (.ref 0))) : mCB fLen (mCons (mFld "DataReader" "tuples" (mVar 0)) mNil) ρ h = .ok (.int rows.length) h := by
  simp only [mCB_ap, mCons_ap, fldT e H.o0, R.bind_ok, mNil_ap, len_ok H.o1]
  rw [List.length_map, List.length_reverse, H.rws.len]
/-- open_one -/
theorem open_run (H : RdH all h b rs rows told) : (b = true ∧ rows.length < 1000 → ∃ h', F_DataReader_open_one [.ref 0] h = .ok .non h' ∧ RdH all h' b (h.length :: rs) ([] :: rows) told) ∧ (¬ (b = true ∧ rows.length < 1000) → F_DataReader_open_one [.ref 0] h = .exc "Malformed" h) := by
  have sl : sizeLine = 16777216 := sizeLine_eq
  have r0 : ([some (.ref 0)] : Sl)[0]? = some (some (.ref 0)) := rfl
  unfold F_DataReader_open_one runDef m_DataReader_open_one
  rw [show startD 1 [D.ref 0] = [some (.ref 0)] from rfl]
  have n0 : ∀ h, newLst [] h = .ok (.ref h.length) (h ++ [.lst []]) := fun _ => rfl
  have tst : mOr (mNot (mTst (mFld "DataReader" "ready" (mVar 0)))) (mTst (mOp fGe (mCB fLen (mCons (mFld "DataReader" "tuples" (mVar 0)) mNil)) (mC (.int 1000)))) [some (.ref 0)] h = .ok (!(b && decide (rows.length < 1000))) h := by
    simp only [mOr_ap, mNot_ap, mTst_ap, fldR r0 H.o0, R.bind_ok, asB_ap, mOp_ap, lenT H r0, mC_ap, fGe_int]
    cases b with
    | false => rfl
    | true =>
      by_cases q : rows.length < 1000
      · rw [decide_eq_true q, decide_eq_false (show ¬ (1000 : Int) ≤ (rows.length : Int) by omega)]; rfl
      · rw [decide_eq_false q, decide_eq_true (show (1000 : Int) ≤ (rows.length : Int) by omega)]; rfl
  rw [sSeq_ap, sIf_ap, tst]
  constructor
  · rintro ⟨rfl, q⟩
    rw [decide_eq_true q]
    have o1 : (h ++ [O.lst []])[1]? = some (.lst (rs.reverse.map D.ref)) := by
      rw [List.getElem?_append_left (by have := H.big; omega)]; exact H.o1
    have ln : (rs.reverse.map D.ref).length < sizeLine := by
      rw [List.length_map, List.length_reverse, H.rws.len]; omega
    simp only [sSeq_ap, seq_nx, seq_rt, seq_exc, seq_bad, sNext_ap, sRet_ap, sRetN_ap, sExpr_ap, sSet_ap, sIf_ap, sRaise_ap, sFor_ap, sAsg_ap, sPar_ap, par2_ap, sPar3_ap, par3_ap, mVar_ap, mC_ap, mOp_ap, mUn_ap, mTst_ap, asB_ap, mAnd_ap, mOr_ap, mNot_ap, mIf_ap, mAndV_ap, mOrV_ap, mNotV_ap, mChain_ap, mNil_ap, mCons_ap, mTup_ap, mLst_ap, mCB_ap, mCBL_ap, mNew_ap, allocL_ap, mNoPart_ap, mPart_ap, asI_ap, mSl_ap, mCall_ap, mMt_ap, mSrc_ap, mSrcA_ap, mSrcN_ap, capL_ap, mLcI_ap, mDisp_ap, mInTab_ap, mDispGet_ap, mMeth_ap, one1_ap, gtName_ap, gtS_name, R.bind_ok, R.bind_exc, R.bind_bad, R.thn_ok, R.thn_exc, R.thn_bad, List.getElem?_cons_zero, List.getElem?_cons_succ, List.set_cons_zero, List.set_cons_succ, if_true, Bool.not_true, Bool.not_false, Bool.false_eq_true, if_false, decide_true, decide_false, Bool.true_and, fldT r0 H.o0, ty_ok1 H.o1, n0, app_ok o1 ln]
    refine ⟨_, rfl, ?_⟩
    have P := H.push
    rw [rev_last] at P
    exact P
  · intro q
    have : (b && decide (rows.length < 1000)) = false := by
      rw [Bool.eq_false_iff]
      intro z
      rw [Bool.and_eq_true, decide_eq_true_eq] at z
      exact q z
    rw [this]
    rfl
/-- comma -/
theorem comma_run (H : RdH all h b rs rows told) : (b = false ∧ rows ≠ [] → ∃ h', F_DataReader_comma [.ref 0] h = .ok .non h' ∧ RdH all h' true rs rows told) ∧ (¬ (b = false ∧ rows ≠ []) → F_DataReader_comma [.ref 0] h = .exc "Malformed" h) := by
  have r0 : ([some (.ref 0)] : Sl)[0]? = some (some (.ref 0)) := rfl
  unfold F_DataReader_comma runDef m_DataReader_comma
  rw [show startD 1 [D.ref 0] = [some (.ref 0)] from rfl]
  have tst : mOr (mTst (mFld "DataReader" "ready" (mVar 0))) (mTst (mOp fEq (mCB fLen (mCons (mFld "DataReader" "tuples" (mVar 0)) mNil)) (mC (.int 0)))) [some (.ref 0)] h = .ok (b || decide (rows = [])) h := by
    simp only [mOr_ap, mTst_ap, fldR r0 H.o0, R.bind_ok, asB_ap, mOp_ap, lenT H r0, mC_ap, fEq_int]
    cases b with
    | true => rfl
    | false =>
      cases rows with
      | nil => rfl
      | cons a l =>
        rw [decide_eq_false (show ¬ ((a :: l).length : Int) = 0 by rw [List.length_cons]; omega)]
        simp
  rw [sSeq_ap, sIf_ap, tst]
  constructor
  · rintro ⟨rfl, q⟩
    rw [decide_eq_false q]
    simp only [R.thn_ok, Bool.false_or, Bool.false_eq_true, if_false, sNext_ap, seq_nx, setR r0 H.o0]
    exact ⟨_, rfl, H.ready true⟩
  · intro q
    have : (b || decide (rows = [])) = true := by
      cases b with
      | true => rfl
      | false =>
        by_cases z : rows = []
        · rw [decide_eq_true z]; rfl
        · exact absurd ⟨rfl, z⟩ q
    rw [this]
    rfl
/-- close_one -/
theorem close_run (H : RdH all h b rs rows told) (hz : ∀ row ∈ rows, row.length < 5000000) (ht : told.length < 5000000) : match rows with
    | [] => F_DataReader_close_one [.ref 0] h = .exc "Malformed" h
    | row :: rest => if b = true ∧ row ≠ [] then F_DataReader_close_one [.ref 0] h = .exc "Malformed" h else
        ∃ h' rs', F_DataReader_close_one [.ref 0] h = .ok .non h' ∧ match rest with
          | [] => RdH all h' false rs' [] (told ++ [.tup row])
          | r2 :: rest2 => RdH all h' false rs' ((r2 ++ [.tup row]) :: rest2) told := by
  have r0 : ([some (.ref 0), none] : Sl)[0]? = some (some (.ref 0)) := rfl
  have r1 : ∀ d, ([some (.ref 0), some d] : Sl)[0]? = some (some (.ref 0)) := fun _ => rfl
  unfold F_DataReader_close_one runDef m_DataReader_close_one
  rw [show startD 2 [D.ref 0] = [some (.ref 0), none] from rfl, sSeq_ap, sIf_ap]
  cases rows with
  | nil =>
    simp only [mOr_ap, mTst_ap, mOp_ap, lenT H r0, mC_ap, R.bind_ok, fEq_int]
    rfl
  | cons row rest =>
    cases rs with
    | nil => cases (show row :: rest = [] from H.rws)
    | cons r rs =>
      obtain ⟨row', rest', e1, e2, e3⟩ := id H.rws
      obtain ⟨rfl, rfl⟩ := List.cons.inj e1
      have o1 := H.o1
      rw [rev_last] at o1
      have tst : mOr (mTst (mOp fEq (mCB fLen (mCons (mFld "DataReader" "tuples" (mVar 0)) mNil)) (mC (.int 0)))) (mAnd (mTst (mFld "DataReader" "ready" (mVar 0))) (mTst (mOp fGt (mCB fLen (mCons (mOp fIx (mFld "DataReader" "tuples" (mVar 0)) (mUn fNeg (mC (.int 1)))) mNil)) (mC (.int 0))))) [some (.ref 0), none] h = .ok (b && decide (row ≠ [])) h := by
        simp only [mOr_ap, mTst_ap, mOp_ap, lenT H r0, mC_ap, R.bind_ok, fEq_int, asB_ap]
        rw [decide_eq_false (show ¬ (((row :: rest).length : Nat) : Int) = 0 by rw [List.length_cons]; omega)]
        simp only [Bool.false_eq_true, if_false, mAnd_ap, mTst_ap, fldR r0 H.o0, R.bind_ok, asB_ap]
        cases b with
        | false => rfl
        | true =>
          simp only [if_true, mCB_ap, mCons_ap, mOp_ap, mUn_ap, fldT r0 H.o0, R.bind_ok, mC_ap, fNeg_int, fIx_last o1, mNil_ap, len_ok e2, fGt_int, asB_ap, Bool.true_and]
          cases row with
          | nil => rfl
          | cons a l =>
            rw [decide_eq_true (show (0 : Int) < ((a :: l).length : Int) by rw [List.length_cons]; omega)]
            simp
      show if b = true ∧ row ≠ [] then _ else _
      rw [tst]
      by_cases q : b = true ∧ row ≠ []
      · rw [if_pos q]
        obtain ⟨rfl, q2⟩ := q
        rw [decide_eq_true q2]
        rfl
      · rw [if_neg q]
        have qf : (b && decide (row ≠ [])) = false := by
          rw [Bool.eq_false_iff]
          intro z
          rw [Bool.and_eq_true, decide_eq_true_eq] at z
          exact q z
        rw [qf]
        have H1 := H.pop
        have H2 := H1.ready true
        obtain ⟨h', i1, i2⟩ := item_ok (v := .tup row) H2 (fun x hx => hz x (List.mem_cons_of_mem _ hx)) ht
        have rr : (h.set 1 (.lst (rs.reverse.map D.ref)))[r]? = some (.lst row) := by
          rw [List.getElem?_set_ne (by have := (H.ge r List.mem_cons_self).1; omega)]; exact e2
        have tupr : overI fTuple [.ref r] (h.set 1 (.lst (rs.reverse.map D.ref))) = .ok (.tup row) (h.set 1 (.lst (rs.reverse.map D.ref))) := by
          have it : itemsD (.ref r) (h.set 1 (.lst (rs.reverse.map D.ref))) = some row := by
            show (match (h.set 1 (.lst (rs.reverse.map D.ref)))[r]? with
              | some (.lst ds) => some ds
              | _ => none) = _
            rw [rr]
          unfold overI
          simp only [it]
          rfl
        simp only [R.thn_ok, Bool.false_eq_true, if_false, sNext_ap, seq_nx, sSeq_ap, sSet_ap, mCB_ap, mCons_ap, mMt_ap, fldT r0 H.o0, R.bind_ok, ty_ok1 H.o1, if_true, mNil_ap, pop_ok o1, tupr, List.set_cons_succ, List.set_cons_zero, setR (r1 _) H1.o0, sExpr_ap, mMeth_ap, mVar_ap, List.getElem?_cons_zero, List.getElem?_cons_succ, ins_item H2.o0, List.length_cons, List.length_nil, i1]
        refine ⟨h', rs, rfl, ?_⟩
        cases rest with
        | nil => exact i2
        | cons r2 rest2 => exact i2
end
theorem contR_len (s : St) : (contR s).length = s.rows.length := by
  obtain ⟨rows, cur⟩ := s
  cases rows <;> cases cur <;> rfl
theorem take_ok {all : List (List Nat)} {h : List O} (s : St) (p : List Nat) (hp : p.length ≤ 4000) (Hs : RS1 all h s) (hz : ∀ row ∈ s.rows, row.length < 4000000) : match stepP 1000 p s with
    | some s' => ∃ h', F_DataReader_take [.ref 0, .str (T p)] h = .ok .non h' ∧ RS1 all h' s'
    | none => ∃ h', F_DataReader_take [.ref 0, .str (T p)] h = .exc "Malformed" h' := by
  obtain ⟨rs, H⟩ := Hs
  have hz2 : ∀ row ∈ contR s, row.length < 5000000 := by
    intro row hr
    obtain ⟨rows, cur⟩ := s
    cases rows with
    | nil => cases cur <;> cases hr
    | cons r rest =>
      cases cur with
      | none => have := hz row hr; omega
      | some d =>
        rcases List.mem_cons.mp hr with e | e
        · rw [e, List.length_append, List.length_singleton]
          have := hz r List.mem_cons_self
          show r.length + 1 < 5000000
          omega
        · have := hz row (List.mem_cons_of_mem _ e); omega
  have ht2 : (toldR s).length < 5000000 := by
    obtain ⟨rows, cur⟩ := s
    cases rows <;> cases cur <;> simp [toldR]
  have r0 : ([some (.ref 0), some (.str (T p))] : Sl)[0]? = some (some (.ref 0)) := rfl
  unfold F_DataReader_take runDef m_DataReader_take
  rw [show startD 2 [D.ref 0, .str (T p)] = [some (.ref 0), some (.str (T p))] from rfl, lit_open, lit_close, lit_comma]
  unfold stepP
  by_cases p1 : p = [91]
  · rw [if_pos p1]
    obtain ⟨a, na⟩ := open_run H
    simp only [sIf_ap, mTst_ap, mOp_ap, mVar_ap, mC_ap, List.getElem?_cons_succ, List.getElem?_cons_zero, R.bind_ok, fEq_T, p1, decide_true, asB_ap, R.thn_ok, if_true, sExpr_ap, mMeth_ap, ins_open H.o0, mNil_ap, List.length_cons, List.length_nil]
    obtain ⟨rows, cur⟩ := s
    cases cur with
    | some d =>
      rw [na (by rintro ⟨z, _⟩; cases z)]
      exact ⟨_, rfl⟩
    | none =>
      unfold stO
      dsimp only
      by_cases q : rows.length < 1000
      · rw [if_pos q]
        obtain ⟨h', e1, e2⟩ := a ⟨rfl, by rw [contR_len]; exact q⟩
        rw [e1]
        refine ⟨h', rfl, h.length :: rs, ?_⟩
        have c1 : contR ⟨rows, none⟩ = rows := by cases rows <;> rfl
        have t1 : toldR ⟨rows, none⟩ = [] := by cases rows <;> rfl
        rw [c1, t1] at e2
        exact e2
      · rw [if_neg q, na (by rintro ⟨_, z⟩; rw [contR_len] at z; exact q z)]
        exact ⟨_, rfl⟩
  · rw [if_neg p1]
    by_cases p2 : p = [93]
    · rw [if_pos p2]
      have q1 : ¬ ([93] : List Nat) = [91] := by decide
      have cl := close_run H hz2 ht2
      simp only [sIf_ap, mTst_ap, mOp_ap, mVar_ap, mC_ap, List.getElem?_cons_succ, List.getElem?_cons_zero, R.bind_ok, fEq_T, p2, q1, decide_true, decide_false, asB_ap, R.thn_ok, if_true, Bool.false_eq_true, if_false, sExpr_ap, mMeth_ap, ins_close H.o0, mNil_ap, List.length_cons, List.length_nil]
      obtain ⟨rows, cur⟩ := s
      cases rows with
      | nil =>
        have cl' : F_DataReader_close_one [.ref 0] h = .exc "Malformed" h := by cases cur <;> exact cl
        rw [cl']
        exact ⟨_, rfl⟩
      | cons r rest =>
        cases cur with
        | some d =>
          have cl' : if false = true ∧ r ++ [d] ≠ [] then F_DataReader_close_one [.ref 0] h = .exc "Malformed" h else _ := cl
          rw [if_neg (by rintro ⟨z, _⟩; cases z)] at cl'
          obtain ⟨h', rs', e1, e2⟩ := cl'
          rw [e1]
          refine ⟨h', rfl, rs', ?_⟩
          cases rest with
          | nil => exact e2
          | cons r2 rest2 => exact e2
        | none =>
          have cl' : if true = true ∧ r ≠ [] then F_DataReader_close_one [.ref 0] h = .exc "Malformed" h else _ := cl
          show match (if r = [] then some (⟨rest, some (.tup [])⟩ : St) else none) with
            | some s' => _
            | none => _
          by_cases z : r = []
          · rw [if_neg (by rintro ⟨_, y⟩; exact y z)] at cl'
            rw [if_pos z]
            obtain ⟨h', rs', e1, e2⟩ := cl'
            rw [e1]
            refine ⟨h', rfl, rs', ?_⟩
            subst z
            cases rest with
            | nil => exact e2
            | cons r2 rest2 => exact e2
          · rw [if_pos ⟨rfl, z⟩] at cl'
            rw [if_neg z, cl']
            exact ⟨_, rfl⟩
    · rw [if_neg p2]
      by_cases p3 : p = [44]
      · rw [if_pos p3]
        have q1 : ¬ ([44] : List Nat) = [91] := by decide
        have q2 : ¬ ([44] : List Nat) = [93] := by decide
        obtain ⟨a, na⟩ := comma_run H
        simp only [sIf_ap, mTst_ap, mOp_ap, mVar_ap, mC_ap, List.getElem?_cons_succ, List.getElem?_cons_zero, R.bind_ok, fEq_T, p3, q1, q2, decide_true, decide_false, asB_ap, R.thn_ok, if_true, Bool.false_eq_true, if_false, sExpr_ap, mMeth_ap, ins_comma H.o0, mNil_ap, List.length_cons, List.length_nil]
        obtain ⟨rows, cur⟩ := s
        cases rows with
        | nil =>
          have e : F_DataReader_comma [.ref 0] h = .exc "Malformed" h := by
            cases cur <;> exact na (by rintro ⟨_, z⟩; exact z rfl)
          rw [e]
          cases cur <;> exact ⟨_, rfl⟩
        | cons r rest =>
          cases cur with
          | none =>
            rw [na (by rintro ⟨z, _⟩; cases z)]
            exact ⟨_, rfl⟩
          | some d =>
            obtain ⟨h', e1, e2⟩ := a ⟨rfl, by intro z; cases z⟩
            rw [e1]
            exact ⟨h', rfl, rs, e2⟩
      · rw [if_neg p3]
        have ra := read_atom_T p h hp
        simp only [sIf_ap, mTst_ap, mOp_ap, mVar_ap, mC_ap, List.getElem?_cons_succ, List.getElem?_cons_zero, R.bind_ok, fEq_T, p1, p2, p3, decide_false, asB_ap, R.thn_ok, Bool.false_eq_true, if_false, sExpr_ap, mMeth_ap, ins_item H.o0, if_true, mCons_ap, mCall_ap, mNil_ap, List.length_cons, List.length_nil, ra]
        obtain ⟨rows, cur⟩ := s
        unfold stA
        dsimp only
        cases cur with
        | some d =>
          cases q : atomR p with
          | none =>
            exact ⟨h, rfl⟩
          | some v =>
            simp only [R.bind_ok, if_true, item_not (v := v) H.o0]
            exact ⟨h, rfl⟩
        | none =>
          cases q : atomR p with
          | none => exact ⟨h, rfl⟩
          | some v =>
            obtain ⟨h', i1, i2⟩ := item_ok (v := v) H hz2 ht2
            simp only [R.bind_ok, if_true, i1]
            show ∃ h'_1, _ ∧ _
            refine ⟨h', rfl, rs, ?_⟩
            cases rows with
            | nil => exact i2
            | cons r rest => exact i2
/-- a text that is one piece -/
theorem take_one {all : List (List Nat)} {h : List O} (p : List Nat) (p1 : p ≠ [91]) (p2 : p ≠ [93]) (p3 : p ≠ [44]) (A : Option D) (ra : F_read_atom [.str (T p)] h = match A with
    | some d => .ok d h
    | none => .exc "Malformed" h) (Hs : RS1 all h ⟨[], none⟩) : match A with
    | some d => ∃ h', F_DataReader_take [.ref 0, .str (T p)] h = .ok .non h' ∧ RS1 all h' ⟨[], some d⟩
    | none => ∃ h', F_DataReader_take [.ref 0, .str (T p)] h = .exc "Malformed" h' := by
  obtain ⟨rs, H⟩ := Hs
  unfold F_DataReader_take runDef m_DataReader_take
  rw [show startD 2 [D.ref 0, .str (T p)] = [some (.ref 0), some (.str (T p))] from rfl, lit_open, lit_close, lit_comma]
  simp only [sIf_ap, mTst_ap, mOp_ap, mVar_ap, mC_ap, List.getElem?_cons_succ, List.getElem?_cons_zero, R.bind_ok, fEq_T, p1, p2, p3, decide_false, asB_ap, R.thn_ok, Bool.false_eq_true, if_false, sExpr_ap, mMeth_ap, ins_item H.o0, if_true, mCons_ap, mCall_ap, mNil_ap, List.length_cons, List.length_nil, ra]
  cases A with
  | none => exact ⟨h, rfl⟩
  | some v =>
    obtain ⟨h', i1, i2⟩ := item_ok (v := v) H (fun row hr => nomatch hr) (by show 0 < 5000000; decide)
    simp only [R.bind_ok, if_true, i1]
    show ∃ h'_1, _ ∧ _
    exact ⟨h', rfl, rs, i2⟩
end K53
set_option Elab.async false
set_option linter.all false
set_option maxRecDepth 100000
set_option maxHeartbeats 1000000
namespace K53
open PySem PySem.Spec PyProof.Rows L2 SL PySem.NumText
def stLen (j : Nat) (s : St) : Prop := ∀ row ∈ s.rows, row.length ≤ j
theorem stLen_step {m j : Nat} {p : List Nat} {s s' : St} (h : stLen j s) (e : stepP m p s = some s') : stLen (j + 1) s' := by
  obtain ⟨rows, cur⟩ := s
  have h' : ∀ row ∈ rows, row.length ≤ j := h
  unfold stepP at e
  split at e
  · unfold stO at e
    cases cur with
    | some d => cases e
    | none =>
      dsimp only at e
      split at e
      · cases e
        intro row hr
        rcases List.mem_cons.mp hr with q | q
        · subst q; exact Nat.zero_le _
        · have := h' row q; omega
      · cases e
  · split at e
    · cases rows with
      | nil => cases cur <;> cases e
      | cons r rest =>
        cases cur with
        | some d =>
          cases e
          intro row hr
          have := h' row (List.mem_cons_of_mem _ hr)
          omega
        | none =>
          have e2 : (if r = [] then some (⟨rest, some (.tup [])⟩ : St) else none) = some s' := e
          split at e2
          · cases e2
            intro row hr
            have := h' row (List.mem_cons_of_mem _ hr)
            omega
          · cases e2
    · split at e
      · cases rows with
        | nil => cases cur <;> cases e
        | cons r rest =>
          cases cur with
          | none => cases e
          | some d =>
            cases e
            intro row hr
            rcases List.mem_cons.mp hr with q | q
            · rw [q, List.length_append, List.length_singleton]
              have := h' r List.mem_cons_self
              omega
            · have := h' row (List.mem_cons_of_mem _ q); omega
      · unfold stA at e
        cases cur with
        | some d => cases e
        | none =>
          dsimp only at e
          cases q : atomR p with
          | none => rw [q] at e; cases e
          | some d =>
            rw [q] at e
            cases e
            intro row hr
            have := h' row hr
            omega
def bodyR : MS := sExpr (mMeth "DataReader" "take" 2 F_DataReader_take (mVar 1) (mCons (mVar 2) mNil))
theorem rloop {all : List (List Nat)} {o0 : Option D} : ∀ (ps : List (List Nat)) (s : St) (h : List O) (o2 : Option D) (j : Nat), (∀ p ∈ ps, p.length ≤ 4000) → RS1 all h s → stLen j s → j + ps.length ≤ 3000000 →
    match stepsP 1000 ps s with
    | some s' => ∃ h' o2', forL (gtName 2) bodyR (gdL 5 (encF all)) (encF ps) [o0, some (.ref 0), o2] h = .nx [o0, some (.ref 0), o2'] h' ∧ RS1 all h' s'
    | none => ∃ ρ' h', forL (gtName 2) bodyR (gdL 5 (encF all)) (encF ps) [o0, some (.ref 0), o2] h = .exc "Malformed" ρ' h'
  | [], s, h, o2, j, _, H, _, _ => by
    have g : gdL 5 (encF all) h = true := by
      obtain ⟨rs, H⟩ := H
      exact decide_eq_true H.o5
    show ∃ h' o2', _ ∧ _
    refine ⟨h, o2, ?_, H⟩
    show (if gdL 5 (encF all) h = true then RS.nx _ _ else .bad) = _
    rw [if_pos g]
  | p :: ps, s, h, o2, j, hp, H, hj, hz => by
    rw [List.length_cons] at hz
    have g : gdL 5 (encF all) h = true := by
      obtain ⟨rs, H⟩ := H
      exact decide_eq_true H.o5
    have e0 : ∃ b, h[0]? = some (rdO b) := by
      obtain ⟨rs, H⟩ := H
      exact ⟨_, H.o0⟩
    obtain ⟨b, e0⟩ := e0
    have tk := take_ok s p (hp p List.mem_cons_self) H fun row hr => by have := hj row hr; omega
    have bod : ∀ (x : SL.R D), F_DataReader_take [.ref 0, .str (T p)] h = x → bodyR [o0, some (.ref 0), some (.str (T p))] h = x.thn [o0, some (.ref 0), some (.str (T p))] fun _ h1 => .nx [o0, some (.ref 0), some (.str (T p))] h1 := by
      intro x hx
      unfold bodyR
      simp only [sExpr_ap, mMeth_ap, mVar_ap, List.getElem?_cons_succ, List.getElem?_cons_zero, R.bind_ok, ins_take e0, if_true, mCons_ap, mNil_ap, List.length_cons, List.length_nil, hx]
    have un : stepsP 1000 (p :: ps) s = (stepP 1000 p s).bind (stepsP 1000 ps) := rfl
    have fo : forL (gtName 2) bodyR (gdL 5 (encF all)) (encF (p :: ps)) [o0, some (.ref 0), o2] h = match bodyR [o0, some (.ref 0), some (.str (T p))] h with
      | .nx ρ2 h2 => forL (gtName 2) bodyR (gdL 5 (encF all)) (encF ps) ρ2 h2
      | .ct ρ2 h2 => forL (gtName 2) bodyR (gdL 5 (encF all)) (encF ps) ρ2 h2
      | .bk ρ2 h2 => .nx ρ2 h2
      | .rt d h2 => .rt d h2
      | .exc c ρ2 h2 => .exc c ρ2 h2
      | .bad => .bad := by
      show (if gdL 5 (encF all) h = true then _ else RS.bad) = _
      rw [if_pos g]
      rfl
    rw [un, fo]
    revert tk
    cases q : stepP 1000 p s with
    | none =>
      rintro ⟨h', e⟩
      rw [bod _ e]
      exact ⟨_, _, rfl⟩
    | some s' =>
      rintro ⟨h', e, H'⟩
      rw [bod _ e]
      have ih := rloop (all := all) (o0 := o0) ps s' h' (some (.str (T p))) (j + 1) (fun x hx => hp x (List.mem_cons_of_mem _ hx)) H' (stLen_step hj q) (by omega)
      exact ih
/-- what a text is read as -/
def readR (m : Nat) (t : List Nat) : Option D := match stepsP m (pieces t []) ⟨[], none⟩ with
  | some ⟨[], some d⟩ => some d
  | _ => none
theorem mem_pieces : ∀ (r tok p : List Nat), p ∈ pieces r tok → p.length ≤ tok.length + r.length + 1
  | [], tok, p, hp => by
    unfold pieces optT at hp
    split at hp
    · cases hp
    · have : p = tok := by simpa using hp
      rw [this]; simp
  | c :: r, tok, p, hp => by
    unfold pieces at hp
    split at hp
    · rcases List.mem_append.mp hp with q | q
      · unfold optT at q
        split at q
        · cases q
        · have : p = tok := by simpa using q
          rw [this]; simp; omega
      · rcases List.mem_cons.mp q with q | q
        · rw [q]; simp
        · have := mem_pieces r [] p q
          rw [List.length_cons]
          rw [List.length_nil] at this
          omega
    · have := mem_pieces r (tok ++ [c]) p hp
      rw [List.length_append, List.length_singleton] at this
      rw [List.length_cons]
      omega
def fin1 : Option St → Option D
  | some ⟨[], some d⟩ => some d
  | _ => none
def RlP (t : List Nat) (h : List O) (X : Option St) : Prop := match X with
  | some s' => ∃ h' o2', forL (gtName 2) bodyR (gdL 5 (encF (pieces t []))) (encF (pieces t [])) [some (.str (T t)), some (.ref 0), none] h = .nx [some (.str (T t)), some (.ref 0), o2'] h' ∧ RS1 (pieces t []) h' s'
  | none => ∃ ρ' h', forL (gtName 2) bodyR (gdL 5 (encF (pieces t []))) (encF (pieces t [])) [some (.str (T t)), some (.ref 0), none] h = .exc "Malformed" ρ' h'
theorem read_run0 (t : List Nat) (ht : t.length ≤ 1000000) (X : Option St) (rl0 : ∀ h, RS1 (pieces t []) h ⟨[], none⟩ → RlP t h X) : match fin1 X with
    | some d => ∃ h', runDef 3 m_read_data [.str (T t)] [] = .ok d h'
    | none => ∃ h', runDef 3 m_read_data [.str (T t)] [] = .exc "Malformed" h' := by
  have sl : sizeLine = 16777216 := sizeLine_eq
  obtain ⟨x3, x4, pc⟩ := pieces_T t [rdO true, .lst [], .lst []] ht
  have mk : mMake "DataReader" 1 F_DataReader___init__ mNil [some (.str (T t)), none, none] [] = .ok (.ref 0) [rdO true, .lst [], .lst []] := by rfl
  have i0 : fIsi [.str (T t), .ty "str"] [] = .ok (.bl true) [] := rfl
  unfold runDef m_read_data
  rw [show startD 3 [D.str (T t)] = [some (.str (T t)), none, none] from rfl, sSeq_ap, sIf_ap]
  simp only [mNot_ap, mTst_ap, mCB_ap, mCons_ap, mVar_ap, List.getElem?_cons_zero, mC_ap, mNil_ap, R.bind_ok, i0, asB_ap, R.thn_ok, Bool.not_true, Bool.false_eq_true, if_false, sNext_ap, seq_nx]
  rw [sSeq_ap, sSet_ap, mk]
  simp only [R.thn_ok, seq_nx, List.set_cons_succ, List.set_cons_zero]
  rw [sSeq_ap, sFor_ap]
  have all0 : ([rdO true, O.lst [], O.lst []] ++ [x3, x4, O.lst (encF (pieces t []))])[5]? = some (.lst (encF (pieces t []))) := rfl
  have src : mSrc srcL (mCall 1 F_pieces_of (mCons (mVar 0) mNil)) [some (.str (T t)), some (.ref 0), none] [rdO true, .lst [], .lst []] = .ok (encF (pieces t []), gdL 5 (encF (pieces t []))) ([rdO true, .lst [], .lst []] ++ [x3, x4, .lst (encF (pieces t []))]) := by
    simp only [mSrc_ap, mCall_ap, mCons_ap, mVar_ap, List.getElem?_cons_zero, mNil_ap, R.bind_ok, List.length_cons, List.length_nil, if_true, pc]
    show srcL (.ref 5) _ = _
    unfold srcL
    dsimp only
    rw [all0]
  have H0 : RS1 (pieces t []) ([rdO true, .lst [], .lst []] ++ [x3, x4, .lst (encF (pieces t []))]) ⟨[], none⟩ :=
    ⟨[], { o0 := rfl, o1 := rfl, o2 := rfl, o5 := rfl, rws := rfl, nd := List.nodup_nil, ge := (fun r hr => nomatch hr), big := (by simp) }⟩
  have rl := rl0 _ H0
  unfold RlP at rl
  rw [src, R.thn_ok]
  unfold bodyR at rl
  dsimp only
  revert rl
  cases X with
  | none =>
    rintro ⟨ρ', h', e⟩
    rw [e]
    exact ⟨h', rfl⟩
  | some s =>
    rintro ⟨h', o2', e, rs, H⟩
    rw [e, seq_nx]
    have r1 : ([some (.str (T t)), some (.ref 0), o2'] : Sl)[1]? = some (some (.ref 0)) := rfl
    have fT : mFld "DataReader" "tuples" (mVar 1) [some (.str (T t)), some (.ref 0), o2'] h' = .ok (.ref 1) h' := by
      unfold mFld
      simp only [mVar_ap, r1, R.bind_ok, H.o0]
      rfl
    have fD : mFld "DataReader" "told" (mVar 1) [some (.str (T t)), some (.ref 0), o2'] h' = .ok (.ref 2) h' := by
      unfold mFld
      simp only [mVar_ap, r1, R.bind_ok, H.o0]
      rfl
    have l1 : (rs.reverse.map D.ref).length = s.rows.length := by rw [List.length_map, List.length_reverse, H.rws.len, contR_len]
    have fin : ∀ (u : Bool), u = (decide (0 < s.rows.length) || !decide ((toldR s).length = 1)) → mOr (mTst (mOp fGt (mCB fLen (mCons (mFld "DataReader" "tuples" (mVar 1)) mNil)) (mC (.int 0)))) (mTst (mOp fNe (mCB fLen (mCons (mFld "DataReader" "told" (mVar 1)) mNil)) (mC (.int 1)))) [some (.str (T t)), some (.ref 0), o2'] h' = .ok u h' := by
      intro u hu
      simp only [mOr_ap, mTst_ap, mOp_ap, mCB_ap, mCons_ap, fT, fD, R.bind_ok, mNil_ap, len_ok H.o1, len_ok H.o2, l1, mC_ap, fGt_int, asB_ap]
      have ne : fNe (.int ((toldR s).length : Int)) (.int 1) h' = .ok (.bl (!decide (((toldR s).length : Int) = 1))) h' := rfl
      rw [ne, hu]
      by_cases a : 0 < s.rows.length
      · rw [decide_eq_true a, decide_eq_true (show (0 : Int) < (s.rows.length : Int) by omega)]; rfl
      · rw [decide_eq_false a, decide_eq_false (show ¬ (0 : Int) < (s.rows.length : Int) by omega)]
        by_cases c : (toldR s).length = 1
        · rw [decide_eq_true c, decide_eq_true (show ((toldR s).length : Int) = 1 by omega)]; rfl
        · rw [decide_eq_false c, decide_eq_false (show ¬ ((toldR s).length : Int) = 1 by omega)]; rfl
    rw [sSeq_ap, sIf_ap]
    obtain ⟨rows, cur⟩ := s
    cases rows with
    | cons r rest =>
      rw [fin true (by simp)]
      cases cur <;> exact ⟨h', rfl⟩
    | nil =>
      cases cur with
      | none =>
        rw [fin true (by simp [toldR])]
        exact ⟨h', rfl⟩
      | some d =>
        rw [fin false (by simp [toldR])]
        have o2 : h'[2]? = some (.lst [d]) := H.o2
        refine ⟨h', ?_⟩
        simp only [R.thn_ok, Bool.false_eq_true, if_false, sNext_ap, seq_nx, sRet_ap, mOp_ap, fD, R.bind_ok, mC_ap]
        have ix : fIx (.ref 2) (.int 0) h' = .ok d h' := by
          have i : itemsD (.ref 2) h' = some [d] := by
            show (match h'[2]? with
              | some (.lst ds) => some ds
              | _ => none) = _
            rw [o2]
          show (match itemsD (.ref 2) h' with
            | some ds => (match atI ds (0 : Int) with
              | some d => R.ok d h'
              | none => .bad)
            | none => .bad) = _
          rw [i]
          rfl
        rw [ix]
        rfl
theorem read_run (t : List Nat) (ht : t.length ≤ 1000000) (hp : ∀ p ∈ pieces t [], p.length ≤ 4000) : match readR 1000 t with
    | some d => ∃ h', runDef 3 m_read_data [.str (T t)] [] = .ok d h'
    | none => ∃ h', runDef 3 m_read_data [.str (T t)] [] = .exc "Malformed" h' :=
  read_run0 t ht (stepsP 1000 (pieces t []) ⟨[], none⟩) fun h H0 => by
    have r := rloop (all := pieces t []) (o0 := some (.str (T t))) (pieces t []) ⟨[], none⟩ _ none 0 hp H0 (fun row hr => nomatch hr) (by have := pieces_len t []; omega)
    unfold RlP
    revert r
    cases stepsP 1000 (pieces t []) ⟨[], none⟩ with
    | none => exact id
    | some s => exact id
/-- a text that is one piece, however long -/
theorem read_one (t : List Nat) (ht : t.length ≤ 1000000) (p1 : t ≠ [91]) (p2 : t ≠ [93]) (p3 : t ≠ [44]) (hpc : pieces t [] = [t]) (A : Option D) (ra : ∀ h, F_read_atom [.str (T t)] h = match A with
    | some d => .ok d h
    | none => .exc "Malformed" h) : match A with
    | some d => ∃ h', runDef 3 m_read_data [.str (T t)] [] = .ok d h'
    | none => ∃ h', runDef 3 m_read_data [.str (T t)] [] = .exc "Malformed" h' := by
  have key := read_run0 t ht (A.map fun d => ⟨[], some d⟩) fun h H0 => by
    have tk := take_one (all := pieces t []) t p1 p2 p3 A (ra h) H0
    have g : gdL 5 (encF (pieces t [])) h = true := by
      obtain ⟨rs, H⟩ := H0
      exact decide_eq_true H.o5
    have e0 : ∃ b, h[0]? = some (rdO b) := by
      obtain ⟨rs, H⟩ := H0
      exact ⟨_, H.o0⟩
    obtain ⟨b, e0⟩ := e0
    have bod : ∀ (x : SL.R D), F_DataReader_take [.ref 0, .str (T t)] h = x → bodyR [some (.str (T t)), some (.ref 0), some (.str (T t))] h = x.thn [some (.str (T t)), some (.ref 0), some (.str (T t))] fun _ h1 => .nx [some (.str (T t)), some (.ref 0), some (.str (T t))] h1 := by
      intro x hx
      unfold bodyR
      simp only [sExpr_ap, mMeth_ap, mVar_ap, List.getElem?_cons_succ, List.getElem?_cons_zero, R.bind_ok, ins_take e0, if_true, mCons_ap, mNil_ap, List.length_cons, List.length_nil, hx]
    have fo : forL (gtName 2) bodyR (gdL 5 (encF (pieces t []))) [.str (T t)] [some (.str (T t)), some (.ref 0), none] h = match bodyR [some (.str (T t)), some (.ref 0), some (.str (T t))] h with
      | .nx ρ2 h2 => forL (gtName 2) bodyR (gdL 5 (encF (pieces t []))) [] ρ2 h2
      | .ct ρ2 h2 => forL (gtName 2) bodyR (gdL 5 (encF (pieces t []))) [] ρ2 h2
      | .bk ρ2 h2 => .nx ρ2 h2
      | .rt d h2 => .rt d h2
      | .exc c ρ2 h2 => .exc c ρ2 h2
      | .bad => .bad := by
      show (if gdL 5 (encF (pieces t [])) h = true then _ else RS.bad) = _
      rw [if_pos g]
      rfl
    have en : encF (pieces t []) = [.str (T t)] := by rw [hpc]; rfl
    cases A with
    | none =>
      obtain ⟨h', e⟩ := tk
      show ∃ ρ' h', _ = _
      refine ⟨[some (.str (T t)), some (.ref 0), some (.str (T t))], h', ?_⟩
      conv => lhs; arg 4; rw [en]
      rw [fo, bod _ e]
      rfl
    | some d =>
      obtain ⟨h', e, H'⟩ := tk
      show ∃ h' o2', _ ∧ _
      refine ⟨h', some (.str (T t)), ?_, H'⟩
      have g' : gdL 5 (encF (pieces t [])) h' = true := by
        obtain ⟨rs, H⟩ := H'
        exact decide_eq_true H.o5
      conv => lhs; arg 4; rw [en]
      rw [fo, bod _ e]
      show (if gdL 5 (encF (pieces t [])) h' = true then RS.nx _ _ else .bad) = _
      rw [if_pos g']
  cases A with
  | none => exact key
  | some d => exact key
end K53
set_option Elab.async false
set_option linter.all false
set_option maxRecDepth 100000
set_option maxHeartbeats 1000000
namespace K53
open PySem PySem.Spec PyProof.Rows L2 SL PySem.NumText
/-! ### data that are read -/
mutual
def pd : D → PyData
  | .non => .none
  | .bl b => .bool b
  | .int i => .int i
  | .str x => .str x
  | .tup ds => .tuple (pds ds)
  | .ref _ => .none
  | .ty _ => .none
  | .frl ds => .list (pds ds)
def pds : List D → List PyData
  | [] => []
  | d :: ds => pd d :: pds ds
end
mutual
def szD : D → Nat
  | .tup ds => 1 + szs ds
  | .frl ds => 1 + szs ds
  | .non => 1
  | .bl _ => 1
  | .int _ => 1
  | .str _ => 1
  | .ref _ => 1
  | .ty _ => 1
def szs : List D → Nat
  | [] => 1
  | d :: ds => 1 + szD d + szs ds
end
mutual
def depD : D → Nat
  | .tup ds => deps ds + 1
  | .frl ds => deps ds + 1
  | .non => 0
  | .bl _ => 0
  | .int _ => 0
  | .str _ => 0
  | .ref _ => 0
  | .ty _ => 0
def deps : List D → Nat
  | [] => 0
  | d :: ds => max (depD d) (deps ds)
end
mutual
def goodD : D → Bool
  | .bl _ => true
  | .int _ => true
  | .str z => decide (z.cps.toList = []) || wordC z.cps.toList
  | .tup ds => goods ds
  | .non => false
  | .ref _ => false
  | .ty _ => false
  | .frl _ => false
def goods : List D → Bool
  | [] => true
  | d :: ds => goodD d && goods ds
end
mutual
theorem good_flat : ∀ d : D, goodD d = true → d.flat = true
  | .tup ds, h => by unfold goodD at h; unfold D.flat; exact goods_flat ds h
  | .bl _, _ => rfl
  | .int _, _ => rfl
  | .str _, _ => rfl
  | .non, h => by cases h
  | .ref _, h => by cases h
  | .ty _, h => by cases h
  | .frl _, h => by cases h
theorem goods_flat : ∀ ds : List D, goods ds = true → D.flats ds = true
  | [], _ => rfl
  | d :: ds, h => by
    unfold goods at h
    rw [Bool.and_eq_true] at h
    unfold D.flats
    rw [good_flat d h.1, goods_flat ds h.2]
    rfl
end
mutual
theorem toPy_good (h : List O) : ∀ (n : Nat) (d : D), goodD d = true → szD d ≤ n → toPy h n d = some (pd d)
  | 0, d, g, hn => by cases d <;> simp [szD] at hn
  | n + 1, .bl _, _, _ => rfl
  | n + 1, .int _, _, _ => rfl
  | n + 1, .str _, _, _ => rfl
  | n + 1, .tup ds, g, hn => by
    unfold goodD at g
    unfold szD at hn
    unfold toPy
    rw [toPys_good h n ds g (by omega)]
    rfl
  | n + 1, .non, g, _ => by cases g
  | n + 1, .ref _, g, _ => by cases g
  | n + 1, .ty _, g, _ => by cases g
  | n + 1, .frl _, g, _ => by cases g
theorem toPys_good (h : List O) : ∀ (n : Nat) (ds : List D), goods ds = true → szs ds ≤ n → toPys h n ds = some (pds ds)
  | 0, ds, g, hn => by cases ds <;> simp [szs] at hn
  | n + 1, [], _, _ => rfl
  | n + 1, d :: ds, g, hn => by
    unfold goods at g
    rw [Bool.and_eq_true] at g
    unfold szs at hn
    unfold toPys
    rw [toPy_good h n d g.1 (by omega), toPys_good h n ds g.2 (by omega)]
    rfl
end
theorem word_low {t : List Nat} (h : wordC t = true) : ∀ c ∈ t, c < 128 := by
  unfold wordC at h
  simp only [Bool.and_eq_true] at h
  intro c hc
  have := List.all_eq_true.mp h.2.2.2 c hc
  unfold low dig at this
  simp only [Bool.or_eq_true, Bool.and_eq_true, decide_eq_true_eq] at this
  omega
mutual
theorem lay_good : ∀ d : D, goodD d = true → (pd d).canLay0 = true
  | .bl _, _ => rfl
  | .int _, _ => rfl
  | .str z, g => by
    unfold goodD at g
    rw [Bool.or_eq_true, decide_eq_true_eq] at g
    show PyData.strOk z = true
    unfold PyData.strOk
    have low : ∀ c ∈ z.cps.toList, c < 128 := by
      rcases g with g | g
      · rw [g]; intro c hc; cases hc
      · exact word_low g
    rw [Array.all_eq_true']
    intro c hc
    have := low c (Array.mem_toList_iff.mpr hc)
    exact decide_eq_true (by omega)
  | .tup ds, g => by unfold goodD at g; exact lays_good ds g
  | .non, g => by cases g
  | .ref _, g => by cases g
  | .ty _, g => by cases g
  | .frl _, g => by cases g
theorem lays_good : ∀ ds : List D, goods ds = true → PyData.canLayAll0 (pds ds) = true
  | [], _ => rfl
  | d :: ds, g => by
    unfold goods at g
    rw [Bool.and_eq_true] at g
    show ((pd d).canLay0 && PyData.canLayAll0 (pds ds)) = true
    rw [lay_good d g.1, lays_good ds g.2]
    rfl
end
mutual
theorem dep_pd : ∀ d : D, (pd d).depth = depD d
  | .bl _ => by unfold depD; rfl
  | .int _ => by unfold depD; rfl
  | .str z => by unfold depD; rfl
  | .tup ds => by
    show PyData.depthAll (pds ds) + 1 = depD (.tup ds)
    rw [dep_pds ds]
    unfold depD
    rfl
  | .non => by unfold depD; rfl
  | .ref _ => by unfold depD; rfl
  | .ty _ => by unfold depD; rfl
  | .frl ds => by
    show PyData.depthAll (pds ds) + 1 = depD (.frl ds)
    rw [dep_pds ds]
    unfold depD
    rfl
theorem dep_pds : ∀ ds : List D, PyData.depthAll (pds ds) = deps ds
  | [] => by unfold deps; rfl
  | d :: ds => by
    show max (pd d).depth (PyData.depthAll (pds ds)) = _
    rw [dep_pd d, dep_pds ds]
    conv => rhs; unfold deps
end
/-! ### states that are fit for the law's reader -/
def rsz : List (List D) → Nat
  | [] => 0
  | r :: rest => szs r + rsz rest
def csz : Option D → Nat
  | none => 0
  | some d => szD d
/-- all data in the rows are good, not too deep, not too great -/
structure Fit (B N : Nat) (s : St) : Prop where
  good : ∀ row ∈ s.rows, goods row = true
  cgood : ∀ d, s.cur = some d → goodD d = true
  size : rsz s.rows + csz s.cur ≤ N
  rowsB : s.rows.length ≤ B
  dep : ∀ (i : Nat) (row : List D), s.rows[i]? = some row → deps row + (s.rows.length - i) ≤ B
  cdep : ∀ d, s.cur = some d → depD d + s.rows.length ≤ B
theorem goods_app : ∀ (a : List D) (d : D), goods a = true → goodD d = true → goods (a ++ [d]) = true
  | [], d, _, h => by
    show goods [d] = true
    unfold goods goods
    rw [h]; rfl
  | x :: a, d, ha, h => by
    unfold goods at ha
    rw [Bool.and_eq_true] at ha
    show goods (x :: (a ++ [d])) = true
    unfold goods
    rw [ha.1, goods_app a d ha.2 h]
    rfl
theorem szs_app : ∀ (a : List D) (d : D), szs (a ++ [d]) = szs a + 1 + szD d
  | [], d => by
    show szs [d] = szs [] + 1 + szD d
    unfold szs szs
    omega
  | x :: a, d => by
    show szs (x :: (a ++ [d])) = szs (x :: a) + 1 + szD d
    unfold szs
    rw [szs_app a d]
    omega
theorem deps_app : ∀ (a : List D) (d : D), deps (a ++ [d]) = max (deps a) (depD d)
  | [], d => by
    show deps [d] = max (deps []) (depD d)
    unfold deps deps
    omega
  | x :: a, d => by
    show deps (x :: (a ++ [d])) = max (deps (x :: a)) (depD d)
    unfold deps
    rw [deps_app a d]
    omega
theorem atom_good {t : List Nat} {d : D} (e : atomR t = some d) : goodD d = true ∧ szD d = 1 ∧ depD d = 0 := by
  unfold atomR at e
  split at e
  · cases e; exact ⟨rfl, by unfold szD; rfl, by unfold depD; rfl⟩
  · split at e
    · cases e; exact ⟨rfl, by unfold szD; rfl, by unfold depD; rfl⟩
    · split at e
      · cases e; exact ⟨rfl, by unfold szD; rfl, by unfold depD; rfl⟩
      · split at e
        · rename_i hw
          cases e
          refine ⟨?_, by unfold szD; rfl, by unfold depD; rfl⟩
          unfold goodD
          rw [T_cps, hw, Bool.or_true]
        · cases q : numR t with
          | none => rw [q] at e; cases e
          | some n => rw [q] at e; cases e; exact ⟨rfl, by unfold szD; rfl, by unfold depD; rfl⟩
theorem Fit.atom {B N : Nat} {s s' : St} {t : List Nat} (f : Fit B N s) (e : stA t s = some s') : Fit B (N + 2) s' := by
  obtain ⟨rows, cur⟩ := s
  unfold stA at e
  cases cur with
  | some d => cases e
  | none =>
    dsimp only at e
    cases q : atomR t with
    | none => rw [q] at e; cases e
    | some d =>
      rw [q] at e
      cases e
      obtain ⟨g1, g2, g3⟩ := atom_good q
      have fs : rsz rows + 0 ≤ N := f.size
      have fb : rows.length ≤ B := f.rowsB
      refine ⟨f.good, fun x hx => (by cases hx; exact g1), ?_, fb, f.dep, fun x hx => (by cases hx; rw [g3]; show 0 + rows.length ≤ B; omega)⟩
      show rsz rows + szD d ≤ N + 2
      omega
theorem Fit.open_ {B N m : Nat} {s s' : St} (f : Fit B N s) (e : stO m s = some s') (hB : s.rows.length < B) : Fit B (N + 2) s' := by
  obtain ⟨rows, cur⟩ := s
  unfold stO at e
  cases cur with
  | some d => cases e
  | none =>
    dsimp only at e
    split at e
    · cases e
      have fs : rsz rows + 0 ≤ N := f.size
      refine ⟨fun row hr => ?_, fun d hd => (by cases hd), ?_, hB, fun i row hi => ?_, fun d hd => (by cases hd)⟩
      · rcases List.mem_cons.mp hr with q | q
        · subst q; rfl
        · exact f.good row q
      · show szs [] + rsz rows + 0 ≤ N + 2
        unfold szs
        omega
      · cases i with
        | zero =>
          have : row = [] := by simpa using hi.symm
          subst this
          show deps [] + (rows.length + 1 - 0) ≤ B
          unfold deps
          have hB' : rows.length < B := hB
          omega
        | succ i =>
          have h1 := f.dep i row (by simpa using hi)
          show deps row + (rows.length + 1 - (i + 1)) ≤ B
          have h1' : deps row + (rows.length - i) ≤ B := h1
          omega
    · cases e
theorem Fit.close {B N : Nat} {s s' : St} (f : Fit B N s) (e : stC s = some s') : Fit B (N + 2) s' := by
  obtain ⟨rows, cur⟩ := s
  have tail : ∀ {r : List D} {rest : List (List D)}, rows = r :: rest → (∀ row ∈ rest, goods row = true) ∧ szs r + rsz rest + csz cur ≤ N ∧ rest.length ≤ B ∧ (∀ (i : Nat) (row : List D), rest[i]? = some row → deps row + (rest.length - i) ≤ B) ∧ deps r + (rest.length + 1) ≤ B ∧ goods r = true := by
    intro r rest er
    subst er
    refine ⟨fun row hr => f.good row (List.mem_cons_of_mem _ hr), f.size, ?_, fun i row hi => ?_, ?_, f.good r List.mem_cons_self⟩
    · have := f.rowsB
      have h2 : rest.length + 1 ≤ B := this
      omega
    · have := f.dep (i + 1) row (by simpa using hi)
      have h2 : deps row + (rest.length + 1 - (i + 1)) ≤ B := this
      omega
    · have := f.dep 0 r rfl
      have h2 : deps r + (rest.length + 1 - 0) ≤ B := this
      omega
  cases rows with
  | nil => cases cur <;> cases e
  | cons r rest =>
    obtain ⟨t1, t2, t3, t4, t5, t6⟩ := tail rfl
    cases cur with
    | some d =>
      cases e
      have cg := f.cgood d rfl
      have t2' : szs r + rsz rest + szD d ≤ N := t2
      have cd : depD d + (rest.length + 1) ≤ B := f.cdep d rfl
      refine ⟨t1, fun x hx => ?_, ?_, t3, t4, fun x hx => ?_⟩
      · cases hx
        unfold goodD
        exact goods_app r d t6 cg
      · show rsz rest + szD (.tup (r ++ [d])) ≤ N + 2
        unfold szD
        rw [szs_app]
        omega
      · cases hx
        unfold depD
        rw [deps_app]
        show max (deps r) (depD d) + 1 + rest.length ≤ B
        omega
    | none =>
      have e2 : (if r = [] then some (⟨rest, some (.tup [])⟩ : St) else none) = some s' := e
      have t2' : szs r + rsz rest + 0 ≤ N := t2
      split at e2
      · rename_i z
        subst z
        cases e2
        refine ⟨t1, fun x hx => ?_, ?_, t3, t4, fun x hx => ?_⟩
        · cases hx; rfl
        · show rsz rest + szD (.tup []) ≤ N + 2
          unfold szs at t2'
          unfold szD szs
          omega
        · cases hx
          unfold depD deps
          unfold deps at t5
          show 0 + 1 + rest.length ≤ B
          omega
      · cases e2
theorem Fit.comma {B N : Nat} {s s' : St} (f : Fit B N s) (e : stM s = some s') : Fit B (N + 2) s' := by
  obtain ⟨rows, cur⟩ := s
  cases rows with
  | nil => cases cur <;> cases e
  | cons r rest =>
    cases cur with
    | none => cases e
    | some d =>
      cases e
      have cg := f.cgood d rfl
      have cs : szs r + rsz rest + szD d ≤ N := f.size
      have cd : depD d + (rest.length + 1) ≤ B := f.cdep d rfl
      refine ⟨fun row hr => ?_, fun x hx => (by cases hx), ?_, f.rowsB, fun i row hi => ?_, fun x hx => (by cases hx)⟩
      · rcases List.mem_cons.mp hr with q | q
        · rw [q]; exact goods_app r d (f.good r List.mem_cons_self) cg
        · exact f.good row (List.mem_cons_of_mem _ q)
      · show szs (r ++ [d]) + rsz rest + 0 ≤ N + 2
        rw [szs_app]
        omega
      · cases i with
        | zero =>
          have er : row = r ++ [d] := by simpa using hi.symm
          rw [er, deps_app]
          have h1 : deps r + (rest.length + 1 - 0) ≤ B := f.dep 0 r rfl
          show max (deps r) (depD d) + (rest.length + 1 - 0) ≤ B
          omega
        | succ i => exact f.dep (i + 1) row hi
end K53
set_option Elab.async false
set_option linter.all false
set_option maxRecDepth 100000
set_option maxHeartbeats 1000000
namespace K53
open PySem PySem.Spec PyProof.Rows L2 SL PySem.NumText
/-! ### the law's reader -/
def flushM : MS := sIf (mTst (mOp fNe (mVar 3) (mC (.str "")))) (sSeq (sSet 6 (mDispGet [("+", .bl true), ("-", .bl false), (".", .str "")] (mVar 3) (mIf (mTst (mCall 1 F__law_word (mCons (mVar 3) mNil))) (mVar 3) (mCall 1 F__law_number (mCons (mVar 3) mNil)))))
    (sSeq (sIf (mOr (mTst (mOp fIsN (mVar 6) (mC .non))) (mNot (mTst (mVar 4)))) (sRet (mC .non)) sNext)
    (sPar3 2 4 3 (mCons (mLst (mCons (mVar 6) mNil)) (mCons (mC (.bl false)) (mCons (mC (.str "")) mNil)))))) sNext
def closeM : MS := sIf (mTst (mOp fEq (mVar 5) (mC (.str "]")))) (sSeq (sIf (mOr (mTst (mOp fEq (mVar 1) (mLst mNil))) (mAnd (mTst (mVar 4)) (mTst (mOp fNe (mOp fIx (mVar 1) (mUn fNeg (mC (.int 1)))) (mLst mNil))))) (sRet (mC .non)) sNext)
    (sSeq (sSet 7 (mMt tyLst fPop (mVar 1) mNil))
    (sPar 2 4 (mCons (mLst (mCons (mCB (overI fTuple) (mCons (mOp fAdd (mVar 7) (mIf (mTst (mVar 4)) (mLst mNil) (mLst (mCons (mOp fIx (mVar 2) (mC (.int 0))) mNil)))) mNil)) mNil)) (mCons (mC (.bl false)) mNil))))) sNext
def commaM : MS := sIf (mTst (mOp fEq (mVar 5) (mC (.str ",")))) (sSeq (sIf (mOr (mTst (mVar 4)) (mTst (mOp fEq (mVar 1) (mLst mNil)))) (sRet (mC .non)) sNext)
    (sSeq (sExpr (mMt tyLst fAppend (mOp fIx (mVar 1) (mUn fNeg (mC (.int 1)))) (mCons (mOp fIx (mVar 2) (mC (.int 0))) mNil)))
    (sSet 4 (mC (.bl true))))) closeM
def openM : MS := sIf (mTst (mOp fEq (mVar 5) (mC (.str "[")))) (sSeq (sIf (mNot (mTst (mVar 4))) (sRet (mC .non)) sNext)
    (sExpr (mMt tyLst fAppend (mVar 1) (mCons (mLst mNil) mNil)))) commaM
def bodyL : MS := sIf (mTst (mOp fIn (mVar 5) (mC (.str "[],;")))) (sSeq flushM openM) (sSet 3 (mOp fAdd (mVar 3) (mVar 5)))
def endL : MS := sRet (mIf (mAnd (mTst (mOp fEq (mVar 1) (mLst mNil))) (mAnd (mNot (mTst (mVar 4))) (mTst (mOp fNotIn (mC (.str ";")) (mVar 0))))) (mVar 2) (mC .non))
theorem m_law_read_eq : m__law_read = sSeq (sAsg (mTup (mCons (mLst mNil) (mCons (mLst mNil) (mCons (mC (.str "")) (mCons (mC (.bl true)) mNil))))) (gtTup (gtLen 4 (gtCons (gtName 1) (gtCons (gtName 2) (gtCons (gtName 3) (gtCons (gtName 4) gtNil)))))))
    (sSeq (sFor (mSrc srcStr (mOp fAdd (mVar 0) (mC (.str ";")))) (gtName 5) bodyL) endL) := rfl
structure LwH (h0 h : List O) (rs : List Nat) (rows : List (List D)) (dn : Nat) (cur : Option D) : Prop where
  pre : ∀ i, i < h0.length → h[i]? = h0[i]?
  o1 : h[h0.length]? = some (.lst (rs.reverse.map D.ref))
  rws : Rws h rs rows
  nd : rs.Nodup
  ge : ∀ r ∈ rs, h0.length < r ∧ r < h.length
  big : h0.length < h.length
  dni : dn ∉ rs
  dne : h0.length < dn ∧ dn < h.length
  dcur : ∀ d, cur = some d → h[dn]? = some (.lst [d])
section
variable {h0 h : List O} {rs : List Nat} {rows : List (List D)} {dn : Nat} {cur : Option D}
theorem LwH.app (H : LwH h0 h rs rows dn cur) (o : O) : LwH h0 (h ++ [o]) rs rows dn cur where
  pre := fun i hi => by rw [List.getElem?_append_left (by have := H.big; omega)]; exact H.pre i hi
  o1 := by rw [List.getElem?_append_left H.big]; exact H.o1
  rws := H.rws.keep fun r hr => List.getElem?_append_left (H.ge r hr).2
  nd := H.nd
  ge := fun r hr => by rw [List.length_append]; obtain ⟨a, b⟩ := H.ge r hr; exact ⟨a, by omega⟩
  big := by rw [List.length_append]; have := H.big; omega
  dni := H.dni
  dne := by rw [List.length_append]; obtain ⟨a, b⟩ := H.dne; exact ⟨a, by omega⟩
  dcur := fun d hd => by rw [List.getElem?_append_left H.dne.2]; exact H.dcur d hd
/-- a new list of what was read last -/
theorem LwH.done (H : LwH h0 h rs rows dn cur) (d : D) : LwH h0 (h ++ [.lst [d]]) rs rows h.length (some d) where
  pre := (H.app _).pre
  o1 := (H.app _).o1
  rws := (H.app _).rws
  nd := H.nd
  ge := (H.app _).ge
  big := (H.app _).big
  dni := fun z => Nat.lt_irrefl _ (H.ge _ z).2
  dne := ⟨H.big, by rw [List.length_append]; exact Nat.lt_succ_self _⟩
  dcur := fun x hx => by cases hx; simp
theorem LwH.ahead (H : LwH h0 h rs rows dn cur) : LwH h0 h rs rows dn none := { H with dcur := fun d hd => (by cases hd) }
theorem LwH.push (H : LwH h0 h rs rows dn none) : LwH h0 ((h ++ [O.lst []]).set h0.length (.lst ((h.length :: rs).reverse.map D.ref))) (h.length :: rs) ([] :: rows) dn none where
  pre := fun i hi => by rw [List.getElem?_set_ne (by omega), List.getElem?_append_left (by have := H.big; omega)]; exact H.pre i hi
  o1 := by rw [List.getElem?_set_self (by rw [List.length_append]; have := H.big; omega)]
  rws := ⟨[], rows, rfl, by rw [List.getElem?_set_ne (by have := H.big; omega)]; simp, H.rws.keep fun x hx => by
    obtain ⟨g1, g2⟩ := H.ge x hx
    rw [List.getElem?_set_ne (by omega), List.getElem?_append_left g2]⟩
  nd := List.nodup_cons.mpr ⟨fun z => Nat.lt_irrefl _ (H.ge _ z).2, H.nd⟩
  ge := fun x hx => by
    rw [List.length_set, List.length_append, List.length_singleton]
    rcases List.mem_cons.mp hx with e | e
    · subst e; exact ⟨H.big, Nat.lt_succ_self _⟩
    · obtain ⟨g1, g2⟩ := H.ge x e; exact ⟨g1, Nat.lt_succ_of_lt g2⟩
  big := by rw [List.length_set, List.length_append]; have := H.big; omega
  dni := fun z => by
    rcases List.mem_cons.mp z with e | e
    · have := H.dne.2; omega
    · exact H.dni e
  dne := by rw [List.length_set, List.length_append]; obtain ⟨a, b⟩ := H.dne; exact ⟨a, by omega⟩
  dcur := fun d hd => by cases hd
theorem LwH.row {r : Nat} {row : List D} {rest : List (List D)} (H : LwH h0 h (r :: rs) (row :: rest) dn cur) (row2 : List D) : LwH h0 (h.set r (.lst row2)) (r :: rs) (row2 :: rest) dn cur := by
  obtain ⟨g1, g2⟩ := H.ge r List.mem_cons_self
  obtain ⟨row', rest', e1, e2, e3⟩ := H.rws
  obtain ⟨rfl, rfl⟩ := List.cons.inj e1
  exact {
    pre := fun i hi => by rw [List.getElem?_set_ne (by omega)]; exact H.pre i hi
    o1 := by rw [List.getElem?_set_ne (by omega)]; exact H.o1
    rws := ⟨row2, rest, rfl, by rw [List.getElem?_set_self g2], e3.keep fun x hx => List.getElem?_set_ne fun z => (List.nodup_cons.mp H.nd).1 (by rw [show r = x from z]; exact hx)⟩
    nd := H.nd
    ge := fun x hx => by rw [List.length_set]; exact H.ge x hx
    big := by rw [List.length_set]; exact H.big
    dni := H.dni
    dne := by rw [List.length_set]; exact H.dne
    dcur := fun d hd => by rw [List.getElem?_set_ne fun z => H.dni (by rw [← show r = dn from z]; exact List.mem_cons_self)]; exact H.dcur d hd }
theorem LwH.pop {r : Nat} {row : List D} {rest : List (List D)} (H : LwH h0 h (r :: rs) (row :: rest) dn cur) : LwH h0 (h.set h0.length (.lst (rs.reverse.map D.ref))) rs rest dn cur := by
  obtain ⟨row', rest', e1, e2, e3⟩ := H.rws
  obtain ⟨rfl, rfl⟩ := List.cons.inj e1
  exact {
    pre := fun i hi => by rw [List.getElem?_set_ne (by omega)]; exact H.pre i hi
    o1 := by rw [List.getElem?_set_self H.big]
    rws := e3.keep fun x hx => List.getElem?_set_ne (by have := (H.ge x (List.mem_cons_of_mem _ hx)).1; omega)
    nd := (List.nodup_cons.mp H.nd).2
    ge := fun x hx => by rw [List.length_set]; exact H.ge x (List.mem_cons_of_mem _ hx)
    big := by rw [List.length_set]; exact H.big
    dni := fun z => H.dni (List.mem_cons_of_mem _ z)
    dne := by rw [List.length_set]; exact H.dne
    dcur := fun d hd => by rw [List.getElem?_set_ne (by have := H.dne.1; omega)]; exact H.dcur d hd }
end
/-! ### comparing with [] -/
theorem Rws.at {h : List O} : ∀ {rs : List Nat} {rows : List (List D)}, Rws h rs rows → ∀ r ∈ rs, ∃ row ∈ rows, h[r]? = some (.lst row)
  | [], _, _, r, hr => by cases hr
  | x :: rs, _, ⟨row, rest, e1, e2, e3⟩, r, hr => by
    rw [e1]
    rcases List.mem_cons.mp hr with q | q
    · rw [q]; exact ⟨row, List.mem_cons_self, e2⟩
    · obtain ⟨w, w1, w2⟩ := Rws.at e3 r q
      exact ⟨w, List.mem_cons_of_mem _ w1, w2⟩
theorem refs_py {h : List O} {N Dp : Nat} : ∀ (l : List Nat), (∀ r ∈ l, ∃ row, h[r]? = some (.lst row) ∧ goods row = true ∧ szs row ≤ N ∧ deps row ≤ Dp) → ∀ f, l.length + N + 3 ≤ f →
    ∃ ps, toPys h f (l.map D.ref) = some ps ∧ (ps.isEmpty = l.isEmpty) ∧ PyData.canLayAll0 ps = true ∧ PyData.depthAll ps ≤ Dp + 1
  | [], _, f, hf => by
    obtain ⟨g, rfl⟩ : ∃ g, f = g + 1 := ⟨f - 1, by omega⟩
    exact ⟨[], rfl, rfl, rfl, Nat.zero_le _⟩
  | r :: l, hl, f, hf => by
    rw [List.length_cons] at hf
    obtain ⟨g, rfl⟩ : ∃ g, f = g + 2 := ⟨f - 2, by omega⟩
    obtain ⟨row, e1, e2, e3, e4⟩ := hl r List.mem_cons_self
    obtain ⟨ps, i1, i2, i3, i4⟩ := refs_py l (fun x hx => hl x (List.mem_cons_of_mem _ hx)) (g + 1) (by omega)
    have t1 : toPy h (g + 1) (.ref r) = some (.list (pds row)) := by
      show (match h[r]? with
        | some (.lst ds) => (toPys h g ds).map PyData.list
        | _ => none) = _
      rw [e1]
      show (toPys h g row).map PyData.list = _
      rw [toPys_good h g row e2 (by omega)]
      rfl
    refine ⟨.list (pds row) :: ps, ?_, rfl, ?_, ?_⟩
    · show (match toPy h (g + 1) (.ref r), toPys h (g + 1) (l.map D.ref) with
        | some p, some ps => some (p :: ps)
        | _, _ => none) = _
      rw [t1, i1]
    · show (PyData.canLayAll0 (pds row) && PyData.canLayAll0 ps) = true
      rw [lays_good row e2, i3]
      rfl
    · show max (PyData.depthAll (pds row) + 1) (PyData.depthAll ps) ≤ Dp + 1
      rw [dep_pds]
      omega
theorem toPy_ref {h : List O} {n f : Nat} {ds : List D} (e : h[n]? = some (.lst ds)) : toPy h (f + 1) (.ref n) = (toPys h f ds).map PyData.list := by
  show (match h[n]? with
    | some (.lst ds) => (toPys h f ds).map PyData.list
    | _ => none) = _
  rw [e]
theorem eq_nil {h : List O} {n m : Nat} {ds : List D} {ps : List PyData} (e : h[n]? = some (.lst ds)) (em : h[m]? = some (.lst [])) (hp : toPys h 999999 ds = some ps) (lay : PyData.canLayAll0 ps = true) (dep : PyData.depthAll ps ≤ 63) : fEq (.ref n) (.ref m) h = .ok (.bl ps.isEmpty) h := by
  have t1 : toPy h pyF (.ref n) = some (.list ps) := by
    show toPy h (999999 + 1) (.ref n) = _
    rw [toPy_ref e, hp]
    rfl
  have t2 : toPy h pyF (.ref m) = some (.list []) := by
    show toPy h (999999 + 1) (.ref m) = _
    rw [toPy_ref em]
    rfl
  have s1 : SeqAt.shaped (.list ps) = true := by
    unfold SeqAt.shaped
    show (PyData.canLayAll0 ps && decide (PyData.depthAll ps + 1 ≤ 64)) = true
    rw [lay, decide_eq_true (by omega)]
    rfl
  have s2 : SeqAt.shaped (.list []) = true := by decide
  have ev : eqPy (.ref n) (.ref m) h = some ps.isEmpty := by
    unfold eqPy
    rw [t1, t2]
    dsimp only
    rw [if_pos ⟨s1, s2⟩]
    cases ps <;> rfl
  show (match eqPy (.ref n) (.ref m) h with
    | some b => R.ok (D.bl b) h
    | none => .bad) = _
  rw [ev]
theorem ne_nil {h : List O} {n m : Nat} {ds : List D} {ps : List PyData} (e : h[n]? = some (.lst ds)) (em : h[m]? = some (.lst [])) (hp : toPys h 999999 ds = some ps) (lay : PyData.canLayAll0 ps = true) (dep : PyData.depthAll ps ≤ 63) : fNe (.ref n) (.ref m) h = .ok (.bl (!ps.isEmpty)) h := by
  unfold fNe
  rw [eq_nil e em hp lay dep]
theorem rows_eq {h0 h : List O} {rs : List Nat} {s : St} {dn N m : Nat} (H : LwH h0 h rs s.rows dn s.cur) (f : Fit 60 N s) (hN : N ≤ 900000) (em : h[m]? = some (.lst [])) : fEq (.ref h0.length) (.ref m) h = .ok (.bl s.rows.isEmpty) h := by
  have sz : ∀ {rows : List (List D)} {row : List D}, row ∈ rows → szs row ≤ rsz rows := by
    intro rows row hr
    induction rows with
    | nil => cases hr
    | cons a l ih =>
      show szs row ≤ szs a + rsz l
      rcases List.mem_cons.mp hr with q | q
      · rw [q]; omega
      · have := ih q; omega
  have len := H.rws.len
  obtain ⟨ps, q1, q2, q3, q4⟩ := refs_py (h := h) (N := N) (Dp := 60) rs.reverse (fun r hr => by
    obtain ⟨row, w1, w2⟩ := H.rws.at r (List.mem_reverse.mp hr)
    refine ⟨row, w2, f.good row w1, ?_, ?_⟩
    · have := sz w1
      have := f.size
      omega
    · obtain ⟨i, hi, e⟩ := List.mem_iff_getElem.mp w1
      have := f.dep i row (by rw [List.getElem?_eq_getElem hi, e])
      omega) 999999 (by
    rw [List.length_reverse, len]
    have := f.rowsB
    omega)
  rw [eq_nil H.o1 em q1 q3 (by omega), q2]
  congr 2
  cases hrs : rs with
  | nil =>
    rw [hrs] at len
    rw [List.length_eq_zero_iff.mp len.symm]
    rfl
  | cons r rest =>
    rw [hrs] at len
    cases hr : s.rows with
    | nil => rw [hr] at len; cases len
    | cons a b => simp
end K53
set_option Elab.async false
set_option linter.all false
set_option maxRecDepth 100000
set_option maxHeartbeats 1000000
namespace K53
open PySem PySem.Spec PyProof.Rows L2 SL PySem.NumText
abbrev rL (t : Str) (n dn : Nat) (tok : List Nat) (cur : Option D) (o5 o6 o7 : Option D) : Sl := [some (.str t), some (.ref n), some (.ref dn), some (.str (T tok)), some (.bl cur.isNone), o5, o6, o7]
def preOf (h0 h : List O) : Prop := ∀ i, i < h0.length → h[i]? = h0[i]?
section
variable {t : Str} {h0 h : List O} {rs : List Nat} {s : St} {dn N : Nat} {o5 o6 o7 : Option D}
theorem isN_eq (d : D) (h : List O) : fIsN d .non h = .ok (.bl (decide (d = .non))) h := rfl
theorem nl0 (h : List O) : newLst [] h = .ok (.ref h.length) (h ++ [.lst []]) := rfl
theorem nl1 (a : D) (h : List O) : newLst [a] h = .ok (.ref h.length) (h ++ [.lst [a]]) := rfl
theorem atom_ne {t : List Nat} {d : D} (e : atomR t = some d) : decide (d = .non) = false := by
  obtain ⟨g, _, _⟩ := atom_good e
  refine decide_eq_false fun z => ?_
  rw [z] at g
  cases g
theorem flush_ok {tok : List Nat} (H : LwH h0 h rs s.rows dn s.cur) (hl : tok.length ≤ 4000) : match (if tok = [] then some s else stA tok s) with
    | some s' => ∃ h' dn' o6', flushM (rL t h0.length dn tok s.cur o5 o6 o7) h = .nx (rL t h0.length dn' [] s'.cur o5 o6' o7) h' ∧ LwH h0 h' rs s'.rows dn' s'.cur
    | none => ∃ h', flushM (rL t h0.length dn tok s.cur o5 o6 o7) h = .rt .non h' ∧ preOf h0 h' := by
  have hs : tok.length ≤ sizeLine := by rw [sizeLine_eq]; omega
  unfold flushM
  rw [lit_nil]
  by_cases z : tok = []
  · rw [if_pos z]
    subst z
    refine ⟨h, dn, o6, ?_, H⟩
    simp only [sSeq_ap, seq_nx, seq_rt, seq_exc, seq_bad, sNext_ap, sRet_ap, sRetN_ap, sExpr_ap, sSet_ap, sIf_ap, sRaise_ap, sFor_ap, sAsg_ap, sPar_ap, par2_ap, sPar3_ap, par3_ap, mVar_ap, mC_ap, mOp_ap, mUn_ap, mTst_ap, asB_ap, mAnd_ap, mOr_ap, mNot_ap, mIf_ap, mAndV_ap, mOrV_ap, mNotV_ap, mChain_ap, mNil_ap, mCons_ap, mTup_ap, mLst_ap, mCB_ap, mCBL_ap, mNew_ap, allocL_ap, mNoPart_ap, mPart_ap, asI_ap, mSl_ap, mCall_ap, mMt_ap, mSrc_ap, mSrcA_ap, mSrcN_ap, capL_ap, mLcI_ap, mDisp_ap, mInTab_ap, mDispGet_ap, mMeth_ap, one1_ap, gtName_ap, gtS_name, R.bind_ok, R.bind_exc, R.bind_bad, R.thn_ok, R.thn_exc, R.thn_bad, List.getElem?_cons_zero, List.getElem?_cons_succ, List.set_cons_zero, List.set_cons_succ, if_true, Bool.not_true, Bool.not_false, Bool.false_eq_true, if_false, decide_true, decide_false, fNe_T]
  · rw [if_neg z]
    rw [sIf_ap]
    simp only [mTst_ap, mOp_ap, mVar_ap, mC_ap, List.getElem?_cons_succ, List.getElem?_cons_zero, R.bind_ok, fNe_T, decide_eq_false z, asB_ap, R.thn_ok, Bool.not_false, if_true]
    have dg : ∀ ρ : Sl, ρ[3]? = some (some (.str (T tok))) → mDispGet [("+", .bl true), ("-", .bl false), (".", .str "")] (mVar 3) (mIf (mTst (mCall 1 F__law_word (mCons (mVar 3) mNil))) (mVar 3) (mCall 1 F__law_number (mCons (mVar 3) mNil))) ρ h = .ok ((atomR tok).getD .non) h := by
      intro ρ e
      have dflt : mIf (mTst (mCall 1 F__law_word (mCons (mVar 3) mNil))) (mVar 3) (mCall 1 F__law_number (mCons (mVar 3) mNil)) ρ h = .ok (if wordC tok = true then .str (T tok) else match numR tok with
          | some n => .int n
          | none => .non) h := by
        simp only [sSeq_ap, seq_nx, seq_rt, seq_exc, seq_bad, sNext_ap, sRet_ap, sRetN_ap, sExpr_ap, sSet_ap, sIf_ap, sRaise_ap, sFor_ap, sAsg_ap, sPar_ap, par2_ap, sPar3_ap, par3_ap, mVar_ap, mC_ap, mOp_ap, mUn_ap, mTst_ap, asB_ap, mAnd_ap, mOr_ap, mNot_ap, mIf_ap, mAndV_ap, mOrV_ap, mNotV_ap, mChain_ap, mNil_ap, mCons_ap, mTup_ap, mLst_ap, mCB_ap, mCBL_ap, mNew_ap, allocL_ap, mNoPart_ap, mPart_ap, asI_ap, mSl_ap, mCall_ap, mMt_ap, mSrc_ap, mSrcA_ap, mSrcN_ap, capL_ap, mLcI_ap, mDisp_ap, mInTab_ap, mDispGet_ap, mMeth_ap, one1_ap, gtName_ap, gtS_name, R.bind_ok, R.bind_exc, R.bind_bad, R.thn_ok, R.thn_exc, R.thn_bad, List.getElem?_cons_zero, List.getElem?_cons_succ, List.set_cons_zero, List.set_cons_succ, if_true, Bool.not_true, Bool.not_false, Bool.false_eq_true, if_false, decide_true, decide_false, e, List.length_cons, List.length_nil, law_word_T _ _ hs, law_number_T _ _ hl]
        cases wordC tok <;> rfl
      rw [mDispGet_ap]
      simp only [mVar_ap, e, R.bind_ok, dflt, tab_get]
      unfold atomR
      by_cases h1 : tok = [43]
      · simp only [h1, if_true]; rfl
      · by_cases h2 : tok = [45]
        · simp only [h1, h2, if_true, if_false]; rfl
        · by_cases h3 : tok = [46]
          · simp only [h1, h2, h3, if_true, if_false]; rfl
          · simp only [h1, h2, h3, if_false, Option.getD_none]
            cases wordC tok with
            | true => rfl
            | false =>
              simp only [Bool.false_eq_true, if_false]
              cases numR tok <;> rfl
    rw [lit_nil] at dg
    rw [sSeq_ap, sSet_ap, dg _ rfl]
    simp only [R.thn_ok, seq_nx, List.set_cons_succ, List.set_cons_zero]
    rw [sSeq_ap, sIf_ap]
    simp only [mOr_ap, mNot_ap, mTst_ap, mOp_ap, mVar_ap, mC_ap, List.getElem?_cons_succ, List.getElem?_cons_zero, R.bind_ok, isN_eq, asB_ap]
    obtain ⟨rows, cur⟩ := s
    unfold stA
    dsimp only
    cases cur with
    | some d =>
      cases q : atomR tok with
      | none => exact ⟨h, rfl, H.pre⟩
      | some v =>
        have ne := atom_ne q
        simp only [Option.getD_some, ne]
        exact ⟨h, rfl, H.pre⟩
    | none =>
      cases q : atomR tok with
      | none => exact ⟨h, rfl, H.pre⟩
      | some v =>
        have ne := atom_ne q
        simp only [sSeq_ap, seq_nx, seq_rt, seq_exc, seq_bad, sNext_ap, sRet_ap, sRetN_ap, sExpr_ap, sSet_ap, sIf_ap, sRaise_ap, sFor_ap, sAsg_ap, sPar_ap, par2_ap, sPar3_ap, par3_ap, mVar_ap, mC_ap, mOp_ap, mUn_ap, mTst_ap, asB_ap, mAnd_ap, mOr_ap, mNot_ap, mIf_ap, mAndV_ap, mOrV_ap, mNotV_ap, mChain_ap, mNil_ap, mCons_ap, mTup_ap, mLst_ap, mCB_ap, mCBL_ap, mNew_ap, allocL_ap, mNoPart_ap, mPart_ap, asI_ap, mSl_ap, mCall_ap, mMt_ap, mSrc_ap, mSrcA_ap, mSrcN_ap, capL_ap, mLcI_ap, mDisp_ap, mInTab_ap, mDispGet_ap, mMeth_ap, one1_ap, gtName_ap, gtS_name, R.bind_ok, R.bind_exc, R.bind_bad, R.thn_ok, R.thn_exc, R.thn_bad, List.getElem?_cons_zero, List.getElem?_cons_succ, List.set_cons_zero, List.set_cons_succ, if_true, Bool.not_true, Bool.not_false, Bool.false_eq_true, if_false, decide_true, decide_false, Option.getD_some, ne, Option.isNone_none, nl1]
        exact ⟨_, h.length, some v, rfl, H.done v⟩
/-- the sign behind a token -/
theorem fIx_lastN {n : Nat} {xs : List D} {x : D} (e : h[n]? = some (.lst (xs ++ [x]))) : fIx (.ref n) (.int (-1)) h = .ok x h := by
  have i : itemsD (.ref n) h = some (xs ++ [x]) := by
    show (match h[n]? with
      | some (.lst ds) => some ds
      | _ => none) = _
    rw [e]
  have a : atI (xs ++ [x]) (-1 : Int) = some x := by
    unfold atI ixN
    rw [if_neg (by decide), if_pos (by rw [List.length_append, List.length_singleton]; omega)]
    have : ((-1 : Int) + ((xs ++ [x]).length : Int)).toNat = xs.length := by rw [List.length_append, List.length_singleton]; omega
    show (xs ++ [x])[((-1 : Int) + ((xs ++ [x]).length : Int)).toNat]? = some x
    rw [this]
    simp
  show (match itemsD (.ref n) h with
    | some ds => (match atI ds (-1 : Int) with
      | some d => R.ok d h
      | none => .bad)
    | none => .bad) = _
  rw [i]
  show (match atI (xs ++ [x]) (-1 : Int) with
      | some d => R.ok d h
      | none => .bad) = _
  rw [a]
theorem fIx_firstN {n : Nat} {x : D} (e : h[n]? = some (.lst [x])) : fIx (.ref n) (.int 0) h = .ok x h := by
  have i : itemsD (.ref n) h = some [x] := by
    show (match h[n]? with
      | some (.lst ds) => some ds
      | _ => none) = _
    rw [e]
  show (match itemsD (.ref n) h with
    | some ds => (match atI ds (0 : Int) with
      | some d => R.ok d h
      | none => .bad)
    | none => .bad) = _
  rw [i]
  rfl
theorem open_okL (H : LwH h0 h rs s.rows dn s.cur) (hB : s.rows.length < 60) {o6 o7 : Option D} : match stO 60 s with
    | some s' => ∃ h' rs', openM (rL t h0.length dn [] s.cur (some (.str (T [91]))) o6 o7) h = .nx (rL t h0.length dn [] s'.cur (some (.str (T [91]))) o6 o7) h' ∧ LwH h0 h' rs' s'.rows dn s'.cur
    | none => ∃ h', openM (rL t h0.length dn [] s.cur (some (.str (T [91]))) o6 o7) h = .rt .non h' ∧ preOf h0 h' := by
  have sl : sizeLine = 16777216 := sizeLine_eq
  unfold openM
  rw [lit_open, sIf_ap]
  simp only [mTst_ap, mOp_ap, mVar_ap, mC_ap, List.getElem?_cons_succ, List.getElem?_cons_zero, R.bind_ok, fEq_T, decide_true, asB_ap, R.thn_ok, if_true]
  obtain ⟨rows, cur⟩ := s
  cases cur with
  | some d => exact ⟨h, rfl, H.pre⟩
  | none =>
    have e : stO 60 ⟨rows, none⟩ = some ⟨[] :: rows, none⟩ := if_pos hB
    rw [e]
    have ln : (rs.reverse.map D.ref).length < sizeLine := by
      rw [List.length_map, List.length_reverse, H.rws.len]
      have hB' : rows.length < 60 := hB
      show rows.length < sizeLine
      omega
    have o1 : (h ++ [O.lst []])[h0.length]? = some (.lst (rs.reverse.map D.ref)) := (H.app _).o1
    have P := H.push
    rw [rev_last] at P
    refine ⟨_, h.length :: rs, ?_, P⟩
    simp only [sSeq_ap, seq_nx, seq_rt, seq_exc, seq_bad, sNext_ap, sRet_ap, sRetN_ap, sExpr_ap, sSet_ap, sIf_ap, sRaise_ap, sFor_ap, sAsg_ap, sPar_ap, par2_ap, sPar3_ap, par3_ap, mVar_ap, mC_ap, mOp_ap, mUn_ap, mTst_ap, asB_ap, mAnd_ap, mOr_ap, mNot_ap, mIf_ap, mAndV_ap, mOrV_ap, mNotV_ap, mChain_ap, mNil_ap, mCons_ap, mTup_ap, mLst_ap, mCB_ap, mCBL_ap, mNew_ap, allocL_ap, mNoPart_ap, mPart_ap, asI_ap, mSl_ap, mCall_ap, mMt_ap, mSrc_ap, mSrcA_ap, mSrcN_ap, capL_ap, mLcI_ap, mDisp_ap, mInTab_ap, mDispGet_ap, mMeth_ap, one1_ap, gtName_ap, gtS_name, R.bind_ok, R.bind_exc, R.bind_bad, R.thn_ok, R.thn_exc, R.thn_bad, List.getElem?_cons_zero, List.getElem?_cons_succ, List.set_cons_zero, List.set_cons_succ, if_true, Bool.not_true, Bool.not_false, Bool.false_eq_true, if_false, decide_true, decide_false, Option.isNone_none, ty_ok1 H.o1, nl0, app_ok o1 ln]
theorem comma_okL (H : LwH h0 h rs s.rows dn s.cur) (f : Fit 60 N s) (hN : N ≤ 900000) {o6 o7 : Option D} : match stM s with
    | some s' => ∃ h', openM (rL t h0.length dn [] s.cur (some (.str (T [44]))) o6 o7) h = .nx (rL t h0.length dn [] s'.cur (some (.str (T [44]))) o6 o7) h' ∧ LwH h0 h' rs s'.rows dn s'.cur
    | none => ∃ h', openM (rL t h0.length dn [] s.cur (some (.str (T [44]))) o6 o7) h = .rt .non h' ∧ preOf h0 h' := by
  have sl : sizeLine = 16777216 := sizeLine_eq
  unfold openM commaM
  have q1 : ¬ ([44] : List Nat) = [91] := by decide
  rw [lit_open, lit_comma, sIf_ap]
  simp only [mTst_ap, mOp_ap, mVar_ap, mC_ap, List.getElem?_cons_succ, List.getElem?_cons_zero, R.bind_ok, fEq_T, q1, decide_false, asB_ap, R.thn_ok, Bool.false_eq_true, if_false]
  rw [sIf_ap]
  simp only [mTst_ap, mOp_ap, mVar_ap, mC_ap, List.getElem?_cons_succ, List.getElem?_cons_zero, R.bind_ok, fEq_T, decide_true, asB_ap, R.thn_ok, if_true]
  have em : (h ++ [O.lst []])[h.length]? = some (.lst []) := by simp
  have re := rows_eq (H.app (.lst [])) f hN em
  obtain ⟨rows, cur⟩ := s
  cases cur with
  | none =>
    cases rows <;> exact ⟨h, rfl, H.pre⟩
  | some d =>
    have tst : mOr (mTst (mVar 4)) (mTst (mOp fEq (mVar 1) (mLst mNil))) (rL t h0.length dn [] (some d) (some (.str (T [44]))) o6 o7) h = .ok rows.isEmpty (h ++ [.lst []]) := by
      simp only [sSeq_ap, seq_nx, seq_rt, seq_exc, seq_bad, sNext_ap, sRet_ap, sRetN_ap, sExpr_ap, sSet_ap, sIf_ap, sRaise_ap, sFor_ap, sAsg_ap, sPar_ap, par2_ap, sPar3_ap, par3_ap, mVar_ap, mC_ap, mOp_ap, mUn_ap, mTst_ap, asB_ap, mAnd_ap, mOr_ap, mNot_ap, mIf_ap, mAndV_ap, mOrV_ap, mNotV_ap, mChain_ap, mNil_ap, mCons_ap, mTup_ap, mLst_ap, mCB_ap, mCBL_ap, mNew_ap, allocL_ap, mNoPart_ap, mPart_ap, asI_ap, mSl_ap, mCall_ap, mMt_ap, mSrc_ap, mSrcA_ap, mSrcN_ap, capL_ap, mLcI_ap, mDisp_ap, mInTab_ap, mDispGet_ap, mMeth_ap, one1_ap, gtName_ap, gtS_name, R.bind_ok, R.bind_exc, R.bind_bad, R.thn_ok, R.thn_exc, R.thn_bad, List.getElem?_cons_zero, List.getElem?_cons_succ, List.set_cons_zero, List.set_cons_succ, if_true, Bool.not_true, Bool.not_false, Bool.false_eq_true, if_false, decide_true, decide_false, Option.isNone_some, nl0, re]
    rw [sSeq_ap, sIf_ap, tst]
    cases rows with
    | nil => exact ⟨_, rfl, (H.app _).pre⟩
    | cons r rest =>
      cases rs with
      | nil => cases (show r :: rest = [] from H.rws)
      | cons x rs =>
        have H1 := H.app (.lst [])
        obtain ⟨row', rest', e1, e2, e3⟩ := id H1.rws
        obtain ⟨rfl, rfl⟩ := List.cons.inj e1
        have o1 := H1.o1
        rw [rev_last] at o1
        have ln : r.length < sizeLine := by
          have lz : ∀ l : List D, l.length ≤ szs l := fun l => by
            induction l with
            | nil => exact Nat.zero_le _
            | cons a l ih => unfold szs; rw [List.length_cons]; omega
          have := lz r
          have fs : szs r + rsz rest + szD d ≤ N := f.size
          omega
        refine ⟨_, ?_, (H1.row (r ++ [d])).ahead⟩
        simp only [sSeq_ap, seq_nx, seq_rt, seq_exc, seq_bad, sNext_ap, sRet_ap, sRetN_ap, sExpr_ap, sSet_ap, sIf_ap, sRaise_ap, sFor_ap, sAsg_ap, sPar_ap, par2_ap, sPar3_ap, par3_ap, mVar_ap, mC_ap, mOp_ap, mUn_ap, mTst_ap, asB_ap, mAnd_ap, mOr_ap, mNot_ap, mIf_ap, mAndV_ap, mOrV_ap, mNotV_ap, mChain_ap, mNil_ap, mCons_ap, mTup_ap, mLst_ap, mCB_ap, mCBL_ap, mNew_ap, allocL_ap, mNoPart_ap, mPart_ap, asI_ap, mSl_ap, mCall_ap, mMt_ap, mSrc_ap, mSrcA_ap, mSrcN_ap, capL_ap, mLcI_ap, mDisp_ap, mInTab_ap, mDispGet_ap, mMeth_ap, one1_ap, gtName_ap, gtS_name, R.bind_ok, R.bind_exc, R.bind_bad, R.thn_ok, R.thn_exc, R.thn_bad, List.getElem?_cons_zero, List.getElem?_cons_succ, List.set_cons_zero, List.set_cons_succ, if_true, Bool.not_true, Bool.not_false, Bool.false_eq_true, if_false, decide_true, decide_false, List.isEmpty_cons, fNeg_int, fIx_lastN o1, ty_ok1 e2, fIx_firstN (H1.dcur d rfl), app_ok e2 ln, Option.isNone_none]
        rfl
theorem fAdd_lst {a b : Nat} {xs ys : List D} (ea : h[a]? = some (.lst xs)) (eb : h[b]? = some (.lst ys)) (hl : xs.length + ys.length ≤ sizeLine) : fAdd (.ref a) (.ref b) h = .ok (.ref h.length) (h ++ [.lst (xs ++ ys)]) := by
  unfold fAdd
  dsimp only
  rw [ea, eb]
  dsimp only
  rw [if_pos hl, allocL_ap]
theorem overI_tup {a : Nat} {xs : List D} (ea : h[a]? = some (.lst xs)) : overI fTuple [.ref a] h = .ok (.tup xs) h := by
  have it : itemsD (.ref a) h = some xs := by
    show (match h[a]? with
      | some (.lst ds) => some ds
      | _ => none) = _
    rw [ea]
  unfold overI
  simp only [it]
  rfl
theorem szs_len : ∀ l : List D, l.length ≤ szs l
  | [] => Nat.zero_le _
  | a :: l => by
    have := szs_len l
    unfold szs
    rw [List.length_cons]
    omega
theorem pds_empty (l : List D) : (pds l).isEmpty = l.isEmpty := by cases l <;> rfl
theorem close_okL (H : LwH h0 h rs s.rows dn s.cur) (f : Fit 60 N s) (hN : N ≤ 900000) {o6 o7 : Option D} : match stC s with
    | some s' => ∃ h' rs' dn' o7', openM (rL t h0.length dn [] s.cur (some (.str (T [93]))) o6 o7) h = .nx (rL t h0.length dn' [] s'.cur (some (.str (T [93]))) o6 o7') h' ∧ LwH h0 h' rs' s'.rows dn' s'.cur
    | none => ∃ h', openM (rL t h0.length dn [] s.cur (some (.str (T [93]))) o6 o7) h = .rt .non h' ∧ preOf h0 h' := by
  have sl : sizeLine = 16777216 := sizeLine_eq
  unfold openM commaM closeM
  have q1 : ¬ ([93] : List Nat) = [91] := by decide
  have q2 : ¬ ([93] : List Nat) = [44] := by decide
  rw [lit_open, lit_comma, lit_close, sIf_ap]
  simp only [mTst_ap, mOp_ap, mVar_ap, mC_ap, List.getElem?_cons_succ, List.getElem?_cons_zero, R.bind_ok, fEq_T, q1, decide_false, asB_ap, R.thn_ok, Bool.false_eq_true, if_false]
  rw [sIf_ap]
  simp only [mTst_ap, mOp_ap, mVar_ap, mC_ap, List.getElem?_cons_succ, List.getElem?_cons_zero, R.bind_ok, fEq_T, q2, decide_false, asB_ap, R.thn_ok, Bool.false_eq_true, if_false]
  rw [sIf_ap]
  simp only [mTst_ap, mOp_ap, mVar_ap, mC_ap, List.getElem?_cons_succ, List.getElem?_cons_zero, R.bind_ok, fEq_T, decide_true, asB_ap, R.thn_ok, if_true]
  have em : (h ++ [O.lst []])[h.length]? = some (.lst []) := by simp
  have H1 := H.app (.lst [])
  have re := rows_eq H1 f hN em
  obtain ⟨rows, cur⟩ := s
  cases rows with
  | nil =>
    have tst : ∀ c : Option D, (⟨[], cur⟩ : St).cur = c → mOr (mTst (mOp fEq (mVar 1) (mLst mNil))) (mAnd (mTst (mVar 4)) (mTst (mOp fNe (mOp fIx (mVar 1) (mUn fNeg (mC (.int 1)))) (mLst mNil)))) (rL t h0.length dn [] cur (some (.str (T [93]))) o6 o7) h = .ok true (h ++ [.lst []]) := fun _ _ => by
      simp only [mOr_ap, mTst_ap, mOp_ap, mVar_ap, List.getElem?_cons_succ, List.getElem?_cons_zero, mLst_ap, mNil_ap, R.bind_ok, nl0, re, List.isEmpty_nil, asB_ap, if_true]
    rw [sSeq_ap, sIf_ap, tst _ rfl]
    cases cur <;> exact ⟨_, rfl, H1.pre⟩
  | cons r rest =>
    cases rs with
    | nil => cases (show r :: rest = [] from H.rws)
    | cons x rs =>
      obtain ⟨row', rest', e1, e2, e3⟩ := id H1.rws
      obtain ⟨rfl, rfl⟩ := List.cons.inj e1
      have o1 := H1.o1
      rw [rev_last] at o1
      have fr := f.good r List.mem_cons_self
      have szr : szs r ≤ N := by
        have fs : szs r + rsz rest + csz cur ≤ N := f.size
        omega
      have dpr : deps r ≤ 60 := by
        have h2 : deps r + (rest.length + 1 - 0) ≤ 60 := f.dep 0 r rfl
        omega
      have lnr := szs_len r
      cases cur with
      | some d =>
        have tst : mOr (mTst (mOp fEq (mVar 1) (mLst mNil))) (mAnd (mTst (mVar 4)) (mTst (mOp fNe (mOp fIx (mVar 1) (mUn fNeg (mC (.int 1)))) (mLst mNil)))) (rL t h0.length dn [] (some d) (some (.str (T [93]))) o6 o7) h = .ok false (h ++ [.lst []]) := by
          simp only [mOr_ap, mTst_ap, mOp_ap, mVar_ap, List.getElem?_cons_succ, List.getElem?_cons_zero, mLst_ap, mNil_ap, R.bind_ok, nl0, re, List.isEmpty_cons, asB_ap, Bool.false_eq_true, if_false, mAnd_ap, Option.isNone_some]
        rw [sSeq_ap, sIf_ap, tst]
        have H2 := H1.pop
        have e2' : ((h ++ [O.lst []]).set h0.length (.lst (rs.reverse.map D.ref)))[x]? = some (.lst r) := by
          rw [List.getElem?_set_ne (by have := (H1.ge x List.mem_cons_self).1; omega)]; exact e2
        have ed := H2.dcur d rfl
        refine ⟨_, rs, _, some (.ref x), ?_, ((H2.app (.lst [d])).app (.lst (r ++ [d]))).done (.tup (r ++ [d]))⟩
        have xl : x < ((h ++ [O.lst []]).set h0.length (.lst (rs.reverse.map D.ref))).length := (List.getElem?_eq_some_iff.mp e2').1
        have a1 : ((h ++ [O.lst []]).set h0.length (.lst (rs.reverse.map D.ref)) ++ [O.lst [d]])[x]? = some (.lst r) := by
          rw [List.getElem?_append_left xl]; exact e2'
        have a2 : ((h ++ [O.lst []]).set h0.length (.lst (rs.reverse.map D.ref)) ++ [O.lst [d]])[((h ++ [O.lst []]).set h0.length (.lst (rs.reverse.map D.ref))).length]? = some (.lst [d]) := by simp
        have a3 : ∀ g : List O, (g ++ [O.lst (r ++ [d])])[g.length]? = some (.lst (r ++ [d])) := fun g => by simp
        have hlen : r.length + [d].length ≤ sizeLine := by rw [List.length_singleton]; omega
        simp only [R.thn_ok, Bool.false_eq_true, if_false, sNext_ap, seq_nx, sSeq_ap, sSet_ap, mMt_ap, mVar_ap, List.getElem?_cons_succ, List.getElem?_cons_zero, R.bind_ok, ty_ok1 o1, if_true, mNil_ap, pop_ok o1, List.set_cons_succ, List.set_cons_zero, sPar_ap, mCons_ap, mLst_ap, mCB_ap, mOp_ap, mIf_ap, mTst_ap, Option.isNone_some, asB_ap, mC_ap, fIx_firstN ed, nl1, fAdd_lst a1 a2 hlen, overI_tup (a3 _), par2_ap]
        rfl
      | none =>
        have em2 : (h ++ [O.lst []] ++ [O.lst []])[(h ++ [O.lst []]).length]? = some (.lst []) := by simp
        have H1b := H1.app (.lst [])
        obtain ⟨row', rest', e1b, e2b, e3b⟩ := id H1b.rws
        obtain ⟨rfl, rfl⟩ := List.cons.inj e1b
        have ne := ne_nil e2b em2 (toPys_good _ 999999 r fr (by omega)) (lays_good r fr) (by rw [dep_pds]; omega)
        rw [pds_empty] at ne
        have tst : mOr (mTst (mOp fEq (mVar 1) (mLst mNil))) (mAnd (mTst (mVar 4)) (mTst (mOp fNe (mOp fIx (mVar 1) (mUn fNeg (mC (.int 1)))) (mLst mNil)))) (rL t h0.length dn [] none (some (.str (T [93]))) o6 o7) h = .ok (!r.isEmpty) (h ++ [.lst []] ++ [.lst []]) := by
          simp only [mOr_ap, mTst_ap, mOp_ap, mVar_ap, List.getElem?_cons_succ, List.getElem?_cons_zero, mLst_ap, mNil_ap, R.bind_ok, nl0, re, List.isEmpty_cons, asB_ap, Bool.false_eq_true, if_false, mAnd_ap, Option.isNone_none, if_true, mUn_ap, mC_ap, fNeg_int, fIx_lastN o1, ne]
        rw [sSeq_ap, sIf_ap, tst]
        by_cases z : r = []
        · have es : stC ⟨r :: rest, none⟩ = some ⟨rest, some (.tup [])⟩ := if_pos z
          rw [es]
          subst z
          have o1b := H1b.o1
          rw [rev_last] at o1b
          have H2 := H1b.pop
          have e2' : ((h ++ [O.lst []] ++ [O.lst []]).set h0.length (.lst (rs.reverse.map D.ref)))[x]? = some (.lst []) := by
            rw [List.getElem?_set_ne (by have := (H1b.ge x List.mem_cons_self).1; omega)]; exact e2b
          have xl : x < ((h ++ [O.lst []] ++ [O.lst []]).set h0.length (.lst (rs.reverse.map D.ref))).length := (List.getElem?_eq_some_iff.mp e2').1
          have a1 : ((h ++ [O.lst []] ++ [O.lst []]).set h0.length (.lst (rs.reverse.map D.ref)) ++ [O.lst []])[x]? = some (.lst []) := by
            rw [List.getElem?_append_left xl]; exact e2'
          have a2 : ((h ++ [O.lst []] ++ [O.lst []]).set h0.length (.lst (rs.reverse.map D.ref)) ++ [O.lst []])[((h ++ [O.lst []] ++ [O.lst []]).set h0.length (.lst (rs.reverse.map D.ref))).length]? = some (.lst []) := by simp
          have a3 : ∀ g : List O, (g ++ [O.lst []])[g.length]? = some (.lst []) := fun g => by simp
          have hlen : ([] : List D).length + ([] : List D).length ≤ sizeLine := Nat.zero_le _
          refine ⟨_, rs, _, some (.ref x), ?_, ((H2.app (.lst [])).app (.lst [])).done (.tup [])⟩
          have fad := fAdd_lst a1 a2 hlen
          rw [List.append_nil] at fad
          simp only [List.isEmpty_nil, R.thn_ok, Bool.not_true, Bool.false_eq_true, if_false, sNext_ap, seq_nx, sSeq_ap, sSet_ap, mMt_ap, mVar_ap, List.getElem?_cons_succ, List.getElem?_cons_zero, R.bind_ok, ty_ok1 o1b, if_true, mNil_ap, pop_ok o1b, List.set_cons_succ, List.set_cons_zero, sPar_ap, mCons_ap, mLst_ap, mCB_ap, mOp_ap, mIf_ap, mTst_ap, Option.isNone_none, Option.isNone_some, asB_ap, mC_ap, nl0, nl1, fad, overI_tup (a3 _), par2_ap]
          rfl
        · have es : stC ⟨r :: rest, none⟩ = none := if_neg z
          rw [es]
          have zi : r.isEmpty = false := by
            cases r with
            | nil => exact absurd rfl z
            | cons a b => rfl
          rw [zi]
          exact ⟨_, rfl, H1b.pre⟩
theorem end_okL {o6 o7 : Option D} (H : LwH h0 h rs s.rows dn s.cur) : openM (rL t h0.length dn [] s.cur (some (.str (T [59]))) o6 o7) h = .nx (rL t h0.length dn [] s.cur (some (.str (T [59]))) o6 o7) h := by
  unfold openM commaM closeM
  have q1 : ¬ ([59] : List Nat) = [91] := by decide
  have q2 : ¬ ([59] : List Nat) = [44] := by decide
  have q3 : ¬ ([59] : List Nat) = [93] := by decide
  rw [lit_open, lit_comma, lit_close]
  simp only [sIf_ap, mTst_ap, mOp_ap, mVar_ap, mC_ap, List.getElem?_cons_succ, List.getElem?_cons_zero, R.bind_ok, fEq_T, q1, q2, q3, decide_false, asB_ap, R.thn_ok, Bool.false_eq_true, if_false, sNext_ap]
end
end K53
set_option Elab.async false
set_option linter.all false
set_option maxRecDepth 100000
set_option maxHeartbeats 1000000
namespace K53
open PySem PySem.Spec PyProof.Rows L2 SL PySem.NumText
/-- no token is longer than m, j signs of one being read -/
def tokOK (m : Nat) : Nat → List Nat → Bool
  | _, [] => true
  | j, c :: r => if isS c = true then tokOK m 0 r else decide (j + 1 ≤ m) && tokOK m (j + 1) r
/-- never more than m brackets are open, k being open -/
def dOK (m : Nat) : Nat → List Nat → Bool
  | _, [] => true
  | k, c :: r => if c = 91 then decide (k + 1 ≤ m) && dOK m (k + 1) r else if c = 93 then dOK m (k - 1) r else dOK m k r
theorem Fit.mono {B N M : Nat} {s : St} (f : Fit B N s) (h : N ≤ M) : Fit B M s := { f with size := Nat.le_trans f.size h }
theorem isS_cases {c : Nat} (h : isS c = true) : c = 91 ∨ c = 93 ∨ c = 44 := by
  unfold isS at h
  simpa using h
theorem step_tok {tok : List Nat} (h : ∀ c ∈ tok, isS c = false) (m : Nat) (s : St) : stepP m tok s = stA tok s := by
  have n : ∀ x, isS x = true → tok ≠ [x] := fun x hx e => by
    have := h x (by rw [e]; exact List.mem_cons_self)
    rw [hx] at this
    cases this
  unfold stepP
  rw [if_neg (n 91 rfl), if_neg (n 93 rfl), if_neg (n 44 rfl)]
theorem steps_tok {tok : List Nat} (h : ∀ c ∈ tok, isS c = false) (m : Nat) (ps : List (List Nat)) (s : St) : stepsP m (optT tok ++ ps) s = (if tok = [] then some s else stA tok s).bind (stepsP m ps) := by
  unfold optT
  by_cases z : tok = []
  · rw [if_pos z, if_pos z]; rfl
  · rw [if_neg z, if_neg z]
    show (stepP m tok s).bind (stepsP m ps) = _
    rw [step_tok h]
theorem fIn_L (c : Nat) (h : List O) : fIn (.str ⟨#[c]⟩) (.str "[],;") h = .ok (.bl (isS c || decide (c = 59))) h := by
  have e : ("[],;" : Str).cps.toList = [91, 93, 44, 59] := by decide +kernel
  rw [fIn_sign, e]
  congr 2
  unfold isS
  rw [Bool.eq_iff_iff]
  simp [or_assoc]
theorem tok_fit {tok : List Nat} {s s' : St} {N : Nat} (f : Fit 60 N s) (e : (if tok = [] then some s else stA tok s) = some s') : Fit 60 (N + 2) s' ∧ s'.rows = s.rows := by
  split at e
  · cases e
    exact ⟨f.mono (by omega), rfl⟩
  · refine ⟨f.atom e, ?_⟩
    obtain ⟨rows, cur⟩ := s
    unfold stA at e
    cases cur with
    | some d => cases e
    | none =>
      dsimp only at e
      cases q : atomR tok with
      | none => rw [q] at e; cases e
      | some d => rw [q] at e; cases e; rfl
section
variable {t : Str} {h0 : List O}
def contL (g : Nat) (b : MS) (ds : List D) (x : RS) : RS := match x with
    | .nx ρ2 h2 => forL (gtName g) b (fun _ => true) ds ρ2 h2
    | .ct ρ2 h2 => forL (gtName g) b (fun _ => true) ds ρ2 h2
    | .bk ρ2 h2 => .nx ρ2 h2
    | .rt d h2 => .rt d h2
    | .exc c ρ2 h2 => .exc c ρ2 h2
    | .bad => .bad
theorem forL_body {g : Nat} {b : MS} {d : D} {ds : List D} {ρ : Sl} {h : List O} {x : RS} (e : b (ρ.set g (some d)) h = x) : forL (gtName g) b (fun _ => true) (d :: ds) ρ h = contL g b ds x := by
  subst e
  rfl
/-- a sign of the structure: the token ahead of it, then the sign -/
theorem body_S {c : Nat} (hc : (isS c || decide (c = 59)) = true) {tok : List Nat} {s : St} {h : List O} {rs : List Nat} {dn N : Nat} {o5 o6 o7 : Option D} (hk : ∀ x ∈ tok, isS x = false) (hl : tok.length ≤ 4000) (H : LwH h0 h rs s.rows dn s.cur) (f : Fit 60 N s) (hN : N + 4 ≤ 900000)
    (hB : c = 91 → s.rows.length < 60) : match ((if tok = [] then some s else stA tok s).bind fun s1 => if c = 59 then some s1 else stepP 60 [c] s1) with
    | some s' => ∃ h' rs' dn' o6' o7', bodyL (rL t h0.length dn tok s.cur (some (.str ⟨#[c]⟩)) o6 o7) h = .nx (rL t h0.length dn' [] s'.cur (some (.str ⟨#[c]⟩)) o6' o7') h' ∧ LwH h0 h' rs' s'.rows dn' s'.cur ∧ Fit 60 (N + 4) s'
    | none => ∃ h', bodyL (rL t h0.length dn tok s.cur (some (.str ⟨#[c]⟩)) o6 o7) h = .rt .non h' ∧ preOf h0 h' := by
  have b0 : bodyL (rL t h0.length dn tok s.cur (some (.str ⟨#[c]⟩)) o6 o7) h = (flushM (rL t h0.length dn tok s.cur (some (.str ⟨#[c]⟩)) o6 o7) h).seq openM := by
    unfold bodyL
    simp only [sIf_ap, mTst_ap, mOp_ap, mVar_ap, mC_ap, List.getElem?_cons_succ, List.getElem?_cons_zero, R.bind_ok, fIn_L, hc, asB_ap, R.thn_ok, if_true, sSeq_ap]
  have fl := flush_ok (t := t) (o5 := some (.str ⟨#[c]⟩)) (o6 := o6) (o7 := o7) H hl
  rw [b0]
  revert fl
  cases q : (if tok = [] then some s else stA tok s) with
  | none =>
    rintro ⟨h', e1, e2⟩
    rw [e1]
    exact ⟨h', rfl, e2⟩
  | some s1 =>
    rintro ⟨h1, dn1, o61, e1, H1⟩
    obtain ⟨f1, er⟩ := tok_fit f q
    rw [e1, seq_nx]
    have H1' : LwH h0 h1 rs s1.rows dn1 s1.cur := H1
    show match (if c = 59 then some s1 else stepP 60 [c] s1) with
      | some s' => _
      | none => _
    by_cases c59 : c = 59
    · subst c59
      rw [if_pos rfl]
      exact ⟨h1, rs, dn1, o61, o7, end_okL H1', H1', f1.mono (by omega)⟩
    · rw [if_neg c59]
      have hs : isS c = true := by
        rw [decide_eq_false c59, Bool.or_false] at hc
        exact hc
      rcases isS_cases hs with e | e | e
      · subst e
        have es : stepP 60 [91] s1 = stO 60 s1 := rfl
        rw [es]
        have hb : s1.rows.length < 60 := by rw [er]; exact hB rfl
        have op := open_okL (t := t) H1' hb (o6 := o61) (o7 := o7)
        revert op
        cases q2 : stO 60 s1 with
        | none => exact id
        | some s' =>
          rintro ⟨h', rs', w1, w2⟩
          exact ⟨h', rs', dn1, o61, o7, w1, w2, (f1.open_ q2 hb).mono (by omega)⟩
      · subst e
        have es : stepP 60 [93] s1 = stC s1 := rfl
        rw [es]
        have cl := close_okL (t := t) H1' f1 (by omega) (o6 := o61) (o7 := o7)
        revert cl
        cases q2 : stC s1 with
        | none => exact id
        | some s' =>
          rintro ⟨h', rs', dn', o7', w1, w2⟩
          exact ⟨h', rs', dn', o61, o7', w1, w2, (f1.close q2).mono (by omega)⟩
      · subst e
        have es : stepP 60 [44] s1 = stM s1 := rfl
        rw [es]
        have cm := comma_okL (t := t) H1' f1 (by omega) (o6 := o61) (o7 := o7)
        revert cm
        cases q2 : stM s1 with
        | none => exact id
        | some s' =>
          rintro ⟨h', w1, w2⟩
          exact ⟨h', rs, dn1, o61, o7, w1, w2, (f1.comma q2).mono (by omega)⟩
theorem stepP_rows {c : Nat} (hs : isS c = true) {s s' : St} (e : stepP 60 [c] s = some s') : s'.rows.length = (if c = 91 then s.rows.length + 1 else if c = 93 then s.rows.length - 1 else s.rows.length) := by
  obtain ⟨rows, cur⟩ := s
  rcases isS_cases hs with q | q | q
  · subst q
    have es : stO 60 ⟨rows, cur⟩ = some s' := e
    unfold stO at es
    cases cur with
    | some d => cases es
    | none =>
      dsimp only at es
      split at es
      · cases es; rfl
      · cases es
  · subst q
    have es : stC ⟨rows, cur⟩ = some s' := e
    cases rows with
    | nil => cases cur <;> cases es
    | cons r rest =>
      cases cur with
      | some d => cases es; rfl
      | none =>
        have e2 : (if r = [] then some (⟨rest, some (.tup [])⟩ : St) else none) = some s' := es
        split at e2
        · cases e2; rfl
        · cases e2
  · subst q
    have es : stM ⟨rows, cur⟩ = some s' := e
    cases rows with
    | nil => cases cur <;> cases es
    | cons r rest =>
      cases cur with
      | none => cases es
      | some d => cases es; rfl
theorem lloop : ∀ (r tok : List Nat) (s : St) (h : List O) (rs : List Nat) (dn N : Nat) (o5 o6 o7 : Option D), (∀ c ∈ r, c ≠ 59) → (∀ c ∈ tok, isS c = false) → tok.length ≤ 4000 → tokOK 4000 tok.length r = true → dOK 60 s.rows.length r = true → LwH h0 h rs s.rows dn s.cur → Fit 60 N s → N + 4 * (r.length + 1) ≤ 900000 →
    match stepsP 60 (pieces r tok) s with
    | some s' => ∃ h' rs' dn' o5' o6' o7', forL (gtName 5) bodyL (fun _ => true) ((r ++ [59]).map fun c => D.str ⟨#[c]⟩) (rL t h0.length dn tok s.cur o5 o6 o7) h = .nx (rL t h0.length dn' [] s'.cur o5' o6' o7') h' ∧ LwH h0 h' rs' s'.rows dn' s'.cur ∧ Fit 60 900000 s'
    | none => ∃ h', forL (gtName 5) bodyL (fun _ => true) ((r ++ [59]).map fun c => D.str ⟨#[c]⟩) (rL t h0.length dn tok s.cur o5 o6 o7) h = .rt .non h' ∧ preOf h0 h'
  | [], tok, s, h, rs, dn, N, o5, o6, o7, _, hk, hl, _, _, H, f, hN => by
    have hN' : N + 4 ≤ 900000 := by rw [List.length_nil] at hN; omega
    have b := body_S (t := t) (c := 59) (by rfl) hk hl H f hN' (fun z => absurd z (by decide)) (o5 := o5) (o6 := o6) (o7 := o7)
    have ep : stepsP 60 (pieces [] tok) s = (if tok = [] then some s else stA tok s).bind fun s1 => if (59 : Nat) = 59 then some s1 else stepP 60 [59] s1 := by
      have e := steps_tok hk 60 [] s
      rw [List.append_nil] at e
      have e2 : pieces [] tok = optT tok := rfl
      rw [e2, e]
      cases (if tok = [] then some s else stA tok s) <;> rfl
    rw [ep]
    revert b
    cases ((if tok = [] then some s else stA tok s).bind fun s1 => if (59 : Nat) = 59 then some s1 else stepP 60 [59] s1) with
    | none =>
      rintro ⟨h', e1, e2⟩
      exact ⟨h', by
        show forL (gtName 5) bodyL (fun _ => true) [D.str ⟨#[59]⟩] _ _ = _
        exact forL_body (x := .rt .non h') e1, e2⟩
    | some s' =>
      rintro ⟨h', rs', dn', o6', o7', e1, e2, e3⟩
      refine ⟨h', rs', dn', some (.str ⟨#[59]⟩), o6', o7', ?_, e2, e3.mono (by omega)⟩
      show forL (gtName 5) bodyL (fun _ => true) [D.str ⟨#[59]⟩] _ _ = _
      exact forL_body (x := .nx (rL t h0.length dn' [] s'.cur (some (.str ⟨#[59]⟩)) o6' o7') h') e1
  | c :: r, tok, s, h, rs, dn, N, o5, o6, o7, hr, hk, hl, ht, hd, H, f, hN => by
    rw [List.length_cons] at hN
    have c59 : c ≠ 59 := hr c List.mem_cons_self
    have sl : sizeLine = 16777216 := sizeLine_eq
    cases hs : isS c with
    | false =>
      have ht2 : decide (tok.length + 1 ≤ 4000) = true ∧ tokOK 4000 (tok.length + 1) r = true := by
        unfold tokOK at ht
        rw [hs, if_neg (by decide), Bool.and_eq_true] at ht
        exact ht
      have hd2 : dOK 60 s.rows.length r = true := by
        unfold dOK at hd
        have n1 : c ≠ 91 := fun z => by rw [z] at hs; cases hs
        have n2 : c ≠ 93 := fun z => by rw [z] at hs; cases hs
        rw [if_neg n1, if_neg n2] at hd
        exact hd
      have l1 := of_decide_eq_true ht2.1
      have b : bodyL (rL t h0.length dn tok s.cur (some (.str ⟨#[c]⟩)) o6 o7) h = .nx (rL t h0.length dn (tok ++ [c]) s.cur (some (.str ⟨#[c]⟩)) o6 o7) h := by
        have ad : fAdd (.str (T tok)) (.str ⟨#[c]⟩) h = .ok (.str (T (tok ++ [c]))) h := by
          show (if (T tok).length + (T [c]).length ≤ sizeLine then R.ok (D.str (T tok ++ T [c])) h else .bad) = _
          rw [if_pos (by rw [T_len, T_len, List.length_singleton]; omega), T_app]
        unfold bodyL
        simp only [sSeq_ap, seq_nx, seq_rt, seq_exc, seq_bad, sNext_ap, sRet_ap, sRetN_ap, sExpr_ap, sSet_ap, sIf_ap, sRaise_ap, sFor_ap, sAsg_ap, sPar_ap, par2_ap, sPar3_ap, par3_ap, mVar_ap, mC_ap, mOp_ap, mUn_ap, mTst_ap, asB_ap, mAnd_ap, mOr_ap, mNot_ap, mIf_ap, mAndV_ap, mOrV_ap, mNotV_ap, mChain_ap, mNil_ap, mCons_ap, mTup_ap, mLst_ap, mCB_ap, mCBL_ap, mNew_ap, allocL_ap, mNoPart_ap, mPart_ap, asI_ap, mSl_ap, mCall_ap, mMt_ap, mSrc_ap, mSrcA_ap, mSrcN_ap, capL_ap, mLcI_ap, mDisp_ap, mInTab_ap, mDispGet_ap, mMeth_ap, one1_ap, gtName_ap, gtS_name, R.bind_ok, R.bind_exc, R.bind_bad, R.thn_ok, R.thn_exc, R.thn_bad, List.getElem?_cons_zero, List.getElem?_cons_succ, List.set_cons_zero, List.set_cons_succ, if_true, Bool.not_true, Bool.not_false, Bool.false_eq_true, if_false, decide_true, decide_false, fIn_L, hs, c59, Bool.or_self, ad]
      have ih := lloop r (tok ++ [c]) s h rs dn N (some (.str ⟨#[c]⟩)) o6 o7 (fun x hx => hr x (List.mem_cons_of_mem _ hx)) (fun x hx => by
        rcases List.mem_append.mp hx with q | q
        · exact hk x q
        · have : x = c := by simpa using q
          rw [this]; exact hs) (by rw [List.length_append, List.length_singleton]; exact l1) (by rw [List.length_append, List.length_singleton]; exact ht2.2) hd2 H f (by omega)
      have ep : pieces (c :: r) tok = pieces r (tok ++ [c]) := by
        conv => lhs; unfold pieces
        rw [hs]
        rfl
      have ef : forL (gtName 5) bodyL (fun _ => true) (((c :: r) ++ [59]).map fun c => D.str ⟨#[c]⟩) (rL t h0.length dn tok s.cur o5 o6 o7) h = forL (gtName 5) bodyL (fun _ => true) ((r ++ [59]).map fun c => D.str ⟨#[c]⟩) (rL t h0.length dn (tok ++ [c]) s.cur (some (.str ⟨#[c]⟩)) o6 o7) h := forL_body (d := .str ⟨#[c]⟩) (ds := (r ++ [59]).map fun c => D.str ⟨#[c]⟩) (x := .nx (rL t h0.length dn (tok ++ [c]) s.cur (some (.str ⟨#[c]⟩)) o6 o7) h) b
      rw [ep, ef]
      exact ih
    | true =>
      have ht2 : tokOK 4000 0 r = true := by
        unfold tokOK at ht
        rw [hs, if_pos rfl] at ht
        exact ht
      have hB : c = 91 → s.rows.length < 60 := fun z => by
        unfold dOK at hd
        rw [if_pos z, Bool.and_eq_true, decide_eq_true_eq] at hd
        omega
      have b := body_S (t := t) (c := c) (by rw [hs]; rfl) hk hl H f (by omega) hB (o5 := o5) (o6 := o6) (o7 := o7)
      have ep : stepsP 60 (pieces (c :: r) tok) s = ((if tok = [] then some s else stA tok s).bind fun s1 => if c = 59 then some s1 else stepP 60 [c] s1).bind (stepsP 60 (pieces r [])) := by
        have e : pieces (c :: r) tok = optT tok ++ [c] :: pieces r [] := by
          conv => lhs; unfold pieces
          rw [hs]
          rfl
        rw [e, steps_tok hk]
        cases (if tok = [] then some s else stA tok s) with
        | none => rfl
        | some s1 =>
          show (stepP 60 [c] s1).bind (stepsP 60 (pieces r [])) = (if c = 59 then some s1 else stepP 60 [c] s1).bind (stepsP 60 (pieces r []))
          rw [if_neg c59]
      rw [ep]
      have dnext : ∀ s', ((if tok = [] then some s else stA tok s).bind fun s1 => if c = 59 then some s1 else stepP 60 [c] s1) = some s' → dOK 60 s'.rows.length r = true := by
        intro s' e
        cases q : (if tok = [] then some s else stA tok s) with
        | none => rw [q] at e; cases e
        | some s1 =>
          rw [q] at e
          have e2 : (if c = 59 then some s1 else stepP 60 [c] s1) = some s' := e
          rw [if_neg c59] at e2
          have er := (tok_fit f q).2
          rw [stepP_rows hs e2, er]
          unfold dOK at hd
          split at hd
          · rename_i z
            rw [Bool.and_eq_true] at hd
            rw [if_pos z]
            exact hd.2
          · rename_i z
            rw [if_neg z]
            split at hd
            · rename_i z2
              rw [if_pos z2]
              exact hd
            · rename_i z2
              rw [if_neg z2]
              exact hd
      revert b dnext
      cases ((if tok = [] then some s else stA tok s).bind fun s1 => if c = 59 then some s1 else stepP 60 [c] s1) with
      | none =>
        rintro ⟨h', e1, e2⟩ _
        exact ⟨h', forL_body (x := .rt .non h') e1, e2⟩
      | some s' =>
        rintro ⟨h', rs', dn', o6', o7', e1, e2, e3⟩ dnext
        have ih := lloop r [] s' h' rs' dn' (N + 4) (some (.str ⟨#[c]⟩)) o6' o7' (fun x hx => hr x (List.mem_cons_of_mem _ hx)) (fun x hx => nomatch hx) (Nat.zero_le _) ht2 (dnext s' rfl) e2 e3 (by omega)
        have ef : forL (gtName 5) bodyL (fun _ => true) (((c :: r) ++ [59]).map fun c => D.str ⟨#[c]⟩) (rL t h0.length dn tok s.cur o5 o6 o7) h = forL (gtName 5) bodyL (fun _ => true) ((r ++ [59]).map fun c => D.str ⟨#[c]⟩) (rL t h0.length dn' [] s'.cur (some (.str ⟨#[c]⟩)) o6' o7') h' := forL_body (x := .nx _ h') e1
        rw [ef]
        exact ih
theorem law_read_T (t : List Nat) (h : List O) (ht : t.length ≤ 200000) (h59 : ∀ c ∈ t, c ≠ 59) (hk : tokOK 4000 0 t = true) (hd : dOK 60 0 t = true) : match readR 60 t with
    | some d => ∃ h' m, F__law_read [.str (T t)] h = .ok (.ref m) h' ∧ h'[m]? = some (.lst [d]) ∧ preOf h h' ∧ h.length < m ∧ m < h'.length ∧ goodD d = true ∧ szD d ≤ 900000 ∧ depD d ≤ 60
    | none => ∃ h', F__law_read [.str (T t)] h = .ok .non h' ∧ preOf h h' := by
  have sl : sizeLine = 16777216 := sizeLine_eq
  have l59 : (";" : Str) = T [59] := by decide +kernel
  have st : sAsg (mTup (mCons (mLst mNil) (mCons (mLst mNil) (mCons (mC (.str "")) (mCons (mC (.bl true)) mNil))))) (gtTup (gtLen 4 (gtCons (gtName 1) (gtCons (gtName 2) (gtCons (gtName 3) (gtCons (gtName 4) gtNil)))))) [some (.str (T t)), none, none, none, none, none, none, none] h = .nx (rL (T t) h.length (h.length + 1) [] none none none none) (h ++ [.lst []] ++ [.lst []]) := by
    rw [lit_nil]
    have t4 : ∀ (a b c d : D) h, newTup [a, b, c, d] h = .ok (.tup [a, b, c, d]) h := fun _ _ _ _ _ => rfl
    simp only [sSeq_ap, seq_nx, seq_rt, seq_exc, seq_bad, sNext_ap, sRet_ap, sRetN_ap, sExpr_ap, sSet_ap, sIf_ap, sRaise_ap, sFor_ap, sAsg_ap, sPar_ap, par2_ap, sPar3_ap, par3_ap, mVar_ap, mC_ap, mOp_ap, mUn_ap, mTst_ap, asB_ap, mAnd_ap, mOr_ap, mNot_ap, mIf_ap, mAndV_ap, mOrV_ap, mNotV_ap, mChain_ap, mNil_ap, mCons_ap, mTup_ap, mLst_ap, mCB_ap, mCBL_ap, mNew_ap, allocL_ap, mNoPart_ap, mPart_ap, asI_ap, mSl_ap, mCall_ap, mMt_ap, mSrc_ap, mSrcA_ap, mSrcN_ap, capL_ap, mLcI_ap, mDisp_ap, mInTab_ap, mDispGet_ap, mMeth_ap, one1_ap, gtName_ap, gtS_name, R.bind_ok, R.bind_exc, R.bind_bad, R.thn_ok, R.thn_exc, R.thn_bad, List.getElem?_cons_zero, List.getElem?_cons_succ, List.set_cons_zero, List.set_cons_succ, if_true, Bool.not_true, Bool.not_false, Bool.false_eq_true, if_false, decide_true, decide_false, nl0, t4, List.length_append, List.length_singleton]
    rfl
  have H0 : LwH h (h ++ [.lst []] ++ [.lst []]) [] [] (h.length + 1) none :=
    { pre := fun i hi => by rw [List.append_assoc, List.getElem?_append_left hi]
      o1 := by simp
      rws := rfl
      nd := List.nodup_nil
      ge := fun r hr => (nomatch hr)
      big := by simp only [List.length_append, List.length_singleton]; omega
      dni := fun z => (nomatch z)
      dne := by simp only [List.length_append, List.length_singleton]; omega
      dcur := fun d hd => (nomatch hd) }
  have F0 : Fit 60 0 ⟨[], none⟩ := ⟨fun r hr => (nomatch hr), fun d hd => (nomatch hd), Nat.le_refl _, Nat.zero_le _, fun i r hi => (by simp at hi), fun d hd => (nomatch hd)⟩
  have ll := lloop (t := T t) (h0 := h) t [] ⟨[], none⟩ _ [] (h.length + 1) 0 none none none h59 (fun x hx => (nomatch hx)) (Nat.zero_le _) hk hd H0 F0 (by omega)
  have src : mSrc srcStr (mOp fAdd (mVar 0) (mC (.str ";"))) (rL (T t) h.length (h.length + 1) [] none none none none) (h ++ [.lst []] ++ [.lst []]) = .ok ((t ++ [59]).map fun c => D.str ⟨#[c]⟩, fun _ => true) (h ++ [.lst []] ++ [.lst []]) := by
    have ad : ∀ h, fAdd (.str (T t)) (.str (T [59])) h = .ok (.str (T (t ++ [59]))) h := fun h => by
      show (if (T t).length + (T [59]).length ≤ sizeLine then R.ok (D.str (T t ++ T [59])) h else .bad) = _
      rw [if_pos (by rw [T_len, T_len, List.length_singleton]; omega), T_app]
    rw [l59]
    simp only [sSeq_ap, seq_nx, seq_rt, seq_exc, seq_bad, sNext_ap, sRet_ap, sRetN_ap, sExpr_ap, sSet_ap, sIf_ap, sRaise_ap, sFor_ap, sAsg_ap, sPar_ap, par2_ap, sPar3_ap, par3_ap, mVar_ap, mC_ap, mOp_ap, mUn_ap, mTst_ap, asB_ap, mAnd_ap, mOr_ap, mNot_ap, mIf_ap, mAndV_ap, mOrV_ap, mNotV_ap, mChain_ap, mNil_ap, mCons_ap, mTup_ap, mLst_ap, mCB_ap, mCBL_ap, mNew_ap, allocL_ap, mNoPart_ap, mPart_ap, asI_ap, mSl_ap, mCall_ap, mMt_ap, mSrc_ap, mSrcA_ap, mSrcN_ap, capL_ap, mLcI_ap, mDisp_ap, mInTab_ap, mDispGet_ap, mMeth_ap, one1_ap, gtName_ap, gtS_name, R.bind_ok, R.bind_exc, R.bind_bad, R.thn_ok, R.thn_exc, R.thn_bad, List.getElem?_cons_zero, List.getElem?_cons_succ, List.set_cons_zero, List.set_cons_succ, if_true, Bool.not_true, Bool.not_false, Bool.false_eq_true, if_false, decide_true, decide_false, ad, signs_src]
  unfold F__law_read runDef
  rw [m_law_read_eq, show startD 8 [D.str (T t)] = [some (.str (T t)), none, none, none, none, none, none, none] from rfl, sSeq_ap, st, seq_nx, sSeq_ap, sFor_ap, src, R.thn_ok]
  dsimp only
  unfold readR
  revert ll
  cases q : stepsP 60 (pieces t []) ⟨[], none⟩ with
  | none =>
    rintro ⟨h', e1, e2⟩
    rw [e1]
    exact ⟨h', rfl, e2⟩
  | some s =>
    rintro ⟨h', rs', dn', o5', o6', o7', e1, H, f⟩
    rw [e1, seq_nx]
    have H1 := H.app (.lst [])
    have em : (h' ++ [O.lst []])[h'.length]? = some (.lst []) := by simp
    have re := rows_eq H1 f (Nat.le_refl _) em
    have n59 : fNotIn (.str (T [59])) (.str (T t)) (h' ++ [.lst []]) = .ok (.bl true) (h' ++ [.lst []]) := by
      show fNotIn (.str ⟨#[59]⟩) (.str (T t)) _ = _
      rw [fNotIn_sign, T_cps, decide_eq_false (fun z => h59 59 z rfl)]
      rfl
    unfold endL
    rw [l59]
    obtain ⟨rows, cur⟩ := s
    cases rows with
    | cons r rest =>
      have : ∀ ρ, ρ = rL (T t) h.length dn' [] cur o5' o6' o7' → mIf (mAnd (mTst (mOp fEq (mVar 1) (mLst mNil))) (mAnd (mNot (mTst (mVar 4))) (mTst (mOp fNotIn (mC (.str (T [59]))) (mVar 0))))) (mVar 2) (mC .non) ρ h' = .ok .non (h' ++ [.lst []]) := by
        rintro ρ rfl
        simp only [mIf_ap, mAnd_ap, mTst_ap, mOp_ap, mVar_ap, List.getElem?_cons_succ, List.getElem?_cons_zero, mLst_ap, mNil_ap, R.bind_ok, nl0, re, List.isEmpty_cons, asB_ap, Bool.false_eq_true, if_false, mC_ap]
      rw [sRet_ap, this _ rfl]
      cases cur <;> exact ⟨_, rfl, H1.pre⟩
    | nil =>
      cases cur with
      | none =>
        have : mIf (mAnd (mTst (mOp fEq (mVar 1) (mLst mNil))) (mAnd (mNot (mTst (mVar 4))) (mTst (mOp fNotIn (mC (.str (T [59]))) (mVar 0))))) (mVar 2) (mC .non) (rL (T t) h.length dn' [] none o5' o6' o7') h' = .ok .non (h' ++ [.lst []]) := by
          simp only [mIf_ap, mAnd_ap, mTst_ap, mOp_ap, mVar_ap, List.getElem?_cons_succ, List.getElem?_cons_zero, mLst_ap, mNil_ap, R.bind_ok, nl0, re, List.isEmpty_nil, asB_ap, if_true, mNot_ap, Option.isNone_none, Bool.not_true, Bool.false_eq_true, if_false, mC_ap]
        rw [sRet_ap, this]
        exact ⟨_, rfl, H1.pre⟩
      | some d =>
        have : mIf (mAnd (mTst (mOp fEq (mVar 1) (mLst mNil))) (mAnd (mNot (mTst (mVar 4))) (mTst (mOp fNotIn (mC (.str (T [59]))) (mVar 0))))) (mVar 2) (mC .non) (rL (T t) h.length dn' [] (some d) o5' o6' o7') h' = .ok (.ref dn') (h' ++ [.lst []]) := by
          simp only [mIf_ap, mAnd_ap, mTst_ap, mOp_ap, mVar_ap, List.getElem?_cons_succ, List.getElem?_cons_zero, mLst_ap, mNil_ap, R.bind_ok, nl0, re, List.isEmpty_nil, asB_ap, if_true, mNot_ap, Option.isNone_some, Bool.not_false, mC_ap, n59]
        rw [sRet_ap, this]
        have fs : rsz [] + szD d ≤ 900000 := f.size
        have fd : depD d + 0 ≤ 60 := f.cdep d rfl
        exact ⟨_, dn', rfl, H1.dcur d rfl, H1.pre, H.dne.1, by rw [List.length_append]; have := H.dne.2; omega, f.cgood d rfl, by unfold rsz at fs; omega, by omega⟩
end
end K53
set_option Elab.async false
set_option linter.all false
set_option maxRecDepth 100000
set_option maxHeartbeats 1000000
namespace K53
open PySem PySem.Spec PyProof.Rows L2 SL PySem.NumText
/-! ### both bounds of depth tell the same -/
theorem step_same {m : Nat} (hm : 60 ≤ m) {c : Nat} (hs : isS c = true) {s : St} (hB : c = 91 → s.rows.length < 60) : stepP m [c] s = stepP 60 [c] s := by
  rcases isS_cases hs with q | q | q
  · subst q
    show stO m s = stO 60 s
    obtain ⟨rows, cur⟩ := s
    cases cur with
    | some d => rfl
    | none =>
      have hb : rows.length < 60 := hB rfl
      show (if rows.length < m then some (⟨[] :: rows, none⟩ : St) else none) = if rows.length < 60 then some ⟨[] :: rows, none⟩ else none
      rw [if_pos (by omega), if_pos hb]
  · subst q; rfl
  · subst q; rfl
theorem tok_rows {tok : List Nat} {s s' : St} (e : (if tok = [] then some s else stA tok s) = some s') : s'.rows = s.rows := by
  split at e
  · cases e; rfl
  · obtain ⟨rows, cur⟩ := s
    unfold stA at e
    cases cur with
    | some d => cases e
    | none =>
      dsimp only at e
      cases q : atomR tok with
      | none => rw [q] at e; cases e
      | some d => rw [q] at e; cases e; rfl
theorem steps_same {m : Nat} (hm : 60 ≤ m) : ∀ (r tok : List Nat) (s : St), (∀ c ∈ tok, isS c = false) → dOK 60 s.rows.length r = true → stepsP m (pieces r tok) s = stepsP 60 (pieces r tok) s
  | [], tok, s, hk, _ => by
    have e1 := steps_tok hk m [] s
    have e2 := steps_tok hk 60 [] s
    rw [List.append_nil] at e1 e2
    show stepsP m (optT tok) s = stepsP 60 (optT tok) s
    rw [e1, e2]
    cases (if tok = [] then some s else stA tok s) <;> rfl
  | c :: r, tok, s, hk, hd => by
    unfold pieces
    cases hs : isS c with
    | false =>
      rw [if_neg (by decide)]
      refine steps_same hm r (tok ++ [c]) s (fun x hx => ?_) ?_
      · rcases List.mem_append.mp hx with q | q
        · exact hk x q
        · have : x = c := by simpa using q
          rw [this]; exact hs
      · unfold dOK at hd
        have n1 : c ≠ 91 := fun z => by rw [z] at hs; cases hs
        have n2 : c ≠ 93 := fun z => by rw [z] at hs; cases hs
        rw [if_neg n1, if_neg n2] at hd
        exact hd
    | true =>
      rw [if_pos rfl, steps_tok hk, steps_tok hk]
      cases q : (if tok = [] then some s else stA tok s) with
      | none => rfl
      | some s1 =>
        have er := tok_rows q
        have hB : c = 91 → s1.rows.length < 60 := fun z => by
          unfold dOK at hd
          rw [if_pos z, Bool.and_eq_true, decide_eq_true_eq] at hd
          rw [er]
          omega
        show (stepP m [c] s1).bind (stepsP m (pieces r [])) = (stepP 60 [c] s1).bind (stepsP 60 (pieces r []))
        rw [step_same hm hs hB]
        cases q2 : stepP 60 [c] s1 with
        | none => rfl
        | some s2 =>
          refine steps_same hm r [] s2 (fun x hx => nomatch hx) ?_
          rw [stepP_rows hs q2, er]
          unfold dOK at hd
          split at hd
          · rename_i z
            rw [Bool.and_eq_true] at hd
            rw [if_pos z]
            exact hd.2
          · rename_i z
            rw [if_neg z]
            split at hd
            · rename_i z2
              rw [if_pos z2]
              exact hd
            · rename_i z2
              rw [if_neg z2]
              exact hd
theorem read_same {m : Nat} (hm : 60 ≤ m) {t : List Nat} (hd : dOK 60 0 t = true) : readR m t = readR 60 t := by
  unfold readR
  rw [steps_same hm t [] ⟨[], none⟩ (fun x hx => nomatch hx) hd]
/-! ### what is read is written as it was -/
mutual
def wrT : D → List Nat
  | .tup ds => 91 :: (wrsT ds ++ [93])
  | .bl b => if b then [43] else [45]
  | .int i => txtI i
  | .str z => if z.cps.toList = [] then [46] else z.cps.toList
  | .non => []
  | .ref _ => []
  | .ty _ => []
  | .frl _ => []
def wrsT : List D → List Nat
  | [] => []
  | d :: ds => match ds with
    | [] => wrT d
    | _ :: _ => wrT d ++ 44 :: wrsT ds
end
/-- items, each with a comma behind -/
def wrC : List D → List Nat
  | [] => []
  | d :: ds => wrT d ++ 44 :: wrC ds
theorem wrsT_cons2 (d e : D) (ds : List D) : wrsT (d :: e :: ds) = wrT d ++ 44 :: wrsT (e :: ds) := by
  conv => lhs; unfold wrsT
theorem wrsT_one (d : D) : wrsT [d] = wrT d := by unfold wrsT; rfl
theorem wrs_app : ∀ (r : List D) (d : D), wrsT (r ++ [d]) = wrC r ++ wrT d
  | [], d => wrsT_one d
  | [a], d => by
    show wrsT [a, d] = wrT a ++ 44 :: wrC [] ++ wrT d
    rw [wrsT_cons2, wrsT_one]
    simp [wrC]
  | a :: b :: r, d => by
    have ih := wrs_app (b :: r) d
    show wrsT (a :: b :: (r ++ [d])) = wrT a ++ 44 :: wrC (b :: r) ++ wrT d
    rw [wrsT_cons2, show b :: (r ++ [d]) = (b :: r) ++ [d] from rfl, ih]
    simp
theorem wrC_app : ∀ (r : List D) (d : D), wrC (r ++ [d]) = wrC r ++ (wrT d ++ [44])
  | [], d => by simp [wrC]
  | a :: r, d => by
    show wrT a ++ 44 :: wrC (r ++ [d]) = wrT a ++ 44 :: wrC r ++ _
    rw [wrC_app r d]
    simp
def txtR : List (List D) → List Nat
  | [] => []
  | r :: rest => txtR rest ++ (91 :: wrC r)
def txtC : Option D → List Nat
  | none => []
  | some d => wrT d
def txtS (s : St) : List Nat := txtR s.rows ++ txtC s.cur
theorem atom_txt {t : List Nat} {d : D} (e : atomR t = some d) (hl : t.length ≤ 4300) : wrT d = t := by
  unfold atomR at e
  split at e
  · rename_i h
    cases e
    rw [h]
    unfold wrT
    rfl
  · split at e
    · rename_i h
      cases e
      rw [h]
      unfold wrT
      rfl
    · split at e
      · rename_i h
        cases e
        rw [h]
        unfold wrT
        rfl
      · split at e
        · rename_i hw
          cases e
          unfold wrT
          rw [T_cps, if_neg (fun z => by rw [z] at hw; cases hw)]
        · unfold numR at e
          split at e
          · rename_i hn
            obtain ⟨n, e1, e2⟩ := num_val hn hl
            rw [e1] at e
            cases e
            unfold wrT txtI
            rw [e2]
            rfl
          · cases e
theorem step_txt {m : Nat} {p : List Nat} {s s' : St} (e : stepP m p s = some s') (hl : p.length ≤ 4300) : txtS s' = txtS s ++ p := by
  obtain ⟨rows, cur⟩ := s
  unfold stepP at e
  split at e
  · rename_i hp
    subst hp
    unfold stO at e
    cases cur with
    | some d => cases e
    | none =>
      dsimp only at e
      split at e
      · cases e
        simp [txtS, txtR, txtC, wrC]
      · cases e
  · split at e
    · rename_i hp
      subst hp
      cases rows with
      | nil => cases cur <;> cases e
      | cons r rest =>
        cases cur with
        | some d =>
          cases e
          show txtR rest ++ wrT (.tup (r ++ [d])) = txtR rest ++ (91 :: wrC r) ++ wrT d ++ [93]
          have : wrT (.tup (r ++ [d])) = 91 :: (wrsT (r ++ [d]) ++ [93]) := by conv => lhs; unfold wrT
          rw [this, wrs_app]
          simp
        | none =>
          have e2 : (if r = [] then some (⟨rest, some (.tup [])⟩ : St) else none) = some s' := e
          split at e2
          · rename_i z
            subst z
            cases e2
            show txtR rest ++ wrT (.tup []) = txtR rest ++ (91 :: wrC []) ++ [] ++ [93]
            have : wrT (.tup []) = 91 :: (wrsT [] ++ [93]) := by conv => lhs; unfold wrT
            rw [this]
            simp [wrC, wrsT]
          · cases e2
    · split at e
      · rename_i hp
        subst hp
        cases rows with
        | nil => cases cur <;> cases e
        | cons r rest =>
          cases cur with
          | none => cases e
          | some d =>
            cases e
            show txtR rest ++ (91 :: wrC (r ++ [d])) ++ [] = txtR rest ++ (91 :: wrC r) ++ wrT d ++ [44]
            rw [wrC_app]
            simp
      · unfold stA at e
        cases cur with
        | some d => cases e
        | none =>
          dsimp only at e
          cases q : atomR p with
          | none => rw [q] at e; cases e
          | some d =>
            rw [q] at e
            cases e
            show txtR rows ++ wrT d = txtR rows ++ [] ++ p
            rw [atom_txt q hl]
            simp
theorem steps_txt {m : Nat} : ∀ {ps : List (List Nat)} {s s' : St}, stepsP m ps s = some s' → (∀ p ∈ ps, p.length ≤ 4300) → txtS s' = txtS s ++ ps.flatten
  | [], s, s', e, _ => by cases e; simp
  | p :: ps, s, s', e, hl => by
    have e1 : (stepP m p s).bind (stepsP m ps) = some s' := e
    cases q : stepP m p s with
    | none => rw [q] at e1; cases e1
    | some s1 =>
      rw [q] at e1
      have i := steps_txt (s := s1) e1 fun x hx => hl x (List.mem_cons_of_mem _ hx)
      rw [i, step_txt q (hl p List.mem_cons_self)]
      simp
theorem pieces_flat : ∀ (r tok : List Nat), (pieces r tok).flatten = tok ++ r
  | [], tok => by
    unfold pieces optT
    split
    · rename_i z; rw [z]; rfl
    · simp
  | c :: r, tok => by
    unfold pieces
    split
    · rw [List.flatten_append, List.flatten_cons, pieces_flat r []]
      unfold optT
      split
      · rename_i z; rw [z]; rfl
      · simp
    · rw [pieces_flat r (tok ++ [c])]
      simp
theorem read_txt {m : Nat} {t : List Nat} {d : D} (e : readR m t = some d) (hl : ∀ p ∈ pieces t [], p.length ≤ 4300) : wrT d = t := by
  unfold readR at e
  cases q : stepsP m (pieces t []) ⟨[], none⟩ with
  | none => rw [q] at e; cases e
  | some s =>
    rw [q] at e
    have i := steps_txt q hl
    rw [pieces_flat] at i
    obtain ⟨rows, cur⟩ := s
    cases rows with
    | cons r rest => cases cur <;> cases e
    | nil =>
      cases cur with
      | none => cases e
      | some x =>
        cases e
        have i2 : [] ++ wrT d = ([] ++ []) ++ ([] ++ t) := i
        simpa using i2
/-- a token's length, from the text -/
theorem tok_len {m : Nat} (hm : 1 ≤ m) : ∀ (r tok : List Nat), tok.length ≤ m → tokOK m tok.length r = true → ∀ p ∈ pieces r tok, p.length ≤ m
  | [], tok, hl, _, p, hp => by
    unfold pieces optT at hp
    split at hp
    · cases hp
    · have : p = tok := by simpa using hp
      rw [this]; exact hl
  | c :: r, tok, hl, ht, p, hp => by
    unfold pieces at hp
    unfold tokOK at ht
    split at hp
    · rename_i hs
      rw [if_pos hs] at ht
      rcases List.mem_append.mp hp with q | q
      · unfold optT at q
        split at q
        · cases q
        · have : p = tok := by simpa using q
          rw [this]; exact hl
      · rcases List.mem_cons.mp q with q | q
        · rw [q]; exact hm
        · exact tok_len hm r [] (Nat.zero_le _) ht p q
    · rename_i hs
      rw [if_neg hs, Bool.and_eq_true, decide_eq_true_eq] at ht
      refine tok_len hm r (tok ++ [c]) ?_ ?_ p hp
      · rw [List.length_append, List.length_singleton]; exact ht.1
      · rw [List.length_append, List.length_singleton]; exact ht.2
end K53
set_option Elab.async false
set_option linter.all false
set_option maxRecDepth 100000
set_option maxHeartbeats 1000000
namespace K53
open PySem PySem.Spec PyProof.Rows L2 SL PySem.NumText
/-! ### data as they are drawn -/
def atoms : List D := [.int 0, .int (-1), .int 7, .int (10 ^ 40), .int (-(10 ^ 20)), .int 1000, .bl true, .bl false, .str (T []), .str (T [97, 98, 122, 57]), .str (T [98, 122, 57]), .str (T [122, 57]), .str (T [97, 50, 51, 52, 53, 54, 55, 56, 57, 48, 49, 50])]
def atomOK (a : D) : Bool := decide (atomR (wrT a) = some a) && (!(wrT a).isEmpty && ((wrT a).all (fun c => !isS c && !decide (c = 59)) && (decide ((wrT a).length ≤ 42) && (decide (atomT a = some (wrT a)) && (goodD a && (plainD a && decide (szD a = 1)))))))
theorem atoms_ok : atoms.all atomOK = true := by decide +kernel
structure AtomF (a : D) : Prop where
  rd : atomR (wrT a) = some a
  ne : wrT a ≠ []
  st : ∀ c ∈ wrT a, isS c = false ∧ c ≠ 59
  ln : (wrT a).length ≤ 42
  wr : atomT a = some (wrT a)
  gd : goodD a = true
  pl : plainD a = true
  sz : szD a = 1
theorem atomF {a : D} (h : a ∈ atoms) : AtomF a := by
  have e := List.all_eq_true.mp atoms_ok a h
  unfold atomOK at e
  simp only [Bool.and_eq_true, decide_eq_true_eq, Bool.not_eq_true', List.isEmpty_eq_false_iff] at e
  obtain ⟨e1, e2, e3, e4, e5, e6, e7, e8⟩ := e
  refine ⟨e1, e2, fun c hc => ?_, e4, e5, e6, e7, e8⟩
  have := List.all_eq_true.mp e3 c hc
  simpa using this
mutual
def drw (n : Nat) : D → Bool
  | .tup ds => decide (1 ≤ n) && (decide (ds.length ≤ 3) && drws (n - 1) ds)
  | .bl b => decide (D.bl b ∈ atoms)
  | .int i => decide (D.int i ∈ atoms)
  | .str z => decide (D.str z ∈ atoms)
  | .non => false
  | .ref _ => false
  | .ty _ => false
  | .frl _ => false
def drws (n : Nat) : List D → Bool
  | [] => true
  | d :: ds => drw n d && drws n ds
end
/-- drawn data are an atom or a tuple -/
theorem drw_cases {n : Nat} {d : D} (h : drw n d = true) : d ∈ atoms ∨ ∃ ds, d = .tup ds ∧ 1 ≤ n ∧ ds.length ≤ 3 ∧ drws (n - 1) ds = true := by
  cases d with
  | tup ds =>
    unfold drw at h
    simp only [Bool.and_eq_true, decide_eq_true_eq] at h
    exact .inr ⟨ds, rfl, h⟩
  | bl b => unfold drw at h; exact .inl (of_decide_eq_true h)
  | int b => unfold drw at h; exact .inl (of_decide_eq_true h)
  | str b => unfold drw at h; exact .inl (of_decide_eq_true h)
  | non => cases h
  | ref _ => cases h
  | ty _ => cases h
  | frl _ => cases h
theorem wrT_tup (ds : List D) : wrT (.tup ds) = 91 :: (wrsT ds ++ [93]) := by conv => lhs; unfold wrT
theorem drws_cons {n : Nat} {d : D} {ds : List D} (h : drws n (d :: ds) = true) : drw n d = true ∧ drws n ds = true := by
  unfold drws at h
  rw [Bool.and_eq_true] at h
  exact h
theorem not_atom_tup {ds : List D} (h : D.tup ds ∈ atoms) : False := by
  unfold atoms at h
  simp at h
/-! reading what is written -/
def endOK (rest : List Nat) : Prop := rest = [] ∨ ∃ c r, rest = c :: r ∧ isS c = true
theorem pieces_app : ∀ (a tok rest : List Nat), (∀ c ∈ a, isS c = false) → pieces (a ++ rest) tok = pieces rest (tok ++ a)
  | [], tok, rest, _ => by simp
  | c :: a, tok, rest, h => by
    have hc := h c List.mem_cons_self
    show pieces (c :: (a ++ rest)) tok = _
    conv => lhs; unfold pieces
    rw [hc, if_neg (by decide), pieces_app a (tok ++ [c]) rest fun x hx => h x (List.mem_cons_of_mem _ hx)]
    simp
theorem pieces_end {a rest : List Nat} (h : endOK rest) (ha : a ≠ []) : pieces rest a = a :: pieces rest [] := by
  rcases h with h | ⟨c, r, h, hc⟩
  · subst h
    unfold pieces optT
    rw [if_neg ha, if_pos rfl]
  · subst h
    have e1 : pieces (c :: r) a = optT a ++ [c] :: pieces r [] := by
      conv => lhs; unfold pieces
      rw [hc, if_pos rfl]
    have e2 : pieces (c :: r) [] = optT [] ++ [c] :: pieces r [] := by
      conv => lhs; unfold pieces
      rw [hc, if_pos rfl]
    rw [e1, e2]
    unfold optT
    rw [if_neg ha, if_pos rfl]
    rfl
theorem pieces_sign {c : Nat} {r : List Nat} (hc : isS c = true) : pieces (c :: r) [] = [c] :: pieces r [] := by
  conv => lhs; unfold pieces
  rw [hc, if_pos rfl]
  rfl
theorem steps_cons (m : Nat) (p : List Nat) (ps : List (List Nat)) (s : St) : stepsP m (p :: ps) s = (stepP m p s).bind (stepsP m ps) := rfl
mutual
theorem run_d (m : Nat) : ∀ (d : D) (n : Nat) (rows : List (List D)) (rest : List Nat), drw n d = true → rows.length + n ≤ m → endOK rest → stepsP m (pieces (wrT d ++ rest) []) ⟨rows, none⟩ = stepsP m (pieces rest []) ⟨rows, some d⟩
  | .tup ds, n, rows, rest, h, hn, hr => by
    rcases drw_cases h with q | ⟨ds', e, h1, h2, h3⟩
    · exact (not_atom_tup q).elim
    · cases e
      rw [wrT_tup]
      show stepsP m (pieces (91 :: ((wrsT ds ++ [93]) ++ rest)) []) _ = _
      rw [pieces_sign rfl, steps_cons]
      have e1 : stepP m [91] ⟨rows, none⟩ = some ⟨[] :: rows, none⟩ := by
        show (if rows.length < m then some (⟨[] :: rows, none⟩ : St) else none) = _
        rw [if_pos (by omega)]
      rw [e1]
      have e2 := run_ds m ds (n - 1) [] rows rest h3 (by omega) hr (.inl rfl)
      rw [show (wrsT ds ++ [93]) ++ rest = wrsT ds ++ 93 :: rest by simp]
      exact e2
  | .bl b, n, rows, rest, h, hn, hr => run_atom m rows rest ((drw_cases h).elim id fun ⟨_, e, _⟩ => nomatch e) hr
  | .int b, n, rows, rest, h, hn, hr => run_atom m rows rest ((drw_cases h).elim id fun ⟨_, e, _⟩ => nomatch e) hr
  | .str b, n, rows, rest, h, hn, hr => run_atom m rows rest ((drw_cases h).elim id fun ⟨_, e, _⟩ => nomatch e) hr
  | .non, _, _, _, h, _, _ => by cases h
  | .ref _, _, _, _, h, _, _ => by cases h
  | .ty _, _, _, _, h, _, _ => by cases h
  | .frl _, _, _, _, h, _, _ => by cases h
theorem run_ds (m : Nat) : ∀ (ds : List D) (n : Nat) (row : List D) (rows : List (List D)) (rest : List Nat), drws n ds = true → rows.length + 1 + n ≤ m → endOK rest → (row = [] ∨ ds ≠ []) → stepsP m (pieces (wrsT ds ++ 93 :: rest) []) ⟨row :: rows, none⟩ = stepsP m (pieces rest []) ⟨rows, some (.tup (row ++ ds))⟩
  | [], n, row, rows, rest, _, hn, hr, hrow => by
    have er : row = [] := hrow.elim id fun z => absurd rfl z
    subst er
    rw [show wrsT [] ++ 93 :: rest = 93 :: rest by unfold wrsT; rfl, pieces_sign rfl, steps_cons]
    rfl
  | [d], n, row, rows, rest, h, hn, hr, _ => by
    obtain ⟨h1, _⟩ := drws_cons h
    rw [wrsT_one, run_d m d n (row :: rows) (93 :: rest) h1 (by rw [List.length_cons]; omega) (.inr ⟨93, rest, rfl, rfl⟩), pieces_sign rfl, steps_cons]
    rfl
  | d :: e :: ds, n, row, rows, rest, h, hn, hr, _ => by
    obtain ⟨h1, h2⟩ := drws_cons h
    rw [wrsT_cons2, show wrT d ++ 44 :: wrsT (e :: ds) ++ 93 :: rest = wrT d ++ (44 :: (wrsT (e :: ds) ++ 93 :: rest)) by simp]
    rw [run_d m d n (row :: rows) _ h1 (by rw [List.length_cons]; omega) (.inr ⟨44, _, rfl, rfl⟩), pieces_sign rfl, steps_cons]
    have e1 : stepP m [44] ⟨row :: rows, some d⟩ = some ⟨(row ++ [d]) :: rows, none⟩ := rfl
    rw [e1]
    have ih := run_ds m (e :: ds) n (row ++ [d]) rows rest h2 hn hr (.inr (by simp))
    rw [show row ++ d :: e :: ds = (row ++ [d]) ++ e :: ds by simp]
    exact ih
theorem run_atom (m : Nat) {d : D} (rows : List (List D)) (rest : List Nat) (h : d ∈ atoms) (hr : endOK rest) : stepsP m (pieces (wrT d ++ rest) []) ⟨rows, none⟩ = stepsP m (pieces rest []) ⟨rows, some d⟩ := by
  have f := atomF h
  rw [pieces_app (wrT d) [] rest fun c hc => (f.st c hc).1, List.nil_append, pieces_end hr f.ne, steps_cons, step_tok fun c hc => (f.st c hc).1]
  have : stA (wrT d) ⟨rows, none⟩ = some ⟨rows, some d⟩ := by
    show (atomR (wrT d)).map _ = _
    rw [f.rd]
    rfl
  rw [this]
  rfl
end
theorem read_drawn {m n : Nat} {d : D} (h : drw n d = true) (hn : n ≤ m) : readR m (wrT d) = some d := by
  have e := run_d m d n [] [] h (by rw [List.length_nil]; omega) (.inl rfl)
  rw [List.append_nil] at e
  unfold readR
  rw [e]
  rfl
/-! writing them -/
mutual
theorem wrD_drawn : ∀ (d : D) (n k : Nat), drw n d = true → k + n ≤ 1001 → wrD k d = some (wrT d)
  | .tup ds, n, k, h, hk => by
    rcases drw_cases h with q | ⟨ds', e, h1, h2, h3⟩
    · exact (not_atom_tup q).elim
    · cases e
      unfold wrD
      rw [if_pos (by omega), wrsD_drawn ds (n - 1) (k + 1) h3 (by omega), wrT_tup]
      rfl
  | .bl b, n, k, h, hk => by unfold wrD; exact (atomF ((drw_cases h).elim id fun ⟨_, e, _⟩ => nomatch e)).wr
  | .int b, n, k, h, hk => by unfold wrD; exact (atomF ((drw_cases h).elim id fun ⟨_, e, _⟩ => nomatch e)).wr
  | .str b, n, k, h, hk => by unfold wrD; exact (atomF ((drw_cases h).elim id fun ⟨_, e, _⟩ => nomatch e)).wr
  | .non, _, _, h, _ => by cases h
  | .ref _, _, _, h, _ => by cases h
  | .ty _, _, _, h, _ => by cases h
  | .frl _, _, _, h, _ => by cases h
theorem wrsD_drawn : ∀ (ds : List D) (n k : Nat), drws n ds = true → k + n ≤ 1001 → wrsD k ds = some (wrsT ds)
  | [], _, _, _, _ => by unfold wrsD wrsT; rfl
  | [d], n, k, h, hk => by
    unfold wrsD
    rw [wrsT_one]
    exact wrD_drawn d n k (drws_cons h).1 hk
  | d :: e :: ds, n, k, h, hk => by
    obtain ⟨h1, h2⟩ := drws_cons h
    unfold wrsD
    rw [wrD_drawn d n k h1 hk, wrsT_cons2]
    have ih := wrsD_drawn (e :: ds) n k h2 hk
    show (some (wrT d)).bind (fun a => (wrsD k (e :: ds)).map fun b => a ++ 44 :: b) = _
    rw [ih]
    rfl
end
/-! their measures -/
mutual
theorem plain_drawn : ∀ (d : D) (n : Nat), drw n d = true → plainD d = true ∧ goodD d = true ∧ depD d ≤ n
  | .tup ds, n, h => by
    rcases drw_cases h with q | ⟨ds', e, h1, h2, h3⟩
    · exact (not_atom_tup q).elim
    · cases e
      obtain ⟨a, b, c⟩ := plains_drawn ds (n - 1) h3
      refine ⟨?_, ?_, ?_⟩
      · unfold plainD
        rw [a, decide_eq_true (by rw [sizeLine_eq]; omega)]
        rfl
      · unfold goodD; exact b
      · unfold depD; omega
  | .bl b, n, h => by
    have f := atomF ((drw_cases h).elim id fun ⟨_, e, _⟩ => nomatch e)
    exact ⟨f.pl, f.gd, by unfold depD; exact Nat.zero_le _⟩
  | .int b, n, h => by
    have f := atomF ((drw_cases h).elim id fun ⟨_, e, _⟩ => nomatch e)
    exact ⟨f.pl, f.gd, by unfold depD; exact Nat.zero_le _⟩
  | .str b, n, h => by
    have f := atomF ((drw_cases h).elim id fun ⟨_, e, _⟩ => nomatch e)
    exact ⟨f.pl, f.gd, by unfold depD; exact Nat.zero_le _⟩
  | .non, _, h => by cases h
  | .ref _, _, h => by cases h
  | .ty _, _, h => by cases h
  | .frl _, _, h => by cases h
theorem plains_drawn : ∀ (ds : List D) (n : Nat), drws n ds = true → plainDs ds = true ∧ goods ds = true ∧ deps ds ≤ n
  | [], n, _ => ⟨rfl, rfl, by unfold deps; exact Nat.zero_le _⟩
  | d :: ds, n, h => by
    obtain ⟨h1, h2⟩ := drws_cons h
    obtain ⟨a1, b1, c1⟩ := plain_drawn d n h1
    obtain ⟨a2, b2, c2⟩ := plains_drawn ds n h2
    refine ⟨?_, ?_, ?_⟩
    · unfold plainDs; rw [a1, a2]; rfl
    · unfold goods; rw [b1, b2]; rfl
    · unfold deps; omega
end
def Wn : Nat → Nat
  | 0 => 42
  | n + 1 => 5 + 3 * Wn n
theorem Wn_ge : ∀ n, 42 ≤ Wn n
  | 0 => Nat.le_refl _
  | n + 1 => by have := Wn_ge n; show 42 ≤ 5 + 3 * Wn n; omega
mutual
theorem len_drawn : ∀ (d : D) (n : Nat), drw n d = true → (wrT d).length ≤ Wn n ∧ costD d ≤ 2 * (wrT d).length ∧ szD d ≤ 3 * (wrT d).length
  | .tup ds, n, h => by
    rcases drw_cases h with q | ⟨ds', e, h1, h2, h3⟩
    · exact (not_atom_tup q).elim
    · cases e
      obtain ⟨m, rfl⟩ : ∃ m, n = m + 1 := ⟨n - 1, by omega⟩
      obtain ⟨a, b, c⟩ := lens_drawn ds m h3
      rw [wrT_tup, List.length_cons, List.length_append, List.length_singleton]
      have w0 := Wn_ge m
      have w1 : ds.length * Wn m ≤ 3 * Wn m := Nat.mul_le_mul_right _ h2
      refine ⟨?_, ?_, ?_⟩
      · show (wrsT ds).length + 1 + 1 ≤ 5 + 3 * Wn m
        omega
      · unfold costD; omega
      · unfold szD; omega
  | .bl b, n, h => by
    have hm := ((drw_cases h).elim id fun ⟨_, e, _⟩ => nomatch e)
    have f := atomF hm
    have p := List.length_pos_iff.mpr f.ne
    refine ⟨Nat.le_trans f.ln (Wn_ge n), ?_, ?_⟩
    · unfold costD; omega
    · rw [f.sz]; omega
  | .int b, n, h => by
    have hm := ((drw_cases h).elim id fun ⟨_, e, _⟩ => nomatch e)
    have f := atomF hm
    have p := List.length_pos_iff.mpr f.ne
    refine ⟨Nat.le_trans f.ln (Wn_ge n), ?_, ?_⟩
    · unfold costD; omega
    · rw [f.sz]; omega
  | .str b, n, h => by
    have hm := ((drw_cases h).elim id fun ⟨_, e, _⟩ => nomatch e)
    have f := atomF hm
    have p := List.length_pos_iff.mpr f.ne
    refine ⟨Nat.le_trans f.ln (Wn_ge n), ?_, ?_⟩
    · unfold costD; omega
    · rw [f.sz]; omega
  | .non, _, h => by cases h
  | .ref _, _, h => by cases h
  | .ty _, _, h => by cases h
  | .frl _, _, h => by cases h
theorem lens_drawn : ∀ (ds : List D) (n : Nat), drws n ds = true → (wrsT ds).length ≤ ds.length * Wn n + ds.length ∧ costs ds ≤ 2 * (wrsT ds).length + 2 ∧ szs ds ≤ 3 * (wrsT ds).length + 2
  | [], n, _ => by
    unfold costs szs
    exact ⟨Nat.zero_le _, Nat.zero_le _, by omega⟩
  | [d], n, h => by
    obtain ⟨a, b, c⟩ := len_drawn d n (drws_cons h).1
    rw [wrsT_one]
    refine ⟨?_, ?_, ?_⟩
    · rw [List.length_singleton]; omega
    · unfold costs costs; omega
    · unfold szs szs
      have p : 1 ≤ (wrT d).length := by
        have := costD_pos d
        omega
      omega
  | d :: e :: ds, n, h => by
    obtain ⟨h1, h2⟩ := drws_cons h
    obtain ⟨a, b, c⟩ := len_drawn d n h1
    obtain ⟨a2, b2, c2⟩ := lens_drawn (e :: ds) n h2
    rw [wrsT_cons2, List.length_append, List.length_cons]
    refine ⟨?_, ?_, ?_⟩
    · have e1 : (d :: e :: ds).length = (e :: ds).length + 1 := rfl
      rw [e1, Nat.add_mul]
      omega
    · have : costs (d :: e :: ds) = costD d + 1 + costs (e :: ds) := by conv => lhs; unfold costs
      omega
    · have : szs (d :: e :: ds) = 1 + szD d + szs (e :: ds) := by conv => lhs; unfold szs
      omega
end
end K53
set_option Elab.async false
set_option linter.all false
set_option maxRecDepth 100000
set_option maxHeartbeats 1000000
namespace K53
open PySem PySem.Spec PyProof.Rows L2 SL PySem.NumText
/-! ### brackets and tokens of drawn texts -/
theorem dOK_skip (M k : Nat) : ∀ (a rest : List Nat), (∀ c ∈ a, isS c = false) → dOK M k (a ++ rest) = dOK M k rest
  | [], _, _ => rfl
  | c :: a, rest, h => by
    have hc := h c List.mem_cons_self
    have n1 : c ≠ 91 := fun z => by rw [z] at hc; cases hc
    have n2 : c ≠ 93 := fun z => by rw [z] at hc; cases hc
    show dOK M k (c :: (a ++ rest)) = _
    conv => lhs; unfold dOK
    rw [if_neg n1, if_neg n2]
    exact dOK_skip M k a rest fun x hx => h x (List.mem_cons_of_mem _ hx)
theorem dOK_91 (M k : Nat) (r : List Nat) : dOK M k (91 :: r) = (decide (k + 1 ≤ M) && dOK M (k + 1) r) := by
  conv => lhs; unfold dOK
  rfl
theorem dOK_93 (M k : Nat) (r : List Nat) : dOK M k (93 :: r) = dOK M (k - 1) r := by
  conv => lhs; unfold dOK
  rfl
theorem dOK_44 (M k : Nat) (r : List Nat) : dOK M k (44 :: r) = dOK M k r := by
  conv => lhs; unfold dOK
  rfl
theorem drw_atom {n : Nat} {d : D} (h : drw n d = true) (ht : ∀ ds, d ≠ .tup ds) : d ∈ atoms := (drw_cases h).elim id fun ⟨ds, e, _⟩ => absurd e (ht ds)
mutual
theorem dOK_d (M : Nat) : ∀ (d : D) (n k : Nat) (rest : List Nat), drw n d = true → k + n ≤ M → dOK M k rest = true → dOK M k (wrT d ++ rest) = true
  | .tup ds, n, k, rest, h, hn, hr => by
    rcases drw_cases h with q | ⟨ds', e, h1, h2, h3⟩
    · exact (not_atom_tup q).elim
    · cases e
      rw [wrT_tup, show 91 :: (wrsT ds ++ [93]) ++ rest = 91 :: (wrsT ds ++ 93 :: rest) by simp, dOK_91, decide_eq_true (by omega), Bool.true_and]
      refine dOK_ds M ds (n - 1) (k + 1) _ h3 (by omega) ?_
      rw [dOK_93]
      exact hr
  | .bl b, n, k, rest, h, _, hr => by
    rw [dOK_skip M k _ _ fun c hc => ((atomF (drw_atom h fun _ e => nomatch e)).st c hc).1]; exact hr
  | .int b, n, k, rest, h, _, hr => by
    rw [dOK_skip M k _ _ fun c hc => ((atomF (drw_atom h fun _ e => nomatch e)).st c hc).1]; exact hr
  | .str b, n, k, rest, h, _, hr => by
    rw [dOK_skip M k _ _ fun c hc => ((atomF (drw_atom h fun _ e => nomatch e)).st c hc).1]; exact hr
  | .non, _, _, _, h, _, _ => by cases h
  | .ref _, _, _, _, h, _, _ => by cases h
  | .ty _, _, _, _, h, _, _ => by cases h
  | .frl _, _, _, _, h, _, _ => by cases h
theorem dOK_ds (M : Nat) : ∀ (ds : List D) (n k : Nat) (rest : List Nat), drws n ds = true → k + n ≤ M → dOK M k rest = true → dOK M k (wrsT ds ++ rest) = true
  | [], _, _, _, _, _, hr => hr
  | [d], n, k, rest, h, hn, hr => by
    rw [wrsT_one]
    exact dOK_d M d n k rest (drws_cons h).1 hn hr
  | d :: e :: ds, n, k, rest, h, hn, hr => by
    obtain ⟨h1, h2⟩ := drws_cons h
    rw [wrsT_cons2, show wrT d ++ 44 :: wrsT (e :: ds) ++ rest = wrT d ++ (44 :: (wrsT (e :: ds) ++ rest)) by simp]
    refine dOK_d M d n k _ h1 hn ?_
    rw [dOK_44]
    exact dOK_ds M (e :: ds) n k rest h2 hn hr
end
theorem tokOK_skip (m : Nat) : ∀ (a rest : List Nat) (j : Nat), (∀ c ∈ a, isS c = false) → j + a.length ≤ m → tokOK m j (a ++ rest) = tokOK m (j + a.length) rest
  | [], _, _, _, _ => rfl
  | c :: a, rest, j, h, hl => by
    rw [List.length_cons] at hl
    show tokOK m j (c :: (a ++ rest)) = _
    conv => lhs; unfold tokOK
    rw [h c List.mem_cons_self, if_neg (by decide), decide_eq_true (by omega), Bool.true_and, tokOK_skip m a rest (j + 1) (fun x hx => h x (List.mem_cons_of_mem _ hx)) (by omega), List.length_cons]
    congr 1
    omega
theorem tokOK_S (m j : Nat) {c : Nat} (hc : isS c = true) (r : List Nat) : tokOK m j (c :: r) = tokOK m 0 r := by
  conv => lhs; unfold tokOK
  rw [if_pos hc]
def endT (rest : List Nat) : Prop := ∀ j, j ≤ 42 → tokOK 42 j rest = true
theorem endT_S {c : Nat} (hc : isS c = true) {r : List Nat} (h : tokOK 42 0 r = true) : endT (c :: r) := fun j _ => by rw [tokOK_S 42 j hc]; exact h
theorem tok_atom {d : D} {rest : List Nat} (h : d ∈ atoms) (hr : endT rest) : tokOK 42 0 (wrT d ++ rest) = true := by
  have f := atomF h
  rw [tokOK_skip 42 (wrT d) rest 0 (fun c hc => (f.st c hc).1) (by have := f.ln; omega)]
  exact hr _ (by have := f.ln; omega)
mutual
theorem tok_d : ∀ (d : D) (n : Nat) (rest : List Nat), drw n d = true → endT rest → tokOK 42 0 (wrT d ++ rest) = true
  | .tup ds, n, rest, h, hr => by
    rcases drw_cases h with q | ⟨ds', e, h1, h2, h3⟩
    · exact (not_atom_tup q).elim
    · cases e
      rw [wrT_tup, show 91 :: (wrsT ds ++ [93]) ++ rest = 91 :: (wrsT ds ++ 93 :: rest) by simp, tokOK_S 42 0 rfl]
      exact tok_ds ds (n - 1) _ h3 (endT_S rfl (hr 0 (Nat.zero_le _)))
  | .bl b, n, rest, h, hr => tok_atom (drw_atom h fun _ e => nomatch e) hr
  | .int b, n, rest, h, hr => tok_atom (drw_atom h fun _ e => nomatch e) hr
  | .str b, n, rest, h, hr => tok_atom (drw_atom h fun _ e => nomatch e) hr
  | .non, _, _, h, _ => by cases h
  | .ref _, _, _, h, _ => by cases h
  | .ty _, _, _, h, _ => by cases h
  | .frl _, _, _, h, _ => by cases h
theorem tok_ds : ∀ (ds : List D) (n : Nat) (rest : List Nat), drws n ds = true → endT rest → tokOK 42 0 (wrsT ds ++ rest) = true
  | [], _, _, _, hr => hr 0 (Nat.zero_le _)
  | [d], n, rest, h, hr => by
    rw [wrsT_one]
    exact tok_d d n rest (drws_cons h).1 hr
  | d :: e :: ds, n, rest, h, hr => by
    obtain ⟨h1, h2⟩ := drws_cons h
    rw [wrsT_cons2, show wrT d ++ 44 :: wrsT (e :: ds) ++ rest = wrT d ++ (44 :: (wrsT (e :: ds) ++ rest)) by simp]
    exact tok_d d n _ h1 (endT_S rfl (tok_ds (e :: ds) n rest h2 hr))
end
mutual
theorem no59_d : ∀ (d : D) (n : Nat), drw n d = true → ∀ c ∈ wrT d, c ≠ 59
  | .tup ds, n, h => by
    rcases drw_cases h with q | ⟨ds', e, h1, h2, h3⟩
    · exact (not_atom_tup q).elim
    · cases e
      intro c hc
      rw [wrT_tup] at hc
      rcases List.mem_cons.mp hc with q | q
      · rw [q]; decide
      · rcases List.mem_append.mp q with q | q
        · exact no59_ds ds (n - 1) h3 c q
        · have : c = 93 := by simpa using q
          rw [this]; decide
  | .bl b, n, h => fun c hc => ((atomF (drw_atom h fun _ e => nomatch e)).st c hc).2
  | .int b, n, h => fun c hc => ((atomF (drw_atom h fun _ e => nomatch e)).st c hc).2
  | .str b, n, h => fun c hc => ((atomF (drw_atom h fun _ e => nomatch e)).st c hc).2
  | .non, _, h => by cases h
  | .ref _, _, h => by cases h
  | .ty _, _, h => by cases h
  | .frl _, _, h => by cases h
theorem no59_ds : ∀ (ds : List D) (n : Nat), drws n ds = true → ∀ c ∈ wrsT ds, c ≠ 59
  | [], _, _, c, hc => by unfold wrsT at hc; cases hc
  | [d], n, h, c, hc => by
    rw [wrsT_one] at hc
    exact no59_d d n (drws_cons h).1 c hc
  | d :: e :: ds, n, h, c, hc => by
    obtain ⟨h1, h2⟩ := drws_cons h
    rw [wrsT_cons2] at hc
    rcases List.mem_append.mp hc with q | q
    · exact no59_d d n h1 c q
    · rcases List.mem_cons.mp q with q | q
      · rw [q]; decide
      · exact no59_ds (e :: ds) n h2 c q
end
/-! ### bent texts -/
theorem dOK_mono : ∀ (b : List Nat) {M M' k k' : Nat}, dOK M k b = true → M ≤ M' → k' ≤ k → dOK M' k' b = true
  | [], _, _, _, _, _, _, _ => rfl
  | c :: b, M, M', k, k', h, hM, hk => by
    unfold dOK at h ⊢
    split at h
    · rename_i z
      rw [Bool.and_eq_true, decide_eq_true_eq] at h
      rw [if_pos z, decide_eq_true (by omega), dOK_mono b h.2 hM (by omega)]
      rfl
    · rename_i z
      rw [if_neg z]
      split at h
      · rename_i z2
        rw [if_pos z2]
        exact dOK_mono b h hM (by omega)
      · rename_i z2
        rw [if_neg z2]
        exact dOK_mono b h hM hk
theorem dOK_shift : ∀ (b : List Nat) {M k : Nat}, dOK M k b = true → dOK (M + 1) (k + 1) b = true
  | [], _, _, _ => rfl
  | c :: b, M, k, h => by
    unfold dOK at h ⊢
    split at h
    · rename_i z
      rw [Bool.and_eq_true, decide_eq_true_eq] at h
      rw [if_pos z, decide_eq_true (by omega), dOK_shift b h.2]
      rfl
    · rename_i z
      rw [if_neg z]
      split at h
      · rename_i z2
        rw [if_pos z2]
        have i := dOK_shift b h
        exact dOK_mono b i (Nat.le_refl _) (by omega)
      · rename_i z2
        rw [if_neg z2]
        exact dOK_shift b h
theorem dOK_ins (s : Nat) : ∀ (a b : List Nat) {M k : Nat}, dOK M k (a ++ b) = true → k ≤ M → dOK (M + 1) k (a ++ s :: b) = true
  | [], b, M, k, h, hk => by
    show dOK (M + 1) k (s :: b) = true
    unfold dOK
    split
    · rw [decide_eq_true (by omega), dOK_shift b h]; rfl
    · split
      · exact dOK_mono b h (by omega) (by omega)
      · exact dOK_mono b h (by omega) (Nat.le_refl _)
  | c :: a, b, M, k, h, hk => by
    have h' : dOK M k (c :: (a ++ b)) = true := h
    show dOK (M + 1) k (c :: (a ++ s :: b)) = true
    unfold dOK at h' ⊢
    split at h'
    · rename_i z
      rw [Bool.and_eq_true, decide_eq_true_eq] at h'
      rw [if_pos z, decide_eq_true (by omega), dOK_ins s a b h'.2 (by omega)]
      rfl
    · rename_i z
      rw [if_neg z]
      split at h'
      · rename_i z2
        rw [if_pos z2]
        exact dOK_ins s a b h' (by omega)
      · rename_i z2
        rw [if_neg z2]
        exact dOK_ins s a b h' hk
theorem dOK_del (x : Nat) : ∀ (a b : List Nat) {M k : Nat}, dOK M k (a ++ x :: b) = true → dOK (M + 1) k (a ++ b) = true
  | [], b, M, k, h => by
    have h' : dOK M k (x :: b) = true := h
    show dOK (M + 1) k b = true
    unfold dOK at h'
    split at h'
    · rw [Bool.and_eq_true] at h'
      exact dOK_mono b h'.2 (by omega) (by omega)
    · split at h'
      · exact dOK_mono b (dOK_shift b h') (Nat.le_refl _) (by omega)
      · exact dOK_mono b h' (by omega) (Nat.le_refl _)
  | c :: a, b, M, k, h => by
    have h' : dOK M k (c :: (a ++ x :: b)) = true := h
    show dOK (M + 1) k (c :: (a ++ b)) = true
    unfold dOK at h' ⊢
    split at h'
    · rename_i z
      rw [Bool.and_eq_true, decide_eq_true_eq] at h'
      rw [if_pos z, decide_eq_true (by omega), dOK_del x a b h'.2]
      rfl
    · rename_i z
      rw [if_neg z]
      split at h'
      · rename_i z2
        rw [if_pos z2]
        exact dOK_del x a b h'
      · rename_i z2
        rw [if_neg z2]
        exact dOK_del x a b h'
theorem tok_mono : ∀ (b : List Nat) {m m' j j' : Nat}, tokOK m j b = true → m ≤ m' → j' ≤ j → tokOK m' j' b = true
  | [], _, _, _, _, _, _, _ => rfl
  | c :: b, m, m', j, j', h, hm, hj => by
    unfold tokOK at h ⊢
    split at h
    · rename_i z
      rw [if_pos z]
      exact tok_mono b h hm (Nat.le_refl _)
    · rename_i z
      rw [Bool.and_eq_true, decide_eq_true_eq] at h
      rw [if_neg z, decide_eq_true (by omega), tok_mono b h.2 hm (by omega)]
      rfl
theorem tok_shift (e : Nat) : ∀ (b : List Nat) {m j : Nat}, tokOK m j b = true → tokOK (m + e) (j + e) b = true
  | [], _, _, _ => rfl
  | c :: b, m, j, h => by
    unfold tokOK at h ⊢
    split at h
    · rename_i z
      rw [if_pos z]
      exact tok_mono b h (by omega) (Nat.le_refl _)
    · rename_i z
      rw [Bool.and_eq_true, decide_eq_true_eq] at h
      rw [if_neg z, decide_eq_true (by omega)]
      have i := tok_shift e b h.2
      rw [show j + 1 + e = j + e + 1 by omega] at i
      rw [i]
      rfl
theorem tok_ins (s : Nat) : ∀ (a b : List Nat) {m j : Nat}, tokOK m j (a ++ b) = true → j ≤ m → tokOK (2 * m + 1) j (a ++ s :: b) = true
  | [], b, m, j, h, hj => by
    have h' : tokOK m j b = true := h
    show tokOK (2 * m + 1) j (s :: b) = true
    unfold tokOK
    split
    · exact tok_mono b h' (by omega) (by omega)
    · rw [decide_eq_true (by omega), tok_mono b (tok_shift 1 b h') (by omega) (Nat.le_refl _)]; rfl
  | c :: a, b, m, j, h, hj => by
    have h' : tokOK m j (c :: (a ++ b)) = true := h
    show tokOK (2 * m + 1) j (c :: (a ++ s :: b)) = true
    unfold tokOK at h' ⊢
    split at h'
    · rename_i z
      rw [if_pos z]
      exact tok_ins s a b h' (Nat.zero_le _)
    · rename_i z
      rw [Bool.and_eq_true, decide_eq_true_eq] at h'
      rw [if_neg z, decide_eq_true (by omega), tok_ins s a b h'.2 h'.1]
      rfl
theorem tok_del (x : Nat) : ∀ (a b : List Nat) {m j : Nat}, tokOK m j (a ++ x :: b) = true → j ≤ m → tokOK (2 * m + 1) j (a ++ b) = true
  | [], b, m, j, h, hj => by
    have h' : tokOK m j (x :: b) = true := h
    show tokOK (2 * m + 1) j b = true
    unfold tokOK at h'
    split at h'
    · exact tok_mono b (tok_shift j b h') (by omega) (by omega)
    · rw [Bool.and_eq_true] at h'
      exact tok_mono b h'.2 (by omega) (by omega)
  | c :: a, b, m, j, h, hj => by
    have h' : tokOK m j (c :: (a ++ x :: b)) = true := h
    show tokOK (2 * m + 1) j (c :: (a ++ b)) = true
    unfold tokOK at h' ⊢
    split at h'
    · rename_i z
      rw [if_pos z]
      exact tok_del x a b h' (Nat.zero_le _)
    · rename_i z
      rw [Bool.and_eq_true, decide_eq_true_eq] at h'
      rw [if_neg z, decide_eq_true (by omega), tok_del x a b h'.2 h'.1]
      rfl
/-- what is asked of a text that both readers read -/
structure TxtOK (t : List Nat) : Prop where
  dp : dOK 10 0 t = true
  tk : tokOK 500 0 t = true
  no : ∀ c ∈ t, c ≠ 59
  ln : t.length ≤ 20000
theorem drawn_txt {d : D} (h : drw 5 d = true) : dOK 5 0 (wrT d) = true ∧ tokOK 42 0 (wrT d) = true ∧ (∀ c ∈ wrT d, c ≠ 59) ∧ (wrT d).length ≤ 11000 := by
  refine ⟨?_, ?_, no59_d d 5 h, ?_⟩
  · have := dOK_d 5 d 5 0 [] h (Nat.le_refl _) rfl
    rwa [List.append_nil] at this
  · have := tok_d d 5 [] h fun _ _ => rfl
    rwa [List.append_nil] at this
  · have := (len_drawn d 5 h).1
    have e : Wn 5 = 10811 := by decide
    omega
theorem bent_ins {d : D} (h : drw 5 d = true) (i s : Nat) (hs : s ≠ 59) : TxtOK ((wrT d).take i ++ s :: (wrT d).drop i) := by
  obtain ⟨h1, h2, h3, h4⟩ := drawn_txt h
  rw [← List.take_append_drop i (wrT d)] at h1 h2
  refine ⟨dOK_mono _ (dOK_ins s _ _ h1 (by omega)) (by omega) (Nat.le_refl _), tok_mono _ (tok_ins s _ _ h2 (by omega)) (by omega) (Nat.le_refl _), fun c hc => ?_, ?_⟩
  · rcases List.mem_append.mp hc with q | q
    · exact h3 c (List.mem_of_mem_take q)
    · rcases List.mem_cons.mp q with q | q
      · rw [q]; exact hs
      · exact h3 c (List.mem_of_mem_drop q)
  · rw [List.length_append, List.length_cons, List.length_take, List.length_drop]
    omega
theorem take_drop1 (t : List Nat) (i : Nat) : (t.take i ++ t.drop (i + 1) = t ∧ t.drop i = []) ∨ ∃ x, t = t.take i ++ x :: t.drop (i + 1) := by
  cases q : t.drop i with
  | nil =>
    have hl := List.drop_eq_nil_iff.mp q
    refine .inl ⟨?_, rfl⟩
    rw [List.drop_eq_nil_of_le (by omega), List.take_of_length_le hl, List.append_nil]
  | cons x r =>
    refine .inr ⟨x, ?_⟩
    have e : t.drop (i + 1) = r := by
      have := List.drop_drop (i := 1) (j := i) (l := t)
      rw [q] at this
      simpa using this.symm
    rw [e, ← q, List.take_append_drop]
theorem bent_del0 {d : D} (h : drw 5 d = true) (i : Nat) : dOK 6 0 ((wrT d).take i ++ (wrT d).drop (i + 1)) = true ∧ tokOK 85 0 ((wrT d).take i ++ (wrT d).drop (i + 1)) = true ∧ (∀ c ∈ (wrT d).take i ++ (wrT d).drop (i + 1), c ≠ 59) ∧ ((wrT d).take i ++ (wrT d).drop (i + 1)).length ≤ 11000 := by
  obtain ⟨h1, h2, h3, h4⟩ := drawn_txt h
  have p3 : ∀ c ∈ (wrT d).take i ++ (wrT d).drop (i + 1), c ≠ 59 := fun c hc => by
    rcases List.mem_append.mp hc with q | q
    · exact h3 c (List.mem_of_mem_take q)
    · exact h3 c (List.mem_of_mem_drop q)
  have p4 : ((wrT d).take i ++ (wrT d).drop (i + 1)).length ≤ 11000 := by
    rw [List.length_append, List.length_take, List.length_drop]
    omega
  rcases take_drop1 (wrT d) i with ⟨e, _⟩ | ⟨x, e⟩
  · exact ⟨by rw [e]; exact dOK_mono _ h1 (by omega) (Nat.le_refl _), by rw [e]; exact tok_mono _ h2 (by omega) (Nat.le_refl _), p3, p4⟩
  · rw [e] at h1 h2
    exact ⟨dOK_del x _ _ h1, tok_del x _ _ h2 (by omega), p3, p4⟩
theorem bent_del {d : D} (h : drw 5 d = true) (i : Nat) : TxtOK ((wrT d).take i ++ (wrT d).drop (i + 1)) := by
  obtain ⟨h1, h2, h3, h4⟩ := bent_del0 h i
  exact ⟨dOK_mono _ h1 (by omega) (Nat.le_refl _), tok_mono _ h2 (by omega) (Nat.le_refl _), h3, by omega⟩
theorem bent_rep {d : D} (h : drw 5 d = true) (i s : Nat) (hs : s ≠ 59) : TxtOK ((wrT d).take i ++ s :: (wrT d).drop (i + 1)) := by
  obtain ⟨h1, h2, h3, h4⟩ := bent_del0 h i
  refine ⟨dOK_mono _ (dOK_ins s _ _ h1 (by omega)) (by omega) (Nat.le_refl _), tok_mono _ (tok_ins s _ _ h2 (by omega)) (by omega) (Nat.le_refl _), fun c hc => ?_, ?_⟩
  · rcases List.mem_append.mp hc with q | q
    · exact h3 c (List.mem_append_left _ q)
    · rcases List.mem_cons.mp q with q | q
      · rw [q]; exact hs
      · exact h3 c (List.mem_append_right _ q)
  · rw [List.length_append] at h4
    rw [List.length_append, List.length_cons]
    omega
end K53
set_option Elab.async false
set_option linter.all false
set_option maxRecDepth 100000
set_option maxHeartbeats 1000000
namespace K53
open PySem PySem.Spec PyProof.Rows L2 SL PySem.NumText
/-! ### numbers that are shown -/
mutual
def intsD : D → Bool
  | .int i => decide (i.natAbs.log2 < 1900)
  | .tup ds => intsDs ds
  | .non => true
  | .bl _ => true
  | .str _ => true
  | .ref _ => true
  | .ty _ => true
  | .frl _ => true
def intsDs : List D → Bool
  | [] => true
  | d :: ds => intsD d && intsDs ds
end
theorem intsDs_app : ∀ (a : List D) (d : D), intsDs a = true → intsD d = true → intsDs (a ++ [d]) = true
  | [], d, _, h => by
    show intsDs [d] = true
    unfold intsDs intsDs
    rw [h]; rfl
  | x :: a, d, ha, h => by
    unfold intsDs at ha
    rw [Bool.and_eq_true] at ha
    show intsDs (x :: (a ++ [d])) = true
    unfold intsDs
    rw [ha.1, intsDs_app a d ha.2 h]
    rfl
theorem val_lt : ∀ (cs : List Nat) (a : Nat), AllDigits cs → cs.foldl (fun acc c => acc * 10 + (c - 48)) a < (a + 1) * 10 ^ cs.length
  | [], a, _ => by simp
  | c :: cs, a, h => by
    have hc := (h c List.mem_cons_self).2
    have i := val_lt cs (a * 10 + (c - 48)) fun x hx => h x (List.mem_cons_of_mem _ hx)
    show cs.foldl (fun acc c => acc * 10 + (c - 48)) (a * 10 + (c - 48)) < (a + 1) * 10 ^ (cs.length + 1)
    rw [Nat.pow_succ]
    have e : (a + 1) * (10 ^ cs.length * 10) = ((a + 1) * 10) * 10 ^ cs.length := by rw [Nat.mul_comm (10 ^ cs.length) 10, Nat.mul_assoc]
    rw [e]
    refine Nat.lt_of_lt_of_le i (Nat.mul_le_mul_right _ ?_)
    omega
theorem digits_lt {cs : List Nat} (h : AllDigits cs) : digitsVal cs < 10 ^ cs.length := by
  have := val_lt cs 0 h
  rw [Nat.zero_add, Nat.one_mul] at this
  exact this
theorem num_small {t : List Nat} {n : Int} (e : numR t = some n) (hl : t.length ≤ 500) : decide (n.natAbs.log2 < 1900) = true := by
  unfold numR at e
  split at e
  · rename_i h
    unfold numC at h
    simp only [Bool.and_eq_true, Bool.not_eq_true', Bool.and_eq_false_iff, decide_eq_false_iff_not, Bool.not_eq_false', decide_eq_true_eq, List.isEmpty_eq_false_iff] at h
    obtain ⟨h1, h2, h3⟩ := h
    have key : ∀ cs : List Nat, AllDigits cs → cs.length ≤ 500 → (digitsVal cs).log2 < 1900 := fun cs hd hl => by
      have a := digits_lt hd
      have b : (10 : Nat) ^ cs.length ≤ 10 ^ 500 := Nat.pow_le_pow_right (by decide) hl
      have c : (10 : Nat) ^ 500 < 2 ^ 1900 := by decide +kernel
      by_cases z : digitsVal cs = 0
      · rw [z]; decide
      · exact (Nat.log2_lt z).mpr (by omega)
    by_cases hm : t.take 1 = [45]
    · have eb : bodyOf t = t.drop 1 := if_pos hm
      cases t with
      | nil => cases hm
      | cons c r =>
        have ec : c = 45 := by simpa using hm
        subst ec
        rw [eb] at h1 h2
        rw [List.length_cons] at hl
        have e2 := intText_neg (x := T (45 :: r)) rfl (digs_of (t := r) h2) h1 (by show (45 :: r).length ≤ 4300; rw [List.length_cons]; omega)
        rw [e2] at e
        cases e
        rw [Int.natAbs_neg, Int.natAbs_natCast]
        exact decide_eq_true (key r (digs_of (t := r) h2) (by omega))
    · have eb : bodyOf t = t := if_neg hm
      rw [eb] at h1 h2
      have e2 := intText_digits (x := T t) (digs_of h2) h1 (by show t.length ≤ 4300; omega)
      rw [e2] at e
      cases e
      rw [Int.natAbs_natCast]
      exact decide_eq_true (key t (digs_of h2) hl)
  · cases e
theorem atom_ints {p : List Nat} {d : D} (e : atomR p = some d) (hl : p.length ≤ 500) : intsD d = true := by
  unfold atomR at e
  repeat' split at e
  all_goals first
    | (cases e; rfl)
    | skip
  cases q : numR p with
  | none => rw [q] at e; cases e
  | some n =>
    rw [q] at e
    cases e
    unfold intsD
    exact num_small q hl
def intsS (s : St) : Prop := (∀ row ∈ s.rows, intsDs row = true) ∧ ∀ d, s.cur = some d → intsD d = true
theorem step_ints {m : Nat} {p : List Nat} {s s' : St} (e : stepP m p s = some s') (hl : p.length ≤ 500) (h : intsS s) : intsS s' := by
  obtain ⟨rows, cur⟩ := s
  obtain ⟨h1, h2⟩ := h
  have h1' : ∀ row ∈ rows, intsDs row = true := h1
  unfold stepP at e
  split at e
  · unfold stO at e
    cases cur with
    | some d => cases e
    | none =>
      dsimp only at e
      split at e
      · cases e
        refine ⟨fun row hr => ?_, fun d hd => (nomatch hd)⟩
        rcases List.mem_cons.mp hr with q | q
        · subst q; rfl
        · exact h1' row q
      · cases e
  · split at e
    · cases rows with
      | nil => cases cur <;> cases e
      | cons r rest =>
        cases cur with
        | some d =>
          cases e
          refine ⟨fun row hr => h1' row (List.mem_cons_of_mem _ hr), fun x hx => ?_⟩
          cases hx
          unfold intsD
          exact intsDs_app r d (h1' r List.mem_cons_self) (h2 d rfl)
        | none =>
          have e2 : (if r = [] then some (⟨rest, some (.tup [])⟩ : St) else none) = some s' := e
          split at e2
          · cases e2
            refine ⟨fun row hr => h1' row (List.mem_cons_of_mem _ hr), fun x hx => ?_⟩
            cases hx
            rfl
          · cases e2
    · split at e
      · cases rows with
        | nil => cases cur <;> cases e
        | cons r rest =>
          cases cur with
          | none => cases e
          | some d =>
            cases e
            refine ⟨fun row hr => ?_, fun x hx => (nomatch hx)⟩
            rcases List.mem_cons.mp hr with q | q
            · rw [q]; exact intsDs_app r d (h1' r List.mem_cons_self) (h2 d rfl)
            · exact h1' row (List.mem_cons_of_mem _ q)
      · unfold stA at e
        cases cur with
        | some d => cases e
        | none =>
          dsimp only at e
          cases q : atomR p with
          | none => rw [q] at e; cases e
          | some d =>
            rw [q] at e
            cases e
            refine ⟨h1', fun x hx => ?_⟩
            cases hx
            exact atom_ints q hl
theorem steps_ints {m : Nat} : ∀ {ps : List (List Nat)} {s s' : St}, stepsP m ps s = some s' → (∀ p ∈ ps, p.length ≤ 500) → intsS s → intsS s'
  | [], s, s', e, _, h => by cases e; exact h
  | p :: ps, s, s', e, hl, h => by
    have e1 : (stepP m p s).bind (stepsP m ps) = some s' := e
    cases q : stepP m p s with
    | none => rw [q] at e1; cases e1
    | some s1 =>
      rw [q] at e1
      exact steps_ints (s := s1) e1 (fun x hx => hl x (List.mem_cons_of_mem _ hx)) (step_ints q (hl p List.mem_cons_self) h)
theorem read_ints {m : Nat} {t : List Nat} {d : D} (e : readR m t = some d) (hl : ∀ p ∈ pieces t [], p.length ≤ 500) : intsD d = true := by
  unfold readR at e
  cases q : stepsP m (pieces t []) ⟨[], none⟩ with
  | none => rw [q] at e; cases e
  | some s =>
    rw [q] at e
    have i := steps_ints q hl ⟨fun r hr => (nomatch hr), fun d hd => (nomatch hd)⟩
    obtain ⟨rows, cur⟩ := s
    cases rows with
    | cons r rest => cases cur <;> cases e
    | nil =>
      cases cur with
      | none => cases e
      | some x => cases e; exact i.2 d rfl
/-! ### repr of good data -/
theorem len_ge1 {d : D} (g : goodD d = true) : 1 ≤ (wrT d).length := by
  cases d with
  | tup ds => rw [wrT_tup, List.length_cons]; omega
  | bl b => cases b <;> (unfold wrT; decide)
  | int i =>
    unfold wrT txtI
    have e : 1 ≤ (toString i).toList.length := by
      cases i with
      | ofNat m =>
        show 1 ≤ (Nat.repr m).toList.length
        rw [Nat.toList_repr]
        have := tDigits_len_ge 10 m
        exact this
      | negSucc m =>
        show 1 ≤ ("-" ++ toString (m + 1)).toList.length
        rw [String.toList_append, List.length_append]
        show 1 ≤ 1 + _
        omega
    rw [signs_ofString, List.length_map]
    exact e
  | str z =>
    unfold wrT
    split
    · simp
    · rename_i q
      exact List.length_pos_iff.mpr q
  | non => cases g
  | ref _ => cases g
  | ty _ => cases g
  | frl _ => cases g
end K53
set_option Elab.async false
set_option linter.all false
set_option maxRecDepth 100000
set_option maxHeartbeats 1000000
namespace K53
open PySem PySem.Spec PyProof.Rows L2 SL PySem.NumText
theorem join_le : ∀ ts : List Str, (Str.join ", " ts).length ≤ (ts.map fun t => t.length + 2).sum
  | [] => by show 0 ≤ _; exact Nat.zero_le _
  | [x] => by
    show x.length ≤ (x.length + 2) + 0
    omega
  | x :: y :: r => by
    have ih := join_le (y :: r)
    show (x ++ ", " ++ Str.join ", " (y :: r)).length ≤ (x.length + 2) + ((y :: r).map fun t => t.length + 2).sum
    have e : ∀ a b : Str, (a ++ b).length = a.length + b.length := fun a b => by
      show (Str.append a b).length = _
      unfold Str.append Str.length
      simp
    have e2 : (", " : Str).length = 2 := by decide
    rw [e, e, e2]
    omega
theorem app_len (a b : Str) : (a ++ b).length = a.length + b.length := by
  show (Str.append a b).length = _
  unfold Str.append Str.length
  simp
theorem tupText_le (ts : List Str) : (tupleText ts).length ≤ 3 + (ts.map fun t => t.length + 2).sum := by
  unfold tupleText
  have j := join_le ts
  have e1 : ("(" : Str).length = 1 := by decide
  have e2 : (Str.ofString (if ts.length == 1 then ",)" else ")")).length ≤ 2 := by
    split <;> decide
  rw [app_len, app_len, e1]
  omega
mutual
theorem shown_d : ∀ d : D, goodD d = true → intsD d = true → (pd d).showable = true ∧ (pd d).hasDict = false ∧ (pd d).shown.length ≤ 12 * (wrT d).length
  | .bl b, _, _ => by
    refine ⟨rfl, rfl, ?_⟩
    cases b <;> (unfold wrT; decide)
  | .int i, g, h => by
    have l1 := len_ge1 g
    unfold intsD at h
    have h' : i.natAbs.log2 < 1900 := of_decide_eq_true h
    refine ⟨decide_eq_true (by omega), rfl, ?_⟩
    show (Str.ofString (toString i)).length ≤ 12 * (wrT (.int i)).length
    have e : wrT (.int i) = txtI i := by unfold wrT; rfl
    rw [e]
    have e2 : (txtI i).length = (Str.ofString (toString i)).length := by
      unfold txtI Str.length
      simp
    omega
  | .str z, g, h => by
    have l1 := len_ge1 g
    refine ⟨rfl, rfl, ?_⟩
    show (reprText z).length ≤ 12 * (wrT (.str z)).length
    unfold goodD at g
    rw [Bool.or_eq_true, decide_eq_true_eq] at g
    have lw : ∀ c ∈ z.cps.toList, c < 16 ^ 8 := by
      intro c hc
      rcases g with g | g
      · rw [g] at hc; cases hc
      · have := word_low g c hc
        have e : (16 : Nat) ^ 8 = 4294967296 := by decide
        omega
    have rl := PySem.StrLaws.reprText_len z lw
    have zl : z.length ≤ (wrT (.str z)).length := by
      unfold wrT
      have e : z.length = z.cps.toList.length := by unfold Str.length; simp
      rw [e]
      split
      · rename_i q; rw [q]; simp
      · exact Nat.le_refl _
    omega
  | .tup ds, g, h => by
    unfold goodD at g
    unfold intsD at h
    obtain ⟨a, b, c⟩ := shown_ds ds g h
    refine ⟨a, b, ?_⟩
    show (tupleText (PyData.shownAll (pds ds))).length ≤ _
    have t := tupText_le (PyData.shownAll (pds ds))
    rw [wrT_tup, List.length_cons, List.length_append, List.length_singleton]
    omega
  | .non, g, _ => by cases g
  | .ref _, g, _ => by cases g
  | .ty _, g, _ => by cases g
  | .frl _, g, _ => by cases g
theorem shown_ds : ∀ ds : List D, goods ds = true → intsDs ds = true → PyData.showableAll (pds ds) = true ∧ PyData.hasDictAll (pds ds) = false ∧ ((PyData.shownAll (pds ds)).map fun t => t.length + 2).sum ≤ 12 * (wrsT ds).length + 2
  | [], _, _ => ⟨rfl, rfl, by show 0 ≤ _; exact Nat.zero_le _⟩
  | [d], g, h => by
    unfold goods at g
    unfold intsDs at h
    rw [Bool.and_eq_true] at g h
    obtain ⟨a, b, c⟩ := shown_d d g.1 h.1
    refine ⟨?_, ?_, ?_⟩
    · show ((pd d).showable && true) = true
      rw [a]; rfl
    · show ((pd d).hasDict || false) = false
      rw [b]; rfl
    · rw [wrsT_one]
      show (pd d).shown.length + 2 + 0 ≤ _
      omega
  | d :: e :: ds, g, h => by
    unfold goods at g
    unfold intsDs at h
    rw [Bool.and_eq_true] at g h
    obtain ⟨a, b, c⟩ := shown_d d g.1 h.1
    obtain ⟨a2, b2, c2⟩ := shown_ds (e :: ds) g.2 h.2
    refine ⟨?_, ?_, ?_⟩
    · show ((pd d).showable && PyData.showableAll (pds (e :: ds))) = true
      rw [a, a2]; rfl
    · show ((pd d).hasDict || PyData.hasDictAll (pds (e :: ds))) = false
      rw [b, b2]; rfl
    · rw [wrsT_cons2, List.length_append, List.length_cons]
      show (pd d).shown.length + 2 + ((PyData.shownAll (pds (e :: ds))).map fun t => t.length + 2).sum ≤ _
      omega
end
theorem repr_ok {d : D} (g : goodD d = true) (h : intsD d = true) (hd : depD d ≤ 60) (hl : (wrT d).length ≤ 30000) : reprOk (.list [pd d]) = true := by
  obtain ⟨a, b, c⟩ := shown_d d g h
  have sl : sizeLine = 16777216 := sizeLine_eq
  unfold reprOk
  have e1 : (PyData.list [pd d]).showable = true := by
    show ((pd d).showable && true) = true
    rw [a]; rfl
  have e2 : (PyData.list [pd d]).hasDict = false := by
    show ((pd d).hasDict || false) = false
    rw [b]; rfl
  have e3 : (PyData.list [pd d]).depth ≤ 62 := by
    show max (pd d).depth 0 + 1 ≤ 62
    rw [dep_pd]
    omega
  have e4 : (PyData.list [pd d]).shown.length ≤ sizeLine := by
    show (listText [(pd d).shown]).length ≤ _
    have : listText [(pd d).shown] = ("[" : Str) ++ (if 0 > 0 then ", " else "" : String) ++ (pd d).shown ++ "]" := rfl
    rw [this, app_len, app_len, app_len]
    have x1 : ("[" : Str).length = 1 := by decide
    have x2 : ("]" : Str).length = 1 := by decide
    have x3 : (Str.ofString (if 0 > 0 then ", " else "")).length = 0 := by decide
    rw [x1, x2, x3]
    omega
  rw [e1, e2, decide_eq_true e3, decide_eq_true e4]
  rfl
/-- repr([d]) -/
theorem repr_list {h : List O} {m : Nat} {d : D} (e : h[m]? = some (.lst [d])) (g : goodD d = true) (hi : intsD d = true) (hd : depD d ≤ 60) (hl : (wrT d).length ≤ 30000) (hz : szD d ≤ 900000) : fRepr [.ref m] h = .ok (.str (PyData.list [pd d]).shown) h := by
  have t1 : toPy h pyF (.ref m) = some (.list [pd d]) := by
    show toPy h (999999 + 1) (.ref m) = _
    rw [toPy_ref e, toPys_good h 999999 [d] (by unfold goods goods; rw [g]; rfl) (by unfold szs szs; omega)]
    rfl
  show (match toPy h pyF (.ref m) with
    | some p => if reprOk p = true then R.ok (D.str p.shown) h else .bad
    | none => .bad) = _
  rw [t1]
  exact if_pos (repr_ok g hi hd hl)
/-! ### read_data -/
theorem read_good {m : Nat} {t : List Nat} {d : D} (e : readR m t = some d) : goodD d = true := by
  have key : ∀ (ps : List (List Nat)) (s s' : St), stepsP m ps s = some s' → ((∀ row ∈ s.rows, goods row = true) ∧ ∀ d, s.cur = some d → goodD d = true) → ((∀ row ∈ s'.rows, goods row = true) ∧ ∀ d, s'.cur = some d → goodD d = true) := by
    intro ps
    induction ps with
    | nil => intro s s' e h; cases e; exact h
    | cons p ps ih =>
      intro s s' e h
      have e1 : (stepP m p s).bind (stepsP m ps) = some s' := e
      cases q : stepP m p s with
      | none => rw [q] at e1; cases e1
      | some s1 =>
        rw [q] at e1
        refine ih s1 s' e1 ?_
        obtain ⟨rows, cur⟩ := s
        obtain ⟨h1, h2⟩ := h
        have h1' : ∀ row ∈ rows, goods row = true := h1
        unfold stepP at q
        split at q
        · unfold stO at q
          cases cur with
          | some d => cases q
          | none =>
            dsimp only at q
            split at q
            · cases q
              refine ⟨fun row hr => ?_, fun d hd => (nomatch hd)⟩
              rcases List.mem_cons.mp hr with z | z
              · subst z; rfl
              · exact h1' row z
            · cases q
        · split at q
          · cases rows with
            | nil => cases cur <;> cases q
            | cons r rest =>
              cases cur with
              | some d =>
                cases q
                refine ⟨fun row hr => h1' row (List.mem_cons_of_mem _ hr), fun x hx => ?_⟩
                cases hx
                unfold goodD
                exact goods_app r d (h1' r List.mem_cons_self) (h2 d rfl)
              | none =>
                have e2 : (if r = [] then some (⟨rest, some (.tup [])⟩ : St) else none) = some s1 := q
                split at e2
                · cases e2
                  refine ⟨fun row hr => h1' row (List.mem_cons_of_mem _ hr), fun x hx => ?_⟩
                  cases hx
                  rfl
                · cases e2
          · split at q
            · cases rows with
              | nil => cases cur <;> cases q
              | cons r rest =>
                cases cur with
                | none => cases q
                | some d =>
                  cases q
                  refine ⟨fun row hr => ?_, fun x hx => (nomatch hx)⟩
                  rcases List.mem_cons.mp hr with z | z
                  · rw [z]; exact goods_app r d (h1' r List.mem_cons_self) (h2 d rfl)
                  · exact h1' row (List.mem_cons_of_mem _ z)
            · unfold stA at q
              cases cur with
              | some d => cases q
              | none =>
                dsimp only at q
                cases z : atomR p with
                | none => rw [z] at q; cases q
                | some d =>
                  rw [z] at q
                  cases q
                  refine ⟨h1', fun x hx => ?_⟩
                  cases hx
                  exact (atom_good z).1
  unfold readR at e
  cases q : stepsP m (pieces t []) ⟨[], none⟩ with
  | none => rw [q] at e; cases e
  | some s =>
    rw [q] at e
    have i := key _ _ _ q ⟨fun r hr => (nomatch hr), fun d hd => (nomatch hd)⟩
    obtain ⟨rows, cur⟩ := s
    cases rows with
    | cons r rest => cases cur <;> cases e
    | nil =>
      cases cur with
      | none => cases e
      | some x => cases e; exact i.2 d rfl
theorem read_T (t : List Nat) (h : List O) (ht : t.length ≤ 1000000) (hp : ∀ p ∈ pieces t [], p.length ≤ 4000) : F_read_data [.str (T t)] h = match readR 1000 t with
    | some d => .ok d h
    | none => .exc "Malformed" h := by
  have r := read_run t ht hp
  cases q : readR 1000 t with
  | none =>
    rw [q] at r
    obtain ⟨h', e⟩ := r
    exact pureOr_exc e rfl
  | some d =>
    rw [q] at r
    obtain ⟨h', e⟩ := r
    exact pureOr_ok e (good_flat d (read_good q)) rfl
theorem read_no (d : D) (h : List O) (n : String) (hn : ∀ h, tyName d h = some n) (hs : n = "tuple" ∨ n = "int" ∨ n = "bool" ∨ n = "NoneType") : F_read_data [d] h = .exc "Malformed" h := by
  refine pureOr_excA (fun h => ?_) h
  have i0 : fIsi [d, .ty "str"] h = .ok (.bl false) h := by
    unfold fIsi
    simp only [hn]
    rcases hs with e | e | e | e <;> (subst e; rfl)
  unfold runDef m_read_data
  rw [show startD 3 [d] = [some d, none, none] from rfl]
  simp only [sSeq_ap, seq_nx, seq_rt, seq_exc, seq_bad, sNext_ap, sRet_ap, sRetN_ap, sExpr_ap, sSet_ap, sIf_ap, sRaise_ap, sFor_ap, sAsg_ap, sPar_ap, par2_ap, sPar3_ap, par3_ap, mVar_ap, mC_ap, mOp_ap, mUn_ap, mTst_ap, asB_ap, mAnd_ap, mOr_ap, mNot_ap, mIf_ap, mAndV_ap, mOrV_ap, mNotV_ap, mChain_ap, mNil_ap, mCons_ap, mTup_ap, mLst_ap, mCB_ap, mCBL_ap, mNew_ap, allocL_ap, mNoPart_ap, mPart_ap, asI_ap, mSl_ap, mCall_ap, mMt_ap, mSrc_ap, mSrcA_ap, mSrcN_ap, capL_ap, mLcI_ap, mDisp_ap, mInTab_ap, mDispGet_ap, mMeth_ap, one1_ap, gtName_ap, gtS_name, R.bind_ok, R.bind_exc, R.bind_bad, R.thn_ok, R.thn_exc, R.thn_bad, List.getElem?_cons_zero, List.getElem?_cons_succ, List.set_cons_zero, List.set_cons_succ, if_true, Bool.not_true, Bool.not_false, Bool.false_eq_true, if_false, decide_true, decide_false, i0]
/-! ### _law_told -/
theorem ct_mal : ct_Malformed "Malformed" = some true := by rfl
theorem told0_ok {v d : D} {h h1 : List O} (e : F_write_data [v] h = .ok d h1) : F__law_told [.int 0, v] h = .ok (.ref h1.length) (h1 ++ [.lst [d]]) := by
  unfold F__law_told runDef m__law_told
  rw [show startD 2 [D.int 0, v] = [some (.int 0), some v] from rfl]
  unfold sTry
  simp only [sSeq_ap, seq_nx, seq_rt, seq_exc, seq_bad, sNext_ap, sRet_ap, sRetN_ap, sExpr_ap, sSet_ap, sIf_ap, sRaise_ap, sFor_ap, sAsg_ap, sPar_ap, par2_ap, sPar3_ap, par3_ap, mVar_ap, mC_ap, mOp_ap, mUn_ap, mTst_ap, asB_ap, mAnd_ap, mOr_ap, mNot_ap, mIf_ap, mAndV_ap, mOrV_ap, mNotV_ap, mChain_ap, mNil_ap, mCons_ap, mTup_ap, mLst_ap, mCB_ap, mCBL_ap, mNew_ap, allocL_ap, mNoPart_ap, mPart_ap, asI_ap, mSl_ap, mCall_ap, mMt_ap, mSrc_ap, mSrcA_ap, mSrcN_ap, capL_ap, mLcI_ap, mDisp_ap, mInTab_ap, mDispGet_ap, mMeth_ap, one1_ap, gtName_ap, gtS_name, R.bind_ok, R.bind_exc, R.bind_bad, R.thn_ok, R.thn_exc, R.thn_bad, List.getElem?_cons_zero, List.getElem?_cons_succ, List.set_cons_zero, List.set_cons_succ, if_true, Bool.not_true, Bool.not_false, Bool.false_eq_true, if_false, decide_true, decide_false, fEq_int, List.length_cons, List.length_nil, e, nl1]
theorem told0_exc {v : D} {h h1 : List O} (e : F_write_data [v] h = .exc "Malformed" h1) : F__law_told [.int 0, v] h = .ok .non h1 := by
  unfold F__law_told runDef m__law_told
  rw [show startD 2 [D.int 0, v] = [some (.int 0), some v] from rfl]
  unfold sTry
  simp only [sSeq_ap, seq_nx, seq_rt, seq_exc, seq_bad, sNext_ap, sRet_ap, sRetN_ap, sExpr_ap, sSet_ap, sIf_ap, sRaise_ap, sFor_ap, sAsg_ap, sPar_ap, par2_ap, sPar3_ap, par3_ap, mVar_ap, mC_ap, mOp_ap, mUn_ap, mTst_ap, asB_ap, mAnd_ap, mOr_ap, mNot_ap, mIf_ap, mAndV_ap, mOrV_ap, mNotV_ap, mChain_ap, mNil_ap, mCons_ap, mTup_ap, mLst_ap, mCB_ap, mCBL_ap, mNew_ap, allocL_ap, mNoPart_ap, mPart_ap, asI_ap, mSl_ap, mCall_ap, mMt_ap, mSrc_ap, mSrcA_ap, mSrcN_ap, capL_ap, mLcI_ap, mDisp_ap, mInTab_ap, mDispGet_ap, mMeth_ap, one1_ap, gtName_ap, gtS_name, R.bind_ok, R.bind_exc, R.bind_bad, R.thn_ok, R.thn_exc, R.thn_bad, List.getElem?_cons_zero, List.getElem?_cons_succ, List.set_cons_zero, List.set_cons_succ, if_true, Bool.not_true, Bool.not_false, Bool.false_eq_true, if_false, decide_true, decide_false, fEq_int, List.length_cons, List.length_nil, e, nl1, ct_mal]
theorem told1_ok {v d : D} {h h1 : List O} (e : F_read_data [v] h = .ok d h1) : F__law_told [.int 1, v] h = .ok (.ref h1.length) (h1 ++ [.lst [d]]) := by
  have q : decide ((1 : Int) = 0) = false := by decide
  unfold F__law_told runDef m__law_told
  rw [show startD 2 [D.int 1, v] = [some (.int 1), some v] from rfl]
  unfold sTry
  simp only [sSeq_ap, seq_nx, seq_rt, seq_exc, seq_bad, sNext_ap, sRet_ap, sRetN_ap, sExpr_ap, sSet_ap, sIf_ap, sRaise_ap, sFor_ap, sAsg_ap, sPar_ap, par2_ap, sPar3_ap, par3_ap, mVar_ap, mC_ap, mOp_ap, mUn_ap, mTst_ap, asB_ap, mAnd_ap, mOr_ap, mNot_ap, mIf_ap, mAndV_ap, mOrV_ap, mNotV_ap, mChain_ap, mNil_ap, mCons_ap, mTup_ap, mLst_ap, mCB_ap, mCBL_ap, mNew_ap, allocL_ap, mNoPart_ap, mPart_ap, asI_ap, mSl_ap, mCall_ap, mMt_ap, mSrc_ap, mSrcA_ap, mSrcN_ap, capL_ap, mLcI_ap, mDisp_ap, mInTab_ap, mDispGet_ap, mMeth_ap, one1_ap, gtName_ap, gtS_name, R.bind_ok, R.bind_exc, R.bind_bad, R.thn_ok, R.thn_exc, R.thn_bad, List.getElem?_cons_zero, List.getElem?_cons_succ, List.set_cons_zero, List.set_cons_succ, if_true, Bool.not_true, Bool.not_false, Bool.false_eq_true, if_false, decide_true, decide_false, fEq_int, q, List.length_cons, List.length_nil, e, nl1]
theorem told1_exc {v : D} {h h1 : List O} (e : F_read_data [v] h = .exc "Malformed" h1) : F__law_told [.int 1, v] h = .ok .non h1 := by
  have q : decide ((1 : Int) = 0) = false := by decide
  unfold F__law_told runDef m__law_told
  rw [show startD 2 [D.int 1, v] = [some (.int 1), some v] from rfl]
  unfold sTry
  simp only [sSeq_ap, seq_nx, seq_rt, seq_exc, seq_bad, sNext_ap, sRet_ap, sRetN_ap, sExpr_ap, sSet_ap, sIf_ap, sRaise_ap, sFor_ap, sAsg_ap, sPar_ap, par2_ap, sPar3_ap, par3_ap, mVar_ap, mC_ap, mOp_ap, mUn_ap, mTst_ap, asB_ap, mAnd_ap, mOr_ap, mNot_ap, mIf_ap, mAndV_ap, mOrV_ap, mNotV_ap, mChain_ap, mNil_ap, mCons_ap, mTup_ap, mLst_ap, mCB_ap, mCBL_ap, mNew_ap, allocL_ap, mNoPart_ap, mPart_ap, asI_ap, mSl_ap, mCall_ap, mMt_ap, mSrc_ap, mSrcA_ap, mSrcN_ap, capL_ap, mLcI_ap, mDisp_ap, mInTab_ap, mDispGet_ap, mMeth_ap, one1_ap, gtName_ap, gtS_name, R.bind_ok, R.bind_exc, R.bind_bad, R.thn_ok, R.thn_exc, R.thn_bad, List.getElem?_cons_zero, List.getElem?_cons_succ, List.set_cons_zero, List.set_cons_succ, if_true, Bool.not_true, Bool.not_false, Bool.false_eq_true, if_false, decide_true, decide_false, fEq_int, q, List.length_cons, List.length_nil, e, nl1, ct_mal]
end K53
set_option Elab.async false
set_option linter.all false
set_option maxRecDepth 100000
set_option maxHeartbeats 1000000
namespace K53
open PySem PySem.Spec PyProof.Rows L2 SL PySem.NumText
/-! ### the law's writer -/
theorem join_wrs : ∀ ds : List D, Txt.join (T [44]) (ds.map fun d => T (wrT d)) = T (wrsT ds) := by
  intro ds
  refine Eq.trans (PySem.StrLaws.glued_eq_join (T [44]) (ds.map fun d => T (wrT d))) ?_
  induction ds with
  | nil => rfl
  | cons a r ih =>
    cases r with
    | nil => rw [wrsT_one]; rfl
    | cons b r =>
      show T (wrT a) ++ T [44] ++ Str.join (T [44]) ((b :: r).map fun d => T (wrT d)) = _
      rw [ih, T_app, T_app, wrsT_cons2]
      simp
theorem strs_of (ds : List D) : getStrs (ds.map fun d => D.str (T (wrT d))) = some (ds.map fun d => T (wrT d)) := by
  induction ds with
  | nil => rfl
  | cons a r ih =>
    show getStrs (D.str (T (wrT a)) :: r.map fun d => D.str (T (wrT d))) = _
    unfold getStrs
    rw [ih]
    rfl
theorem scs_of (ds : List D) : scs (ds.map fun d => D.str (T (wrT d))) = some (ds.map fun d => V.str (T (wrT d))) := by
  induction ds with
  | nil => rfl
  | cons a r ih =>
    show scs (D.str (T (wrT a)) :: r.map fun d => D.str (T (wrT d))) = _
    unfold scs
    rw [ih]
    rfl
theorem non_in (ds : List D) : inV .non (ds.map fun d => V.str (T (wrT d))) = false := by
  induction ds with
  | nil => rfl
  | cons a r ih =>
    show (eqV (V.str (T (wrT a))) .non || inV .non (r.map fun d => V.str (T (wrT d)))) = false
    rw [ih]
    rfl
theorem small_of {i : Int} (h : decide (i.natAbs.log2 < 1900) = true) : small i = true := by
  have h' : i.natAbs.log2 < 1900 := of_decide_eq_true h
  have h1 : i.natAbs < 2 ^ (i.natAbs.log2 + 1) := Nat.lt_log2_self
  have h2 : (2 : Nat) ^ (i.natAbs.log2 + 1) ≤ 2 ^ 1900 := Nat.pow_le_pow_right (by decide) (by omega)
  have h3 : (2 : Nat) ^ 1900 < bigM := by unfold bigM; decide +kernel
  have h4 : i.natAbs < bigM := by omega
  unfold small
  rw [Bool.and_eq_true, decide_eq_true_eq, decide_eq_true_eq]
  constructor <;> omega
theorem sum_wrs : ∀ ds : List D, ((ds.map fun d => T (wrT d)).map (·.length)).sum + ds.length ≤ (wrsT ds).length + 1
  | [] => by simp [wrsT]
  | [d] => by
    rw [wrsT_one]
    show (wrT d).length + 0 + 1 ≤ _
    omega
  | d :: e :: ds => by
    have ih := sum_wrs (e :: ds)
    rw [wrsT_cons2, List.length_append, List.length_cons (as := wrsT (e :: ds))]
    show (wrT d).length + (((e :: ds).map fun d => T (wrT d)).map (·.length)).sum + ((e :: ds).length + 1) ≤ _
    omega
theorem goods_mem : ∀ {ds : List D}, goods ds = true → ∀ d ∈ ds, goodD d = true
  | [], _, d, hd => by cases hd
  | x :: ds, h, d, hd => by
    unfold goods at h
    rw [Bool.and_eq_true] at h
    rcases List.mem_cons.mp hd with q | q
    · rw [q]; exact h.1
    · exact goods_mem h.2 d q
theorem ints_mem : ∀ {ds : List D}, intsDs ds = true → ∀ d ∈ ds, intsD d = true
  | [], _, d, hd => by cases hd
  | x :: ds, h, d, hd => by
    unfold intsDs at h
    rw [Bool.and_eq_true] at h
    rcases List.mem_cons.mp hd with q | q
    · rw [q]; exact h.1
    · exact ints_mem h.2 d q
theorem deps_mem : ∀ {ds : List D}, ∀ d ∈ ds, depD d ≤ deps ds
  | [], d, hd => by cases hd
  | x :: ds, d, hd => by
    unfold deps
    rcases List.mem_cons.mp hd with q | q
    · rw [q]; omega
    · have := deps_mem d q; omega
theorem wrs_mem : ∀ {ds : List D}, ∀ d ∈ ds, (wrT d).length ≤ (wrsT ds).length
  | [], d, hd => by cases hd
  | [x], d, hd => by
    have : d = x := by simpa using hd
    rw [this, wrsT_one]
    exact Nat.le_refl _
  | x :: y :: ds, d, hd => by
    rw [wrsT_cons2, List.length_append, List.length_cons]
    rcases List.mem_cons.mp hd with q | q
    · rw [q]; omega
    · have := wrs_mem (ds := y :: ds) d q; omega
theorem written_T : ∀ (n : Nat) (d : D) (h : List O), goodD d = true → intsD d = true → depD d < n → (wrT d).length ≤ 1000000 → F__law_written n [d] h = .ok (.str (T (wrT d))) h
  | 0, _, _, _, _, hn, _ => absurd hn (Nat.not_lt_zero _)
  | n + 1, d, h, g, hi, hn, hl => by
    have sl : sizeLine = 16777216 := sizeLine_eq
    have hf : D.flats [d] = true := by
      show (d.flat && true) = true
      rw [good_flat d g]
      rfl
    unfold F__law_written
    cases d with
    | non => cases g
    | ref _ => cases g
    | ty _ => cases g
    | frl _ => cases g
    | bl b =>
      refine pureOr_ok (h1 := []) ?_ rfl rfl
      unfold runDef
      rw [show startD 3 [D.bl b] = [some (.bl b), none, none] from rfl]
      have i1 : fIsi [.bl b, .ty "tuple"] [] = .ok (.bl false) [] := rfl
      have i2 : fIsi [.bl b, .ty "bool"] [] = .ok (.bl true) [] := rfl
      have i3 : fStrN [.bl b] [] = .ok (.str (if b then "True" else "False")) [] := rfl
      have i4 : tabIx [("True", .str "+"), ("False", .str "-"), ("", .str ".")] (.str (if b then "True" else "False")) [] = .ok (.str (T (wrT (.bl b)))) [] := by
        unfold wrT
        cases b <;> rfl
      simp only [sSeq_ap, seq_nx, seq_rt, seq_exc, seq_bad, sNext_ap, sRet_ap, sRetN_ap, sExpr_ap, sSet_ap, sIf_ap, sRaise_ap, sFor_ap, sAsg_ap, sPar_ap, par2_ap, sPar3_ap, par3_ap, mVar_ap, mC_ap, mOp_ap, mUn_ap, mTst_ap, asB_ap, mAnd_ap, mOr_ap, mNot_ap, mIf_ap, mAndV_ap, mOrV_ap, mNotV_ap, mChain_ap, mNil_ap, mCons_ap, mTup_ap, mLst_ap, mCB_ap, mCBL_ap, mNew_ap, allocL_ap, mNoPart_ap, mPart_ap, asI_ap, mSl_ap, mCall_ap, mMt_ap, mSrc_ap, mSrcA_ap, mSrcN_ap, capL_ap, mLcI_ap, mDisp_ap, mInTab_ap, mDispGet_ap, mMeth_ap, one1_ap, gtName_ap, gtS_name, R.bind_ok, R.bind_exc, R.bind_bad, R.thn_ok, R.thn_exc, R.thn_bad, List.getElem?_cons_zero, List.getElem?_cons_succ, List.set_cons_zero, List.set_cons_succ, if_true, Bool.not_true, Bool.not_false, Bool.false_eq_true, if_false, decide_true, decide_false, i1, i2, i3, i4, List.length_cons, List.length_nil, law_word_other (.bl b) "bool" (fun _ => rfl) (by simp)]
    | int i =>
      refine pureOr_ok (h1 := []) ?_ rfl rfl
      unfold runDef
      rw [show startD 3 [D.int i] = [some (.int i), none, none] from rfl]
      unfold intsD at hi
      have i1 : fIsi [.int i, .ty "tuple"] [] = .ok (.bl false) [] := rfl
      have i2 : fIsi [.int i, .ty "bool"] [] = .ok (.bl false) [] := rfl
      have i3 : fIsi [.int i, .ty "str"] [] = .ok (.bl false) [] := rfl
      have i4 : fIsi [.int i, .ty "int"] [] = .ok (.bl true) [] := rfl
      have e : wrT (.int i) = txtI i := by unfold wrT; rfl
      rw [e]
      simp only [sSeq_ap, seq_nx, seq_rt, seq_exc, seq_bad, sNext_ap, sRet_ap, sRetN_ap, sExpr_ap, sSet_ap, sIf_ap, sRaise_ap, sFor_ap, sAsg_ap, sPar_ap, par2_ap, sPar3_ap, par3_ap, mVar_ap, mC_ap, mOp_ap, mUn_ap, mTst_ap, asB_ap, mAnd_ap, mOr_ap, mNot_ap, mIf_ap, mAndV_ap, mOrV_ap, mNotV_ap, mChain_ap, mNil_ap, mCons_ap, mTup_ap, mLst_ap, mCB_ap, mCBL_ap, mNew_ap, allocL_ap, mNoPart_ap, mPart_ap, asI_ap, mSl_ap, mCall_ap, mMt_ap, mSrc_ap, mSrcA_ap, mSrcN_ap, capL_ap, mLcI_ap, mDisp_ap, mInTab_ap, mDispGet_ap, mMeth_ap, one1_ap, gtName_ap, gtS_name, R.bind_ok, R.bind_exc, R.bind_bad, R.thn_ok, R.thn_exc, R.thn_bad, List.getElem?_cons_zero, List.getElem?_cons_succ, List.set_cons_zero, List.set_cons_succ, if_true, Bool.not_true, Bool.not_false, Bool.false_eq_true, if_false, decide_true, decide_false, i1, i2, i3, i4, fStrN_int i _ (small_of hi), List.length_cons, List.length_nil, law_word_other (.int i) "int" (fun _ => rfl) (by simp)]
    | str z =>
      obtain ⟨t, rfl⟩ : ∃ t, z = T t := ⟨_, T_of z⟩
      refine pureOr_ok (h1 := []) ?_ rfl rfl
      unfold runDef
      rw [show startD 3 [D.str (T t)] = [some (.str (T t)), none, none] from rfl]
      have e : wrT (.str (T t)) = if t = [] then [46] else t := by unfold wrT; rfl
      rw [e] at hl ⊢
      have i1 : fIsi [.str (T t), .ty "tuple"] [] = .ok (.bl false) [] := rfl
      have i2 : fIsi [.str (T t), .ty "bool"] [] = .ok (.bl false) [] := rfl
      have i3 : fIsi [.str (T t), .ty "str"] [] = .ok (.bl true) [] := rfl
      have i4 : fStrN [.str (T t)] [] = .ok (.str (T t)) [] := rfl
      have i5 : tabIx [("True", .str "+"), ("False", .str "-"), ("", .str ".")] (.str (T [])) [] = .ok (.str (T [46])) [] := rfl
      unfold goodD at g
      rw [T_cps, Bool.or_eq_true, decide_eq_true_eq] at g
      by_cases z0 : t = []
      · subst z0
        have w0 : F__law_word [.str (T [])] [] = .ok (.bl false) [] := law_word_T [] [] (Nat.zero_le _)
        rw [if_pos rfl]
        rw [lit_nil]
        have i5' : tabIx [("True", .str "+"), ("False", .str "-"), (T [], .str ".")] (.str (T [])) [] = .ok (.str (T [46])) [] := rfl
        simp only [sSeq_ap, seq_nx, seq_rt, seq_exc, seq_bad, sNext_ap, sRet_ap, sRetN_ap, sExpr_ap, sSet_ap, sIf_ap, sRaise_ap, sFor_ap, sAsg_ap, sPar_ap, par2_ap, sPar3_ap, par3_ap, mVar_ap, mC_ap, mOp_ap, mUn_ap, mTst_ap, asB_ap, mAnd_ap, mOr_ap, mNot_ap, mIf_ap, mAndV_ap, mOrV_ap, mNotV_ap, mChain_ap, mNil_ap, mCons_ap, mTup_ap, mLst_ap, mCB_ap, mCBL_ap, mNew_ap, allocL_ap, mNoPart_ap, mPart_ap, asI_ap, mSl_ap, mCall_ap, mMt_ap, mSrc_ap, mSrcA_ap, mSrcN_ap, capL_ap, mLcI_ap, mDisp_ap, mInTab_ap, mDispGet_ap, mMeth_ap, one1_ap, gtName_ap, gtS_name, R.bind_ok, R.bind_exc, R.bind_bad, R.thn_ok, R.thn_exc, R.thn_bad, List.getElem?_cons_zero, List.getElem?_cons_succ, List.set_cons_zero, List.set_cons_succ, if_true, Bool.not_true, Bool.not_false, Bool.false_eq_true, if_false, decide_true, decide_false, i1, i2, i3, i4, i5', fEq_T, List.length_cons, List.length_nil, w0]
      · rw [if_neg z0] at hl ⊢
        have hw : wordC t = true := g.resolve_left z0
        simp only [sSeq_ap, seq_nx, seq_rt, seq_exc, seq_bad, sNext_ap, sRet_ap, sRetN_ap, sExpr_ap, sSet_ap, sIf_ap, sRaise_ap, sFor_ap, sAsg_ap, sPar_ap, par2_ap, sPar3_ap, par3_ap, mVar_ap, mC_ap, mOp_ap, mUn_ap, mTst_ap, asB_ap, mAnd_ap, mOr_ap, mNot_ap, mIf_ap, mAndV_ap, mOrV_ap, mNotV_ap, mChain_ap, mNil_ap, mCons_ap, mTup_ap, mLst_ap, mCB_ap, mCBL_ap, mNew_ap, allocL_ap, mNoPart_ap, mPart_ap, asI_ap, mSl_ap, mCall_ap, mMt_ap, mSrc_ap, mSrcA_ap, mSrcN_ap, capL_ap, mLcI_ap, mDisp_ap, mInTab_ap, mDispGet_ap, mMeth_ap, one1_ap, gtName_ap, gtS_name, R.bind_ok, R.bind_exc, R.bind_bad, R.thn_ok, R.thn_exc, R.thn_bad, List.getElem?_cons_zero, List.getElem?_cons_succ, List.set_cons_zero, List.set_cons_succ, if_true, Bool.not_true, Bool.not_false, Bool.false_eq_true, if_false, decide_true, decide_false, i1, List.length_cons, List.length_nil, law_word_T t [] (by omega), hw]
    | tup ds =>
      unfold goodD at g
      unfold intsD at hi
      unfold depD at hn
      rw [wrT_tup] at hl ⊢
      rw [List.length_cons, List.length_append, List.length_singleton] at hl
      have sm := sum_wrs ds
      have i1 : fIsi [.tup ds, .ty "tuple"] [] = .ok (.bl true) [] := rfl
      have cm : ∀ ρ : Sl, ρ.length = 3 → compL (gtName 2) tYesD (mCall 1 (F__law_written n) (mCons (mVar 2) mNil)) (fun _ => true) (wipeD ρ [2]) ds [] = .ok (ds.map fun d => D.str (T (wrT d))) [] := fun ρ hρ =>
        compL_map (f := fun d => .str (T (wrT d))) rfl fun d hd => by
          have ih := written_T n d [] (goods_mem g d hd) (ints_mem hi d hd) (by have := deps_mem (ds := ds) d hd; omega) (by have := wrs_mem (ds := ds) d hd; omega)
          have e2 : ((wipeD ρ [2]).set 2 (some d))[2]? = some (some d) := by
            rw [List.getElem?_set_self]
            show 2 < (ρ.set 2 none).length
            rw [List.length_set, hρ]
            decide
          simp only [mCall_ap, mCons_ap, mVar_ap, e2, R.bind_ok, mNil_ap, List.length_cons, List.length_nil, if_true, ih]
      have dl : ds.length ≤ sizeLine := by omega
      refine pureOr_ok (h1 := [.lst (ds.map fun d => D.str (T (wrT d)))]) ?_ rfl hf
      unfold runDef
      rw [show startD 3 [D.tup ds] = [some (.tup ds), none, none] from rfl]
      have src : mSrc srcT (mVar 0) [some (.tup ds), none, none] [] = .ok (ds, fun _ => true) [] := rfl
      have lc : mLcI (mSrc srcT (mVar 0)) [2] (gtName 2) tYesD (mCall 1 (F__law_written n) (mCons (mVar 2) mNil)) [some (.tup ds), none, none] [] = .ok (ds.map fun d => D.str (T (wrT d))) [] := by
        rw [mLcI_ap, src, R.bind_ok, if_pos dl]
        exact cm _ rfl
      have at0 : ([O.lst (ds.map fun d => D.str (T (wrT d)))] : List O)[0]? = some (.lst (ds.map fun d => D.str (T (wrT d)))) := rfl
      have it : itemsD (.ref 0) [O.lst (ds.map fun d => D.str (T (wrT d)))] = some (ds.map fun d => D.str (T (wrT d))) := rfl
      have nin : fIn .non (.ref 0) [O.lst (ds.map fun d => D.str (T (wrT d)))] = .ok (.bl false) [O.lst (ds.map fun d => D.str (T (wrT d)))] := by
        have e : inD .non (.ref 0) [O.lst (ds.map fun d => D.str (T (wrT d)))] = some false := by
          show (match itemsD (.ref 0) [O.lst (ds.map fun d => D.str (T (wrT d)))] with
            | some ds => (match inFlat .non ds with
              | some b => some b
              | none => inDeep .non (.ref 0) _)
            | none => none) = _
          rw [it]
          have ef : inFlat .non (ds.map fun d => D.str (T (wrT d))) = some false := by
            show (match D.sc .non, scs (ds.map fun d => D.str (T (wrT d))) with
              | some v, some vs => some (inV v vs)
              | _, _ => none) = _
            rw [scs_of]
            show some (inV .non _) = _
            rw [non_in]
          dsimp only
          rw [ef]
        unfold fIn
        rw [e]
      have jn : fJoin (.str (T [44])) [.ref 0] [O.lst (ds.map fun d => D.str (T (wrT d)))] = .ok (.str (T (wrsT ds))) [O.lst (ds.map fun d => D.str (T (wrT d)))] := by
        show (match itemsD (.ref 0) [O.lst (ds.map fun d => D.str (T (wrT d)))] with
          | some ds => fJoinI (.str (T [44])) ds _
          | none => .bad) = _
        rw [it]
        show (match D.str (T [44]), getStrs (ds.map fun d => D.str (T (wrT d))) with
          | .str a, some ys => if joinOk a ys = true then R.ok (D.str (Txt.join a ys)) _ else .bad
          | _, _ => .bad) = _
        rw [strs_of]
        show (if joinOk (T [44]) (ds.map fun d => T (wrT d)) = true then _ else _) = _
        have ok : joinOk (T [44]) (ds.map fun d => T (wrT d)) = true := by
          unfold joinOk
          refine decide_eq_true ?_
          rw [List.length_map]
          have : (T [44]).length = 1 := rfl
          rw [this]
          omega
        rw [if_pos ok, join_wrs]
      have ad1 : ∀ h, fAdd (.str (T [91])) (.str (T (wrsT ds))) h = .ok (.str (T (91 :: wrsT ds))) h := fun h => by
        show (if (T [91]).length + (T (wrsT ds)).length ≤ sizeLine then R.ok (D.str (T [91] ++ T (wrsT ds))) h else .bad) = _
        rw [if_pos (by rw [T_len, T_len, List.length_singleton]; omega), T_app]
        rfl
      have ad2 : ∀ h, fAdd (.str (T (91 :: wrsT ds))) (.str (T [93])) h = .ok (.str (T (91 :: (wrsT ds ++ [93])))) h := fun h => by
        show (if (T (91 :: wrsT ds)).length + (T [93]).length ≤ sizeLine then R.ok (D.str (T (91 :: wrsT ds) ++ T [93])) h else .bad) = _
        rw [if_pos (by rw [T_len, T_len, List.length_singleton, List.length_cons]; omega), T_app]
        rfl
      have ts : ∀ h, tyStr (.str (T [44])) h = true := fun _ => rfl
      rw [lit_open, lit_close, lit_comma]
      rw [sSeq_ap, sIf_ap]
      simp only [mTst_ap, mCB_ap, mCons_ap, mVar_ap, List.getElem?_cons_zero, mC_ap, mNil_ap, R.bind_ok, i1, asB_ap, R.thn_ok, if_true]
      rw [sSeq_ap, sSet_ap, mNew_ap, lc]
      simp only [R.bind_ok, allocL_ap, R.thn_ok, seq_nx, List.set_cons_succ, List.set_cons_zero, List.length_nil, List.nil_append]
      simp only [sRet_ap, mIf_ap, mTst_ap, mOp_ap, mC_ap, mVar_ap, List.getElem?_cons_succ, List.getElem?_cons_zero, R.bind_ok, nin, asB_ap, Bool.false_eq_true, if_false, mMt_ap, ts, if_true, mCons_ap, mNil_ap, jn, ad1, ad2, R.thn_ok, seq_rt]
end K53
set_option Elab.async false
set_option linter.all false
set_option maxRecDepth 100000
set_option maxHeartbeats 1000000
namespace K53
open PySem PySem.Spec PyProof.Rows L2 SL PySem.NumText
/-! ### drawing -/
theorem fIx_ref {h : List O} {k j : Nat} {xs : List D} (e : h[k]? = some (.lst xs)) (hj : j < xs.length) : fIx (.ref k) (.int (j : Nat)) h = .ok (xs.getD j .non) h := by
  have i : itemsD (.ref k) h = some xs := by
    show (match h[k]? with
      | some (.lst ds) => some ds
      | _ => none) = _
    rw [e]
  have a : atI xs ((j : Nat) : Int) = some (xs.getD j .non) := by
    unfold atI ixN
    rw [if_pos (by omega), if_pos (by omega)]
    simp [List.getElem?_eq_getElem hj, List.getD_eq_getElem?_getD]
  show (match itemsD (.ref k) h with
    | some ds => (match atI ds ((j : Nat) : Int) with
      | some d => R.ok d h
      | none => .bad)
    | none => .bad) = _
  rw [i]
  show (match atI xs ((j : Nat) : Int) with
      | some d => R.ok d h
      | none => .bad) = _
  rw [a]
theorem fSet_ref {h : List O} {k j : Nat} {xs : List D} {v : D} (e : h[k]? = some (.lst xs)) (hj : j < xs.length) : fSetL (.ref k) (.int (j : Nat)) v h = .ok () (h.set k (.lst (xs.set j v))) := by
  have a : ixN xs.length ((j : Nat) : Int) = some j := by
    unfold ixN
    rw [if_pos (by omega), if_pos (by omega)]
    simp
  show (match h[k]? with
    | some (.lst ds) => (match ixN ds.length ((j : Nat) : Int) with
      | some j => R.ok () (h.set k (.lst (ds.set j v)))
      | none => .bad)
    | _ => .bad) = _
  rw [e]
  show (match ixN xs.length ((j : Nat) : Int) with
      | some j => R.ok () (h.set k (.lst (xs.set j v)))
      | none => .bad) = _
  rw [a]
theorem asg_sub {m : ME} {ρ : Sl} {h : List O} {k : Nat} {xs : List D} {v : D} (j : Nat) (hm : m ρ h = .ok v h) (hρ : ρ[0]? = some (some (.ref k))) (e : h[k]? = some (.lst xs)) (hj : j < xs.length) : sAsg m (gtSub fSetL (mVar 0) (mC (.int (j : Nat)))) ρ h = .nx ρ (h.set k (.lst (xs.set j v))) := by
  rw [sAsg_ap, hm, R.thn_ok]
  unfold gtS gtSub
  simp only [mVar_ap, hρ, R.bind_ok, mC_ap, fSet_ref e hj]
abbrev dl (c : Nat) (a b e s u : Int) : List D := [.ref c, .int a, .int b, .int e, .int s, .int u]
/-- the drawing object at k, its cells at c -/
def Dr (h : List O) (k c : Nat) (U : Int) : Prop := ∃ (cells : List Int) (a b e s u : Int), h[k]? = some (.lst (dl c a b e s u)) ∧ h[c]? = some (.lst (cells.map D.int)) ∧ c ≠ k ∧ 0 ≤ a ∧ 0 ≤ u ∧ u ≤ U
theorem mod_ok (i j : Int) (h : List O) (hj : 0 < j) : fMod (.int i) (.int j) h = .ok (.int (i % j)) h := by
  show (if 0 < j then R.ok (D.int (i % j)) h else _) = _
  rw [if_pos hj]
theorem div_ok (i j : Int) (h : List O) (hj : 0 < j) (h2 : j < 1073741824) : fDiv (.int i) (.int j) h = .ok (.int (i / j)) h := by
  show (if 0 < j ∧ (j < 1073741824 ∨ j.natAbs.log2 ≤ 8999) then R.ok (D.int (i / j)) h else _) = _
  rw [if_pos ⟨hj, .inl h2⟩]
theorem mul_okI (i j : Int) (h : List O) (hj : j.natAbs < 2 ^ 64) : fMul (.int i) (.int j) h = .ok (.int (i * j)) h := by
  have e : mulOk i j = true := by
    unfold mulOk
    rw [decide_eq_true hj]
    simp
  show (if mulOk i j = true then R.ok (D.int (i * j)) h else _) = _
  rw [if_pos e]
theorem int_ok (i : Int) (h : List O) : fIntN [.int i] h = .ok (.int i) h := rfl
/-- the second half of _law_take -/
def takeB : MS := sIf (mTst (mOp fGt (mOp fIx (mVar 0) (mC (.int 3))) (mC (.int 0)))) (sSeq (sSet 2 (mOp fMod (mCB fIntN (mCons (mOp fIx (mVar 0) (mC (.int 2))) mNil)) (mVar 1)))
    (sSeq (sAsg (mOp fDiv (mOp fIx (mVar 0) (mC (.int 2))) (mVar 1)) (gtSub fSetL (mVar 0) (mC (.int 2))))
    (sSeq (sAsg (mIf (mTst (mOp fGt (mOp fIx (mVar 0) (mC (.int 2))) (mC (.int 0)))) (mOp fSub (mOp fIx (mVar 0) (mC (.int 3))) (mC (.int 1))) (mC (.int 0))) (gtSub fSetL (mVar 0) (mC (.int 3))))
    (sRet (mVar 2))))) sNext
def takeC : MS := sSeq (sAsg (mOp fAdd (mOp fIx (mVar 0) (mC (.int 5))) (mC (.int 1))) (gtSub fSetL (mVar 0) (mC (.int 5))))
    (sSeq (sAsg (mOp fMod (mCB fIntN (mCons (mOp fAdd (mOp fAdd (mOp fMul (mOp fIx (mVar 0) (mC (.int 4))) (mC (.int 48271))) (mOp fMul (mOp fMul (mOp fIx (mVar 0) (mC (.int 5))) (mOp fIx (mVar 0) (mC (.int 5)))) (mC (.int 69621)))) (mC (.int 11))) mNil)) (mC (.int 2147483647))) (gtSub fSetL (mVar 0) (mC (.int 4))))
    (sRet (mOp fMod (mCB fIntN (mCons (mOp fDiv (mOp fIx (mVar 0) (mC (.int 4))) (mC (.int 13))) mNil)) (mVar 1))))
def takeA : MS := sIf (mAnd (mTst (mOp fEq (mOp fIx (mVar 0) (mC (.int 3))) (mC (.int 0)))) (mTst (mOp fLt (mOp fIx (mVar 0) (mC (.int 1))) (mCB fLen (mCons (mOp fIx (mVar 0) (mC (.int 0))) mNil))))) (sAsg (mTup (mCons (mOp fIx (mOp fIx (mVar 0) (mC (.int 0))) (mOp fIx (mVar 0) (mC (.int 1)))) (mCons (mC (.int 60)) (mCons (mOp fAdd (mOp fIx (mVar 0) (mC (.int 1))) (mC (.int 1))) mNil)))) (gtTup (gtLen 3 (gtCons (gtSub fSetL (mVar 0) (mC (.int 2))) (gtCons (gtSub fSetL (mVar 0) (mC (.int 3))) (gtCons (gtSub fSetL (mVar 0) (mC (.int 1))) gtNil)))))) sNext
theorem m_take_eq : m__law_take = sSeq takeA (sSeq takeB takeC) := rfl
section
variable {h : List O} {k c : Nat} {a b e s u many : Int} {o2 : Option D}
abbrev rT (k : Nat) (many : Int) (o2 : Option D) : Sl := [some (.ref k), some (.int many), o2]
theorem ix0 (H : h[k]? = some (.lst (dl c a b e s u))) : fIx (.ref k) (.int 0) h = .ok (.ref c) h := fIx_ref (j := 0) H (by simp)
theorem ix1 (H : h[k]? = some (.lst (dl c a b e s u))) : fIx (.ref k) (.int 1) h = .ok (.int a) h := fIx_ref (j := 1) H (by simp)
theorem ix2 (H : h[k]? = some (.lst (dl c a b e s u))) : fIx (.ref k) (.int 2) h = .ok (.int b) h := fIx_ref (j := 2) H (by simp)
theorem ix3 (H : h[k]? = some (.lst (dl c a b e s u))) : fIx (.ref k) (.int 3) h = .ok (.int e) h := fIx_ref (j := 3) H (by simp)
theorem ix4 (H : h[k]? = some (.lst (dl c a b e s u))) : fIx (.ref k) (.int 4) h = .ok (.int s) h := fIx_ref (j := 4) H (by simp)
theorem ix5 (H : h[k]? = some (.lst (dl c a b e s u))) : fIx (.ref k) (.int 5) h = .ok (.int u) h := fIx_ref (j := 5) H (by simp)
theorem setK {x : O} (H : h[k]? = some (.lst (dl c a b e s u))) : (h.set k x)[k]? = some x := by
  rw [List.getElem?_set_self (List.getElem?_eq_some_iff.mp H).1]
theorem takeB_pos (H : h[k]? = some (.lst (dl c a b e s u))) (he : 0 < e) (hm : 0 < many ∧ many < 1000000) : ∃ b' e', takeB (rT k many o2) h = .rt (.int (b % many)) (h.set k (.lst (dl c a b' e' s u))) := by
  have lt : decide ((0 : Int) < e) = true := decide_eq_true he
  unfold takeB
  rw [sIf_ap]
  simp only [mTst_ap, mOp_ap, mVar_ap, mC_ap, List.getElem?_cons_zero, R.bind_ok, ix3 H, fGt_int, lt, asB_ap, R.thn_ok, if_true]
  rw [sSeq_ap, sSet_ap]
  simp only [mOp_ap, mCB_ap, mCons_ap, mVar_ap, mC_ap, List.getElem?_cons_zero, List.getElem?_cons_succ, R.bind_ok, ix2 H, mNil_ap, int_ok, mod_ok _ _ _ hm.1, R.thn_ok, seq_nx, List.set_cons_succ, List.set_cons_zero]
  have A1 := asg_sub (m := mOp fDiv (mOp fIx (mVar 0) (mC (.int 2))) (mVar 1)) (ρ := rT k many (some (.int (b % many)))) (v := .int (b / many)) 2 (by
    simp only [mOp_ap, mVar_ap, mC_ap, List.getElem?_cons_zero, List.getElem?_cons_succ, R.bind_ok, ix2 H, div_ok _ _ _ hm.1 (by omega)]) rfl H (by simp)
  have H1 : (h.set k (.lst (dl c a (b / many) e s u)))[k]? = some (.lst (dl c a (b / many) e s u)) := setK H
  have A2 : ∃ e', sAsg (mIf (mTst (mOp fGt (mOp fIx (mVar 0) (mC (.int 2))) (mC (.int 0)))) (mOp fSub (mOp fIx (mVar 0) (mC (.int 3))) (mC (.int 1))) (mC (.int 0))) (gtSub fSetL (mVar 0) (mC (.int 3))) (rT k many (some (.int (b % many)))) (h.set k (.lst (dl c a (b / many) e s u))) = .nx (rT k many (some (.int (b % many)))) ((h.set k (.lst (dl c a (b / many) e s u))).set k (.lst (dl c a (b / many) e' s u))) := by
    by_cases q : (0 : Int) < b / many
    · refine ⟨e - 1, asg_sub (v := .int (e - 1)) 3 ?_ rfl H1 (by simp)⟩
      have lt2 : decide ((0 : Int) < b / many) = true := decide_eq_true q
      simp only [mIf_ap, mTst_ap, mOp_ap, mVar_ap, mC_ap, List.getElem?_cons_zero, R.bind_ok, ix2 H1, ix3 H1, fGt_int, lt2, asB_ap, if_true, fSub_int]
    · refine ⟨0, asg_sub (v := .int 0) 3 ?_ rfl H1 (by simp)⟩
      have lt2 : decide ((0 : Int) < b / many) = false := decide_eq_false q
      simp only [mIf_ap, mTst_ap, mOp_ap, mVar_ap, mC_ap, List.getElem?_cons_zero, R.bind_ok, ix2 H1, fGt_int, lt2, asB_ap, Bool.false_eq_true, if_false]
  obtain ⟨e', A2⟩ := A2
  refine ⟨b / many, e', ?_⟩
  have A1' : sAsg (mOp fDiv (mOp fIx (mVar 0) (mC (.int 2))) (mVar 1)) (gtSub fSetL (mVar 0) (mC (.int 2))) (rT k many (some (.int (b % many)))) h = .nx (rT k many (some (.int (b % many)))) (h.set k (.lst (dl c a (b / many) e s u))) := A1
  rw [sSeq_ap, A1', seq_nx, sSeq_ap, A2, seq_nx, List.set_set]
  rfl
theorem takeB_neg (H : h[k]? = some (.lst (dl c a b e s u))) (he : ¬ 0 < e) : takeB (rT k many o2) h = .nx (rT k many o2) h := by
  have lt : decide ((0 : Int) < e) = false := decide_eq_false he
  unfold takeB
  rw [sIf_ap]
  simp only [mTst_ap, mOp_ap, mVar_ap, mC_ap, List.getElem?_cons_zero, R.bind_ok, ix3 H, fGt_int, lt, asB_ap, R.thn_ok, Bool.false_eq_true, if_false, sNext_ap]
theorem takeC_run (H : h[k]? = some (.lst (dl c a b e s u))) (hm : 0 < many ∧ many < 1000000) (hu : 0 ≤ u ∧ u < 1000000000) : ∃ s' v, takeC (rT k many o2) h = .rt (.int v) (h.set k (.lst (dl c a b e s' (u + 1)))) ∧ 0 ≤ v ∧ v < many := by
  have A1 : sAsg (mOp fAdd (mOp fIx (mVar 0) (mC (.int 5))) (mC (.int 1))) (gtSub fSetL (mVar 0) (mC (.int 5))) (rT k many o2) h = .nx (rT k many o2) (h.set k (.lst (dl c a b e s (u + 1)))) :=
    asg_sub (v := .int (u + 1)) 5 (by simp only [mOp_ap, mVar_ap, mC_ap, List.getElem?_cons_zero, R.bind_ok, ix5 H, fAdd_int]) rfl H (by simp)
  have H1 : (h.set k (.lst (dl c a b e s (u + 1))))[k]? = some (.lst (dl c a b e s (u + 1))) := setK H
  have m1 : (48271 : Int).natAbs < 2 ^ 64 := by decide
  have m2 : (69621 : Int).natAbs < 2 ^ 64 := by decide
  have m3 : (u + 1).natAbs < 2 ^ 64 := by omega
  have p7 : (0 : Int) < 2147483647 := by decide
  have A2 : sAsg (mOp fMod (mCB fIntN (mCons (mOp fAdd (mOp fAdd (mOp fMul (mOp fIx (mVar 0) (mC (.int 4))) (mC (.int 48271))) (mOp fMul (mOp fMul (mOp fIx (mVar 0) (mC (.int 5))) (mOp fIx (mVar 0) (mC (.int 5)))) (mC (.int 69621)))) (mC (.int 11))) mNil)) (mC (.int 2147483647))) (gtSub fSetL (mVar 0) (mC (.int 4))) (rT k many o2) (h.set k (.lst (dl c a b e s (u + 1)))) = .nx (rT k many o2) ((h.set k (.lst (dl c a b e s (u + 1)))).set k (.lst (dl c a b e ((s * 48271 + (u + 1) * (u + 1) * 69621 + 11) % 2147483647) (u + 1)))) :=
    asg_sub (v := .int ((s * 48271 + (u + 1) * (u + 1) * 69621 + 11) % 2147483647)) 4 (by
      simp only [mOp_ap, mCB_ap, mCons_ap, mVar_ap, mC_ap, List.getElem?_cons_zero, R.bind_ok, ix4 H1, ix5 H1, mul_okI _ _ _ m1, mul_okI _ _ _ m2, mul_okI _ _ _ m3, fAdd_int, mNil_ap, int_ok, mod_ok _ _ _ p7]) rfl H1 (by simp)
  rw [List.set_set] at A2
  have H2 : (h.set k (.lst (dl c a b e ((s * 48271 + (u + 1) * (u + 1) * 69621 + 11) % 2147483647) (u + 1))))[k]? = some (.lst (dl c a b e ((s * 48271 + (u + 1) * (u + 1) * 69621 + 11) % 2147483647) (u + 1))) := setK H
  refine ⟨(s * 48271 + (u + 1) * (u + 1) * 69621 + 11) % 2147483647, (s * 48271 + (u + 1) * (u + 1) * 69621 + 11) % 2147483647 / 13 % many, ?_, Int.emod_nonneg _ (by omega), Int.emod_lt_of_pos _ hm.1⟩
  unfold takeC
  rw [sSeq_ap, A1, seq_nx, sSeq_ap, A2, seq_nx, sRet_ap]
  simp only [mOp_ap, mCB_ap, mCons_ap, mVar_ap, mC_ap, List.getElem?_cons_zero, List.getElem?_cons_succ, R.bind_ok, ix4 H2, div_ok _ _ _ (show (0 : Int) < 13 by decide) (show (13 : Int) < 1073741824 by decide), mNil_ap, int_ok, mod_ok _ _ _ hm.1, R.thn_ok]
end
theorem takeA_run {h : List O} {k c : Nat} {U many : Int} {o2 : Option D} (H : Dr h k c U) : ∃ h1, takeA (rT k many o2) h = .nx (rT k many o2) h1 ∧ Dr h1 k c U ∧ (∀ i, i ≠ k → h1[i]? = h[i]?) ∧ h1.length = h.length := by
  obtain ⟨cells, a, b, e, s, u, H1, H2, ne, ha, hu0, hu⟩ := H
  unfold takeA
  rw [sIf_ap]
  have ll : fLen [.ref c] h = .ok (.int (cells.length : Int)) h := by rw [len_ok H2, List.length_map]
  by_cases q : e = 0 ∧ a < (cells.length : Int)
  · obtain ⟨rfl, q2⟩ := q
    obtain ⟨j, rfl⟩ := Int.eq_ofNat_of_zero_le ha
    have hj : j < cells.length := by omega
    have cx : fIx (.ref c) (.int (j : Nat)) h = .ok ((cells.map D.int).getD j .non) h := fIx_ref H2 (by rw [List.length_map]; exact hj)
    have cv : (cells.map D.int).getD j .non = .int (cells.getD j 0) := by
      simp [List.getD_eq_getElem?_getD, List.getElem?_eq_getElem hj]
    have lt : decide (((j : Nat) : Int) < (cells.length : Int)) = true := decide_eq_true q2
    have z0 : decide ((0 : Int) = 0) = true := by decide
    simp only [mAnd_ap, mTst_ap, mOp_ap, mVar_ap, mC_ap, List.getElem?_cons_zero, R.bind_ok, ix3 H1, fEq_int, decide_true, asB_ap, if_true, ix1 H1, ix0 H1, mCB_ap, mCons_ap, mNil_ap, ll, fLt_int, lt, R.thn_ok]
    have t3 : ∀ (a b c : D) h, newTup [a, b, c] h = .ok (.tup [a, b, c]) h := fun _ _ _ _ => rfl
    have S1 : (h.set k (.lst (dl c j (cells.getD j 0) 0 s u)))[k]? = some (.lst (dl c j (cells.getD j 0) 0 s u)) := setK H1
    have S2 : (h.set k (.lst (dl c j (cells.getD j 0) 60 s u)))[k]? = some (.lst (dl c j (cells.getD j 0) 60 s u)) := setK H1
    have f1 : fSetL (.ref k) (.int 2) (.int (cells.getD j 0)) h = .ok () (h.set k (.lst (dl c j (cells.getD j 0) 0 s u))) := fSet_ref (j := 2) H1 (by simp)
    have f2 : fSetL (.ref k) (.int 3) (.int 60) (h.set k (.lst (dl c j (cells.getD j 0) 0 s u))) = .ok () (h.set k (.lst (dl c j (cells.getD j 0) 60 s u))) := by
      have := fSet_ref (j := 3) (v := .int 60) S1 (by simp)
      rw [List.set_set] at this
      exact this
    have f3 : fSetL (.ref k) (.int 1) (.int ((j : Int) + 1)) (h.set k (.lst (dl c j (cells.getD j 0) 60 s u))) = .ok () (h.set k (.lst (dl c ((j : Int) + 1) (cells.getD j 0) 60 s u))) := by
      have := fSet_ref (j := 1) (v := .int ((j : Int) + 1)) S2 (by simp)
      rw [List.set_set] at this
      exact this
    refine ⟨h.set k (.lst (dl c ((j : Int) + 1) (cells.getD j 0) 60 s u)), ?_, ⟨cells, (j : Int) + 1, cells.getD j 0, 60, s, u, setK H1, ?_, ne, by omega, hu0, hu⟩, fun i hi => List.getElem?_set_ne (Ne.symm hi), List.length_set⟩
    · rw [sAsg_ap]
      simp only [mTup_ap, mCons_ap, mOp_ap, mVar_ap, mC_ap, List.getElem?_cons_zero, R.bind_ok, ix0 H1, ix1 H1, cx, cv, fAdd_int, mNil_ap, t3, R.thn_ok]
      unfold gtS gtTup gtLen gtCons gtSub gtNil
      simp only [List.length_cons, List.length_nil, if_true, mVar_ap, List.getElem?_cons_zero, R.bind_ok, mC_ap, f1, f2, f3]
    · rw [List.getElem?_set_ne (Ne.symm ne)]; exact H2
  · have tst : (mAnd (mTst (mOp fEq (mOp fIx (mVar 0) (mC (.int 3))) (mC (.int 0)))) (mTst (mOp fLt (mOp fIx (mVar 0) (mC (.int 1))) (mCB fLen (mCons (mOp fIx (mVar 0) (mC (.int 0))) mNil))))) (rT k many o2) h = .ok false h := by
      simp only [mAnd_ap, mTst_ap, mOp_ap, mVar_ap, mC_ap, List.getElem?_cons_zero, R.bind_ok, ix3 H1, fEq_int, asB_ap, ix1 H1, ix0 H1, mCB_ap, mCons_ap, mNil_ap, ll, fLt_int]
      by_cases z : e = 0
      · rw [decide_eq_true z, if_pos rfl, decide_eq_false (fun y => q ⟨z, y⟩)]
      · rw [decide_eq_false z, if_neg (by decide)]
    rw [tst]
    exact ⟨h, rfl, ⟨cells, a, b, e, s, u, H1, H2, ne, ha, hu0, hu⟩, fun _ _ => rfl, rfl⟩
theorem take_T {h : List O} {k c : Nat} {U many : Int} (H : Dr h k c U) (hU : U < 1000000000) (hm : 0 < many ∧ many < 1000000) : ∃ v h', F__law_take [.ref k, .int many] h = .ok (.int v) h' ∧ 0 ≤ v ∧ v < many ∧ Dr h' k c (U + 1) ∧ (∀ i, i ≠ k → h'[i]? = h[i]?) ∧ h'.length = h.length := by
  obtain ⟨h1, e1, ⟨cells, a, b, e, s, u, H1, H2, ne, ha, hu0, hu⟩, k1, l1⟩ := takeA_run (many := many) (o2 := none) H
  unfold F__law_take runDef
  rw [m_take_eq, show startD 3 [D.ref k, .int many] = rT k many none from rfl, sSeq_ap, e1, seq_nx, sSeq_ap]
  by_cases he : 0 < e
  · obtain ⟨b', e', tb⟩ := takeB_pos (o2 := none) H1 he hm
    rw [tb]
    refine ⟨b % many, _, rfl, Int.emod_nonneg _ (by omega), Int.emod_lt_of_pos _ hm.1, ⟨cells, a, b', e', s, u, setK H1, ?_, ne, ha, hu0, by omega⟩, fun i hi => ?_, ?_⟩
    · rw [List.getElem?_set_ne (Ne.symm ne)]; exact H2
    · rw [List.getElem?_set_ne (Ne.symm hi)]; exact k1 i hi
    · rw [List.length_set]; exact l1
  · rw [takeB_neg H1 he, seq_nx]
    obtain ⟨s', v, tc, v0, v1⟩ := takeC_run (o2 := none) H1 hm ⟨hu0, by omega⟩
    rw [tc]
    refine ⟨v, _, rfl, v0, v1, ⟨cells, a, b, e, s', u + 1, setK H1, ?_, ne, ha, by omega, by omega⟩, fun i hi => ?_, ?_⟩
    · rw [List.getElem?_set_ne (Ne.symm ne)]; exact H2
    · rw [List.getElem?_set_ne (Ne.symm hi)]; exact k1 i hi
    · rw [List.length_set]; exact l1
end K53
set_option Elab.async false
set_option linter.all false
set_option maxRecDepth 100000
set_option maxHeartbeats 1000000
namespace K53
open PySem PySem.Spec PyProof.Rows L2 SL PySem.NumText
theorem Dr.app {h : List O} {k c : Nat} {U : Int} (H : Dr h k c U) (g : List O) : Dr (h ++ g) k c U := by
  obtain ⟨cells, a, b, e, s, u, H1, H2, r⟩ := H
  exact ⟨cells, a, b, e, s, u, by rw [List.getElem?_append_left (List.getElem?_eq_some_iff.mp H1).1]; exact H1, by rw [List.getElem?_append_left (List.getElem?_eq_some_iff.mp H2).1]; exact H2, r⟩
theorem Dr.mono {h : List O} {k c : Nat} {U V : Int} (H : Dr h k c U) (hv : U ≤ V) : Dr h k c V := by
  obtain ⟨cells, a, b, e, s, u, H1, H2, r1, r2, r3, r4⟩ := H
  exact ⟨cells, a, b, e, s, u, H1, H2, r1, r2, r3, by omega⟩
def Qn : Nat → Int
  | 0 => 4
  | n + 1 => 4 + 3 * Qn n
theorem Qn_pos : ∀ n, 4 ≤ Qn n
  | 0 => Int.le_refl _
  | n + 1 => by have := Qn_pos n; show 4 ≤ 4 + 3 * Qn n; omega
/-- what stays, of a heap that is drawn from -/
def Keep (h h' : List O) (k : Nat) : Prop := (∀ i, i ≠ k → i < h.length → h'[i]? = h[i]?) ∧ h.length ≤ h'.length
theorem Keep.trans {h h1 h2 : List O} {k : Nat} (a : Keep h h1 k) (b : Keep h1 h2 k) : Keep h h2 k :=
  ⟨fun i hi hl => (b.1 i hi (Nat.lt_of_lt_of_le hl a.2)).trans (a.1 i hi hl), Nat.le_trans a.2 b.2⟩
theorem Keep.app (h : List O) (g : List O) (k : Nat) : Keep h (h ++ g) k := ⟨fun i _ hl => List.getElem?_append_left hl, by rw [List.length_append]; omega⟩
theorem take_K {h : List O} {k c : Nat} {U many : Int} (H : Dr h k c U) (hU : U < 1000000000) (hm : 0 < many ∧ many < 1000000) : ∃ v h', F__law_take [.ref k, .int many] h = .ok (.int v) h' ∧ 0 ≤ v ∧ v < many ∧ Dr h' k c (U + 1) ∧ Keep h h' k := by
  obtain ⟨v, h', e, v0, v1, d, k1, l1⟩ := take_T H hU hm
  exact ⟨v, h', e, v0, v1, d, fun i hi _ => k1 i hi, by omega⟩
def leafs : List D := [.int 0, .int (-1), .int 7, .int (10 ^ 40), .int (-(10 ^ 20)), .int 1000, .bl true, .bl false, .str ""]
theorem leaf_in : ∀ j : Nat, j < 9 → leafs.getD j .non ∈ atoms := by decide +kernel
theorem word_in : ∀ j : Nat, j < 3 → D.str (T ([97, 98, 122, 57].drop j)) ∈ atoms := by decide +kernel
theorem lit_abz : ("abz9" : Str) = T [97, 98, 122, 57] := by decide +kernel
theorem long_in : D.str "a23456789012" ∈ atoms := by decide +kernel
theorem drw_of_atom {n : Nat} {d : D} (h : d ∈ atoms) : drw n d = true := by
  have f := atomF h
  have g := f.gd
  cases d with
  | tup ds => exact (not_atom_tup h).elim
  | bl b => unfold drw; exact decide_eq_true h
  | int b => unfold drw; exact decide_eq_true h
  | str b => unfold drw; exact decide_eq_true h
  | non => cases g
  | ref _ => cases g
  | ty _ => cases g
  | frl _ => cases g
def dataB (F : FA) : MS := sSeq (sSet 2 (mCall 2 F__law_take (mCons (mVar 0) (mCons (mC (.int 6)) mNil))))
    (sSeq (sIf (mAnd (mTst (mOp fGt (mVar 1) (mC (.int 0)))) (mTst (mOp fLt (mVar 2) (mC (.int 3))))) (sRet (mCBL fTuple (mLcI (mSrcA srcR1 (mCons (mCall 2 F__law_take (mCons (mVar 0) (mCons (mC (.int 4)) mNil))) mNil)) [3] (gtName 3) tYesD (mCall 2 F (mCons (mVar 0) (mCons (mOp fSub (mVar 1) (mC (.int 1))) mNil)))))) sNext)
    (sSeq (sIf (mTst (mOp fEq (mVar 2) (mC (.int 3)))) (sRet (mIf (mTst (mOp fGt (mCall 2 F__law_take (mCons (mVar 0) (mCons (mC (.int 4)) mNil))) (mC (.int 0)))) (mSl fSl (mC (.str "abz9")) (mPart (mCall 2 F__law_take (mCons (mVar 0) (mCons (mC (.int 3)) mNil)))) mNoPart) (mC (.str "a23456789012")))) sNext)
    (sRet (mOp fIx (mLst (mCons (mC (.int 0)) (mCons (mUn fNeg (mC (.int 1))) (mCons (mC (.int 7)) (mCons (mOp fPow (mC (.int 10)) (mC (.int 40))) (mCons (mUn fNeg (mOp fPow (mC (.int 10)) (mC (.int 20)))) (mCons (mC (.int 1000)) (mCons (mC (.bl true)) (mCons (mC (.bl false)) (mCons (mC (.str "")) mNil)))))))))) (mCall 2 F__law_take (mCons (mVar 0) (mCons (mC (.int 9)) mNil)))))))
theorem data_eq (n : Nat) (ds : List D) (h : List O) : F__law_data (n + 1) ds h = runDef 4 (dataB (F__law_data n)) ds h := rfl
theorem callT {ρ : Sl} {h h' : List O} {k : Nat} {v many : Int} (hρ : ρ[0]? = some (some (.ref k))) (e : F__law_take [.ref k, .int many] h = .ok (.int v) h') : mCall 2 F__law_take (mCons (mVar 0) (mCons (mC (.int many)) mNil)) ρ h = .ok (.int v) h' := by
  simp only [mCall_ap, mCons_ap, mVar_ap, hρ, R.bind_ok, mC_ap, mNil_ap, List.length_cons, List.length_nil, if_true, e]
theorem comp_data {k c : Nat} {m : Nat} {F : FA} {ρ : Sl} (hρ : ρ.length = 4) (h0 : ρ[0]? = some (some (.ref k))) (h1 : ρ[1]? = some (some (.int ((m + 1 : Nat) : Int))))
    (hF : ∀ (h : List O) (U : Int), Dr h k c U → U + Qn m < 900000000 → ∃ d h', F [.ref k, .int (m : Nat)] h = .ok d h' ∧ drw m d = true ∧ Dr h' k c (U + Qn m) ∧ Keep h h' k) :
    ∀ (ds : List D) (h : List O) (U : Int), Dr h k c U → U + (ds.length : Int) * Qn m < 900000000 →
      ∃ outs h', compL (gtName 3) tYesD (mCall 2 F (mCons (mVar 0) (mCons (mOp fSub (mVar 1) (mC (.int 1))) mNil))) (fun _ => true) ρ ds h = .ok outs h' ∧ outs.length = ds.length ∧ drws m outs = true ∧ Dr h' k c (U + (ds.length : Int) * Qn m) ∧ Keep h h' k
  | [], h, U, H, _ => ⟨[], h, rfl, rfl, rfl, H.mono (by simp), fun _ _ _ => rfl, Nat.le_refl _⟩
  | d :: ds, h, U, H, hU => by
    have qp := Qn_pos m
    have el : ((d :: ds).length : Int) * Qn m = (ds.length : Int) * Qn m + Qn m := by
      rw [List.length_cons]
      have : ((ds.length + 1 : Nat) : Int) = (ds.length : Int) + 1 := by omega
      rw [this, Int.add_mul, Int.one_mul]
    have np : 0 ≤ (ds.length : Int) * Qn m := Int.mul_nonneg (by omega) (by omega)
    rw [el] at hU ⊢
    obtain ⟨x, h2, e, dx, D2, K2⟩ := hF h U H (by omega)
    obtain ⟨outs, h3, e3, l3, d3, D3, K3⟩ := comp_data hρ h0 h1 hF ds h2 (U + Qn m) D2 (by omega)
    have r0 : (ρ.set 3 (some d))[0]? = some (some (.ref k)) := by rw [List.getElem?_set_ne (by decide)]; exact h0
    have r1 : (ρ.set 3 (some d))[1]? = some (some (.int ((m + 1 : Nat) : Int))) := by rw [List.getElem?_set_ne (by decide)]; exact h1
    have te : mCall 2 F (mCons (mVar 0) (mCons (mOp fSub (mVar 1) (mC (.int 1))) mNil)) (ρ.set 3 (some d)) h = .ok x h2 := by
      have em : ((m + 1 : Nat) : Int) - 1 = (m : Int) := by omega
      simp only [mCall_ap, mCons_ap, mVar_ap, r0, r1, R.bind_ok, mOp_ap, mC_ap, fSub_int, em, mNil_ap, List.length_cons, List.length_nil, if_true, e]
    refine ⟨x :: outs, h3, ?_, by rw [List.length_cons, List.length_cons, l3], ?_, D3.mono (by omega), K2.trans K3⟩
    · show (if true = true then _ else _) = _
      rw [if_pos rfl]
      unfold gtR
      simp only [gtName_ap, R.nox, R.bind_ok, tYesD, if_true, te, e3]
    · unfold drws
      rw [dx, d3]
      rfl
theorem data_T {k c : Nat} : ∀ (n m : Nat) (h : List O) (U : Int), m < n → Dr h k c U → U + Qn m < 900000000 → ∃ d h', F__law_data n [.ref k, .int (m : Nat)] h = .ok d h' ∧ drw m d = true ∧ Dr h' k c (U + Qn m) ∧ Keep h h' k
  | 0, m, h, U, hn, _, _ => absurd hn (Nat.not_lt_zero _)
  | n + 1, m, h, U, hn, H, hU => by
    have qp := Qn_pos m
    rw [data_eq]
    unfold runDef dataB
    rw [show startD 4 [D.ref k, .int (m : Nat)] = [some (.ref k), some (.int (m : Nat)), none, none] from rfl]
    obtain ⟨v, h1, e1, v0, v1, D1, K1⟩ := take_K (many := 6) H (by omega) (by decide)
    rw [sSeq_ap, sSet_ap, callT rfl e1]
    simp only [R.thn_ok, seq_nx, List.set_cons_succ, List.set_cons_zero]
    rw [sSeq_ap, sIf_ap]
    simp only [mAnd_ap, mTst_ap, mOp_ap, mVar_ap, mC_ap, List.getElem?_cons_succ, List.getElem?_cons_zero, R.bind_ok, fGt_int, asB_ap]
    by_cases q : 0 < m ∧ v < 3
    · obtain ⟨m', rfl⟩ : ∃ m', m = m' + 1 := ⟨m - 1, by omega⟩
      have t1 : decide ((0 : Int) < ((m' + 1 : Nat) : Int)) = true := decide_eq_true (by omega)
      have t2 : decide (v < 3) = true := decide_eq_true q.2
      simp only [t1, if_true, R.bind_ok, fLt_int, t2, asB_ap, R.thn_ok]
      obtain ⟨v4, h2, e2, w0, w1, D2, K2⟩ := take_K (many := 4) D1 (by omega) (by decide)
      have qq : Qn (m' + 1) = 4 + 3 * Qn m' := rfl
      have qp' := Qn_pos m'
      have src : mSrcA srcR1 (mCons (mCall 2 F__law_take (mCons (mVar 0) (mCons (mC (.int 4)) mNil))) mNil) [some (.ref k), some (.int ((m' + 1 : Nat) : Int)), some (.int v), none] h1 = .ok (runI 0 1 v4.toNat, fun _ => true) h2 := by
        rw [mSrcA_ap, mCons_ap, callT rfl e2]
        simp only [R.bind_ok, mNil_ap]
        unfold srcR1
        have gi : getInts [D.int v4] = some [v4] := rfl
        have e62 : (2 : Int) ^ 62 = 4611686018427387904 := by decide
        rw [gi]
        dsimp only
        rw [if_pos (by rw [e62]; omega)]
      have rl : (runI 0 1 v4.toNat).length = v4.toNat := by unfold runI; rw [List.length_map, List.length_range]
      have bnd : ((runI 0 1 v4.toNat).length : Int) ≤ 3 := by rw [rl]; omega
      have bq : ((runI 0 1 v4.toNat).length : Int) * Qn m' ≤ 3 * Qn m' := Int.mul_le_mul_of_nonneg_right bnd (by omega)
      obtain ⟨outs, h3, e3, l3, d3, D3, K3⟩ := comp_data (k := k) (c := c) (m := m') (F := F__law_data n) (ρ := [some (.ref k), some (.int ((m' + 1 : Nat) : Int)), some (.int v), none]) rfl rfl rfl
        (fun h U H hU => data_T n m' h U (by omega) H hU) (runI 0 1 v4.toNat) h2 (U + 1 + 1) D2 (by omega)
      have e3' : compL (gtName 3) tYesD (mCall 2 (F__law_data n) (mCons (mVar 0) (mCons (mOp fSub (mVar 1) (mC (.int 1))) mNil))) (fun _ => true) (wipeD [some (.ref k), some (.int ((m' + 1 : Nat) : Int)), some (.int v), none] [3]) (runI 0 1 v4.toNat) h2 = .ok outs h3 := e3
      refine ⟨.tup outs, h3, ?_, ?_, D3.mono (by omega), (K1.trans K2).trans K3⟩
      · rw [sRet_ap, mCBL_ap, mLcI_ap, src, R.bind_ok]
        dsimp only
        rw [if_pos (by rw [rl, sizeLine_eq]; omega), e3']
        rfl
      · unfold drw
        rw [decide_eq_true (show 1 ≤ m' + 1 by omega), decide_eq_true (show outs.length ≤ 3 by rw [l3, rl]; omega)]
        show drws (m' + 1 - 1) outs = true
        exact d3
    · have tst : (if decide ((0 : Int) < (m : Nat)) = true then ((fLt (.int v) (.int 3) h1).bind asB) else .ok false h1) = .ok false h1 := by
        by_cases z : 0 < m
        · have z2 : ¬ v < 3 := fun y => q ⟨z, y⟩
          rw [decide_eq_true (show (0 : Int) < (m : Int) by omega), if_pos rfl, fLt_int, decide_eq_false z2]
          rfl
        · rw [decide_eq_false (show ¬ (0 : Int) < (m : Int) by omega)]
          rfl
      rw [tst]
      simp only [R.thn_ok, Bool.false_eq_true, if_false, sNext_ap, seq_nx]
      rw [sSeq_ap, sIf_ap]
      simp only [mTst_ap, mOp_ap, mVar_ap, mC_ap, List.getElem?_cons_succ, List.getElem?_cons_zero, R.bind_ok, fEq_int, asB_ap, R.thn_ok]
      by_cases q3 : v = 3
      · subst q3
        obtain ⟨v4, h2, e2, w0, w1, D2, K2⟩ := take_K (many := 4) D1 (by omega) (by decide)
        simp only [decide_true, if_true]
        rw [sRet_ap, mIf_ap, mTst_ap, mOp_ap, callT rfl e2]
        simp only [R.bind_ok, mC_ap, fGt_int, asB_ap]
        by_cases q4 : 0 < v4
        · obtain ⟨v3, h3, e3, x0, x1, D3, K3⟩ := take_K (many := 3) D2 (by omega) (by decide)
          obtain ⟨j, rfl⟩ := Int.eq_ofNat_of_zero_le x0
          have ci : cutS "abz9" (some ((j : Nat) : Int)) none = T ([97, 98, 122, 57].drop j) := by rw [lit_abz, cut_from]
          have sl : ∀ h, fSl (.str "abz9") (some ((j : Nat) : Int)) none h = .ok (.str (T ([97, 98, 122, 57].drop j))) h := fun h => by
            rw [lit_abz, fSl_T _ _ _ _ (by rw [sizeLine_eq]; decide), cut_from]
          have c3 := callT (ρ := [some (.ref k), some (.int (m : Nat)), some (.int 3), none]) rfl e3
          rw [decide_eq_true q4, if_pos rfl]
          simp only [mSl_ap, mPart_ap, c3, mC_ap, R.bind_ok, asI_ap, mNoPart_ap, sl, R.thn_ok]
          exact ⟨_, h3, rfl, drw_of_atom (word_in j (by omega)), D3.mono (by omega), (K1.trans K2).trans K3⟩
        · rw [decide_eq_false q4, if_neg (by decide)]
          exact ⟨_, h2, rfl, drw_of_atom long_in, D2.mono (by omega), K1.trans K2⟩
      · have z : decide (v = 3) = false := decide_eq_false q3
        rw [z]
        simp only [Bool.false_eq_true, if_false, sNext_ap, seq_nx]
        have dsp : mLst (mCons (mC (.int 0)) (mCons (mUn fNeg (mC (.int 1))) (mCons (mC (.int 7)) (mCons (mOp fPow (mC (.int 10)) (mC (.int 40))) (mCons (mUn fNeg (mOp fPow (mC (.int 10)) (mC (.int 20)))) (mCons (mC (.int 1000)) (mCons (mC (.bl true)) (mCons (mC (.bl false)) (mCons (mC (.str "")) mNil))))))))) [some (.ref k), some (.int (m : Nat)), some (.int v), none] h1 = .ok (.ref h1.length) (h1 ++ [.lst leafs]) := rfl
        obtain ⟨v9, h2, e2, w0, w1, D2, K2⟩ := take_K (many := 9) (D1.app [.lst leafs]) (by omega) (by decide)
        obtain ⟨j, rfl⟩ := Int.eq_ofNat_of_zero_le w0
        have kn : h1.length ≠ k := fun z => by
          obtain ⟨_, _, _, _, _, _, H1, _⟩ := D1
          have := (List.getElem?_eq_some_iff.mp H1).1
          omega
        have lf : h2[h1.length]? = some (.lst leafs) := by
          rw [K2.1 _ kn (by rw [List.length_append, List.length_singleton]; omega)]
          simp
        rw [sRet_ap, mOp_ap, dsp, R.bind_ok, callT rfl e2, R.bind_ok, fIx_ref lf (show j < leafs.length by show j < 9; omega)]
        exact ⟨_, h2, rfl, drw_of_atom (leaf_in j (by omega)), D2.mono (by omega), (K1.trans (Keep.app h1 _ k)).trans K2⟩
end K53
set_option Elab.async false
set_option linter.all false
set_option maxRecDepth 100000
set_option maxHeartbeats 1000000
namespace K53
open PySem PySem.Spec PyProof.Rows L2 SL PySem.NumText
theorem cut_map {α β : Type} (f : α → β) (xs : List α) (lo hi : Option Int) : SL.cutD (xs.map f) lo hi = (SL.cutD xs lo hi).map f := by
  unfold SL.cutD
  rw [List.length_map, List.map_take, List.map_drop]
def seedB : MS := sSet 1 (mOp fAdd (mOp fMod (mCB fIntN (mCons (mOp fAdd (mOp fMul (mVar 1) (mC (.int 48271))) (mVar 2)) mNil)) (mC (.int 2147483629))) (mC (.int 1)))
theorem seed_loop {gd : List O → Bool} {o0 : Option D} {h : List O} (g : gd h = true) : ∀ (l : List Int) (seed : Int) (o2 : Option D), ∃ seed' o2', forL (gtName 2) seedB gd (l.map D.int) [o0, some (.int seed), o2] h = .nx [o0, some (.int seed'), o2'] h
  | [], seed, o2 => ⟨seed, o2, by
    show (if gd h = true then RS.nx _ _ else .bad) = _
    rw [if_pos g]⟩
  | x :: l, seed, o2 => by
    obtain ⟨s', o', e⟩ := seed_loop g l ((seed * 48271 + x) % 2147483629 + 1) (some (.int x))
    have m1 : (48271 : Int).natAbs < 2 ^ 64 := by decide
    have p : (0 : Int) < 2147483629 := by decide
    have b : seedB [o0, some (.int seed), some (.int x)] h = .nx [o0, some (.int ((seed * 48271 + x) % 2147483629 + 1)), some (.int x)] h := by
      unfold seedB
      simp only [sSet_ap, mOp_ap, mCB_ap, mCons_ap, mVar_ap, List.getElem?_cons_succ, List.getElem?_cons_zero, R.bind_ok, mC_ap, mul_okI _ _ _ m1, fAdd_int, mNil_ap, int_ok, mod_ok _ _ _ p, R.thn_ok, List.set_cons_succ, List.set_cons_zero]
    refine ⟨s', o', ?_⟩
    rw [List.map_cons, forT_step (ρ1 := [o0, some (.int seed), some (.int x)]) (ρ2 := [o0, some (.int ((seed * 48271 + x) % 2147483629 + 1)), some (.int x)]) (h2 := h) g rfl b, e]
theorem draw_T (ns : List Int) (hl : ns.length ≤ 63) : ∃ h, F__law_draw [.frl (ns.map D.int)] [] = .ok (.ref 3) h ∧ Dr h 3 2 0 ∧ h.length = 4 := by
  have sl : sizeLine = 16777216 := sizeLine_eq
  have cl : ((SL.cutD ns none (some 63)).map D.int).length ≤ sizeLine := by
    rw [List.length_map]
    unfold SL.cutD
    rw [List.length_take, List.length_drop]
    omega
  have fs : ∀ h, fSl (.frl (ns.map D.int)) none (some 63) h = .ok (.ref h.length) (h ++ [.lst ((SL.cutD ns none (some 63)).map D.int)]) := fun h => by
    show allocL (SL.cutD (ns.map D.int) none (some 63)) h = _
    rw [cut_map, allocL_ap]
  have src : ∀ (ρ : Sl) (h : List O), ρ[0]? = some (some (.frl (ns.map D.int))) → mSrc srcL (mSl fSl (mVar 0) mNoPart (mPart (mC (.int 63)))) ρ h = .ok ((SL.cutD ns none (some 63)).map D.int, gdL h.length ((SL.cutD ns none (some 63)).map D.int)) (h ++ [.lst ((SL.cutD ns none (some 63)).map D.int)]) := fun ρ h e => by
    simp only [mSrc_ap, mSl_ap, mVar_ap, e, R.bind_ok, mNoPart_ap, mPart_ap, mC_ap, asI_ap, fs]
    unfold srcL
    dsimp only
    have : (h ++ [O.lst ((SL.cutD ns none (some 63)).map D.int)])[h.length]? = some (.lst ((SL.cutD ns none (some 63)).map D.int)) := by simp
    rw [this]
  have gd : ∀ h : List O, gdL h.length ((SL.cutD ns none (some 63)).map D.int) (h ++ [.lst ((SL.cutD ns none (some 63)).map D.int)]) = true := fun h => decide_eq_true (by simp)
  obtain ⟨s', o2', lp⟩ := seed_loop (o0 := some (.frl (ns.map D.int))) (gd []) (SL.cutD ns none (some 63)) 7 none
  have gd2 := gd ([] ++ [.lst ((SL.cutD ns none (some 63)).map D.int)])
  have cm := compL_map (i := 2) (te := mCB fAbs (mCons (mCB fIntN (mCons (mVar 2) mNil)) mNil)) (ρ := wipeD [some (.frl (ns.map D.int)), some (.int s'), o2'] [2]) (gd := gdL ([] ++ [O.lst ((SL.cutD ns none (some 63)).map D.int)]).length ((SL.cutD ns none (some 63)).map D.int)) (ds := (SL.cutD ns none (some 63)).map D.int) (h := [] ++ [.lst ((SL.cutD ns none (some 63)).map D.int)] ++ [.lst ((SL.cutD ns none (some 63)).map D.int)]) (f := fun d => match d with
      | .int i => .int (if i < 0 then -i else i)
      | d => d) gd2 fun d hd => by
        obtain ⟨x, _, rfl⟩ := List.mem_map.mp hd
        rfl
  have mp : (((SL.cutD ns none (some 63)).map D.int).map fun d => match d with
      | .int i => .int (if i < 0 then -i else i)
      | d => d) = ((SL.cutD ns none (some 63)).map fun i => if i < 0 then -i else i).map D.int := by
    rw [List.map_map, List.map_map]
    rfl
  rw [mp] at cm
  unfold F__law_draw runDef m__law_draw
  rw [show startD 3 [D.frl (ns.map D.int)] = [some (.frl (ns.map D.int)), none, none] from rfl, sSeq_ap, sSet_ap, mC_ap]
  simp only [R.thn_ok, seq_nx, List.set_cons_succ, List.set_cons_zero]
  rw [sSeq_ap, sFor_ap, src _ _ rfl, R.thn_ok]
  unfold seedB at lp
  have lp' := lp
  dsimp only
  rw [show ([] : List O).length = 0 from rfl] at lp' ⊢
  rw [lp', seq_nx]
  have lc : mNew (mLcI (mSrc srcL (mSl fSl (mVar 0) mNoPart (mPart (mC (.int 63))))) [2] (gtName 2) tYesD (mCB fAbs (mCons (mCB fIntN (mCons (mVar 2) mNil)) mNil))) [some (.frl (ns.map D.int)), some (.int s'), o2'] ([] ++ [.lst ((SL.cutD ns none (some 63)).map D.int)]) = .ok (.ref 2) ([] ++ [.lst ((SL.cutD ns none (some 63)).map D.int)] ++ [.lst ((SL.cutD ns none (some 63)).map D.int)] ++ [.lst (((SL.cutD ns none (some 63)).map fun i => if i < 0 then -i else i).map D.int)]) := by
    rw [mNew_ap, mLcI_ap, src _ _ rfl, R.bind_ok]
    dsimp only
    rw [if_pos cl, cm, R.bind_ok, allocL_ap]
    rfl
  refine ⟨[] ++ [.lst ((SL.cutD ns none (some 63)).map D.int)] ++ [.lst ((SL.cutD ns none (some 63)).map D.int)] ++ [.lst (((SL.cutD ns none (some 63)).map fun i => if i < 0 then -i else i).map D.int)] ++ [.lst (dl 2 0 0 0 s' 0)], ?_, ?_, rfl⟩
  · rw [sRet_ap, mLst_ap, mCons_ap, lc]
    rfl
  · exact ⟨(SL.cutD ns none (some 63)).map fun i => if i < 0 then -i else i, 0, 0, 0, s', 0, rfl, rfl, by decide, Int.le_refl _, Int.le_refl _, Int.le_refl _⟩
end K53
set_option Elab.async false
set_option linter.all false
set_option maxRecDepth 100000
set_option maxHeartbeats 1000000
namespace K53
open PySem PySem.Spec PyProof.Rows L2 SL PySem.NumText
/-! ### a bent text: both readers tell the same -/
def bodyO : MS := sSeq (sSet 9 (mCall 1 F__law_read (mCons (mVar 8) mNil)))
    (sIf (mTst (mOp fNe (mCB fRepr (mCons (mCall 2 F__law_told (mCons (mC (.int 1)) (mCons (mVar 8) mNil))) mNil)) (mCB fRepr (mCons (mIf (mAnd (mTst (mOp fNotN (mVar 9) (mC .non))) (mTst (mOp fEq (mCall 1 (F__law_written 80) (mCons (mOp fIx (mVar 9) (mC (.int 0))) mNil)) (mVar 8)))) (mVar 9) (mC .non)) mNil)))) (sRet (mC (.bl false))) sNext)
theorem fNe_same (a : Str) (h : List O) : fNe (.str a) (.str a) h = .ok (.bl false) h := by
  unfold fNe
  have : fEq (.str a) (.str a) h = .ok (.bl true) h := by
    show R.ok (D.bl (decide (a = a))) h = _
    rw [decide_eq_true rfl]
  rw [this]
  rfl
theorem notN (d : D) (h : List O) : fNotN d .non h = .ok (.bl (!decide (d = .non))) h := rfl
theorem other_T {o : List Nat} (ok : TxtOK o) {ρ : Sl} {h : List O} (h8 : ρ[8]? = some (some (.str (T o)))) (hl : 9 < ρ.length) : ∃ x h', bodyO ρ h = .nx (ρ.set 9 (some x)) h' ∧ preOf h h' ∧ h.length ≤ h'.length := by
  obtain ⟨k1, k2, k3, k4⟩ := ok
  have d60 : dOK 60 0 o = true := dOK_mono o k1 (by omega) (Nat.le_refl _)
  have t4k : tokOK 4000 0 o = true := tok_mono o k2 (by omega) (Nat.le_refl _)
  have p500 := tok_len (m := 500) (by omega) o [] (Nat.zero_le _) k2
  have lr := law_read_T o h (by omega) k3 t4k d60
  have rt := fun g => read_T o g (by omega) fun p hp => by have := p500 p hp; omega
  rw [read_same (m := 1000) (by omega) d60] at rt
  have r8 : ∀ x, (ρ.set 9 x)[8]? = some (some (.str (T o))) := fun x => by rw [List.getElem?_set_ne (by decide)]; exact h8
  have r9 : ∀ x, (ρ.set 9 (some x))[9]? = some (some x) := fun x => by rw [List.getElem?_set_self hl]
  have nn : fRepr [.non] = fun h => .ok (.str "None") h := rfl
  unfold bodyO
  rw [sSeq_ap, sSet_ap]
  revert lr
  cases q : readR 60 o with
  | none =>
    rintro ⟨h1, e1, e2⟩
    rw [q] at rt
    have tl := told1_exc (rt h1)
    have c9 : mCall 1 F__law_read (mCons (mVar 8) mNil) ρ h = .ok .non h1 := by
      simp only [mCall_ap, mCons_ap, mVar_ap, h8, R.bind_ok, mNil_ap, List.length_cons, List.length_nil, if_true, e1]
    have lh : h.length ≤ h1.length := by
      by_cases z : h.length ≤ h1.length
      · exact z
      · have hlt : h1.length < h.length := by omega
        have := e2 h1.length hlt
        rw [List.getElem?_eq_none (Nat.le_refl _), List.getElem?_eq_getElem hlt] at this
        cases this
    rw [c9]
    simp only [R.thn_ok, seq_nx]
    refine ⟨.non, h1, ?_, e2, lh⟩
    rw [sIf_ap]
    have nd : decide (D.non = D.non) = true := by decide
    simp only [mTst_ap, mOp_ap, mCB_ap, mCons_ap, mCall_ap, mC_ap, mVar_ap, r8, r9, R.bind_ok, mNil_ap, List.length_cons, List.length_nil, if_true, tl, nn, mIf_ap, mAnd_ap, notN, decide_true, Bool.not_true, asB_ap, Bool.false_eq_true, if_false, fNe_same, R.thn_ok, sNext_ap]
  | some d =>
    rintro ⟨h1, m, e1, e2, e3, e4, e5, g, gz, gd⟩
    rw [q] at rt
    have tl := told1_ok (rt h1)
    have gi := read_ints q p500
    have wt : wrT d = o := read_txt q fun p hp => by have := p500 p hp; omega
    have wl : (wrT d).length ≤ 20000 := by rw [wt]; exact k4
    have c9 : mCall 1 F__law_read (mCons (mVar 8) mNil) ρ h = .ok (.ref m) h1 := by
      simp only [mCall_ap, mCons_ap, mVar_ap, h8, R.bind_ok, mNil_ap, List.length_cons, List.length_nil, if_true, e1]
    rw [c9]
    simp only [R.thn_ok, seq_nx]
    have m2 : (h1 ++ [O.lst [d]])[h1.length]? = some (.lst [d]) := by simp
    have m3 : (h1 ++ [O.lst [d]])[m]? = some (.lst [d]) := by rw [List.getElem?_append_left e5]; exact e2
    have rp1 := repr_list m2 g gi gd (by omega) gz
    have rp2 := repr_list m3 g gi gd (by omega) gz
    have dlt : depD d < 80 := by omega
    have wr := written_T 80 d (h1 ++ [O.lst [d]]) g gi dlt (by omega)
    rw [wt] at wr
    have ix : fIx (.ref m) (.int 0) (h1 ++ [O.lst [d]]) = .ok d (h1 ++ [O.lst [d]]) := fIx_firstN m3
    have nd : decide (D.ref m = D.non) = false := by simp
    refine ⟨.ref m, h1 ++ [.lst [d]], ?_, fun i hi => by rw [List.getElem?_append_left (by omega)]; exact e3 i hi, by rw [List.length_append]; omega⟩
    rw [sIf_ap]
    simp only [mTst_ap, mOp_ap, mCB_ap, mCons_ap, mCall_ap, mC_ap, mVar_ap, r8, r9, R.bind_ok, mNil_ap, List.length_cons, List.length_nil, if_true, tl, rp1, mIf_ap, mAnd_ap, notN, nd, Bool.not_false, asB_ap, ix, wr, fEq_T, decide_true, rp2, fNe_same, R.thn_ok, Bool.false_eq_true, if_false, sNext_ap]
end K53
set_option Elab.async false
set_option linter.all false
set_option maxRecDepth 100000
set_option maxHeartbeats 1000000
namespace K53
open PySem PySem.Spec PyProof.Rows L2 SL PySem.NumText
/-! ### one bending: a place, a sign, three texts -/
def srcO : MI := mSrcN (capL (mCons (mOp fAdd (mOp fAdd (mSl fSl (mVar 4) mNoPart (mPart (mVar 6))) (mVar 7)) (mSl fSl (mVar 4) (mPart (mVar 6)) mNoPart)) (mCons (mOp fAdd (mSl fSl (mVar 4) mNoPart (mPart (mVar 6))) (mSl fSl (mVar 4) (mPart (mOp fAdd (mVar 6) (mC (.int 1)))) mNoPart)) (mCons (mOp fAdd (mOp fAdd (mSl fSl (mVar 4) mNoPart (mPart (mVar 6))) (mVar 7)) (mSl fSl (mVar 4) (mPart (mOp fAdd (mVar 6) (mC (.int 1)))) mNoPart)) mNil))))
def bodyG : MS := sSeq (sPar 6 7 (mCons (mCall 2 F__law_take (mCons (mVar 1) (mCons (mOp fAdd (mCB fLen (mCons (mVar 4) mNil)) (mC (.int 1))) mNil))) (mCons (mOp fIx (mC (.str "[],a0-1 A+.")) (mCall 2 F__law_take (mCons (mVar 1) (mCons (mC (.int 11)) mNil)))) mNil)))
    (sFor srcO (gtName 8) bodyO)
theorem preOf.trans {h h1 h2 : List O} (a : preOf h h1) (l : h.length ≤ h1.length) (b : preOf h1 h2) : preOf h h2 := fun i hi => (b i (by omega)).trans (a i hi)
theorem three {t0 t1 t2 : List Nat} (k0 : TxtOK t0) (k1 : TxtOK t1) (k2 : TxtOK t2) {ρ : Sl} {h : List O} (hl : 9 < ρ.length) : ∃ x8 x9 h', forL (gtName 8) bodyO (fun _ => true) [.str (T t0), .str (T t1), .str (T t2)] ρ h = .nx ((ρ.set 8 (some x8)).set 9 (some x9)) h' ∧ preOf h h' ∧ h.length ≤ h'.length := by
  have l8 : ∀ (ρ : Sl) x, 9 < ρ.length → (ρ.set 8 (some x))[8]? = some (some x) := fun ρ x h => by rw [List.getElem?_set_self (by omega)]
  have sh : ∀ (ρ : Sl) (a b c d : Option D), (((ρ.set 8 a).set 9 b).set 8 c).set 9 d = (ρ.set 8 c).set 9 d := fun ρ a b c d => by
    rw [List.set_comm b c (by decide : (9 : Nat) ≠ 8), List.set_set, List.set_set]
  obtain ⟨x0, h0, e0, p0, q0⟩ := other_T k0 (ρ := ρ.set 8 (some (.str (T t0)))) (h := h) (l8 ρ _ hl) (by rw [List.length_set]; exact hl)
  obtain ⟨x1, h1, e1, p1, q1⟩ := other_T k1 (ρ := ((ρ.set 8 (some (.str (T t0)))).set 9 (some x0)).set 8 (some (.str (T t1)))) (h := h0) (l8 _ _ (by rw [List.length_set, List.length_set]; exact hl)) (by simp only [List.length_set]; exact hl)
  rw [sh] at e1
  obtain ⟨x2, h2, e2, p2, q2⟩ := other_T k2 (ρ := ((ρ.set 8 (some (.str (T t1)))).set 9 (some x1)).set 8 (some (.str (T t2)))) (h := h1) (l8 _ _ (by rw [List.length_set, List.length_set]; exact hl)) (by simp only [List.length_set]; exact hl)
  rw [sh] at e2
  refine ⟨.str (T t2), x2, h2, ?_, (p0.trans q0 p1).trans (by omega) p2, by omega⟩
  rw [for_step e0, for_step e1, for_step e2]
  rfl
theorem sign_at : ∀ j : Nat, j < 11 → ∃ s : Nat, s ≠ 59 ∧ ∀ h, fIx (.str "[],a0-1 A+.") (.int (j : Nat)) h = .ok (.str (T [s])) h := by
  intro j hj
  have e : ("[],a0-1 A+." : Str) = T [91, 93, 44, 97, 48, 45, 49, 32, 65, 43, 46] := by decide +kernel
  have n : ∀ j : Nat, j < 11 → ([91, 93, 44, 97, 48, 45, 49, 32, 65, 43, 46] : List Nat).getD j 0 ≠ 59 := by decide
  refine ⟨([91, 93, 44, 97, 48, 45, 49, 32, 65, 43, 46] : List Nat).getD j 0, n j hj, fun h => ?_⟩
  rw [e]
  have a : atI ([91, 93, 44, 97, 48, 45, 49, 32, 65, 43, 46] : List Nat) ((j : Nat) : Int) = some (([91, 93, 44, 97, 48, 45, 49, 32, 65, 43, 46] : List Nat).getD j 0) := by
    unfold atI ixN
    rw [if_pos (by omega), if_pos (by show ((j : Nat) : Int) < 11; omega)]
    have hj' : j < ([91, 93, 44, 97, 48, 45, 49, 32, 65, 43, 46] : List Nat).length := hj
    simp only [Option.bind_some, Int.toNat_natCast, List.getElem?_eq_getElem hj', List.getD_eq_getElem?_getD, Option.getD_some]
  have sl : (T ([91, 93, 44, 97, 48, 45, 49, 32, 65, 43, 46] : List Nat)).length ≤ sizeLine := by rw [sizeLine_eq]; decide
  show (if (T ([91, 93, 44, 97, 48, 45, 49, 32, 65, 43, 46] : List Nat)).length ≤ sizeLine then (match atI ([91, 93, 44, 97, 48, 45, 49, 32, 65, 43, 46] : List Nat) ((j : Nat) : Int) with
    | some c => R.ok (D.str ⟨#[c]⟩) h
    | none => .bad) else .bad) = _
  rw [if_pos sl, a]
  rfl
end K53
set_option Elab.async false
set_option linter.all false
set_option maxRecDepth 100000
set_option maxHeartbeats 1000000
namespace K53
open PySem PySem.Spec PyProof.Rows L2 SL PySem.NumText
theorem Dr.pre {h h' : List O} {k c : Nat} {U : Int} (H : Dr h k c U) (p : preOf h h') : Dr h' k c U := by
  obtain ⟨cells, a, b, e, s, u, H1, H2, r⟩ := H
  exact ⟨cells, a, b, e, s, u, by rw [p _ (List.getElem?_eq_some_iff.mp H1).1]; exact H1, by rw [p _ (List.getElem?_eq_some_iff.mp H2).1]; exact H2, r⟩
/-- the slots of law, as the loops find them -/
abbrev rW14 (sc : D) (o2 : Option D) (o3 o4 : Option D) (o5 o6 o7 o8 o9 o10 o11 o12 o13 : Option D) : Sl := [some sc, some (.ref 3), o2, o3, o4, o5, o6, o7, o8, o9, o10, o11, o12, o13]
theorem bend_T {d : D} (hd : drw 5 d = true) {sc : D} {o2 o3 o5 o6 o7 o8 o9 o10 o11 o12 o13 : Option D} {h : List O} {U : Int} (H : Dr h 3 2 U) (hU : U < 900000000) :
    ∃ o6' o7' o8' o9' h', bodyG (rW14 sc o2 o3 (some (.str (T (wrT d)))) o5 o6 o7 o8 o9 o10 o11 o12 o13) h = .nx (rW14 sc o2 o3 (some (.str (T (wrT d)))) o5 o6' o7' o8' o9' o10 o11 o12 o13) h' ∧ Dr h' 3 2 (U + 2) := by
  have sl : sizeLine = 16777216 := sizeLine_eq
  have wl := (drawn_txt hd).2.2.2
  have ws : (wrT d).length ≤ sizeLine := by omega
  obtain ⟨i, h1, e1, i0, i1, D1, K1⟩ := take_K (many := ((wrT d).length : Int) + 1) H (by omega) (by omega)
  obtain ⟨v, h2, e2, v0, v1, D2, K2⟩ := take_K (many := 11) D1 (by omega) (by decide)
  obtain ⟨j, rfl⟩ := Int.eq_ofNat_of_zero_le i0
  obtain ⟨w, rfl⟩ := Int.eq_ofNat_of_zero_le v0
  obtain ⟨s, s59, sx⟩ := sign_at w (by omega)
  have jl : j ≤ (wrT d).length := by omega
  have ln : ∀ g, fLen [D.str (T (wrT d))] g = .ok (.int (wrT d).length) g := fun g => fLen_T _ g ws
  unfold bodyG
  have par : sPar 6 7 (mCons (mCall 2 F__law_take (mCons (mVar 1) (mCons (mOp fAdd (mCB fLen (mCons (mVar 4) mNil)) (mC (.int 1))) mNil))) (mCons (mOp fIx (mC (.str "[],a0-1 A+.")) (mCall 2 F__law_take (mCons (mVar 1) (mCons (mC (.int 11)) mNil)))) mNil)) (rW14 sc o2 o3 (some (.str (T (wrT d)))) o5 o6 o7 o8 o9 o10 o11 o12 o13) h = .nx (rW14 sc o2 o3 (some (.str (T (wrT d)))) o5 (some (.int (j : Nat))) (some (.str (T [s]))) o8 o9 o10 o11 o12 o13) h2 := by
    simp only [sSeq_ap, seq_nx, seq_rt, seq_exc, seq_bad, sNext_ap, sRet_ap, sRetN_ap, sExpr_ap, sSet_ap, sIf_ap, sRaise_ap, sFor_ap, sAsg_ap, sPar_ap, par2_ap, sPar3_ap, par3_ap, mVar_ap, mC_ap, mOp_ap, mUn_ap, mTst_ap, asB_ap, mAnd_ap, mOr_ap, mNot_ap, mIf_ap, mAndV_ap, mOrV_ap, mNotV_ap, mChain_ap, mNil_ap, mCons_ap, mTup_ap, mLst_ap, mCB_ap, mCBL_ap, mNew_ap, allocL_ap, mNoPart_ap, mPart_ap, asI_ap, mSl_ap, mCall_ap, mMt_ap, mSrc_ap, mSrcA_ap, mSrcN_ap, capL_ap, mLcI_ap, mDisp_ap, mInTab_ap, mDispGet_ap, mMeth_ap, one1_ap, gtName_ap, gtS_name, R.bind_ok, R.bind_exc, R.bind_bad, R.thn_ok, R.thn_exc, R.thn_bad, List.getElem?_cons_zero, List.getElem?_cons_succ, List.set_cons_zero, List.set_cons_succ, if_true, Bool.not_true, Bool.not_false, Bool.false_eq_true, if_false, decide_true, decide_false, ln, fAdd_int, List.length_cons, List.length_nil, e1, e2, sx]
  rw [sSeq_ap, par, seq_nx, sFor_ap]
  have e1' : ∀ g, fAdd (.int ((j : Nat) : Int)) (.int 1) g = .ok (.int ((j + 1 : Nat) : Int)) g := fun _ => rfl
  have sl1 : ∀ (lo hi : Option Int) g, fSl (.str (T (wrT d))) lo hi g = .ok (.str (cutS (T (wrT d)) lo hi)) g := fun lo hi g => fSl_T _ _ _ g ws
  have cat : ∀ (a b : List Nat) g, a.length + b.length ≤ 100000 → fAdd (.str (T a)) (.str (T b)) g = .ok (.str (T (a ++ b))) g := fun a b g hab => by
    show (if (T a).length + (T b).length ≤ sizeLine then R.ok (D.str (T a ++ T b)) g else .bad) = _
    rw [if_pos (by rw [T_len, T_len]; omega), T_app]
  have lt : ((wrT d).take j).length ≤ 11000 := by rw [List.length_take]; omega
  have ld : ∀ x, ((wrT d).drop x).length ≤ 11000 := fun x => by rw [List.length_drop]; omega
  have ls : ((wrT d).take j ++ [s]).length ≤ 11001 := by rw [List.length_append, List.length_singleton]; omega
  have c1 := fun g => cat ((wrT d).take j) [s] g (by rw [List.length_singleton]; omega)
  have c2 := fun g => cat ((wrT d).take j ++ [s]) ((wrT d).drop j) g (by have := ld j; omega)
  have c3 := fun g => cat ((wrT d).take j) ((wrT d).drop (j + 1)) g (by have := ld (j + 1); omega)
  have c4 := fun g => cat ((wrT d).take j ++ [s]) ((wrT d).drop (j + 1)) g (by have := ld (j + 1); omega)
  have z3 : ([D.str (T ((wrT d).take j ++ [s] ++ (wrT d).drop j)), .str (T ((wrT d).take j ++ (wrT d).drop (j + 1))), .str (T ((wrT d).take j ++ [s] ++ (wrT d).drop (j + 1)))] : List D).length ≤ sizeLine := by
    show 3 ≤ sizeLine
    omega
  have src : srcO (rW14 sc o2 o3 (some (.str (T (wrT d)))) o5 (some (.int (j : Nat))) (some (.str (T [s]))) o8 o9 o10 o11 o12 o13) h2 = .ok ([D.str (T ((wrT d).take j ++ [s] ++ (wrT d).drop j)), .str (T ((wrT d).take j ++ (wrT d).drop (j + 1))), .str (T ((wrT d).take j ++ [s] ++ (wrT d).drop (j + 1)))], fun _ => true) h2 := by
    unfold srcO
    simp only [sSeq_ap, seq_nx, seq_rt, seq_exc, seq_bad, sNext_ap, sRet_ap, sRetN_ap, sExpr_ap, sSet_ap, sIf_ap, sRaise_ap, sFor_ap, sAsg_ap, sPar_ap, par2_ap, sPar3_ap, par3_ap, mVar_ap, mC_ap, mOp_ap, mUn_ap, mTst_ap, asB_ap, mAnd_ap, mOr_ap, mNot_ap, mIf_ap, mAndV_ap, mOrV_ap, mNotV_ap, mChain_ap, mNil_ap, mCons_ap, mTup_ap, mLst_ap, mCB_ap, mCBL_ap, mNew_ap, allocL_ap, mNoPart_ap, mPart_ap, asI_ap, mSl_ap, mCall_ap, mMt_ap, mSrc_ap, mSrcA_ap, mSrcN_ap, capL_ap, mLcI_ap, mDisp_ap, mInTab_ap, mDispGet_ap, mMeth_ap, one1_ap, gtName_ap, gtS_name, R.bind_ok, R.bind_exc, R.bind_bad, R.thn_ok, R.thn_exc, R.thn_bad, List.getElem?_cons_zero, List.getElem?_cons_succ, List.set_cons_zero, List.set_cons_succ, if_true, Bool.not_true, Bool.not_false, Bool.false_eq_true, if_false, decide_true, decide_false, sl1, cut_to, cut_from, e1', c1, c2, c3, c4]
    rw [if_pos z3]
    rfl
  rw [src, R.thn_ok]
  have a1 : (wrT d).take j ++ [s] ++ (wrT d).drop j = (wrT d).take j ++ s :: (wrT d).drop j := by simp
  have a2 : (wrT d).take j ++ [s] ++ (wrT d).drop (j + 1) = (wrT d).take j ++ s :: (wrT d).drop (j + 1) := by simp
  have b1 := bent_ins hd j s s59
  have b3 := bent_rep hd j s s59
  rw [← a1] at b1
  rw [← a2] at b3
  obtain ⟨x8, x9, h3, e3, p3, q3⟩ := three b1 (bent_del hd j) b3 (ρ := rW14 sc o2 o3 (some (.str (T (wrT d)))) o5 (some (.int (j : Nat))) (some (.str (T [s]))) o8 o9 o10 o11 o12 o13) (h := h2) (by show 9 < 14; decide)
  refine ⟨some (.int (j : Nat)), some (.str (T [s])), some x8, some x9, h3, e3, ?_⟩
  have D3 := D2.pre p3
  exact D3.mono (by omega)
end K53
set_option Elab.async false
set_option linter.all false
set_option maxRecDepth 100000
set_option maxHeartbeats 1000000
namespace K53
open PySem PySem.Spec PyProof.Rows L2 SL PySem.NumText
theorem bends_T {d : D} (hd : drw 5 d = true) {sc : D} {o2 o3 o10 o11 o12 o13 : Option D} : ∀ (ds : List D) (o5 o6 o7 o8 o9 : Option D) (h : List O) (U : Int), Dr h 3 2 U → U + 2 * ds.length < 800000000 →
    ∃ o5' o6' o7' o8' o9' h', forL (gtName 5) bodyG (fun _ => true) ds (rW14 sc o2 o3 (some (.str (T (wrT d)))) o5 o6 o7 o8 o9 o10 o11 o12 o13) h = .nx (rW14 sc o2 o3 (some (.str (T (wrT d)))) o5' o6' o7' o8' o9' o10 o11 o12 o13) h' ∧ Dr h' 3 2 (U + 2 * ds.length)
  | [], o5, o6, o7, o8, o9, h, U, H, _ => ⟨o5, o6, o7, o8, o9, h, rfl, H.mono (by simp)⟩
  | x :: ds, o5, o6, o7, o8, o9, h, U, H, hU => by
    rw [List.length_cons] at hU ⊢
    obtain ⟨a6, a7, a8, a9, h1, e1, D1⟩ := bend_T hd (sc := sc) (o2 := o2) (o3 := o3) (o5 := some x) (o6 := o6) (o7 := o7) (o8 := o8) (o9 := o9) (o10 := o10) (o11 := o11) (o12 := o12) (o13 := o13) H (by omega)
    obtain ⟨b5, b6, b7, b8, b9, h2, e2, D2⟩ := bends_T hd (sc := sc) (o2 := o2) (o3 := o3) (o10 := o10) (o11 := o11) (o12 := o12) (o13 := o13) ds (some x) a6 a7 a8 a9 h1 (U + 2) D1 (by omega)
    refine ⟨b5, b6, b7, b8, b9, h2, ?_, D2.mono (by omega)⟩
    have st : forL (gtName 5) bodyG (fun _ => true) (x :: ds) (rW14 sc o2 o3 (some (.str (T (wrT d)))) o5 o6 o7 o8 o9 o10 o11 o12 o13) h = forL (gtName 5) bodyG (fun _ => true) ds (rW14 sc o2 o3 (some (.str (T (wrT d)))) (some x) a6 a7 a8 a9 o10 o11 o12 o13) h1 := for_step e1
    rw [st, e2]
theorem atoms_low : atoms.all (fun a => (wrT a).all fun c => decide (c < 128)) = true := by decide +kernel
theorem atom_low {a : D} (h : a ∈ atoms) : ∀ c ∈ wrT a, c < 128 := fun c hc => of_decide_eq_true (List.all_eq_true.mp (List.all_eq_true.mp atoms_low a h) c hc)
mutual
theorem low_d : ∀ (d : D) (n : Nat), drw n d = true → ∀ c ∈ wrT d, c < 128
  | .tup ds, n, h => by
    rcases drw_cases h with q | ⟨ds', e, h1, h2, h3⟩
    · exact (not_atom_tup q).elim
    · cases e
      intro c hc
      rw [wrT_tup] at hc
      rcases List.mem_cons.mp hc with q | q
      · omega
      · rcases List.mem_append.mp q with q | q
        · exact low_ds ds (n - 1) h3 c q
        · have : c = 93 := by simpa using q
          omega
  | .bl b, n, h => atom_low (drw_atom h fun _ e => nomatch e)
  | .int b, n, h => atom_low (drw_atom h fun _ e => nomatch e)
  | .str b, n, h => atom_low (drw_atom h fun _ e => nomatch e)
  | .non, _, h => by cases h
  | .ref _, _, h => by cases h
  | .ty _, _, h => by cases h
  | .frl _, _, h => by cases h
theorem low_ds : ∀ (ds : List D) (n : Nat), drws n ds = true → ∀ c ∈ wrsT ds, c < 128
  | [], _, _, c, hc => by unfold wrsT at hc; cases hc
  | [d], n, h, c, hc => by
    rw [wrsT_one] at hc
    exact low_d d n (drws_cons h).1 c hc
  | d :: e :: ds, n, h, c, hc => by
    obtain ⟨h1, h2⟩ := drws_cons h
    rw [wrsT_cons2] at hc
    rcases List.mem_append.mp hc with q | q
    · exact low_d d n h1 c q
    · rcases List.mem_cons.mp q with q | q
      · omega
      · exact low_ds (e :: ds) n h2 c q
end
theorem eq_str1 {h : List O} {a b : Nat} {t : List Nat} (ha : h[a]? = some (.lst [.str (T t)])) (hb : h[b]? = some (.lst [.str (T t)])) (hl : ∀ c ∈ t, c < 128) : fNe (.ref a) (.ref b) h = .ok (.bl false) h := by
  have t0 : toPys h 999999 [.str (T t)] = some [.str (T t)] := rfl
  have t1 : toPy h pyF (.ref a) = some (.list [.str (T t)]) := by
    show toPy h (999999 + 1) (.ref a) = _
    rw [toPy_ref ha, t0]
    rfl
  have t2 : toPy h pyF (.ref b) = some (.list [.str (T t)]) := by
    show toPy h (999999 + 1) (.ref b) = _
    rw [toPy_ref hb, t0]
    rfl
  have so : PyData.strOk (T t) = true := by
    unfold PyData.strOk
    rw [Array.all_eq_true']
    intro c hc
    have := hl c (by have := Array.mem_toList_iff.mpr hc; exact this)
    exact decide_eq_true (by omega)
  have s1 : SeqAt.shaped (.list [.str (T t)]) = true := by
    unfold SeqAt.shaped
    show ((PyData.strOk (T t) && true) && decide (max 0 0 + 1 ≤ 64)) = true
    rw [so]
    rfl
  have ev : eqPy (.ref a) (.ref b) h = some true := by
    unfold eqPy
    rw [t1, t2]
    dsimp only
    rw [if_pos ⟨s1, s1⟩]
    show some ((T t == T t) && true) = some true
    simp
  have fe : fEq (.ref a) (.ref b) h = .ok (.bl true) h := by
    show (match eqPy (.ref a) (.ref b) h with
      | some b => R.ok (D.bl b) h
      | none => .bad) = _
    rw [ev]
  unfold fNe
  rw [fe]
  rfl
end K53
set_option Elab.async false
set_option linter.all false
set_option maxRecDepth 100000
set_option maxHeartbeats 1000000
namespace K53
open PySem PySem.Spec PyProof.Rows L2 SL PySem.NumText
/-! ### one turn -/
theorem atoms_ints : atoms.all intsD = true := by decide +kernel
mutual
theorem ints_d : ∀ (d : D) (n : Nat), drw n d = true → intsD d = true
  | .tup ds, n, h => by
    rcases drw_cases h with q | ⟨ds', e, h1, h2, h3⟩
    · exact (not_atom_tup q).elim
    · cases e
      unfold intsD
      exact ints_ds ds (n - 1) h3
  | .bl b, n, h => List.all_eq_true.mp atoms_ints _ (drw_atom h fun _ e => nomatch e)
  | .int b, n, h => List.all_eq_true.mp atoms_ints _ (drw_atom h fun _ e => nomatch e)
  | .str b, n, h => List.all_eq_true.mp atoms_ints _ (drw_atom h fun _ e => nomatch e)
  | .non, _, h => by cases h
  | .ref _, _, h => by cases h
  | .ty _, _, h => by cases h
  | .frl _, _, h => by cases h
theorem ints_ds : ∀ (ds : List D) (n : Nat), drws n ds = true → intsDs ds = true
  | [], n, h => rfl
  | d :: ds, n, h => by
    obtain ⟨h1, h2⟩ := drws_cons h
    unfold intsDs
    rw [ints_d d n h1, ints_ds ds n h2]
    rfl
end
def bodyT : MS := (sSeq (sSet 3 (mCall 2 (F__law_data 8) (mCons (mVar 1) (mCons (mC (.int 5)) mNil))))
    (sSeq (sSet 4 (mCall 1 (F__law_written 80) (mCons (mVar 3) mNil)))
    (sSeq (sIf (mOr (mTst (mOp fNe (mCall 2 F__law_told (mCons (mC (.int 0)) (mCons (mVar 3) mNil))) (mLst (mCons (mVar 4) mNil)))) (mTst (mOp fNe (mCB fRepr (mCons (mCall 2 F__law_told (mCons (mC (.int 1)) (mCons (mVar 4) mNil))) mNil)) (mCB fRepr (mCons (mLst (mCons (mVar 3) mNil)) mNil))))) (sRet (mC (.bl false))) sNext)
    (sFor (mSrcA srcR1 (mCons (mC (.int 8)) mNil)) (gtName 5) bodyG))))
theorem srcR_lit (v : Int) (h0 : -4611686018427387904 ≤ v) (h1 : v < 4611686018427387904) (ρ : Sl) (h : List O) : mSrcA srcR1 (mCons (mC (.int v)) mNil) ρ h = .ok (runI 0 1 v.toNat, fun _ => true) h := by
  rw [mSrcA_ap]
  simp only [mCons_ap, mC_ap, mNil_ap, R.bind_ok]
  unfold srcR1
  have gi : getInts [D.int v] = some [v] := rfl
  have e62 : (2 : Int) ^ 62 = 4611686018427387904 := by decide
  rw [gi]
  dsimp only
  rw [if_pos (by rw [e62]; exact ⟨h0, h1⟩)]
theorem turn_T {sc : D} {o2 o3 o4 o5 o6 o7 o8 o9 o10 o11 o12 o13 : Option D} {h : List O} {U : Int} (H : Dr h 3 2 U) (hU : U < 700000000) :
    ∃ o3' o4' o5' o6' o7' o8' o9' h', bodyT (rW14 sc o2 o3 o4 o5 o6 o7 o8 o9 o10 o11 o12 o13) h = .nx (rW14 sc o2 o3' o4' o5' o6' o7' o8' o9' o10 o11 o12 o13) h' ∧ Dr h' 3 2 (U + 1472) := by
  have q5 : Qn 5 = 1456 := by decide
  obtain ⟨d, h1, e1, hd, D1, K1⟩ := data_T 8 5 h U (by decide) H (by rw [q5]; omega)
  rw [q5] at D1
  obtain ⟨t1, t2, t3, t4⟩ := drawn_txt hd
  obtain ⟨p1, p2, p3⟩ := plain_drawn d 5 hd
  obtain ⟨l1, l2, l3⟩ := len_drawn d 5 hd
  have gi := ints_d d 5 hd
  have wr := written_T 80 d h1 p2 gi (by omega) (by omega)
  have wd := wrD_drawn d 5 1 hd (by omega)
  have wt := write_T d h1 p1 (by omega) (fun t e => by rw [wd] at e; cases e; omega)
  rw [wd] at wt
  dsimp only at wt
  have tl0 := told0_ok wt
  have tl := tok_len (m := 42) (by decide) (wrT d) [] (Nat.zero_le _) t2
  have rd := read_T (wrT d) (h1 ++ [O.lst [.str (T (wrT d))]] ++ [O.lst [.str (T (wrT d))]]) (by omega) fun p hp => by have := tl p hp; omega
  rw [read_drawn hd (by decide)] at rd
  dsimp only at rd
  have tl1 := told1_ok rd
  have ne1 : fNe (.ref h1.length) (.ref (h1 ++ [O.lst [.str (T (wrT d))]]).length) (h1 ++ [O.lst [.str (T (wrT d))]] ++ [O.lst [.str (T (wrT d))]]) = .ok (.bl false) (h1 ++ [O.lst [.str (T (wrT d))]] ++ [O.lst [.str (T (wrT d))]]) :=
    eq_str1 (t := wrT d) (by simp) (by simp) (low_d d 5 hd)
  have rp := fun (g : List O) => repr_list (m := g.length) (h := g ++ [O.lst [d]]) (d := d) (by simp) p2 gi (by omega) (by omega) (by omega)
  have r1 := rp (h1 ++ [O.lst [.str (T (wrT d))]] ++ [O.lst [.str (T (wrT d))]])
  have r2 := rp (h1 ++ [O.lst [.str (T (wrT d))]] ++ [O.lst [.str (T (wrT d))]] ++ [O.lst [d]])
  have D2 : Dr (h1 ++ [O.lst [.str (T (wrT d))]] ++ [O.lst [.str (T (wrT d))]] ++ [O.lst [d]] ++ [O.lst [d]]) 3 2 (U + 1456) := (((D1.app _).app _).app _).app _
  have r8 : (runI 0 1 8).length = 8 := by decide
  obtain ⟨a5, a6, a7, a8, a9, h2, eb, Db⟩ := bends_T hd (sc := sc) (o2 := o2) (o3 := some d) (o10 := o10) (o11 := o11) (o12 := o12) (o13 := o13) (runI 0 1 8) o5 o6 o7 o8 o9 _ (U + 1456) D2 (by rw [r8]; omega)
  rw [r8] at Db
  refine ⟨some d, some (.str (T (wrT d))), a5, a6, a7, a8, a9, h2, ?_, Db.mono (by omega)⟩
  unfold bodyT
  have s8' : ∀ ρ h, mSrcA srcR1 (mCons (mC (.int 8)) mNil) ρ h = .ok (runI 0 1 8, fun _ => true) h := fun ρ h => srcR_lit 8 (by decide) (by decide) ρ h
  have e1' : F__law_data 8 [.ref 3, .int 5] h = .ok d h1 := e1
  simp only [sSeq_ap, sSet_ap, mCall_ap, mCons_ap, mVar_ap, mC_ap, mNil_ap, List.getElem?_cons_succ, List.getElem?_cons_zero, R.bind_ok, List.length_cons, List.length_nil, if_true, e1', R.thn_ok, seq_nx, List.set_cons_succ, List.set_cons_zero, wr]
  simp only [sIf_ap, mOr_ap, mTst_ap, mOp_ap, mCall_ap, mCons_ap, mVar_ap, mC_ap, mNil_ap, List.getElem?_cons_succ, List.getElem?_cons_zero, R.bind_ok, List.length_cons, List.length_nil, if_true, tl0, mLst_ap, nl1, ne1, asB_ap, Bool.false_eq_true, if_false, mCB_ap, tl1, r1, r2, fNe_same, R.thn_ok, sNext_ap, seq_nx]
  rw [sFor_ap, s8', R.thn_ok]
  exact eb
end K53
set_option Elab.async false
set_option linter.all false
set_option maxRecDepth 100000
set_option maxHeartbeats 1000000
namespace K53
open PySem PySem.Spec PyProof.Rows L2 SL PySem.NumText
/-! ### the turns -/
theorem turns_T {sc : D} {o10 o11 o12 o13 : Option D} : ∀ (ds : List D) (o2 o3 o4 o5 o6 o7 o8 o9 : Option D) (h : List O) (U : Int), Dr h 3 2 U → U + 1472 * ds.length < 600000000 →
    ∃ o2' o3' o4' o5' o6' o7' o8' o9' h', forL (gtName 2) bodyT (fun _ => true) ds (rW14 sc o2 o3 o4 o5 o6 o7 o8 o9 o10 o11 o12 o13) h = .nx (rW14 sc o2' o3' o4' o5' o6' o7' o8' o9' o10 o11 o12 o13) h'
  | [], o2, o3, o4, o5, o6, o7, o8, o9, h, U, H, _ => ⟨o2, o3, o4, o5, o6, o7, o8, o9, h, rfl⟩
  | x :: ds, o2, o3, o4, o5, o6, o7, o8, o9, h, U, H, hU => by
    rw [List.length_cons] at hU
    obtain ⟨a3, a4, a5, a6, a7, a8, a9, h1, e1, D1⟩ := turn_T (sc := sc) (o2 := some x) (o3 := o3) (o4 := o4) (o5 := o5) (o6 := o6) (o7 := o7) (o8 := o8) (o9 := o9) (o10 := o10) (o11 := o11) (o12 := o12) (o13 := o13) H (by omega)
    obtain ⟨b2, b3, b4, b5, b6, b7, b8, b9, h2, e2⟩ := turns_T (sc := sc) (o10 := o10) (o11 := o11) (o12 := o12) (o13 := o13) ds (some x) a3 a4 a5 a6 a7 a8 a9 h1 (U + 1472) D1 (by omega)
    refine ⟨b2, b3, b4, b5, b6, b7, b8, b9, h2, ?_⟩
    have st : forL (gtName 2) bodyT (fun _ => true) (x :: ds) (rW14 sc o2 o3 o4 o5 o6 o7 o8 o9 o10 o11 o12 o13) h = forL (gtName 2) bodyT (fun _ => true) ds (rW14 sc (some x) a3 a4 a5 a6 a7 a8 a9 o10 o11 o12 o13) h1 := for_step e1
    rw [st, e2]
/-! ### data that have no text -/
mutual
theorem plainH_mono {h h' : List O} (p : preOf h h') : ∀ d : D, plainH h d = true → plainH h' d = true
  | .tup ds, q => by
    unfold plainH at q ⊢
    rw [Bool.and_eq_true] at q
    rw [q.1, plainHs_mono p ds q.2]
    rfl
  | .non, q => by unfold plainH; rfl
  | .bl _, q => by unfold plainH; rfl
  | .int _, q => by unfold plainH; rfl
  | .str z, q => by unfold plainH at q ⊢; exact q
  | .ref n, q => by
    unfold plainH at q ⊢
    have hn : n < h.length := by
      by_cases z : n < h.length
      · exact z
      · rw [List.getElem?_eq_none (by omega)] at q
        cases q
    rw [p n hn]
    exact q
  | .ty _, q => by unfold plainH at q; cases q
  | .frl _, q => by unfold plainH at q; cases q
theorem plainHs_mono {h h' : List O} (p : preOf h h') : ∀ ds : List D, plainHs h ds = true → plainHs h' ds = true
  | [], _ => by unfold plainHs; rfl
  | d :: ds, q => by
    unfold plainHs at q ⊢
    rw [Bool.and_eq_true] at q
    rw [plainH_mono p d q.1, plainHs_mono p ds q.2]
    rfl
end
structure BadD (h : List O) (d : D) : Prop where
  ph : plainH h d = true
  pl : d.flat = true → plainD d = true
  wr : wrD 1 d = none
  co : costD d ≤ 900000
theorem BadD.mono {h h' : List O} {d : D} (b : BadD h d) (p : preOf h h') : BadD h' d := ⟨plainH_mono p d b.ph, b.pl, b.wr, b.co⟩
theorem told_bad {h : List O} {d : D} (b : BadD h d) : ∃ h', F__law_told [.int 0, d] h = .ok .non h' ∧ preOf h h' ∧ h.length ≤ h'.length := by
  cases q : d.flat with
  | true =>
    have w := write_T d h (b.pl q) b.co (fun t e => by rw [b.wr] at e; cases e)
    rw [b.wr] at w
    exact ⟨h, told0_exc w, fun _ _ => rfl, Nat.le_refl _⟩
  | false =>
    have hf : D.flats [d] = false := by
      show (d.flat && true) = false
      rw [q]
      rfl
    obtain ⟨W', F', e⟩ := write_ref d h b.ph hf b.co b.wr
    refine ⟨_, told0_exc e, fun i hi => ?_, ?_⟩
    · unfold hp
      rw [List.getElem?_append_left hi]
    · unfold hp
      rw [List.length_append]
      omega
def bodyB : MS := sIf (mTst (mOp fNotN (mCall 2 F__law_told (mCons (mC (.int 0)) (mCons (mVar 10) mNil))) (mC .non))) (sRet (mC (.bl false))) sNext
theorem bads_T {sc : D} {o2 o3 o4 o5 o6 o7 o8 o9 o11 o12 o13 : Option D} : ∀ (ds : List D) (o10 : Option D) (h : List O), (∀ d ∈ ds, BadD h d) →
    ∃ o10' h', forL (gtName 10) bodyB (fun _ => true) ds (rW14 sc o2 o3 o4 o5 o6 o7 o8 o9 o10 o11 o12 o13) h = .nx (rW14 sc o2 o3 o4 o5 o6 o7 o8 o9 o10' o11 o12 o13) h'
  | [], o10, h, _ => ⟨o10, h, rfl⟩
  | x :: ds, o10, h, hb => by
    obtain ⟨h1, e1, p1, l1⟩ := told_bad (hb x List.mem_cons_self)
    obtain ⟨b10, h2, e2⟩ := bads_T (sc := sc) (o2 := o2) (o3 := o3) (o4 := o4) (o5 := o5) (o6 := o6) (o7 := o7) (o8 := o8) (o9 := o9) (o11 := o11) (o12 := o12) (o13 := o13) ds (some x) h1 (fun d hd => (hb d (List.mem_cons_of_mem _ hd)).mono p1)
    refine ⟨b10, h2, ?_⟩
    have b : bodyB (rW14 sc o2 o3 o4 o5 o6 o7 o8 o9 (some x) o11 o12 o13) h = .nx (rW14 sc o2 o3 o4 o5 o6 o7 o8 o9 (some x) o11 o12 o13) h1 := by
      unfold bodyB
      have nn : fNotN .non .non h1 = .ok (.bl false) h1 := rfl
      simp only [sIf_ap, mTst_ap, mOp_ap, mCall_ap, mCons_ap, mC_ap, mVar_ap, List.getElem?_cons_succ, List.getElem?_cons_zero, R.bind_ok, mNil_ap, List.length_cons, List.length_nil, if_true, e1, nn, asB_ap, R.thn_ok, Bool.false_eq_true, if_false, sNext_ap]
    have st : forL (gtName 10) bodyB (fun _ => true) (x :: ds) (rW14 sc o2 o3 o4 o5 o6 o7 o8 o9 o10 o11 o12 o13) h = forL (gtName 10) bodyB (fun _ => true) ds (rW14 sc o2 o3 o4 o5 o6 o7 o8 o9 (some x) o11 o12 o13) h1 := for_step b
    rw [st, e2]
def srcB : MI := mSrcN (capL (mCons (mC .non) (mCons (mC (.str "A")) (mCons (mC (.str "+")) (mCons (mC (.str "a b")) (mCons (mC (.str "9a")) (mCons (mC (.str "abcdefghijklm")) (mCons (mLst (mCons (mC (.int 1)) mNil)) (mCons (mTup (mCons (mC (.int 1)) (mCons (mC .non) mNil))) (mCons (mTup (mCons (mTup (mCons (mC .non) mNil)) mNil)) (mCons (mLst (mCons (mC (.str "a")) mNil)) (mCons (mTup (mCons (mC (.str "a")) (mCons (mLst mNil) mNil))) (mCons (mC (.str "]")) (mCons (mTup (mCons (mC (.str "]")) mNil)) mNil))))))))))))))
def badL (a b c : Nat) : List D := [.non, .str "A", .str "+", .str "a b", .str "9a", .str "abcdefghijklm", .ref a, .tup [.int 1, .non], .tup [.tup [.non]], .ref b, .tup [.str "a", .ref c], .str "]", .tup [.str "]"]]
theorem srcB_run (ρ : Sl) (h : List O) : srcB ρ h = .ok (badL h.length (h ++ [O.lst [.int 1]]).length (h ++ [O.lst [.int 1]] ++ [O.lst [.str "a"]]).length, fun _ => true) (h ++ [O.lst [.int 1]] ++ [O.lst [.str "a"]] ++ [O.lst []]) := by
  have n13 : ∀ a b c, (badL a b c).length ≤ sizeLine := fun a b c => by
    show 13 ≤ sizeLine
    rw [sizeLine_eq]; decide
  have n2 := n13 h.length (h ++ [O.lst [.int 1]]).length (h ++ [O.lst [.int 1]] ++ [O.lst [.str "a"]]).length
  unfold badL at n2
  have t1 : ∀ (a : D) h, newTup [a] h = .ok (.tup [a]) h := fun _ _ => rfl
  unfold srcB
  rw [mSrcN_ap, capL_ap]
  simp only [mCons_ap, mC_ap, R.bind_ok, mLst_ap, mNil_ap, nl1, nl0, mTup_ap, tup2, t1]
  rw [if_pos n2]
  rfl
theorem badL_ok (h : List O) : ∀ d ∈ badL h.length (h ++ [O.lst [.int 1]]).length (h ++ [O.lst [.int 1]] ++ [O.lst [.str "a"]]).length, BadD (h ++ [O.lst [.int 1]] ++ [O.lst [.str "a"]] ++ [O.lst []]) d := by
  have g1 : (h ++ [O.lst [.int 1]] ++ [O.lst [.str "a"]] ++ [O.lst []])[h.length]? = some (O.lst [.int 1]) := by simp
  have g2 : (h ++ [O.lst [.int 1]] ++ [O.lst [.str "a"]] ++ [O.lst []])[(h ++ [O.lst [.int 1]]).length]? = some (O.lst [.str "a"]) := by
    rw [List.getElem?_append_left (by simp), List.getElem?_append_right (Nat.le_refl _)]
    simp
  have g3 : (h ++ [O.lst [.int 1]] ++ [O.lst [.str "a"]] ++ [O.lst []])[(h ++ [O.lst [.int 1]] ++ [O.lst [.str "a"]]).length]? = some (O.lst []) := by
    rw [List.getElem?_append_right (Nat.le_refl _)]
    simp
  have pr : ∀ {k : Nat} {H : List O} {ds : List D}, H[k]? = some (.lst ds) → plainH H (.ref k) = true := fun e => by unfold plainH; rw [e]
  have fl : ∀ (H : List O) (d : D), plainD d = true → wrD 1 d = none → costD d ≤ 900000 → BadD H d := fun H d p w c => ⟨plainH_of d p, fun _ => p, w, c⟩
  have rf : ∀ {k : Nat} {H : List O} {ds : List D}, H[k]? = some (.lst ds) → BadD H (.ref k) := fun e => ⟨pr e, (fun z => by cases z), (by unfold wrD; rfl), (by unfold costD; decide)⟩
  have sl : sizeLine = 16777216 := sizeLine_eq
  have ps : ∀ z : Str, z.length ≤ 100 → plainD (.str z) = true := fun z hz => by unfold plainD; exact decide_eq_true (by omega)
  intro d hd
  unfold badL at hd
  simp only [List.mem_cons, List.not_mem_nil, or_false] at hd
  rcases hd with e | e | e | e | e | e | e | e | e | e | e | e | e
  · subst e; exact fl _ _ rfl (by unfold wrD; rfl) (by decide)
  · subst e; exact fl _ _ (ps _ (by decide +kernel)) (by decide +kernel) (by decide)
  · subst e; exact fl _ _ (ps _ (by decide +kernel)) (by decide +kernel) (by decide)
  · subst e; exact fl _ _ (ps _ (by decide +kernel)) (by decide +kernel) (by decide)
  · subst e; exact fl _ _ (ps _ (by decide +kernel)) (by decide +kernel) (by decide)
  · subst e; exact fl _ _ (ps _ (by decide +kernel)) (by decide +kernel) (by decide)
  · subst e; exact rf g1
  · subst e; exact fl _ _ (by decide +kernel) (by decide +kernel) (by decide)
  · subst e; exact fl _ _ (by decide +kernel) (by decide +kernel) (by decide)
  · subst e; exact rf g2
  · subst e
    have wn : ∀ c : Nat, wrD 1 (.tup [.str "a", .ref c]) = none := fun c => by rfl
    have cn : ∀ c : Nat, costD (.tup [.str "a", .ref c]) ≤ 900000 := fun c => by
      unfold costD costs costs costs costD
      decide
    refine ⟨?_, fun z => ?_, wn _, cn _⟩
    · unfold plainH plainHs plainHs plainHs
      rw [pr g3, show plainH (h ++ [O.lst [.int 1]] ++ [O.lst [.str "a"]] ++ [O.lst []]) (.str "a") = true from plainH_of _ (ps _ (by decide +kernel))]
      exact Bool.and_eq_true_iff.mpr ⟨decide_eq_true (by show 2 ≤ sizeLine; omega), rfl⟩
    · cases z
  · subst e; exact fl _ _ (ps _ (by decide +kernel)) (by decide +kernel) (by decide)
  · subst e; exact fl _ _ (by decide +kernel) (by decide +kernel) (by decide)
end K53
set_option Elab.async false
set_option linter.all false
set_option maxRecDepth 100000
set_option maxHeartbeats 1000000
namespace K53
open PySem PySem.Spec PyProof.Rows L2 SL PySem.NumText
/-! ### a number of 4000 digits, and of 4001 -/
def nn (k : Nat) : List Nat := List.replicate k 57
theorem nn_digits (k : Nat) : AllDigits (nn k) := fun c hc => by
  have := List.eq_of_mem_replicate hc
  subst this
  exact ⟨by decide, by decide⟩
theorem nn_val : ∀ (k a : Nat), (nn k).foldl (fun acc c => acc * 10 + (c - 48)) a + 1 = (a + 1) * 10 ^ k
  | 0, a => by show a + 1 = (a + 1) * 10 ^ 0; omega
  | k + 1, a => by
    show (nn k).foldl (fun acc c => acc * 10 + (c - 48)) (a * 10 + (57 - 48)) + 1 = _
    rw [nn_val k]
    have : a * 10 + (57 - 48) + 1 = (a + 1) * 10 := by omega
    rw [this, Nat.mul_assoc, ← Nat.pow_succ']
theorem nn_big : digitsVal (nn 4000) + 1 = bigM := by
  have h := nn_val 4000 0
  unfold bigM
  unfold digitsVal
  rw [h, Nat.zero_add, Nat.one_mul]
theorem nn_head (k : Nat) (hk : 0 < k) : (nn k).headD 0 = 57 := by
  cases k with
  | zero => omega
  | succ k => rfl
theorem nn_ne (k : Nat) (hk : 0 < k) : nn k ≠ [] := by
  cases k with
  | zero => omega
  | succ k => intro e; cases e
theorem nn_all (k : Nat) : (nn k).all dig = true := List.all_eq_true.mpr fun c hc => by
  have := List.eq_of_mem_replicate hc
  subst this
  rfl
theorem nn_len (k : Nat) : (nn k).length = k := List.length_replicate ..
theorem nn_int : PySem.intText? (T (nn 4000)) = some ((digitsVal (nn 4000) : Nat) : Int) := intText_digits (x := T (nn 4000)) (nn_digits _) (nn_ne _ (by decide)) (by rw [T_len, nn_len]; decide)
theorem nn_txt : Str.ofString (toString ((digitsVal (nn 4000) : Nat) : Int)) = T (nn 4000) := txt_nat (nn_digits _) (nn_ne _ (by decide)) (.inr (by rw [nn_head _ (by decide)]; decide))
theorem small_nn : small ((digitsVal (nn 4000) : Nat) : Int) = true := by
  have h := nn_big
  unfold small
  rw [decide_eq_true (by omega), decide_eq_true (by omega)]
  rfl
theorem small_nn1 : small (((digitsVal (nn 4000) : Nat) : Int) + 1) = false := by
  have h := nn_big
  unfold small
  rw [decide_eq_false (p := ((digitsVal (nn 4000) : Nat) : Int) + 1 < (bigM : Int)) (by omega), Bool.and_false]
theorem txtI_nn : txtI ((digitsVal (nn 4000) : Nat) : Int) = nn 4000 := by
  unfold txtI
  rw [nn_txt]
  rfl
theorem atomT_int (i : Int) : atomT (.int i) = if small i = true then some (txtI i) else none := rfl
theorem wrD_int (k : Nat) (i : Int) : wrD k (.int i) = if small i = true then some (txtI i) else none := by
  unfold wrD
  exact atomT_int i
theorem wrD_nn : wrD 1 (.int ((digitsVal (nn 4000) : Nat) : Int)) = some (nn 4000) := by
  rw [wrD_int, if_pos small_nn, txtI_nn]
theorem wrD_nn1 : wrD 1 (.int (((digitsVal (nn 4000) : Nat) : Int) + 1)) = none := by
  rw [wrD_int, small_nn1]
  rfl
theorem nn_num : ∃ n : Int, PySem.intText? (T (nn 4000)) = some n ∧ wrD 1 (.int n) = some (nn 4000) ∧ wrD 1 (.int (n + 1)) = none := ⟨_, nn_int, wrD_nn, wrD_nn1⟩
theorem nn_S (k : Nat) : ∀ c ∈ nn k, isS c = false := fun c hc => by
  have := List.eq_of_mem_replicate hc
  subst this
  rfl
theorem pieces_one {t : List Nat} (h : ∀ c ∈ t, isS c = false) (hne : t ≠ []) : pieces t [] = [t] := by
  have e := pieces_app t [] [] h
  rw [List.append_nil, List.nil_append] at e
  rw [e]
  show optT t = _
  unfold optT
  rw [if_neg hne]
theorem one_sign {t : List Nat} (h : 2 ≤ t.length) (c : Nat) : t ≠ [c] := fun e => by
  rw [e] at h
  simp at h
theorem nn_app (k : Nat) (s : Nat) (c : Nat) (hc : c ∈ nn k ++ [s]) : c = 57 ∨ c = s := by
  rcases List.mem_append.mp hc with q | q
  · exact .inl (List.eq_of_mem_replicate q)
  · exact .inr (by simpa using q)
theorem wordC_long {t : List Nat} (h : 12 < t.length) : wordC t = false := by
  unfold wordC
  rw [decide_eq_false (p := t.length ≤ 12) (by omega)]
  simp
/-- told(1, "-" + long) -/
theorem read_neg (h : List O) : ∃ d, F_read_data [.str (T (45 :: nn 4000))] h = .ok d h := by
  have tl : (45 :: nn 4000).length = 4001 := by rw [List.length_cons, nn_len]
  have bo : bodyOf (45 :: nn 4000) = nn 4000 := if_pos rfl
  have nc : numC (45 :: nn 4000) = true := by
    unfold numC
    rw [bo, nn_all, nn_head _ (by decide)]
    have : (nn 4000).isEmpty = false := by
      rw [List.isEmpty_eq_false_iff]
      exact nn_ne _ (by decide)
    rw [this]
    rfl
  have nr : numR (45 :: nn 4000) = some (-((digitsVal (nn 4000) : Nat) : Int)) := by
    unfold numR
    rw [if_pos nc]
    exact intText_neg (x := T (45 :: nn 4000)) rfl (nn_digits _) (nn_ne _ (by decide)) (by rw [T_len, tl]; decide)
  have rw_ := fun h => read_whole_T2 (45 :: nn 4000) h (by omega) (by rw [bo, nn_len]; decide)
  have ra := fun h => read_atom_T0 (45 :: nn 4000) h (by rw [sizeLine_eq]; omega) (numR (45 :: nn 4000)) rw_
  have ax : atomX (45 :: nn 4000) (numR (45 :: nn 4000)) = some (.int (-((digitsVal (nn 4000) : Nat) : Int))) := by
    unfold atomX
    rw [if_neg (one_sign (by omega) _), if_neg (one_sign (by omega) _), if_neg (one_sign (by omega) _), wordC_long (by omega), nr]
    rfl
  rw [ax] at ra
  obtain ⟨h', e⟩ := read_one (45 :: nn 4000) (by omega) (one_sign (by omega) _) (one_sign (by omega) _) (one_sign (by omega) _) (pieces_one (fun c hc => by
    rcases List.mem_cons.mp hc with q | q
    · subst q; rfl
    · exact nn_S _ c q) (by intro z; cases z)) (some (.int (-((digitsVal (nn 4000) : Nat) : Int)))) ra
  exact ⟨_, pureOr_ok (F := runDef 3 m_read_data) (h := h) e rfl rfl⟩
/-- told(1, long + "0") -/
theorem read_long (h : List O) : F_read_data [.str (T (nn 4000 ++ [48]))] h = .exc "Malformed" h := by
  have tl : (nn 4000 ++ [48]).length = 4001 := by rw [List.length_append, nn_len]; rfl
  have bo : bodyOf (nn 4000 ++ [48]) = nn 4000 ++ [48] := if_neg (by
    show List.take 1 (List.replicate (3999 + 1) 57 ++ [48]) ≠ [45]
    rw [List.replicate_succ]
    intro z
    simp at z)
  have rw_ := fun h => read_whole_long (nn 4000 ++ [48]) h (by omega) (by rw [bo, tl]; decide)
  have ra := fun h => read_atom_T0 (nn 4000 ++ [48]) h (by rw [sizeLine_eq]; omega) none rw_
  have ax : atomX (nn 4000 ++ [48]) none = none := by
    unfold atomX
    rw [if_neg (one_sign (by omega) _), if_neg (one_sign (by omega) _), if_neg (one_sign (by omega) _), wordC_long (by omega)]
    rfl
  rw [ax] at ra
  obtain ⟨h', e⟩ := read_one (nn 4000 ++ [48]) (by omega) (one_sign (by omega) _) (one_sign (by omega) _) (one_sign (by omega) _) (pieces_one (fun c hc => by
    rcases nn_app _ _ _ hc with q | q
    · subst q; rfl
    · subst q; rfl) (by intro z; simp at z)) none ra
  exact pureOr_exc (F := runDef 3 m_read_data) (h := h) e rfl
theorem mul_str (c k : Nat) (h : List O) (h1 : 1 < k) (h2 : k ≤ 100000) : fMul (.str (T [c])) (.int (k : Nat)) h = .ok (.str (T (List.replicate k c))) h := by
  have e63 : (2 : Int) ^ 63 = 9223372036854775808 := by decide
  show (if 1 < ((k : Nat) : Int) ∧ ((k : Nat) : Int) < 2 ^ 63 ∧ (T [c]).length ≠ 0 ∧ (T [c]).length * ((k : Nat) : Int).toNat ≤ sizeLine then R.ok (D.str ⟨(List.replicate ((k : Nat) : Int).toNat (T [c]).cps.toList).flatten.toArray⟩) h else .bad) = _
  rw [if_pos ⟨by omega, by rw [e63]; omega, by rw [T_len]; exact Nat.one_ne_zero, by rw [T_len, sizeLine_eq]; simp; omega⟩]
  rw [T_cps, Int.toNat_natCast]
  have : (List.replicate k [c]).flatten = List.replicate k c := by
    induction k with
    | zero => rfl
    | succ k ih =>
      rw [List.replicate_succ, List.flatten_cons, List.replicate_succ]
      have : (List.replicate k [c]).flatten = List.replicate k c := by
        clear ih h1 h2
        induction k with
        | zero => rfl
        | succ k ih => rw [List.replicate_succ, List.flatten_cons, ih, List.replicate_succ]; rfl
      rw [this]
      rfl
  rw [this]
  rfl
theorem fAdd_T (a b : List Nat) (g : List O) (hab : a.length + b.length ≤ 100000) : fAdd (.str (T a)) (.str (T b)) g = .ok (.str (T (a ++ b))) g := by
  have sl : sizeLine = 16777216 := sizeLine_eq
  show (if (T a).length + (T b).length ≤ sizeLine then R.ok (D.str (T a ++ T b)) g else .bad) = _
  rw [if_pos (by rw [T_len, T_len]; omega), T_app]
def longS : MS := sIf (mOr (mTst (mOp fNe (mCall 2 F__law_told (mCons (mC (.int 0)) (mCons (mCB fIntN (mCons (mVar 11) mNil)) mNil))) (mLst (mCons (mVar 11) mNil)))) (mOr (mTst (mOp fIsN (mCall 2 F__law_told (mCons (mC (.int 1)) (mCons (mOp fAdd (mC (.str "-")) (mVar 11)) mNil))) (mC .non))) (mOr (mTst (mOp fNotN (mCall 2 F__law_told (mCons (mC (.int 1)) (mCons (mOp fAdd (mVar 11) (mC (.str "0"))) mNil))) (mC .non))) (mTst (mOp fNotN (mCall 2 F__law_told (mCons (mC (.int 0)) (mCons (mOp fAdd (mCB fIntN (mCons (mVar 11) mNil)) (mC (.int 1))) mNil))) (mC .non)))))) (sRet (mC (.bl false))) sNext
theorem longS_run0 (t : List Nat) (N : Int) (lt : t.length = 4000) (nI : PySem.intText? (T t) = some N) (wN : wrD 1 (.int N) = some t) (wN1 : wrD 1 (.int (N + 1)) = none) (low57 : ∀ c ∈ t, c < 128)
    (rn : ∀ h, ∃ d, F_read_data [.str (T (45 :: t))] h = .ok d h) (rl : ∀ h, F_read_data [.str (T (t ++ [48]))] h = .exc "Malformed" h) {ρ : Sl} {h : List O} (e : ρ[11]? = some (some (.str (T t)))) : ∃ h', longS ρ h = .nx ρ h' := by
  have sl : sizeLine = 16777216 := sizeLine_eq
  have pi : ∀ i : Int, plainD (.int i) = true := fun _ => rfl
  have ci : ∀ i : Int, costD (.int i) ≤ 900000 := fun i => by unfold costD; decide
  have iN : ∀ g, fIntN [.str (T t)] g = .ok (.int N) g := fun g => fIntN_T g nI (by rw [lt]; omega)
  have w0 := fun g => write_T (.int N) g (pi _) (ci _) (fun t e => by rw [wN] at e; cases e; rw [lt]; omega)
  rw [wN] at w0
  have tl0 := fun g => told0_ok (w0 g)
  have w1 := fun g => write_T (.int (N + 1)) g (pi _) (ci _) (fun t e => by rw [wN1] at e; cases e)
  rw [wN1] at w1
  have tl3 := fun g => told0_exc (w1 g)
  have tl2 := fun g => told1_exc (rl g)
  have tl1 : ∀ g, ∃ d, F__law_told [.int 1, .str (T (45 :: t))] g = .ok (.ref g.length) (g ++ [.lst [d]]) := fun g => by
    obtain ⟨d, hd⟩ := rn g
    exact ⟨d, told1_ok hd⟩
  have ne1 : fNe (.ref h.length) (.ref (h ++ [O.lst [.str (T t)]]).length) (h ++ [O.lst [.str (T t)]] ++ [O.lst [.str (T t)]]) = .ok (.bl false) (h ++ [O.lst [.str (T t)]] ++ [O.lst [.str (T t)]]) :=
    eq_str1 (t := t) (by simp) (by simp) low57
  have a1 : ∀ g, fAdd (.str "-") (.str (T t)) g = .ok (.str (T (45 :: t))) g := fun g => by
    rw [lit_dash]
    exact fAdd_T [45] t g (by rw [lt]; decide)
  have a2 : ∀ g, fAdd (.str (T t)) (.str "0") g = .ok (.str (T (t ++ [48]))) g := fun g => by
    rw [lit_zero]
    exact fAdd_T t [48] g (by rw [lt]; decide)
  obtain ⟨dn, hdn⟩ := tl1 (h ++ [O.lst [.str (T t)]] ++ [O.lst [.str (T t)]])
  have is1 : ∀ n g, fIsN (.ref n) .non g = .ok (.bl false) g := fun n g => by
    show R.ok (D.bl (decide (D.ref n = D.non))) g = _
    rw [decide_eq_false (by intro z; cases z)]
  have no1 : ∀ g, fNotN .non .non g = .ok (.bl false) g := fun g => rfl
  refine ⟨h ++ [O.lst [.str (T t)]] ++ [O.lst [.str (T t)]] ++ [O.lst [dn]], ?_⟩
  unfold longS
  rw [sIf_ap]
  simp only [mOr_ap, mTst_ap, mOp_ap, mCall_ap, mCons_ap, mC_ap, mVar_ap, mCB_ap, e, R.bind_ok, mNil_ap, List.length_cons, List.length_nil, if_true, iN, tl0, mLst_ap, nl1, ne1, asB_ap, Bool.false_eq_true, if_false, a1, hdn, is1, a2, tl2, no1, fAdd_int, tl3, R.thn_ok, sNext_ap]
theorem longS_run {ρ : Sl} {h : List O} (e : ρ[11]? = some (some (.str (T (nn 4000))))) : ∃ h', longS ρ h = .nx ρ h' := by
  obtain ⟨N, nI, wN, wN1⟩ := nn_num
  exact longS_run0 (nn 4000) N (nn_len _) nI wN wN1 (fun c hc => by
    have := List.eq_of_mem_replicate hc
    omega) read_neg read_long e
end K53
set_option Elab.async false
set_option linter.all false
set_option maxRecDepth 100000
set_option maxHeartbeats 1000000
namespace K53
open PySem PySem.Spec PyProof.Rows L2 SL PySem.NumText
/-! ### deep tuples -/
def nest : Nat → D
  | 0 => .tup []
  | n + 1 => .tup [nest n]
theorem nest_plain : ∀ n, plainD (nest n) = true
  | 0 => by
    unfold nest plainD plainDs
    rw [decide_eq_true (by show 0 ≤ sizeLine; omega)]
    rfl
  | n + 1 => by
    have s1 : (1 : Nat) ≤ sizeLine := by rw [sizeLine_eq]; decide
    unfold nest plainD plainDs plainDs
    rw [nest_plain n, decide_eq_true (by show 1 ≤ sizeLine; omega)]
    rfl
theorem nest_cost : ∀ n, costD (nest n) = 3 * n + 2
  | 0 => by unfold nest costD costs; rfl
  | n + 1 => by
    unfold nest costD costs costs
    rw [nest_cost n]
    omega
def br (n : Nat) : List Nat := List.replicate n 91 ++ List.replicate n 93
theorem br_succ (n : Nat) : 91 :: (br n ++ [93]) = br (n + 1) := by
  unfold br
  rw [List.replicate_succ, List.replicate_succ' (a := 93)]
  simp
theorem nest_wr : ∀ (n k : Nat), k + n ≤ 1000 → wrD k (nest n) = some (br (n + 1))
  | 0, k, h => by
    unfold nest wrD wrsD
    rw [if_pos (by omega)]
    rfl
  | n + 1, k, h => by
    have e : wrsD (k + 1) [nest n] = wrD (k + 1) (nest n) := by unfold wrsD; rfl
    unfold nest wrD
    rw [if_pos (by omega), e, nest_wr n (k + 1) (by omega)]
    show some (91 :: (br (n + 1) ++ [93])) = _
    rw [br_succ]
theorem nest_no : ∀ (n k : Nat), 1000 < k + n → wrD k (nest n) = none
  | 0, k, h => by
    unfold nest wrD
    rw [if_neg (by omega)]
  | n + 1, k, h => by
    have e : wrsD (k + 1) [nest n] = wrD (k + 1) (nest n) := by unfold wrsD; rfl
    unfold nest wrD
    by_cases q : k ≤ 1000
    · rw [if_pos q, e, nest_no n (k + 1) (by omega)]
      rfl
    · rw [if_neg q]
theorem br_len (n : Nat) : (br n).length = 2 * n := by
  unfold br
  rw [List.length_append, List.length_replicate, List.length_replicate]
  omega
theorem br_mem {n c : Nat} (h : c ∈ br n) : c = 91 ∨ c = 93 := by
  unfold br at h
  rcases List.mem_append.mp h with q | q
  · exact .inl (List.eq_of_mem_replicate q)
  · exact .inr (List.eq_of_mem_replicate q)
theorem br_pieces (n : Nat) : ∀ p ∈ pieces (br n) [], p.length ≤ 4000 := fun p hp => by
  have key : ∀ (l : List Nat), (∀ c ∈ l, isS c = true) → ∀ p ∈ pieces l [], p.length ≤ 4000 := by
    intro l
    induction l with
    | nil => intro _ p hp; cases hp
    | cons c r ih =>
      intro hl p hp
      rw [pieces_sign (hl c List.mem_cons_self)] at hp
      rcases List.mem_cons.mp hp with q | q
      · rw [q]
        show 1 ≤ 4000
        decide
      · exact ih (fun x hx => hl x (List.mem_cons_of_mem _ hx)) p q
  exact key (br n) (fun c hc => by rcases br_mem hc with e | e <;> (subst e; rfl)) p hp
/-- opening brackets -/
theorem opens (M : Nat) : ∀ (m : Nat) (rows : List (List D)) (rest : List Nat), stepsP M (pieces (List.replicate m 91 ++ rest) []) ⟨rows, none⟩ = if m = 0 ∨ rows.length + m ≤ M then stepsP M (pieces rest []) ⟨List.replicate m [] ++ rows, none⟩ else none
  | 0, rows, rest => by
    rw [if_pos (.inl rfl)]
    rfl
  | m + 1, rows, rest => by
    rw [List.replicate_succ, List.cons_append, pieces_sign (by rfl), steps_cons]
    have so : stepP M [91] ⟨rows, none⟩ = stO M ⟨rows, none⟩ := if_pos rfl
    rw [so]
    unfold stO
    dsimp only
    by_cases q : rows.length < M
    · rw [if_pos q]
      show stepsP M (pieces (List.replicate m 91 ++ rest) []) ⟨[] :: rows, none⟩ = _
      rw [opens M m ([] :: rows) rest]
      have er : List.replicate m ([] : List D) ++ [] :: rows = List.replicate (m + 1) [] ++ rows := by
        rw [List.replicate_succ']
        simp
      rw [er, List.length_cons]
      by_cases z : rows.length + (m + 1) ≤ M
      · rw [if_pos (.inr (by omega)), if_pos (.inr z)]
      · by_cases m0 : m = 0
        · omega
        · rw [if_neg (by rintro (y | y) <;> omega), if_neg (by rintro (y | y) <;> omega)]
    · rw [if_neg q, if_neg (by rintro (y | y) <;> omega)]
      rfl
theorem stC_some (r : List D) (rest : List (List D)) (d : D) : stepP 1000 [93] ⟨r :: rest, some d⟩ = some ⟨rest, some (.tup (r ++ [d]))⟩ := by rfl
theorem stC_none (rest : List (List D)) : stepP 1000 [93] ⟨[] :: rest, none⟩ = some ⟨rest, some (.tup [])⟩ := by rfl
theorem closes : ∀ (m : Nat) (d : D), ∃ d', stepsP 1000 (pieces (List.replicate m 93) []) ⟨List.replicate m [], some d⟩ = some ⟨[], some d'⟩
  | 0, d => ⟨d, rfl⟩
  | m + 1, d => by
    obtain ⟨d', e⟩ := closes m (.tup ([] ++ [d]))
    refine ⟨d', ?_⟩
    rw [List.replicate_succ, pieces_sign (by rfl), steps_cons, List.replicate_succ, stC_some]
    exact e
theorem read_br (n : Nat) (hn : n + 1 ≤ 1000) : ∃ d, readR 1000 (br (n + 1)) = some d := by
  obtain ⟨d', e⟩ := closes n (.tup [])
  refine ⟨d', ?_⟩
  unfold readR br
  rw [opens 1000 (n + 1) [] _, if_pos (.inr (by show 0 + (n + 1) ≤ 1000; omega)), List.append_nil, List.replicate_succ, List.replicate_succ, pieces_sign (by rfl), steps_cons, stC_none]
  show (match stepsP 1000 (pieces (List.replicate n 93) []) ⟨List.replicate n [], some (.tup [])⟩ with
    | some ⟨[], some d⟩ => some d
    | _ => none) = _
  rw [e]
theorem read_br_no (n : Nat) (hn : 1000 < n) : readR 1000 (br n) = none := by
  unfold readR br
  rw [opens 1000 n [] _, if_neg (by rintro (y | y) <;> (try simp at y) <;> omega)]
theorem read_deep (h : List O) : ∃ d, F_read_data [.str (T (br 1000))] h = .ok d h := by
  obtain ⟨d, e⟩ := read_br 999 (by decide)
  have r := read_T (br 1000) h (by rw [br_len]; decide) (br_pieces 1000)
  rw [e] at r
  exact ⟨d, r⟩
theorem read_deeper (h : List O) : F_read_data [.str (T (br 1001))] h = .exc "Malformed" h := by
  have r := read_T (br 1001) h (by rw [br_len]; decide) (br_pieces 1001)
  rw [read_br_no 1001 (by decide)] at r
  exact r
theorem brs_txt (n : Nat) (h1 : 1 < n) (h2 : n ≤ 10000) (ρ : Sl) (h : List O) : mOp fAdd (mOp fMul (mC (.str "[")) (mC (.int (n : Nat)))) (mOp fMul (mC (.str "]")) (mC (.int (n : Nat)))) ρ h = .ok (.str (T (br n))) h := by
  rw [lit_open, lit_close]
  simp only [mOp_ap, mC_ap, R.bind_ok, mul_str _ n _ h1 (show n ≤ 100000 by omega)]
  exact fAdd_T _ _ h (by rw [List.length_replicate, List.length_replicate]; omega)
def deepB : MS := sSet 12 (mTup (mCons (mVar 12) mNil))
theorem deep_loop {sc : D} {o3 o4 o5 o6 o7 o8 o9 o10 o11 o13 : Option D} : ∀ (ds : List D) (k : Nat) (o2 : Option D) (h : List O), ∃ o2', forL (gtName 2) deepB (fun _ => true) ds (rW14 sc o2 o3 o4 o5 o6 o7 o8 o9 o10 o11 (some (nest k)) o13) h = .nx (rW14 sc o2' o3 o4 o5 o6 o7 o8 o9 o10 o11 (some (nest (k + ds.length))) o13) h
  | [], k, o2, h => ⟨o2, rfl⟩
  | x :: ds, k, o2, h => by
    obtain ⟨o2', e⟩ := deep_loop (sc := sc) (o3 := o3) (o4 := o4) (o5 := o5) (o6 := o6) (o7 := o7) (o8 := o8) (o9 := o9) (o10 := o10) (o11 := o11) (o13 := o13) ds (k + 1) (some x) h
    refine ⟨o2', ?_⟩
    have b : deepB (rW14 sc (some x) o3 o4 o5 o6 o7 o8 o9 o10 o11 (some (nest k)) o13) h = .nx (rW14 sc (some x) o3 o4 o5 o6 o7 o8 o9 o10 o11 (some (nest (k + 1))) o13) h := rfl
    have st : forL (gtName 2) deepB (fun _ => true) (x :: ds) (rW14 sc o2 o3 o4 o5 o6 o7 o8 o9 o10 o11 (some (nest k)) o13) h = forL (gtName 2) deepB (fun _ => true) ds (rW14 sc (some x) o3 o4 o5 o6 o7 o8 o9 o10 o11 (some (nest (k + 1))) o13) h := for_step b
    rw [st, e, List.length_cons, show k + (ds.length + 1) = k + 1 + ds.length by omega]
def deepS0 (b0 b1 : ME) : MS := sIf (mOr (mTst (mOp fNe (mCall 2 F__law_told (mCons (mC (.int 0)) (mCons (mVar 12) mNil))) (mLst (mCons b0 mNil)))) (mOr (mTst (mOp fNotN (mCall 2 F__law_told (mCons (mC (.int 0)) (mCons (mTup (mCons (mVar 12) mNil)) mNil))) (mC .non))) (mTst (mOp fNotN (mCall 2 F__law_told (mCons (mC (.int 1)) (mCons b1 mNil))) (mC .non))))) (sRet (mC (.bl false))) sNext
theorem deepS_run0 (t u : List Nat) (x y : D) (b0 b1 : ME) (hb0 : ∀ ρ g, b0 ρ g = .ok (.str (T t)) g) (hb1 : ∀ ρ g, b1 ρ g = .ok (.str (T u)) g)
    (w0 : ∀ g, F_write_data [x] g = .ok (.str (T t)) g) (w1 : ∀ g, F_write_data [y] g = .exc "Malformed" g) (rd : ∀ g, F_read_data [.str (T u)] g = .exc "Malformed" g) (t1 : ∀ g, newTup [x] g = .ok y g) (lo : ∀ c ∈ t, c < 128) {ρ : Sl} {h : List O} (e : ρ[12]? = some (some x)) : ∃ h', deepS0 b0 b1 ρ h = .nx ρ h' := by
  have tl0 := fun g => told0_ok (w0 g)
  have tl1 := fun g => told0_exc (w1 g)
  have tl2 := fun g => told1_exc (rd g)
  have no1 : ∀ g, fNotN .non .non g = .ok (.bl false) g := fun g => rfl
  have ne1 : fNe (.ref h.length) (.ref (h ++ [O.lst [.str (T t)]]).length) (h ++ [O.lst [.str (T t)]] ++ [O.lst [.str (T t)]]) = .ok (.bl false) (h ++ [O.lst [.str (T t)]] ++ [O.lst [.str (T t)]]) :=
    eq_str1 (t := t) (by simp) (by simp) lo
  refine ⟨h ++ [O.lst [.str (T t)]] ++ [O.lst [.str (T t)]], ?_⟩
  unfold deepS0
  rw [sIf_ap, mOr_ap, mTst_ap, mOp_ap, mCall_ap]
  simp only [mCons_ap, mC_ap, mVar_ap, e, R.bind_ok, mNil_ap, List.length_cons, List.length_nil, if_true, tl0, mLst_ap, hb0, nl1, ne1, asB_ap, Bool.false_eq_true, if_false]
  rw [mOr_ap, mTst_ap, mOp_ap, mCall_ap]
  simp only [mCons_ap, mC_ap, mVar_ap, e, mTup_ap, R.bind_ok, mNil_ap, t1, List.length_cons, List.length_nil, if_true, tl1, no1, asB_ap, Bool.false_eq_true, if_false]
  rw [mTst_ap, mOp_ap, mCall_ap]
  simp only [mCons_ap, mC_ap, R.bind_ok, mNil_ap, hb1, List.length_cons, List.length_nil, if_true, tl2, no1, asB_ap, Bool.false_eq_true, if_false, R.thn_ok, sNext_ap]
def deepS : MS := deepS0 (mOp fAdd (mOp fMul (mC (.str "[")) (mC (.int 1000))) (mOp fMul (mC (.str "]")) (mC (.int 1000)))) (mOp fAdd (mOp fMul (mC (.str "[")) (mC (.int 1001))) (mOp fMul (mC (.str "]")) (mC (.int 1001))))
theorem nest_succ (n : Nat) : newTup [nest n] = fun g => .ok (nest (n + 1)) g := rfl
theorem write_nest (n : Nat) (hn : n ≤ 999) (g : List O) : F_write_data [nest n] g = .ok (.str (T (br (n + 1)))) g := by
  have w0 := write_T (nest n) g (nest_plain _) (by rw [nest_cost]; omega) (fun t e => by rw [nest_wr n 1 (by omega)] at e; cases e; rw [br_len]; omega)
  rw [nest_wr n 1 (by omega)] at w0
  exact w0
theorem write_nest_no (n : Nat) (hn : 1000 ≤ n) (hm : n ≤ 2000) (g : List O) : F_write_data [nest n] g = .exc "Malformed" g := by
  have w0 := write_T (nest n) g (nest_plain _) (by rw [nest_cost]; omega) (fun t e => by rw [nest_no n 1 (by omega)] at e; cases e)
  rw [nest_no n 1 (by omega)] at w0
  exact w0
theorem deepS_run {n : Nat} (hn : n = 999) {ρ : Sl} {h : List O} (e : ρ[12]? = some (some (nest n))) : ∃ h', deepS ρ h = .nx ρ h' :=
  deepS_run0 (br (n + 1)) (br (n + 2)) (nest n) (nest (n + 1)) _ _ (by subst hn; exact fun ρ g => brs_txt 1000 (by decide) (by decide) ρ g) (by subst hn; exact fun ρ g => brs_txt 1001 (by decide) (by decide) ρ g) (write_nest n (by omega)) (write_nest_no (n + 1) (by omega) (by omega)) (by subst hn; exact read_deeper) (fun g => congrFun (nest_succ n) g) (fun c hc => by rcases br_mem hc with e | e <;> omega) e
end K53
set_option Elab.async false
set_option linter.all false
set_option maxRecDepth 100000
set_option maxHeartbeats 1000000
namespace K53
open PySem PySem.Spec PyProof.Rows L2 SL PySem.NumText
/-! ### the last row, the law -/
def lastL : M (List D) := mLcI (mSrcN (capL (mCons (mC .non) (mCons (mC (.int 5)) (mCons (mTup (mCons (mC (.int 1)) mNil)) (mCons (mC (.str "")) (mCons (mC (.str "[a][b]")) (mCons (mC (.str "a,b")) (mCons (mC (.str "[a")) mNil))))))))) [13] (gtName 13) tYesD (mCall 2 F__law_told (mCons (mC (.int 1)) (mCons (mVar 13) mNil)))
def endS0 (b0 : ME) : MS := sRet (mAndV (mOp fNotN (mCall 2 F__law_told (mCons (mC (.int 1)) (mCons b0 mNil))) (mC .non)) (mOp fEq (mNew lastL) (mOp fMul (mLst (mCons (mC .non) mNil)) (mC (.int 7)))))
def endS : MS := endS0 (mOp fAdd (mOp fMul (mC (.str "[")) (mC (.int 1000))) (mOp fMul (mC (.str "]")) (mC (.int 1000))))
def endD : List D := [.non, .int 5, .tup [.int 1], .str (T []), .str (T [91, 97, 93, 91, 98, 93]), .str (T [97, 44, 98]), .str (T [91, 97])]
theorem endD_no : ∀ d ∈ endD, ∀ h, F__law_told [.int 1, d] h = .ok .non h := by
  have str : ∀ t : List Nat, t.length ≤ 10 → (∀ p ∈ pieces t [], p.length ≤ 4000) → readR 1000 t = none → ∀ h, F__law_told [.int 1, .str (T t)] h = .ok .non h := fun t ht hp hr h => by
    have r := read_T t h (by omega) hp
    rw [hr] at r
    exact told1_exc r
  intro d hd h
  unfold endD at hd
  simp only [List.mem_cons, List.not_mem_nil, or_false] at hd
  rcases hd with e | e | e | e | e | e | e
  · subst e; exact told1_exc (read_no .non h "NoneType" (fun _ => rfl) (by simp))
  · subst e; exact told1_exc (read_no (.int 5) h "int" (fun _ => rfl) (by simp))
  · subst e; exact told1_exc (read_no (.tup [.int 1]) h "tuple" (fun _ => rfl) (by simp))
  · subst e; exact str _ (by decide) (by decide) (by decide +kernel) h
  · subst e; exact str _ (by decide) (by decide) (by decide +kernel) h
  · subst e; exact str _ (by decide) (by decide) (by decide +kernel) h
  · subst e; exact str _ (by decide) (by decide) (by decide +kernel) h
theorem lit_e1 : ("[a][b]" : Str) = T [91, 97, 93, 91, 98, 93] := by decide +kernel
theorem lit_e2 : ("a,b" : Str) = T [97, 44, 98] := by decide +kernel
theorem lit_e3 : ("[a" : Str) = T [91, 97] := by decide +kernel
theorem lastL_run {ρ : Sl} {h : List O} (hl : 13 < ρ.length) : lastL ρ h = .ok (endD.map fun _ => .non) h := by
  have n7 : endD.length ≤ sizeLine := by rw [sizeLine_eq]; decide
  have n7' := n7
  unfold endD at n7'
  have t1 : ∀ g, newTup [.int 1] g = .ok (.tup [.int 1]) g := fun _ => rfl
  have cm := compL_map (i := 13) (te := mCall 2 F__law_told (mCons (mC (.int 1)) (mCons (mVar 13) mNil))) (ρ := wipeD ρ [13]) (gd := fun _ => true) (ds := endD) (h := h) (f := fun _ => .non) rfl fun d hd => by
    have l2 : (wipeD ρ [13]).length = ρ.length := by
      show (ρ.set 13 none).length = _
      rw [List.length_set]
    simp only [mCall_ap, mCons_ap, mC_ap, mVar_ap, R.bind_ok, List.getElem?_set_self (by rw [l2]; exact hl : 13 < (wipeD ρ [13]).length), mNil_ap, List.length_cons, List.length_nil, if_true, endD_no d hd h]
  have sr : mSrcN (capL (mCons (mC .non) (mCons (mC (.int 5)) (mCons (mTup (mCons (mC (.int 1)) mNil)) (mCons (mC (.str "")) (mCons (mC (.str "[a][b]")) (mCons (mC (.str "a,b")) (mCons (mC (.str "[a")) mNil)))))))) ρ h = .ok (endD, fun _ => true) h := by
    rw [mSrcN_ap, capL_ap, lit_nil, lit_e1, lit_e2, lit_e3]
    simp only [mCons_ap, mC_ap, R.bind_ok, mTup_ap, mNil_ap, t1]
    rw [if_pos n7']
    rfl
  unfold lastL
  rw [mLcI_ap, sr, R.bind_ok, if_pos n7, cm]
theorem endS_run0 (t : List Nat) (b0 : ME) (b0' : ∀ ρ g, b0 ρ g = .ok (.str (T t)) g) (rd : ∀ h, ∃ d, F_read_data [.str (T t)] h = .ok d h) {ρ : Sl} {h : List O} (hl : 13 < ρ.length) : ∃ h', endS0 b0 ρ h = .rt (.bl true) h' := by
  obtain ⟨d, hd⟩ := rd h
  have tl := told1_ok hd
  have no : fNotN (.ref h.length) .non (h ++ [O.lst [d]]) = .ok (.bl true) (h ++ [O.lst [d]]) := by
    show R.ok (D.bl (!decide (D.ref h.length = D.non))) _ = _
    rw [decide_eq_false (by intro z; cases z)]
    rfl
  have n7 : List.map (fun _ => D.non) endD = [.non, .non, .non, .non, .non, .non, .non] := rfl
  have ml : ∀ (m : Nat) (g : List O), g[m]? = some (.lst [.non]) → fMul (.ref m) (.int 7) g = .ok (.ref g.length) (g ++ [.lst [.non, .non, .non, .non, .non, .non, .non]]) := fun m g e => by
    show (match g[m]? with
      | some (.lst a) => if -(2 ^ 63 : Int) ≤ 7 ∧ (7 : Int) < 2 ^ 63 ∧ a.length * (7 : Int).toNat ≤ sizeLine then allocL (List.replicate (7 : Int).toNat a).flatten g else .bad
      | _ => .bad) = _
    rw [e]
    dsimp only
    rw [if_pos ⟨by decide, by decide, by rw [sizeLine_eq]; decide⟩]
    rfl
  have eqn : ∀ (m n : Nat) (g : List O), g[m]? = some (.lst [.non, .non, .non, .non, .non, .non, .non]) → g[n]? = some (.lst [.non, .non, .non, .non, .non, .non, .non]) → fEq (.ref m) (.ref n) g = .ok (.bl true) g := fun m n g e1 e2 => by
    have t0 : toPys g 999999 [.non, .non, .non, .non, .non, .non, .non] = some [.none, .none, .none, .none, .none, .none, .none] := rfl
    have t1 : toPy g pyF (.ref m) = some (.list [.none, .none, .none, .none, .none, .none, .none]) := by
      show toPy g (999999 + 1) (.ref m) = _
      rw [toPy_ref e1, t0]
      rfl
    have t2 : toPy g pyF (.ref n) = some (.list [.none, .none, .none, .none, .none, .none, .none]) := by
      show toPy g (999999 + 1) (.ref n) = _
      rw [toPy_ref e2, t0]
      rfl
    have ev : eqPy (.ref m) (.ref n) g = some true := by
      unfold eqPy
      rw [t1, t2]
      rfl
    show (match eqPy (.ref m) (.ref n) g with
      | some b => R.ok (D.bl b) g
      | none => .bad) = _
    rw [ev]
  unfold endS0
  rw [sRet_ap, mAndV_ap]
  refine ⟨h ++ [O.lst [d]] ++ [.lst [.non, .non, .non, .non, .non, .non, .non]] ++ [.lst [.non]] ++ [.lst [.non, .non, .non, .non, .non, .non, .non]], ?_⟩
  have e1 : mOp fNotN (mCall 2 F__law_told (mCons (mC (.int 1)) (mCons b0 mNil))) (mC .non) ρ h = .ok (.bl true) (h ++ [O.lst [d]]) := by
    rw [mOp_ap, mCall_ap]
    simp only [mCons_ap, mC_ap, b0', R.bind_ok, mNil_ap, List.length_cons, List.length_nil, if_true, tl, no]
  rw [e1, R.bind_ok, asB_ap, R.bind_ok, if_pos rfl]
  have e2 : mNew lastL ρ (h ++ [O.lst [d]]) = .ok (.ref (h ++ [O.lst [d]]).length) (h ++ [O.lst [d]] ++ [.lst [.non, .non, .non, .non, .non, .non, .non]]) := by
    rw [mNew_ap, lastL_run hl, R.bind_ok, n7]
    rfl
  have g1 : (h ++ [O.lst [d]] ++ [.lst [.non, .non, .non, .non, .non, .non, .non]] ++ [.lst [.non]])[(h ++ [O.lst [d]] ++ [O.lst [.non, .non, .non, .non, .non, .non, .non]]).length]? = some (.lst [.non]) := by simp
  have g2 : (h ++ [O.lst [d]] ++ [.lst [.non, .non, .non, .non, .non, .non, .non]] ++ [.lst [.non]] ++ [.lst [.non, .non, .non, .non, .non, .non, .non]])[(h ++ [O.lst [d]]).length]? = some (.lst [.non, .non, .non, .non, .non, .non, .non]) := by
    rw [List.getElem?_append_left (by simp), List.getElem?_append_left (by simp), List.getElem?_append_right (Nat.le_refl _)]
    simp
  have g3 : (h ++ [O.lst [d]] ++ [.lst [.non, .non, .non, .non, .non, .non, .non]] ++ [.lst [.non]] ++ [.lst [.non, .non, .non, .non, .non, .non, .non]])[(h ++ [O.lst [d]] ++ [O.lst [.non, .non, .non, .non, .non, .non, .non]] ++ [O.lst [.non]]).length]? = some (.lst [.non, .non, .non, .non, .non, .non, .non]) := by
    rw [List.getElem?_append_right (Nat.le_refl _)]
    simp
  rw [mOp_ap, e2, R.bind_ok, mOp_ap]
  simp only [mLst_ap, mCons_ap, mC_ap, mNil_ap, R.bind_ok, nl1, ml _ _ g1, eqn _ _ _ g2 g3, R.thn_ok]
theorem endS_run {ρ : Sl} {h : List O} (hl : 13 < ρ.length) : ∃ h', endS ρ h = .rt (.bl true) h' :=
  endS_run0 (br 1000) _ (fun ρ g => brs_txt 1000 (by decide) (by decide) ρ g) read_deep hl
theorem m_law_eq : m_law = sSeq (sSet 1 (mCall 1 F__law_draw (mCons (mVar 0) mNil))) (sSeq (sFor (mSrcA srcR1 (mCons (mC (.int 4)) mNil)) (gtName 2) bodyT) (sSeq (sFor srcB (gtName 10) bodyB) (sSeq (sSet 11 (mOp fMul (mC (.str "9")) (mC (.int 4000)))) (sSeq longS (sSeq (sSet 12 (mTup mNil)) (sSeq (sFor (mSrcA srcR1 (mCons (mC (.int 999)) mNil)) (gtName 2) deepB) (sSeq deepS endS))))))) := rfl
def outR (x : RS) : SL.R D := match x with
  | .rt d h1 => .ok d h1
  | .nx _ h1 => .ok .non h1
  | .exc c _ h1 => .exc c h1
  | _ => .bad
theorem runDef_out (n : Nat) (m : MS) (ds : List D) (h : List O) : runDef n m ds h = outR (m (startD n ds) h) := by
  unfold runDef outR
  cases m (startD n ds) h <;> rfl
theorem lit_nine : ("9" : Str) = T [57] := by decide +kernel
theorem law_T (ns : List Int) (hl : ns.length ≤ 63) : ∃ h1, F_law [.frl (ns.map D.int)] [] = .ok (.bl true) h1 := by
  obtain ⟨h0, ed, D0, _⟩ := draw_T ns hl
  have s4 := fun ρ h => srcR_lit 4 (by decide) (by decide) ρ h
  have s999 := fun ρ h => srcR_lit 999 (by decide) (by decide) ρ h
  have r4 : (runI 0 1 (4 : Int).toNat).length = 4 := by
    unfold runI
    rw [List.length_map, List.length_range]
    rfl
  have r999 : (runI 0 1 (999 : Int).toNat).length = 999 := by
    unfold runI
    rw [List.length_map, List.length_range]
    rfl
  obtain ⟨a2, a3, a4, a5, a6, a7, a8, a9, h1, e1⟩ := turns_T (sc := .frl (ns.map D.int)) (o10 := none) (o11 := none) (o12 := none) (o13 := none) (runI 0 1 (4 : Int).toNat) none none none none none none none none h0 0 D0 (by rw [r4]; decide)
  obtain ⟨a10, h2, e2⟩ := bads_T (sc := .frl (ns.map D.int)) (o2 := a2) (o3 := a3) (o4 := a4) (o5 := a5) (o6 := a6) (o7 := a7) (o8 := a8) (o9 := a9) (o11 := none) (o12 := none) (o13 := none) _ none _ (badL_ok h1)
  have sB := srcB_run (rW14 (.frl (ns.map D.int)) a2 a3 a4 a5 a6 a7 a8 a9 none none none none) h1
  obtain ⟨h3, e3⟩ := longS_run (ρ := rW14 (.frl (ns.map D.int)) a2 a3 a4 a5 a6 a7 a8 a9 a10 (some (.str (T (nn 4000)))) none none) (h := h2) rfl
  obtain ⟨b2, e4⟩ := deep_loop (sc := .frl (ns.map D.int)) (o3 := a3) (o4 := a4) (o5 := a5) (o6 := a6) (o7 := a7) (o8 := a8) (o9 := a9) (o10 := a10) (o11 := some (.str (T (nn 4000)))) (o13 := none) (runI 0 1 (999 : Int).toNat) 0 a2 h3
  rw [r999, Nat.zero_add] at e4
  obtain ⟨h4, e5⟩ := deepS_run rfl (ρ := rW14 (.frl (ns.map D.int)) b2 a3 a4 a5 a6 a7 a8 a9 a10 (some (.str (T (nn 4000)))) (some (nest 999)) none) (h := h3) rfl
  obtain ⟨h5, e6⟩ := endS_run (ρ := rW14 (.frl (ns.map D.int)) b2 a3 a4 a5 a6 a7 a8 a9 a10 (some (.str (T (nn 4000)))) (some (nest 999)) none) (h := h4) (by show 13 < 14; decide)
  refine ⟨h5, ?_⟩
  have m9 : ∀ ρ g, mOp fMul (mC (.str "9")) (mC (.int 4000)) ρ g = .ok (.str (T (nn 4000))) g := fun ρ g => by
    rw [lit_nine]
    exact mul_str 57 4000 g (by decide) (by decide)
  have t0 : ∀ ρ g, mTup mNil ρ g = .ok (nest 0) g := fun _ _ => rfl
  unfold F_law
  rw [runDef_out, m_law_eq, show startD 14 [D.frl (ns.map D.int)] = [some (.frl (ns.map D.int)), none, none, none, none, none, none, none, none, none, none, none, none, none] from rfl]
  have q1 : sSet 1 (mCall 1 F__law_draw (mCons (mVar 0) mNil)) [some (.frl (ns.map D.int)), none, none, none, none, none, none, none, none, none, none, none, none, none] [] = .nx (rW14 (.frl (ns.map D.int)) none none none none none none none none none none none none) h0 := by
    simp only [sSet_ap, mCall_ap, mCons_ap, mVar_ap, List.getElem?_cons_zero, R.bind_ok, mNil_ap, List.length_cons, List.length_nil, if_true, ed, R.thn_ok, List.set_cons_succ, List.set_cons_zero]
  rw [sSeq_ap, q1, seq_nx, sSeq_ap, sFor_ap, s4, R.thn_ok, e1, seq_nx, sSeq_ap, sFor_ap, sB, R.thn_ok, e2, seq_nx, sSeq_ap, sSet_ap, m9, R.thn_ok, seq_nx]
  show outR (sSeq longS _ (rW14 (.frl (ns.map D.int)) a2 a3 a4 a5 a6 a7 a8 a9 a10 (some (.str (T (nn 4000)))) none none) h2) = _
  rw [sSeq_ap, e3, seq_nx, sSeq_ap, sSet_ap, t0, R.thn_ok, seq_nx]
  show outR (sSeq (sFor _ (gtName 2) deepB) _ (rW14 (.frl (ns.map D.int)) a2 a3 a4 a5 a6 a7 a8 a9 a10 (some (.str (T (nn 4000)))) (some (nest 0)) none) h3) = _
  rw [sSeq_ap, sFor_ap, s999, R.thn_ok, e4, seq_nx, sSeq_ap, e5, seq_nx, e6]
  rfl
end K53
set_option Elab.async false
set_option linter.all false
set_option maxRecDepth 100000
set_option maxHeartbeats 0
namespace K53
open PySem PySem.Spec PyProof.Rows L2 SL
theorem run (w : World) : HandSHeadRun.RunEq R (PySem.W.view R.prog [30]) hk ob 3000 loose w :=
  PySem.W.byRow2 "special-get-raises" (P := fun w => HandSHeadRun.RunEq R (PySem.W.view R.prog [30]) hk ob 3000 loose w) (fun w os => by kernel_rfl) (fun w os => by kernel_rfl) w
end K53
open PySem PySem.W PySem.Calls PyProof.Rows
theorem PySem.Challenge.cw_nearlyalike_k53_whole_plain_data_holds : PySem.Challenge.rw_nearlyalike_k53_whole_plain_data.Holds := by
  w_on; o_law
  refine HandSHeadRun.head_any (r := OpenLaw.row PySem.Challenge.rw_nearlyalike_k53_whole_plain_data) (q := view (OpenLaw.row PySem.Challenge.rw_nearlyalike_k53_whole_plain_data).prog [30]) (H := K53.hk) (ob := K53.ob) (M := 3000) (loose := K53.loose) (d := HandSHeadRun.topDef (OpenLaw.row PySem.Challenge.rw_nearlyalike_k53_whole_plain_data).prog 30) (kwd := []) K53.ob_eq
    (by kernel_rfl) (fun s => by kernel_rfl) K53.run (by kernel_rfl) (by kernel_rfl) (by kernel_rfl) (by rfl) (by first | assumption | decide +kernel) (by decide +kernel) ⟨rfl, rfl, rfl, rfl, rfl, by decide +kernel⟩ ?hw ?hc
  case hw => w_witness2
  case hc =>
    refine SL.walkG (l := PySem.Challenge.rw_nearlyalike_k53_whole_plain_data) (n := 63) (k := K53.L_law) (x := "script") rfl (by decide) (by kernel_rfl) ⟨rfl, by decide +kernel, by decide +kernel⟩ ?F
    intro w mg fa h Y G hmg0
    obtain ⟨K, KX, c⟩ := Y
    have hmg : mg ("law" : PySem.Str) = some (.ref fa) := by
      have e : (HandSHeadRun.topDef (OpenLaw.row PySem.Challenge.rw_nearlyalike_k53_whole_plain_data).prog 30).name = ("law" : PySem.Str) := by kernel_rfl
      rw [← e]
      exact hmg0
    obtain ⟨fd, F⟩ := c.d.def_ 23 (d := K53.d_law) rfl
    have e := hmg.symm.trans (He.glo_ok KX G (c.d.fact 20 (f := .glo "law") rfl))
    cases e
    have b := L2.FunD.bindsA (ps := ["script"]) F fun _ _ _ _ _ _ us hl => match us, hl with | [_], _ => rfl
    exact ⟨K, fd, K53.F_law, KX, fun s v => b s [v] rfl, fun ns hl hb => K53.law_T ns hl, fun base kb gb => K53.ok_law ⟨c, kb, gb⟩ F⟩
