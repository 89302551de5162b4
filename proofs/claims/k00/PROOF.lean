import PyProof.Rows.All
import Wide.All
import OpenK.AllK
import Wide.FinOn
import HandS.ForMost
import HandS.Exc
import HandS.ExcOwn
import HandS.WordsExc
import HandS.TryMany
import HandS.ExcInit
import HandS.ExcField
import HandS.ExcIs
import HandS.Conv
import HandS.TupAny
import HandS.TupMul
import HandS.Style
import HandS.Flow
import HandS.IsInst
import HandS.SortInts
import HandS.Gcd
import HandS.Defaults
import HandS.MakeKw
import HandS.Codes
import HandS.OwnEq
import HandS.SortRule
import HandS.Zip
import HandS.Iter
import KE.GoesEnum
import HandS.ListItems
import HandS.HeadHook4
import HandS.HeadEnd
import HandS.Head2
import HandS.Deep
import HandS.TryOnly
import PySem.Challenge.RW_metricbench_k00_spaces
/-! text Cq1 -/
set_option Elab.async false
set_option linter.all false
set_option maxRecDepth 100000
/-! Cq, part 1: plain values, what stands for them in the abstract heap, the state of a def's run with its own lists. -/
namespace Cq
open PySem PySem.Spec L2

/-- a plain value -/
inductive PV where
  | non | bl (b : Bool) | int (i : Int) | str (x : Str) | ty (n : String)
  | tup (ps : List PV) | lst (ps : List PV) | scr (ns : List Int)
  | dic (ks : List (Key × PV)) | ins (C : Str) (fs : List (Str × PV))
  deriving Inhabited

/-- how a piece of code ends -/
inductive R (α : Type) where
  | ok (a : α) | exc (C : Str) (fs : List (Str × PV)) | bad
def R.bind {α β : Type} : R α → (α → R β) → R β
  | .ok a, f => f a
  | .exc C fs, _ => .exc C fs
  | .bad, _ => .bad
/-- what holds of an end -/
def R.sat {α : Type} (r : R α) (f : α → Prop) (g : Str → List (Str × PV) → Prop) : Prop :=
  match r with
  | .ok a => f a
  | .exc C fs => g C fs
  | .bad => False
@[simp] theorem R.bind_ok {α β : Type} (a : α) (f : α → R β) : (R.ok a).bind f = f a := rfl
@[simp] theorem R.bind_exc {α β : Type} (C : Str) (fs : List (Str × PV)) (f : α → R β) : (R.exc C fs).bind f = .exc C fs := rfl
@[simp] theorem R.bind_bad {α β : Type} (f : α → R β) : (R.bad : R α).bind f = .bad := rfl
theorem R.sat_bind {α β : Type} {r : R α} {h : α → R β} {f : β → Prop} {g : Str → List (Str × PV) → Prop} (z : (r.bind h).sat f g) : r.sat (fun a => (h a).sat f g) g := by
  cases r with
  | ok a => exact z
  | exc C fs => exact z
  | bad => exact z.elim
theorem R.sat_mono {α : Type} {r : R α} {f f' : α → Prop} {g g' : Str → List (Str × PV) → Prop} (z : r.sat f g) (hf : ∀ a, f a → f' a) (hg : ∀ C fs, g C fs → g' C fs) : r.sat f' g' := by
  cases r with
  | ok a => exact hf _ z
  | exc C fs => exact hg _ _ z
  | bad => exact z

section
variable (K : PySem.W.Frag) (mg : Str → Option Value) (I : Hp)
mutual
def Rep : PV → V → Prop
  | .non, v => v = .non
  | .bl b, v => v = .bl b
  | .int i, v => v = .int i
  | .str x, v => v = .str x
  | .ty n, v => v = .ty n
  | .tup ps, v => ∃ a vs, v = .ref a ∧ SqT K I a vs ∧ RepL ps vs
  | .lst ps, v => ∃ a vs, v = .ref a ∧ I a = some (.lst vs) ∧ RepL ps vs
  | .scr ns, v => ∃ a, v = .ref a ∧ SqL K I a (ns.map V.int)
  | .dic ks, v => ∃ a ws, v = .ref a ∧ I a = some (.dK ws) ∧ RepD ks ws
  | .ins C fs, v => ∃ a c dx ws, v = .ref a ∧ mg C = some (.ref c) ∧ I a = some (.ins c dx ws) ∧ RepF fs ws
def RepL : List PV → List V → Prop
  | [], vs => vs = []
  | p :: ps, vs => ∃ v r, vs = v :: r ∧ Rep p v ∧ RepL ps r
def RepD : List (Key × PV) → List (Key × V) → Prop
  | [], ws => ws = []
  | (k, p) :: ks, ws => ∃ v r, ws = (k, v) :: r ∧ Rep p v ∧ RepD ks r
def RepF : List (Str × PV) → List (Str × V) → Prop
  | [], ws => ws = []
  | (k, p) :: ks, ws => ∃ v r, ws = (k, v) :: r ∧ Rep p v ∧ RepF ks r
end
end
section
variable {K : PySem.W.Frag} {mg : Str → Option Value} {I J H H2 : Hp}
theorem sqt_mono {a : Addr} {xs : List V} (e : Same I J) (h : SqT K I a xs) : SqT K J a xs := by
  rcases h with (h | ⟨o, h⟩) | h
  · exact .inl (.inl (e _ _ h))
  · exact .inl (.inr ⟨o, e _ _ h⟩)
  · exact .inr h
mutual
theorem Rep.mono (e : Same I J) : ∀ {p : PV} {v : V}, Rep K mg I p v → Rep K mg J p v
  | .non, _, r => by unfold Rep at r ⊢; exact r
  | .bl _, _, r => by unfold Rep at r ⊢; exact r
  | .int _, _, r => by unfold Rep at r ⊢; exact r
  | .str _, _, r => by unfold Rep at r ⊢; exact r
  | .ty _, _, r => by unfold Rep at r ⊢; exact r
  | .tup ps, _, r => by
    unfold Rep at r ⊢
    obtain ⟨a, vs, ev, s, z⟩ := r
    exact ⟨a, vs, ev, sqt_mono e s, RepL.mono e z⟩
  | .lst ps, _, r => by
    unfold Rep at r ⊢
    obtain ⟨a, vs, ev, s, z⟩ := r
    exact ⟨a, vs, ev, e _ _ s, RepL.mono e z⟩
  | .scr ns, _, r => by
    unfold Rep at r ⊢
    obtain ⟨a, ev, s⟩ := r
    exact ⟨a, ev, e.seq s⟩
  | .dic ks, _, r => by
    unfold Rep at r ⊢
    obtain ⟨a, ws, ev, s, z⟩ := r
    exact ⟨a, ws, ev, e _ _ s, RepD.mono e z⟩
  | .ins C fs, _, r => by
    unfold Rep at r ⊢
    obtain ⟨a, c, dx, ws, ev, hc, s, z⟩ := r
    exact ⟨a, c, dx, ws, ev, hc, e _ _ s, RepF.mono e z⟩
theorem RepL.mono (e : Same I J) : ∀ {ps : List PV} {vs : List V}, RepL K mg I ps vs → RepL K mg J ps vs
  | [], _, r => by unfold RepL at r ⊢; exact r
  | p :: ps, _, r => by
    unfold RepL at r ⊢
    obtain ⟨v, t, ev, a, b⟩ := r
    exact ⟨v, t, ev, Rep.mono e a, RepL.mono e b⟩
theorem RepD.mono (e : Same I J) : ∀ {ps : List (Key × PV)} {vs : List (Key × V)}, RepD K mg I ps vs → RepD K mg J ps vs
  | [], _, r => by unfold RepD at r ⊢; exact r
  | (k, p) :: ps, _, r => by
    unfold RepD at r ⊢
    obtain ⟨v, t, ev, a, b⟩ := r
    exact ⟨v, t, ev, Rep.mono e a, RepD.mono e b⟩
theorem RepF.mono (e : Same I J) : ∀ {ps : List (Str × PV)} {vs : List (Str × V)}, RepF K mg I ps vs → RepF K mg J ps vs
  | [], _, r => by unfold RepF at r ⊢; exact r
  | (k, p) :: ps, _, r => by
    unfold RepF at r ⊢
    obtain ⟨v, t, ev, a, b⟩ := r
    exact ⟨v, t, ev, Rep.mono e a, RepF.mono e b⟩
end
theorem RepL.nil : RepL K mg I [] [] := by unfold RepL; rfl
theorem RepL.cons {p : PV} {v : V} {ps : List PV} {vs : List V} (a : Rep K mg I p v) (b : RepL K mg I ps vs) : RepL K mg I (p :: ps) (v :: vs) := by
  unfold RepL
  exact ⟨v, vs, rfl, a, b⟩
theorem RepL.inv {p : PV} {ps : List PV} {vs : List V} (h : RepL K mg I (p :: ps) vs) : ∃ v r, vs = v :: r ∧ Rep K mg I p v ∧ RepL K mg I ps r := by
  unfold RepL at h
  exact h
theorem RepL.inv0 {vs : List V} (h : RepL K mg I [] vs) : vs = [] := by
  unfold RepL at h
  exact h
theorem RepL.len : ∀ {ps : List PV} {vs : List V}, RepL K mg I ps vs → vs.length = ps.length
  | [], _, h => by rw [h.inv0]; rfl
  | p :: ps, _, h => by
    obtain ⟨v, r, rfl, _, z⟩ := h.inv
    simp [RepL.len z]
theorem RepL.get : ∀ {ps : List PV} {vs : List V} {i : Nat} {p : PV}, RepL K mg I ps vs → ps[i]? = some p → ∃ v, vs[i]? = some v ∧ Rep K mg I p v
  | [], _, _, _, _, e => by simp at e
  | q :: ps, _, 0, p, h, e => by
    obtain ⟨v, r, rfl, a, _⟩ := h.inv
    simp at e; subst e
    exact ⟨v, rfl, a⟩
  | q :: ps, _, i + 1, p, h, e => by
    obtain ⟨v, r, rfl, _, b⟩ := h.inv
    obtain ⟨u, h1, h2⟩ := RepL.get (i := i) b (by simpa using e)
    exact ⟨u, by simpa using h1, h2⟩
theorem RepL.get2 : ∀ {ps : List PV} {vs : List V} {i : Nat} {v : V}, RepL K mg I ps vs → vs[i]? = some v → ∃ p, ps[i]? = some p ∧ Rep K mg I p v
  | [], _, _, _, h, e => by rw [h.inv0] at e; simp at e
  | q :: ps, _, 0, p, h, e => by
    obtain ⟨v, r, rfl, a, _⟩ := h.inv
    simp at e; subst e
    exact ⟨q, rfl, a⟩
  | q :: ps, _, i + 1, p, h, e => by
    obtain ⟨v, r, rfl, _, b⟩ := h.inv
    obtain ⟨u, h1, h2⟩ := RepL.get2 (i := i) b (by simpa using e)
    exact ⟨u, by simpa using h1, h2⟩
theorem RepL.app : ∀ {ps qs : List PV} {vs ws : List V}, RepL K mg I ps vs → RepL K mg I qs ws → RepL K mg I (ps ++ qs) (vs ++ ws)
  | [], _, _, _, h, z => by rw [h.inv0]; exact z
  | p :: ps, _, _, _, h, z => by
    obtain ⟨v, r, rfl, a, b⟩ := h.inv
    exact .cons a (RepL.app b z)
theorem RepL.take : ∀ {ps : List PV} {vs : List V} (n : Nat), RepL K mg I ps vs → RepL K mg I (ps.take n) (vs.take n)
  | _, _, 0, _ => by simp; exact .nil
  | [], _, n + 1, h => by rw [h.inv0]; exact .nil
  | p :: ps, _, n + 1, h => by
    obtain ⟨v, r, rfl, a, b⟩ := h.inv
    exact .cons a (RepL.take n b)
theorem RepL.drop : ∀ {ps : List PV} {vs : List V} (n : Nat), RepL K mg I ps vs → RepL K mg I (ps.drop n) (vs.drop n)
  | _, _, 0, h => by simpa using h
  | [], _, n + 1, h => by rw [h.inv0]; exact .nil
  | p :: ps, _, n + 1, h => by
    obtain ⟨v, r, rfl, a, b⟩ := h.inv
    exact RepL.drop n b
theorem RepL.set : ∀ {ps : List PV} {vs : List V} {p : PV} {v : V} (i : Nat), RepL K mg I ps vs → Rep K mg I p v → RepL K mg I (ps.set i p) (vs.set i v)
  | [], _, _, _, _, h, _ => by rw [h.inv0]; simp; exact .nil
  | q :: ps, _, _, _, 0, h, z => by
    obtain ⟨v, r, rfl, a, b⟩ := h.inv
    exact .cons z b
  | q :: ps, _, _, _, i + 1, h, z => by
    obtain ⟨v, r, rfl, a, b⟩ := h.inv
    exact .cons a (RepL.set i b z)
theorem RepL.erase : ∀ {ps : List PV} {vs : List V} (i : Nat), RepL K mg I ps vs → RepL K mg I (ps.eraseIdx i) (vs.eraseIdx i)
  | [], _, _, h => by rw [h.inv0]; simp; exact .nil
  | q :: ps, _, 0, h => by
    obtain ⟨v, r, rfl, a, b⟩ := h.inv
    exact b
  | q :: ps, _, i + 1, h => by
    obtain ⟨v, r, rfl, a, b⟩ := h.inv
    exact .cons a (RepL.erase i b)
theorem RepL.rev {ps : List PV} {vs : List V} (h : RepL K mg I ps vs) : RepL K mg I ps.reverse vs.reverse := by
  induction ps generalizing vs with
  | nil => rw [h.inv0]; exact .nil
  | cons p ps ih =>
    obtain ⟨v, r, rfl, a, b⟩ := h.inv
    rw [List.reverse_cons, List.reverse_cons]
    exact (ih b).app (.cons a .nil)
theorem RepL.rep {ps : List PV} {vs : List V} (h : RepL K mg I ps vs) : ∀ n : Nat, RepL K mg I (List.replicate n ps).flatten (List.replicate n vs).flatten
  | 0 => .nil
  | n + 1 => by
    rw [List.replicate_succ, List.replicate_succ, List.flatten_cons, List.flatten_cons]
    exact h.app (RepL.rep h n)
theorem rep_int {i : Int} : Rep K mg I (.int i) (.int i) := by unfold Rep; rfl
theorem rep_bl {i : Bool} : Rep K mg I (.bl i) (.bl i) := by unfold Rep; rfl
theorem rep_str {i : Str} : Rep K mg I (.str i) (.str i) := by unfold Rep; rfl
theorem rep_non : Rep K mg I .non .non := by unfold Rep; rfl
theorem rep_ty {n : String} : Rep K mg I (.ty n) (.ty n) := by unfold Rep; rfl
theorem RepL.ints : ∀ (ns : List Int), RepL K mg I (ns.map PV.int) (ns.map V.int)
  | [] => .nil
  | n :: ns => .cons rep_int (RepL.ints ns)
theorem RepL.ints_inv : ∀ {ns : List Int} {vs : List V}, RepL K mg I (ns.map PV.int) vs → vs = ns.map V.int
  | [], _, h => h.inv0
  | n :: ns, _, h => by
    obtain ⟨v, r, rfl, a, b⟩ := h.inv
    unfold Rep at a
    rw [a, RepL.ints_inv b]
    rfl
theorem RepL.bls_inv : ∀ {ns : List Bool} {vs : List V}, RepL K mg I (ns.map PV.bl) vs → vs = ns.map V.bl
  | [], _, h => h.inv0
  | n :: ns, _, h => by
    obtain ⟨v, r, rfl, a, b⟩ := h.inv
    unfold Rep at a
    rw [a, RepL.bls_inv b]
    rfl
theorem rep_tup {a : Addr} {vs : List V} {ps : List PV} (h : SqT K I a vs) (r : RepL K mg I ps vs) : Rep K mg I (.tup ps) (.ref a) := by
  unfold Rep
  exact ⟨a, vs, rfl, h, r⟩
theorem rep_lst {a : Addr} {vs : List V} {ps : List PV} (h : I a = some (.lst vs)) (r : RepL K mg I ps vs) : Rep K mg I (.lst ps) (.ref a) := by
  unfold Rep
  exact ⟨a, vs, rfl, h, r⟩
end
end Cq

/-! text Cq2 -/
set_option Elab.async false
set_option linter.all false
set_option maxRecDepth 100000
/-! Cq, part 2: modes, the state. -/
namespace Cq
open PySem PySem.Spec L2

/-- how a slot's value is held: nothing known; frozen; a list of the frame's own with frozen items; a list of such lists -/
inductive Md where
  | un | fz | ow | ow2
  deriving DecidableEq, Inhabited
abbrev Tag := Nat × Option Nat
abbrev Own := Addr → Option Tag

section
variable (K : PySem.W.Frag) (mg : Str → Option Value) (I H : Hp) (ρ : Own) (t : Nat)
def RowsOk : Nat → List PV → List V → Prop
  | _, [], vs => vs = []
  | k, p :: ps, vs => ∃ b r ws ys, vs = .ref b :: r ∧ p = .lst ys ∧ ρ b = some (t, some k) ∧ H b = some (.lst ws) ∧ RepL K mg I ys ws ∧ RowsOk (k + 1) ps r
def Ent : Md → PV → Option V → Prop
  | .un, _, _ => True
  | .fz, p, v => ∃ x, v = some x ∧ Rep K mg I p x
  | .ow, p, v => ∃ a ps vs, v = some (.ref a) ∧ p = .lst ps ∧ ρ a = some (t, none) ∧ H a = some (.lst vs) ∧ RepL K mg I ps vs
  | .ow2, p, v => ∃ a ps vs, v = some (.ref a) ∧ p = .lst ps ∧ ρ a = some (t, none) ∧ H a = some (.lst vs) ∧ RowsOk K mg I H ρ t 0 ps vs
end

/-- pinned slots: lists of the caller's own; the slot of an exception, with the heap that tells its fields -/
structure Pin where
  ls : List Nat := []
  ex : Option (Nat × Addr × Hp) := none
instance : Membership Nat Pin := ⟨fun p i => i ∈ p.ls⟩
instance {i : Nat} {p : Pin} : Decidable (i ∈ p) := inferInstanceAs (Decidable (i ∈ p.ls))
instance {p : Pin} {F : Nat → Prop} [DecidablePred F] : Decidable (∀ i, i ∈ p → F i) := inferInstanceAs (Decidable (∀ i, i ∈ p.ls → F i))
/-- the base of a run: what stood at the def's entry; values that are held while an expression goes on -/
structure Bs where
  I : Hp
  H : Hp
  own : Own
  vs : List V
  hm : List Md := []
  hp : List PV := []
  hv : List (Option V) := []

structure Sb (pi : Pin) (B : Bs) (I H : Hp) (ρ : Own) (σ : St) : Prop where
  sub : Same I H
  bi : Same B.I I
  fr : ∀ a o, B.H a = some o → B.own a = none → H a = some o
  ft : ∀ a o, I a = some o → B.I a = some o ∨ B.H a = none
  ro : ∀ a t, ρ a = some t → (B.own a = some t ∨ B.H a = none) ∧ I a = none ∧ ∃ vs, H a = some (.lst vs)
  al : ∀ a, H a = none → B.H a = none
  pr : ∀ i ∈ pi, ∃ v, B.vs[i]? = some v ∧ σ[i]? = some (some v)
  bo : ∀ a t, B.own a = some t → t.1 ∈ pi
  px : ∀ q, pi.ex = some q → q.1 ∈ pi ∧ σ[q.1]? = some (some (.ref q.2.1)) ∧ Same q.2.2 I
def EnOk (K : PySem.W.Frag) (mg : Str → Option Value) (ms : List Md) (env : List PV) (I H : Hp) (ρ : Own) (σ : St) : Prop := ∀ (i : Nat) m p v, ms[i]? = some m → env[i]? = some p → σ[i]? = some v → Ent K mg I H ρ i m p v
structure Stt (K : PySem.W.Frag) (mg : Str → Option Value) (pi : Pin) (B : Bs) (ms : List Md) (env : List PV) (I H : Hp) (ρ : Own) (σ : St) : Prop where
  sb : Sb pi B I H ρ σ
  ls : σ.length = ms.length
  le : env.length = ms.length
  l1 : B.hp.length = B.hm.length
  l2 : B.hv.length = B.hm.length
  ea : EnOk K mg (ms ++ B.hm) (env ++ B.hp) I H ρ (σ ++ B.hv)

/-- growth alone -/
structure Grow (I J H H2 : Hp) : Prop where
  i : Same I J
  h : Same H H2
  s : Same J H2
  f : ∀ a o, J a = some o → I a = some o ∨ H a = none
theorem Grow.refl {I H : Hp} (s : Same I H) : Grow I I H H := ⟨.refl _, .refl _, s, fun _ _ h => .inl h⟩
theorem Grow.trans {I J L H H2 H3 : Hp} (a : Grow I J H H2) (b : Grow J L H2 H3) : Grow I L H H3 :=
  ⟨a.i.trans b.i, a.h.trans b.h, b.s, fun c o e => by
    rcases b.f c o e with z | z
    · exact a.f c o z
    · exact .inr (a.h.free z)⟩
/-- a new frozen object -/
theorem Grow.new {I H : Hp} {a : Addr} {o : HO} (s : Same I H) (n : H a = none) : Grow I (upd I a o) H (upd H a o) where
  i := fun b u e => by rw [upd_ne (ne_of_none (s _ _ e) n)]; exact e
  h := fun b u e => by rw [upd_ne (ne_of_none e n)]; exact e
  s := fun b u e => by
    by_cases z : b = a
    · subst z; rw [upd_same] at e ⊢; exact e
    · rw [upd_ne z] at e ⊢; exact s _ _ e
  f := fun b u e => by
    by_cases z : b = a
    · subst z; exact .inr n
    · rw [upd_ne z] at e; exact .inl e
/-- a new object that is not frozen -/
theorem Grow.laid {I H : Hp} {a : Addr} {o : HO} (s : Same I H) (n : H a = none) : Grow I I H (upd H a o) where
  i := .refl _
  h := fun b u e => by rw [upd_ne (ne_of_none e n)]; exact e
  s := fun b u e => by rw [upd_ne (ne_of_none (s _ _ e) n)]; exact s _ _ e
  f := fun b u e => .inl e

section
variable {K : PySem.W.Frag} {mg : Str → Option Value} {I J H H2 : Hp} {ρ ρ2 : Own} {t : Nat} {pi : Pin} {B : Bs} {ms : List Md} {env : List PV} {σ : St}
theorem RowsOk.mono (e : Same I J) (hh : ∀ b k vs, ρ b = some (t, some k) → H b = some (.lst vs) → ρ2 b = some (t, some k) ∧ H2 b = some (.lst vs)) : ∀ {ps : List PV} {k : Nat} {vs : List V}, RowsOk K mg I H ρ t k ps vs → RowsOk K mg J H2 ρ2 t k ps vs
  | [], _, _, r => by unfold RowsOk at r ⊢; exact r
  | p :: ps, _, _, r => by
    unfold RowsOk at r ⊢
    obtain ⟨b, r', ws, ys, e1, e2, e3, e4, e5, e6⟩ := r
    obtain ⟨z1, z2⟩ := hh _ _ _ e3 e4
    exact ⟨b, r', ws, ys, e1, e2, z1, z2, e5.mono e, RowsOk.mono e hh e6⟩
theorem Ent.mono (e : Same I J) (hh : ∀ b r vs, ρ b = some (t, r) → H b = some (.lst vs) → ρ2 b = some (t, r) ∧ H2 b = some (.lst vs)) : ∀ {m : Md} {p : PV} {v : Option V}, Ent K mg I H ρ t m p v → Ent K mg J H2 ρ2 t m p v
  | .un, _, _, r => by unfold Ent; trivial
  | .fz, _, _, r => by
    unfold Ent at r ⊢
    obtain ⟨x, e1, e2⟩ := r
    exact ⟨x, e1, e2.mono e⟩
  | .ow, _, _, r => by
    unfold Ent at r ⊢
    obtain ⟨a, ps, vs, e1, e2, e3, e4, e5⟩ := r
    obtain ⟨z1, z2⟩ := hh _ _ _ e3 e4
    exact ⟨a, ps, vs, e1, e2, z1, z2, e5.mono e⟩
  | .ow2, _, _, r => by
    unfold Ent at r ⊢
    obtain ⟨a, ps, vs, e1, e2, e3, e4, e5⟩ := r
    obtain ⟨z1, z2⟩ := hh _ _ _ e3 e4
    exact ⟨a, ps, vs, e1, e2, z1, z2, e5.mono e fun b k vs z3 z4 => hh _ _ _ z3 z4⟩
theorem Sb.pxm (s : Sb pi B I H ρ σ) (k : Same I J) : ∀ q, pi.ex = some q → q.1 ∈ pi ∧ σ[q.1]? = some (some (.ref q.2.1)) ∧ Same q.2.2 J := fun q e => by
  obtain ⟨h1, h2, h3⟩ := s.px q e
  exact ⟨h1, h2, h3.trans k⟩
theorem Sb.grow (s : Sb pi B I H ρ σ) (g : Grow I J H H2) : Sb pi B J H2 ρ σ where
  sub := g.s
  bi := s.bi.trans g.i
  fr := fun a o e n => g.h _ _ (s.fr a o e n)
  ft := fun a o e => by
    rcases g.f a o e with z | z
    · exact s.ft a o z
    · exact .inr (s.al a z)
  ro := fun a t e => by
    obtain ⟨h1, h2, vs, h3⟩ := s.ro a t e
    refine ⟨h1, ?_, vs, g.h _ _ h3⟩
    cases q : J a with
    | none => rfl
    | some o =>
      rcases g.f a o q with z | z
      · rw [h2] at z; cases z
      · rw [h3] at z; cases z
  al := fun a e => s.al a (g.h.free e)
  pr := s.pr
  bo := s.bo
  px := s.pxm g.i
theorem app_get {α : Type} {a b : List α} {i : Nat} {x : α} (h : a[i]? = some x) : (a ++ b)[i]? = some x := by
  rw [List.getElem?_append_left (List.getElem?_eq_some_iff.mp h).1]
  exact h
theorem Stt.en (s : Stt K mg pi B ms env I H ρ σ) : ∀ (i : Nat) m p v, ms[i]? = some m → env[i]? = some p → σ[i]? = some v → Ent K mg I H ρ i m p v :=
  fun i m p v h1 h2 h3 => s.ea i m p v (app_get h1) (app_get h2) (app_get h3)
theorem EnOk.grow (s : EnOk K mg ms env I H ρ σ) (g : Grow I J H H2) : EnOk K mg ms env J H2 ρ σ := fun i m p v h1 h2 h3 => (s i m p v h1 h2 h3).mono g.i fun b r vs h4 h5 => ⟨h4, g.h _ _ h5⟩
theorem Stt.grow (s : Stt K mg pi B ms env I H ρ σ) (g : Grow I J H H2) : Stt K mg pi B ms env J H2 ρ σ :=
  ⟨s.sb.grow g, s.ls, s.le, s.l1, s.l2, s.ea.grow g⟩
theorem Stt.sub (s : Stt K mg pi B ms env I H ρ σ) : Same I H := s.sb.sub

/-- the own lists of a result -/
def Tau (B : Bs) (I H : Hp) (ρ τ : Own) : Prop := ∀ a t, τ a = some t → t.1 = 0 ∧ ρ a = none ∧ I a = none ∧ B.H a = none ∧ ∃ vs, H a = some (.lst vs)
theorem Tau.none : Tau B I H ρ fun _ => none := fun a t e => by cases e

/-- more is frozen: all that φ tells -/
def frzH (I H : Hp) (φ : Addr → Bool) : Hp := fun a => if φ a = true then H a else I a
theorem frz_t {φ : Addr → Bool} {a : Addr} (h : φ a = true) : frzH I H φ a = H a := by unfold frzH; rw [if_pos h]
theorem frz_f {φ : Addr → Bool} {a : Addr} (h : φ a = false) : frzH I H φ a = I a := by unfold frzH; rw [if_neg (by rw [h]; exact Bool.false_ne_true)]
theorem frz_same (s : Same I H) (φ : Addr → Bool) : Same I (frzH I H φ) := fun a o e => by
  unfold frzH
  by_cases z : φ a = true
  · rw [if_pos z]; exact s _ _ e
  · rw [if_neg z]; exact e
theorem frz_sub (s : Same I H) (φ : Addr → Bool) : Same (frzH I H φ) H := fun a o e => by
  unfold frzH at e
  by_cases z : φ a = true
  · rw [if_pos z] at e; exact e
  · rw [if_neg z] at e; exact s _ _ e
theorem rows_frozen (s : Same I J) (hh : ∀ b k vs, ρ b = some (t, some k) → H b = some (.lst vs) → J b = some (.lst vs)) : ∀ {ps : List PV} {k : Nat} {vs : List V}, RowsOk K mg I H ρ t k ps vs → RepL K mg J ps vs
  | [], _, _, r => by unfold RowsOk at r; unfold RepL; exact r
  | p :: ps, _, _, r => by
    unfold RowsOk at r
    obtain ⟨b, r', ws, ys, rfl, rfl, e3, e4, e5, e6⟩ := r
    exact .cons (rep_lst (hh _ _ _ e3 e4) (e5.mono s)) (rows_frozen s hh e6)
/-- whatever is held, frozen -/
theorem Ent.froz (s : Same I J) (hh : ∀ b r vs, ρ b = some (t, r) → H b = some (.lst vs) → J b = some (.lst vs)) : ∀ {m : Md} {p : PV} {v : Option V}, m ≠ .un → Ent K mg I H ρ t m p v → ∃ x, v = some x ∧ Rep K mg J p x
  | .un, _, _, n, r => absurd rfl n
  | .fz, _, _, _, r => by
    unfold Ent at r
    obtain ⟨x, e1, e2⟩ := r
    exact ⟨x, e1, e2.mono s⟩
  | .ow, _, _, _, r => by
    unfold Ent at r
    obtain ⟨a, ps, vs, e1, rfl, e3, e4, e5⟩ := r
    exact ⟨_, e1, rep_lst (hh _ _ _ e3 e4) (e5.mono s)⟩
  | .ow2, _, _, _, r => by
    unfold Ent at r
    obtain ⟨a, ps, vs, e1, rfl, e3, e4, e5⟩ := r
    exact ⟨_, e1, rep_lst (hh _ _ _ e3 e4) (rows_frozen s (fun b k vs z3 z4 => hh _ _ _ z3 z4) e5)⟩
/-- a result that is frozen -/
theorem freeze_result {md : Md} {p : PV} {x : V} {τ : Own} (s : Sb pi B I H ρ σ) (ht : Tau B I H ρ τ) (hm : md ≠ .un) (e : Ent K mg I H τ 0 md p (some x)) :
    ∃ J, Same I J ∧ Sb pi B J H ρ σ ∧ Rep K mg J p x ∧ (∀ a t, ρ a = some t → J a = none) := by
  have k1 := frz_same s.sub fun a => (τ a).isSome
  have k2 := frz_sub s.sub fun a => (τ a).isSome
  have nr : ∀ a t, ρ a = some t → frzH I H (fun a => (τ a).isSome) a = none := fun a t q => by
    cases z : τ a with
    | none =>
      rw [frz_f (by show (τ a).isSome = false; rw [z]; rfl)]
      exact (s.ro a t q).2.1
    | some u =>
      have := (ht a u z).2.1
      rw [q] at this; cases this
  refine ⟨_, k1, ⟨k2, s.bi.trans k1, s.fr, fun a o q => ?_, fun a t q => ⟨(s.ro a t q).1, nr a t q, (s.ro a t q).2.2⟩, s.al, s.pr, s.bo, s.pxm k1⟩, ?_, nr⟩
  · cases z : τ a with
    | none =>
      rw [frz_f (by show (τ a).isSome = false; rw [z]; rfl)] at q
      exact s.ft a o q
    | some u => exact .inr (ht a u z).2.2.2.1
  · obtain ⟨y, ey, r⟩ := e.froz (J := frzH I H fun a => (τ a).isSome) k1 (fun b r vs h1 h2 => by rw [frz_t (by show (τ b).isSome = true; rw [h1]; rfl)]; exact h2) hm
    cases ey
    exact r
theorem Stt.frozen_more (s : Stt K mg pi B ms env I H ρ σ) (k : Same I J) (b : Sb pi B J H ρ σ) : Stt K mg pi B ms env J H ρ σ :=
  ⟨b, s.ls, s.le, s.l1, s.l2, fun i m p v h1 h2 h3 => (s.ea i m p v h1 h2 h3).mono k fun _ _ _ h4 h5 => ⟨h4, h5⟩⟩

/-- a slot is stored: the result's own lists become the slot's -/
def moveTo (i : Nat) (ρ τ : Own) : Own := fun a => match τ a with
  | some t => some (i, t.2)
  | none => match ρ a with
    | some t => if t.1 = i then none else some t
    | none => none
theorem moveTo_tau {i : Nat} {τ : Own} {a : Addr} {r : Option Nat} (h : τ a = some (0, r)) : moveTo i ρ τ a = some (i, r) := by
  unfold moveTo; rw [h]
theorem moveTo_rho {i j : Nat} {τ : Own} {a : Addr} {r : Option Nat} (hn : τ a = none) (h : ρ a = some (j, r)) (hj : j ≠ i) : moveTo i ρ τ a = some (j, r) := by
  unfold moveTo; rw [hn, h]; simp [hj]
theorem rows_move {i : Nat} {τ : Own} (hτ : ∀ a r, τ a = some (0, r) → ρ2 a = some (i, r)) : ∀ {ps : List PV} {k : Nat} {vs : List V}, RowsOk K mg I H τ 0 k ps vs → RowsOk K mg I H ρ2 i k ps vs
  | [], _, _, r => by unfold RowsOk at r ⊢; exact r
  | p :: ps, _, _, r => by
    unfold RowsOk at r ⊢
    obtain ⟨b, r', ws, ys, e1, e2, e3, e4, e5, e6⟩ := r
    exact ⟨b, r', ws, ys, e1, e2, hτ _ _ e3, e4, e5, rows_move hτ e6⟩
theorem Ent.move {i : Nat} {τ : Own} (hτ : ∀ a r, τ a = some (0, r) → ρ2 a = some (i, r)) : ∀ {m : Md} {p : PV} {v : Option V}, Ent K mg I H τ 0 m p v → Ent K mg I H ρ2 i m p v
  | .un, _, _, r => by unfold Ent; trivial
  | .fz, _, _, r => by unfold Ent at r ⊢; exact r
  | .ow, _, _, r => by
    unfold Ent at r ⊢
    obtain ⟨a, ps, vs, e1, e2, e3, e4, e5⟩ := r
    exact ⟨a, ps, vs, e1, e2, hτ _ _ e3, e4, e5⟩
  | .ow2, _, _, r => by
    unfold Ent at r ⊢
    obtain ⟨a, ps, vs, e1, e2, e3, e4, e5⟩ := r
    exact ⟨a, ps, vs, e1, e2, hτ _ _ e3, e4, rows_move hτ e5⟩
theorem EnOk.store {i : Nat} {md : Md} {p : PV} {x : V} {τ : Own} (s : EnOk K mg ms env I H ρ σ) (le : env.length = ms.length) (ls : σ.length = ms.length) (hl : i < ms.length) (hn : ∀ a t, τ a = some t → ρ a = none) (e : Ent K mg I H τ 0 md p (some x)) :
    EnOk K mg (ms.set i md) (env.set i p) I H (moveTo i ρ τ) (σ.set i (some x)) := fun j m q v h1 h2 h3 => by
  by_cases hj : i = j
  · subst hj
    rw [List.getElem?_set_self hl] at h1
    rw [List.getElem?_set_self (by rw [le]; exact hl)] at h2
    rw [List.getElem?_set_self (by rw [ls]; exact hl)] at h3
    cases h1; cases h2; cases h3
    exact e.move fun a r h => moveTo_tau h
  · rw [List.getElem?_set_ne hj] at h1 h2 h3
    refine (s j m q v h1 h2 h3).mono (.refl _) fun b r vs h4 h5 => ⟨moveTo_rho ?_ h4 (Ne.symm hj), h5⟩
    cases z : τ b with
    | none => rfl
    | some u =>
      have := hn b u z
      rw [h4] at this; cases this
theorem move_ro {i : Nat} {τ : Own} (s : Sb pi B I H ρ σ) (ht : Tau B I H ρ τ) : ∀ a t, moveTo i ρ τ a = some t → (B.own a = some t ∨ B.H a = none) ∧ I a = none ∧ ∃ vs, H a = some (.lst vs) := fun a t q => by
  unfold moveTo at q
  cases z : τ a with
  | some u =>
    obtain ⟨_, _, h3, h4, h5⟩ := ht a u z
    exact ⟨.inr h4, h3, h5⟩
  | none =>
    rw [z] at q
    dsimp only at q
    cases w : ρ a with
    | none => rw [w] at q; cases q
    | some u =>
      rw [w] at q
      dsimp only at q
      split at q
      · cases q
      · cases q; exact s.ro a _ w
theorem set_app {α : Type} {a b : List α} {i : Nat} {x : α} (h : i < a.length) : (a ++ b).set i x = a.set i x ++ b := List.set_append_left i x h
theorem Stt.store {i : Nat} {md : Md} {p : PV} {x : V} {τ : Own} (s : Stt K mg pi B ms env I H ρ σ) (hl : i < ms.length) (ht : Tau B I H ρ τ) (e : Ent K mg I H τ 0 md p (some x)) (hi : i ∉ pi) :
    Stt K mg pi B (ms.set i md) (env.set i p) I H (moveTo i ρ τ) (σ.set i (some x)) := by
  refine ⟨⟨s.sb.sub, s.sb.bi, s.sb.fr, s.sb.ft, move_ro s.sb ht, s.sb.al, fun j hj => ?_, s.sb.bo, fun q e => ?_⟩, by simpa using s.ls, by simpa using s.le, s.l1, s.l2, ?_⟩
  · obtain ⟨v, h1, h2⟩ := s.sb.pr j hj
    refine ⟨v, h1, ?_⟩
    rw [List.getElem?_set_ne (fun z => hi (by rw [z]; exact hj))]
    exact h2
  · obtain ⟨h1, h2, h3⟩ := s.sb.px q e
    refine ⟨h1, ?_, h3⟩
    rw [List.getElem?_set_ne (fun z => hi (by rw [z]; exact h1))]
    exact h2
  · have k := EnOk.store (i := i) s.ea (by rw [List.length_append, List.length_append, s.le, s.l1]) (by rw [List.length_append, List.length_append, s.ls, s.l2]) (by rw [List.length_append]; omega) (fun a t h => (ht a t h).2.1) e
    rw [set_app hl, set_app (by rw [s.le]; exact hl), set_app (by rw [s.ls]; exact hl)] at k
    exact k
/-- a base with one more held value -/
def Bs.hold (B : Bs) (md : Md) (p : PV) (x : V) : Bs := { B with hm := B.hm ++ [md], hp := B.hp ++ [p], hv := B.hv ++ [some x] }
theorem Sb.hold {md : Md} {p : PV} {x : V} (s : Sb pi B I H ρ σ) : Sb pi (B.hold md p x) I H ρ σ := ⟨s.sub, s.bi, s.fr, s.ft, s.ro, s.al, s.pr, s.bo, s.px⟩
theorem Sb.unhold {md : Md} {p : PV} {x : V} (s : Sb pi (B.hold md p x) I H ρ σ) : Sb pi B I H ρ σ := ⟨s.sub, s.bi, s.fr, s.ft, s.ro, s.al, s.pr, s.bo, s.px⟩
/-- a result is held -/
theorem Stt.hold {md : Md} {p : PV} {x : V} {τ : Own} (s : Stt K mg pi B ms env I H ρ σ) (ht : Tau B I H ρ τ) (e : Ent K mg I H τ 0 md p (some x)) (hp : ∀ i ∈ pi, i < ms.length) :
    Stt K mg pi (B.hold md p x) ms env I H (moveTo (ms.length + B.hm.length) ρ τ) σ := by
  have s0 : Sb pi B I H (moveTo (ms.length + B.hm.length) ρ τ) σ := ⟨s.sb.sub, s.sb.bi, s.sb.fr, s.sb.ft, move_ro s.sb ht, s.sb.al, s.sb.pr, s.sb.bo, s.sb.px⟩
  refine ⟨s0.hold, s.ls, s.le, by simp [Bs.hold, s.l1], by simp [Bs.hold, s.l2], ?_⟩
  have k1 : EnOk K mg (ms ++ B.hm ++ [.un]) (env ++ B.hp ++ [.non]) I H ρ (σ ++ B.hv ++ [Option.none]) := fun j m q v h1 h2 h3 => by
    by_cases hj : j < (ms ++ B.hm).length
    · rw [List.getElem?_append_left hj] at h1
      rw [List.getElem?_append_left (by simpa [s.le, s.l1] using hj)] at h2
      rw [List.getElem?_append_left (by simpa [s.ls, s.l2] using hj)] at h3
      exact s.ea j m q v h1 h2 h3
    · rw [List.getElem?_append_right (by omega)] at h1
      cases w : j - (ms ++ B.hm).length with
      | zero =>
        rw [w] at h1
        cases h1
        unfold Ent
        trivial
      | succ n =>
        rw [w] at h1
        cases h1
  have k := EnOk.store (i := ms.length + B.hm.length) k1 (by simp [s.le, s.l1]) (by simp [s.ls, s.l2]) (by simp) (fun a t h => (ht a t h).2.1) e
  have e1 : (ms ++ B.hm ++ [Md.un]).set (ms.length + B.hm.length) md = ms ++ (B.hold md p x).hm := by
    rw [List.set_append_right _ _ (by simp)]
    simp [Bs.hold]
  have e2 : (env ++ B.hp ++ [PV.non]).set (ms.length + B.hm.length) p = env ++ (B.hold md p x).hp := by
    rw [List.set_append_right _ _ (by simp [s.le, s.l1])]
    simp [Bs.hold, s.le, s.l1]
  have e3 : (σ ++ B.hv ++ [Option.none]).set (ms.length + B.hm.length) (some x) = σ ++ (B.hold md p x).hv := by
    rw [List.set_append_right _ _ (by simp [s.ls, s.l2])]
    simp [Bs.hold, s.ls, s.l2]
  rw [e1, e2, e3] at k
  exact k
/-- a held value comes back as a result -/
theorem rows_back {i : Nat} {τ : Own} (hτ : ∀ a r, ρ a = some (i, r) → τ a = some (0, r)) : ∀ {ps : List PV} {k : Nat} {vs : List V}, RowsOk K mg I H ρ i k ps vs → RowsOk K mg I H τ 0 k ps vs
  | [], _, _, r => by unfold RowsOk at r ⊢; exact r
  | p :: ps, _, _, r => by
    unfold RowsOk at r ⊢
    obtain ⟨b, r', ws, ys, e1, e2, e3, e4, e5, e6⟩ := r
    exact ⟨b, r', ws, ys, e1, e2, hτ _ _ e3, e4, e5, rows_back hτ e6⟩
theorem Ent.back {i : Nat} {τ : Own} (hτ : ∀ a r, ρ a = some (i, r) → τ a = some (0, r)) : ∀ {m : Md} {p : PV} {v : Option V}, Ent K mg I H ρ i m p v → Ent K mg I H τ 0 m p v
  | .un, _, _, r => by unfold Ent; trivial
  | .fz, _, _, r => by unfold Ent at r ⊢; exact r
  | .ow, _, _, r => by
    unfold Ent at r ⊢
    obtain ⟨a, ps, vs, e1, e2, e3, e4, e5⟩ := r
    exact ⟨a, ps, vs, e1, e2, hτ _ _ e3, e4, e5⟩
  | .ow2, _, _, r => by
    unfold Ent at r ⊢
    obtain ⟨a, ps, vs, e1, e2, e3, e4, e5⟩ := r
    exact ⟨a, ps, vs, e1, e2, hτ _ _ e3, e4, rows_back hτ e5⟩
/-- the part of the owner map at one place; the rest -/
def tagAt (i : Nat) (ρ : Own) : Own := fun a => match ρ a with
  | some t => if t.1 = i then some (0, t.2) else none
  | none => none
def tagNot (i : Nat) (ρ : Own) : Own := fun a => match ρ a with
  | some t => if t.1 = i then none else some t
  | none => none
theorem tagAt_of {i : Nat} {a : Addr} {t : Tag} (h : tagAt i ρ a = some t) : t.1 = 0 ∧ ρ a = some (i, t.2) := by
  unfold tagAt at h
  cases w : ρ a with
  | none => rw [w] at h; cases h
  | some u =>
    rw [w] at h
    dsimp only at h
    split at h
    · rename_i z
      cases h
      obtain ⟨u1, u2⟩ := u
      cases z
      exact ⟨rfl, rfl⟩
    · cases h
theorem tagNot_of {i : Nat} {a : Addr} {t : Tag} (h : tagNot i ρ a = some t) : t.1 ≠ i ∧ ρ a = some t := by
  unfold tagNot at h
  cases w : ρ a with
  | none => rw [w] at h; cases h
  | some u =>
    rw [w] at h
    dsimp only at h
    split at h
    · cases h
    · rename_i z
      cases h
      exact ⟨z, rfl⟩
theorem tagNot_some {i j : Nat} {a : Addr} {r : Option Nat} (h : ρ a = some (j, r)) (n : j ≠ i) : tagNot i ρ a = some (j, r) := by
  unfold tagNot; rw [h]; simp [n]
theorem tagNot_none {i : Nat} {a : Addr} {r : Option Nat} (h : ρ a = some (i, r)) : tagNot i ρ a = none := by
  unfold tagNot; rw [h]; simp
theorem tagAt_some {i : Nat} {a : Addr} {r : Option Nat} (h : ρ a = some (i, r)) : tagAt i ρ a = some (0, r) := by
  unfold tagAt; rw [h]; simp
theorem Sb.without {i : Nat} (s : Sb pi B I H ρ σ) : Sb pi B I H (tagNot i ρ) σ := ⟨s.sub, s.bi, s.fr, s.ft, fun a t q => s.ro a t (tagNot_of q).2, s.al, s.pr, s.bo, s.px⟩
theorem Stt.unhold {md : Md} {p : PV} {x : V} (s : Stt K mg pi (B.hold md p x) ms env I H ρ σ) (l1 : B.hp.length = B.hm.length) (l2 : B.hv.length = B.hm.length) (hp : ∀ i ∈ pi, i < ms.length) :
    Stt K mg pi B ms env I H (tagNot (ms.length + B.hm.length) ρ) σ ∧ Tau B I H (tagNot (ms.length + B.hm.length) ρ) (tagAt (ms.length + B.hm.length) ρ) ∧ Ent K mg I H (tagAt (ms.length + B.hm.length) ρ) 0 md p (some x) := by
  have s0 := s.sb.unhold
  have hx : (ms ++ (B.hold md p x).hm)[ms.length + B.hm.length]? = some md := by simp [Bs.hold]
  refine ⟨⟨s0.without, s.ls, s.le, l1, l2, fun j m q v h1 h2 h3 => ?_⟩, fun a t h => ?_, ?_⟩
  · have hj : j < (ms ++ B.hm).length := (List.getElem?_eq_some_iff.mp h1).1
    have hj2 : j ≠ ms.length + B.hm.length := by rw [List.length_append] at hj; omega
    have f : ∀ {α : Type} {a b c : List α} {x : α}, (a ++ b)[j]? = some x → (a ++ (b ++ c))[j]? = some x := fun {α a b c x} h => by
      rw [← List.append_assoc]
      exact app_get h
    refine (s.ea j m q v (f h1) (f h2) (f h3)).mono (.refl _) fun b r vs h4 h5 => ⟨tagNot_some h4 hj2, h5⟩
  · obtain ⟨h1, h2⟩ := tagAt_of h
    obtain ⟨k1, k2, k3⟩ := s0.ro a _ h2
    refine ⟨h1, tagNot_none h2, k2, ?_, k3⟩
    rcases k1 with k1 | k1
    · exact absurd (hp _ (s0.bo a _ k1)) (by show ¬ ms.length + B.hm.length < ms.length; omega)
    · exact k1
  · have e := s.ea (ms.length + B.hm.length) md p (some x) hx (by simp [Bs.hold, ← s.le, l1]) (by simp [Bs.hold, ← s.ls, l2])
    exact e.back fun a r h => tagAt_some h
/-- a slot is frozen -/
theorem Stt.freeze {i : Nat} {md : Md} (s : Stt K mg pi B ms env I H ρ σ) (hm : ms[i]? = some md) (hn : md ≠ .un) (hi : i ∉ pi) :
    ∃ J ρ2, Same I J ∧ Stt K mg pi B (ms.set i .fz) env J H ρ2 σ := by
  have hl : i < ms.length := (List.getElem?_eq_some_iff.mp hm).1
  have k1 := frz_same s.sb.sub fun a => decide ((ρ a).map (·.1) = some i)
  have k2 := frz_sub s.sb.sub fun a => decide ((ρ a).map (·.1) = some i)
  have hiI : ∀ a t, ρ a = some t → t.1 ≠ i → frzH I H (fun a => decide ((ρ a).map (·.1) = some i)) a = I a := fun a t q n => by
    exact frz_f (by show decide ((ρ a).map (·.1) = some i) = false; rw [q]; simp [n])
  refine ⟨_, tagNot i ρ, k1, ⟨⟨k2, s.sb.bi.trans k1, s.sb.fr, fun a o q => ?_, fun a t q => ?_, s.sb.al, s.sb.pr, s.sb.bo, s.sb.pxm k1⟩, by simpa using s.ls, by simpa using s.le, s.l1, s.l2, fun j m p v h1 h2 h3 => ?_⟩⟩
  · by_cases z : (ρ a).map (·.1) = some i
    · cases w : ρ a with
      | none => rw [w] at z; cases z
      | some t =>
        rw [w] at z
        have z' : t.1 = i := by simpa using z
        rcases (s.sb.ro a t w).1 with y | y
        · exact absurd (by rw [← z']; exact s.sb.bo a t y) hi
        · exact .inr y
    · rw [frz_f (decide_eq_false z)] at q
      exact s.sb.ft a o q
  · obtain ⟨n, w⟩ := tagNot_of q
    obtain ⟨h1, h2, h3⟩ := s.sb.ro a _ w
    exact ⟨h1, (hiI a _ w n).trans h2, h3⟩
  · rw [← set_app hl] at h1
    by_cases hj : i = j
    · subst hj
      rw [List.getElem?_set_self (by rw [List.length_append]; omega)] at h1
      cases h1
      unfold Ent
      refine (s.ea i md p v (app_get hm) h2 h3).froz (J := frzH I H fun a => decide ((ρ a).map (·.1) = some i)) k1 (fun b r vs h4 h5 => ?_) hn
      rw [frz_t (by show decide ((ρ b).map (·.1) = some i) = true; rw [h4]; simp)]
      exact h5
    · rw [List.getElem?_set_ne hj] at h1
      exact (s.ea j m p v h1 h2 h3).mono k1 fun b r vs h4 h5 => ⟨tagNot_some h4 (Ne.symm hj), h5⟩
/-- modes at which less is known -/
def leM : List Md → List Md → Bool
  | [], [] => true
  | a :: as, b :: bs => (a == .un || a == b) && leM as bs
  | _, _ => false
/-- the values of slots of which nothing is known are dropped -/
def clr : List Md → List PV → List PV
  | .un :: ms, _ :: ps => .non :: clr ms ps
  | _ :: ms, p :: ps => p :: clr ms ps
  | _, _ => []
theorem leM_len : ∀ {as bs : List Md}, leM as bs = true → as.length = bs.length
  | [], [], _ => rfl
  | a :: as, b :: bs, h => by
    unfold leM at h
    simp only [Bool.and_eq_true] at h
    simp [leM_len h.2]
theorem leM_get : ∀ {as bs : List Md} {i : Nat} {m : Md}, leM as bs = true → as[i]? = some m → m = .un ∨ bs[i]? = some m
  | [], [], _, _, _, e => by simp at e
  | a :: as, b :: bs, 0, m, h, e => by
    unfold leM at h
    simp only [Bool.and_eq_true, Bool.or_eq_true, beq_iff_eq] at h
    simp at e; subst e
    rcases h.1 with z | z
    · exact .inl z
    · exact .inr (by simp [z])
  | a :: as, b :: bs, i + 1, m, h, e => by
    unfold leM at h
    simp only [Bool.and_eq_true] at h
    have := leM_get (i := i) (m := m) h.2 (by simpa using e)
    simpa using this
theorem clr_len : ∀ {ms : List Md} {ps : List PV}, ps.length = ms.length → (clr ms ps).length = ms.length
  | [], [], _ => rfl
  | m :: ms, p :: ps, h => by
    have ih := clr_len (ms := ms) (ps := ps) (by simpa using h)
    cases m <;> simp [clr, ih]
theorem clr_get : ∀ {ms : List Md} {ps : List PV} {i : Nat} {m : Md} {p : PV}, ps.length = ms.length → ms[i]? = some m → (clr ms ps)[i]? = some p → m = .un ∨ ps[i]? = some p
  | [], _, _, _, _, _, e, _ => by simp at e
  | n :: ms, [], _, _, _, h, _, _ => by simp at h
  | n :: ms, q :: ps, 0, m, p, h, e, z => by
    simp at e; subst e
    cases n
    · exact .inl rfl
    all_goals exact .inr (by simpa [clr] using z)
  | n :: ms, q :: ps, i + 1, m, p, h, e, z => by
    have := clr_get (ms := ms) (ps := ps) (i := i) (m := m) (p := p) (by simpa using h) (by simpa using e) (by cases n <;> simpa [clr] using z)
    simpa using this
theorem Stt.weak {ms2 : List Md} (s : Stt K mg pi B ms env I H ρ σ) (h : leM ms2 ms = true) : Stt K mg pi B ms2 (clr ms2 env) I H ρ σ := by
  have hl := leM_len h
  have hc := clr_len (ms := ms2) (ps := env) (s.le.trans hl.symm)
  refine ⟨s.sb, s.ls.trans hl.symm, hc, s.l1, s.l2, fun i m p v h1 h2 h3 => ?_⟩
  by_cases hi : i < ms2.length
  · rw [List.getElem?_append_left hi] at h1
    rw [List.getElem?_append_left (by rw [hc]; exact hi)] at h2
    rcases leM_get h h1 with z | z
    · subst z; unfold Ent; trivial
    · rcases clr_get (s.le.trans hl.symm) h1 h2 with y | y
      · subst y; unfold Ent; trivial
      · exact s.ea i m p v (app_get z) (app_get y) h3
  · have e1 : (ms ++ B.hm)[i]? = some m := by
      rw [List.getElem?_append_right (by omega)] at h1 ⊢
      rw [← hl]; exact h1
    have e2 : (env ++ B.hp)[i]? = some p := by
      rw [List.getElem?_append_right (by omega)] at h2
      rw [List.getElem?_append_right (by rw [s.le]; omega), s.le, ← hl, ← hc]
      exact h2
    exact s.ea i m p v e1 e2 h3
end
end Cq

/-! text Cq3 -/
set_option Elab.async false
set_option linter.all false
set_option maxRecDepth 100000
/-! Cq, part 3: what a piece of code computes over plain values. -/
namespace Cq
open PySem PySem.Spec L2

abbrev Env0 := List PV
abbrev MV := List PV → R (PV × List PV)
abbrev MB := List PV → R (Bool × List PV)
abbrev MA := List PV → R (List PV × List PV)
/-- what is held while an expression goes on is as it was -/
def HeldOk (K : PySem.W.Frag) (mg : Str → Option Value) (n : Nat) (B : Bs) (I H : Hp) (ρ : Own) : Prop := ∀ i m p v, B.hm[i]? = some m → B.hp[i]? = some p → B.hv[i]? = some v → Ent K mg I H ρ (n + i) m p v
theorem Stt.heldOk {K : PySem.W.Frag} {mg : Str → Option Value} {pi : Pin} {B : Bs} {ms : List Md} {env : List PV} {I H : Hp} {ρ : Own} {σ : L2.St} (s : Stt K mg pi B ms env I H ρ σ) : HeldOk K mg ms.length B I H ρ := fun i m p v h1 h2 h3 =>
  s.ea (ms.length + i) m p v (by rw [List.getElem?_append_right (by omega), Nat.add_sub_cancel_left]; exact h1) (by rw [List.getElem?_append_right (by rw [s.le]; omega), s.le, Nat.add_sub_cancel_left]; exact h2)
    (by rw [List.getElem?_append_right (by rw [s.ls]; omega), s.ls, Nat.add_sub_cancel_left]; exact h3)
theorem HeldOk.unhold {K : PySem.W.Frag} {mg : Str → Option Value} {n : Nat} {B : Bs} {I H : Hp} {ρ : Own} {md : Md} {p : PV} {x : V} (s : HeldOk K mg n (B.hold md p x) I H ρ) : HeldOk K mg n B I H ρ := fun i m p v h1 h2 h3 =>
  s i m p v (app_get h1) (app_get h2) (app_get h3)
def RepX (K : PySem.W.Frag) (mg : Str → Option Value) (I : Hp) (fs : List (Str × PV)) (ws : List (Str × V)) : Prop := ∀ f p, fs.lookup f = some p → ∃ v, ws.lookup f = some v ∧ Rep K mg I p v

/-- an exception's fields, where they lie -/
def ExD (K : PySem.W.Frag) (mg : Str → Option Value) (I H G : Hp) (d : Option Addr) (fs : List (Str × PV)) : Prop := (d = none ∧ fs = []) ∨ ∃ dd ws, d = some dd ∧ H dd = some (.xd ws) ∧ RepX K mg I fs ws ∧ G dd = none
theorem ExD.back {K : PySem.W.Frag} {mg : Str → Option Value} {I H G G2 : Hp} {d : Option Addr} {fs : List (Str × PV)} (h : ExD K mg I H G d fs) (k : ∀ a, G a = none → G2 a = none) : ExD K mg I H G2 d fs := by
  rcases h with h | ⟨dd, ws, h1, h2, h3, h4⟩
  · exact .inl h
  · exact .inr ⟨dd, ws, h1, h2, h3, k _ h4⟩
section
variable (X : Cx) (pi : Pin) (W : WX) (ms : List Md)
/-- what is wanted where an exception flies -/
def Fly (B : Bs) (I : Hp) (σ : L2.St) (C : Str) (fs : List (Str × PV)) : Prop :=
  ∀ c d J H2 ρ2, X.mg C = some (.ref c) → Same I J → Sb pi B J H2 ρ2 σ → ExD X.K X.mg J H2 B.H d fs → HeldOk X.K X.mg X.N.length B J H2 ρ2 → W (.ref c) d σ H2
def tE (md : Md) (m : MV) : TE := fun σ H Q => ∃ B I ρ env, Stt X.K X.mg pi B ms env I H ρ σ ∧
  (m env).sat (fun r => ∀ v J H2 ρ2 τ, Same I J → Stt X.K X.mg pi B ms r.2 J H2 ρ2 σ → Tau B J H2 ρ2 τ → Ent X.K X.mg J H2 τ 0 md r.1 (some v) → Q v H2) (Fly X pi W B I σ)
def tT (m : MB) : TT := fun σ H Q => ∃ B I ρ env, Stt X.K X.mg pi B ms env I H ρ σ ∧
  (m env).sat (fun r => ∀ J H2 ρ2, Same I J → Stt X.K X.mg pi B ms r.2 J H2 ρ2 σ → Q r.1 H2) (Fly X pi W B I σ)
def tA (m : MA) : TA := fun σ H Q => ∃ B I ρ env, Stt X.K X.mg pi B ms env I H ρ σ ∧
  (m env).sat (fun r => ∀ vs J H2 ρ2, Same I J → Stt X.K X.mg pi B ms r.2 J H2 ρ2 σ → RepL X.K X.mg J r.1 vs → Q vs H2) (Fly X pi W B I σ)
structure SE (e : Expr) (md : Md) (m : MV) : Prop where
  pe : PE X e (tE X pi W ms md m)
structure ST (e : Expr) (m : MB) : Prop where
  pt : PT X e (tT X pi W ms m)
structure SW (e : Expr) (m : MB) : Prop where
  pw : PW X e (tT X pi W ms m)
structure SA (es : List Expr) (m : MA) : Prop where
  pa : PA X es (tA X pi W ms m)
/-- what is wanted of a value made of the heaps I and H -/
def Ret (md : Md) (I H : Hp) (p : PV) (Q : VK) : Prop := ∀ v J H2 τ, Grow I J H H2 → (∀ a t, τ a = some t → t.1 = 0 ∧ H a = none ∧ J a = none ∧ ∃ vs, H2 a = some (.lst vs)) → Ent X.K X.mg J H2 τ 0 md p (some v) → Q v H2
end
theorem PEimp {X : Cx} {e : Expr} {t t' : TE} (h : PE X e t) (k : ∀ σ H Q, t' σ H Q → t σ H Q) : PE X e t' := ⟨fun pn sh st hp q iv w => h.run pn sh st hp q iv (k _ _ _ w)⟩
theorem PTimp {X : Cx} {e : Expr} {t t' : TT} (h : PT X e t) (k : ∀ σ H Q, t' σ H Q → t σ H Q) : PT X e t' := ⟨fun pn sh st hp q iv w => h.run pn sh st hp q iv (k _ _ _ w)⟩
theorem PWimp {X : Cx} {e : Expr} {t t' : TT} (h : PW X e t) (k : ∀ σ H Q, t' σ H Q → t σ H Q) : PW X e t' := ⟨fun wh pn sh st hp q iv w => h.run wh pn sh st hp q iv (k _ _ _ w)⟩
theorem PAimp {X : Cx} {es : List Expr} {t t' : TA} (h : PA X es t) (k : ∀ σ H Q, t' σ H Q → t σ H Q) : PA X es t' := ⟨fun ps pn sh st hp q iv w => h.run ps pn sh st hp q iv (k _ _ _ w)⟩
theorem PSimp {X : Cx} {s : Stmt} {t t' : TS} (h : PS X s t) (k : ∀ D σ H, t' D σ H → t D σ H) : PS X s t' := ⟨fun pn sh st hp d iv w => h.run pn sh st hp d iv (k _ _ _ w)⟩
theorem PSsimp {X : Cx} {s : List Stmt} {t t' : TS} (h : PSs X s t) (k : ∀ D σ H, t' D σ H → t D σ H) : PSs X s t' := ⟨fun pn sh st hp d iv w => h.run pn sh st hp d iv (k _ _ _ w)⟩

section
variable {X : Cx} {pi : Pin} {W : WX} {ms : List Md} {md : Md} {B : Bs} {I J H H2 : Hp} {ρ ρ2 τ : Own} {σ : L2.St} {env : List PV} {p q c : PV} {x y v : V} {Q : VK}
theorem Fly.mono {C : Str} {fs : List (Str × PV)} (f : Fly X pi W B I σ C fs) (s : Same I J) : Fly X pi W B J σ C fs :=
  fun c d L H3 ρ3 h1 h2 h3 h4 h5 => f c d L H3 ρ3 h1 (s.trans h2) h3 h4 h5
theorem ent_fz : Ent X.K X.mg I H ρ 0 .fz p (some x) ↔ Rep X.K X.mg I p x := by
  unfold Ent
  exact ⟨fun ⟨y, e, r⟩ => by cases e; exact r, fun r => ⟨x, rfl, r⟩⟩
/-- a frozen value answers -/
theorem Ret.fz (r : Ret X .fz I H p Q) (g : Grow I J H H2) (h : Rep X.K X.mg J p v) : Q v H2 := r v J H2 (fun _ => none) g (fun a t e => by cases e) (ent_fz.mpr h)
/-- .. where nothing is made -/
theorem Ret.here (r : Ret X .fz I H p Q) (s : Same I H) (h : Rep X.K X.mg I p v) : Q v H := r.fz (.refl s) h
/-- whoever takes a frozen value takes an own one -/
theorem Ret.thaw (r : Ret X .fz I H p Q) (hm : md ≠ .un) : Ret X md I H p Q := fun v J H2 τ g ht e => by
  obtain ⟨y, ey, z⟩ := e.froz (J := frzH J H2 fun a => (τ a).isSome) (frz_same g.s _) (fun b r vs h1 h2 => by rw [frz_t (by show (τ b).isSome = true; rw [h1]; rfl)]; exact h2) hm
  cases ey
  refine r.fz ⟨g.i.trans (frz_same g.s _), g.h, frz_sub g.s _, fun a o w => ?_⟩ z
  cases q : τ a with
  | none =>
    rw [frz_f (by show (τ a).isSome = false; rw [q]; rfl)] at w
    exact g.f a o w
  | some t => exact .inr (ht a t q).2.1
/-- a new list of one's own -/
theorem Ret.own {ps : List PV} {vs : List V} {a : Addr} (r : Ret X .ow I H (.lst ps) Q) (s : Same I H) (n : H a = none) (h : RepL X.K X.mg I ps vs) : Q (.ref a) (upd H a (.lst vs)) := by
  refine r _ I _ (fun b => if b = a then some (0, none) else none) (.laid s n) (fun b t e => ?_) ?_
  · split at e
    · rename_i z
      cases e; subst z
      refine ⟨rfl, n, ?_, _, upd_same⟩
      cases w : I b with
      | none => rfl
      | some o =>
        have := s _ _ w
        rw [n] at this; cases this
    · cases e
  · unfold Ent
    exact ⟨a, ps, vs, rfl, rfl, by simp, upd_same, h⟩
/-- a new tuple -/
theorem Ret.newTup {ps : List PV} {vs : List V} {a : Addr} (r : Ret X .fz I H (.tup ps) Q) (s : Same I H) (n : H a = none) (h : RepL X.K X.mg I ps vs) : Q (.ref a) (upd H a (.tup vs)) := by
  have g := Grow.new (o := .tup vs) s n
  exact r.fz g (rep_tup (SqT.of upd_same) (h.mono g.i))

/-- what goes on behind a value, in a state -/
theorem Ret.of_state (s : Stt X.K X.mg pi B ms env I H ρ σ) (k : ∀ v J H2 ρ2 τ, Same I J → Stt X.K X.mg pi B ms env J H2 ρ2 σ → Tau B J H2 ρ2 τ → Ent X.K X.mg J H2 τ 0 md p (some v) → Q v H2) : Ret X md I H p Q := fun v J H2 τ g ht e =>
  k v J H2 ρ τ g.i (s.grow g) (fun a t h => by
    obtain ⟨h1, h2, h3, h4⟩ := ht a t h
    refine ⟨h1, ?_, h3, s.sb.al a h2, h4⟩
    cases z : ρ a with
    | none => rfl
    | some u =>
      obtain ⟨_, _, vs, w⟩ := s.sb.ro a u z
      rw [h2] at w; cases w) e

/-- an operation on two values -/
structure VOp (X : Cx) (f : Value → Value → Sem Value) (md : Md) (g : PV → PV → Option PV) : Prop where
  ex : ∃ r : R2, OpR X f r ∧ ∀ I H p q x y c Q, Same I H → Rep X.K X.mg I p x → Rep X.K X.mg I q y → g p q = some c → Ret X md I H c Q → r x y H Q
def orO (g h : PV → PV → Option PV) : PV → PV → Option PV := fun p q => match g p q with
  | some c => some c
  | none => h p q
theorem VOp.or {f : Value → Value → Sem Value} {g h : PV → PV → Option PV} (a : VOp X f md g) (b : VOp X f md h) : VOp X f md (orO g h) := by
  obtain ⟨r1, o1, k1⟩ := a.ex
  obtain ⟨r2, o2, k2⟩ := b.ex
  refine ⟨_, o1.or o2, fun I H p q x y c Q s rp rq e r => ?_⟩
  unfold orO at e
  cases w : g p q with
  | some d =>
    rw [w] at e
    cases e
    exact .inl (k1 I H p q x y _ Q s rp rq w r)
  | none =>
    rw [w] at e
    exact .inr (k2 I H p q x y c Q s rp rq e r)
theorem VOp.thaw {f : Value → Value → Sem Value} {g : PV → PV → Option PV} (a : VOp X f md g) (hm : md ≠ .un) : VOp X f .fz g := by
  obtain ⟨r1, o1, k1⟩ := a.ex
  exact ⟨_, o1, fun I H p q x y c Q s rp rq e r => k1 I H p q x y c Q s rp rq e (r.thaw hm)⟩
def ofO (o : Option PV) (env : List PV) : R (PV × List PV) := match o with
  | some c => .ok (c, env)
  | none => .bad
def mBin (g : PV → PV → Option PV) (m1 m2 : MV) : MV := fun env => (m1 env).bind fun r1 => (m2 r1.2).bind fun r2 => ofO (g r1.1 r2.1) r2.2
/-- two values, one behind the other -/
theorem two {m1 m2 : MV} {k : PV × List PV → PV × List PV → R (PV × List PV)} {ta tb : TE} {e1 e2 : Expr} (a : SE X pi W ms e1 .fz m1) (b : SE X pi W ms e2 .fz m2) {r : V → V → Hp → Prop} {F : PV × List PV → Hp → L2.St → Bs → Prop}
    (s : Stt X.K X.mg pi B ms env I H ρ σ) (h : ((m1 env).bind fun r1 => (m2 r1.2).bind fun r2 => k r1 r2).sat (fun z => F z I σ B) (Fly X pi W B I σ))
    (fin : ∀ r1 r2 x y J H2 ρ2, Same I J → Stt X.K X.mg pi B ms r2.2 J H2 ρ2 σ → Rep X.K X.mg J r1.1 x → Rep X.K X.mg J r2.1 y → (k r1 r2).sat (fun z => F z I σ B) (Fly X pi W B I σ) → r x y H2) :
    tE X pi W ms .fz m1 σ H fun x H1 => tE X pi W ms .fz m2 σ H1 fun y H2 => r x y H2 := by
  refine ⟨B, I, ρ, env, s, R.sat_mono (R.sat_bind h) (fun r1 h1 x J H1 ρ1 τ sj s1 _ e1 => ?_) fun C fs z => z⟩
  refine ⟨B, J, ρ1, r1.2, s1, R.sat_mono (R.sat_bind h1) (fun r2 h2 y L H2 ρ2 τ2 sl s2 _ e2 => ?_) fun C fs z => z.mono sj⟩
  exact fin r1 r2 x y L H2 ρ2 (sj.trans sl) s2 ((ent_fz.mp e1).mono sl) (ent_fz.mp e2) h2
theorem SE.bin {op : Operator} {g : PV → PV → Option PV} {m1 m2 : MV} {e1 e2 : Expr} {pos : Pos} (o : VOp X (binaryOp op) md g) (a : SE X pi W ms e1 .fz m1) (b : SE X pi W ms e2 .fz m2) : SE X pi W ms (.BinOp e1 op e2 pos) md (mBin g m1 m2) := by
  obtain ⟨r, ho, k⟩ := o.ex
  refine ⟨PEimp (pe_op ho a.pe b.pe) fun σ H Q ⟨B, I, ρ, env, s, h⟩ => ?_⟩
  refine two (ta := tE X pi W ms .fz m1) (tb := tE X pi W ms .fz m1) a b (k := fun r1 r2 => ofO (g r1.1 r2.1) r2.2) (F := fun z I σ B => ∀ v J H2 ρ2 τ, Same I J → Stt X.K X.mg pi B ms z.2 J H2 ρ2 σ → Tau B J H2 ρ2 τ → Ent X.K X.mg J H2 τ 0 md z.1 (some v) → Q v H2) s h fun r1 r2 x y J H2 ρ2 sj s2 rx ry hk => ?_
  cases e : g r1.1 r2.1 with
  | none => rw [e] at hk; exact hk.elim
  | some c =>
    rw [e] at hk
    exact k J H2 _ _ x y c Q s2.sub rx ry e (Ret.of_state s2 fun v L H3 ρ3 τ sl s3 t3 e3 => hk v L H3 ρ3 τ (sj.trans sl) s3 t3 e3)
theorem SE.cmp {op : CmpOp} {g : PV → PV → Option PV} {m1 m2 : MV} {e1 e2 : Expr} {pos : Pos} (o : VOp X (compareOp op) md g) (a : SE X pi W ms e1 .fz m1) (b : SE X pi W ms e2 .fz m2) (hm : behindInMarks op e2 = false := by first | exact nomark _ | with_unfolding_all rfl) :
    SE X pi W ms (.Compare e1 [op] [e2] pos) md (mBin g m1 m2) := by
  obtain ⟨r, ho, k⟩ := o.ex
  refine ⟨PEimp (pe_cmpR ho a.pe b.pe hm) fun σ H Q ⟨B, I, ρ, env, s, h⟩ => ?_⟩
  refine two (ta := tE X pi W ms .fz m1) (tb := tE X pi W ms .fz m1) a b (k := fun r1 r2 => ofO (g r1.1 r2.1) r2.2) (F := fun z I σ B => ∀ v J H2 ρ2 τ, Same I J → Stt X.K X.mg pi B ms z.2 J H2 ρ2 σ → Tau B J H2 ρ2 τ → Ent X.K X.mg J H2 τ 0 md z.1 (some v) → Q v H2) s h fun r1 r2 x y J H2 ρ2 sj s2 rx ry hk => ?_
  cases e : g r1.1 r2.1 with
  | none => rw [e] at hk; exact hk.elim
  | some c =>
    rw [e] at hk
    exact k J H2 _ _ x y c Q s2.sub rx ry e (Ret.of_state s2 fun v L H3 ρ3 τ sl s3 t3 e3 => hk v L H3 ρ3 τ (sj.trans sl) s3 t3 e3)
/-- a test by the value's truth -/
def tru : PV → Option Bool
  | .non => some false
  | .bl b => some b
  | .int i => some (i != 0)
  | .lst ps => some (!ps.isEmpty)
  | .tup ps => some (!ps.isEmpty)
  | _ => none
def isBl : PV → Option Bool
  | .bl b => some b
  | _ => none
def mOfB (o : Option Bool) (env : List PV) : R (Bool × List PV) := match o with
  | some b => .ok (b, env)
  | none => .bad
def mTru (m : MV) : MB := fun env => (m env).bind fun r => mOfB (tru r.1) r.2
def mIsB (m : MV) : MB := fun env => (m env).bind fun r => mOfB (isBl r.1) r.2
theorem truV_of {K : PySem.W.Frag} {mg : Str → Option Value} {k : Bool} (s : Same I H) : ∀ {p : PV}, Rep K mg I p x → tru p = some k → TruV K x H k
  | .non, r, e => by unfold Rep at r; subst r; cases e; rfl
  | .bl b, r, e => by unfold Rep at r; subst r; cases e; rfl
  | .int i, r, e => by unfold Rep at r; subst r; cases e; rfl
  | .str z, r, e => by cases e
  | .ty n, r, e => by cases e
  | .scr n, r, e => by cases e
  | .dic n, r, e => by cases e
  | .ins n f, r, e => by cases e
  | .lst ps, r, e => by
    unfold Rep at r
    obtain ⟨a, vs, rfl, h, z⟩ := r
    cases e
    refine .inl ⟨vs, SqL.of (s _ _ h), ?_⟩
    have := z.len
    cases ps <;> cases vs <;> simp_all
  | .tup ps, r, e => by
    unfold Rep at r
    obtain ⟨a, vs, rfl, h, z⟩ := r
    cases e
    refine .inr (.inl ⟨vs, sqt_mono s h, ?_⟩)
    have := z.len
    cases ps <;> cases vs <;> simp_all
theorem ST.tru {e : Expr} {m : MV} (a : SE X pi W ms e .fz m) (he : ∀ whole, isTrue e X.env whole = (do let v ← whole; standAt e.pos; holding [v] (truthy v)) := by intro _; rfl) : ST X pi W ms e (mTru m) := by
  refine ⟨PTimp (pt_truth a.pe he) fun σ H Q ⟨B, I, ρ, env, s, h⟩ => ?_⟩
  refine ⟨B, I, ρ, env, s, R.sat_mono (R.sat_bind h) (fun r h1 x J H2 ρ2 τ sj s2 _ e2 => ?_) fun C fs z => z⟩
  cases w : Cq.tru r.1 with
  | none => rw [w] at h1; exact h1.elim
  | some b =>
    rw [w] at h1
    exact ⟨b, truV_of s2.sub (ent_fz.mp e2) w, h1 J H2 ρ2 sj s2⟩
theorem ST.cmp {op : CmpOp} {g : PV → PV → Option PV} {m1 m2 : MV} {e1 e2 : Expr} {pos : Pos} (o : VOp X (compareOp op) .fz g) (a : SE X pi W ms e1 .fz m1) (b : SE X pi W ms e2 .fz m2) (hm : behindInMarks op e2 = false := by first | exact nomark _ | with_unfolding_all rfl) :
    ST X pi W ms (.Compare e1 [op] [e2] pos) (mIsB (mBin g m1 m2)) := by
  obtain ⟨r, ho, k⟩ := o.ex
  refine ⟨PTimp (pt_cmpR ho a.pe b.pe hm) fun σ H Q ⟨B, I, ρ, env, s, h⟩ => ?_⟩
  have h' : ((m1 env).bind fun r1 => (m2 r1.2).bind fun r2 => ofO (g r1.1 r2.1) r2.2).sat (fun z => (mOfB (isBl z.1) z.2).sat (fun z => ∀ J H2 ρ2, Same I J → Stt X.K X.mg pi B ms z.2 J H2 ρ2 σ → Q z.1 H2) (Fly X pi W B I σ)) (Fly X pi W B I σ) := R.sat_bind h
  refine two (ta := tE X pi W ms .fz m1) (tb := tE X pi W ms .fz m1) a b (k := fun r1 r2 => ofO (g r1.1 r2.1) r2.2)
    (F := fun z I σ B => (mOfB (isBl z.1) z.2).sat (fun z => ∀ J H2 ρ2, Same I J → Stt X.K X.mg pi B ms z.2 J H2 ρ2 σ → Q z.1 H2) (Fly X pi W B I σ)) s h' fun r1 r2 x y J H2 ρ2 sj s2 rx ry hk => ?_
  cases e : g r1.1 r2.1 with
  | none => rw [e] at hk; exact hk.elim
  | some c =>
    rw [e] at hk
    refine k J H2 _ _ x y c _ s2.sub rx ry e (Ret.of_state s2 fun v L H3 ρ3 τ sl s3 t3 e3 => ?_)
    cases c with
    | bl b =>
      have e4 := ent_fz.mp e3
      unfold Rep at e4
      exact ⟨b, e4, (show ∀ J H2 ρ2, Same I J → Stt X.K X.mg pi B ms r2.2 J H2 ρ2 σ → Q b H2 from hk) L H3 ρ3 (sj.trans sl) s3⟩
    | _ => exact (show False from hk).elim
end
end Cq

/-! text Cq4 -/
set_option Elab.async false
set_option linter.all false
set_option maxRecDepth 100000
/-! Cq, part 4: operators and comparisons by values. -/
namespace Cq
open PySem PySem.Spec L2

def intOp (g : Int → Int → PV) : PV → PV → Option PV
  | .int i, .int j => some (g i j)
  | _, _ => none
def intOpC (c : Int → Int → Bool) (g : Int → Int → PV) : PV → PV → Option PV
  | .int i, .int j => if c i j = true then some (g i j) else none
  | _, _ => none
section
variable {X : Cx} {f : Value → Value → Sem Value}
theorem repI {K : PySem.W.Frag} {mg : Str → Option Value} {I : Hp} {i : Int} {x : V} (h : Rep K mg I (.int i) x) : x = .int i := by unfold Rep at h; exact h
theorem repB {K : PySem.W.Frag} {mg : Str → Option Value} {I : Hp} {i : Bool} {x : V} (h : Rep K mg I (.bl i) x) : x = .bl i := by unfold Rep at h; exact h
theorem repS {K : PySem.W.Frag} {mg : Str → Option Value} {I : Hp} {i : Str} {x : V} (h : Rep K mg I (.str i) x) : x = .str i := by unfold Rep at h; exact h
theorem repN {K : PySem.W.Frag} {mg : Str → Option Value} {I : Hp} {x : V} (h : Rep K mg I .non x) : x = .non := by unfold Rep at h; exact h
theorem repT {K : PySem.W.Frag} {mg : Str → Option Value} {I : Hp} {ps : List PV} {x : V} (h : Rep K mg I (.tup ps) x) : ∃ a vs, x = .ref a ∧ SqT K I a vs ∧ RepL K mg I ps vs := by unfold Rep at h; exact h
theorem repL {K : PySem.W.Frag} {mg : Str → Option Value} {I : Hp} {ps : List PV} {x : V} (h : Rep K mg I (.lst ps) x) : ∃ a vs, x = .ref a ∧ I a = some (.lst vs) ∧ RepL K mg I ps vs := by unfold Rep at h; exact h
theorem vI0 {g : Int → Int → V} {g' : Int → Int → PV} (ho : OpR X f (rI0 g)) (hg : ∀ I i j, Rep X.K X.mg I (g' i j) (g i j)) : VOp X f .fz (intOp g') := by
  refine ⟨_, ho, fun I H p q x y c Q s rp rq e r => ?_⟩
  unfold intOp at e
  split at e
  · cases e
    exact ⟨_, _, repI rp, repI rq, r.here s (hg _ _ _)⟩
  · cases e
theorem vI {C : Int → Int → Prop} {cb : Int → Int → Bool} {g : Int → Int → V} {g' : Int → Int → PV} (ho : OpR X f (rI C g)) (hc : ∀ i j, cb i j = true → C i j) (hg : ∀ I i j, Rep X.K X.mg I (g' i j) (g i j)) : VOp X f .fz (intOpC cb g') := by
  refine ⟨_, ho, fun I H p q x y c Q s rp rq e r => ?_⟩
  unfold intOpC at e
  split at e
  · split at e
    · rename_i z
      cases e
      exact ⟨_, _, repI rp, repI rq, hc _ _ z, r.here s (hg _ _ _)⟩
    · cases e
  · cases e
def cMul (i j : Int) : Bool := (decide (-(2 ^ 64) < i) && decide (i < 2 ^ 64)) || (decide (-(2 ^ 64) < j) && decide (j < 2 ^ 64))
def cDiv (i j : Int) : Bool := decide (0 < j) && decide (j < 1073741824)
def cPow (i j : Int) : Bool := decide (0 ≤ j) && (decide (j ≤ 1000000) && decide (i.natAbs < 2 ^ 64))
theorem vMul : VOp X (binaryOp .Mult) .fz (intOpC cMul fun i j => .int (i * j)) := vI op_mul (fun i j h => by
  unfold cMul at h
  simp only [Bool.or_eq_true, Bool.and_eq_true, decide_eq_true_eq] at h
  exact h) fun _ _ _ => rep_int
theorem vDiv : VOp X (binaryOp .FloorDiv) .fz (intOpC cDiv fun i j => .int (i / j)) := vI op_fdiv (fun i j h => by
  unfold cDiv at h
  simp only [Bool.and_eq_true, decide_eq_true_eq] at h
  exact h) fun _ _ _ => rep_int
def cNz (i j : Int) : Bool := decide (j ≠ 0) && decide (j.natAbs < 1073741824)
theorem vDivN : VOp X (binaryOp .FloorDiv) .fz (intOpC cNz fun i j => .int (i.fdiv j)) := vI op_fdivN (fun i j h => by
  unfold cNz at h
  simp only [Bool.and_eq_true, decide_eq_true_eq] at h
  exact h) fun _ _ _ => rep_int
theorem vMod : VOp X (binaryOp .Mod) .fz (intOpC (fun _ j => decide (0 < j)) fun i j => .int (i % j)) := vI op_mod (fun i j h => by simpa using h) fun _ _ _ => rep_int
theorem vPow : VOp X (binaryOp .Pow) .fz (intOpC cPow fun i j => .int (i ^ j.toNat)) := vI op_pow (fun i j h => by
  unfold cPow at h
  simp only [Bool.and_eq_true, decide_eq_true_eq] at h
  exact h) fun _ _ _ => rep_int
theorem vShl : VOp X (binaryOp .LShift) .fz (intOpC cPow fun i j => .int (i * 2 ^ j.toNat)) := vI op_shl (fun i j h => by
  unfold cPow at h
  simp only [Bool.and_eq_true, decide_eq_true_eq] at h
  exact h) fun _ _ _ => rep_int
theorem vShr : VOp X (binaryOp .RShift) .fz (intOpC (fun _ j => decide (0 ≤ j)) fun i j => .int (i / 2 ^ j.toNat)) := vI op_shr (fun i j h => by simpa using h) fun _ _ _ => rep_int
theorem vAnd : VOp X (binaryOp .BitAnd) .fz (intOp fun i j => .int (Builtin.bitAnd i j)) := vI0 op_and fun _ _ _ => rep_int
theorem vOr : VOp X (binaryOp .BitOr) .fz (intOp fun i j => .int (Builtin.bitOr i j)) := vI0 op_or fun _ _ _ => rep_int
theorem vXor : VOp X (binaryOp .BitXor) .fz (intOp fun i j => .int (Builtin.bitXor i j)) := vI0 op_xor fun _ _ _ => rep_int
theorem vSub : VOp X (binaryOp .Sub) .fz (intOp fun i j => .int (i - j)) := vI0 op_sub fun _ _ _ => rep_int
theorem vAddI : VOp X (binaryOp .Add) .fz (intOp fun i j => .int (i + j)) := vI0 op_add fun _ _ _ => rep_int
theorem vLt : VOp X (compareOp .Lt) .fz (intOp fun i j => .bl (decide (i < j))) := vI0 op_lt fun _ _ _ => rep_bl
theorem vLe : VOp X (compareOp .LtE) .fz (intOp fun i j => .bl (decide (i ≤ j))) := vI0 op_le fun _ _ _ => rep_bl
theorem vGt : VOp X (compareOp .Gt) .fz (intOp fun i j => .bl (decide (j < i))) := vI0 op_gt fun _ _ _ => rep_bl
theorem vGe : VOp X (compareOp .GtE) .fz (intOp fun i j => .bl (decide (j ≤ i))) := vI0 op_ge fun _ _ _ => rep_bl

/-! ### lists and tuples -/
def gCatL : PV → PV → Option PV
  | .lst a, .lst b => if a.length + b.length ≤ sizeLine then some (.lst (a ++ b)) else none
  | _, _ => none
theorem vCatL : VOp X (binaryOp .Add) .ow gCatL := by
  refine ⟨_, op_cat, fun I H p q x y c Q s rp rq e r => ?_⟩
  unfold gCatL at e
  split at e
  · split at e
    · rename_i z
      cases e
      obtain ⟨a, vs, rfl, h1, h2⟩ := repL rp
      obtain ⟨b, ws, rfl, h3, h4⟩ := repL rq
      exact ⟨a, b, vs, ws, rfl, rfl, s _ _ h1, s _ _ h3, by rw [h2.len, h4.len]; exact z, fun u hu => r.own s hu (h2.app h4)⟩
    · cases e
  · cases e
def gCatT : PV → PV → Option PV
  | .tup a, .tup b => if a.length + b.length ≤ sizeLine then some (.tup (a ++ b)) else none
  | _, _ => none
theorem vCatT : VOp X (binaryOp .Add) .fz gCatT := by
  refine ⟨_, op_catA, fun I H p q x y c Q s rp rq e r => ?_⟩
  unfold gCatT at e
  split at e
  · split at e
    · rename_i z
      cases e
      obtain ⟨a, vs, rfl, h1, h2⟩ := repT rp
      obtain ⟨b, ws, rfl, h3, h4⟩ := repT rq
      refine ⟨a, b, vs, ws, rfl, rfl, sqt_mono s h1, sqt_mono s h3, by rw [h2.len, h4.len]; exact z, fun n => ?_, fun _ n => ?_, fun _ _ u hu => r.newTup s hu (h2.app h4)⟩
      · subst n
        have l := h2.len
        rw [List.length_eq_zero_iff.mp l.symm] at r
        exact r.here s (rep_tup h3 h4)
      · subst n
        have l := h4.len
        rw [List.length_eq_zero_iff.mp l.symm, List.append_nil] at r
        exact r.here s (rep_tup h1 h2)
    · cases e
  · cases e
def gRepL : PV → PV → Option PV
  | .lst a, .int k => if a.length * k.toNat ≤ sizeLine ∧ -(2 ^ 63) ≤ k ∧ k < 2 ^ 63 then some (.lst (List.replicate k.toNat a).flatten) else none
  | _, _ => none
theorem vRepL : VOp X (binaryOp .Mult) .ow gRepL := by
  refine ⟨_, op_rep, fun I H p q x y c Q s rp rq e r => ?_⟩
  unfold gRepL at e
  split at e
  · split at e
    · rename_i z
      cases e
      obtain ⟨a, vs, rfl, h1, h2⟩ := repL rp
      exact ⟨a, _, vs, rfl, repI rq, s _ _ h1, z.2.1, z.2.2, by rw [h2.len]; exact z.1, fun u hu => r.own s hu (h2.rep _)⟩
    · cases e
  · cases e
def gRepT : PV → PV → Option PV
  | .tup a, .int k => if a ≠ [] ∧ 2 ≤ k ∧ k ≤ 1000 ∧ a.length ≤ 1000 then some (.tup (List.replicate k.toNat a).flatten) else none
  | _, _ => none
theorem vRepT : VOp X (binaryOp .Mult) .fz gRepT := by
  refine ⟨_, op_repT, fun I H p q x y c Q s rp rq e r => ?_⟩
  unfold gRepT at e
  split at e
  · split at e
    · rename_i z
      cases e
      obtain ⟨a, vs, rfl, h1, h2⟩ := repT rp
      refine ⟨a, _, vs, rfl, repI rq, sqt_mono s h1, fun n => z.1 ?_, z.2.1, z.2.2.1, by rw [h2.len]; exact z.2.2.2, fun u hu => r.newTup s hu (h2.rep _)⟩
      have l := h2.len
      rw [n] at l
      exact List.length_eq_zero_iff.mp l.symm
    · cases e
  · cases e
def gCatS : PV → PV → Option PV
  | .str a, .str b => if a.length + b.length ≤ sizeLine then some (.str (a ++ b)) else none
  | _, _ => none
theorem vCatS : VOp X (binaryOp .Add) .fz gCatS := by
  refine ⟨_, op_add_str, fun I H p q x y c Q s rp rq e r => ?_⟩
  unfold gCatS at e
  split at e
  · split at e
    · rename_i z
      cases e
      exact ⟨_, _, repS rp, repS rq, z, r.here s rep_str⟩
    · cases e
  · cases e
/-- + -/
def gAdd : PV → PV → Option PV := orO (intOp fun i j => .int (i + j)) (orO gCatT (orO gCatL gCatS))
theorem vAdd : VOp X (binaryOp .Add) .fz gAdd := vAddI.or (vCatT.or ((vCatL.thaw (by decide)).or vCatS))
def gMul : PV → PV → Option PV := orO (intOpC cMul fun i j => .int (i * j)) (orO (gRepL) gRepT)
theorem vMulA : VOp X (binaryOp .Mult) .fz gMul := vMul.or ((vRepL.thaw (by decide)).or vRepT)

/-! ### == -/
mutual
def toD : PV → Option PyData
  | .non => some .none
  | .bl b => some (.bool b)
  | .int i => some (.int i)
  | .str x => some (.str x)
  | .lst ps => (toDs ps).map .list
  | .tup ps => (toDs ps).map .tuple
  | _ => none
def toDs : List PV → Option (List PyData)
  | [] => some []
  | p :: ps => match toD p, toDs ps with
    | some d, some ds => some (d :: ds)
    | _, _ => none
end
mutual
theorem dp_of {K : PySem.W.Frag} {mg : Str → Option Value} {I H : Hp} (s : Same I H) : ∀ {p : PV} {x : V} {d : PyData}, Rep K mg I p x → toD p = some d → Dp K H x d
  | .non, _, _, r, e => by unfold toD at e; cases e; rw [repN r]; exact .non
  | .bl b, _, _, r, e => by unfold toD at e; cases e; rw [repB r]; exact .bl _
  | .int i, _, _, r, e => by unfold toD at e; cases e; rw [repI r]; exact .int _
  | .str z, _, _, r, e => by unfold toD at e; cases e; rw [repS r]; exact .str _
  | .ty n, _, _, r, e => by unfold toD at e; cases e
  | .scr n, _, _, r, e => by unfold toD at e; cases e
  | .dic n, _, _, r, e => by unfold toD at e; cases e
  | .ins n f, _, _, r, e => by unfold toD at e; cases e
  | .lst ps, _, _, r, e => by
    unfold toD at e
    obtain ⟨a, vs, rfl, h1, h2⟩ := repL r
    cases w : toDs ps with
    | none => rw [w] at e; cases e
    | some ds =>
      rw [w] at e
      cases e
      exact .lst (SqL.of (s _ _ h1)) (dps_of s h2 w)
  | .tup ps, _, _, r, e => by
    unfold toD at e
    obtain ⟨a, vs, rfl, h1, h2⟩ := repT r
    cases w : toDs ps with
    | none => rw [w] at e; cases e
    | some ds =>
      rw [w] at e
      cases e
      exact .tup (sqt_mono s h1) (dps_of s h2 w)
theorem dps_of {K : PySem.W.Frag} {mg : Str → Option Value} {I H : Hp} (s : Same I H) : ∀ {ps : List PV} {xs : List V} {ds : List PyData}, RepL K mg I ps xs → toDs ps = some ds → DpAll K H xs ds
  | [], _, _, r, e => by unfold toDs at e; cases e; rw [r.inv0]; exact .nil
  | p :: ps, _, _, r, e => by
    unfold toDs at e
    obtain ⟨v, t, rfl, h1, h2⟩ := r.inv
    cases w1 : toD p with
    | none => rw [w1] at e; cases e
    | some d =>
      cases w2 : toDs ps with
      | none => rw [w1, w2] at e; cases e
      | some ds =>
        rw [w1, w2] at e
        cases e
        exact .cons (dp_of s h1 w1) (dps_of s h2 w2)
end
def deq (neg : Bool) (p q : PV) : Option PV := match toD p, toD q with
  | some d, some e => if (SeqAt.shaped d && SeqAt.shaped e) = true then some (.bl (if neg then !PyData.eqv d e else PyData.eqv d e)) else none
  | _, _ => none
def seq1 (neg : Bool) : PV → PV → Option PV
  | .int i, .int j => some (.bl (if neg then !decide (i = j) else decide (i = j)))
  | .str i, .str j => some (.bl (if neg then !decide (i = j) else decide (i = j)))
  | .bl i, .bl j => some (.bl (if neg then !decide (i = j) else decide (i = j)))
  | .int _, .non => some (.bl neg)
  | .non, .int _ => some (.bl neg)
  | .str _, .non => some (.bl neg)
  | .non, .str _ => some (.bl neg)
  | .int _, .str _ => some (.bl neg)
  | .str _, .int _ => some (.bl neg)
  | _, _ => none
theorem vDeq (hu : X.A.units + 64 < cLine) : VOp X (compareOp .Eq) .fz (deq false) := by
  refine ⟨_, op_eqD hu, fun I H p q x y c Q s rp rq e r => ?_⟩
  unfold deq at e
  split at e
  · rename_i d f w1 w2
    split at e
    · rename_i z
      cases e
      rw [Bool.and_eq_true] at z
      exact ⟨d, f, dp_of s rp w1, dp_of s rq w2, z.1, z.2, r.here s rep_bl⟩
    · cases e
  · cases e
theorem vDne (hu : X.A.units + 64 < cLine) : VOp X (compareOp .NotEq) .fz (deq true) := by
  refine ⟨_, op_neD hu, fun I H p q x y c Q s rp rq e r => ?_⟩
  unfold deq at e
  split at e
  · rename_i d f w1 w2
    split at e
    · rename_i z
      cases e
      rw [Bool.and_eq_true] at z
      exact ⟨d, f, dp_of s rp w1, dp_of s rq w2, z.1, z.2, r.here s rep_bl⟩
    · cases e
  · cases e
theorem dV_int {i j : Int} : decide (V.int i = V.int j) = decide (i = j) := by simp
theorem dV_str {i j : Str} : decide (V.str i = V.str j) = decide (i = j) := by simp
theorem dV_bl {i j : Bool} : decide (V.bl i = V.bl j) = decide (i = j) := by simp
theorem vSeq : VOp X (compareOp .Eq) .fz (seq1 false) := by
  refine ⟨_, op_eq, fun I H p q x y c Q s rp rq e r => ?_⟩
  unfold seq1 at e
  split at e
  · cases e; rw [repI rp, repI rq]; exact ⟨rfl, r.here s (by rw [dV_int]; exact rep_bl)⟩
  · cases e; rw [repS rp, repS rq]; exact ⟨rfl, r.here s (by rw [dV_str]; exact rep_bl)⟩
  · cases e; rw [repB rp, repB rq]; exact ⟨rfl, r.here s (by rw [dV_bl]; exact rep_bl)⟩
  · cases e; rw [repI rp, repN rq]; exact ⟨rfl, r.here s rep_bl⟩
  · cases e; rw [repN rp, repI rq]; exact ⟨rfl, r.here s rep_bl⟩
  · cases e; rw [repS rp, repN rq]; exact ⟨rfl, r.here s rep_bl⟩
  · cases e; rw [repN rp, repS rq]; exact ⟨rfl, r.here s rep_bl⟩
  · cases e; rw [repI rp, repS rq]; exact ⟨rfl, r.here s rep_bl⟩
  · cases e; rw [repS rp, repI rq]; exact ⟨rfl, r.here s rep_bl⟩
  · cases e
theorem vSne : VOp X (compareOp .NotEq) .fz (seq1 true) := by
  refine ⟨_, op_ne, fun I H p q x y c Q s rp rq e r => ?_⟩
  unfold seq1 at e
  split at e
  · cases e; rw [repI rp, repI rq]; exact ⟨rfl, r.here s (by rw [dV_int]; exact rep_bl)⟩
  · cases e; rw [repS rp, repS rq]; exact ⟨rfl, r.here s (by rw [dV_str]; exact rep_bl)⟩
  · cases e; rw [repB rp, repB rq]; exact ⟨rfl, r.here s (by rw [dV_bl]; exact rep_bl)⟩
  · cases e; rw [repI rp, repN rq]; exact ⟨rfl, r.here s rep_bl⟩
  · cases e; rw [repN rp, repI rq]; exact ⟨rfl, r.here s rep_bl⟩
  · cases e; rw [repS rp, repN rq]; exact ⟨rfl, r.here s rep_bl⟩
  · cases e; rw [repN rp, repS rq]; exact ⟨rfl, r.here s rep_bl⟩
  · cases e; rw [repI rp, repS rq]; exact ⟨rfl, r.here s rep_bl⟩
  · cases e; rw [repS rp, repI rq]; exact ⟨rfl, r.here s rep_bl⟩
  · cases e
def gEq (neg : Bool) : PV → PV → Option PV := orO (seq1 neg) (deq neg)
theorem vEq (hu : X.A.units + 64 < cLine) : VOp X (compareOp .Eq) .fz (gEq false) := vSeq.or (vDeq hu)
theorem vNe (hu : X.A.units + 64 < cLine) : VOp X (compareOp .NotEq) .fz (gEq true) := vSne.or (vDne hu)
def isNonP : PV → Bool
  | .non => true
  | _ => false
/-- is, is not: None and bools -/
def gIs (neg : Bool) : PV → PV → Option PV
  | p, .non => some (.bl (if neg then !isNonP p else isNonP p))
  | .bl i, .bl j => some (.bl (if neg then !decide (i = j) else decide (i = j)))
  | _, _ => none
theorem rep_nonD {K : PySem.W.Frag} {mg : Str → Option Value} {I : Hp} {p : PV} {x : V} (h : Rep K mg I p x) : decide (x = .non) = isNonP p := by
  cases p <;> unfold Rep at h <;> unfold isNonP
  · rw [h]; rfl
  · rw [h]; rfl
  · rw [h]; rfl
  · rw [h]; rfl
  · rw [h]; rfl
  · obtain ⟨a, vs, e, _⟩ := h; rw [e]; rfl
  · obtain ⟨a, vs, e, _⟩ := h; rw [e]; rfl
  · obtain ⟨a, e, _⟩ := h; rw [e]; rfl
  · obtain ⟨a, vs, e, _⟩ := h; rw [e]; rfl
  · obtain ⟨a, c, dx, vs, e, _⟩ := h; rw [e]; rfl
theorem vIs : VOp X (compareOp .Is) .fz (gIs false) := by
  refine ⟨_, op_isN.or op_isBl, fun I H p q x y c Q s rp rq e r => ?_⟩
  unfold gIs at e
  split at e
  · refine .inl ⟨repN rq, ?_⟩
    rw [rep_nonD rp]
    cases e
    exact r.here s rep_bl
  · cases e
    exact .inr ⟨_, _, repB rp, repB rq, r.here s rep_bl⟩
  · cases e
theorem vIsNot : VOp X (compareOp .IsNot) .fz (gIs true) := by
  refine ⟨_, op_notN.or op_notBl, fun I H p q x y c Q s rp rq e r => ?_⟩
  unfold gIs at e
  split at e
  · refine .inl ⟨repN rq, ?_⟩
    rw [rep_nonD rp]
    cases e
    exact r.here s rep_bl
  · cases e
    exact .inr ⟨_, _, repB rp, repB rq, r.here s rep_bl⟩
  · cases e
end
end Cq

/-! text Cq5 -/
set_option Elab.async false
set_option linter.all false
set_option maxRecDepth 100000
/-! Cq, part 5: expressions. -/
namespace Cq
open PySem PySem.Spec L2

section
variable {X : Cx} {pi : Pin} {W : WX} {ms : List Md} {md : Md} {pos p1 p2 p3 : Pos}
/-! ### names, constants -/
def mVar (i : Nat) : MV := fun env => ofO env[i]? env
theorem Stt.slot {B : Bs} {I H : Hp} {ρ : Own} {σ : L2.St} {env : List PV} {i : Nat} (s : Stt X.K X.mg pi B ms env I H ρ σ) (hm : ms[i]? = some md) : ∃ p v, env[i]? = some p ∧ σ[i]? = some v ∧ Ent X.K X.mg I H ρ i md p v := by
  have l := (List.getElem?_eq_some_iff.mp hm).1
  have l1 : i < env.length := by rw [s.le]; exact l
  have l2 : i < σ.length := by rw [s.ls]; exact l
  exact ⟨env[i], σ[i], List.getElem?_eq_getElem l1, List.getElem?_eq_getElem l2, s.en i md _ _ hm (List.getElem?_eq_getElem l1) (List.getElem?_eq_getElem l2)⟩
theorem SE.var (i : Nat) {x : Str} (hm : ms[i]? = some .fz := by rfl) (hN : X.N[i]? = some x := by rfl) (hv : Vis X.env.scope x := by first | exact Or.inl rfl | exact Or.inr (Or.inl rfl) | exact Or.inr (Or.inr rfl))
    (hd : (x == ("__debug__" : Str)) = false := by decide) (hcd : (x == ("__classdict__" : Str)) = false := by decide) : SE X pi W ms (.Name x pos) .fz (mVar i) := by
  refine ⟨PEimp (pe_var hN hv hd hcd) fun σ H Q ⟨B, I, ρ, env, s, h⟩ => ?_⟩
  obtain ⟨p, v, e1, e2, e3⟩ := s.slot hm
  unfold Ent at e3
  obtain ⟨y, rfl, r⟩ := e3
  unfold mVar at h
  rw [e1] at h
  exact ⟨y, e2, h y I H ρ (fun _ => none) (.refl _) s .none (ent_fz.mpr r)⟩
def mC (p : PV) : MV := fun env => .ok (p, env)
theorem SE.const {e : Expr} {p : PV} {v : V} (pe : PE X e (tC v)) (r : ∀ I, Rep X.K X.mg I p v) : SE X pi W ms e .fz (mC p) := by
  refine ⟨PEimp pe fun σ H Q ⟨B, I, ρ, env, s, h⟩ => ?_⟩
  exact (show ∀ v J H2 ρ2 τ, Same I J → Stt X.K X.mg pi B ms env J H2 ρ2 σ → Tau B J H2 ρ2 τ → Ent X.K X.mg J H2 τ 0 .fz p (some v) → Q v H2 from h) v I H ρ (fun _ => none) (.refl _) s .none (ent_fz.mpr (r I))
theorem SE.int {i : Int} {j : Nat} : SE X pi W ms (.Constant (.int i) j pos) .fz (mC (.int i)) := .const pe_int fun _ => rep_int
theorem SE.bl {b : Bool} {j : Nat} : SE X pi W ms (.Constant (.bool b) j pos) .fz (mC (.bl b)) := .const pe_bl fun _ => rep_bl
theorem SE.non {j : Nat} : SE X pi W ms (.Constant .none j pos) .fz (mC .non) := .const pe_non fun _ => rep_non
theorem SE.str {z : Str} {j : Nat} : SE X pi W ms (.Constant (.str z) j pos) .fz (mC (.str z)) := .const pe_str fun _ => rep_str
/-- a constant of the module -/
theorem SE.glo {x : Str} {p : PV} {v : V} {u : Value} (hg : Gl X x) (hm : X.mg x = some u) (hr : RelV v u) (r : ∀ I, Rep X.K X.mg I p v) (hd : (x == ("__debug__" : Str)) = false := by decide) : SE X pi W ms (.Name x pos) .fz (mC p) :=
  .const (pe_glob hg hm hr hd) r
/-- a built-in class's name -/
theorem SE.ty {x : Str} {n : String} (hm : X.mg x = none) (hv : bootBuiltins x = some (.type n)) (hg : Gl X x := by rfl) (hn : x ≠ "__name__" := by decide) (hd : (x == ("__debug__" : Str)) = false := by decide) : SE X pi W ms (.Name x pos) .fz (mC (.ty n)) :=
  .const (pe_bltn hg hm hv (show RelV (.ty n) (.type n) from rfl) hn hd) fun _ => rep_ty

/-! ### and, or, not, if .. else -/
def mAnd (m1 m2 : MB) : MB := fun env => (m1 env).bind fun r => if r.1 = true then m2 r.2 else .ok (false, r.2)
def mOr (m1 m2 : MB) : MB := fun env => (m1 env).bind fun r => if r.1 = true then .ok (true, r.2) else m2 r.2
def mNot (m : MB) : MB := fun env => (m env).bind fun r => .ok (!r.1, r.2)
def mIf {α : Type} (c : MB) (m1 m2 : List PV → R α) : List PV → R α := fun env => (c env).bind fun r => if r.1 = true then m1 r.2 else m2 r.2
variable {e e1 e2 c : Expr} {es rest : List Expr} {m m1 m2 : MV} {b b1 b2 : MB}
theorem tT_ok {B : Bs} {I H : Hp} {ρ : Own} {σ : L2.St} {env : List PV} {Q : Bool → Hp → Prop} (s : Stt X.K X.mg pi B ms env I H ρ σ) {k : Bool × List PV → R (Bool × List PV)} {F : Bool → Hp → Prop}
    (h : ((b env).bind k).sat (fun r => ∀ J H2 ρ2, Same I J → Stt X.K X.mg pi B ms r.2 J H2 ρ2 σ → Q r.1 H2) (Fly X pi W B I σ))
    (fin : ∀ r J H2 ρ2, Same I J → Stt X.K X.mg pi B ms r.2 J H2 ρ2 σ → (k r).sat (fun r => ∀ J H2 ρ2, Same I J → Stt X.K X.mg pi B ms r.2 J H2 ρ2 σ → Q r.1 H2) (Fly X pi W B I σ) → F r.1 H2) : tT X pi W ms b σ H F :=
  ⟨B, I, ρ, env, s, R.sat_mono (R.sat_bind h) (fun r h1 J H2 ρ2 sj s2 => fin r J H2 ρ2 sj s2 h1) fun _ _ z => z⟩
theorem again {B : Bs} {I J H2 : Hp} {ρ2 : Own} {σ : L2.St} {env : List PV} {Q : Bool → Hp → Prop} (sj : Same I J) (s2 : Stt X.K X.mg pi B ms env J H2 ρ2 σ)
    (h : (b env).sat (fun r => ∀ J H2 ρ2, Same I J → Stt X.K X.mg pi B ms r.2 J H2 ρ2 σ → Q r.1 H2) (Fly X pi W B I σ)) : tT X pi W ms b σ H2 Q :=
  ⟨B, J, ρ2, env, s2, R.sat_mono h (fun r h1 L H3 ρ3 sl s3 => h1 L H3 ρ3 (sj.trans sl) s3) fun _ _ z => z.mono sj⟩
theorem againE {B : Bs} {I J H2 : Hp} {ρ2 : Own} {σ : L2.St} {env : List PV} {Q : VK} (sj : Same I J) (s2 : Stt X.K X.mg pi B ms env J H2 ρ2 σ)
    (h : (m env).sat (fun r => ∀ v J H2 ρ2 τ, Same I J → Stt X.K X.mg pi B ms r.2 J H2 ρ2 σ → Tau B J H2 ρ2 τ → Ent X.K X.mg J H2 τ 0 md r.1 (some v) → Q v H2) (Fly X pi W B I σ)) : tE X pi W ms md m σ H2 Q :=
  ⟨B, J, ρ2, env, s2, R.sat_mono h (fun r h1 v L H3 ρ3 τ sl s3 => h1 v L H3 ρ3 τ (sj.trans sl) s3) fun _ _ z => z.mono sj⟩
theorem SW.and1 (a : ST X pi W ms e b) : SW X pi W ms (.BoolOp .And [e] pos) b := ⟨pw_and1 a.pt⟩
theorem SW.or1 (a : ST X pi W ms e b) : SW X pi W ms (.BoolOp .Or [e] pos) b := ⟨pw_or1 a.pt⟩
theorem SW.and (a : ST X pi W ms e b1) (r : SW X pi W ms (.BoolOp .And (e2 :: rest) pos) b2) : SW X pi W ms (.BoolOp .And (e :: e2 :: rest) pos) (mAnd b1 b2) := by
  refine ⟨PWimp (pw_and a.pt r.pw) fun σ H Q ⟨B, I, ρ, env, s, h⟩ => ?_⟩
  refine tT_ok s h fun z J H2 ρ2 sj s2 hz => ?_
  by_cases w : z.1 = true
  · rw [if_pos w] at hz ⊢
    exact again sj s2 hz
  · rw [if_neg w] at hz ⊢
    exact hz J H2 ρ2 sj s2
theorem SW.or (a : ST X pi W ms e b1) (r : SW X pi W ms (.BoolOp .Or (e2 :: rest) pos) b2) : SW X pi W ms (.BoolOp .Or (e :: e2 :: rest) pos) (mOr b1 b2) := by
  refine ⟨PWimp (pw_or a.pt r.pw) fun σ H Q ⟨B, I, ρ, env, s, h⟩ => ?_⟩
  refine tT_ok s h fun z J H2 ρ2 sj s2 hz => ?_
  by_cases w : z.1 = true
  · rw [if_pos w] at hz ⊢
    exact hz J H2 ρ2 sj s2
  · rw [if_neg w] at hz ⊢
    exact again sj s2 hz
theorem SW.st (a : SW X pi W ms e b) : ST X pi W ms e b := ⟨a.pw.pt⟩
theorem ST.not (a : ST X pi W ms e b) : ST X pi W ms (.UnaryOp .Not e pos) (mNot b) := by
  refine ⟨PTimp (pt_not a.pt) fun σ H Q ⟨B, I, ρ, env, s, h⟩ => ?_⟩
  exact tT_ok s h fun z J H2 ρ2 sj s2 hz => hz J H2 ρ2 sj s2
/-- as values, by truth -/
def mAndV (m1 m2 : MV) : MV := fun env => (m1 env).bind fun r => match tru r.1 with
  | some true => m2 r.2
  | some false => .ok (r.1, r.2)
  | none => .bad
def mOrV (m1 m2 : MV) : MV := fun env => (m1 env).bind fun r => match tru r.1 with
  | some true => .ok (r.1, r.2)
  | some false => m2 r.2
  | none => .bad
def mNotV (m : MV) : MV := fun env => (m env).bind fun r => match tru r.1 with
  | some k => .ok (.bl !k, r.2)
  | none => .bad
theorem SE.one {op : BoolOp} (a : SE X pi W ms e .fz m) : SE X pi W ms (.BoolOp op [e] pos) .fz m := ⟨pe_one a.pe⟩
theorem SE.and (a : SE X pi W ms e .fz m1) (r : SE X pi W ms (.BoolOp .And (e2 :: rest) pos) .fz m2) : SE X pi W ms (.BoolOp .And (e :: e2 :: rest) pos) .fz (mAndV m1 m2) := by
  refine ⟨PEimp (pe_andT a.pe r.pe) fun σ H Q ⟨B, I, ρ, env, s, h⟩ => ?_⟩
  refine ⟨B, I, ρ, env, s, R.sat_mono (R.sat_bind h) (fun z hz x J H2 ρ2 τ sj s2 t2 en => ?_) fun _ _ z => z⟩
  cases w : tru z.1 with
  | none => rw [w] at hz; exact hz.elim
  | some k =>
    refine ⟨k, truV_of s2.sub (ent_fz.mp en) w, ?_⟩
    rw [w] at hz
    cases k with
    | true => rw [if_pos rfl]; exact againE sj s2 hz
    | false =>
      rw [if_neg Bool.false_ne_true]
      exact hz x J H2 ρ2 τ sj s2 t2 en
theorem SE.or (a : SE X pi W ms e .fz m1) (r : SE X pi W ms (.BoolOp .Or (e2 :: rest) pos) .fz m2) : SE X pi W ms (.BoolOp .Or (e :: e2 :: rest) pos) .fz (mOrV m1 m2) := by
  refine ⟨PEimp (pe_orT a.pe r.pe) fun σ H Q ⟨B, I, ρ, env, s, h⟩ => ?_⟩
  refine ⟨B, I, ρ, env, s, R.sat_mono (R.sat_bind h) (fun z hz x J H2 ρ2 τ sj s2 t2 en => ?_) fun _ _ z => z⟩
  cases w : tru z.1 with
  | none => rw [w] at hz; exact hz.elim
  | some k =>
    refine ⟨k, truV_of s2.sub (ent_fz.mp en) w, ?_⟩
    rw [w] at hz
    cases k with
    | false => rw [if_neg Bool.false_ne_true]; exact againE sj s2 hz
    | true =>
      rw [if_pos rfl]
      exact hz x J H2 ρ2 τ sj s2 t2 en
theorem SE.not (a : SE X pi W ms e .fz m) : SE X pi W ms (.UnaryOp .Not e pos) .fz (mNotV m) := by
  refine ⟨PEimp (pe_notT a.pe) fun σ H Q ⟨B, I, ρ, env, s, h⟩ => ?_⟩
  refine ⟨B, I, ρ, env, s, R.sat_mono (R.sat_bind h) (fun z hz x J H2 ρ2 τ sj s2 t2 en => ?_) fun _ _ z => z⟩
  cases w : tru z.1 with
  | none => rw [w] at hz; exact hz.elim
  | some k =>
    refine ⟨k, truV_of s2.sub (ent_fz.mp en) w, ?_⟩
    rw [w] at hz
    exact hz (.bl !k) J H2 ρ2 (fun _ => none) sj s2 .none (ent_fz.mpr rep_bl)
theorem SE.ite (hc : ST X pi W ms c b) (a1 : SE X pi W ms e1 md m1) (a2 : SE X pi W ms e2 md m2) : SE X pi W ms (.IfExp c e1 e2 pos) md (mIf b m1 m2) := by
  refine ⟨PEimp (pe_ifExp hc.pt a1.pe a2.pe) fun σ H Q ⟨B, I, ρ, env, s, h⟩ => ?_⟩
  refine ⟨B, I, ρ, env, s, R.sat_mono (R.sat_bind h) (fun z hz J H2 ρ2 sj s2 => ?_) fun _ _ z => z⟩
  by_cases w : z.1 = true
  · rw [if_pos w] at hz ⊢
    exact againE sj s2 hz
  · rw [if_neg w] at hz ⊢
    exact againE sj s2 hz
/-- whatever is own may be frozen -/
theorem SE.frozen (a : SE X pi W ms e md m) (hm : md ≠ .un := by decide) : SE X pi W ms e .fz m := by
  refine ⟨PEimp a.pe fun σ H Q ⟨B, I, ρ, env, s, h⟩ => ?_⟩
  refine ⟨B, I, ρ, env, s, R.sat_mono h (fun z hz x J H2 ρ2 τ sj s2 t2 en => ?_) fun _ _ z => z⟩
  obtain ⟨L, k1, k2, k3, _⟩ := freeze_result s2.sb t2 hm en
  exact hz x L H2 ρ2 (fun _ => none) (sj.trans k1) (s2.frozen_more k1 k2) .none (ent_fz.mpr k3)
/-- - e -/
def gNeg : PV → Option PV
  | .int i => some (.int (-i))
  | _ => none
def mUn (g : PV → Option PV) (m : MV) : MV := fun env => (m env).bind fun r => ofO (g r.1) r.2
theorem SE.neg (a : SE X pi W ms e .fz m) : SE X pi W ms (.UnaryOp .USub e pos) .fz (mUn gNeg m) := by
  refine ⟨PEimp (pe_un un_neg a.pe) fun σ H Q ⟨B, I, ρ, env, s, h⟩ => ?_⟩
  refine ⟨B, I, ρ, env, s, R.sat_mono (R.sat_bind h) (fun z hz x J H2 ρ2 τ sj s2 t2 en => ?_) fun _ _ z => z⟩
  obtain ⟨q, z2⟩ := z
  cases q with
  | int i => exact ⟨i, repI (ent_fz.mp en), hz _ J H2 ρ2 (fun _ => none) sj s2 .none (ent_fz.mpr rep_int)⟩
  | _ => exact (show False from hz).elim
/-- chains of comparisons -/
def mChain (g h : PV → PV → Option PV) (m1 m2 m3 : MV) : MV := fun env => (m1 env).bind fun r1 => (m2 r1.2).bind fun r2 => match g r1.1 r2.1 with
  | some (.bl true) => (m3 r2.2).bind fun r3 => ofO (h r2.1 r3.1) r3.2
  | some (.bl false) => .ok (.bl false, r2.2)
  | _ => .bad
theorem chain_core {g g' : PV → PV → Option PV} {m3 : MV} {e3 : Expr} {r r' : R2} (k : ∀ I H p q x y c Q, Same I H → Rep X.K X.mg I p x → Rep X.K X.mg I q y → g p q = some c → Ret X .fz I H c Q → r x y H Q)
    (k' : ∀ I H p q x y c Q, Same I H → Rep X.K X.mg I p x → Rep X.K X.mg I q y → g' p q = some c → Ret X .fz I H c Q → r' x y H Q)
    (a : SE X pi W ms e1 .fz m1) (b : SE X pi W ms e2 .fz m2) (c : SE X pi W ms e3 .fz m3) {B : Bs} {I H : Hp} {ρ : Own} {σ : L2.St} {env : List PV} {Q : VK} (s : Stt X.K X.mg pi B ms env I H ρ σ)
    {F : PV × List PV → Prop} (h : (mChain g g' m1 m2 m3 env).sat F (Fly X pi W B I σ))
    (fin : ∀ z v J H2 ρ2, F z → Same I J → Stt X.K X.mg pi B ms z.2 J H2 ρ2 σ → Rep X.K X.mg J z.1 v → Q v H2) : tChain r r' (tE X pi W ms .fz m1) (tE X pi W ms .fz m2) (tE X pi W ms .fz m3) σ H Q := by
  refine ⟨B, I, ρ, env, s, R.sat_mono (R.sat_bind h) (fun z1 h1 x J H1 ρ1 τ sj s1 _ en1 => ?_) fun _ _ z => z⟩
  refine ⟨B, J, ρ1, z1.2, s1, R.sat_mono (R.sat_bind h1) (fun z2 h2 y L H2 ρ2 τ2 sl s2 _ en2 => ?_) fun _ _ z => z.mono sj⟩
  cases w : g z1.1 z2.1 with
  | none => rw [w] at h2; exact h2.elim
  | some cc =>
    rw [w] at h2
    refine k L H2 _ _ x y cc _ s2.sub ((ent_fz.mp en1).mono sl) (ent_fz.mp en2) w (Ret.of_state s2 fun v N H3 ρ3 τ3 sn s3 _ en3 => ?_)
    have rc := ent_fz.mp en3
    have sjn := (sj.trans sl).trans sn
    cases cc with
    | bl bb =>
      refine ⟨bb, repB rc, ?_⟩
      cases bb with
      | true =>
        rw [if_pos rfl]
        refine ⟨B, N, ρ3, z2.2, s3, R.sat_mono (R.sat_bind h2) (fun z3 h3 u O H4 ρ4 τ4 so s4 _ en4 => ?_) fun _ _ z => z.mono sjn⟩
        cases w3 : g' z2.1 z3.1 with
        | none => rw [w3] at h3; exact h3.elim
        | some dd =>
          rw [w3] at h3
          exact k' O H4 _ _ y u dd Q s4.sub ((ent_fz.mp en2).mono (sn.trans so)) (ent_fz.mp en4) w3 (Ret.of_state s4 fun v5 P5 H5 ρ5 τ5 sp s5 _ en5 => fin (dd, z3.2) v5 P5 H5 ρ5 h3 ((sjn.trans so).trans sp) s5 (ent_fz.mp en5))
      | false =>
        rw [if_neg Bool.false_ne_true]
        exact fin (.bl false, z2.2) _ N H3 ρ3 h2 sjn s3 rep_bl
    | _ => exact (show False from h2).elim
theorem SE.chain {op op' : CmpOp} {g g' : PV → PV → Option PV} {m3 : MV} {e3 : Expr} (o : VOp X (compareOp op) .fz g) (o' : VOp X (compareOp op') .fz g') (a : SE X pi W ms e1 .fz m1) (b : SE X pi W ms e2 .fz m2) (c : SE X pi W ms e3 .fz m3)
    (hm : lastMarks [op, op'] [e2, e3] = false := by with_unfolding_all rfl) : SE X pi W ms (.Compare e1 [op, op'] [e2, e3] pos) .fz (mChain g g' m1 m2 m3) := by
  obtain ⟨r, ho, k⟩ := o.ex
  obtain ⟨r', ho', k'⟩ := o'.ex
  refine ⟨PEimp (pe_chain ho ho' a.pe b.pe c.pe hm) fun σ H Q ⟨B, I, ρ, env, s, h⟩ => ?_⟩
  exact chain_core k k' a b c s h fun z v J H2 ρ2 hz sj s2 rz => hz v J H2 ρ2 (fun _ => none) sj s2 .none (ent_fz.mpr rz)
theorem ST.chain {op op' : CmpOp} {g g' : PV → PV → Option PV} {m3 : MV} {e3 : Expr} (o : VOp X (compareOp op) .fz g) (o' : VOp X (compareOp op') .fz g') (a : SE X pi W ms e1 .fz m1) (b : SE X pi W ms e2 .fz m2) (c : SE X pi W ms e3 .fz m3)
    (hm : lastMarks [op, op'] [e2, e3] = false := by with_unfolding_all rfl) : ST X pi W ms (.Compare e1 [op, op'] [e2, e3] pos) (mIsB (mChain g g' m1 m2 m3)) := by
  obtain ⟨r, ho, k⟩ := o.ex
  obtain ⟨r', ho', k'⟩ := o'.ex
  refine ⟨PTimp (pt_chain ho ho' a.pe b.pe c.pe hm) fun σ H Q ⟨B, I, ρ, env, s, h⟩ => ?_⟩
  refine chain_core k k' a b c s (R.sat_bind h) fun z v J H2 ρ2 hz sj s2 rz => ?_
  obtain ⟨q, z2⟩ := z
  cases q with
  | bl bb => exact ⟨bb, repB rz, (show ∀ J H2 ρ2, Same I J → Stt X.K X.mg pi B ms z2 J H2 ρ2 σ → Q bb H2 from hz) J H2 ρ2 sj s2⟩
  | _ => exact (show False from hz).elim

/-! ### argument lists, displays -/
def mNil : MA := fun env => .ok ([], env)
def mCons (m : MV) (a : MA) : MA := fun env => (m env).bind fun r => (a r.2).bind fun r2 => .ok (r.1 :: r2.1, r2.2)
theorem SA.nil : SA X pi W ms [] mNil := by
  refine ⟨PAimp pa_nil fun σ H Q ⟨B, I, ρ, env, s, h⟩ => ?_⟩
  exact (show ∀ vs J H2 ρ2, Same I J → Stt X.K X.mg pi B ms env J H2 ρ2 σ → RepL X.K X.mg J [] vs → Q vs H2 from h) [] I H ρ (.refl _) s .nil
theorem SA.cons {a : MA} (h1 : SE X pi W ms e .fz m) (h2 : SA X pi W ms es a) (hs : starEach (e :: es) X.env = (false, eval e X.env) :: starEach es X.env := by rfl) : SA X pi W ms (e :: es) (mCons m a) := by
  refine ⟨PAimp (pa_cons h1.pe h2.pa hs) fun σ H Q ⟨B, I, ρ, env, s, h⟩ => ?_⟩
  refine ⟨B, I, ρ, env, s, R.sat_mono (R.sat_bind h) (fun z hz x J H1 ρ1 τ sj s1 _ en => ?_) fun _ _ z => z⟩
  refine ⟨B, J, ρ1, z.2, s1, R.sat_mono (R.sat_bind hz) (fun z2 hz2 vs L H2 ρ2 sl s2 rl => ?_) fun _ _ z => z.mono sj⟩
  exact (show ∀ vs J H2 ρ2, Same I J → Stt X.K X.mg pi B ms z2.2 J H2 ρ2 σ → RepL X.K X.mg J (z.1 :: z2.1) vs → Q vs H2 from hz2) (x :: vs) L H2 ρ2 (sj.trans sl) s2 (.cons ((ent_fz.mp en).mono sl) rl)
/-- values from an argument list -/
def mArgs (g : List PV → Option PV) (a : MA) : MV := fun env => (a env).bind fun r => ofO (g r.1) r.2
theorem args_core {a : MA} {g : List PV → Option PV} {r : List V → Hp → VK → Prop} {B : Bs} {I H : Hp} {ρ : Own} {σ : L2.St} {env : List PV} {Q : VK} (s : Stt X.K X.mg pi B ms env I H ρ σ)
    (k : ∀ I H ps vs c Q, Same I H → RepL X.K X.mg I ps vs → g ps = some c → Ret X md I H c Q → r vs H Q)
    (h : (mArgs g a env).sat (fun z => ∀ v J H2 ρ2 τ, Same I J → Stt X.K X.mg pi B ms z.2 J H2 ρ2 σ → Tau B J H2 ρ2 τ → Ent X.K X.mg J H2 τ 0 md z.1 (some v) → Q v H2) (Fly X pi W B I σ)) :
    tA X pi W ms a σ H fun vs H1 => r vs H1 Q := by
  refine ⟨B, I, ρ, env, s, R.sat_mono (R.sat_bind h) (fun z hz vs J H1 ρ1 sj s1 rl => ?_) fun _ _ z => z⟩
  cases w : g z.1 with
  | none => rw [w] at hz; exact hz.elim
  | some cc =>
    rw [w] at hz
    exact k J H1 z.1 vs cc Q s1.sub rl w (Ret.of_state s1 fun v L H3 ρ3 τ sl s3 t3 e3 => hz v L H3 ρ3 τ (sj.trans sl) s3 t3 e3)
def gTupD (ps : List PV) : Option PV := if ps.length ≤ sizeLine then some (.tup ps) else none
def gLstD (ps : List PV) : Option PV := if ps.length ≤ sizeLine then some (.lst ps) else none
theorem SE.tup {a : MA} {k : Nat} (h : SA X pi W ms es a) : SE X pi W ms (.Tuple es k pos) .fz (mArgs gTupD a) := by
  refine ⟨PEimp (pe_tup h.pa) fun σ H Q ⟨B, I, ρ, env, s, h⟩ => ?_⟩
  refine args_core (r := fun xs H1 Q => xs.length ≤ sizeLine ∧ ∀ p, H1 p = none → Q (.ref p) (upd H1 p (.tup xs))) s (fun I H ps vs c Q si rl e r => ?_) h
  unfold gTupD at e
  split at e
  · rename_i w
    cases e
    exact ⟨by rw [rl.len]; exact w, fun u hu => r.newTup si hu rl⟩
  · cases e
theorem SE.lst {a : MA} (h : SA X pi W ms es a) : SE X pi W ms (.List es pos) .ow (mArgs gLstD a) := by
  refine ⟨PEimp (pe_lst h.pa) fun σ H Q ⟨B, I, ρ, env, s, h⟩ => ?_⟩
  refine args_core (r := fun xs H1 Q => xs.length ≤ sizeLine ∧ ∀ p, H1 p = none → Q (.ref p) (upd H1 p (.lst xs))) s (fun I H ps vs c Q si rl e r => ?_) h
  unfold gLstD at e
  split at e
  · rename_i w
    cases e
    exact ⟨by rw [rl.len]; exact w, fun u hu => r.own si hu rl⟩
  · cases e

/-! ### calls of built-in functions and classes -/
structure VCall (X : Cx) (f : Value) (md : Md) (g : List PV → Option PV) : Prop where
  ex : ∃ r : List V → Hp → VK → Prop, CallR X f r ∧ ∀ I H ps vs c Q, Same I H → RepL X.K X.mg I ps vs → g ps = some c → Ret X md I H c Q → r vs H Q
def orA (g h : List PV → Option PV) : List PV → Option PV := fun ps => match g ps with
  | some c => some c
  | none => h ps
theorem VCall.or {f : Value} {g h : List PV → Option PV} (a : VCall X f md g) (b : VCall X f md h) : VCall X f md (orA g h) := by
  obtain ⟨r1, o1, k1⟩ := a.ex
  obtain ⟨r2, o2, k2⟩ := b.ex
  refine ⟨_, o1.or o2, fun I H ps vs c Q s rl e r => ?_⟩
  unfold orA at e
  cases w : g ps with
  | some d =>
    rw [w] at e
    cases e
    exact .inl (k1 I H ps vs _ Q s rl w r)
  | none =>
    rw [w] at e
    exact .inr (k2 I H ps vs c Q s rl e r)
theorem SE.callB {x : Str} {id : String} {g : List PV → Option PV} {a : MA} (c : VCall X (.builtin id) md g) (hm : X.mg x = none) (hv : bootBuiltins x = some (.builtin id)) (h : SA X pi W ms (e :: es) a) (hg : Gl X x := by rfl) (hn : x ≠ "__name__" := by decide) (hd : (x == ("__debug__" : Str)) = false := by decide)
    (he : starEach (e :: es) X.env = (false, eval e X.env) :: starEach es X.env := by rfl) (hl : (backTo pos (starEach es X.env)).any (·.1) = false := by rfl) : SE X pi W ms (.Call (.Name x p1) (e :: es) [] pos) md (mArgs g a) := by
  obtain ⟨r, o, k⟩ := c.ex
  exact ⟨PEimp (pe_callB o hg hm hv h.pa hn hd he hl) fun σ H Q ⟨B, I, ρ, env, s, h⟩ => args_core s k h⟩
theorem SE.callT {x : Str} {T : String} {g : List PV → Option PV} {a : MA} (c : VCall X (.type T) md g) (hm : X.mg x = none) (hv : bootBuiltins x = some (.type T)) (h : SA X pi W ms (e :: es) a) (hg : Gl X x := by rfl) (hn : x ≠ "__name__" := by decide) (hd : (x == ("__debug__" : Str)) = false := by decide)
    (he : starEach (e :: es) X.env = (false, eval e X.env) :: starEach es X.env := by rfl) (hl : (backTo pos (starEach es X.env)).any (·.1) = false := by rfl) : SE X pi W ms (.Call (.Name x p1) (e :: es) [] pos) md (mArgs g a) := by
  obtain ⟨r, o, k⟩ := c.ex
  exact ⟨PEimp (pe_callTy o hg hm hv h.pa hn hd he hl) fun σ H Q ⟨B, I, ρ, env, s, h⟩ => args_core s k h⟩
theorem SE.callBf {x : Str} {id : String} {g : List PV → Option PV} {a : MA} (c : VCall X (.builtin id) md g) (hm : X.mg x = some (.builtin id)) (h : SA X pi W ms (e :: es) a) (hg : Gl X x := by rfl) (hd : (x == ("__debug__" : Str)) = false := by decide)
    (he : starEach (e :: es) X.env = (false, eval e X.env) :: starEach es X.env := by rfl) (hl : (backTo pos (starEach es X.env)).any (·.1) = false := by rfl) : SE X pi W ms (.Call (.Name x p1) (e :: es) [] pos) md (mArgs g a) := by
  obtain ⟨r, o, k⟩ := c.ex
  exact ⟨PEimp (pe_callBfun o hg hm h.pa hd he hl) fun σ H Q ⟨B, I, ρ, env, s, h⟩ => args_core s k h⟩
end
end Cq

/-! text Cq6 -/
set_option Elab.async false
set_option linter.all false
set_option maxRecDepth 100000
/-! Cq, part 6: what the built-in functions give; subscripts, slices. -/
namespace Cq
open PySem PySem.Spec L2

def toInts : List PV → Option (List Int)
  | [] => some []
  | .int i :: ps => (toInts ps).map (i :: ·)
  | _ => none
def toBls : List PV → Option (List Bool)
  | [] => some []
  | .bl i :: ps => (toBls ps).map (i :: ·)
  | _ => none
theorem toInts_eq : ∀ {ps : List PV} {ns : List Int}, toInts ps = some ns → ps = ns.map PV.int
  | [], ns, e => by unfold toInts at e; cases e; rfl
  | p :: ps, ns, e => by
    cases p with
    | int i =>
      unfold toInts at e
      cases w : toInts ps with
      | none => rw [w] at e; cases e
      | some ms =>
        rw [w] at e
        cases e
        rw [toInts_eq w]
        rfl
    | _ => unfold toInts at e; cases e
theorem toInts_map : ∀ ns : List Int, toInts (ns.map PV.int) = some ns
  | [] => rfl
  | n :: ns => by
    rw [List.map_cons]
    unfold toInts
    rw [toInts_map ns]
    rfl
theorem toBls_eq : ∀ {ps : List PV} {ns : List Bool}, toBls ps = some ns → ps = ns.map PV.bl
  | [], ns, e => by unfold toBls at e; cases e; rfl
  | p :: ps, ns, e => by
    cases p with
    | bl i =>
      unfold toBls at e
      cases w : toBls ps with
      | none => rw [w] at e; cases e
      | some ms =>
        rw [w] at e
        cases e
        rw [toBls_eq w]
        rfl
    | _ => unfold toBls at e; cases e
theorem toBls_map : ∀ ns : List Bool, toBls (ns.map PV.bl) = some ns
  | [] => rfl
  | n :: ns => by
    rw [List.map_cons]
    unfold toBls
    rw [toBls_map ns]
    rfl
/-- the greatest, the least of a list -/
def maxI : List Int → Int
  | [] => 0
  | [x] => x
  | x :: y :: r => max x (maxI (y :: r))
def minI : List Int → Int
  | [] => 0
  | [x] => x
  | x :: y :: r => min x (minI (y :: r))
theorem maxI_spec : ∀ {ns : List Int}, ns ≠ [] → maxI ns ∈ ns ∧ ∀ y ∈ ns, y ≤ maxI ns
  | [x], _ => ⟨by simp [maxI], fun y hy => by simp at hy; simp [maxI, hy]⟩
  | x :: y :: r, _ => by
    obtain ⟨h1, h2⟩ := maxI_spec (ns := y :: r) (by simp)
    unfold maxI
    refine ⟨?_, fun z hz => ?_⟩
    · rcases Int.le_total x (maxI (y :: r)) with w | w
      · rw [Int.max_eq_right w]; exact List.mem_cons_of_mem _ h1
      · rw [Int.max_eq_left w]; exact List.mem_cons_self
    · rcases List.mem_cons.mp hz with w | w
      · subst w; exact Int.le_max_left _ _
      · exact Int.le_trans (h2 z w) (Int.le_max_right _ _)
theorem minI_spec : ∀ {ns : List Int}, ns ≠ [] → minI ns ∈ ns ∧ ∀ y ∈ ns, minI ns ≤ y
  | [x], _ => ⟨by simp [minI], fun y hy => by simp at hy; simp [minI, hy]⟩
  | x :: y :: r, _ => by
    obtain ⟨h1, h2⟩ := minI_spec (ns := y :: r) (by simp)
    unfold minI
    refine ⟨?_, fun z hz => ?_⟩
    · rcases Int.le_total x (minI (y :: r)) with w | w
      · rw [Int.min_eq_left w]; exact List.mem_cons_self
      · rw [Int.min_eq_right w]; exact List.mem_cons_of_mem _ h1
    · rcases List.mem_cons.mp hz with w | w
      · subst w; exact Int.min_le_left _ _
      · exact Int.le_trans (Int.min_le_right _ _) (h2 z w)
/-- sorted by inserting -/
def insI (x : Int) : List Int → List Int
  | [] => [x]
  | y :: r => if x ≤ y then x :: y :: r else y :: insI x r
def sortI : List Int → List Int
  | [] => []
  | x :: r => insI x (sortI r)
theorem insI_perm (x : Int) : ∀ r : List Int, (insI x r).Perm (x :: r)
  | [] => .refl _
  | y :: r => by
    unfold insI
    split
    · exact .refl _
    · exact ((insI_perm x r).cons y).trans (.swap x y r)
theorem sortI_perm : ∀ r : List Int, (sortI r).Perm r
  | [] => .refl _
  | x :: r => (insI_perm x (sortI r)).trans ((sortI_perm r).cons x)
theorem insI_sorted (x : Int) : ∀ {r : List Int}, r.Pairwise (· ≤ ·) → (insI x r).Pairwise (· ≤ ·)
  | [], _ => by simp [insI]
  | y :: r, h => by
    rw [List.pairwise_cons] at h
    unfold insI
    split
    · rename_i w
      refine List.pairwise_cons.mpr ⟨fun z hz => ?_, List.pairwise_cons.mpr h⟩
      rcases List.mem_cons.mp hz with q | q
      · subst q; exact w
      · exact Int.le_trans w (h.1 z q)
    · rename_i w
      refine List.pairwise_cons.mpr ⟨fun z hz => ?_, insI_sorted x h.2⟩
      rcases List.mem_cons.mp ((insI_perm x r).mem_iff.mp hz) with q | q
      · subst q; omega
      · exact h.1 z q
theorem sortI_sorted : ∀ r : List Int, (sortI r).Pairwise (· ≤ ·)
  | [] => .nil
  | x :: r => insI_sorted x (sortI_sorted r)

section
variable {X : Cx} {md : Md}
theorem scr_seq {I H : Hp} {ns : List Int} {x : V} (s : Same I H) (h : Rep X.K X.mg I (.scr ns) x) : ∃ a, x = .ref a ∧ SqL X.K H a (ns.map V.int) := by
  unfold Rep at h
  obtain ⟨a, e, q⟩ := h
  exact ⟨a, e, s.seq q⟩
/-! ### one argument -/
theorem one_arg {I H : Hp} {p : PV} {vs : List V} (h : RepL X.K X.mg I [p] vs) : ∃ v, vs = [v] ∧ Rep X.K X.mg I p v := by
  obtain ⟨v, r, rfl, a, b⟩ := h.inv
  rw [b.inv0]
  exact ⟨v, rfl, a⟩
theorem two_arg {I H : Hp} {p q : PV} {vs : List V} (h : RepL X.K X.mg I [p, q] vs) : ∃ v u, vs = [v, u] ∧ Rep X.K X.mg I p v ∧ Rep X.K X.mg I q u := by
  obtain ⟨v, r, rfl, a, b⟩ := h.inv
  obtain ⟨u, r, rfl, a2, b2⟩ := b.inv
  rw [b2.inv0]
  exact ⟨v, u, rfl, a, a2⟩
def gLen : List PV → Option PV
  | [.lst ps] => some (.int (ps.length : Nat))
  | [.tup ps] => some (.int (ps.length : Nat))
  | [.scr ps] => some (.int (ps.length : Nat))
  | [.str z] => if z.length ≤ sizeLine then some (.int (z.length : Nat)) else none
  | _ => none
theorem vLen : VCall X (.builtin "len") .fz gLen := by
  refine ⟨_, call_len, fun I H ps vs c Q s rl e r => ?_⟩
  unfold gLen at e
  split at e
  · cases e
    obtain ⟨v, rfl, h⟩ := one_arg (H := H) rl
    obtain ⟨a, ws, rfl, h1, h2⟩ := repL h
    exact ⟨_, _, rfl, .inl ⟨ws, SqL.of (s _ _ h1), h2.len.symm⟩, r.here s rep_int⟩
  · cases e
    obtain ⟨v, rfl, h⟩ := one_arg (H := H) rl
    obtain ⟨a, ws, rfl, h1, h2⟩ := repT h
    exact ⟨_, _, rfl, .inr ⟨ws, sqt_mono s h1, h2.len.symm⟩, r.here s rep_int⟩
  · cases e
    obtain ⟨v, rfl, h⟩ := one_arg (H := H) rl
    obtain ⟨a, rfl, h1⟩ := scr_seq s h
    exact ⟨_, _, rfl, .inl ⟨_, h1, by rw [List.length_map]⟩, r.here s rep_int⟩
  · split at e
    · rename_i w
      cases e
      obtain ⟨v, rfl, h⟩ := one_arg (H := H) rl
      rw [repS h]
      exact ⟨_, _, rfl, ⟨w, rfl⟩, r.here s rep_int⟩
    · cases e
  · cases e
def gAbs : List PV → Option PV
  | [.int i] => some (.int (if i < 0 then -i else i))
  | _ => none
theorem vAbs : VCall X (.builtin "abs") .fz gAbs := by
  refine ⟨_, call_abs, fun I H ps vs c Q s rl e r => ?_⟩
  unfold gAbs at e
  split at e
  · cases e
    obtain ⟨v, rfl, h⟩ := one_arg (H := H) rl
    rw [repI h]
    exact ⟨_, rfl, r.here s rep_int⟩
  · cases e
def gInt : List PV → Option PV
  | [.int i] => some (.int i)
  | [.bl b] => some (.int (if b then 1 else 0))
  | _ => none
theorem vInt : VCall X (.type "int") .fz gInt := by
  refine ⟨_, call_int1, fun I H ps vs c Q s rl e r => ?_⟩
  unfold gInt at e
  split at e
  · cases e
    obtain ⟨v, rfl, h⟩ := one_arg (H := H) rl
    rw [repI h]
    exact .inl ⟨_, rfl, r.here s rep_int⟩
  · cases e
    obtain ⟨v, rfl, h⟩ := one_arg (H := H) rl
    rw [repB h]
    exact .inr ⟨_, rfl, r.here s rep_int⟩
  · cases e
def gMax2 : List PV → Option PV
  | [.int i, .int j] => some (.int (if j > i then j else i))
  | _ => none
def gMin2 : List PV → Option PV
  | [.int i, .int j] => some (.int (if j < i then j else i))
  | _ => none
theorem vMax2 (hc : X.calm = true) : VCall X (.builtin "max") .fz gMax2 := by
  refine ⟨_, call_max2 hc, fun I H ps vs c Q s rl e r => ?_⟩
  unfold gMax2 at e
  split at e
  · cases e
    obtain ⟨v, u, rfl, h1, h2⟩ := two_arg (H := H) rl
    rw [repI h1, repI h2]
    exact ⟨_, _, rfl, r.here s rep_int⟩
  · cases e
theorem vMin2 (hc : X.calm = true) : VCall X (.builtin "min") .fz gMin2 := by
  refine ⟨_, call_min2 hc, fun I H ps vs c Q s rl e r => ?_⟩
  unfold gMin2 at e
  split at e
  · cases e
    obtain ⟨v, u, rfl, h1, h2⟩ := two_arg (H := H) rl
    rw [repI h1, repI h2]
    exact ⟨_, _, rfl, r.here s rep_int⟩
  · cases e
/-- a list of ints as an argument -/
def intsOf : List PV → Option (List Int)
  | [.lst ps] => toInts ps
  | [.scr ns] => some ns
  | _ => none
theorem intsOf_rep {I H : Hp} {ps : List PV} {ns : List Int} {vs : List V} (s : Same I H) (rl : RepL X.K X.mg I ps vs) (e : intsOf ps = some ns) : ∃ a, vs = [V.ref a] ∧ SqL X.K H a (ns.map V.int) := by
  unfold intsOf at e
  split at e
  · obtain ⟨v, rfl, h⟩ := one_arg (H := H) rl
    obtain ⟨a, ws, rfl, h1, h2⟩ := repL h
    rw [toInts_eq e] at h2
    rw [h2.ints_inv] at h1
    exact ⟨a, rfl, SqL.of (s _ _ h1)⟩
  · cases e
    obtain ⟨v, rfl, h⟩ := one_arg (H := H) rl
    obtain ⟨a, rfl, h1⟩ := scr_seq s h
    exact ⟨a, rfl, h1⟩
  · cases e
def gMaxL (ps : List PV) : Option PV := match intsOf ps with
  | some (n :: ns) => some (.int (maxI (n :: ns)))
  | _ => none
def gMinL (ps : List PV) : Option PV := match intsOf ps with
  | some (n :: ns) => some (.int (minI (n :: ns)))
  | _ => none
def gSum (ps : List PV) : Option PV := match intsOf ps with
  | some ns => some (.int ns.sum)
  | _ => none
def gSortI (ps : List PV) : Option PV := match intsOf ps with
  | some ns => some (.lst ((sortI ns).map PV.int))
  | _ => none
theorem vMaxL (hc : X.calm = true) : VCall X (.builtin "max") .fz gMaxL := by
  refine ⟨_, cr_max hc, fun I H ps vs c Q s rl e r => ?_⟩
  unfold gMaxL at e
  split at e
  · rename_i n ns w
    cases e
    obtain ⟨a, rfl, h⟩ := intsOf_rep s rl w
    refine ⟨a, _, rfl, h, by simp, fun m h1 h2 => ?_⟩
    obtain ⟨k1, k2⟩ := maxI_spec (ns := n :: ns) (by simp)
    have : m = maxI (n :: ns) := Int.le_antisymm (k2 m h1) (h2 _ k1)
    rw [this]
    exact r.here s rep_int
  · cases e
theorem vMinL (hc : X.calm = true) : VCall X (.builtin "min") .fz gMinL := by
  refine ⟨_, cr_min hc, fun I H ps vs c Q s rl e r => ?_⟩
  unfold gMinL at e
  split at e
  · rename_i n ns w
    cases e
    obtain ⟨a, rfl, h⟩ := intsOf_rep s rl w
    refine ⟨a, _, rfl, h, by simp, fun m h1 h2 => ?_⟩
    obtain ⟨k1, k2⟩ := minI_spec (ns := n :: ns) (by simp)
    have : m = minI (n :: ns) := Int.le_antisymm (h2 _ k1) (k2 m h1)
    rw [this]
    exact r.here s rep_int
  · cases e
def gMax : List PV → Option PV := orA gMax2 gMaxL
def gMin : List PV → Option PV := orA gMin2 gMinL
theorem vMax (hc : X.calm = true) : VCall X (.builtin "max") .fz gMax := (vMax2 hc).or (vMaxL hc)
theorem vMin (hc : X.calm = true) : VCall X (.builtin "min") .fz gMin := (vMin2 hc).or (vMinL hc)
theorem vSum (hc : X.calm = true) : VCall X (.builtin "sum") .fz gSum := by
  refine ⟨_, cr_sum hc, fun I H ps vs c Q s rl e r => ?_⟩
  unfold gSum at e
  split at e
  · rename_i ns w
    cases e
    obtain ⟨a, rfl, h⟩ := intsOf_rep s rl w
    exact ⟨a, _, rfl, h, r.here s rep_int⟩
  · cases e
theorem vSortI : VCall X (.builtin "sorted") .ow gSortI := by
  refine ⟨_, cr_sortedI, fun I H ps vs c Q s rl e r => ?_⟩
  unfold gSortI at e
  split at e
  · rename_i ns w
    cases e
    obtain ⟨a, rfl, h⟩ := intsOf_rep s rl w
    refine ⟨a, _, rfl, h, fun ns2 u h1 h2 hu => ?_⟩
    have : ns2 = sortI ns := PySem.W.ksm_same (h1.trans (sortI_perm ns).symm) h2 (sortI_sorted ns)
    rw [this]
    exact r.own s hu (RepL.ints _)
  · cases e
def gAll : List PV → Option PV
  | [.lst ps] => (toBls ps).map fun bs => .bl (bs.all id)
  | _ => none
def gAny : List PV → Option PV
  | [.lst ps] => (toBls ps).map fun bs => .bl (bs.any id)
  | _ => none
theorem vAll (hc : X.calm = true) : VCall X (.builtin "all") .fz gAll := by
  refine ⟨_, cr_all hc, fun I H ps vs c Q s rl e r => ?_⟩
  unfold gAll at e
  split at e
  · rename_i qs
    cases w : toBls qs with
    | none => rw [w] at e; cases e
    | some bs =>
      rw [w] at e
      cases e
      obtain ⟨v, rfl, h⟩ := one_arg (H := H) rl
      obtain ⟨a, ws, rfl, h1, h2⟩ := repL h
      rw [toBls_eq w] at h2
      rw [h2.bls_inv] at h1
      exact ⟨a, bs, rfl, SqL.of (s _ _ h1), r.here s rep_bl⟩
  · cases e
theorem vAny (hc : X.calm = true) : VCall X (.builtin "any") .fz gAny := by
  refine ⟨_, cr_any hc, fun I H ps vs c Q s rl e r => ?_⟩
  unfold gAny at e
  split at e
  · rename_i qs
    cases w : toBls qs with
    | none => rw [w] at e; cases e
    | some bs =>
      rw [w] at e
      cases e
      obtain ⟨v, rfl, h⟩ := one_arg (H := H) rl
      obtain ⟨a, ws, rfl, h1, h2⟩ := repL h
      rw [toBls_eq w] at h2
      rw [h2.bls_inv] at h1
      exact ⟨a, bs, rfl, SqL.of (s _ _ h1), r.here s rep_bl⟩
  · cases e
def gList : List PV → Option PV
  | [.lst ps] => some (.lst ps)
  | [.tup ps] => some (.lst ps)
  | [.scr ns] => some (.lst (ns.map PV.int))
  | _ => none
theorem vList : VCall X (.type "list") .ow gList := by
  refine ⟨_, call_list_of, fun I H ps vs c Q s rl e r => ?_⟩
  unfold gList at e
  split at e
  · cases e
    obtain ⟨v, rfl, h⟩ := one_arg (H := H) rl
    obtain ⟨a, ws, rfl, h1, h2⟩ := repL h
    exact ⟨a, ws, rfl, .inl (SqL.of (s _ _ h1)), fun u hu => r.own s hu h2⟩
  · cases e
    obtain ⟨v, rfl, h⟩ := one_arg (H := H) rl
    obtain ⟨a, ws, rfl, h1, h2⟩ := repT h
    exact ⟨a, ws, rfl, .inr (sqt_mono s h1), fun u hu => r.own s hu h2⟩
  · cases e
    obtain ⟨v, rfl, h⟩ := one_arg (H := H) rl
    obtain ⟨a, rfl, h1⟩ := scr_seq s h
    exact ⟨a, _, rfl, .inl h1, fun u hu => r.own s hu (RepL.ints _)⟩
  · cases e
def gTuple : List PV → Option PV
  | [.lst ps] => some (.tup ps)
  | [.tup ps] => some (.tup ps)
  | _ => none
theorem vTuple : VCall X (.type "tuple") .fz gTuple := by
  refine ⟨_, call_tuple_of, fun I H ps vs c Q s rl e r => ?_⟩
  unfold gTuple at e
  split at e
  · cases e
    obtain ⟨v, rfl, h⟩ := one_arg (H := H) rl
    obtain ⟨a, ws, rfl, h1, h2⟩ := repL h
    exact ⟨a, ws, rfl, .inl ⟨SqL.of (s _ _ h1), fun u hu => r.newTup s hu h2⟩⟩
  · cases e
    obtain ⟨v, rfl, h⟩ := one_arg (H := H) rl
    obtain ⟨a, ws, rfl, h1, h2⟩ := repT h
    exact ⟨a, ws, rfl, .inr ⟨sqt_mono s h1, r.here s (rep_tup h1 h2)⟩⟩
  · cases e
def gGcd : List PV → Option PV
  | [.int a, .int b] => some (.int ((Nat.gcd a.natAbs b.natAbs : Nat) : Int))
  | _ => none
theorem vGcd : VCall X (.builtin "math.gcd") .fz gGcd := by
  refine ⟨_, cr_gcd, fun I H ps vs c Q s rl e r => ?_⟩
  unfold gGcd at e
  split at e
  · cases e
    obtain ⟨v, u, rfl, h1, h2⟩ := two_arg (H := H) rl
    rw [repI h1, repI h2]
    exact ⟨_, _, rfl, r.here s rep_int⟩
  · cases e
/-! ### isinstance of built-in classes -/
def tyN : PV → Option String
  | .non => some "NoneType"
  | .bl _ => some "bool"
  | .int _ => some "int"
  | .str _ => some "str"
  | .lst _ => some "list"
  | .tup _ => some "tuple"
  | .dic _ => some "dict"
  | _ => none
def kinds : List String := ["NoneType", "bool", "int", "str", "list", "tuple", "dict"]
def isKind (a b : String) : Bool := a == b || (a == "bool" && b == "int")
theorem kinds_ok : (kinds.all fun a => kinds.all fun b => kitB a b == some (isKind a b)) = true := by decide +kernel
theorem kind_ok {a b : String} (ha : a ∈ kinds) (hb : b ∈ kinds) : kitB a b = some (isKind a b) := by
  have h := List.all_eq_true.mp kinds_ok a ha
  have h2 := List.all_eq_true.mp h b hb
  simpa using h2
theorem tyN_ok {I H : Hp} {p : PV} {x : V} {n : String} (s : Same I H) (h : Rep X.K X.mg I p x) (e : tyN p = some n) : TyX X.K H x (.type n) ∧ n ∈ kinds := by
  cases p with
  | non => cases e; rw [repN h]; exact ⟨.base .non, by decide⟩
  | bl b => cases e; rw [repB h]; exact ⟨.base (.bl _), by decide⟩
  | int b => cases e; rw [repI h]; exact ⟨.base (.int _), by decide⟩
  | str b => cases e; rw [repS h]; exact ⟨.base (.str _), by decide⟩
  | lst b =>
    cases e
    obtain ⟨a, ws, rfl, h1, h2⟩ := repL h
    exact ⟨.base (.lst (s _ _ h1)), by decide⟩
  | tup b =>
    cases e
    obtain ⟨a, ws, rfl, h1, h2⟩ := repT h
    refine ⟨?_, by decide⟩
    rcases h1 with (h1 | ⟨o, h1⟩) | ⟨o, its, n, h1, h3, _⟩
    · exact .base (.tup (s _ _ h1))
    · exact .fTuple (s _ _ h1)
    · exact .kTuple h1 h3
  | dic b =>
    cases e
    unfold Rep at h
    obtain ⟨a, ws, rfl, h1, h2⟩ := h
    exact ⟨.base (.dK (s _ _ h1)), by decide⟩
  | _ => cases e
def gIsi : List PV → Option PV
  | [p, .ty n] => match tyN p with
    | some k => if kinds.contains n = true then some (.bl (isKind k n)) else none
    | none => none
  | _ => none
theorem vIsi : VCall X (.builtin "isinstance") .fz gIsi := by
  refine ⟨_, call_isi, fun I H ps vs c Q s rl e r => ?_⟩
  unfold gIsi at e
  split at e
  · rename_i p n
    split at e
    · rename_i k w
      split at e
      · rename_i z
        cases e
        obtain ⟨v, u, rfl, h1, h2⟩ := two_arg (H := H) rl
        obtain ⟨t1, t2⟩ := tyN_ok s h1 w
        have e2 : u = .ty n := by unfold Rep at h2; exact h2
        rw [e2]
        exact ⟨v, .ty n, _, _, _, rfl, .ty n, t1, kit_ty (kind_ok t2 (by simpa using z)), r.here s rep_bl⟩
      · cases e
    · cases e
  · cases e

/-! ### subscripts and slices -/
def gIx : PV → PV → Option PV
  | .lst ps, .int i => atI ps i
  | .tup ps, .int i => atI ps i
  | .scr ns, .int i => (atI ns i).map PV.int
  | .str z, .int i => if z.length ≤ sizeLine then (atI z.cps.toList i).map fun c => .str ⟨#[c]⟩ else none
  | _, _ => none
structure VIx (X : Cx) (g : PV → PV → Option PV) : Prop where
  ex : ∃ r : R2, IxR X r ∧ ∀ I H p q x y c Q, Same I H → Rep X.K X.mg I p x → Rep X.K X.mg I q y → g p q = some c → Ret X .fz I H c Q → r x y H Q
theorem atI_rep {I : Hp} {ps : List PV} {vs : List V} {i : Int} {p : PV} (h : RepL X.K X.mg I ps vs) (e : atI ps i = some p) : ∃ v, atI vs i = some v ∧ Rep X.K X.mg I p v := by
  unfold atI at e ⊢
  rw [h.len]
  cases w : ixN ps.length i with
  | none => rw [w] at e; cases e
  | some j =>
    rw [w] at e
    exact h.get e
theorem atI_map {α β : Type} (f : α → β) (xs : List α) (i : Int) : atI (xs.map f) i = (atI xs i).map f := by
  unfold atI
  rw [List.length_map]
  cases ixN xs.length i with
  | none => rfl
  | some j => simp
theorem vIx : VIx X gIx := by
  refine ⟨_, ix_seq, fun I H p q x y c Q s rp rq e r => ?_⟩
  unfold gIx at e
  split at e
  · obtain ⟨a, ws, rfl, h1, h2⟩ := repL rp
    obtain ⟨v, k1, k2⟩ := atI_rep h2 e
    exact .inl ⟨a, ws, _, v, rfl, repI rq, SqL.of (s _ _ h1), k1, r.here s k2⟩
  · obtain ⟨a, ws, rfl, h1, h2⟩ := repT rp
    obtain ⟨v, k1, k2⟩ := atI_rep h2 e
    exact .inr (.inl ⟨a, ws, _, v, rfl, repI rq, sqt_mono s h1, k1, r.here s k2⟩)
  · rename_i ns i
    cases w : atI ns i with
    | none => rw [w] at e; cases e
    | some n =>
      rw [w] at e
      cases e
      obtain ⟨a, rfl, h1⟩ := scr_seq s rp
      exact .inl ⟨a, _, _, .int n, rfl, repI rq, h1, by rw [atI_map, w]; rfl, r.here s rep_int⟩
  · rename_i z i
    split at e
    · rename_i hz
      cases w : atI z.cps.toList i with
      | none => rw [w] at e; cases e
      | some n =>
        rw [w] at e
        cases e
        exact .inr (.inr ⟨_, _, n, repS rp, repI rq, hz, w, r.here s rep_str⟩)
    · cases e
  · cases e
variable {pi : Pin} {W : WX} {ms : List Md} {pos p1 p2 p3 : Pos} {e e1 e2 : Expr} {m m1 m2 : MV}
theorem SE.ixG {g : PV → PV → Option PV} (o : VIx X g) (a : SE X pi W ms e1 .fz m1) (b : SE X pi W ms e2 .fz m2) (hs : PlainIx e2 := by exact fun _ _ => rfl) : SE X pi W ms (.Subscript e1 e2 pos) .fz (mBin g m1 m2) := by
  obtain ⟨r, ho, k⟩ := o.ex
  refine ⟨PEimp (pe_ix ho a.pe b.pe hs) fun σ H Q ⟨B, I, ρ, env, s, h⟩ => ?_⟩
  refine two (ta := tE X pi W ms .fz m1) (tb := tE X pi W ms .fz m1) a b (k := fun r1 r2 => ofO (g r1.1 r2.1) r2.2) (F := fun z I σ B => ∀ v J H2 ρ2 τ, Same I J → Stt X.K X.mg pi B ms z.2 J H2 ρ2 σ → Tau B J H2 ρ2 τ → Ent X.K X.mg J H2 τ 0 .fz z.1 (some v) → Q v H2) s h fun r1 r2 x y J H2 ρ2 sj s2 rx ry hk => ?_
  cases w : g r1.1 r2.1 with
  | none => rw [w] at hk; exact hk.elim
  | some c =>
    rw [w] at hk
    exact k J H2 _ _ x y c Q s2.sub rx ry w (Ret.of_state s2 fun v L H3 ρ3 τ sl s3 t3 e3 => hk v L H3 ρ3 τ (sj.trans sl) s3 t3 e3)
theorem SE.ix (a : SE X pi W ms e1 .fz m1) (b : SE X pi W ms e2 .fz m2) (hs : PlainIx e2 := by exact fun _ _ => rfl) : SE X pi W ms (.Subscript e1 e2 pos) .fz (mBin gIx m1 m2) := .ixG vIx a b hs
/-- parts of a slice -/
abbrev MO := List PV → R (Option Int × List PV)
def tO (X : Cx) (pi : Pin) (W : WX) (ms : List Md) (m : MO) : TO := fun σ H Q => ∃ B I ρ env, Stt X.K X.mg pi B ms env I H ρ σ ∧
  (m env).sat (fun r => ∀ J H2 ρ2, Same I J → Stt X.K X.mg pi B ms r.2 J H2 ρ2 σ → Q r.1 H2) (Fly X pi W B I σ)
structure SO (X : Cx) (pi : Pin) (W : WX) (ms : List Md) (e : Option Expr) (m : MO) : Prop where
  po : PO X e (tO X pi W ms m)
def mNoPart : MO := fun env => .ok (none, env)
def mPart (m : MV) : MO := fun env => (m env).bind fun r => match r.1 with
  | .int i => .ok (some i, r.2)
  | _ => .bad
theorem POimp {e : Option Expr} {t t' : TO} (h : PO X e t) (k : ∀ σ H Q, t' σ H Q → t σ H Q) : PO X e t' := ⟨fun pn sh st hp q iv w => h.run pn sh st hp q iv (k _ _ _ w)⟩
theorem SO.none : SO X pi W ms Option.none mNoPart := by
  refine ⟨POimp po_none fun σ H Q ⟨B, I, ρ, env, s, h⟩ => ?_⟩
  exact (show ∀ J H2 ρ2, Same I J → Stt X.K X.mg pi B ms env J H2 ρ2 σ → Q Option.none H2 from h) I H ρ (.refl _) s
theorem SO.some (a : SE X pi W ms e .fz m) : SO X pi W ms (some e) (mPart m) := by
  refine ⟨POimp (po_some a.pe) fun σ H Q ⟨B, I, ρ, env, s, h⟩ => ?_⟩
  refine ⟨B, I, ρ, env, s, R.sat_mono (R.sat_bind h) (fun z hz x J H2 ρ2 τ sj s2 t2 en => ?_) fun _ _ z => z⟩
  obtain ⟨q, z2⟩ := z
  cases q with
  | int i => exact ⟨i, repI (ent_fz.mp en), (show ∀ J H2 ρ2, Same I J → Stt X.K X.mg pi B ms z2 J H2 ρ2 σ → Q (Option.some i) H2 from hz) J H2 ρ2 sj s2⟩
  | _ => exact (show False from hz).elim
/-- a part of a list -/
def cutP {α : Type} (ps : List α) (lo hi : Option Int) : List α := (ps.drop (HT.sIx ps.length 0 lo)).take (HT.sIx ps.length ps.length hi - HT.sIx ps.length 0 lo)
def gSl (p : PV) (lo hi : Option Int) : Option PV := match p with
  | .lst ps => some (.lst (cutP ps lo hi))
  | .scr ns => some (.lst ((cutP ns lo hi).map PV.int))
  | .tup ps => some (.tup (cutP ps lo hi))
  | .str z => if z.length ≤ sizeLine then some (.str (Txt.slice z lo hi)) else none
  | _ => none
theorem cut_rep {I : Hp} {ps : List PV} {vs : List V} (h : RepL X.K X.mg I ps vs) (lo hi : Option Int) : RepL X.K X.mg I (cutP ps lo hi) (cutV vs lo hi) := by
  unfold cutP cutV
  rw [h.len]
  exact (h.drop _).take _
theorem cut_map (ns : List Int) (lo hi : Option Int) : cutV (ns.map V.int) lo hi = (cutP ns lo hi).map V.int := by
  unfold cutP cutV
  rw [List.length_map, List.map_take, List.map_drop]
theorem cut_whole {α : Type} (ps : List α) (lo hi : Option Int) (h : HT.sIx ps.length 0 lo = 0 ∧ HT.sIx ps.length ps.length hi = ps.length) : cutP ps lo hi = ps := by
  unfold cutP
  rw [h.1, h.2]
  simp
def mSl (m : MV) (lo hi : MO) : MV := fun env => (m env).bind fun r => (lo r.2).bind fun l => (hi l.2).bind fun u => ofO (gSl r.1 l.1 u.1) u.2
theorem rsl_ok {I H : Hp} {p c : PV} {x : V} {lo hi : Option Int} {Q : VK} (s : Same I H) (rp : Rep X.K X.mg I p x) (e : gSl p lo hi = some c) (r : Ret X .fz I H c Q) : rSlL X.K x lo hi H Q ∨ (rSlA X.K x lo hi H Q ∨ C8.rSlX x lo hi H Q) := by
  unfold gSl at e
  split at e
  · cases e
    obtain ⟨a, ws, rfl, h1, h2⟩ := repL rp
    exact .inl ⟨a, ws, rfl, SqL.of (s _ _ h1), fun u hu => (r.thaw (md := .ow) (by decide)).own s hu (cut_rep h2 _ _)⟩
  · cases e
    obtain ⟨a, rfl, h1⟩ := scr_seq s rp
    exact .inl ⟨a, _, rfl, h1, fun u hu => by rw [cut_map]; exact (r.thaw (md := .ow) (by decide)).own s hu (RepL.ints _)⟩
  · cases e
    obtain ⟨a, ws, rfl, h1, h2⟩ := repT rp
    refine .inr (.inl ⟨a, ws, rfl, sqt_mono s h1, fun w => ?_, fun _ u hu => r.newTup s hu (cut_rep h2 _ _)⟩)
    rw [h2.len] at w
    rw [cut_whole _ _ _ w] at r
    exact r.here s (rep_tup h1 h2)
  · split at e
    · rename_i hz
      cases e
      exact .inr (.inr ⟨_, repS rp, hz, r.here s rep_str⟩)
    · cases e
  · cases e
theorem SE.slice {l u : Option Expr} {ml mu : MO} (a : SE X pi W ms e .fz m) (b : SO X pi W ms l ml) (c : SO X pi W ms u mu) : SE X pi W ms (.Subscript e (.Slice l u none p2) pos) .fz (mSl m ml mu) := by
  refine ⟨PEimp (pe_slice (sl_list.or (sl_tupA.or C8.sl_txt)) a.pe b.po c.po) fun σ H Q ⟨B, I, ρ, env, s, h⟩ => ?_⟩
  refine ⟨B, I, ρ, env, s, R.sat_mono (R.sat_bind h) (fun z1 h1 x J H1 ρ1 τ sj s1 _ en => ?_) fun _ _ z => z⟩
  refine ⟨B, J, ρ1, z1.2, s1, R.sat_mono (R.sat_bind h1) (fun z2 h2 L H2 ρ2 sl s2 => ?_) fun _ _ z => z.mono sj⟩
  refine ⟨B, L, ρ2, z2.2, s2, R.sat_mono (R.sat_bind h2) (fun z3 h3 N H3 ρ3 sn s3 => ?_) fun _ _ z => z.mono (sj.trans sl)⟩
  cases w : gSl z1.1 z2.1 z3.1 with
  | none => rw [w] at h3; exact h3.elim
  | some cc =>
    rw [w] at h3
    exact rsl_ok s3.sub ((ent_fz.mp en).mono (sl.trans sn)) w (Ret.of_state s3 fun v O H4 ρ4 τ4 so s4 t4 e4 => h3 v O H4 ρ4 τ4 (((sj.trans sl).trans sn).trans so) s4 t4 e4)
end
end Cq

/-! text Cq7 -/
set_option Elab.async false
set_option linter.all false
set_option maxRecDepth 100000
/-! Cq, part 7: the frame's own lists. -/
namespace Cq
open PySem PySem.Spec L2

section
variable {K : PySem.W.Frag} {mg : Str → Option Value} {I J H H2 : Hp} {ρ : Own} {t : Nat} {pi : Pin} {B : Bs} {ms : List Md} {env : List PV} {σ : L2.St} {i : Nat} {a b : Addr} {ps : List PV} {vs : List V}
theorem Sb.write {tg : Tag} (s : Sb pi B I H ρ σ) (q : ρ a = some tg) (zs : List V) : Sb pi B I (upd H a (.lst zs)) ρ σ := by
  obtain ⟨q1, q2, q3⟩ := s.ro a tg q
  have nI : ∀ c o, I c = some o → c ≠ a := fun c o e z => by rw [z, q2] at e; cases e
  refine ⟨fun c o e => by rw [upd_ne (nI c o e)]; exact s.sub c o e, s.bi, fun c o e n => ?_, s.ft, fun c u e => ?_, fun c e => ?_, s.pr, s.bo, s.px⟩
  · have nc : c ≠ a := fun z => by
      subst z
      rcases q1 with w | w
      · rw [n] at w; cases w
      · rw [e] at w; cases w
    rw [upd_ne nc]
    exact s.fr c o e n
  · obtain ⟨h1, h2, us, h3⟩ := s.ro c u e
    refine ⟨h1, h2, ?_⟩
    by_cases z : c = a
    · subst z; exact ⟨_, upd_same⟩
    · exact ⟨us, by rw [upd_ne z]; exact h3⟩
  · by_cases z : c = a
    · subst z; rw [upd_same] at e; cases e
    · rw [upd_ne z] at e; exact s.al c e
theorem EnOk.write {r : Option Nat} {md : Md} {p : PV} {x : Option V} {zs : List V} (s : EnOk K mg ms env I H ρ σ) (le : env.length = ms.length) (hm : ms[i]? = some md) (hx : σ[i]? = some x) (q : ρ a = some (i, r)) (e : Ent K mg I (upd H a (.lst zs)) ρ i md p x) :
    EnOk K mg ms (env.set i p) I (upd H a (.lst zs)) ρ σ := fun j m u v h1 h2 h3 => by
  by_cases hj : i = j
  · subst hj
    rw [List.getElem?_set_self (by rw [le]; exact (List.getElem?_eq_some_iff.mp hm).1)] at h2
    rw [hm] at h1
    rw [hx] at h3
    cases h1; cases h2; cases h3
    exact e
  · rw [List.getElem?_set_ne hj] at h2
    refine (s j m u v h1 h2 h3).mono (.refl _) fun c r2 us h4 h5 => ⟨h4, ?_⟩
    rw [upd_ne fun z => ?_]
    · exact h5
    · rw [z, q] at h4
      cases h4
      exact hj rfl
theorem Stt.write {r : Option Nat} {md : Md} {p : PV} {x : Option V} {zs : List V} (s : Stt K mg pi B ms env I H ρ σ) (hm : ms[i]? = some md) (hx : σ[i]? = some x) (q : ρ a = some (i, r)) (e : Ent K mg I (upd H a (.lst zs)) ρ i md p x) :
    Stt K mg pi B ms (env.set i p) I (upd H a (.lst zs)) ρ σ := by
  have hl : i < ms.length := (List.getElem?_eq_some_iff.mp hm).1
  refine ⟨s.sb.write q zs, s.ls, by simpa using s.le, s.l1, s.l2, ?_⟩
  rw [← set_app (by rw [s.le]; exact hl)]
  exact s.ea.write (by rw [List.length_append, List.length_append, s.le, s.l1]) (app_get hm) (app_get hx) q e
/-- an own list -/
structure OwnAt (K : PySem.W.Frag) (mg : Str → Option Value) (I H : Hp) (ρ : Own) (σ : L2.St) (env : List PV) (i : Nat) (a : Addr) (ps : List PV) (vs : List V) : Prop where
  st : σ[i]? = some (some (.ref a))
  en : env[i]? = some (.lst ps)
  rh : ρ a = some (i, none)
  at_ : H a = some (.lst vs)
theorem Stt.own (s : Stt K mg pi B ms env I H ρ σ) (hm : ms[i]? = some .ow) : ∃ a ps vs, OwnAt K mg I H ρ σ env i a ps vs ∧ RepL K mg I ps vs := by
  have l := (List.getElem?_eq_some_iff.mp hm).1
  have l1 : i < env.length := by rw [s.le]; exact l
  have l2 : i < σ.length := by rw [s.ls]; exact l
  have e := s.en i .ow _ _ hm (List.getElem?_eq_getElem l1) (List.getElem?_eq_getElem l2)
  unfold Ent at e
  obtain ⟨a, ps, vs, e1, e2, e3, e4, e5⟩ := e
  exact ⟨a, ps, vs, ⟨by rw [List.getElem?_eq_getElem l2, e1], by rw [List.getElem?_eq_getElem l1, e2], e3, e4⟩, e5⟩
theorem Stt.own2 (s : Stt K mg pi B ms env I H ρ σ) (hm : ms[i]? = some .ow2) : ∃ a ps vs, OwnAt K mg I H ρ σ env i a ps vs ∧ RowsOk K mg I H ρ i 0 ps vs := by
  have l := (List.getElem?_eq_some_iff.mp hm).1
  have l1 : i < env.length := by rw [s.le]; exact l
  have l2 : i < σ.length := by rw [s.ls]; exact l
  have e := s.en i .ow2 _ _ hm (List.getElem?_eq_getElem l1) (List.getElem?_eq_getElem l2)
  unfold Ent at e
  obtain ⟨a, ps, vs, e1, e2, e3, e4, e5⟩ := e
  exact ⟨a, ps, vs, ⟨by rw [List.getElem?_eq_getElem l2, e1], by rw [List.getElem?_eq_getElem l1, e2], e3, e4⟩, e5⟩
theorem Stt.write1 (s : Stt K mg pi B ms env I H ρ σ) (hm : ms[i]? = some .ow) (o : OwnAt K mg I H ρ σ env i a ps vs) {qs : List PV} {zs : List V} (r : RepL K mg I qs zs) : Stt K mg pi B ms (env.set i (.lst qs)) I (upd H a (.lst zs)) ρ σ :=
  s.write hm o.st o.rh (by unfold Ent; exact ⟨a, qs, zs, rfl, rfl, o.rh, upd_same, r⟩)
theorem RowsOk.len : ∀ {ps : List PV} {k : Nat} {vs : List V}, RowsOk K mg I H ρ t k ps vs → vs.length = ps.length
  | [], _, _, r => by unfold RowsOk at r; rw [r]; rfl
  | p :: ps, _, _, r => by
    unfold RowsOk at r
    obtain ⟨b, r', ws, ys, rfl, _, _, _, _, e6⟩ := r
    simp [RowsOk.len e6]
theorem RowsOk.get : ∀ {ps : List PV} {k n : Nat} {vs : List V} {p : PV}, RowsOk K mg I H ρ t k ps vs → ps[n]? = some p → ∃ b ws ys, vs[n]? = some (.ref b) ∧ p = .lst ys ∧ ρ b = some (t, some (k + n)) ∧ H b = some (.lst ws) ∧ RepL K mg I ys ws
  | [], _, _, _, _, _, e => by simp at e
  | p :: ps, k, 0, _, q, r, e => by
    unfold RowsOk at r
    obtain ⟨b, r', ws, ys, rfl, rfl, e3, e4, e5, e6⟩ := r
    simp at e; subst e
    exact ⟨b, ws, ys, rfl, rfl, e3, e4, e5⟩
  | p :: ps, k, n + 1, _, q, r, e => by
    unfold RowsOk at r
    obtain ⟨b, r', ws, ys, rfl, rfl, e3, e4, e5, e6⟩ := r
    obtain ⟨b, ws, ys, h1, h2, h3, h4⟩ := RowsOk.get (n := n) e6 (by simpa using e)
    exact ⟨b, ws, ys, by simpa using h1, h2, by rw [h3]; congr 3; omega, h4⟩
theorem RowsOk.setRow {ws : List V} {ys : List PV} (hr : RepL K mg I ys ws) : ∀ {ps : List PV} {k n : Nat} {vs : List V}, RowsOk K mg I H ρ t k ps vs → vs[n]? = some (.ref b) → ρ b = some (t, some (k + n)) → RowsOk K mg I (upd H b (.lst ws)) ρ t k (ps.set n (.lst ys)) vs
  | [], _, _, _, r, e, _ => by unfold RowsOk at r; subst r; simp at e
  | p :: ps, k, 0, _, r, e, q => by
    unfold RowsOk at r
    obtain ⟨c, r', us, zs, rfl, rfl, e3, e4, e5, e6⟩ := r
    simp at e; subst e
    unfold RowsOk
    simp only [List.set_cons_zero]
    refine ⟨c, r', ws, ys, rfl, rfl, e3, upd_same, hr, ?_⟩
    have lem : ∀ {ps : List PV} {j : Nat} {vs : List V}, k < j → RowsOk K mg I H ρ t j ps vs → RowsOk K mg I (upd H c (.lst ws)) ρ t j ps vs := by
      intro ps
      induction ps with
      | nil => intro j vs _ z; unfold RowsOk at z ⊢; exact z
      | cons p ps ih =>
        intro j vs hj z
        unfold RowsOk at z ⊢
        obtain ⟨d, r', us, zs, h1, h2, h3, h4, h5, h6⟩ := z
        refine ⟨d, r', us, zs, h1, h2, h3, ?_, h5, ih (by omega) h6⟩
        rw [upd_ne fun w => ?_]
        · exact h4
        · rw [w, e3] at h3
          cases h3
          omega
    exact lem (Nat.lt_succ_self k) e6
  | p :: ps, k, n + 1, _, r, e, q => by
    unfold RowsOk at r
    obtain ⟨c, r', us, zs, rfl, rfl, e3, e4, e5, e6⟩ := r
    unfold RowsOk
    simp only [List.set_cons_succ]
    refine ⟨c, r', us, zs, rfl, rfl, e3, ?_, e5, RowsOk.setRow hr e6 (by simpa using e) (by rw [q]; congr 3; omega)⟩
    rw [upd_ne fun w => ?_]
    · exact e4
    · rw [w, q] at e3
      cases e3
end

section
variable (X : Cx) (pi : Pin) (ms : List Md)
/-- a read that changes nothing -/
abbrev MP := List PV → Option PV
def tP (m : MP) : TE := fun σ H Q => ∃ B I ρ env p, Stt X.K X.mg pi B ms env I H ρ σ ∧ m env = some p ∧ ∀ v, Rep X.K X.mg I p v → Q v H
structure SP (e : Expr) (m : MP) : Prop where
  pe : PE X e (tP X pi ms m)
end
def mP (m : MP) : MV := fun env => ofO (m env) env
section
variable {X : Cx} {pi : Pin} {W : WX} {ms : List Md} {md : Md} {pos p1 p2 p3 p4 : Pos} {e e1 e2 : Expr} {es : List Expr} {m m1 m2 : MP} {x : Str} {i : Nat}
theorem SP.se (a : SP X pi ms e m) : SE X pi W ms e .fz (mP m) := by
  refine ⟨PEimp a.pe fun σ H Q ⟨B, I, ρ, env, s, h⟩ => ?_⟩
  unfold mP at h
  cases w : m env with
  | none => rw [w] at h; exact h.elim
  | some p =>
    rw [w] at h
    exact ⟨B, I, ρ, env, p, s, w, fun v r => (show ∀ v J H2 ρ2 τ, Same I J → Stt X.K X.mg pi B ms env J H2 ρ2 σ → Tau B J H2 ρ2 τ → Ent X.K X.mg J H2 τ 0 .fz p (some v) → Q v H2 from h) v I H ρ (fun _ => none) (.refl _) s .none (ent_fz.mpr r)⟩
def pVar (i : Nat) : MP := fun env => env[i]?
def pC (p : PV) : MP := fun _ => some p
theorem SP.var (i : Nat) {x : Str} (hm : ms[i]? = some .fz := by rfl) (hN : X.N[i]? = some x := by rfl) (hv : Vis X.env.scope x := by first | exact Or.inl rfl | exact Or.inr (Or.inl rfl) | exact Or.inr (Or.inr rfl))
    (hd : (x == ("__debug__" : Str)) = false := by decide) (hcd : (x == ("__classdict__" : Str)) = false := by decide) : SP X pi ms (.Name x pos) (pVar i) := by
  refine ⟨PEimp (pe_var hN hv hd hcd) fun σ H Q ⟨B, I, ρ, env, p, s, h, k⟩ => ?_⟩
  obtain ⟨q, v, e1, e2, e3⟩ := s.slot hm
  unfold Ent at e3
  obtain ⟨y, rfl, r⟩ := e3
  unfold pVar at h
  rw [h] at e1
  cases e1
  exact ⟨y, e2, k y r⟩
theorem SP.const {p : PV} {v : V} (pe : PE X e (tC v)) (r : ∀ I, Rep X.K X.mg I p v) : SP X pi ms e (pC p) := by
  refine ⟨PEimp pe fun σ H Q ⟨B, I, ρ, env, q, s, h, k⟩ => ?_⟩
  cases h
  exact k v (r I)
theorem SP.int {n : Int} {j : Nat} : SP X pi ms (.Constant (.int n) j pos) (pC (.int n)) := .const pe_int fun _ => rep_int
theorem SP.str {z : Str} {j : Nat} : SP X pi ms (.Constant (.str z) j pos) (pC (.str z)) := .const pe_str fun _ => rep_str
theorem SP.glo {x : Str} {p : PV} {v : V} {u : Value} (hm : X.mg x = some u) (hr : RelV v u) (r : ∀ I, Rep X.K X.mg I p v) (hg : Gl X x := by rfl) (hd : (x == ("__debug__" : Str)) = false := by decide) : SP X pi ms (.Name x pos) (pC p) :=
  .const (pe_glob hg hm hr hd) r
/-- operations that make nothing -/
structure VOpP (X : Cx) (f : Value → Value → Sem Value) (g : PV → PV → Option PV) : Prop where
  ex : ∃ r : R2, OpR X f r ∧ ∀ I H p q x y c Q, Rep X.K X.mg I p x → Rep X.K X.mg I q y → g p q = some c → (∀ v, Rep X.K X.mg I c v → Q v H) → r x y H Q
def pBin (g : PV → PV → Option PV) (m1 m2 : MP) : MP := fun env => match m1 env, m2 env with
  | some p, some q => g p q
  | _, _ => none
theorem pBin_some {g : PV → PV → Option PV} {env : List PV} {c : PV} (h : pBin g m1 m2 env = some c) : ∃ p q, m1 env = some p ∧ m2 env = some q ∧ g p q = some c := by
  unfold pBin at h
  cases w1 : m1 env with
  | none => rw [w1] at h; cases h
  | some p =>
    cases w2 : m2 env with
    | none => rw [w1, w2] at h; cases h
    | some q => rw [w1, w2] at h; exact ⟨p, q, rfl, rfl, h⟩
theorem SP.bin {op : Operator} {g : PV → PV → Option PV} (o : VOpP X (binaryOp op) g) (a : SP X pi ms e1 m1) (b : SP X pi ms e2 m2) : SP X pi ms (.BinOp e1 op e2 pos) (pBin g m1 m2) := by
  obtain ⟨r, ho, k⟩ := o.ex
  refine ⟨PEimp (pe_op ho a.pe b.pe) fun σ H Q ⟨B, I, ρ, env, c, s, h, q⟩ => ?_⟩
  obtain ⟨u, w, h1, h2, h3⟩ := pBin_some h
  exact ⟨B, I, ρ, env, u, s, h1, fun v rv => ⟨B, I, ρ, env, w, s, h2, fun v2 rv2 => k I H _ _ v v2 c Q rv rv2 h3 q⟩⟩
theorem vI0P {f : Value → Value → Sem Value} {g : Int → Int → V} {g' : Int → Int → PV} (ho : OpR X f (rI0 g)) (hg : ∀ I i j, Rep X.K X.mg I (g' i j) (g i j)) : VOpP X f (intOp g') := by
  refine ⟨_, ho, fun I H p q x y c Q rp rq e k => ?_⟩
  unfold intOp at e
  split at e
  · cases e
    exact ⟨_, _, repI rp, repI rq, k _ (hg _ _ _)⟩
  · cases e
theorem pAdd : VOpP X (binaryOp .Add) (intOp fun i j => .int (i + j)) := vI0P op_add fun _ _ _ => rep_int
theorem pSub : VOpP X (binaryOp .Sub) (intOp fun i j => .int (i - j)) := vI0P op_sub fun _ _ _ => rep_int
theorem pMod : VOpP X (binaryOp .Mod) (intOpC (fun _ j => decide (0 < j)) fun i j => .int (i % j)) := by
  refine ⟨_, op_mod, fun I H p q x y c Q rp rq e k => ?_⟩
  unfold intOpC at e
  split at e
  · split at e
    · rename_i z
      cases e
      exact ⟨_, _, repI rp, repI rq, by simpa using z, k _ rep_int⟩
    · cases e
  · cases e
/-- a subscript of frozen things -/
theorem gIx_read {I H : Hp} {p q c : PV} {x y : V} {Q : VK} (s : Same I H) (rp : Rep X.K X.mg I p x) (rq : Rep X.K X.mg I q y) (e : gIx p q = some c) (k : ∀ v, Rep X.K X.mg I c v → Q v H) : rIx X.K x y H Q := by
  unfold gIx at e
  split at e
  · obtain ⟨a, ws, rfl, h1, h2⟩ := repL rp
    obtain ⟨v, k1, k2⟩ := atI_rep h2 e
    exact .inl ⟨a, ws, _, v, rfl, repI rq, SqL.of (s _ _ h1), k1, k v k2⟩
  · obtain ⟨a, ws, rfl, h1, h2⟩ := repT rp
    obtain ⟨v, k1, k2⟩ := atI_rep h2 e
    exact .inr (.inl ⟨a, ws, _, v, rfl, repI rq, sqt_mono s h1, k1, k v k2⟩)
  · rename_i ns n
    cases w : atI ns n with
    | none => rw [w] at e; cases e
    | some n =>
      rw [w] at e
      cases e
      obtain ⟨a, rfl, h1⟩ := scr_seq s rp
      exact .inl ⟨a, _, _, .int n, rfl, repI rq, h1, by rw [atI_map, w]; rfl, k _ rep_int⟩
  · rename_i z n
    split at e
    · rename_i hz
      cases w : atI z.cps.toList n with
      | none => rw [w] at e; cases e
      | some n =>
        rw [w] at e
        cases e
        exact .inr (.inr ⟨_, _, n, repS rp, repI rq, hz, w, k _ rep_str⟩)
    · cases e
  · cases e
theorem SP.ix (a : SP X pi ms e1 m1) (b : SP X pi ms e2 m2) (hs : PlainIx e2 := by exact fun _ _ => rfl) : SP X pi ms (.Subscript e1 e2 pos) (pBin gIx m1 m2) := by
  refine ⟨PEimp (pe_ix ix_seq a.pe b.pe hs) fun σ H Q ⟨B, I, ρ, env, c, s, h, q⟩ => ?_⟩
  obtain ⟨u, w, h1, h2, h3⟩ := pBin_some h
  exact ⟨B, I, ρ, env, u, s, h1, fun v rv => ⟨B, I, ρ, env, w, s, h2, fun v2 rv2 => gIx_read s.sub rv rv2 h3 q⟩⟩
/-- x[e], x an own list -/
theorem SP.ixOwn (i : Nat) (b : SP X pi ms e m) (hm : ms[i]? = some .ow := by rfl) (hN : X.N[i]? = some x := by rfl) (hv : Vis X.env.scope x := by first | exact Or.inl rfl | exact Or.inr (Or.inl rfl) | exact Or.inr (Or.inr rfl))
    (hd : (x == ("__debug__" : Str)) = false := by decide) (hcd : (x == ("__classdict__" : Str)) = false := by decide) (hs : PlainIx e := by exact fun _ _ => rfl) : SP X pi ms (.Subscript (.Name x p1) e pos) (pBin gIx (pVar i) m) := by
  refine ⟨PEimp (pe_ix ix_list (pe_var hN hv hd hcd) b.pe hs) fun σ H Q ⟨B, I, ρ, env, c, s, h, q⟩ => ?_⟩
  obtain ⟨u, w, h1, h2, h3⟩ := pBin_some h
  obtain ⟨a, ps, vs, o, r⟩ := s.own hm
  unfold pVar at h1
  rw [o.en] at h1
  cases h1
  refine ⟨_, o.st, B, I, ρ, env, w, s, h2, fun y ry => ?_⟩
  cases w with
  | int k =>
    obtain ⟨v, k1, k2⟩ := atI_rep r (show atI ps k = some c from h3)
    exact ⟨a, vs, k, v, rfl, repI ry, SqL.of o.at_, k1, q v k2⟩
  | _ => cases h3
/-- x[e1][e2], x an own list of own lists -/
theorem SP.ixOwn2 (i : Nat) (b1 : SP X pi ms e1 m1) (b2 : SP X pi ms e2 m2) (hm : ms[i]? = some .ow2 := by rfl) (hN : X.N[i]? = some x := by rfl) (hv : Vis X.env.scope x := by first | exact Or.inl rfl | exact Or.inr (Or.inl rfl) | exact Or.inr (Or.inr rfl))
    (hd : (x == ("__debug__" : Str)) = false := by decide) (hcd : (x == ("__classdict__" : Str)) = false := by decide) (hs1 : PlainIx e1 := by exact fun _ _ => rfl) (hs2 : PlainIx e2 := by exact fun _ _ => rfl) :
    SP X pi ms (.Subscript (.Subscript (.Name x p1) e1 p2) e2 pos) (pBin gIx (pBin gIx (pVar i) m1) m2) := by
  refine ⟨PEimp (pe_ix ix_list (pe_ix ix_list (pe_var hN hv hd hcd) b1.pe hs1) b2.pe hs2) fun σ H Q ⟨B, I, ρ, env, c, s, h, q⟩ => ?_⟩
  obtain ⟨u, w, h1, h2, h3⟩ := pBin_some h
  obtain ⟨u0, w0, h4, h5, h6⟩ := pBin_some h1
  obtain ⟨a, ps, vs, o, r⟩ := s.own2 hm
  unfold pVar at h4
  rw [o.en] at h4
  cases h4
  refine ⟨_, o.st, B, I, ρ, env, w0, s, h5, fun y ry => ?_⟩
  cases w0 with
  | int k =>
    obtain ⟨j, k1, k2⟩ : ∃ j, ixN ps.length k = some j ∧ ps[j]? = some u := by
      have h7 : atI ps k = some u := h6
      unfold atI at h7
      cases z : ixN ps.length k with
      | none => rw [z] at h7; cases h7
      | some j => rw [z] at h7; exact ⟨j, rfl, h7⟩
    obtain ⟨b, ws, ys, g1, g2, g3, g4, g5⟩ := r.get k2
    subst g2
    refine ⟨a, vs, k, .ref b, rfl, repI ry, SqL.of o.at_, ?_, B, I, ρ, env, w, s, h2, fun y2 ry2 => ?_⟩
    · unfold atI
      rw [r.len, k1]
      exact g1
    · cases w with
      | int k2 =>
        obtain ⟨v, l1, l2⟩ := atI_rep g5 (show atI ys k2 = some c from h3)
        exact ⟨b, ws, k2, v, rfl, repI ry2, SqL.of g4, l1, q v l2⟩
      | _ => cases h3
  | _ => cases h6
/-- len(x) -/
theorem SP.lenOwn (i : Nat) {y : Str} (hm : ms[i]? = some .ow ∨ ms[i]? = some .ow2) (hl : X.mg "len" = none) (hN : X.N[i]? = some x := by rfl) (hv : Vis X.env.scope x := by first | exact Or.inl rfl | exact Or.inr (Or.inl rfl) | exact Or.inr (Or.inr rfl))
    (hd : (x == ("__debug__" : Str)) = false := by decide) (hcd : (x == ("__classdict__" : Str)) = false := by decide) (hg : Gl X "len" := by rfl)
    (hst : starEach (Expr.Name x p1 :: []) X.env = (false, eval (Expr.Name x p1) X.env) :: starEach [] X.env := by rfl) : SP X pi ms (.Call (.Name "len" p2) [.Name x p1] [] pos) (fun env => match env[i]? with
      | some p => gLen [p]
      | none => none) := by
  refine ⟨PEimp (pe_callB call_len hg hl PySem.boot_len (pa_cons (pe_var hN hv hd hcd) pa_nil hst)) fun σ H Q ⟨B, I, ρ, env, c, s, h, q⟩ => ?_⟩
  have fin : ∀ {a ps vs}, OwnAt X.K X.mg I H ρ σ env i a ps vs → vs.length = ps.length → tCB (fun xs H Q => ∃ x n, xs = [x] ∧ LenV X.K x H n ∧ Q (.int n) H) (tCons (tVar i) tNil) σ H Q := fun {a ps vs} o l => by
    dsimp only at h
    rw [o.en] at h
    cases h
    exact ⟨_, o.st, _, _, rfl, .inl ⟨vs, SqL.of o.at_, l.symm⟩, q _ rep_int⟩
  rcases hm with hm | hm
  · obtain ⟨a, ps, vs, o, r⟩ := s.own hm
    exact fin o r.len
  · obtain ⟨a, ps, vs, o, r⟩ := s.own2 hm
    exact fin o r.len

/-! ### methods of an own list -/
/-- what is left of env behind a change of slot i -/
def mPush (i : Nat) (m : MV) : MV := fun env => (m env).bind fun r => match r.2[i]? with
  | some (.lst ps) => if ps.length < sizeLine then .ok (.non, r.2.set i (.lst (ps ++ [r.1]))) else .bad
  | _ => .bad
def mExt (i : Nat) (m : MV) : MV := fun env => (m env).bind fun r => match r.2[i]?, r.1 with
  | some (.lst ps), .lst qs => if ps.length + qs.length ≤ sizeLine then .ok (.non, r.2.set i (.lst (ps ++ qs))) else .bad
  | _, _ => .bad
def mPop (i : Nat) : MV := fun env => match env[i]? with
  | some (.lst ps) => match ps[ps.length - 1]? with
    | some p => .ok (p, env.set i (.lst ps.dropLast))
    | none => .bad
  | _ => .bad
def mPopAt (i : Nat) (m : MV) : MV := fun env => (m env).bind fun r => match r.2[i]?, r.1 with
  | some (.lst ps), .int k => match ixN ps.length k with
    | some j => match ps[j]? with
      | some p => if ps.length ≤ sizeLine then .ok (p, r.2.set i (.lst (ps.eraseIdx j))) else .bad
      | none => .bad
    | none => .bad
  | _, _ => .bad
variable {mv : MV}
theorem SE.append (i : Nat) (b : SE X pi W ms e .fz mv) (hm : ms[i]? = some .ow := by rfl) (hN : X.N[i]? = some x := by rfl) (hv : Vis X.env.scope x := by first | exact Or.inl rfl | exact Or.inr (Or.inl rfl) | exact Or.inr (Or.inr rfl))
    (hd : (x == ("__debug__" : Str)) = false := by decide) (hcd : (x == ("__classdict__" : Str)) = false := by decide) (hl : (p2.endLine == pos.line) = true := by rfl) (hst : starEach (e :: []) X.env = (false, eval e X.env) :: starEach [] X.env := by rfl) :
    SE X pi W ms (.Call (.Attribute (.Name x p1) "append" p2) [e] [] pos) .fz (mPush i mv) := by
  refine ⟨PEimp (pe_bm PySem.F.plainAttrs_list PySem.F.slot_list_append PySem.F.type_list_append mt_append (pe_var hN hv hd hcd) (pa_cons b.pe pa_nil hst) (hfew := by rw [hst]; rfl) (hline := hl) (hs := hst)) fun σ H Q ⟨B, I, ρ, env, s, h⟩ => ?_⟩
  obtain ⟨a, ps, vs, o, _⟩ := s.own hm
  refine ⟨_, o.st, .inl ⟨rfl, _, SqL.of o.at_⟩, B, I, ρ, env, s, R.sat_mono (R.sat_bind h) (fun z hz y J H2 ρ2 τ sj s2 t2 en => ?_) fun _ _ z => z⟩
  obtain ⟨a2, qs, ws, o2, r2⟩ := s2.own hm
  have ea : a2 = a := by
    have := o2.st
    rw [o.st] at this
    cases this; rfl
  subst ea
  rw [o2.en] at hz
  dsimp only at hz
  split at hz
  · rename_i l
    refine ⟨a2, ws, y, rfl, rfl, o2.at_, by rw [r2.len]; exact l, ?_⟩
    exact hz .non J _ ρ2 (fun _ => none) sj (s2.write1 hm o2 (r2.app (.cons (ent_fz.mp en) .nil))) .none (ent_fz.mpr rep_non)
  · exact hz.elim
theorem SE.extend (i : Nat) (b : SE X pi W ms e .fz mv) (hm : ms[i]? = some .ow := by rfl) (hN : X.N[i]? = some x := by rfl) (hv : Vis X.env.scope x := by first | exact Or.inl rfl | exact Or.inr (Or.inl rfl) | exact Or.inr (Or.inr rfl))
    (hd : (x == ("__debug__" : Str)) = false := by decide) (hcd : (x == ("__classdict__" : Str)) = false := by decide) (hl : (p2.endLine == pos.line) = true := by rfl) (hst : starEach (e :: []) X.env = (false, eval e X.env) :: starEach [] X.env := by rfl) :
    SE X pi W ms (.Call (.Attribute (.Name x p1) "extend" p2) [e] [] pos) .fz (mExt i mv) := by
  refine ⟨PEimp (pe_bm PySem.F.plainAttrs_list PySem.F.slot_list_extend PySem.F.type_list_extend mt_extend (pe_var hN hv hd hcd) (pa_cons b.pe pa_nil hst) (hfew := by rw [hst]; rfl) (hline := hl) (hs := hst)) fun σ H Q ⟨B, I, ρ, env, s, h⟩ => ?_⟩
  obtain ⟨a, ps, vs, o, _⟩ := s.own hm
  refine ⟨_, o.st, .inl ⟨rfl, _, SqL.of o.at_⟩, B, I, ρ, env, s, R.sat_mono (R.sat_bind h) (fun z hz y J H2 ρ2 τ sj s2 t2 en => ?_) fun _ _ z => z⟩
  obtain ⟨a2, qs, ws, o2, r2⟩ := s2.own hm
  have ea : a2 = a := by
    have := o2.st
    rw [o.st] at this
    cases this; rfl
  subst ea
  rw [o2.en] at hz
  obtain ⟨z1, z2⟩ := z
  cases z1 with
  | lst us =>
    dsimp only at hz
    split at hz
    · rename_i l
      obtain ⟨b2, ws2, rfl, g1, g2⟩ := repL (ent_fz.mp en)
      refine ⟨a2, b2, ws, ws2, rfl, rfl, o2.at_, s2.sub _ _ g1, by rw [r2.len, g2.len]; exact l, ?_⟩
      exact hz .non J _ ρ2 (fun _ => none) sj (s2.write1 hm o2 (r2.app g2)) .none (ent_fz.mpr rep_non)
    · exact hz.elim
  | _ => exact (show False from hz).elim
theorem SE.pop (i : Nat) (hm : ms[i]? = some .ow := by rfl) (hN : X.N[i]? = some x := by rfl) (hv : Vis X.env.scope x := by first | exact Or.inl rfl | exact Or.inr (Or.inl rfl) | exact Or.inr (Or.inr rfl))
    (hd : (x == ("__debug__" : Str)) = false := by decide) (hcd : (x == ("__classdict__" : Str)) = false := by decide) (hl : (p2.endLine == pos.line) = true := by rfl) : SE X pi W ms (.Call (.Attribute (.Name x p1) "pop" p2) [] [] pos) .fz (mPop i) := by
  refine ⟨PEimp (pe_bm0 PySem.F.plainAttrs_list PySem.F.slot_list_pop PySem.F.type_list_pop mt_pop (pe_var hN hv hd hcd) (hline := hl)) fun σ H Q ⟨B, I, ρ, env, s, h⟩ => ?_⟩
  obtain ⟨a, ps, vs, o, r⟩ := s.own hm
  unfold mPop at h
  rw [o.en] at h
  dsimp only at h
  cases w : ps[ps.length - 1]? with
  | none => rw [w] at h; exact h.elim
  | some p =>
    rw [w] at h
    obtain ⟨v, k1, k2⟩ := r.get w
    refine ⟨_, o.st, .inl ⟨rfl, _, SqL.of o.at_⟩, a, vs, v, rfl, rfl, o.at_, by rw [r.len]; exact k1, ?_⟩
    have rd : RepL X.K X.mg I ps.dropLast vs.dropLast := by
      rw [List.dropLast_eq_take, List.dropLast_eq_take, r.len]
      exact r.take _
    exact h v I _ ρ (fun _ => none) (.refl _) (s.write1 hm o rd) .none (ent_fz.mpr k2)
theorem ixN_seq' {n : Nat} {k : Int} {j : Nat} (h : ixN n k = some j) : seqIndex? k n = some j ∧ -(n : Int) ≤ k ∧ k < n := ⟨(ixN_seq h).1, (ixN_seq h).2.2⟩
theorem SE.popAt (i : Nat) (b : SE X pi W ms e .fz mv) (hm : ms[i]? = some .ow := by rfl) (hN : X.N[i]? = some x := by rfl) (hv : Vis X.env.scope x := by first | exact Or.inl rfl | exact Or.inr (Or.inl rfl) | exact Or.inr (Or.inr rfl))
    (hd : (x == ("__debug__" : Str)) = false := by decide) (hcd : (x == ("__classdict__" : Str)) = false := by decide) (hl : (p2.endLine == pos.line) = true := by rfl) (hst : starEach (e :: []) X.env = (false, eval e X.env) :: starEach [] X.env := by rfl) :
    SE X pi W ms (.Call (.Attribute (.Name x p1) "pop" p2) [e] [] pos) .fz (mPopAt i mv) := by
  refine ⟨PEimp (pe_bm PySem.F.plainAttrs_list PySem.F.slot_list_pop PySem.F.type_list_pop mt_popAt (pe_var hN hv hd hcd) (pa_cons b.pe pa_nil hst) (hfew := by rw [hst]; rfl) (hline := hl) (hs := hst)) fun σ H Q ⟨B, I, ρ, env, s, h⟩ => ?_⟩
  obtain ⟨a, ps, vs, o, _⟩ := s.own hm
  refine ⟨_, o.st, .inl ⟨rfl, _, SqL.of o.at_⟩, B, I, ρ, env, s, R.sat_mono (R.sat_bind h) (fun z hz y J H2 ρ2 τ sj s2 t2 en => ?_) fun _ _ z => z⟩
  obtain ⟨a2, qs, ws, o2, r2⟩ := s2.own hm
  have ea : a2 = a := by
    have := o2.st
    rw [o.st] at this
    cases this; rfl
  subst ea
  rw [o2.en] at hz
  obtain ⟨z1, z2⟩ := z
  cases z1 with
  | int k =>
    dsimp only at hz
    cases w : ixN qs.length k with
    | none => rw [w] at hz; exact hz.elim
    | some j =>
      rw [w] at hz
      dsimp only at hz
      cases w2 : qs[j]? with
      | none => rw [w2] at hz; exact hz.elim
      | some p =>
        rw [w2] at hz
        dsimp only at hz
        split at hz
        · rename_i l
          obtain ⟨v, k1, k2⟩ := r2.get w2
          obtain ⟨g1, g2, g3⟩ := ixN_seq' w
          have lz : (sizeLine : Nat) = 16777216 := sizeLine_eq
          refine ⟨a2, ws, k, j, v, rfl, by rw [repI (ent_fz.mp en)], o2.at_, by omega, by omega, by rw [r2.len]; exact g1, k1, ?_⟩
          exact hz v J _ ρ2 (fun _ => none) sj (s2.write1 hm o2 (r2.erase j)) .none (ent_fz.mpr k2)
        · exact hz.elim
  | _ => exact (show False from hz).elim
end
end Cq

/-! text Cq8 -/
set_option Elab.async false
set_option linter.all false
set_option maxRecDepth 100000
/-! Cq, part 8: statements, loops. -/
namespace Cq
open PySem PySem.Spec L2

/-- how a statement ends -/
inductive Out where
  | nx (e : List PV) | rt (p : PV) (e : List PV) | bk (e : List PV) | ct (e : List PV)
abbrev MS := List PV → R Out
section
variable {K : PySem.W.Frag} {mg : Str → Option Value} {I J H H2 : Hp} {ρ : Own} {pi : Pin} {B : Bs} {ms : List Md} {env : List PV} {σ : L2.St} {i : Nat}
/-- a slot is given out -/
theorem Stt.takeOut {md : Md} (s : Stt K mg pi B ms env I H ρ σ) (hm : ms[i]? = some md) (hi : i ∉ pi) :
    ∃ p v, env[i]? = some p ∧ σ[i]? = some v ∧ Stt K mg pi B (ms.set i .un) env I H (tagNot i ρ) σ ∧ Tau B I H (tagNot i ρ) (tagAt i ρ) ∧ Ent K mg I H (tagAt i ρ) 0 md p v := by
  have hl : i < ms.length := (List.getElem?_eq_some_iff.mp hm).1
  have l1 : i < env.length := by rw [s.le]; exact hl
  have l2 : i < σ.length := by rw [s.ls]; exact hl
  refine ⟨env[i], σ[i], List.getElem?_eq_getElem l1, List.getElem?_eq_getElem l2, ⟨s.sb.without, by simpa using s.ls, by simpa using s.le, s.l1, s.l2, fun j m p v h1 h2 h3 => ?_⟩, fun a t h => ?_, ?_⟩
  · rw [← set_app hl] at h1
    by_cases hj : i = j
    · subst hj
      rw [List.getElem?_set_self (by rw [List.length_append]; omega)] at h1
      cases h1
      unfold Ent
      trivial
    · rw [List.getElem?_set_ne hj] at h1
      exact (s.ea j m p v h1 h2 h3).mono (.refl _) fun b r vs h4 h5 => ⟨tagNot_some h4 (Ne.symm hj), h5⟩
  · obtain ⟨h1, h2⟩ := tagAt_of h
    obtain ⟨k1, k2, k3⟩ := s.sb.ro a _ h2
    refine ⟨h1, tagNot_none h2, k2, ?_, k3⟩
    rcases k1 with k1 | k1
    · exact absurd (s.sb.bo a _ k1) hi
    · exact k1
  · exact (s.en i md _ _ hm (List.getElem?_eq_getElem l1) (List.getElem?_eq_getElem l2)).back fun a r h => tagAt_some h
end

section
variable (X : Cx) (pi : Pin) (W : WX) (rm : Md) (P Lm ms ms2 : List Md)
def OutOk (D : Ends) (B : Bs) (I : Hp) : Out → Prop
  | .nx e => ∀ σ J H ρ, Same I J → Stt X.K X.mg pi B ms2 e J H ρ σ → D.nx σ H
  | .bk e => ∀ σ J H ρ, Same I J → Stt X.K X.mg pi B Lm e J H ρ σ → D.bk σ H
  | .ct e => ∀ σ J H ρ, Same I J → Stt X.K X.mg pi B Lm e J H ρ σ → D.ct σ H
  | .rt p e => ∀ v σ J H ρ τ, Same I J → Stt X.K X.mg pi B P e J H ρ σ → Tau B J H ρ τ → Ent X.K X.mg J H τ 0 rm p (some v) → D.rt v H
def tS (m : MS) : TS := fun D σ H => ∃ B I ρ env, Stt X.K X.mg pi B ms env I H ρ σ ∧ (m env).sat (OutOk X pi rm P Lm ms2 D B I) (fun C fs => ∀ σ, Fly X pi W B I σ C fs)
structure SS (s : Stmt) (m : MS) : Prop where
  ps : PS X s (tS X pi W rm P Lm ms ms2 m)
structure SSs (s : List Stmt) (m : MS) : Prop where
  ps : PSs X s (tS X pi W rm P Lm ms ms2 m)
/-- a target -/
def Keeps (ts : List Nat) (σ σ2 : L2.St) : Prop := ∀ j, j ∉ ts → σ2[j]? = σ[j]?
def tG (ts : List Nat) (g : PV → List PV → Option (List PV)) : TG := fun v σ H Q => ∃ B I ρ env p e2, Stt X.K X.mg pi B ms env I H ρ σ ∧ Rep X.K X.mg I p v ∧ g p env = some e2 ∧ ∀ σ2 ρ2 H2, Keeps ts σ σ2 → Stt X.K X.mg pi B ms2 e2 I H2 ρ2 σ2 → Q σ2 H2
def tGs (ts : List Nat) (g : List PV → List PV → Option (List PV)) : TGs := fun vs σ H Q => ∃ B I ρ env ps e2, Stt X.K X.mg pi B ms env I H ρ σ ∧ RepL X.K X.mg I ps vs ∧ g ps env = some e2 ∧ ∀ σ2 ρ2 H2, Keeps ts σ σ2 → Stt X.K X.mg pi B ms2 e2 I H2 ρ2 σ2 → Q σ2 H2
structure SG (ts : List Nat) (t : Expr) (g : PV → List PV → Option (List PV)) : Prop where
  pg : PG X t (tG X pi ms ms2 ts g)
structure SGs (ts : List Nat) (t : List Expr) (g : List PV → List PV → Option (List PV)) : Prop where
  pg : PGs X t (tGs X pi ms ms2 ts g)
/-- what is walked -/
def ItOk (J : It) (ps : List PV) (I0 : Hp) : Prop := ∀ I H, Same I0 I → Same I H →
  (∀ i p, ps[i]? = some p → J.go i H ∧ ∀ x H2, J.yld i H x H2 → ∃ I2, Grow I I2 H H2 ∧ Rep X.K X.mg I2 p x) ∧ J.stop ps.length H
abbrev MI := List PV → R (List PV × List PV)
def tI (m : MI) : TI := fun σ H R => ∃ B I ρ env, Stt X.K X.mg pi B ms env I H ρ σ ∧
  (m env).sat (fun r => ∀ T J H2 ρ2, Same I J → Stt X.K X.mg pi B ms r.2 J H2 ρ2 σ → ItOk X T r.1 J → R T H2) (Fly X pi W B I σ)
structure SI (tg e : Expr) (m : MI) : Prop where
  pi_ : PI X tg e (tI X pi W ms m)
end
theorem PGimp {X : Cx} {t : Expr} {g g' : TG} (h : PG X t g) (k : ∀ v σ H Q, g' v σ H Q → g v σ H Q) : PG X t g' := ⟨fun pn sh st hp v u q iv r w => h.run pn sh st hp v u q iv r (k _ _ _ _ w)⟩
theorem PGsimp {X : Cx} {t : List Expr} {g g' : TGs} (h : PGs X t g) (k : ∀ v σ H Q, g' v σ H Q → g v σ H Q) : PGs X t g' := ⟨fun pn sh st hp v u q iv r w => h.run pn sh st hp v u q iv r (k _ _ _ _ w)⟩
theorem PIimp {X : Cx} {tg e : Expr} {t t' : TI} (h : PI X tg e t) (k : ∀ σ H R, t' σ H R → t σ H R) : PI X tg e t' := ⟨fun pn sh st hp q iv w => h.run pn sh st hp q iv (k _ _ _ w)⟩

section
variable {X : Cx} {pi : Pin} {W : WX} {rm md : Md} {P Lm ms ms1 ms2 ms3 : List Md} {pos p1 p2 p3 p4 : Pos} {e e1 e2 : Expr} {s s1 : Stmt} {ss : List Stmt} {m m1 m2 : MS} {mv : MV} {x : Str} {i : Nat}
theorem OutOk.mono {D : Ends} {B : Bs} {I J : Hp} {o : Out} (s : Same I J) (h : OutOk X pi rm P Lm ms2 D B I o) : OutOk X pi rm P Lm ms2 D B J o := by
  cases o with
  | nx e => exact fun σ L H ρ k z => h σ L H ρ (s.trans k) z
  | bk e => exact fun σ L H ρ k z => h σ L H ρ (s.trans k) z
  | ct e => exact fun σ L H ρ k z => h σ L H ρ (s.trans k) z
  | rt p e => exact fun v σ L H ρ τ k z => h v σ L H ρ τ (s.trans k) z
def seqO (o : Out) (m : MS) : R Out := match o with
  | .nx e => m e
  | .rt p e => .ok (.rt p e)
  | .bk e => .ok (.bk e)
  | .ct e => .ok (.ct e)
def mSeq (m1 m2 : MS) : MS := fun env => (m1 env).bind fun o => seqO o m2
def mSkip : MS := fun env => .ok (.nx env)
theorem againS {D : Ends} {B : Bs} {I J H : Hp} {ρ : Own} {σ : L2.St} {env : List PV} (sj : Same I J) (st : Stt X.K X.mg pi B ms env J H ρ σ) (h : (m env).sat (OutOk X pi rm P Lm ms2 D B I) (fun C fs => ∀ σ, Fly X pi W B I σ C fs)) : tS X pi W rm P Lm ms ms2 m D σ H :=
  ⟨B, J, ρ, env, st, R.sat_mono h (fun o z => z.mono sj) fun C fs z σ => (z σ).mono sj⟩
theorem SSs.nil : SSs X pi W rm P Lm ms ms [] mSkip := by
  refine ⟨PSsimp pss_nil fun D σ H ⟨B, I, ρ, env, st, h⟩ => ?_⟩
  exact (show ∀ σ J H ρ, Same I J → Stt X.K X.mg pi B ms env J H ρ σ → D.nx σ H from h) σ I H ρ (.refl _) st
theorem SSs.one (a : SS X pi W rm P Lm ms ms2 s m) : SSs X pi W rm P Lm ms ms2 [s] m := ⟨pss_one a.ps⟩
theorem SSs.cons (a : SS X pi W rm P Lm ms ms1 s m1) (b : SSs X pi W rm P Lm ms1 ms2 ss m2) : SSs X pi W rm P Lm ms ms2 (s :: ss) (mSeq m1 m2) := by
  refine ⟨PSsimp (pss_cons a.ps b.ps) fun D σ H ⟨B, I, ρ, env, st, h⟩ => ?_⟩
  refine ⟨B, I, ρ, env, st, R.sat_mono (R.sat_bind h) (fun o z => ?_) fun _ _ z => z⟩
  cases o with
  | nx e => exact fun σ2 J H2 ρ2 sj st2 => againS sj st2 z
  | bk e => exact z
  | ct e => exact z
  | rt p e => exact z
/-- less is known from here on -/
def mWk (ms : List Md) (m : MS) : MS := fun env => (m env).bind fun o => match o with
  | .nx e => .ok (.nx (clr ms e))
  | o => .ok o
theorem tS_weak {D : Ends} {σ : L2.St} {H : Hp} (hl : leM ms3 ms2 = true) (h : tS X pi W rm P Lm ms ms3 (mWk ms3 m) D σ H) : tS X pi W rm P Lm ms ms2 m D σ H := by
  obtain ⟨B, I, ρ, env, st, h⟩ := h
  refine ⟨B, I, ρ, env, st, R.sat_mono (R.sat_bind h) (fun o z => ?_) fun _ _ z => z⟩
  cases o with
  | nx e => exact fun σ2 J H2 ρ2 sj st2 => (show ∀ σ J H ρ, Same I J → Stt X.K X.mg pi B ms3 (clr ms3 e) J H ρ σ → D.nx σ H from z) σ2 J H2 ρ2 sj (st2.weak hl)
  | bk e => exact z
  | ct e => exact z
  | rt p e => exact z
theorem SSs.weak (a : SSs X pi W rm P Lm ms ms2 ss m) (hl : leM ms3 ms2 = true := by rfl) : SSs X pi W rm P Lm ms ms3 ss (mWk ms3 m) := ⟨PSsimp a.ps fun D σ H h => tS_weak hl h⟩
theorem SS.weak (a : SS X pi W rm P Lm ms ms2 s m) (hl : leM ms3 ms2 = true := by rfl) : SS X pi W rm P Lm ms ms3 s (mWk ms3 m) := ⟨PSimp a.ps fun D σ H h => tS_weak hl h⟩
/-- a slot is frozen ahead of a block -/
theorem SSs.freeze (i : Nat) (a : SSs X pi W rm P Lm (ms.set i .fz) ms2 ss m) (hm : ms[i]? = some md := by rfl) (hn : md ≠ .un := by decide) (hi : i ∉ pi := by exact of_decide_eq_true rfl) : SSs X pi W rm P Lm ms ms2 ss m := by
  refine ⟨PSsimp a.ps fun D σ H ⟨B, I, ρ, env, st, h⟩ => ?_⟩
  obtain ⟨J, ρ2, sj, st2⟩ := st.freeze hm hn hi
  exact againS sj st2 h
/-- a block that no way comes to -/
theorem SSs.never : SSs X pi W rm P Lm ms ms2 ss (fun _ => .bad) := ⟨PSsimp pss_never fun D σ H ⟨B, I, ρ, env, st, h⟩ => h⟩
theorem SS.pass : SS X pi W rm P Lm ms ms (.Pass pos) mSkip := by
  refine ⟨PSimp ps_pass fun D σ H ⟨B, I, ρ, env, st, h⟩ => ?_⟩
  exact (show ∀ σ J H ρ, Same I J → Stt X.K X.mg pi B ms env J H ρ σ → D.nx σ H from h) σ I H ρ (.refl _) st
def mBrk (Lm : List Md) : MS := fun env => .ok (.bk (clr Lm env))
def mCnt (Lm : List Md) : MS := fun env => .ok (.ct (clr Lm env))
theorem SS.brk (hl : leM Lm ms = true := by rfl) : SS X pi W rm P Lm ms ms2 (.Break pos) (mBrk Lm) := by
  refine ⟨PSimp ps_break fun D σ H ⟨B, I, ρ, env, st, h⟩ => ?_⟩
  exact (show ∀ σ J H ρ, Same I J → Stt X.K X.mg pi B Lm (clr Lm env) J H ρ σ → D.bk σ H from h) σ I H ρ (.refl _) (st.weak hl)
theorem SS.cnt (hl : leM Lm ms = true := by rfl) : SS X pi W rm P Lm ms ms2 (.Continue pos) (mCnt Lm) := by
  refine ⟨PSimp ps_continue fun D σ H ⟨B, I, ρ, env, st, h⟩ => ?_⟩
  exact (show ∀ σ J H ρ, Same I J → Stt X.K X.mg pi B Lm (clr Lm env) J H ρ σ → D.ct σ H from h) σ I H ρ (.refl _) (st.weak hl)
/-- an expression for its effect -/
def mDrop (m : MV) : MS := fun env => (m env).bind fun r => .ok (.nx r.2)
theorem SS.expr (a : SE X pi W ms e md mv) (hs : swapsWith e none pos.line X.env = pure false := by rfl) : SS X pi W rm P Lm ms ms (.Expr e pos) (mDrop mv) := by
  refine ⟨PSimp (ps_expr a.pe hs) fun D σ H ⟨B, I, ρ, env, st, h⟩ => ?_⟩
  refine ⟨B, I, ρ, env, st, R.sat_mono (R.sat_bind h) (fun r z v J H2 ρ2 τ sj st2 _ _ => ?_) fun _ _ z => z σ⟩
  exact (show ∀ σ J H ρ, Same I J → Stt X.K X.mg pi B ms r.2 J H ρ σ → D.nx σ H from z) σ J H2 ρ2 sj st2
/-- return -/
def mRet (P : List Md) (m : MV) : MS := fun env => (m env).bind fun r => .ok (.rt r.1 (clr P r.2))
theorem SS.ret (a : SE X pi W ms e rm mv) (hl : leM P ms = true := by rfl) : SS X pi W rm P Lm ms ms2 (.Return (some e) pos) (mRet P mv) := by
  refine ⟨PSimp (ps_ret a.pe) fun D σ H ⟨B, I, ρ, env, st, h⟩ => ?_⟩
  refine ⟨B, I, ρ, env, st, R.sat_mono (R.sat_bind h) (fun r z v J H2 ρ2 τ sj st2 t2 en => ?_) fun _ _ z => z σ⟩
  exact (show ∀ v σ J H ρ τ, Same I J → Stt X.K X.mg pi B P (clr P r.2) J H ρ σ → Tau B J H ρ τ → Ent X.K X.mg J H τ 0 rm r.1 (some v) → D.rt v H from z) v σ J H2 ρ2 τ sj (st2.weak hl) t2 en
/-- an own slot is handed back -/
def mRetOwn (P : List Md) (i : Nat) : MS := fun env => match env[i]? with
  | some p => .ok (.rt p (clr P env))
  | none => .bad
theorem SS.retOwn (i : Nat) (hm : ms[i]? = some rm := by rfl) (hn : rm ≠ .un := by decide) (hi : i ∉ pi := by exact of_decide_eq_true rfl) (hl : leM P (ms.set i .un) = true := by rfl) (hN : X.N[i]? = some x := by rfl) (hv : Vis X.env.scope x := by first | exact Or.inl rfl | exact Or.inr (Or.inl rfl) | exact Or.inr (Or.inr rfl))
    (hd : (x == ("__debug__" : Str)) = false := by decide) (hcd : (x == ("__classdict__" : Str)) = false := by decide) : SS X pi W rm P Lm ms ms2 (.Return (some (.Name x p1)) pos) (mRetOwn P i) := by
  refine ⟨PSimp (ps_ret (pe_var hN hv hd hcd)) fun D σ H ⟨B, I, ρ, env, st, h⟩ => ?_⟩
  obtain ⟨p, v, e1, e2, s2, t2, en⟩ := st.takeOut hm hi
  unfold mRetOwn at h
  rw [e1] at h
  obtain ⟨y, rfl⟩ : ∃ y, v = some y := by
    obtain ⟨y, ey, _⟩ := en.froz (J := frzH I H fun a => (tagAt i ρ a).isSome) (frz_same st.sub _) (fun b r vs h1 h2 => by rw [frz_t (by show (tagAt i ρ b).isSome = true; rw [h1]; rfl)]; exact h2) hn
    exact ⟨y, ey⟩
  exact ⟨y, e2, (show ∀ v σ J H ρ τ, Same I J → Stt X.K X.mg pi B P (clr P env) J H ρ σ → Tau B J H ρ τ → Ent X.K X.mg J H τ 0 rm p (some v) → D.rt v H from h) y σ I H _ _ (.refl _) (s2.weak hl) t2 en⟩
/-- if -/
def mIfS (c : MB) (m1 m2 : MS) : MS := mIf c m1 m2
theorem SS.ite {c : Expr} {b : MB} {s1 s2 : List Stmt} (hc : ST X pi W ms c b) (a1 : SSs X pi W rm P Lm ms ms2 s1 m1) (a2 : SSs X pi W rm P Lm ms ms2 s2 m2) : SS X pi W rm P Lm ms ms2 (.If c s1 s2 pos) (mIf b m1 m2) := by
  refine ⟨PSimp (ps_if hc.pt a1.ps a2.ps) fun D σ H ⟨B, I, ρ, env, st, h⟩ => ?_⟩
  refine ⟨B, I, ρ, env, st, R.sat_mono (R.sat_bind h) (fun r z J H2 ρ2 sj st2 => ?_) fun _ _ z => z σ⟩
  by_cases w : r.1 = true
  · rw [if_pos w] at z ⊢
    exact againS sj st2 z
  · rw [if_neg w] at z ⊢
    exact againS sj st2 z
/-- x = e -/
def mSet (i : Nat) (m : MV) : MS := fun env => (m env).bind fun r => .ok (.nx (r.2.set i r.1))
theorem set_core {D : Ends} {σ : L2.St} {H : Hp} (hl : i < ms.length) (hi : i ∉ pi) (h : tS X pi W rm P Lm ms (ms.set i md) (mSet i mv) D σ H) : tAsg (tE X pi W ms md mv) (gName i) D σ H := by
  obtain ⟨B, I, ρ, env, st, h⟩ := h
  refine ⟨B, I, ρ, env, st, R.sat_mono (R.sat_bind h) (fun r z v J H2 ρ2 τ sj st2 t2 en => ?_) fun _ _ z => z σ⟩
  exact (show ∀ σ J H ρ, Same I J → Stt X.K X.mg pi B (ms.set i md) (r.2.set i r.1) J H ρ σ → D.nx σ H from z) _ J H2 _ sj (st2.store hl t2 en hi)
theorem SS.set (i : Nat) (a : SE X pi W ms e md mv) (hN : X.N.Nodup) (hl : i < ms.length := by decide) (hi : i ∉ pi := by exact of_decide_eq_true rfl) (hx : X.N[i]? = some x := by rfl) (hloc : Loc X.env.scope x := by first | exact Or.inl rfl | exact Or.inr rfl)
    (hs : swapsWith e (some (.Name x p1)) pos.line X.env = pure false := by rfl) (hf : X.fn x = true ∨ X.env.scope.names.lookup x = some .local := by first | exact .inl rfl | exact .inr rfl) : SS X pi W rm P Lm ms (ms.set i md) (.Assign [.Name x p1] e pos) (mSet i mv) :=
  ⟨PSimp (ps_set hN hx hloc a.pe hs hf) fun D σ H h => set_core hl hi h⟩
/-- a, b = e1, e2 -/
def mPar (i j : Nat) (m1 m2 : MV) : MS := fun env => (m1 env).bind fun r => (m2 r.2).bind fun r2 => .ok (.nx ((r2.2.set i r.1).set j r2.1))
theorem SS.par (i j : Nat) {y : Str} {mv1 mv2 : MV} {md1 md2 : Md} {kt k2 : Nat} {pt pt2 : Pos} (a : SE X pi W ms e1 md1 mv1) (b : SE X pi W ms e2 md2 mv2) (hc : X.calm = true) (hN : X.N.Nodup) (hli : i < ms.length := by decide) (hlj : j < ms.length := by decide) (hi : i ∉ pi := by exact of_decide_eq_true rfl) (hj : j ∉ pi := by decide) (hij : i ≠ j := by decide) (hp : ∀ k ∈ pi, k < ms.length := by decide)
    (hx : X.N[i]? = some x := by rfl) (hy : X.N[j]? = some y := by rfl) (lx : X.env.scope.names.lookup x = some .local := by rfl) (ly : X.env.scope.names.lookup y = some .local := by rfl)
    (hst : starEach (e1 :: [e2]) X.env = (false, eval e1 X.env) :: starEach [e2] X.env := by rfl) (hst2 : starEach (e2 :: []) X.env = (false, eval e2 X.env) :: starEach [] X.env := by rfl)
    (hw : swappedStores [.Tuple [.Name x p1, .Name y p2] kt pt] (.Tuple [e1, e2] k2 pt2) X.env = pure (some [x, y]) := by rfl)
    (hs : swapsWithSole [.Tuple [.Name x p1, .Name y p2] kt pt] (.Tuple [e1, e2] k2 pt2) pos.line X.env = pure false := by rfl) :
    SS X pi W rm P Lm ms ((ms.set i md1).set j md2) (.Assign [.Tuple [.Name x p1, .Name y p2] kt pt] (.Tuple [e1, e2] k2 pt2) pos) (mPar i j mv1 mv2) := by
  refine ⟨PSimp (ps_par hc hN hx hy hij lx ly (pa_cons a.pe (pa_cons b.pe pa_nil hst2) hst) hw hs) fun D σ H ⟨B, I, ρ, env, st, h⟩ => ?_⟩
  refine ⟨B, I, ρ, env, st, R.sat_mono (R.sat_bind h) (fun r z v J H2 ρ2 τ sj st2 t2 en => ?_) fun _ _ z => z σ⟩
  -- the first value is held while the second one is made
  have sh := st2.hold t2 en hp
  refine ⟨B.hold md1 r.1 v, J, _, r.2, sh, R.sat_mono (R.sat_bind z) (fun r2 z2 v2 L H3 ρ3 τ3 sl st3 t3 en3 => ?_) fun C fs zz => ?_⟩
  · have z2' : ∀ σ J H ρ, Same I J → Stt X.K X.mg pi B ((ms.set i md1).set j md2) ((r2.2.set i r.1).set j r2.1) J H ρ σ → D.nx σ H := z2
    refine ⟨v, v2, rfl, ?_⟩
    obtain ⟨s4, t4, en4⟩ := st3.unhold st2.l1 st2.l2 hp
    -- store the second, then the first: the places do not meet
    have tj : Tau B L H3 (tagNot (ms.length + B.hm.length) ρ3) τ3 := fun a t h => by
      obtain ⟨h1, h2, h3, h4, h5⟩ := t3 a t h
      refine ⟨h1, ?_, h3, h4, h5⟩
      cases w : tagNot (ms.length + B.hm.length) ρ3 a with
      | none => rfl
      | some u =>
        rw [(tagNot_of w).2] at h2
        cases h2
    have s5 := s4.store (i := j) hlj tj en3 hj
    have ti : Tau B L H3 (moveTo j (tagNot (ms.length + B.hm.length) ρ3) τ3) (tagAt (ms.length + B.hm.length) ρ3) := fun a t h => by
      obtain ⟨h1, h2, h3, h4, h5⟩ := t4 a t h
      refine ⟨h1, ?_, h3, h4, h5⟩
      have hρ := (tagAt_of h).2
      have hτ : τ3 a = none := by
        cases w : τ3 a with
        | none => rfl
        | some u =>
          have := (t3 a u w).2.1
          rw [hρ] at this; cases this
      unfold moveTo
      rw [hτ, h2]
    have s6 := s5.store (i := i) (by rw [List.length_set]; exact hli) ti en4 hi
    rw [List.set_comm _ _ (Ne.symm hij), List.set_comm _ _ (Ne.symm hij), List.set_comm _ _ (Ne.symm hij)] at s6
    exact z2' _ L H3 _ (sj.trans sl) s6
  · exact fun c d L H3 ρ3 h1 h2 h3 h4 h7 => zz σ c d L H3 ρ3 h1 (sj.trans h2) h3.unhold h4 h7.unhold
/-- targets -/
def gN (i : Nat) : PV → List PV → Option (List PV) := fun p env => some (env.set i p)
theorem SG.name (i : Nat) (hN : X.N.Nodup) (hl : i < ms.length := by decide) (hi : i ∉ pi := by exact of_decide_eq_true rfl) (hx : X.N[i]? = some x := by rfl) (hloc : Loc X.env.scope x := by first | exact Or.inl rfl | exact Or.inr rfl)
    (hf : X.fn x = true ∨ X.env.scope.names.lookup x = some .local := by first | exact .inl rfl | exact .inr rfl) : SG X pi ms (ms.set i .fz) [i] (.Name x pos) (gN i) := by
  refine ⟨PGimp (pg_name hN hx hloc hf) fun v σ H Q ⟨B, I, ρ, env, p, e2, st, r, e, k⟩ => ?_⟩
  cases e
  exact k _ _ _ (fun j hj => List.getElem?_set_ne (fun z => hj (by rw [z]; exact List.mem_cons_self))) (st.store hl .none (ent_fz.mpr r) hi)
def gsNil : List PV → List PV → Option (List PV) := fun ps env => match ps with
  | [] => some env
  | _ => none
def gsCons (g : PV → List PV → Option (List PV)) (h : List PV → List PV → Option (List PV)) : List PV → List PV → Option (List PV) := fun ps env => match ps with
  | p :: r => match g p env with
    | some e => h r e
    | none => none
  | [] => none
theorem SGs.nil : SGs X pi ms ms [] [] gsNil := by
  refine ⟨PGsimp pgs_nil fun v σ H Q ⟨B, I, ρ, env, ps, e2, st, r, e, k⟩ => ?_⟩
  cases ps with
  | nil =>
    cases e
    exact ⟨r.inv0, k _ _ _ (fun _ _ => rfl) st⟩
  | cons p ps => cases e
theorem SGs.cons {t1 t2 : List Nat} {es : List Expr} {g : PV → List PV → Option (List PV)} {h : List PV → List PV → Option (List PV)} (a : SG X pi ms ms1 t1 e g) (b : SGs X pi ms1 ms2 t2 es h) (hs : (assignEach (e :: es) X.env).map (·.2) = assign e X.env :: (assignEach es X.env).map (·.2) := by rfl) :
    SGs X pi ms ms2 (t1 ++ t2) (e :: es) (gsCons g h) := by
  refine ⟨PGsimp (pgs_cons a.pg b.pg hs) fun v σ H Q ⟨B, I, ρ, env, ps, e2, st, r, e, k⟩ => ?_⟩
  cases ps with
  | nil => cases e
  | cons p ps =>
    obtain ⟨v, t, rfl, r1, r2⟩ := r.inv
    unfold gsCons at e
    dsimp only at e
    cases w : g p env with
    | none => rw [w] at e; cases e
    | some e3 =>
      rw [w] at e
      exact ⟨v, t, rfl, B, I, ρ, env, p, e3, st, r1, w, fun σ2 ρ2 H2 k2 st2 => ⟨B, I, ρ2, e3, ps, e2, st2, r2, e, fun σ3 ρ3 H3 k3 st3 => k σ3 ρ3 H3 (fun j hj => (k3 j fun z => hj (List.mem_append_right _ z)).trans (k2 j fun z => hj (List.mem_append_left _ z))) st3⟩⟩
def gTupT (h : List PV → List PV → Option (List PV)) : PV → List PV → Option (List PV)
  | .tup ps, env => h ps env
  | _, _ => none
theorem SG.tup {ts : List Nat} {es : List Expr} {k : Nat} {n : Nat} {h : List PV → List PV → Option (List PV)} (hc : X.calm = true) (a : SGs X pi ms ms2 ts es h) (hlen : ∀ ps env r, h ps env = some r → ps.length = n) (hn : (assignEach es X.env).length = n := by rfl) (hst : (assignEach es X.env).findIdx? (·.1) = none := by rfl) : SG X pi ms ms2 ts (.Tuple es k pos) (gTupT h) := by
  refine ⟨PGimp (pg_tup hc a.pg hn hst) fun v σ H Q ⟨B, I, ρ, env, p, e2, st, r, e, kk⟩ => ?_⟩
  cases p with
  | tup ps =>
    obtain ⟨u, vs, rfl, h1, h2⟩ := repT r
    exact ⟨u, vs, rfl, sqt_mono st.sub h1, by rw [h2.len]; exact hlen _ _ _ e, B, I, ρ, env, ps, e2, st, h2, e, kk⟩
  | _ => cases e
theorem gs_len0 : ∀ ps env r, gsNil ps env = some r → ps.length = 0 := fun ps env r h => by
  cases ps with
  | nil => rfl
  | cons p ps => cases h
theorem gs_lenS {g : PV → List PV → Option (List PV)} {h : List PV → List PV → Option (List PV)} {n : Nat} (k : ∀ ps env r, h ps env = some r → ps.length = n) : ∀ ps env r, gsCons g h ps env = some r → ps.length = n + 1 := fun ps env r e => by
  cases ps with
  | nil => cases e
  | cons p ps =>
    unfold gsCons at e
    dsimp only at e
    cases w : g p env with
    | none => rw [w] at e; cases e
    | some e3 =>
      rw [w] at e
      simp [k _ _ _ e]
/-- a, b, .. = e by targets -/
def mAsg (g : PV → List PV → Option (List PV)) (m : MV) : MS := fun env => (m env).bind fun r => match g r.1 r.2 with
  | some e => .ok (.nx e)
  | none => .bad
theorem SS.asg {ts : List Nat} {t : Expr} {g : PV → List PV → Option (List PV)} (a : SE X pi W ms e .fz mv) (b : SG X pi ms ms2 ts t g) (hs : swapsWithSole [t] e pos.line X.env = pure false := by rfl) (hw : swappedStores [t] e X.env = pure none := by rfl)
    (h1 : (assignEach [t] X.env).map (·.2) = [assign t X.env] := by rfl) : SS X pi W rm P Lm ms ms2 (.Assign [t] e pos) (mAsg g mv) := by
  refine ⟨PSimp (ps_asg a.pe b.pg hs hw h1) fun D σ H ⟨B, I, ρ, env, st, h⟩ => ?_⟩
  refine ⟨B, I, ρ, env, st, R.sat_mono (R.sat_bind h) (fun r z v J H2 ρ2 τ sj st2 t2 en => ?_) fun _ _ z => z σ⟩
  cases w : g r.1 r.2 with
  | none => rw [w] at z; exact z.elim
  | some e3 =>
    rw [w] at z
    exact ⟨B, J, ρ2, r.2, r.1, e3, st2, ent_fz.mp en, w, fun σ2 ρ3 H3 _ st3 => (show ∀ σ J H ρ, Same I J → Stt X.K X.mg pi B ms2 e3 J H ρ σ → D.nx σ H from z) σ2 J H3 ρ3 sj st3⟩
/-- x[e1] = v of an own list -/
def gSetOwn (i : Nat) (m : MP) : PV → List PV → Option (List PV) := fun p env => match env[i]?, m env with
  | some (.lst ps), some (.int k) => match ixN ps.length k with
    | some j => some (env.set i (.lst (ps.set j p)))
    | none => none
  | _, _ => none
variable {mp mp1 mp2 : MP}
theorem SG.subOwn (i : Nat) (b : SP X pi ms e mp) (hm : ms[i]? = some .ow := by rfl) (hN : X.N[i]? = some x := by rfl) (hv : Vis X.env.scope x := by first | exact Or.inl rfl | exact Or.inr (Or.inl rfl) | exact Or.inr (Or.inr rfl))
    (hd : (x == ("__debug__" : Str)) = false := by decide) (hcd : (x == ("__classdict__" : Str)) = false := by decide)
    (ha : ∀ v, assign (.Subscript (.Name x p1) e pos) X.env v = (do
      let ov ← holding [v] (eval (.Name x p1) X.env)
      let iv ← holding [v, ov] (eval e X.env)
      standAt pos
      holding [v, ov, iv] (setItem ov iv v)
      release [v, ov, iv] []) := by intro _; rfl) : SG X pi ms ms [] (.Subscript (.Name x p1) e pos) (gSetOwn i mp) := by
  refine ⟨PGimp (pg_sub (pe_var hN hv hd hcd) b.pe set_list ha) fun v σ H Q ⟨B, I, ρ, env, p, e2, st, r, w, k⟩ => ?_⟩
  obtain ⟨a, ps, vs, o, rl⟩ := st.own hm
  unfold gSetOwn at w
  rw [o.en] at w
  cases w1 : mp env with
  | none => rw [w1] at w; cases w
  | some q =>
    rw [w1] at w
    cases q with
    | int n =>
      dsimp only at w
      cases w2 : ixN ps.length n with
      | none => rw [w2] at w; cases w
      | some j =>
        rw [w2] at w
        cases w
        exact ⟨_, o.st, B, I, ρ, env, _, st, w1, fun y ry => ⟨a, vs, n, j, rfl, repI ry, o.at_, by rw [rl.len]; exact w2, k _ _ _ (fun _ _ => rfl) (st.write1 hm o (rl.set j r))⟩⟩
    | _ => cases w
/-- x[e1][e2] = v of an own list of own lists -/
def gSetOwn2 (i : Nat) (m1 m2 : MP) : PV → List PV → Option (List PV) := fun p env => match env[i]?, m1 env, m2 env with
  | some (.lst ps), some (.int k), some (.int n) => match ixN ps.length k with
    | some j => match ps[j]? with
      | some (.lst qs) => match ixN qs.length n with
        | some l => some (env.set i (.lst (ps.set j (.lst (qs.set l p)))))
        | none => none
      | _ => none
    | none => none
  | _, _, _ => none
theorem SG.subOwn2 (i : Nat) (b1 : SP X pi ms e1 mp1) (b2 : SP X pi ms e2 mp2) (hm : ms[i]? = some .ow2 := by rfl) (hN : X.N[i]? = some x := by rfl) (hv : Vis X.env.scope x := by first | exact Or.inl rfl | exact Or.inr (Or.inl rfl) | exact Or.inr (Or.inr rfl))
    (hd : (x == ("__debug__" : Str)) = false := by decide) (hcd : (x == ("__classdict__" : Str)) = false := by decide) (hs1 : PlainIx e1 := by exact fun _ _ => rfl)
    (ha : ∀ v, assign (.Subscript (.Subscript (.Name x p1) e1 p2) e2 pos) X.env v = (do
      let ov ← holding [v] (eval (.Subscript (.Name x p1) e1 p2) X.env)
      let iv ← holding [v, ov] (eval e2 X.env)
      standAt pos
      holding [v, ov, iv] (setItem ov iv v)
      release [v, ov, iv] []) := by intro _; rfl) : SG X pi ms ms [] (.Subscript (.Subscript (.Name x p1) e1 p2) e2 pos) (gSetOwn2 i mp1 mp2) := by
  refine ⟨PGimp (pg_sub (pe_ix ix_list (pe_var hN hv hd hcd) b1.pe hs1) b2.pe set_list ha) fun v σ H Q ⟨B, I, ρ, env, p, e2, st, r, w, k⟩ => ?_⟩
  obtain ⟨a, ps, vs, o, rl⟩ := st.own2 hm
  unfold gSetOwn2 at w
  rw [o.en] at w
  cases w1 : mp1 env with
  | none => rw [w1] at w; cases w
  | some q1 =>
    cases w2 : mp2 env with
    | none => rw [w1, w2] at w; cases q1 <;> cases w
    | some q2 =>
      rw [w1, w2] at w
      cases q1 with
      | int n1 =>
        cases q2 with
        | int n2 =>
          dsimp only at w
          cases w3 : ixN ps.length n1 with
          | none => rw [w3] at w; cases w
          | some j =>
            rw [w3] at w
            dsimp only at w
            cases w4 : ps[j]? with
            | none => rw [w4] at w; cases w
            | some row =>
              obtain ⟨b, ws, ys, g1, g2, g3, g4, g5⟩ := rl.get w4
              subst g2
              rw [w4] at w
              dsimp only at w
              cases w5 : ixN ys.length n2 with
              | none => rw [w5] at w; cases w
              | some l =>
                rw [w5] at w
                cases w
                have nab : a ≠ b := fun z => by
                  have h1 := o.rh
                  rw [z, g3] at h1
                  cases h1
                refine ⟨_, o.st, B, I, ρ, env, _, st, w1, fun y ry => ⟨a, vs, n1, .ref b, rfl, repI ry, SqL.of o.at_, ?_, B, I, ρ, env, _, st, w2, fun y2 ry2 => ⟨b, ws, n2, l, rfl, repI ry2, g4, by rw [g5.len]; exact w5, k σ ρ _ (fun _ _ => rfl) ?_⟩⟩⟩
                · unfold atI
                  rw [rl.len, w3]
                  exact g1
                · refine st.write hm o.st g3 ?_
                  unfold Ent
                  exact ⟨a, _, vs, rfl, rfl, o.rh, by rw [upd_ne nab]; exact o.at_, RowsOk.setRow (g5.set l r) rl g1 g3⟩
        | _ => cases w
      | _ => cases q2 <;> cases w
/-- two targets in a row: t1 = t2 = e -/
def mAsg2 (g1 g2 : PV → List PV → Option (List PV)) (m : MV) : MS := fun env => (m env).bind fun r => match g1 r.1 r.2 with
  | some e => match g2 r.1 e with
    | some e' => .ok (.nx e')
    | none => .bad
  | none => .bad
theorem SS.asg2 {ts1 ts2 : List Nat} {t1 t2 : Expr} {g1 g2 : PV → List PV → Option (List PV)} (a : SE X pi W ms e .fz mv) (b1 : SG X pi ms ms1 ts1 t1 g1) (b2 : SG X pi ms1 ms2 ts2 t2 g2) (hw : swappedStores [t1, t2] e X.env = pure none := by rfl)
    (h1 : (assignEach [t1, t2] X.env).map (·.2) = [assign t1 X.env, assign t2 X.env] := by rfl) : SS X pi W rm P Lm ms ms2 (.Assign [t1, t2] e pos) (mAsg2 g1 g2 mv) := by
  refine ⟨PSimp (ps_asg2 a.pe b1.pg b2.pg h1 hw) fun D σ H ⟨B, I, ρ, env, st, h⟩ => ?_⟩
  refine ⟨B, I, ρ, env, st, R.sat_mono (R.sat_bind h) (fun r z v J H2 ρ2 τ sj st2 t2 en => ?_) fun _ _ z => z σ⟩
  cases w : g1 r.1 r.2 with
  | none => rw [w] at z; exact z.elim
  | some e3 =>
    rw [w] at z
    dsimp only at z
    cases w2 : g2 r.1 e3 with
    | none => rw [w2] at z; exact z.elim
    | some e4 =>
      rw [w2] at z
      exact ⟨B, J, ρ2, r.2, r.1, e3, st2, ent_fz.mp en, w, fun σ2 ρ3 H3 _ st3 => ⟨B, J, ρ3, e3, r.1, e4, st3, ent_fz.mp en, w2, fun σ4 ρ4 H4 _ st4 => (show ∀ σ J H ρ, Same I J → Stt X.K X.mg pi B ms2 e4 J H ρ σ → D.nx σ H from z) σ4 J H4 ρ4 sj st4⟩⟩
end
end Cq

/-! text Cq9 -/
set_option Elab.async false
set_option linter.all false
set_option maxRecDepth 100000
/-! Cq, part 9: loops and comprehensions. -/
namespace Cq
open PySem PySem.Spec L2

section
variable {X : Cx} {pi : Pin} {W : WX} {rm md : Md} {P Lm ms ms1 ms2 ms3 : List Md} {pos p1 p2 p3 p4 : Pos} {e e1 e2 tg : Expr} {ss : List Stmt} {m : MS} {mv : MV} {x : Str} {i : Nat}
/-! ### for -/
def forM (ML : List Md) (g : PV → List PV → Option (List PV)) (body : MS) : List PV → MS
  | [], env => .ok (.nx env)
  | p :: ps, env => match g p env with
    | none => .bad
    | some e1 => (body e1).bind fun o => match o with
      | .nx e => forM ML g body ps (clr ML e)
      | .ct e => forM ML g body ps e
      | .bk e => .ok (.nx e)
      | .rt v e => .ok (.rt v e)
def mFor (ML : List Md) (it : MI) (g : PV → List PV → Option (List PV)) (body : MS) : MS := fun env => (it env).bind fun r => forM ML g body r.1 (clr ML r.2)
theorem ItOk.mono {T : It} {ps : List PV} {I J : Hp} (h : ItOk X T ps I) (s : Same I J) : ItOk X T ps J := fun L H k1 k2 => h L H (s.trans k1) k2
theorem SS.for_ {it : MI} {g : PV → List PV → Option (List PV)} {ts : List Nat} (ML : List Md) (a : SI X pi W ms tg e it) (b : SG X pi ML ms1 ts tg g) (c : SSs X pi W rm P ML ms1 ms2 ss m) (po : PassesOwn (model X.prog X.w) X.A X.env X.xe) (hc : X.calm = true)
    (h1 : leM ML ms = true := by rfl) (h2 : leM ML ms2 = true := by rfl) (hs : ∀ x, foldedSetIterable e X.env x = pure x := by intro _; rfl) : SS X pi W rm P Lm ms ML (.For tg e ss [] pos) (mFor ML it g m) := by
  refine ⟨PSimp (ps_for po hc a.pi_ b.pg c.ps hs) fun D σ H ⟨B, I, ρ, env, st, h⟩ => ?_⟩
  refine ⟨B, I, ρ, env, st, R.sat_mono (R.sat_bind h) (fun r z T J H2 ρ2 sj st2 ok => ?_) fun _ _ z => z σ⟩
  refine ⟨fun i n σ' H' => n = r.1.length - i ∧ i ≤ r.1.length ∧ ∃ L ρ3 en, Same J L ∧ Stt X.K X.mg pi B ML en L H' ρ3 σ' ∧ (forM ML g m (r.1.drop i) en).sat (OutOk X pi rm P Lm ML D B I) (fun C fs => ∀ σ, Fly X pi W B I σ C fs),
    ⟨r.1.length, by simp, Nat.zero_le _, J, ρ2, _, .refl _, st2.weak h1, z⟩, ?_⟩
  rintro i n σ' H' ⟨rfl, hi, L, ρ3, en, sl, st3, hz⟩
  obtain ⟨g1, g2⟩ := ok.mono sl L H' (.refl _) st3.sub
  by_cases hlt : i < r.1.length
  · refine .inr ⟨(g1 i _ (List.getElem?_eq_getElem hlt)).1, fun σ5 H5 => i + 1 ≤ r.1.length ∧ ∃ L5 ρ5 en5, Same J L5 ∧ Stt X.K X.mg pi B ML en5 L5 H5 ρ5 σ5 ∧ (forM ML g m (r.1.drop (i + 1)) en5).sat (OutOk X pi rm P Lm ML D B I) (fun C fs => ∀ σ, Fly X pi W B I σ C fs), fun σ5 H5 q => ⟨_, by omega, rfl, q⟩, fun x H4 y => ?_⟩
    obtain ⟨L4, g4, rx⟩ := (g1 i _ (List.getElem?_eq_getElem hlt)).2 x H4 y
    rw [List.drop_eq_getElem_cons hlt] at hz
    unfold forM at hz
    cases w : g r.1[i] en with
    | none => rw [w] at hz; exact hz.elim
    | some e3 =>
      rw [w] at hz
      refine ⟨B, L4, ρ3, en, _, e3, st3.grow g4, rx, w, fun σ6 ρ6 H6 _ st6 => ?_⟩
      have sij : Same I L4 := (sj.trans sl).trans g4.i
      refine ⟨B, L4, ρ6, e3, st6, R.sat_mono (R.sat_bind hz) (fun o zo => ?_) fun C fs zz σ => (zz σ).mono sij⟩
      cases o with
      | nx e => exact fun σ7 L7 H7 ρ7 s7 st7 => ⟨hlt, L7, ρ7, _, (sl.trans g4.i).trans s7, st7.weak h2, zo⟩
      | ct e => exact fun σ7 L7 H7 ρ7 s7 st7 => ⟨hlt, L7, ρ7, _, (sl.trans g4.i).trans s7, st7, zo⟩
      | bk e => exact fun σ7 L7 H7 ρ7 s7 st7 => (show ∀ σ J H ρ, Same I J → Stt X.K X.mg pi B ML e J H ρ σ → D.nx σ H from zo) σ7 L7 H7 ρ7 (sij.trans s7) st7
      | rt p e => exact OutOk.mono (o := .rt p e) sij zo
  · have hl : i = r.1.length := by omega
    subst hl
    rw [List.drop_length] at hz
    exact .inl ⟨g2, (show ∀ σ J H ρ, Same I J → Stt X.K X.mg pi B ML en J H ρ σ → D.nx σ H from hz) σ' L H' ρ3 (sj.trans sl) st3⟩
/-! ### while -/
def whileM (ML : List Md) (c : MB) (body : MS) : Nat → MS
  | 0, _ => .bad
  | n + 1, env => (c env).bind fun r => if r.1 = true then (body r.2).bind fun o => match o with
      | .nx e => whileM ML c body n (clr ML e)
      | .ct e => whileM ML c body n e
      | .bk e => .ok (.nx e)
      | .rt v e => .ok (.rt v e)
    else .ok (.nx r.2)
def mWhile (ML : List Md) (fuel : List PV → Nat) (c : MB) (body : MS) : MS := fun env => whileM ML c body (fuel (clr ML env)) (clr ML env)
theorem SS.while_ {c : Expr} {b : MB} (ML : List Md) (fuel : List PV → Nat) (hc : ST X pi W ML c b) (a : SSs X pi W rm P ML ML ms2 ss m) (po : PassesOwn (model X.prog X.w) X.A X.env X.xe) (h1 : leM ML ms = true := by rfl) (h2 : leM ML ms2 = true := by rfl) :
    SS X pi W rm P Lm ms ML (.While c ss [] pos) (mWhile ML fuel b m) := by
  refine ⟨PSimp (ps_while po hc.pt a.ps) fun D σ H ⟨B, I, ρ, env, st, h⟩ => ?_⟩
  refine ⟨fun n σ' H' => ∃ L ρ3 en, Same I L ∧ Stt X.K X.mg pi B ML en L H' ρ3 σ' ∧ (whileM ML b m n en).sat (OutOk X pi rm P Lm ML D B I) (fun C fs => ∀ σ, Fly X pi W B I σ C fs), ⟨_, I, ρ, _, .refl _, st.weak h1, h⟩, ?_⟩
  rintro n σ' H' ⟨L, ρ3, en, sl, st3, hz⟩
  cases n with
  | zero => exact hz.elim
  | succ n =>
    unfold whileM at hz
    refine ⟨B, L, ρ3, en, st3, R.sat_mono (R.sat_bind hz) (fun r z J H2 ρ2 sj st2 => ?_) fun C fs zz => (zz σ').mono sl⟩
    by_cases w : r.1 = true
    · rw [if_pos w] at z ⊢
      refine ⟨fun σ5 H5 => ∃ L5 ρ5 en5, Same I L5 ∧ Stt X.K X.mg pi B ML en5 L5 H5 ρ5 σ5 ∧ (whileM ML b m n en5).sat (OutOk X pi rm P Lm ML D B I) (fun C fs => ∀ σ, Fly X pi W B I σ C fs), fun σ5 H5 q => ⟨n, Nat.lt_succ_self n, q⟩, ?_⟩
      have sij : Same I J := sl.trans sj
      refine ⟨B, J, ρ2, r.2, st2, R.sat_mono (R.sat_bind z) (fun o zo => ?_) fun C fs zz σ => (zz σ).mono sij⟩
      cases o with
      | nx e => exact fun σ7 L7 H7 ρ7 s7 st7 => ⟨L7, ρ7, _, sij.trans s7, st7.weak h2, zo⟩
      | ct e => exact fun σ7 L7 H7 ρ7 s7 st7 => ⟨L7, ρ7, _, sij.trans s7, st7, zo⟩
      | bk e => exact fun σ7 L7 H7 ρ7 s7 st7 => (show ∀ σ J H ρ, Same I J → Stt X.K X.mg pi B ML e J H ρ σ → D.nx σ H from zo) σ7 L7 H7 ρ7 (sij.trans s7) st7
      | rt p e => exact OutOk.mono (o := .rt p e) sij zo
    · rw [if_neg w] at z ⊢
      exact (show ∀ σ J H ρ, Same I J → Stt X.K X.mg pi B ML r.2 J H ρ σ → D.nx σ H from z) σ' J H2 ρ2 (sl.trans sj) st2

/-! ### what is walked -/
theorem itList {a : Addr} {vs : List V} {ps : List PV} {I : Hp} (h : I a = some (.lst vs)) (r : RepL X.K X.mg I ps vs) : ItOk X (Itl X.K a) ps I := fun L H k1 k2 => by
  have hq : SqL X.K H a vs := SqL.of (k2 _ _ (k1 _ _ h))
  refine ⟨fun i p e => ?_, vs, hq, by rw [r.len]; exact Nat.le_refl _⟩
  obtain ⟨v, h1, h2⟩ := r.get e
  refine ⟨⟨vs, v, hq, h1⟩, fun x H2 y => ?_⟩
  obtain ⟨rfl, y⟩ := y
  have e2 := y vs hq
  rw [h1] at e2
  cases e2
  exact ⟨L, .refl k2, h2.mono k1⟩
theorem itTup {a : Addr} {vs : List V} {ps : List PV} {I : Hp} (h : SqT X.K I a vs) (r : RepL X.K X.mg I ps vs) : ItOk X (Itt X.K a) ps I := fun L H k1 k2 => by
  have hq : SqT X.K H a vs := sqt_mono k2 (sqt_mono k1 h)
  refine ⟨fun i p e => ?_, vs, hq, by rw [r.len]; exact Nat.le_refl _⟩
  obtain ⟨v, h1, h2⟩ := r.get e
  refine ⟨⟨vs, v, hq, h1⟩, fun x H2 y => ?_⟩
  obtain ⟨rfl, y⟩ := y
  have e2 := y vs hq
  rw [h1] at e2
  cases e2
  exact ⟨L, .refl k2, h2.mono k1⟩
theorem itScr {a : Addr} {ns : List Int} {I : Hp} (h : SqL X.K I a (ns.map V.int)) : ItOk X (Itl X.K a) (ns.map PV.int) I := fun L H k1 k2 => by
  have hq : SqL X.K H a (ns.map V.int) := k2.seq (k1.seq h)
  refine ⟨fun i p e => ?_, _, hq, by rw [List.length_map, List.length_map]; exact Nat.le_refl _⟩
  obtain ⟨n, h1, h2⟩ : ∃ n, ns[i]? = some n ∧ p = .int n := by
    rw [List.getElem?_map] at e
    cases w : ns[i]? with
    | none => rw [w] at e; cases e
    | some n => rw [w] at e; cases e; exact ⟨n, rfl, rfl⟩
  subst h2
  have h3 : (ns.map V.int)[i]? = some (.int n) := by rw [List.getElem?_map, h1]; rfl
  refine ⟨⟨_, _, hq, h3⟩, fun x H2 y => ?_⟩
  obtain ⟨rfl, y⟩ := y
  have e2 := y _ hq
  rw [h3] at e2
  cases e2
  exact ⟨L, .refl k2, rep_int⟩
/-- the ints lo, lo + 1, .. -/
def rangeP (lo : Int) (n : Nat) : List PV := (List.range n).map fun k => .int (lo + (k : Nat))
theorem itRange {lo : Int} {n : Nat} {I : Hp} : ItOk X (Itr lo n) (rangeP lo n) I := fun L H k1 k2 => by
  have hl : (rangeP lo n).length = n := by simp [rangeP]
  refine ⟨fun i p e => ?_, by rw [hl]; exact Nat.le_refl _⟩
  have hi : i < n := by
    have := (List.getElem?_eq_some_iff.mp e).1
    rw [hl] at this; exact this
  have ep : p = .int (lo + (i : Nat)) := by
    unfold rangeP at e
    rw [List.getElem?_map, List.getElem?_range hi] at e
    cases e; rfl
  subst ep
  refine ⟨hi, fun x H2 y => ?_⟩
  obtain ⟨rfl, rfl⟩ := y
  exact ⟨L, .refl k2, rep_int⟩
def mIt (f : PV → Option (List PV)) (m : MV) : MI := fun env => (m env).bind fun r => match f r.1 with
  | some ps => .ok (ps, r.2)
  | none => .bad
def itL : PV → Option (List PV)
  | .lst ps => some ps
  | .scr ns => some (ns.map PV.int)
  | _ => none
def itT : PV → Option (List PV)
  | .tup ps => some ps
  | _ => none
theorem SI.list (a : SE X pi W ms e .fz mv) : SI X pi W ms tg e (mIt itL mv) := by
  refine ⟨PIimp (pi_list a.pe) fun σ H Q ⟨B, I, ρ, env, st, h⟩ => ?_⟩
  refine ⟨B, I, ρ, env, st, R.sat_mono (R.sat_bind h) (fun r z v J H2 ρ2 τ sj st2 t2 en => ?_) fun _ _ z => z⟩
  obtain ⟨p, e2⟩ := r
  cases p with
  | lst ps =>
    obtain ⟨a, vs, rfl, h1, h2⟩ := repL (ent_fz.mp en)
    exact ⟨a, rfl, ⟨vs, SqL.of (st2.sub _ _ h1)⟩, (show ∀ T J H2 ρ2, Same I J → Stt X.K X.mg pi B ms e2 J H2 ρ2 σ → ItOk X T ps J → Q T H2 from z) _ J H2 ρ2 sj st2 (itList h1 h2)⟩
  | scr ns =>
    have rr := ent_fz.mp en
    unfold Rep at rr
    obtain ⟨a, rfl, h1⟩ := rr
    exact ⟨a, rfl, ⟨_, st2.sub.seq h1⟩, (show ∀ T J H2 ρ2, Same I J → Stt X.K X.mg pi B ms e2 J H2 ρ2 σ → ItOk X T (ns.map PV.int) J → Q T H2 from z) _ J H2 ρ2 sj st2 (itScr h1)⟩
  | _ => exact (show False from z).elim
theorem SI.tup (a : SE X pi W ms e .fz mv) : SI X pi W ms tg e (mIt itT mv) := by
  refine ⟨PIimp (pi_tup a.pe) fun σ H Q ⟨B, I, ρ, env, st, h⟩ => ?_⟩
  refine ⟨B, I, ρ, env, st, R.sat_mono (R.sat_bind h) (fun r z v J H2 ρ2 τ sj st2 t2 en => ?_) fun _ _ z => z⟩
  obtain ⟨p, e2⟩ := r
  cases p with
  | tup ps =>
    obtain ⟨a, vs, rfl, h1, h2⟩ := repT (ent_fz.mp en)
    exact ⟨a, rfl, ⟨vs, sqt_mono st2.sub h1⟩, (show ∀ T J H2 ρ2, Same I J → Stt X.K X.mg pi B ms e2 J H2 ρ2 σ → ItOk X T ps J → Q T H2 from z) _ J H2 ρ2 sj st2 (itTup h1 h2)⟩
  | _ => exact (show False from z).elim
/-- a list or a tuple, as it comes -/
theorem PI.or {wi wi2 : TI} (a : PI X tg e wi) (b : PI X tg e wi2) : PI X tg e (fun σ H R => wi σ H R ∨ wi2 σ H R) := ⟨fun pn sh st hp q iv w => by
  rcases w with w | w
  · exact a.run pn sh st hp q iv w
  · exact b.run pn sh st hp q iv w⟩
/-- range(n), range(a, b) -/
def rgOk (i j : Int) : Bool := Nat.ble i.natAbs 4611686018427387903 && Nat.ble j.natAbs 4611686018427387903
theorem rgOk_spec {i j : Int} (h : rgOk i j = true) : -(2 ^ 62) ≤ i ∧ i < 2 ^ 62 ∧ -(2 ^ 62) ≤ j ∧ j < 2 ^ 62 := by
  unfold rgOk at h
  rw [Bool.and_eq_true] at h
  have h1 := Nat.le_of_ble_eq_true h.1
  have h2 := Nat.le_of_ble_eq_true h.2
  omega
def gRg1 : List PV → Option (List PV)
  | [.int j] => if rgOk 0 j = true then some (rangeP 0 j.toNat) else none
  | _ => none
def gRg2 : List PV → Option (List PV)
  | [.int i, .int j] => if rgOk i j = true then some (rangeP i (j - i).toNat) else none
  | _ => none
def mRg (g : List PV → Option (List PV)) (a : MA) : MI := fun env => (a env).bind fun r => match g r.1 with
  | some ps => .ok (ps, r.2)
  | none => .bad
variable {ma : MA}
theorem SI.range1 (a : SA X pi W ms [e] ma) (hm : X.mg "range" = none) (hg : Gl X "range" := by rfl) (hs : starEach [e] X.env = [(false, eval e X.env)] := by rfl) : SI X pi W ms tg (.Call (.Name "range" p1) [e] [] pos) (mRg gRg1 ma) := by
  refine ⟨PIimp (pi_range1 hg hm a.pa hs) fun σ H Q ⟨B, I, ρ, env, st, h⟩ => ?_⟩
  refine ⟨B, I, ρ, env, st, R.sat_mono (R.sat_bind h) (fun r z vs J H2 ρ2 sj st2 rl => ?_) fun _ _ z => z⟩
  obtain ⟨ps, e2⟩ := r
  cases w : gRg1 ps with
  | none => rw [w] at z; exact z.elim
  | some qs =>
    rw [w] at z
    unfold gRg1 at w
    split at w
    · split at w
      · rename_i k hk
        cases w
        replace hk := rgOk_spec hk
        obtain ⟨v, rfl, h1⟩ := one_arg (H := H2) rl
        exact ⟨k, by rw [repI h1], hk.2.2.1, hk.2.2.2, (show ∀ T J H2 ρ2, Same I J → Stt X.K X.mg pi B ms e2 J H2 ρ2 σ → ItOk X T (rangeP 0 k.toNat) J → Q T H2 from z) _ J H2 ρ2 sj st2 itRange⟩
      · cases w
    · cases w
theorem SI.range2 (a : SA X pi W ms [e1, e2] ma) (hm : X.mg "range" = none) (hg : Gl X "range" := by rfl) (hs : starEach [e1, e2] X.env = [(false, eval e1 X.env), (false, eval e2 X.env)] := by rfl) (hs2 : starEach [e2] X.env = [(false, eval e2 X.env)] := by rfl) :
    SI X pi W ms tg (.Call (.Name "range" p1) [e1, e2] [] pos) (mRg gRg2 ma) := by
  refine ⟨PIimp (pi_range2 hg hm a.pa hs hs2) fun σ H Q ⟨B, I, ρ, env, st, h⟩ => ?_⟩
  refine ⟨B, I, ρ, env, st, R.sat_mono (R.sat_bind h) (fun r z vs J H2 ρ2 sj st2 rl => ?_) fun _ _ z => z⟩
  obtain ⟨ps, en2⟩ := r
  cases w : gRg2 ps with
  | none => rw [w] at z; exact z.elim
  | some qs =>
    rw [w] at z
    unfold gRg2 at w
    split at w
    · split at w
      · rename_i k l hk
        cases w
        replace hk := rgOk_spec hk
        obtain ⟨v, u, rfl, h1, h2⟩ := two_arg (H := H2) rl
        exact ⟨k, l, by rw [repI h1, repI h2], hk, (show ∀ T J H2 ρ2, Same I J → Stt X.K X.mg pi B ms en2 J H2 ρ2 σ → ItOk X T (rangeP k (l - k).toNat) J → Q T H2 from z) _ J H2 ρ2 sj st2 itRange⟩
      · cases w
    · cases w
/-- list(range(..)) -/
def gLr1 (ps : List PV) : Option PV := match ps with
  | [.int j] => if Nat.ble j.natAbs 16777216 = true then some (.lst (rangeP 0 j.toNat)) else none
  | _ => none
theorem rgV_rep {I : Hp} (a b : Int) : RepL X.K X.mg I (rangeP a (b - a).toNat) (rgV a b) := by
  unfold rangeP rgV
  generalize List.range (b - a).toNat = l
  induction l with
  | nil => exact .nil
  | cons n l ih => exact .cons rep_int ih
theorem SE.listRange1 (a : SE X pi W ms e .fz mv) (hc : X.calm = true) (hl : X.mg "list" = none) (hr : X.mg "range" = none) (hg : Gl X "list" := by rfl) (hg2 : Gl X "range" := by rfl) (na : starEach [Expr.Call (.Name "range" p1) [e] [] p2] X.env = (false, eval (Expr.Call (.Name "range" p1) [e] [] p2) X.env) :: starEach [] X.env := by rfl)
    (na2 : starEach [e] X.env = [(false, eval e X.env)] := by rfl) : SE X pi W ms (.Call (.Name "list" p3) [.Call (.Name "range" p1) [e] [] p2] [] pos) .ow (mUn (fun p => gLr1 [p]) mv) := by
  refine ⟨PEimp (pe_listRg hc hg hl (prg_1 hg2 hr a.pe na2) na) fun σ H Q ⟨B, I, ρ, env, st, h⟩ => ?_⟩
  refine ⟨B, I, ρ, env, st, R.sat_mono (R.sat_bind h) (fun r z v J H2 ρ2 τ sj st2 t2 en => ?_) fun _ _ z => z⟩
  obtain ⟨p, e2⟩ := r
  cases w : gLr1 [p] with
  | none => dsimp only at z; rw [w] at z; exact z.elim
  | some c =>
    dsimp only at z
    rw [w] at z
    unfold gLr1 at w
    split at w
    · rename_i k hk
      split at w
      · rename_i hl
        replace hl := Nat.le_of_ble_eq_true hl
        cases hk; cases w
        refine ⟨k, repI (ent_fz.mp en), ⟨by omega, by omega, by omega, by omega, by omega⟩, fun u hu => ?_⟩
        have rr : Ret X .ow J H2 (.lst (rangeP 0 k.toNat)) Q := Ret.of_state st2 fun v L H3 ρ3 τ3 sl s3 t3 e3 => (show ∀ v J H2 ρ2 τ, Same I J → Stt X.K X.mg pi B ms e2 J H2 ρ2 σ → Tau B J H2 ρ2 τ → Ent X.K X.mg J H2 τ 0 .ow (.lst (rangeP 0 k.toNat)) (some v) → Q v H2 from z) v L H3 ρ3 τ3 (sj.trans sl) s3 t3 e3
        have := rgV_rep (X := X) (I := J) 0 k
        rw [Int.sub_zero] at this
        exact rr.own st2.sub hu this
      · cases w
    · cases w

/-! ### list comprehensions -/
def R.nx {α : Type} : R α → R α
  | .ok a => .ok a
  | _ => .bad
theorem R.sat_nx {α : Type} {r : R α} {f : α → Prop} {g g' : Str → List (Str × PV) → Prop} (h : r.nx.sat f g) : r.sat f g' := by
  cases r with
  | ok a => exact h
  | exc C fs => exact h.elim
  | bad => exact h
abbrev W0 : WX := fun _ _ _ _ => False
def wipeE : List Nat → List PV → List PV
  | [], env => env
  | v :: vs, env => (wipeE vs env).set v .non
def wipeM : List Nat → List Md → List Md
  | [], ms => ms
  | v :: vs, ms => (wipeM vs ms).set v .un
def restE (vs : List Nat) (env0 : List PV) (env : List PV) : List PV := match vs with
  | [] => env
  | v :: vs => (restE vs env0 env).set v (env0.getD v .non)
theorem wipeM_len (vs : List Nat) (ms : List Md) : (wipeM vs ms).length = ms.length := by
  induction vs with
  | nil => rfl
  | cons v vs ih => simp [wipeM, ih]
theorem wipeE_len (vs : List Nat) (ms : List PV) : (wipeE vs ms).length = ms.length := by
  induction vs with
  | nil => rfl
  | cons v vs ih => simp [wipeE, ih]
theorem restE_len (vs : List Nat) (e0 ms : List PV) : (restE vs e0 ms).length = ms.length := by
  induction vs with
  | nil => rfl
  | cons v vs ih => simp [restE, ih]
theorem wipeM_in {vs : List Nat} {ms : List Md} {i : Nat} {m : Md} (hi : i ∈ vs) (h : (wipeM vs ms)[i]? = some m) : m = .un := by
  induction vs with
  | nil => cases hi
  | cons v vs ih =>
    unfold wipeM at h
    by_cases e : v = i
    · subst e
      have hl : v < (wipeM vs ms).length := by
        have := (List.getElem?_eq_some_iff.mp h).1
        simpa using this
      rw [List.getElem?_set_self hl] at h
      cases h; rfl
    · rw [List.getElem?_set_ne e] at h
      rcases List.mem_cons.mp hi with z | z
      · exact absurd z.symm e
      · exact ih z h
theorem wipeM_out {vs : List Nat} {ms : List Md} {i : Nat} (hi : i ∉ vs) : (wipeM vs ms)[i]? = ms[i]? := by
  induction vs with
  | nil => rfl
  | cons v vs ih =>
    unfold wipeM
    rw [List.getElem?_set_ne fun z => hi (by rw [z]; exact List.mem_cons_self)]
    exact ih fun z => hi (List.mem_cons_of_mem _ z)
theorem wipeE_out {vs : List Nat} {ms : List PV} {i : Nat} (hi : i ∉ vs) : (wipeE vs ms)[i]? = ms[i]? := by
  induction vs with
  | nil => rfl
  | cons v vs ih =>
    unfold wipeE
    rw [List.getElem?_set_ne fun z => hi (by rw [z]; exact List.mem_cons_self)]
    exact ih fun z => hi (List.mem_cons_of_mem _ z)
theorem restE_out {vs : List Nat} {e0 ms : List PV} {i : Nat} (hi : i ∉ vs) : (restE vs e0 ms)[i]? = ms[i]? := by
  induction vs with
  | nil => rfl
  | cons v vs ih =>
    unfold restE
    rw [List.getElem?_set_ne fun z => hi (by rw [z]; exact List.mem_cons_self)]
    exact ih fun z => hi (List.mem_cons_of_mem _ z)
theorem restE_in {vs : List Nat} {e0 ms : List PV} {i : Nat} (hl : i < ms.length) (hi : i ∈ vs) : (restE vs e0 ms)[i]? = some (e0.getD i .non) := by
  induction vs with
  | nil => cases hi
  | cons v vs ih =>
    unfold restE
    by_cases e : v = i
    · subst e
      rw [List.getElem?_set_self (by rw [restE_len]; exact hl)]
    · rw [List.getElem?_set_ne e]
      rcases List.mem_cons.mp hi with z | z
      · exact absurd z.symm e
      · exact ih z
theorem wipe_out2 {vs : List Nat} {σ : L2.St} {i : Nat} (hi : i ∉ vs) : (wipe σ vs)[i]? = σ[i]? := by
  induction vs with
  | nil => rfl
  | cons v vs ih =>
    unfold wipe
    rw [List.getElem?_set_ne fun z => hi (by rw [z]; exact List.mem_cons_self)]
    exact ih fun z => hi (List.mem_cons_of_mem _ z)
theorem wipe_in2 {vs : List Nat} {σ : L2.St} {i : Nat} (hl : i < σ.length) (hi : i ∈ vs) : (wipe σ vs)[i]? = some none := by
  induction vs with
  | nil => cases hi
  | cons v vs ih =>
    unfold wipe
    by_cases e : v = i
    · subst e
      rw [List.getElem?_set_self (by rw [wipe_length]; exact hl)]
    · rw [List.getElem?_set_ne e]
      rcases List.mem_cons.mp hi with z | z
      · exact absurd z.symm e
      · exact ih z
theorem wipe_keeps {ts vs : List Nat} {σ σ2 : L2.St} (hl : σ2.length = σ.length) (k : Keeps ts σ σ2) (h : ∀ t ∈ ts, t ∈ vs) : wipe σ2 vs = wipe σ vs := by
  apply List.ext_getElem?
  intro j
  by_cases hj : j ∈ vs
  · by_cases hlt : j < σ.length
    · rw [wipe_in2 (by rw [hl]; exact hlt) hj, wipe_in2 hlt hj]
    · rw [List.getElem?_eq_none (by rw [wipe_length, hl]; omega), List.getElem?_eq_none (by rw [wipe_length]; omega)]
  · rw [wipe_out2 hj, wipe_out2 hj]
    exact k j fun z => hj (h j z)
theorem wipe_wipe (σ : L2.St) (vs : List Nat) : wipe (wipe σ vs) vs = wipe σ vs := by
  apply List.ext_getElem?
  intro j
  by_cases hj : j ∈ vs
  · by_cases hlt : j < σ.length
    · rw [wipe_in2 (by rw [wipe_length]; exact hlt) hj, wipe_in2 hlt hj]
    · rw [List.getElem?_eq_none (by rw [wipe_length, wipe_length]; omega), List.getElem?_eq_none (by rw [wipe_length]; omega)]
  · rw [wipe_out2 hj]
section
variable {K : PySem.W.Frag} {mg : Str → Option Value} {I J H H2 : Hp} {ρ ρ2 : Own} {B : Bs} {env env0 : List PV} {σ : L2.St}
theorem Sb.slots {σ2 : L2.St} (s : Sb pi B I H ρ σ) (k : ∀ i ∈ pi, σ2[i]? = σ[i]?) : Sb pi B I H ρ σ2 := ⟨s.sub, s.bi, s.fr, s.ft, s.ro, s.al, fun i hi => by
  obtain ⟨v, h1, h2⟩ := s.pr i hi
  exact ⟨v, h1, by rw [k i hi]; exact h2⟩, s.bo, fun q e => by
  obtain ⟨h1, h2, h3⟩ := s.px q e
  exact ⟨h1, by rw [k _ h1]; exact h2, h3⟩⟩
theorem Stt.wiped {vs : List Nat} (s : Stt K mg pi B ms env I H ρ σ) (hp : ∀ i ∈ pi, i ∉ vs) : Stt K mg pi B (wipeM vs ms) (wipeE vs env) I H ρ (wipe σ vs) := by
  refine ⟨s.sb.slots fun i hi => wipe_out2 (hp i hi), by rw [wipe_length, wipeM_len]; exact s.ls, by rw [wipeE_len, wipeM_len]; exact s.le, s.l1, s.l2, fun i m p v h1 h2 h3 => ?_⟩
  by_cases hi : i < ms.length
  · rw [List.getElem?_append_left (by rw [wipeM_len]; exact hi)] at h1
    rw [List.getElem?_append_left (by rw [wipeE_len, s.le]; exact hi)] at h2
    rw [List.getElem?_append_left (by rw [wipe_length, s.ls]; exact hi)] at h3
    by_cases hv : i ∈ vs
    · have := wipeM_in hv h1
      subst this
      unfold Ent; trivial
    · rw [wipeM_out hv] at h1
      rw [wipeE_out hv] at h2
      rw [wipe_out2 hv] at h3
      exact s.en i m p v h1 h2 h3
  · rw [List.getElem?_append_right (by rw [wipeM_len]; omega), wipeM_len] at h1
    rw [List.getElem?_append_right (by rw [wipeE_len, s.le]; omega), wipeE_len, s.le] at h2
    rw [List.getElem?_append_right (by rw [wipe_length, s.ls]; omega), wipe_length, s.ls] at h3
    exact s.ea i m p v (by rw [List.getElem?_append_right (by omega)]; exact h1) (by rw [List.getElem?_append_right (by rw [s.le]; omega), s.le]; exact h2) (by rw [List.getElem?_append_right (by rw [s.ls]; omega), s.ls]; exact h3)
/-- the block's names are as they were -/
theorem Stt.unwiped {I0 H0 : Hp} {ρ0 : Own} {vs : List Nat} (s0 : Stt K mg pi B ms env0 I0 H0 ρ0 σ) (s : Stt K mg pi B (wipeM vs ms) env I H ρ (wipe σ vs)) (k : Same I0 I) (hp : ∀ i ∈ pi, i ∉ vs) (hm : ∀ v ∈ vs, ms[v]? = some .un ∨ ms[v]? = some .fz) :
    Stt K mg pi B ms (restE vs env0 env) I H ρ σ := by
  have le : env.length = ms.length := by have := s.le; rw [wipeM_len] at this; exact this
  refine ⟨s.sb.slots fun i hi => (wipe_out2 (hp i hi)).symm, s0.ls, by rw [restE_len]; exact le, s.l1, s.l2, fun i m p v h1 h2 h3 => ?_⟩
  by_cases hi : i < ms.length
  · rw [List.getElem?_append_left hi] at h1
    rw [List.getElem?_append_left (by rw [restE_len, le]; exact hi)] at h2
    rw [List.getElem?_append_left (by rw [s0.ls]; exact hi)] at h3
    by_cases hv : i ∈ vs
    · rw [restE_in (by rw [le]; exact hi) hv] at h2
      cases h2
      rcases hm i hv with z | z
      · rw [z] at h1; cases h1; unfold Ent; trivial
      · rw [z] at h1; cases h1
        have hl0 : i < env0.length := by rw [s0.le]; exact hi
        have e0 := s0.en i .fz _ v z (List.getElem?_eq_getElem hl0) h3
        rw [List.getD_eq_getElem?_getD, List.getElem?_eq_getElem hl0]
        unfold Ent at e0 ⊢
        obtain ⟨x, e1, e2⟩ := e0
        exact ⟨x, e1, e2.mono k⟩
    · rw [restE_out hv] at h2
      exact s.en i m p v (by rw [wipeM_out hv]; exact h1) h2 (by rw [wipe_out2 hv]; exact h3)
  · rw [List.getElem?_append_right (by omega)] at h1
    rw [List.getElem?_append_right (by rw [restE_len, le]; omega), restE_len, le] at h2
    rw [List.getElem?_append_right (by rw [s0.ls]; omega), s0.ls] at h3
    refine s.ea i m p v (by rw [List.getElem?_append_right (by rw [wipeM_len]; omega), wipeM_len]; exact h1) (by rw [List.getElem?_append_right (by rw [le]; omega), le]; exact h2) (by rw [List.getElem?_append_right (by rw [wipe_length, s0.ls]; omega), wipe_length, s0.ls]; exact h3)
end
end
end Cq

/-! text Cq10 -/
set_option Elab.async false
set_option linter.all false
set_option maxRecDepth 100000
/-! Cq, part 10: list comprehensions. -/
namespace Cq
open PySem PySem.Spec L2

section
variable {K : PySem.W.Frag} {mg : Str → Option Value} {I J H H2 : Hp} {ρ ρ2 τ : Own} {pi : Pin} {B : Bs} {ms : List Md} {env : List PV} {σ : L2.St} {D : Addr} {acc : List PV} {p : PV} {y : V}
theorem hold_at (s : Stt K mg pi (B.hold .ow (.lst acc) (.ref D)) ms env I H ρ σ) : B.hp.length = B.hm.length ∧ B.hv.length = B.hm.length := by
  have h1 := s.l1
  have h2 := s.l2
  simp only [Bs.hold, List.length_append, List.length_singleton] at h1 h2
  omega
theorem hold_at2 {md : Md} {q : PV} {x : V} (s : Stt K mg pi (B.hold md q x) ms env I H ρ σ) : B.hp.length = B.hm.length ∧ B.hv.length = B.hm.length := by
  have h1 := s.l1
  have h2 := s.l2
  simp only [Bs.hold, List.length_append, List.length_singleton] at h1 h2
  omega
theorem last_get {α : Type} (a b : List α) (x : α) (n : Nat) (h : n = a.length + b.length) : (a ++ (b ++ [x]))[n]? = some x := by
  rw [← List.append_assoc, List.getElem?_append_right (by rw [List.length_append]; omega)]
  simp [h]
theorem last_set {α : Type} (a b : List α) (x z : α) (n : Nat) (h : n = a.length + b.length) : (a ++ (b ++ [x])).set n z = a ++ (b ++ [z]) := by
  rw [← List.append_assoc, List.set_append_right _ _ (by rw [List.length_append]; omega)]
  simp [h, List.append_assoc]
/-- one more frozen item in the list that is held -/
theorem Stt.push (s : Stt K mg pi (B.hold .ow (.lst acc) (.ref D)) ms env I H ρ σ) (r : Rep K mg I p y) :
    ∃ vs, H D = some (.lst vs) ∧ vs.length = acc.length ∧ Stt K mg pi (B.hold .ow (.lst (acc ++ [p])) (.ref D)) ms env I (upd H D (.lst (vs ++ [y]))) ρ σ := by
  obtain ⟨l1, l2⟩ := hold_at s
  have g1 : (ms ++ (B.hold .ow (.lst acc) (.ref D)).hm)[ms.length + B.hm.length]? = some .ow := last_get _ _ _ _ rfl
  have g2 : (env ++ (B.hold .ow (.lst acc) (.ref D)).hp)[ms.length + B.hm.length]? = some (.lst acc) := last_get _ _ _ _ (by rw [s.le, l1])
  have g3 : (σ ++ (B.hold .ow (.lst acc) (.ref D)).hv)[ms.length + B.hm.length]? = some (some (.ref D)) := last_get _ _ _ _ (by rw [s.ls, l2])
  have e := s.ea _ _ _ _ g1 g2 g3
  unfold Ent at e
  obtain ⟨a, ps, vs, e1, e2, e3, e4, e5⟩ := e
  cases e1; cases e2
  refine ⟨vs, e4, e5.len, (s.sb.write e3 _).unhold.hold, s.ls, s.le, by simp [Bs.hold, l1], by simp [Bs.hold, l2], ?_⟩
  have w := EnOk.write (p := .lst (acc ++ [p])) (zs := vs ++ [y]) s.ea (by simp [Bs.hold, s.le, l1]) g1 g3 e3 (by unfold Ent; exact ⟨D, _, _, rfl, rfl, e3, upd_same, e5.app (.cons r .nil)⟩)
  have q : (env ++ (B.hold .ow (.lst acc) (.ref D)).hp).set (ms.length + B.hm.length) (.lst (acc ++ [p])) = env ++ (B.hold .ow (.lst (acc ++ [p])) (.ref D)).hp := last_set _ _ _ _ _ (by rw [s.le, l1])
  rw [q] at w
  exact w
theorem RowsOk.snoc {t : Nat} {b : Addr} {ws : List V} {ys : List PV} (hb : ρ2 b = some (t, some 0) → True) : ∀ {ps : List PV} {k : Nat} {vs : List V}, RowsOk K mg I H ρ t k ps vs → (∀ c r, ρ c = some (t, r) → ρ2 c = some (t, r)) → ρ2 b = some (t, some (k + ps.length)) → H b = some (.lst ws) → RepL K mg I ys ws →
    RowsOk K mg I H ρ2 t k (ps ++ [.lst ys]) (vs ++ [.ref b])
  | [], k, _, r, hρ, h1, h2, h3 => by
    unfold RowsOk at r
    subst r
    refine ⟨b, [], ws, ys, rfl, rfl, by simpa using h1, h2, h3, ?_⟩
    unfold RowsOk
    rfl
  | p :: ps, k, _, r, hρ, h1, h2, h3 => by
    unfold RowsOk at r
    obtain ⟨c, r', us, zs, rfl, rfl, e3, e4, e5, e6⟩ := r
    refine ⟨c, r' ++ [.ref b], us, zs, rfl, rfl, hρ _ _ e3, e4, e5, RowsOk.snoc hb e6 hρ (by rw [h1]; congr 3; simp; omega) h2 h3⟩
/-- one more own list in the list of lists that is held -/
theorem Stt.pushOwn (s : Stt K mg pi (B.hold .ow2 (.lst acc) (.ref D)) ms env I H ρ σ) (ht : Tau (B.hold .ow2 (.lst acc) (.ref D)) I H ρ τ) (en : Ent K mg I H τ 0 .ow p (some y)) :
    ∃ vs ρ3, H D = some (.lst vs) ∧ vs.length = acc.length ∧ Stt K mg pi (B.hold .ow2 (.lst (acc ++ [p])) (.ref D)) ms env I (upd H D (.lst (vs ++ [y]))) ρ3 σ := by
  obtain ⟨l1, l2⟩ := hold_at2 s
  have g1 : (ms ++ (B.hold .ow2 (.lst acc) (.ref D)).hm)[ms.length + B.hm.length]? = some .ow2 := last_get _ _ _ _ rfl
  have g2 : (env ++ (B.hold .ow2 (.lst acc) (.ref D)).hp)[ms.length + B.hm.length]? = some (.lst acc) := last_get _ _ _ _ (by rw [s.le, l1])
  have g3 : (σ ++ (B.hold .ow2 (.lst acc) (.ref D)).hv)[ms.length + B.hm.length]? = some (some (.ref D)) := last_get _ _ _ _ (by rw [s.ls, l2])
  have e := s.ea _ _ _ _ g1 g2 g3
  unfold Ent at e
  obtain ⟨a, ps, vs, e1, e2, e3, e4, e5⟩ := e
  cases e1; cases e2
  unfold Ent at en
  obtain ⟨b, ys, ws, f1, f2, f3, f4, f5⟩ := en
  cases f1
  subst f2
  obtain ⟨_, hb1, hb2, hb3, _⟩ := ht b _ f3
  have nbD : b ≠ D := fun z => by rw [z, e3] at hb1; cases hb1
  -- the owner map with the row
  have same : ∀ c t, ρ c = some t → (fun c => if c = b then some (ms.length + B.hm.length, some acc.length) else ρ c) c = some t := fun c t h => by
    have n : c ≠ b := fun z => by rw [z, hb1] at h; cases h
    simp [n, h]
  have here : (fun c => if c = b then some (ms.length + B.hm.length, some acc.length) else ρ c) b = some (ms.length + B.hm.length, some acc.length) := by simp
  refine ⟨vs, fun c => if c = b then some (ms.length + B.hm.length, some acc.length) else ρ c, e4, e5.len, ?_, s.ls, s.le, by simp [Bs.hold, l1], by simp [Bs.hold, l2], ?_⟩
  · have s2 : Sb pi B I H (fun c => if c = b then some (ms.length + B.hm.length, some acc.length) else ρ c) σ := by
      have s0 := s.sb.unhold
      refine ⟨s0.sub, s0.bi, s0.fr, s0.ft, fun c t h => ?_, s0.al, s0.pr, s0.bo, s0.px⟩
      by_cases n : c = b
      · subst n
        exact ⟨.inr hb3, hb2, _, f4⟩
      · simp only [n, if_false] at h
        exact s0.ro c t h
    exact (s2.write (same D _ e3) _).hold
  · have ea2 : EnOk K mg (ms ++ (B.hold .ow2 (.lst acc) (.ref D)).hm) (env ++ (B.hold .ow2 (.lst acc) (.ref D)).hp) I H (fun c => if c = b then some (ms.length + B.hm.length, some acc.length) else ρ c) (σ ++ (B.hold .ow2 (.lst acc) (.ref D)).hv) :=
      fun i m p v h1 h2 h3 => (s.ea i m p v h1 h2 h3).mono (.refl _) fun c r us h4 h5 => ⟨same c _ h4, h5⟩
    have w := EnOk.write (p := .lst (acc ++ [.lst ys])) (zs := vs ++ [.ref b]) ea2 (by simp [Bs.hold, s.le, l1]) g1 g3 (same D _ e3) (by
      unfold Ent
      refine ⟨D, _, _, rfl, rfl, same D _ e3, upd_same, ?_⟩
      have hrow : RowsOk K mg I (upd H D (.lst (vs ++ [.ref b]))) ρ (ms.length + B.hm.length) 0 acc vs := RowsOk.mono (.refl _) (fun c k us h4 h5 => ⟨h4, by
        rw [upd_ne fun z => ?_]
        · exact h5
        · rw [z, e3] at h4; cases h4⟩) e5
      exact RowsOk.snoc (b := b) (fun _ => trivial) hrow (fun c r h => same c _ h) (by simp) (by rw [upd_ne nbD]; exact f4) f5)
    have q : (env ++ (B.hold .ow2 (.lst acc) (.ref D)).hp).set (ms.length + B.hm.length) (.lst (acc ++ [.lst ys])) = env ++ (B.hold .ow2 (.lst (acc ++ [.lst ys])) (.ref D)).hp := last_set _ _ _ _ _ (by rw [s.le, l1])
    rw [q] at w
    exact w
end

section
variable {X : Cx} {pi : Pin} {W : WX} {rm md mdD : Md} {P Lm ms ms1 ms2 ms3 : List Md} {pos p1 p2 p3 p4 : Pos} {elt tg iter tg2 iter2 : Expr} {ifs ifs2 : List Expr} {scope : Scope} {own : List (Str × Nat)} {vs vs2 : List Nat}
/-- a clause's tests -/
def mYes : MB := fun env => .ok (true, env)
structure STs (X : Cx) (pi : Pin) (W : WX) (ms : List Md) (es : List Expr) (m : MB) : Prop where
  pt : PTs X es (tT X pi W ms m)
theorem PTsimp {es : List Expr} {t t' : TT} (h : PTs X es t) (k : ∀ σ H Q, t' σ H Q → t σ H Q) : PTs X es t' := ⟨fun pn sh st hp q iv w => h.run pn sh st hp q iv (k _ _ _ w)⟩
theorem STs.nil : STs X pi W ms [] mYes := ⟨PTsimp pts_nil fun σ H Q ⟨B, I, ρ, env, st, h⟩ => (show ∀ J H2 ρ2, Same I J → Stt X.K X.mg pi B ms env J H2 ρ2 σ → Q true H2 from h) I H ρ (.refl _) st⟩
theorem STs.one {e : Expr} {m : MB} (a : ST X pi W ms e m) : STs X pi W ms [e] m := ⟨pts_one a.pt⟩
/-- one clause: acc grows by k behind each item that passes -/
def lcM (vs : List Nat) (g : PV → List PV → Option (List PV)) (t : MB) (k : List PV → List PV → R (List PV × List PV)) : List PV → List PV → List PV → R (List PV × List PV)
  | [], acc, env => .ok (acc, env)
  | p :: ps, acc, env => match g p env with
    | none => .bad
    | some e1 => (t e1).nx.bind fun r => if r.1 = true then (k acc r.2).bind fun z => lcM vs g t k ps z.1 (wipeE vs z.2) else lcM vs g t k ps acc (wipeE vs r.2)
def kElt (m : MV) : List PV → List PV → R (List PV × List PV) := fun acc env => (m env).nx.bind fun r => if acc.length < sizeLine then .ok (acc ++ [r.1], r.2) else .bad
def kSub (vs : List Nat) (it : MI) (g : PV → List PV → Option (List PV)) (t : MB) (k : List PV → List PV → R (List PV × List PV)) : List PV → List PV → R (List PV × List PV) := fun acc env => (it env).nx.bind fun r => lcM vs g t k r.1 acc (wipeE vs r.2)
def mLc (vs : List Nat) (it : MI) (g : PV → List PV → Option (List PV)) (t : MB) (k : List PV → List PV → R (List PV × List PV)) : MV := fun env => (it env).bind fun r => (lcM vs g t k r.1 [] (wipeE vs r.2)).bind fun z => .ok (.lst z.1, restE vs r.2 z.2)
/-- what stands behind the tests is told by k -/
def KOk (X : Cx) (pi : Pin) (mdD : Md) (ms : List Md) (k : List PV → List PV → R (List PV × List PV)) (tb : Addr → L2.St → Hp → (Hp → Prop) → Prop) : Prop :=
  ∀ (B : Bs) (D : Addr) (acc env : List PV) (I H : Hp) (ρ : Own) (σ : L2.St) (Nx : Hp → Prop), Stt X.K X.mg pi (B.hold mdD (.lst acc) (.ref D)) ms env I H ρ σ →
    (k acc env).sat (fun z => ∀ J H2 ρ2, Same I J → Stt X.K X.mg pi (B.hold mdD (.lst z.1) (.ref D)) ms z.2 J H2 ρ2 σ → Nx H2) (fun _ _ => False) → tb D σ H Nx
/-- one clause's loop -/
theorem lc_walk {T : It} {ps : List PV} {I0 H0 : Hp} {ρ0 : Own} {B : Bs} {D : Addr} {acc0 env0 : List PV} {σ : L2.St} {g : PV → List PV → Option (List PV)} {ts : List Nat} {t : MB} {k : List PV → List PV → R (List PV × List PV)} {gr : TG} {tr : TT} {tb : Addr → L2.St → Hp → (Hp → Prop) → Prop} {Fin : Hp → Prop} {X1 : Cx} (eK : X1.K = X.K) (eM : X1.mg = X.mg)
    (ok : ItOk X T ps I0) (st : Stt X.K X.mg pi (B.hold mdD (.lst acc0) (.ref D)) (wipeM vs ms) env0 I0 H0 ρ0 (wipe σ vs)) (hw : wipeM vs ms1 = wipeM vs ms) (hts : ∀ j ∈ ts, j ∈ vs) (hp : ∀ i ∈ pi, i ∉ vs)
    (hg : ∀ v σ H Q, tG X1 pi (wipeM vs ms) ms1 ts g v σ H Q → gr v σ H Q) (ht : ∀ σ H Q, tT X1 pi W0 ms1 t σ H Q → tr σ H Q) (hk : KOk X pi mdD ms1 k tb)
    (h : (lcM vs g t k ps acc0 env0).sat (fun z => ∀ J H2 ρ2, Same I0 J → Stt X.K X.mg pi (B.hold mdD (.lst z.1) (.ref D)) (wipeM vs ms) z.2 J H2 ρ2 (wipe σ vs) → Fin H2) (fun _ _ => False)) :
    ∃ Wv : Nat → Nat → Hp → Prop, (∃ m, Wv 0 m H0) ∧ ∀ i m H, Wv i m H →
      (T.stop i H ∧ Fin H) ∨ (T.go i H ∧ ∃ Nx : Hp → Prop, (∀ H', Nx H' → ∃ m', m' < m ∧ Wv (i + 1) m' H') ∧ ∀ x H', T.yld i H x H' → gr x (wipe σ vs) H' fun σ2 H2 => wipe σ2 vs = wipe σ vs ∧ tr σ2 H2 fun b H3 =>
        if b = true then tb D σ2 H3 Nx else Nx H3) := by
  refine ⟨fun i m H => m = ps.length - i ∧ i ≤ ps.length ∧ ∃ L ρ3 acc en, Same I0 L ∧ Stt X.K X.mg pi (B.hold mdD (.lst acc) (.ref D)) (wipeM vs ms) en L H ρ3 (wipe σ vs) ∧
    (lcM vs g t k (ps.drop i) acc en).sat (fun z => ∀ J H2 ρ2, Same I0 J → Stt X.K X.mg pi (B.hold mdD (.lst z.1) (.ref D)) (wipeM vs ms) z.2 J H2 ρ2 (wipe σ vs) → Fin H2) (fun _ _ => False), ⟨_, rfl, Nat.zero_le _, I0, ρ0, acc0, env0, .refl _, st, h⟩, ?_⟩
  rintro i m H ⟨rfl, hi, L, ρ3, acc, en, sl, st3, hz⟩
  obtain ⟨g1, g2⟩ := ok.mono sl L H (.refl _) st3.sub
  by_cases hlt : i < ps.length
  · refine .inr ⟨(g1 i _ (List.getElem?_eq_getElem hlt)).1, fun H5 => i + 1 ≤ ps.length ∧ ∃ L ρ3 acc en, Same I0 L ∧ Stt X.K X.mg pi (B.hold mdD (.lst acc) (.ref D)) (wipeM vs ms) en L H5 ρ3 (wipe σ vs) ∧
      (lcM vs g t k (ps.drop (i + 1)) acc en).sat (fun z => ∀ J H2 ρ2, Same I0 J → Stt X.K X.mg pi (B.hold mdD (.lst z.1) (.ref D)) (wipeM vs ms) z.2 J H2 ρ2 (wipe σ vs) → Fin H2) (fun _ _ => False), fun H5 q => ⟨_, by omega, rfl, q⟩, fun x H4 y => ?_⟩
    obtain ⟨L4, g4, rx⟩ := (g1 i _ (List.getElem?_eq_getElem hlt)).2 x H4 y
    rw [List.drop_eq_getElem_cons hlt] at hz
    unfold lcM at hz
    cases w : g ps[i] en with
    | none => rw [w] at hz; exact hz.elim
    | some e3 =>
      rw [w] at hz
      refine hg _ _ _ _ ⟨B.hold mdD (.lst acc) (.ref D), L4, ρ3, en, _, e3, by rw [eK, eM]; exact st3.grow g4, by rw [eK, eM]; exact rx, w, fun σ6 ρ6 H6 k6 st6 => ?_⟩
      rw [eK, eM] at st6
      have hw6 : wipe σ6 vs = wipe σ vs := by
        have h1 : σ6.length = (wipe σ vs).length := by
          have q1 := st6.ls
          have q2 := st3.ls
          have q3 := congrArg List.length hw
          rw [wipeM_len, wipeM_len] at q3
          rw [wipeM_len] at q2
          omega
        have h2 := wipe_keeps (vs := vs) h1 k6 hts
        rw [wipe_wipe] at h2
        exact h2
      refine ⟨hw6, ht _ _ _ ⟨B.hold mdD (.lst acc) (.ref D), L4, ρ6, e3, by rw [eK, eM]; exact st6, R.sat_nx (R.sat_mono (R.sat_bind hz) (fun r zr J7 H7 ρ7 s7 st7 => ?_) fun _ _ z => z)⟩⟩
      rw [eK, eM] at st7
      have back : ∀ {acc' env' J8 H8 ρ8}, Same L4 J8 → Stt X.K X.mg pi (B.hold mdD (.lst acc') (.ref D)) ms1 env' J8 H8 ρ8 σ6 → Stt X.K X.mg pi (B.hold mdD (.lst acc') (.ref D)) (wipeM vs ms) (wipeE vs env') J8 H8 ρ8 (wipe σ vs) := fun {acc' env' J8 H8 ρ8} s8 st8 => by
        have := st8.wiped (vs := vs) hp
        rw [hw, hw6] at this
        exact this
      by_cases wr : r.1 = true
      · rw [if_pos wr] at zr ⊢
        refine hk _ _ _ _ _ _ _ _ _ st7 (R.sat_mono (R.sat_bind zr) (fun z hz2 J8 H8 ρ8 s8 st8 => ?_) fun _ _ z => z)
        exact ⟨hlt, J8, ρ8, z.1, _, ((sl.trans g4.i).trans s7).trans s8, back (s7.trans s8) st8, hz2⟩
      · rw [if_neg wr] at zr ⊢
        exact ⟨hlt, J7, ρ7, acc, _, (sl.trans g4.i).trans s7, back s7 st7, zr⟩
  · have hl : i = ps.length := by omega
    subst hl
    rw [List.drop_length] at hz
    exact .inl ⟨g2, (show ∀ J H2 ρ2, Same I0 J → Stt X.K X.mg pi (B.hold mdD (.lst acc) (.ref D)) (wipeM vs ms) en J H2 ρ2 (wipe σ vs) → Fin H2 from hz) L H ρ3 sl st3⟩
/-- the element, frozen -/
theorem kElt_ok {X1 : Cx} {m : MV} {te : TE} (eK : X1.K = X.K) (eM : X1.mg = X.mg) (ht : ∀ σ H Q, tE X1 pi W0 ms .fz m σ H Q → te σ H Q) :
    KOk X pi .ow ms (kElt m) (fun D σ2 H3 Nx => te σ2 H3 fun y H4 => ∃ acc, H4 D = some (.lst acc) ∧ acc.length < sizeLine ∧ Nx (upd H4 D (.lst (acc ++ [y])))) := by
  intro B D acc env I H ρ σ Nx st h
  refine ht _ _ _ ⟨_, I, ρ, env, by rw [eK, eM]; exact st, R.sat_nx (R.sat_mono (R.sat_bind h) (fun r z v J H2 ρ2 τ sj st2 t2 en => ?_) fun _ _ z => z)⟩
  rw [eK, eM] at st2
  split at z
  · rename_i hl
    obtain ⟨us, h1, h2, h3⟩ := st2.push (p := r.1) (y := v) (by have := en; rw [eK, eM] at this; unfold Ent at this; obtain ⟨y, e1, e2⟩ := this; cases e1; exact e2)
    exact ⟨us, h1, by rw [h2]; exact hl, z J _ ρ2 sj h3⟩
  · exact z.elim
/-- the element, an own list -/
theorem kEltOwn_ok {X1 : Cx} {m : MV} {te : TE} (eK : X1.K = X.K) (eM : X1.mg = X.mg) (ht : ∀ σ H Q, tE X1 pi W0 ms .ow m σ H Q → te σ H Q) :
    KOk X pi .ow2 ms (kElt m) (fun D σ2 H3 Nx => te σ2 H3 fun y H4 => ∃ acc, H4 D = some (.lst acc) ∧ acc.length < sizeLine ∧ Nx (upd H4 D (.lst (acc ++ [y])))) := by
  intro B D acc env I H ρ σ Nx st h
  refine ht _ _ _ ⟨_, I, ρ, env, by rw [eK, eM]; exact st, R.sat_nx (R.sat_mono (R.sat_bind h) (fun r z v J H2 ρ2 τ sj st2 t2 en => ?_) fun _ _ z => z)⟩
  rw [eK, eM] at st2 en
  split at z
  · rename_i hl
    obtain ⟨us, ρ3, h1, h2, h3⟩ := st2.pushOwn t2 en
    exact ⟨us, h1, by rw [h2]; exact hl, z J _ ρ3 sj h3⟩
  · exact z.elim
/-- the start and the end of a comprehension's list -/
theorem lc_open {ps : List PV} {J H2 : Hp} {ρ2 : Own} {B : Bs} {env2 : List PV} {σ : L2.St} {Q : VK} {D : Addr} {g : PV → List PV → Option (List PV)} {t : MB} {k : List PV → List PV → R (List PV × List PV)} (hmd : mdD = .ow ∨ mdD = .ow2) (st2 : Stt X.K X.mg pi B ms env2 J H2 ρ2 σ) (hD : H2 D = none)
    (hp : ∀ i ∈ pi, i ∉ vs) (hp2 : ∀ i ∈ pi, i < ms.length) (hvs : ∀ v ∈ vs, ms[v]? = some .un ∨ ms[v]? = some .fz)
    (h : ((lcM vs g t k ps [] (wipeE vs env2)).bind fun z => .ok (.lst z.1, restE vs env2 z.2)).sat (fun r => ∀ v L H3 ρ3 τ, Same J L → Stt X.K X.mg pi B ms r.2 L H3 ρ3 σ → Tau B L H3 ρ3 τ → Ent X.K X.mg L H3 τ 0 mdD r.1 (some v) → Q v H3) (fun _ _ => False)) :
    ∃ ρ0, Stt X.K X.mg pi (B.hold mdD (.lst []) (.ref D)) (wipeM vs ms) (wipeE vs env2) J (upd H2 D (.lst [])) ρ0 (wipe σ vs) ∧
      (lcM vs g t k ps [] (wipeE vs env2)).sat (fun z => ∀ L H3 ρ3, Same J L → Stt X.K X.mg pi (B.hold mdD (.lst z.1) (.ref D)) (wipeM vs ms) z.2 L H3 ρ3 (wipe σ vs) → Q (.ref D) H3) (fun _ _ => False) := by
  have nJ : J D = none := by
    cases w : J D with
    | none => rfl
    | some o =>
      have := st2.sub _ _ w
      rw [hD] at this; cases this
  have st3 := (st2.grow (Grow.laid (o := .lst []) st2.sub hD)).wiped (vs := vs) hp
  have ht : Tau B J (upd H2 D (.lst [])) ρ2 (fun a => if a = D then some (0, none) else none) := fun a u e => by
    dsimp only at e
    split at e
    · rename_i z
      cases e; subst z
      refine ⟨rfl, ?_, nJ, st2.sb.al _ hD, _, upd_same⟩
      cases w : ρ2 a with
      | none => rfl
      | some u =>
        obtain ⟨_, _, us, q⟩ := st2.sb.ro a u w
        rw [hD] at q; cases q
    · cases e
  have en : Ent X.K X.mg J (upd H2 D (.lst [])) (fun a => if a = D then some (0, none) else none) 0 mdD (.lst []) (some (.ref D)) := by
    rcases hmd with rfl | rfl
    · unfold Ent
      exact ⟨D, [], [], rfl, rfl, by simp, upd_same, .nil⟩
    · unfold Ent
      exact ⟨D, [], [], rfl, rfl, by simp, upd_same, by unfold RowsOk; rfl⟩
  have st4 := st3.hold ht en (fun i hi => by rw [wipeM_len]; exact hp2 i hi)
  refine ⟨_, st4, R.sat_mono (R.sat_bind h) (fun z hz L H3 ρ3 sl st5 => ?_) fun _ _ z => z⟩
  obtain ⟨s6, t6, e6⟩ := st5.unhold st2.l1 st2.l2 (fun i hi => by rw [wipeM_len]; exact hp2 i hi)
  exact (show ∀ v L H3 ρ3 τ, Same J L → Stt X.K X.mg pi B ms (restE vs env2 z.2) L H3 ρ3 σ → Tau B L H3 ρ3 τ → Ent X.K X.mg L H3 τ 0 mdD (.lst z.1) (some v) → Q v H3 from hz) _ L H3 _ _ sl (st2.unwiped s6 sl hp hvs) t6 e6
theorem mLc_split {it : MI} {g : PV → List PV → Option (List PV)} {t : MB} {k : List PV → List PV → R (List PV × List PV)} {env : List PV} {F : PV × List PV → Prop} {G : Str → List (Str × PV) → Prop} (hk : ∀ acc e C fs, k acc e ≠ .exc C fs) (h : (mLc vs it g t k env).sat F G) :
    (it env).sat (fun r => ((lcM vs g t k r.1 [] (wipeE vs r.2)).bind fun z => .ok (.lst z.1, restE vs r.2 z.2)).sat F (fun _ _ => False)) G := by
  refine R.sat_mono (R.sat_bind h) (fun r z => ?_) fun _ _ z => z
  have nolc : ∀ ps acc e C fs, lcM vs g t k ps acc e ≠ .exc C fs := by
    intro ps
    induction ps with
    | nil => intro acc e C fs q; cases q
    | cons p ps ih =>
      intro acc e C fs q
      unfold lcM at q
      cases w : g p e with
      | none => rw [w] at q; cases q
      | some e1 =>
        rw [w] at q
        dsimp only at q
        cases w2 : t e1 with
        | bad => rw [w2] at q; cases q
        | exc C' fs' => rw [w2] at q; cases q
        | ok r =>
          rw [w2] at q
          simp only [R.nx, R.bind_ok] at q
          split at q
          · cases w3 : k acc r.2 with
            | bad => rw [w3] at q; cases q
            | exc C' fs' => exact hk _ _ _ _ w3
            | ok z =>
              rw [w3] at q
              exact ih _ _ _ _ q
          · exact ih _ _ _ _ q
  cases w : lcM vs g t k r.1 [] (wipeE vs r.2) with
  | ok z2 => rw [w] at z; exact z
  | bad => rw [w] at z; exact z.elim
  | exc C fs => exact absurd w (nolc _ _ _ _ _)
theorem kElt_ne {m : MV} : ∀ acc e C fs, kElt m acc e ≠ .exc C fs := fun acc e C fs q => by
  unfold kElt at q
  cases w : m e with
  | bad => rw [w] at q; cases q
  | exc C' fs' => rw [w] at q; cases q
  | ok r =>
    rw [w] at q
    simp only [R.nx, R.bind_ok] at q
    split at q <;> cases q
theorem lc1_read {it : MI} {g : PV → List PV → Option (List PV)} {t : MB} {m : MV} {ts : List Nat} {gr : TG} {tr : TT} {te : TE} {X1 : Cx} {md : Md} (eK : X1.K = X.K) (eM : X1.mg = X.mg) (hmd : (mdD = .ow ∧ md = .fz) ∨ (mdD = .ow2 ∧ md = .ow))
    (hg : ∀ v σ H Q, tG X1 pi (wipeM vs ms) ms1 ts g v σ H Q → gr v σ H Q) (ht : ∀ σ H Q, tT X1 pi W0 ms1 t σ H Q → tr σ H Q) (he : ∀ σ H Q, tE X1 pi W0 ms1 md m σ H Q → te σ H Q)
    (hw : wipeM vs ms1 = wipeM vs ms) (hts : ∀ j ∈ ts, j ∈ vs) (hp : ∀ i ∈ pi, i ∉ vs) (hp2 : ∀ i ∈ pi, i < ms.length) (hvs : ∀ v ∈ vs, ms[v]? = some .un ∨ ms[v]? = some .fz) {σ : L2.St} {H : Hp} {Q : VK} (h : tE X pi W ms mdD (mLc vs it g t (kElt m)) σ H Q) :
    tLc (tI X pi W ms it) gr tr te vs σ H Q := by
  obtain ⟨B, I, ρ, env, st, h⟩ := h
  refine ⟨B, I, ρ, env, st, R.sat_mono (mLc_split kElt_ne h) (fun r z T J H2 ρ2 sj st2 ok D hD => ?_) fun _ _ z => z⟩
  have hmd' : mdD = .ow ∨ mdD = .ow2 := hmd.imp And.left And.left
  obtain ⟨ρ0, st5, h5⟩ := lc_open hmd' st2 hD hp hp2 hvs (R.sat_mono z (fun q hq v L H3 ρ3 τ sl => hq v L H3 ρ3 τ (sj.trans sl)) fun _ _ z => z)
  have kk : KOk X pi mdD ms1 (kElt m) (fun D σ2 H3 Nx => te σ2 H3 fun y H4 => ∃ acc, H4 D = some (.lst acc) ∧ acc.length < sizeLine ∧ Nx (upd H4 D (.lst (acc ++ [y])))) := by
    rcases hmd with ⟨rfl, rfl⟩ | ⟨rfl, rfl⟩
    · exact kElt_ok eK eM he
    · exact kEltOwn_ok eK eM he
  exact lc_walk (X := X) (X1 := X1) (D := D) eK eM ok st5 hw hts hp hg ht kk h5
/-- [elt for tg in iter if ..] -/
theorem SE.lc {it : MI} {g : PV → List PV → Option (List PV)} {t : MB} {m : MV} {ts : List Nat} {md : Md} (hc : X.calm = true) (hN : X.N.Nodup) (a : SI X pi W ms tg iter it) (ok : BlkOk X.N X.env.scope scope own)
    (hg : ∀ sh hp C cl fp, SG (X.blk sh hp scope (compEnvC scope cl C X.env) fp) pi (wipeM (own.map (·.2)) ms) ms1 ts tg g) (ht : ∀ sh hp C cl fp, STs (X.blk sh hp scope (compEnvC scope cl C X.env) fp) pi W0 ms1 ifs t)
    (he : ∀ sh hp C cl fp, SE (X.blk sh hp scope (compEnvC scope cl C X.env) fp) pi W0 ms1 elt md m) (hmd : (mdD = .ow ∧ md = .fz) ∨ (mdD = .ow2 ∧ md = .ow) := by first | exact .inl ⟨rfl, rfl⟩ | exact .inr ⟨rfl, rfl⟩)
    (hw : wipeM (own.map (·.2)) ms1 = wipeM (own.map (·.2)) ms := by rfl) (hts : ∀ j ∈ ts, j ∈ own.map (·.2) := by decide) (hp : ∀ i ∈ pi, i ∉ own.map (·.2) := by exact of_decide_eq_true rfl) (hp2 : ∀ i ∈ pi, i < ms.length := by decide) (hvs : ∀ v ∈ own.map (·.2), ms[v]? = some .un ∨ ms[v]? = some .fz := by decide)
    (hs : ∀ x, foldedSetIterable iter X.env x = pure x := by intro _; rfl) : SE X pi W ms (.ListComp elt [⟨tg, iter, ifs, 0⟩] scope pos) mdD (mLc (own.map (·.2)) it g t (kElt m)) :=
  ⟨PEimp (pe_lc hc hN a.pi_ ok (fun sh hp C cl fp => (hg sh hp C cl fp).pg) (fun sh hp C cl fp => (ht sh hp C cl fp).pt) (fun sh hp C cl fp => (he sh hp C cl fp).pe) hs) fun σ H Q h =>
    lc1_read (X1 := X) rfl rfl hmd (fun _ _ _ _ z => z) (fun _ _ _ z => z) (fun _ _ _ z => z) hw hts hp hp2 hvs h⟩
theorem SS.setLc {it : MI} {g : PV → List PV → Option (List PV)} {t : MB} {m : MV} {ts : List Nat} {md : Md} {y : Str} (i : Nat) (hc : X.calm = true) (hN : X.N.Nodup) (a : SI X pi W ms tg iter it) (ok : BlkOk X.N X.env.scope scope own)
    (hg : ∀ sh hp C cl fp, SG (X.blk sh hp scope (compEnvC scope cl C X.env) fp) pi (wipeM (own.map (·.2)) ms) ms1 ts tg g) (ht : ∀ sh hp C cl fp, STs (X.blk sh hp scope (compEnvC scope cl C X.env) fp) pi W0 ms1 ifs t)
    (he : ∀ sh hp C cl fp, SE (X.blk sh hp scope (compEnvC scope cl C X.env) fp) pi W0 ms1 elt md m) (hmd : (mdD = .ow ∧ md = .fz) ∨ (mdD = .ow2 ∧ md = .ow) := by first | exact .inl ⟨rfl, rfl⟩ | exact .inr ⟨rfl, rfl⟩)
    (hl : i < ms.length := by decide) (hi : i ∉ pi := by exact of_decide_eq_true rfl)
    (hw : wipeM (own.map (·.2)) ms1 = wipeM (own.map (·.2)) ms := by rfl) (hts : ∀ j ∈ ts, j ∈ own.map (·.2) := by decide) (hp : ∀ i ∈ pi, i ∉ own.map (·.2) := by exact of_decide_eq_true rfl) (hp2 : ∀ i ∈ pi, i < ms.length := by decide) (hvs : ∀ v ∈ own.map (·.2), ms[v]? = some .un ∨ ms[v]? = some .fz := by decide)
    (hy : X.N[i]? = some y := by rfl) (hyl : X.env.scope.names.lookup y = some .local := by rfl) (hsw : swapsWith (.ListComp elt [⟨tg, iter, ifs, 0⟩] scope p2) (some (.Name y p1)) pos.line X.env = pure true := by exact sw_true rfl rfl rfl (by decide +kernel))
    (hs : ∀ x, foldedSetIterable iter X.env x = pure x := by intro _; rfl) : SS X pi W rm P Lm ms (ms.set i mdD) (.Assign [.Name y p1] (.ListComp elt [⟨tg, iter, ifs, 0⟩] scope p2) pos) (mSet i (mLc (own.map (·.2)) it g t (kElt m))) :=
  ⟨PSimp (ps_setLc hc hN hy hyl hsw a.pi_ ok (fun sh hp C cl fp => (hg sh hp C cl fp).pg) (fun sh hp C cl fp => (ht sh hp C cl fp).pt) (fun sh hp C cl fp => (he sh hp C cl fp).pe) hs) fun D σ H h => by
    have h2 := set_core (mv := mLc (own.map (·.2)) it g t (kElt m)) hl hi h
    exact lc1_read (X1 := X) rfl rfl hmd (fun _ _ _ _ z => z) (fun _ _ _ z => z) (fun _ _ _ z => z) hw hts hp hp2 hvs h2⟩
theorem _root_.Cq.Stt.unwiped0 {K : PySem.W.Frag} {mg : Str → Option Value} {I H : Hp} {ρ : Own} {B : Bs} {env : List PV} {σ : L2.St} (s : Stt K mg pi B (wipeM vs ms) env I H ρ (wipe σ vs)) (ls : σ.length = ms.length) (hm : ∀ v ∈ vs, ms[v]? = some .un) (hp : ∀ i ∈ pi, i ∉ vs) : Stt K mg pi B ms env I H ρ σ := by
  have le : env.length = ms.length := by have := s.le; rw [wipeM_len] at this; exact this
  refine ⟨s.sb.slots fun i hi => (wipe_out2 (hp i hi)).symm, ls, le, s.l1, s.l2, fun i m p v h1 h2 h3 => ?_⟩
  by_cases hi : i < ms.length
  · rw [List.getElem?_append_left hi] at h1
    by_cases hv : i ∈ vs
    · rw [hm i hv] at h1
      cases h1
      unfold Ent; trivial
    · rw [List.getElem?_append_left (by rw [le]; exact hi)] at h2
      rw [List.getElem?_append_left (by rw [ls]; exact hi)] at h3
      exact s.en i m p v (by rw [wipeM_out hv]; exact h1) h2 (by rw [wipe_out2 hv]; exact h3)
  · rw [List.getElem?_append_right (by omega)] at h1
    rw [List.getElem?_append_right (by rw [ls]; omega), ls] at h3
    exact s.ea i m p v (by rw [List.getElem?_append_right (by rw [wipeM_len]; omega), wipeM_len]; exact h1) h2 (by rw [List.getElem?_append_right (by rw [wipe_length, ls]; omega), wipe_length, ls]; exact h3)
/-- two clauses: what is walked behind the first one's tests -/
theorem kSub_ne {it : MI} {g : PV → List PV → Option (List PV)} {t : MB} {k : List PV → List PV → R (List PV × List PV)} (hk : ∀ acc e C fs, k acc e ≠ .exc C fs) : ∀ acc e C fs, kSub vs it g t k acc e ≠ .exc C fs := fun acc e C fs q => by
  unfold kSub at q
  have nolc : ∀ ps acc e C fs, lcM vs g t k ps acc e ≠ .exc C fs := by
    intro ps
    induction ps with
    | nil => intro acc e C fs q; cases q
    | cons p ps ih =>
      intro acc e C fs q
      unfold lcM at q
      cases w : g p e with
      | none => rw [w] at q; cases q
      | some e1 =>
        rw [w] at q
        dsimp only at q
        cases w2 : t e1 with
        | bad => rw [w2] at q; cases q
        | exc C' fs' => rw [w2] at q; cases q
        | ok r =>
          rw [w2] at q
          simp only [R.nx, R.bind_ok] at q
          split at q
          · cases w3 : k acc r.2 with
            | bad => rw [w3] at q; cases q
            | exc C' fs' => exact hk _ _ _ _ w3
            | ok z =>
              rw [w3] at q
              exact ih _ _ _ _ q
          · exact ih _ _ _ _ q
  cases w : it e with
  | bad => rw [w] at q; cases q
  | exc C' fs' => rw [w] at q; cases q
  | ok r =>
    rw [w] at q
    exact nolc _ _ _ _ _ q
theorem kSub_ok {it : MI} {g : PV → List PV → Option (List PV)} {t : MB} {k : List PV → List PV → R (List PV × List PV)} {ts : List Nat} {wi : TI} {gr : TG} {tr : TT} {tb : Addr → L2.St → Hp → (Hp → Prop) → Prop} {X1 : Cx} (eK : X1.K = X.K) (eM : X1.mg = X.mg)
    (hi : ∀ σ H R, tI X1 pi W0 ms it σ H R → wi σ H R) (hg : ∀ v σ H Q, tG X1 pi (wipeM vs ms) ms1 ts g v σ H Q → gr v σ H Q) (ht : ∀ σ H Q, tT X1 pi W0 ms1 t σ H Q → tr σ H Q) (hk : KOk X pi mdD ms1 k tb)
    (hw : wipeM vs ms1 = wipeM vs ms) (hmm : ∀ v ∈ vs, ms[v]? = some .un) (hts : ∀ j ∈ ts, j ∈ vs) (hp : ∀ i ∈ pi, i ∉ vs) :
    KOk X pi mdD ms (kSub vs it g t k) (fun D σ2 H3 Nx => wi σ2 H3 fun J1 H4 => ∃ W1 : Nat → Nat → Hp → Prop, (∃ m, W1 0 m H4) ∧ ∀ j k H, W1 j k H →
      (J1.stop j H ∧ Nx H) ∨ (J1.go j H ∧ ∃ Nx1 : Hp → Prop, (∀ H', Nx1 H' → ∃ k', k' < k ∧ W1 (j + 1) k' H') ∧ ∀ x H', J1.yld j H x H' → gr x (wipe σ2 vs) H' fun σ3 H5 => wipe σ3 vs = wipe σ2 vs ∧ tr σ3 H5 fun b H6 =>
        if b = true then tb D σ3 H6 Nx1 else Nx1 H6)) := by
  intro B D acc env I H ρ σ Nx st h
  refine hi _ _ _ ⟨_, I, ρ, env, by rw [eK, eM]; exact st, R.sat_nx (R.sat_mono (R.sat_bind h) (fun r z T J H2 ρ2 sj st2 ok => ?_) fun _ _ z => z)⟩
  rw [eK, eM] at st2
  have st3 := st2.wiped (vs := vs) hp
  refine lc_walk (X := X) (X1 := X1) (D := D) (Fin := Nx) eK eM (by intro L H k1 k2; have := ok L H k1 k2; rw [eK, eM] at this; exact this) st3 hw hts hp hg ht hk (R.sat_mono z (fun q hq L H3 ρ3 sl st4 => ?_) fun _ _ z => z)
  -- the inner names were free before, and are free again
  refine hq L H3 ρ3 (sj.trans sl) ?_
  exact st4.unwiped0 st2.ls hmm hp
section
variable {sh : Shared} {hp : Hp} {C : Addr} {cl : List (Str × Addr)} {fp : List Addr}
/-- [elt for tg in iter if .. for tg2 in iter2 if ..]; vs2: the names of the second target -/
structure Lc2 (X : Cx) (pi : Pin) (W : WX) (ms ms1 ms2 : List Md) (mdD : Md) (elt tg iter tg2 iter2 : Expr) (ifs ifs2 : List Expr) (scope : Scope) (own : List (Str × Nat)) (vs2 : List Nat) (it it2 : MI) (g g2 : PV → List PV → Option (List PV)) (t t2 : MB) (m : MV) : Prop where
  a : SI X pi W ms tg iter it
  ok : BlkOk X.N X.env.scope scope own
  hg : ∃ ts, (∀ j ∈ ts, j ∈ own.map (·.2)) ∧ ∀ sh hp C cl fp, SG (X.blk sh hp scope (compEnvC scope cl C X.env) fp) pi (wipeM (own.map (·.2)) ms) ms1 ts tg g
  ht : ∀ sh hp C cl fp, STs (X.blk sh hp scope (compEnvC scope cl C X.env) fp) pi W0 ms1 ifs t
  hi : ∀ sh hp C cl fp, SI (X.blk sh hp scope (compEnvC scope cl C X.env) fp) pi W0 ms1 tg2 iter2 it2
  hg2 : ∃ ts, (∀ j ∈ ts, j ∈ vs2) ∧ ∀ sh hp C cl fp, SG (X.blk sh hp scope (compEnvC scope cl C X.env) fp) pi (wipeM vs2 ms1) ms2 ts tg2 g2
  ht2 : ∀ sh hp C cl fp, STs (X.blk sh hp scope (compEnvC scope cl C X.env) fp) pi W0 ms2 ifs2 t2
  he : ∃ md, ((mdD = .ow ∧ md = .fz) ∨ (mdD = .ow2 ∧ md = .ow)) ∧ ∀ sh hp C cl fp, SE (X.blk sh hp scope (compEnvC scope cl C X.env) fp) pi W0 ms2 elt md m
  hv : ∀ i ∈ vs2, i ∈ own.map (·.2)
  hw : wipeM (own.map (·.2)) ms1 = wipeM (own.map (·.2)) ms
  hw2 : wipeM vs2 ms2 = wipeM vs2 ms1
  hmm : ∀ v ∈ vs2, ms1[v]? = some .un
  hp : ∀ i ∈ pi, i ∉ own.map (·.2)
  hp2 : ∀ i ∈ pi, i < ms.length
  hvs : ∀ v ∈ own.map (·.2), ms[v]? = some .un ∨ ms[v]? = some .fz
end
variable {it it2 : MI} {g g2 : PV → List PV → Option (List PV)} {t t2 : MB} {m : MV} {y : Str}
theorem Lc2.read (l : Lc2 X pi W ms ms1 ms2 mdD elt tg iter tg2 iter2 ifs ifs2 scope own vs2 it it2 g g2 t t2 m) {σ : L2.St} {H : Hp} {Q : VK} (h : tE X pi W ms mdD (mLc (own.map (·.2)) it g t (kSub vs2 it2 g2 t2 (kElt m))) σ H Q) :
    ∃ ts1 ts2 md, tLc2 (tI X pi W ms it) (tG X pi (wipeM (own.map (·.2)) ms) ms1 ts1 g) (tT X pi W0 ms1 t) (tI X pi W0 ms1 it2) (tG X pi (wipeM vs2 ms1) ms2 ts2 g2) (tT X pi W0 ms2 t2) (tE X pi W0 ms2 md m) (own.map (·.2)) vs2 σ H Q ∧
      (∀ sh hp C cl fp, SG (X.blk sh hp scope (compEnvC scope cl C X.env) fp) pi (wipeM (own.map (·.2)) ms) ms1 ts1 tg g) ∧ (∀ sh hp C cl fp, SG (X.blk sh hp scope (compEnvC scope cl C X.env) fp) pi (wipeM vs2 ms1) ms2 ts2 tg2 g2) ∧
      ∀ sh hp C cl fp, SE (X.blk sh hp scope (compEnvC scope cl C X.env) fp) pi W0 ms2 elt md m := by
  obtain ⟨ts1, hts1, hg⟩ := l.hg
  obtain ⟨ts2, hts2, hg2⟩ := l.hg2
  obtain ⟨md, hmd, he⟩ := l.he
  refine ⟨ts1, ts2, md, ?_, hg, hg2, he⟩
  obtain ⟨B, I, ρ, env, st, h⟩ := h
  refine ⟨B, I, ρ, env, st, R.sat_mono (mLc_split (kSub_ne kElt_ne) h) (fun r z T J H2 ρ2 sj st2 ok D hD => ?_) fun _ _ z => z⟩
  have hmd' : mdD = .ow ∨ mdD = .ow2 := hmd.imp And.left And.left
  obtain ⟨ρ0, st5, h5⟩ := lc_open hmd' st2 hD l.hp l.hp2 l.hvs (R.sat_mono z (fun q hq v L H3 ρ3 τ sl => hq v L H3 ρ3 τ (sj.trans sl)) fun _ _ z => z)
  have kk : KOk X pi mdD ms2 (kElt m) (fun D σ2 H3 Nx => tE X pi W0 ms2 md m σ2 H3 fun y H4 => ∃ acc, H4 D = some (.lst acc) ∧ acc.length < sizeLine ∧ Nx (upd H4 D (.lst (acc ++ [y])))) := by
    rcases hmd with ⟨rfl, rfl⟩ | ⟨rfl, rfl⟩
    · exact kElt_ok (X1 := X) rfl rfl fun _ _ _ z => z
    · exact kEltOwn_ok (X1 := X) rfl rfl fun _ _ _ z => z
  have k2 := kSub_ok (X := X) (X1 := X) rfl rfl (it := it2) (wi := tI X pi W0 ms1 it2) (fun _ _ _ z => z) (gr := tG X pi (wipeM vs2 ms1) ms2 ts2 g2) (fun _ _ _ _ z => z) (tr := tT X pi W0 ms2 t2) (fun _ _ _ z => z) kk l.hw2 l.hmm hts2 (fun i hi q => l.hp i hi (l.hv i q))
  exact lc_walk (X := X) (X1 := X) (D := D) rfl rfl ok st5 l.hw hts1 l.hp (fun _ _ _ _ z => z) (fun _ _ _ z => z) k2 h5
theorem SE.lc2 (l : Lc2 X pi W ms ms1 ms2 mdD elt tg iter tg2 iter2 ifs ifs2 scope own vs2 it it2 g g2 t t2 m) (hc : X.calm = true) (hN : X.N.Nodup) (hs : ∀ x, foldedSetIterable iter X.env x = pure x := by intro _; rfl) (hs1 : ∀ env x, foldedSetIterable iter2 env x = pure x := by intro _ _; rfl) :
    SE X pi W ms (.ListComp elt [⟨tg, iter, ifs, 0⟩, ⟨tg2, iter2, ifs2, 0⟩] scope pos) mdD (mLc (own.map (·.2)) it g t (kSub vs2 it2 g2 t2 (kElt m))) := by
  refine ⟨⟨fun pn sh st hp q iv w => ?_⟩⟩
  obtain ⟨ts1, ts2, md, h, hg, hg2, he⟩ := l.read w
  exact (pe_lc2 hc hN l.a.pi_ l.ok l.hv (fun sh hp C cl fp => (hg sh hp C cl fp).pg) (fun sh hp C cl fp => (l.ht sh hp C cl fp).pt) (fun sh hp C cl fp => (l.hi sh hp C cl fp).pi_) (fun sh hp C cl fp => (hg2 sh hp C cl fp).pg) (fun sh hp C cl fp => (l.ht2 sh hp C cl fp).pt) (fun sh hp C cl fp => (he sh hp C cl fp).pe) hs hs1).run pn sh st hp q iv h
theorem SS.setLc2 (i : Nat) (l : Lc2 X pi W ms ms1 ms2 mdD elt tg iter tg2 iter2 ifs ifs2 scope own vs2 it it2 g g2 t t2 m) (hc : X.calm = true) (hN : X.N.Nodup) (hl : i < ms.length := by decide) (hi : i ∉ pi := by exact of_decide_eq_true rfl) (hy : X.N[i]? = some y := by rfl) (hyl : X.env.scope.names.lookup y = some .local := by rfl)
    (hsw : swapsWith (.ListComp elt [⟨tg, iter, ifs, 0⟩, ⟨tg2, iter2, ifs2, 0⟩] scope p2) (some (.Name y p1)) pos.line X.env = pure true := by exact sw_true rfl rfl rfl (by decide +kernel))
    (hs : ∀ x, foldedSetIterable iter X.env x = pure x := by intro _; rfl) (hs1 : ∀ env x, foldedSetIterable iter2 env x = pure x := by intro _ _; rfl) :
    SS X pi W rm P Lm ms (ms.set i mdD) (.Assign [.Name y p1] (.ListComp elt [⟨tg, iter, ifs, 0⟩, ⟨tg2, iter2, ifs2, 0⟩] scope p2) pos) (mSet i (mLc (own.map (·.2)) it g t (kSub vs2 it2 g2 t2 (kElt m)))) := by
  refine ⟨⟨fun pn sh st hp q iv w => ?_⟩⟩
  have w2 : tE X pi W ms mdD (mLc (own.map (·.2)) it g t (kSub vs2 it2 g2 t2 (kElt m))) st hp (fun x H1 => gName i x st H1 q.nx) := by
    have w1 : tAsg (tE X pi W ms mdD (mLc (own.map (·.2)) it g t (kSub vs2 it2 g2 t2 (kElt m)))) (gName i) q st hp := set_core hl hi w
    exact w1
  obtain ⟨ts1, ts2, md, h, hg, hg2, he⟩ := l.read w2
  exact (ps_setLc2 hc hN hy hyl hsw l.a.pi_ l.ok l.hv (fun sh hp C cl fp => (hg sh hp C cl fp).pg) (fun sh hp C cl fp => (l.ht sh hp C cl fp).pt) (fun sh hp C cl fp => (l.hi sh hp C cl fp).pi_) (fun sh hp C cl fp => (hg2 sh hp C cl fp).pg) (fun sh hp C cl fp => (l.ht2 sh hp C cl fp).pt) (fun sh hp C cl fp => (he sh hp C cl fp).pe) hs hs1).run pn sh st hp q iv h
end
end Cq

/-! text Cq11 -/
set_option Elab.async false
set_option linter.all false
set_option maxRecDepth 100000
/-! Cq, part 11: defs and their calls. -/
namespace Cq
open PySem PySem.Spec L2

abbrev MF := List PV → R (PV × List PV)
def isOw : Md → Bool
  | .ow => true
  | .ow2 => true
  | _ => false
/-- the places of parameters that are lists of the caller's own -/
def ownFrom : Nat → List Md → List Nat
  | _, [] => []
  | k, m :: ms => if isOw m = true then k :: ownFrom (k + 1) ms else ownFrom (k + 1) ms
abbrev ownIx (pms : List Md) : Pin := ⟨ownFrom 0 pms, none⟩
def exitM : List Md → List Md
  | [] => []
  | m :: ms => (if isOw m = true then m else .un) :: exitM ms
theorem exitM_len : ∀ pms : List Md, (exitM pms).length = pms.length
  | [] => rfl
  | m :: ms => by simp [exitM, exitM_len ms]
theorem exitM_get : ∀ {pms : List Md} {i : Nat} {m : Md}, (exitM pms)[i]? = some m → m = .un ∨ (isOw m = true ∧ pms[i]? = some m)
  | [], i, m, h => by simp [exitM] at h
  | q :: ms, 0, m, h => by
    simp only [exitM, List.getElem?_cons_zero, Option.some.injEq] at h
    by_cases w : isOw q = true
    · rw [if_pos w] at h; subst h; exact .inr ⟨w, rfl⟩
    · rw [if_neg w] at h; exact .inl h.symm
  | q :: ms, i + 1, m, h => by
    have := exitM_get (pms := ms) (i := i) (m := m) (by simpa [exitM] using h)
    simpa using this
theorem ownFrom_mem : ∀ {pms : List Md} {k i : Nat}, i ∈ ownFrom k pms ↔ ∃ j m, i = k + j ∧ pms[j]? = some m ∧ isOw m = true
  | [], k, i => by simp [ownFrom]
  | q :: ms, k, i => by
    have ih := ownFrom_mem (pms := ms) (k := k + 1) (i := i)
    unfold ownFrom
    by_cases w : isOw q = true
    · rw [if_pos w, List.mem_cons, ih]
      constructor
      · rintro (h | ⟨j, m, h1, h2, h3⟩)
        · exact ⟨0, q, by omega, rfl, w⟩
        · exact ⟨j + 1, m, by omega, by simpa using h2, h3⟩
      · rintro ⟨j, m, h1, h2, h3⟩
        cases j with
        | zero => exact .inl (by omega)
        | succ j => exact .inr ⟨j, m, by omega, by simpa using h2, h3⟩
    · rw [if_neg w, ih]
      constructor
      · rintro ⟨j, m, h1, h2, h3⟩
        exact ⟨j + 1, m, by omega, by simpa using h2, h3⟩
      · rintro ⟨j, m, h1, h2, h3⟩
        cases j with
        | zero => simp at h2; subst h2; exact absurd h3 w
        | succ j => exact ⟨j, m, by omega, by simpa using h2, h3⟩
theorem ownIx_mem {pms : List Md} {i : Nat} : i ∈ ownIx pms ↔ ∃ m, pms[i]? = some m ∧ isOw m = true := by
  show i ∈ ownFrom 0 pms ↔ _
  rw [ownFrom_mem]
  constructor
  · rintro ⟨j, m, h1, h2, h3⟩
    have : i = j := by omega
    subst this
    exact ⟨m, h2, h3⟩
  · rintro ⟨m, h2, h3⟩
    exact ⟨i, m, by omega, h2, h3⟩
/-- the promise of a def: called with such arguments it computes F -/
def SpF (K : PySem.W.Frag) (mg : Str → Option Value) (pms : List Md) (rm : Md) (F : MF) : Sp := fun vs H Q E => vs.length = pms.length ∧ ∃ I ρ ps, Stt K mg (ownIx pms) ⟨I, H, ρ, vs, [], [], []⟩ pms ps I H ρ (vs.map some) ∧
  (F ps).sat (fun r => ∀ v J H2 ρ2 τ, Same I J → Stt K mg (ownIx pms) ⟨I, H, ρ, vs, [], [], []⟩ (exitM pms) r.2 J H2 ρ2 (vs.map some) → Tau ⟨I, H, ρ, vs, [], [], []⟩ J H2 ρ2 τ → Ent K mg J H2 τ 0 rm r.1 (some v) → Q v H2)
    (fun C fs => ∀ c d J H2 ρ2, mg C = some (.ref c) → Same I J → Sb (ownIx pms) ⟨I, H, ρ, vs, [], [], []⟩ J H2 ρ2 (vs.map some) → ExD K mg J H2 H d fs → E (.ref c) d H2)
def uns (n : Nat) : List Md := List.replicate n .un
def exitN (pms : List Md) (n : Nat) : List Md := exitM pms ++ uns (n - pms.length)
def startN (pms : List Md) (n : Nat) : List Md := pms ++ uns (n - pms.length)
def mDef (n : Nat) (pms : List Md) (rm : Md) (m : MS) : MF := fun ps => (m (ps ++ List.replicate (n - pms.length) .non)).bind fun o => match o with
  | .rt p e => .ok (p, e.take pms.length)
  | .nx e => if rm = .fz then .ok (.non, (clr (exitN pms n) e).take pms.length) else .bad
  | _ => .bad

section
variable {P : Program} {w : World} {K : PySem.W.Frag} {mg : Str → Option Value} {base : Heap}
abbrev cxD (P : Program) (w : World) (K : PySem.W.Frag) (mg : Str → Option Value) (base : Heap) (N : List Str) (qual : Str) (scope : Scope) (f : Addr) (cdv : Value) (A : Around) (outer : List Env) (sh : Shared) (H : Hp) (E : XK) : Cx :=
  cxOf (L2.CX P w) P w K mg base N qual scope f cdv A outer sh H E
theorem sat_def {n : Nat} {pms : List Md} {rm : Md} {m : MS} {ps : List PV} {F : PV × List PV → Prop} {G : Str → List (Str × PV) → Prop} (h : (mDef n pms rm m ps).sat F G) : (m (ps ++ List.replicate (n - pms.length) .non)).sat (fun o => (match o with
  | .rt p e => R.ok (p, e.take pms.length)
  | .nx e => if rm = .fz then R.ok (.non, (clr (exitN pms n) e).take pms.length) else .bad
  | _ => .bad : R (PV × List PV)).sat F G) G := R.sat_bind h
theorem fn_ok {x qual : Str} {params : Arguments} {bdy : List Stmt} {scope : Scope} {dvs : List V} {kws : List (Str × V)} {f : Addr} {fd : FuncData} {N ps : List Str} {k : Nat} {pms ms2 : List Md} {rm : Md} {m : MS} (F : FunD K x qual params bdy scope dvs kws f fd) (S : FnScope N ps scope) (hps : ps.length = pms.length) (hl : leM (exitN pms N.length) ms2 = true) (hN : pms.length ≤ N.length)
    (body : ∀ (cdv : Value) (A : Around) (outer : List Env) (sh : Shared) (H : Hp) (E : XK), Room k (A.deeper (PyProof.Rows.envOfC qual scope sh.heap.objs.size f cdv)) →
      SSs (cxD P w K mg base N qual scope f cdv A outer sh H E) (ownIx pms) (fun cls d _ H => E cls d H) rm (exitN pms N.length) [] (startN pms N.length) ms2 bdy m) :
    FnOk P w K mg base (L2.CX P w) (k + 1) f fd ps (SpF K mg pms rm (mDef N.length pms rm m)) := by
  refine F.ok (CX := L2.CX P w) S (fun vs H Q E h => h.1.trans hps.symm) (fun cdv A outer sh H vs Q E hr h => ?_)
  obtain ⟨hvl, I, ρ, qs, st0, hz⟩ := h
  refine ⟨_, (body cdv A outer sh H E hr).ps, ?_⟩
  have hql : qs.length = pms.length := st0.le
  have hs : L2.start N vs = vs.map some ++ List.replicate (N.length - pms.length) none := by unfold L2.start; rw [hvl]
  have st1 : Stt K mg (ownIx pms) ⟨I, H, ρ, vs, [], [], []⟩ (startN pms N.length) (qs ++ List.replicate (N.length - pms.length) .non) I H ρ (L2.start N vs) := by
    rw [hs]
    refine ⟨st0.sb.slots fun i hi => ?_, by simp [startN, uns, hvl], by simp [startN, uns, hql], rfl, rfl, fun i mm p v h1 h2 h3 => ?_⟩
    · obtain ⟨mm, h1, _⟩ := ownIx_mem.mp hi
      rw [List.getElem?_append_left (by rw [List.length_map, hvl]; exact (List.getElem?_eq_some_iff.mp h1).1)]
    · simp only [List.append_nil] at h1 h2 h3
      by_cases hi : i < pms.length
      · unfold startN at h1
        rw [List.getElem?_append_left hi] at h1
        rw [List.getElem?_append_left (by rw [hql]; exact hi)] at h2
        rw [List.getElem?_append_left (by rw [List.length_map, hvl]; exact hi)] at h3
        exact st0.en i mm p v h1 h2 h3
      · unfold startN uns at h1
        rw [List.getElem?_append_right (by omega), List.getElem?_replicate] at h1
        split at h1
        · cases h1; unfold Ent; trivial
        · cases h1
  -- back to the caller's view
  have back : ∀ {e J H2 ρ2 σ2}, Stt K mg (ownIx pms) ⟨I, H, ρ, vs, [], [], []⟩ (exitN pms N.length) e J H2 ρ2 σ2 → Stt K mg (ownIx pms) ⟨I, H, ρ, vs, [], [], []⟩ (exitM pms) (e.take pms.length) J H2 ρ2 (vs.map some) := fun {e J H2 ρ2 σ2} s2 => by
    have el : e.length = N.length := by have := s2.le; simp [exitN, uns, exitM_len] at this; omega
    have pins : ∀ i ∈ ownIx pms, (vs.map some)[i]? = σ2[i]? := fun i hi => by
      obtain ⟨v, h1, h2⟩ := s2.sb.pr i hi
      rw [h2, List.getElem?_map, h1]
      rfl
    refine ⟨s2.sb.slots pins, by simp [exitM_len, hvl], by simp [exitM_len, el]; omega, rfl, rfl, fun i mm p v h1 h2 h3 => ?_⟩
    simp only [List.append_nil] at h1 h2 h3
    rcases exitM_get h1 with z | ⟨z1, z2⟩
    · subst z; unfold Ent; trivial
    · have hi : i < pms.length := (List.getElem?_eq_some_iff.mp z2).1
      rw [List.getElem?_take_of_lt hi] at h2
      rw [pins i (ownIx_mem.mpr ⟨mm, z2, z1⟩)] at h3
      refine s2.en i mm p v ?_ h2 h3
      unfold exitN
      rw [List.getElem?_append_left (by rw [exitM_len]; exact hi)]
      exact h1
  refine ⟨⟨I, H, ρ, vs, [], [], []⟩, I, ρ, _, st1, R.sat_mono (sat_def hz) (fun o zo => ?_) fun C fs zz σ c d J H2 ρ2 h1 h2 h3 h4 _ => ?_⟩
  · cases o with
    | nx e =>
      intro σ2 J H2 ρ2 sj s2
      dsimp only at zo
      by_cases hrm : rm = .fz
      · subst hrm
        rw [if_pos rfl] at zo
        exact (show ∀ v J H2 ρ2 τ, Same I J → Stt K mg (ownIx pms) ⟨I, H, ρ, vs, [], [], []⟩ (exitM pms) ((clr (exitN pms N.length) e).take pms.length) J H2 ρ2 (vs.map some) → Tau ⟨I, H, ρ, vs, [], [], []⟩ J H2 ρ2 τ → Ent K mg J H2 τ 0 .fz .non (some v) → Q v H2 from zo) .non J H2 ρ2 (fun _ => none) sj (back (s2.weak hl)) .none (by unfold Ent; exact ⟨_, rfl, rep_non⟩)
      · rw [if_neg hrm] at zo
        exact zo.elim
    | bk e => exact (show False from zo).elim
    | ct e => exact (show False from zo).elim
    | rt p e =>
      intro v σ2 J H2 ρ2 τ sj s2 t2 en
      exact (show ∀ v J H2 ρ2 τ, Same I J → Stt K mg (ownIx pms) ⟨I, H, ρ, vs, [], [], []⟩ (exitM pms) (e.take pms.length) J H2 ρ2 (vs.map some) → Tau ⟨I, H, ρ, vs, [], [], []⟩ J H2 ρ2 τ → Ent K mg J H2 τ 0 rm p (some v) → Q v H2 from zo) v J H2 ρ2 τ sj (back s2) t2 en
  · refine zz c d J H2 ρ2 h1 h2 (h3.slots fun i hi => ?_) h4
    obtain ⟨v, q1, q2⟩ := h3.pr i hi
    rw [q2, List.getElem?_map, q1]
    rfl
end

/-! ### calls -/
/-- arguments: a frozen value, or the frame's own list in a slot -/
def ArgOk (K : PySem.W.Frag) (mg : Str → Option Value) (J : Hp) (σ : L2.St) : List (Option Nat) → List PV → List V → Prop
  | [], ps, vs => ps = [] ∧ vs = []
  | none :: am, ps, vs => ∃ p qs v us, ps = p :: qs ∧ vs = v :: us ∧ Rep K mg J p v ∧ ArgOk K mg J σ am qs us
  | some s :: am, ps, vs => ∃ p qs v us, ps = p :: qs ∧ vs = v :: us ∧ σ[s]? = some (some v) ∧ ArgOk K mg J σ am qs us
theorem ArgOk.mono {K : PySem.W.Frag} {mg : Str → Option Value} {I J : Hp} {σ : L2.St} (s : Same I J) : ∀ {am : List (Option Nat)} {ps : List PV} {vs : List V}, ArgOk K mg I σ am ps vs → ArgOk K mg J σ am ps vs
  | [], _, _, h => h
  | none :: am, _, _, h => by
    obtain ⟨p, qs, v, us, e1, e2, r, h⟩ := h
    exact ⟨p, qs, v, us, e1, e2, r.mono s, ArgOk.mono s h⟩
  | some k :: am, _, _, h => by
    obtain ⟨p, qs, v, us, e1, e2, r, h⟩ := h
    exact ⟨p, qs, v, us, e1, e2, r, ArgOk.mono s h⟩
theorem ArgOk.len {K : PySem.W.Frag} {mg : Str → Option Value} {I : Hp} {σ : L2.St} : ∀ {am : List (Option Nat)} {ps : List PV} {vs : List V}, ArgOk K mg I σ am ps vs → ps.length = am.length ∧ vs.length = am.length
  | [], _, _, h => by obtain ⟨rfl, rfl⟩ := h; exact ⟨rfl, rfl⟩
  | none :: am, _, _, h => by
    obtain ⟨p, qs, v, us, rfl, rfl, _, h⟩ := h
    obtain ⟨a, b⟩ := ArgOk.len h
    exact ⟨by simp [a], by simp [b]⟩
  | some k :: am, _, _, h => by
    obtain ⟨p, qs, v, us, rfl, rfl, _, h⟩ := h
    obtain ⟨a, b⟩ := ArgOk.len h
    exact ⟨by simp [a], by simp [b]⟩
theorem ArgOk.get {K : PySem.W.Frag} {mg : Str → Option Value} {I : Hp} {σ : L2.St} : ∀ {am : List (Option Nat)} {ps : List PV} {vs : List V} {j : Nat} {v : V}, ArgOk K mg I σ am ps vs → vs[j]? = some v → (am[j]? = some none ∧ ∃ p, ps[j]? = some p ∧ Rep K mg I p v) ∨ ∃ s, am[j]? = some (some s) ∧ σ[s]? = some (some v)
  | [], _, _, _, _, h, e => by obtain ⟨rfl, rfl⟩ := h; simp at e
  | none :: am, _, _, 0, _, h, e => by
    obtain ⟨p, qs, v, us, rfl, rfl, r, h⟩ := h
    simp at e; subst e
    exact .inl ⟨rfl, p, rfl, r⟩
  | some k :: am, _, _, 0, _, h, e => by
    obtain ⟨p, qs, v, us, rfl, rfl, r, h⟩ := h
    simp at e; subst e
    exact .inr ⟨k, rfl, r⟩
  | none :: am, _, _, j + 1, _, h, e => by
    obtain ⟨p, qs, v, us, rfl, rfl, r, h⟩ := h
    simpa using ArgOk.get (j := j) h (by simpa using e)
  | some k :: am, _, _, j + 1, _, h, e => by
    obtain ⟨p, qs, v, us, rfl, rfl, r, h⟩ := h
    simpa using ArgOk.get (j := j) h (by simpa using e)
/-- the arguments' values, the own ones as they stand behind all -/
def fillA : List (Option Nat) → List PV → List PV → List PV
  | none :: am, p :: ps, env => p :: fillA am ps env
  | some s :: am, _ :: ps, env => env.getD s .non :: fillA am ps env
  | _, _, _ => []
/-- the own ones, as the callee leaves them -/
def backA : List (Option Nat) → List PV → List PV → List PV
  | none :: am, _ :: rs, env => backA am rs env
  | some s :: am, r :: rs, env => (backA am rs env).set s r
  | _, _, env => env
def posA : List (Option Nat) → Nat → Option Nat
  | [], _ => none
  | none :: am, s => (posA am s).map (· + 1)
  | some t :: am, s => if t = s then some 0 else (posA am s).map (· + 1)
def okA (ms pms : List Md) (am : List (Option Nat)) : Bool := am.length == pms.length && (List.range am.length).all fun j => match am[j]?, pms[j]? with
  | some none, some m => m == .fz
  | some (some s), some m => isOw m && (ms[s]? == some m && posA am s == some j)
  | _, _ => false
theorem posA_get : ∀ {am : List (Option Nat)} {s j : Nat}, posA am s = some j → am[j]? = some (some s)
  | [], _, _, h => by simp [posA] at h
  | none :: am, s, j, h => by
    unfold posA at h
    cases w : posA am s with
    | none => rw [w] at h; cases h
    | some k => rw [w] at h; cases h; simpa using posA_get w
  | some t :: am, s, j, h => by
    unfold posA at h
    split at h
    · rename_i e; subst e; cases h; rfl
    · cases w : posA am s with
      | none => rw [w] at h; cases h
      | some k => rw [w] at h; cases h; simpa using posA_get w
theorem okA_spec {ms pms : List Md} {am : List (Option Nat)} (h : okA ms pms am = true) : am.length = pms.length ∧ (∀ j : Nat, am[j]? = some none → pms[j]? = some Md.fz) ∧ ∀ j s : Nat, am[j]? = some (some s) → ∃ m, pms[j]? = some m ∧ isOw m = true ∧ ms[s]? = some m ∧ posA am s = some j := by
  unfold okA at h
  rw [Bool.and_eq_true] at h
  obtain ⟨h1, h2⟩ := h
  have hl : am.length = pms.length := by simpa using h1
  have key : ∀ j, j < am.length → (match am[j]?, pms[j]? with
    | some none, some m => m == .fz
    | some (some s), some m => isOw m && (ms[s]? == some m && posA am s == some j)
    | _, _ => false) = true := fun j hj => List.all_eq_true.mp h2 j (List.mem_range.mpr hj)
  refine ⟨hl, fun j e => ?_, fun j s e => ?_⟩
  · have hj := (List.getElem?_eq_some_iff.mp e).1
    have k := key j hj
    rw [e, List.getElem?_eq_getElem (by omega : j < pms.length)] at k
    rw [List.getElem?_eq_getElem (by omega : j < pms.length)]
    simpa using k
  · have hj := (List.getElem?_eq_some_iff.mp e).1
    have k := key j hj
    rw [e, List.getElem?_eq_getElem (by omega : j < pms.length)] at k
    simp only [Bool.and_eq_true, beq_iff_eq] at k
    exact ⟨_, List.getElem?_eq_getElem (by omega : j < pms.length), k.1, k.2.1, k.2.2⟩
theorem fillA_len : ∀ {am : List (Option Nat)} {ps env : List PV}, ps.length = am.length → (fillA am ps env).length = am.length
  | [], ps, env, _ => by cases ps <;> rfl
  | none :: am, [], env, h => by simp at h
  | some s :: am, [], env, h => by simp at h
  | none :: am, p :: ps, env, h => by simp [fillA, fillA_len (am := am) (ps := ps) (env := env) (by simpa using h)]
  | some s :: am, p :: ps, env, h => by simp [fillA, fillA_len (am := am) (ps := ps) (env := env) (by simpa using h)]
theorem fillA_get : ∀ {am : List (Option Nat)} {ps env : List PV} {j : Nat} {q : PV}, (fillA am ps env)[j]? = some q → (am[j]? = some none ∧ ps[j]? = some q) ∨ ∃ s, am[j]? = some (some s) ∧ q = env.getD s .non
  | [], ps, env, j, q, h => by cases ps <;> simp [fillA] at h
  | none :: am, [], env, j, q, h => by simp [fillA] at h
  | some s :: am, [], env, j, q, h => by simp [fillA] at h
  | none :: am, p :: ps, env, 0, q, h => by simp [fillA] at h; subst h; exact .inl ⟨rfl, rfl⟩
  | some s :: am, p :: ps, env, 0, q, h => by simp [fillA] at h; subst h; exact .inr ⟨s, rfl, by simp⟩
  | none :: am, p :: ps, env, j + 1, q, h => by simpa using fillA_get (am := am) (ps := ps) (env := env) (j := j) (q := q) (by simpa [fillA] using h)
  | some s :: am, p :: ps, env, j + 1, q, h => by simpa using fillA_get (am := am) (ps := ps) (env := env) (j := j) (q := q) (by simpa [fillA] using h)
theorem backA_len : ∀ {am : List (Option Nat)} {rs env : List PV}, (backA am rs env).length = env.length
  | [], rs, env => by cases rs <;> rfl
  | none :: am, [], env => rfl
  | some s :: am, [], env => rfl
  | none :: am, r :: rs, env => by simp [backA, backA_len (am := am)]
  | some s :: am, r :: rs, env => by simp [backA, backA_len (am := am)]
theorem backA_out : ∀ {am : List (Option Nat)} {rs env : List PV} {s : Nat}, posA am s = none → (backA am rs env)[s]? = env[s]?
  | [], rs, env, s, _ => by cases rs <;> rfl
  | none :: am, [], env, s, _ => rfl
  | some t :: am, [], env, s, _ => rfl
  | none :: am, r :: rs, env, s, h => by
    unfold posA at h
    unfold backA
    exact backA_out (by simpa using h)
  | some t :: am, r :: rs, env, s, h => by
    unfold posA at h
    split at h
    · cases h
    · rename_i n
      unfold backA
      rw [List.getElem?_set_ne n]
      exact backA_out (by simpa using h)
theorem backA_in : ∀ {am : List (Option Nat)} {rs env : List PV} {s j : Nat}, s < env.length → rs.length = am.length → posA am s = some j → (backA am rs env)[s]? = rs[j]?
  | [], rs, env, s, j, _, _, h => by simp [posA] at h
  | none :: am, [], env, s, j, _, l, h => by simp at l
  | some t :: am, [], env, s, j, _, l, h => by simp at l
  | none :: am, r :: rs, env, s, j, hs, l, h => by
    unfold posA at h
    unfold backA
    cases w : posA am s with
    | none => rw [w] at h; cases h
    | some k =>
      rw [w] at h; cases h
      rw [backA_in hs (by simpa using l) w]
      simp
  | some t :: am, r :: rs, env, s, j, hs, l, h => by
    unfold posA at h
    unfold backA
    split at h
    · rename_i e
      subst e
      cases h
      rw [List.getElem?_set_self (by rw [backA_len]; exact hs)]
      rfl
    · rename_i n
      cases w : posA am s with
      | none => rw [w] at h; cases h
      | some k =>
        rw [w] at h; cases h
        rw [List.getElem?_set_ne n, backA_in hs (by simpa using l) w]
        simp
/-- the owner map as the callee has it; as the caller has it again -/
def toCallee (am : List (Option Nat)) (ρ : Own) : Own := fun a => match ρ a with
  | some t => match posA am t.1 with
    | some j => some (j, t.2)
    | none => none
  | none => none
def toCaller (am : List (Option Nat)) (ρ ρ3 : Own) : Own := fun a => match ρ3 a with
  | some t => match am[t.1]? with
    | some (some s) => some (s, t.2)
    | _ => none
  | none => match ρ a with
    | some t => match posA am t.1 with
      | some _ => none
      | none => some t
    | none => none
theorem toCallee_of {am : List (Option Nat)} {ρ : Own} {a : Addr} {t : Tag} (h : toCallee am ρ a = some t) : ∃ s, ρ a = some (s, t.2) ∧ posA am s = some t.1 := by
  unfold toCallee at h
  cases w : ρ a with
  | none => rw [w] at h; cases h
  | some u =>
    rw [w] at h
    dsimp only at h
    cases w2 : posA am u.1 with
    | none => rw [w2] at h; cases h
    | some j => rw [w2] at h; cases h; exact ⟨u.1, rfl, w2⟩
theorem toCallee_none {am : List (Option Nat)} {ρ : Own} {a : Addr} {s : Nat} {r : Option Nat} (h : ρ a = some (s, r)) (n : posA am s = none) : toCallee am ρ a = none := by
  unfold toCallee; rw [h]; simp [n]
theorem toCallee_some {am : List (Option Nat)} {ρ : Own} {a : Addr} {s j : Nat} {r : Option Nat} (h : ρ a = some (s, r)) (n : posA am s = some j) : toCallee am ρ a = some (j, r) := by
  unfold toCallee; rw [h]; simp [n]
theorem toCaller_of {am : List (Option Nat)} {ρ ρ3 : Own} {a : Addr} {t : Tag} (h : toCaller am ρ ρ3 a = some t) : (∃ j, ρ3 a = some (j, t.2) ∧ am[j]? = some (some t.1)) ∨ (ρ3 a = none ∧ ρ a = some t ∧ posA am t.1 = none) := by
  unfold toCaller at h
  cases w : ρ3 a with
  | some u =>
    rw [w] at h
    dsimp only at h
    split at h
    · rename_i s e
      cases h
      exact .inl ⟨u.1, rfl, e⟩
    · cases h
  | none =>
    rw [w] at h
    dsimp only at h
    cases w2 : ρ a with
    | none => rw [w2] at h; cases h
    | some u =>
      rw [w2] at h
      dsimp only at h
      split at h
      · cases h
      · rename_i e
        cases h
        exact .inr ⟨rfl, rfl, e⟩
theorem toCaller_own {am : List (Option Nat)} {ρ ρ3 : Own} {a : Addr} {j s : Nat} {r : Option Nat} (h : ρ3 a = some (j, r)) (e : am[j]? = some (some s)) : toCaller am ρ ρ3 a = some (s, r) := by
  unfold toCaller; rw [h]; simp [e]
theorem toCaller_rest {am : List (Option Nat)} {ρ ρ3 : Own} {a : Addr} {t : Tag} (h3 : ρ3 a = none) (h : ρ a = some t) (e : posA am t.1 = none) : toCaller am ρ ρ3 a = some t := by
  unfold toCaller; rw [h3]; simp [h, e]
theorem Ent.retag {K : PySem.W.Frag} {mg : Str → Option Value} {I H : Hp} {ρ ρ2 : Own} {i j : Nat} {p : PV} {v : Option V} {m : Md} (hρ : ∀ a r, ρ a = some (i, r) → ρ2 a = some (j, r)) (h : Ent K mg I H ρ i m p v) : Ent K mg I H ρ2 j m p v := by
  have rows : ∀ {ps : List PV} {k : Nat} {vs : List V}, RowsOk K mg I H ρ i k ps vs → RowsOk K mg I H ρ2 j k ps vs := by
    intro ps
    induction ps with
    | nil => intro k vs z; unfold RowsOk at z ⊢; exact z
    | cons p ps ih =>
      intro k vs z
      unfold RowsOk at z ⊢
      obtain ⟨b, r', ws, ys, e1, e2, e3, e4, e5, e6⟩ := z
      exact ⟨b, r', ws, ys, e1, e2, hρ _ _ e3, e4, e5, ih e6⟩
  cases m with
  | un => unfold Ent; trivial
  | fz => unfold Ent at h ⊢; exact h
  | ow =>
    unfold Ent at h ⊢
    obtain ⟨a, ps, vs, e1, e2, e3, e4, e5⟩ := h
    exact ⟨a, ps, vs, e1, e2, hρ _ _ e3, e4, e5⟩
  | ow2 =>
    unfold Ent at h ⊢
    obtain ⟨a, ps, vs, e1, e2, e3, e4, e5⟩ := h
    exact ⟨a, ps, vs, e1, e2, hρ _ _ e3, e4, rows e5⟩
section
variable {K : PySem.W.Frag} {mg : Str → Option Value} {pi : Pin} {B : Bs} {ms pms : List Md} {env : List PV} {J H : Hp} {ρ : Own} {σ : L2.St} {am : List (Option Nat)} {ps : List PV} {vs : List V}
/-- the callee's start -/
theorem call_start (s : Stt K mg pi B ms env J H ρ σ) (ha : ArgOk K mg J σ am ps vs) (ok : okA ms pms am = true) : Stt K mg (ownIx pms) ⟨J, H, toCallee am ρ, vs, [], [], []⟩ pms (fillA am ps env) J H (toCallee am ρ) (vs.map some) := by
  obtain ⟨k1, k2, k3⟩ := okA_spec ok
  obtain ⟨l1, l2⟩ := ha.len
  refine ⟨⟨s.sub, .refl _, fun a o e _ => e, fun a o e => .inl e, fun a t h => ?_, fun a e => e, fun i hi => ?_, fun a t h => ?_, fun q e => by cases e⟩, by rw [List.length_map, l2, k1], by rw [fillA_len l1, k1], rfl, rfl, fun j m p v h1 h2 h3 => ?_⟩
  · obtain ⟨sl, h1, h2⟩ := toCallee_of h
    obtain ⟨_, q2, q3⟩ := s.sb.ro a _ h1
    exact ⟨.inl h, q2, q3⟩
  · obtain ⟨m, h1, h2⟩ := ownIx_mem.mp hi
    have hl : i < vs.length := by rw [l2, k1]; exact (List.getElem?_eq_some_iff.mp h1).1
    exact ⟨vs[i], List.getElem?_eq_getElem hl, by rw [List.getElem?_map, List.getElem?_eq_getElem hl]; rfl⟩
  · obtain ⟨sl, h1, h2⟩ := toCallee_of h
    obtain ⟨m, q1, q2, _⟩ := k3 _ _ (posA_get h2)
    exact ownIx_mem.mpr ⟨m, q1, q2⟩
  · simp only [List.append_nil] at h1 h2 h3
    obtain ⟨v2, hv, rfl⟩ : ∃ u, vs[j]? = some u ∧ v = some u := by
      rw [List.getElem?_map] at h3
      cases w : vs[j]? with
      | none => rw [w] at h3; cases h3
      | some u => rw [w] at h3; cases h3; exact ⟨u, rfl, rfl⟩
    rcases ha.get hv with ⟨a1, p1, g1, g2⟩ | ⟨sl, a1, g1⟩
    · have := k2 j a1
      rw [this] at h1; cases h1
      rcases fillA_get h2 with ⟨_, z⟩ | ⟨sl, z, _⟩
      · rw [g1] at z; cases z
        unfold Ent
        exact ⟨v2, rfl, g2⟩
      · rw [a1] at z; cases z
    · obtain ⟨m2, q1, q2, q3, q4⟩ := k3 j sl a1
      rw [q1] at h1; cases h1
      rcases fillA_get h2 with ⟨z, _⟩ | ⟨sl2, z, rfl⟩
      · rw [a1] at z; cases z
      · rw [a1] at z; cases z
        have hl : sl < env.length := by rw [s.le]; exact (List.getElem?_eq_some_iff.mp q3).1
        have e := s.en sl _ _ _ q3 (List.getElem?_eq_getElem hl) g1
        rw [List.getD_eq_getElem?_getD, List.getElem?_eq_getElem hl]
        exact e.retag fun a r h => toCallee_some h q4
/-- behind the callee -/
theorem call_end {J3 H3 : Hp} {ρ3 τ : Own} {rs : List PV} {rm : Md} {q : PV} {v : V} (s : Stt K mg pi B ms env J H ρ σ) (ha : ArgOk K mg J σ am ps vs) (ok : okA ms pms am = true) (sj : Same J J3)
    (e : Stt K mg (ownIx pms) ⟨J, H, toCallee am ρ, vs, [], [], []⟩ (exitM pms) rs J3 H3 ρ3 (vs.map some)) (t : Tau ⟨J, H, toCallee am ρ, vs, [], [], []⟩ J3 H3 ρ3 τ) :
    Stt K mg pi B ms (backA am rs env) J3 H3 (toCaller am ρ ρ3) σ ∧ Tau B J3 H3 (toCaller am ρ ρ3) τ := by
  obtain ⟨k1, k2, k3⟩ := okA_spec ok
  obtain ⟨l1, l2⟩ := ha.len
  have rl : rs.length = am.length := by have := e.le; rw [exitM_len] at this; omega
  have al : ∀ a, H3 a = none → H a = none := fun a h => e.sb.al a h
  have noH : ∀ a u, ρ a = some u → H a ≠ none := fun a u h z => by
    obtain ⟨_, _, us, q⟩ := s.sb.ro a u h
    rw [z] at q; cases q
  -- what is not handed over stays
  have stay : ∀ a u, ρ a = some u → posA am u.1 = none → H3 a = H a ∧ J3 a = none := fun a u h n => by
    obtain ⟨_, q2, us, q3⟩ := s.sb.ro a u h
    have f := e.sb.fr a _ (show H a = some _ from q3) (toCallee_none (r := u.2) h n)
    refine ⟨f.trans q3.symm, ?_⟩
    cases w : J3 a with
    | none => rfl
    | some o =>
      rcases e.sb.ft a o w with z | z
      · have z' : J a = some o := z
        rw [q2] at z'; cases z'
      · exact absurd z (noH a u h)
  have nρ3 : ∀ a u, ρ a = some u → posA am u.1 = none → ρ3 a = none := fun a u h n => by
    cases w : ρ3 a with
    | none => rfl
    | some t3 =>
      rcases (e.sb.ro a t3 w).1 with z | z
      · have z' : toCallee am ρ a = some t3 := z
        rw [toCallee_none (r := u.2) h n] at z'; cases z'
      · exact absurd z (noH a u h)
  refine ⟨⟨⟨e.sb.sub, s.sb.bi.trans sj, fun a o h n => ?_, fun a o h => ?_, fun a u h => ?_, fun a h => s.sb.al a (al a h), s.sb.pr, s.sb.bo, s.sb.pxm sj⟩, s.ls, by rw [backA_len]; exact s.le, s.l1, s.l2, fun i m p x h1 h2 h3 => ?_⟩, fun a u h => ?_⟩
  · have h2 := s.sb.fr a o h n
    refine e.sb.fr a o h2 ?_
    show toCallee am ρ a = none
    cases w : toCallee am ρ a with
    | none => rfl
    | some u =>
      obtain ⟨sl, q1, _⟩ := toCallee_of w
      rcases (s.sb.ro a _ q1).1 with z | z
      · rw [n] at z; cases z
      · rw [h] at z; cases z
  · rcases e.sb.ft a o h with z | z
    · exact s.sb.ft a o z
    · exact .inr (s.sb.al a z)
  · rcases toCaller_of h with ⟨j, q1, q2⟩ | ⟨q1, q2, q3⟩
    · obtain ⟨p1, p2, p3⟩ := e.sb.ro a _ q1
      refine ⟨?_, p2, p3⟩
      rcases p1 with z | z
      · have z' : toCallee am ρ a = some (j, u.2) := z
        obtain ⟨sl, g1, g2⟩ := toCallee_of z'
        have := posA_get g2
        dsimp only at this
        rw [q2] at this
        cases this
        exact (s.sb.ro a _ g1).1
      · exact .inr (s.sb.al a z)
    · obtain ⟨p1, p2, us, p3⟩ := s.sb.ro a u q2
      obtain ⟨g1, g2⟩ := stay a u q2 q3
      exact ⟨p1, g2, us, by rw [g1]; exact p3⟩
  · by_cases hi : i < ms.length
    · have h1' : ms[i]? = some m := by rw [List.getElem?_append_left hi] at h1; exact h1
      have h2' : (backA am rs env)[i]? = some p := by rw [List.getElem?_append_left (by rw [backA_len, s.le]; exact hi)] at h2; exact h2
      have h3' : σ[i]? = some x := by rw [List.getElem?_append_left (by rw [s.ls]; exact hi)] at h3; exact h3
      cases w : posA am i with
      | none =>
        rw [backA_out w] at h2'
        refine (s.en i m p x h1' h2' h3').mono sj fun b r us h4 h5 => ⟨toCaller_rest (nρ3 b _ h4 w) h4 w, ?_⟩
        rw [(stay b _ h4 w).1]; exact h5
      | some j =>
        obtain ⟨m2, q1, q2, q3, _⟩ := k3 j i (posA_get w)
        rw [h1'] at q3; cases q3
        rw [backA_in (by rw [s.le]; exact hi) rl w] at h2'
        have hx : (vs.map some)[j]? = some x := by
          have hl : j < vs.length := by rw [l2, k1]; exact (List.getElem?_eq_some_iff.mp q1).1
          rcases ha.get (List.getElem?_eq_getElem hl) with ⟨a1, _⟩ | ⟨sl, a1, g1⟩
          · rw [posA_get w] at a1; cases a1
          · rw [posA_get w] at a1; cases a1
            rw [h3'] at g1; cases g1
            rw [List.getElem?_map, List.getElem?_eq_getElem hl]; rfl
        have hm : (exitM pms)[j]? = some m := by
          have hl : j < (exitM pms).length := by rw [exitM_len]; exact (List.getElem?_eq_some_iff.mp q1).1
          have : ∀ {l : List Md} {j : Nat} {m : Md}, l[j]? = some m → isOw m = true → (exitM l)[j]? = some m := by
            intro l
            induction l with
            | nil => intro j m h _; simp at h
            | cons c l ih =>
              intro j m h ho
              cases j with
              | zero => simp at h; subst h; simp [exitM, ho]
              | succ j => simpa [exitM] using ih (by simpa using h) ho
          exact this q1 q2
        exact (e.en j m p x hm h2' hx).retag fun a r h => toCaller_own h (posA_get w)
    · have q1 : (ms ++ B.hm)[i]? = some m := h1
      rw [List.getElem?_append_right (by rw [backA_len, s.le]; omega), backA_len] at h2
      have h2' : (env ++ B.hp)[i]? = some p := by rw [List.getElem?_append_right (by rw [s.le]; omega)]; exact h2
      have n : posA am i = none := by
        cases w : posA am i with
        | none => rfl
        | some j =>
          obtain ⟨_, _, _, q3, _⟩ := k3 j i (posA_get w)
          exact absurd (List.getElem?_eq_some_iff.mp q3).1 hi
      refine (s.ea i m p x q1 h2' h3).mono sj fun b r us h4 h5 => ⟨toCaller_rest (nρ3 b _ h4 n) h4 n, ?_⟩
      rw [(stay b _ h4 n).1]; exact h5
  · obtain ⟨g1, g2, g3, g4, g5⟩ := t a u h
    refine ⟨g1, ?_, g3, s.sb.al a g4, g5⟩
    cases w : toCaller am ρ ρ3 a with
    | none => rfl
    | some u2 =>
      rcases toCaller_of w with ⟨j, q1, _⟩ | ⟨_, q2, _⟩
      · rw [g2] at q1; cases q1
      · exact absurd g4 (noH a _ q2)
end
end Cq

/-! text Cq12 -/
set_option Elab.async false
set_option linter.all false
set_option maxRecDepth 100000
/-! Cq, part 12: calls of the law's own defs. -/
namespace Cq
open PySem PySem.Spec L2

section
variable {K : PySem.W.Frag} {mg : Str → Option Value} {pi : Pin} {B : Bs} {ms pms : List Md} {env : List PV} {J H : Hp} {ρ : Own} {σ : L2.St} {am : List (Option Nat)} {ps : List PV} {vs : List V}
/-- behind a callee that raised -/
theorem call_fly {n : Nat} {J3 H3 : Hp} {ρ3 : Own} (s : Sb pi B J H ρ σ) (hk : HeldOk K mg n B J H ρ) (hn : ms.length ≤ n) (ok : okA ms pms am = true) (sj : Same J J3)
    (e : Sb (ownIx pms) ⟨J, H, toCallee am ρ, vs, [], [], []⟩ J3 H3 ρ3 (vs.map some)) :
    Sb pi B J3 H3 (toCaller am ρ ρ3) σ ∧ HeldOk K mg n B J3 H3 (toCaller am ρ ρ3) := by
  obtain ⟨k1, k2, k3⟩ := okA_spec ok
  have al : ∀ a, H3 a = none → H a = none := fun a h => e.al a h
  have noH : ∀ a u, ρ a = some u → H a ≠ none := fun a u h z => by
    obtain ⟨_, _, us, q⟩ := s.ro a u h
    rw [z] at q; cases q
  have stay : ∀ a u, ρ a = some u → posA am u.1 = none → H3 a = H a ∧ J3 a = none := fun a u h n => by
    obtain ⟨_, q2, us, q3⟩ := s.ro a u h
    have f := e.fr a _ (show H a = some _ from q3) (toCallee_none (r := u.2) h n)
    refine ⟨f.trans q3.symm, ?_⟩
    cases w : J3 a with
    | none => rfl
    | some o =>
      rcases e.ft a o w with z | z
      · have z' : J a = some o := z
        rw [q2] at z'; cases z'
      · exact absurd z (noH a u h)
  have nρ3 : ∀ a u, ρ a = some u → posA am u.1 = none → ρ3 a = none := fun a u h n => by
    cases w : ρ3 a with
    | none => rfl
    | some t3 =>
      rcases (e.ro a t3 w).1 with z | z
      · have z' : toCallee am ρ a = some t3 := z
        rw [toCallee_none (r := u.2) h n] at z'; cases z'
      · exact absurd z (noH a u h)
  refine ⟨⟨e.sub, s.bi.trans sj, fun a o h n => ?_, fun a o h => ?_, fun a u h => ?_, fun a h => s.al a (al a h), s.pr, s.bo, s.pxm sj⟩, fun i m p v h1 h2 h3 => ?_⟩
  · have h2 := s.fr a o h n
    refine e.fr a o h2 ?_
    show toCallee am ρ a = none
    cases w : toCallee am ρ a with
    | none => rfl
    | some u =>
      obtain ⟨sl, q1, _⟩ := toCallee_of w
      rcases (s.ro a _ q1).1 with z | z
      · rw [n] at z; cases z
      · rw [h] at z; cases z
  · rcases e.ft a o h with z | z
    · exact s.ft a o z
    · exact .inr (s.al a z)
  · rcases toCaller_of h with ⟨j, q1, q2⟩ | ⟨q1, q2, q3⟩
    · obtain ⟨p1, p2, p3⟩ := e.ro a _ q1
      refine ⟨?_, p2, p3⟩
      rcases p1 with z | z
      · have z' : toCallee am ρ a = some (j, u.2) := z
        obtain ⟨sl, g1, g2⟩ := toCallee_of z'
        have := posA_get g2
        dsimp only at this
        rw [q2] at this
        cases this
        exact (s.ro a _ g1).1
      · exact .inr (s.al a z)
    · obtain ⟨p1, p2, us, p3⟩ := s.ro a u q2
      obtain ⟨g1, g2⟩ := stay a u q2 q3
      exact ⟨p1, g2, us, by rw [g1]; exact p3⟩
  · have hq : posA am (n + i) = none := by
      cases w : posA am (n + i) with
      | none => rfl
      | some j =>
        obtain ⟨_, _, _, q3, _⟩ := k3 j (n + i) (posA_get w)
        have := (List.getElem?_eq_some_iff.mp q3).1
        omega
    refine (hk i m p v h1 h2 h3).mono sj fun b r us h4 h5 => ⟨toCaller_rest (nρ3 b _ h4 hq) h4 hq, ?_⟩
    rw [(stay b _ h4 hq).1]; exact h5
end

/-! ### arguments -/
section
variable (X : Cx) (pi : Pin) (W : WX) (ms : List Md)
def tAr (am : List (Option Nat)) (m : MA) : TA := fun σ H Q => ∃ B I ρ env, Stt X.K X.mg pi B ms env I H ρ σ ∧
  (m env).sat (fun r => ∀ vs J H2 ρ2, Same I J → Stt X.K X.mg pi B ms r.2 J H2 ρ2 σ → ArgOk X.K X.mg J σ am r.1 vs → Q vs H2) (Fly X pi W B I σ)
structure SAr (es : List Expr) (am : List (Option Nat)) (m : MA) : Prop where
  pa : PA X es (tAr X pi W ms am m)
end
section
variable {X : Cx} {pi : Pin} {W : WX} {ms : List Md} {md : Md} {e : Expr} {es : List Expr} {m : MV} {a : MA} {am : List (Option Nat)} {p pos : Pos}
theorem SAr.nil : SAr X pi W ms [] [] mNil := by
  refine ⟨PAimp pa_nil fun σ H Q ⟨B, I, ρ, env, s, h⟩ => ?_⟩
  exact (show ∀ vs J H2 ρ2, Same I J → Stt X.K X.mg pi B ms env J H2 ρ2 σ → ArgOk X.K X.mg J σ [] [] vs → Q vs H2 from h) [] I H ρ (.refl _) s ⟨rfl, rfl⟩
theorem SAr.cons (h1 : SE X pi W ms e .fz m) (h2 : SAr X pi W ms es am a) (hs : starEach (e :: es) X.env = (false, eval e X.env) :: starEach es X.env := by rfl) : SAr X pi W ms (e :: es) (none :: am) (mCons m a) := by
  refine ⟨PAimp (pa_cons h1.pe h2.pa hs) fun σ H Q ⟨B, I, ρ, env, s, h⟩ => ?_⟩
  refine ⟨B, I, ρ, env, s, R.sat_mono (R.sat_bind h) (fun z hz x J H1 ρ1 τ sj s1 _ en => ?_) fun _ _ z => z⟩
  refine ⟨B, J, ρ1, z.2, s1, R.sat_mono (R.sat_bind hz) (fun z2 hz2 vs L H2 ρ2 sl s2 rl => ?_) fun _ _ z => z.mono sj⟩
  exact (show ∀ vs J H2 ρ2, Same I J → Stt X.K X.mg pi B ms z2.2 J H2 ρ2 σ → ArgOk X.K X.mg J σ (none :: am) (z.1 :: z2.1) vs → Q vs H2 from hz2) (x :: vs) L H2 ρ2 (sj.trans sl) s2 ⟨_, _, _, _, rfl, rfl, (ent_fz.mp en).mono sl, rl⟩
/-- an own list is handed over -/
def mOwnA (a : MA) : MA := fun env => (a env).bind fun r => .ok (.non :: r.1, r.2)
theorem SAr.own (i : Nat) {x : Str} (h2 : SAr X pi W ms es am a) (hm : ms[i]? = some md := by rfl) (ho : isOw md = true := by rfl) (hN : X.N[i]? = some x := by rfl) (hv : Vis X.env.scope x := by first | exact Or.inl rfl | exact Or.inr (Or.inl rfl) | exact Or.inr (Or.inr rfl))
    (hd : (x == ("__debug__" : Str)) = false := by decide) (hcd : (x == ("__classdict__" : Str)) = false := by decide) (hs : starEach (.Name x p :: es) X.env = (false, eval (.Name x p) X.env) :: starEach es X.env := by rfl) :
    SAr X pi W ms (.Name x p :: es) (some i :: am) (mOwnA a) := by
  refine ⟨PAimp (pa_cons (pe_var hN hv hd hcd) h2.pa hs) fun σ H Q ⟨B, I, ρ, env, s, h⟩ => ?_⟩
  obtain ⟨pp, v, e1, e2, e3⟩ := s.slot hm
  obtain ⟨y, rfl⟩ : ∃ y, v = some y := by
    cases md with
    | un => cases ho
    | fz => cases ho
    | ow => unfold Ent at e3; obtain ⟨a, _, _, rfl, _⟩ := e3; exact ⟨_, rfl⟩
    | ow2 => unfold Ent at e3; obtain ⟨a, _, _, rfl, _⟩ := e3; exact ⟨_, rfl⟩
  refine ⟨y, e2, B, I, ρ, env, s, R.sat_mono (R.sat_bind h) (fun z2 hz2 vs L H2 ρ2 sl s2 rl => ?_) fun _ _ z => z⟩
  exact (show ∀ vs J H2 ρ2, Same I J → Stt X.K X.mg pi B ms z2.2 J H2 ρ2 σ → ArgOk X.K X.mg J σ (some i :: am) (.non :: z2.1) vs → Q vs H2 from hz2) (y :: vs) L H2 ρ2 sl s2 ⟨_, _, _, _, rfl, rfl, e2, rl⟩
def mCall (am : List (Option Nat)) (F : MF) (a : MA) : MV := fun env => (a env).bind fun r => (F (fillA am r.1 r.2)).bind fun z => .ok (z.1, backA am z.2 r.2)
/-- a def with its promise, ready to be called from X -/
structure DefOk (X : Cx) (x : Str) (pms : List Md) (rm : Md) (F : MF) : Prop where
  ex : ∃ k f fd ps, FnOk X.prog X.w X.K X.mg X.base (L2.CX X.prog X.w) k f fd ps (SpF X.K X.mg pms rm F) ∧ Room k X.A ∧ X.mg x = some (.ref f) ∧ PySem.W.keepIn X.K (.ref f) = true ∧ Binds X.K fd ps []
theorem call_core {am : List (Option Nat)} {pms : List Md} {rm : Md} {F : MF} {B : Bs} {I H : Hp} {ρ : Own} {σ : L2.St} {env : List PV} {Q : VK} (ok : okA ms pms am = true) (hL : ms.length = X.N.length) (s : Stt X.K X.mg pi B ms env I H ρ σ)
    (h : (mCall am F a env).sat (fun z => ∀ v J H2 ρ2 τ, Same I J → Stt X.K X.mg pi B ms z.2 J H2 ρ2 σ → Tau B J H2 ρ2 τ → Ent X.K X.mg J H2 τ 0 rm z.1 (some v) → Q v H2) (Fly X pi W B I σ)) :
    tAr X pi W ms am a σ H fun vs H1 => SpF X.K X.mg pms rm F vs H1 Q (WE W σ) := by
  refine ⟨B, I, ρ, env, s, R.sat_mono (R.sat_bind h) (fun z hz vs J H1 ρ1 sj s1 ha => ?_) fun _ _ z => z⟩
  have c := call_start s1 ha ok
  refine ⟨ha.len.2.trans (okA_spec ok).1, J, _, _, c, R.sat_mono (R.sat_bind hz) (fun r hr v L H2 ρ2 τ sl e t en => ?_) fun C fs fl c d L H2 ρ2 h1 sl e h2 => ?_⟩
  · obtain ⟨q1, q2⟩ := call_end (rm := rm) (q := .non) (v := .non) s1 ha ok sl e t
    exact (show ∀ v J H2 ρ2 τ, Same I J → Stt X.K X.mg pi B ms (backA am r.2 z.2) J H2 ρ2 σ → Tau B J H2 ρ2 τ → Ent X.K X.mg J H2 τ 0 rm r.1 (some v) → Q v H2 from hr) v L H2 _ τ (sj.trans sl) q1 q2 en
  · have c2 := call_fly (n := X.N.length) s1.sb (by rw [← hL]; exact s1.heldOk) (by omega) ok sl e
    exact fl c d L H2 _ h1 (sj.trans sl) c2.1 (h2.back fun a h => s1.sb.al a h) c2.2
theorem SE.call {x : Str} {pms : List Md} {rm : Md} {F : MF} (D : DefOk X x pms rm F) (tk : Takes X W) (ha : SAr X pi W ms (e :: es) am a) (ok : okA ms pms am = true := by rfl) (hL : ms.length = X.N.length := by rfl) (hg : Gl X x := by rfl) (hdb : (x == ("__debug__" : Str)) = false := by decide)
    (he : starEach (e :: es) X.env = (false, eval e X.env) :: starEach es X.env := by rfl) (hpl : (backTo pos (starEach es X.env)).any (·.1) = false := by rfl) :
    SE X pi W ms (.Call (.Name x p) (e :: es) [] pos) rm (mCall am F a) := by
  obtain ⟨k, f, fd, ps, Fk, hr, hm, hk, hb⟩ := D.ex
  refine ⟨PEimp (pe_callS (E := WE W) Fk hr hg hm hk hb (passAt tk) ha.pa hdb he hpl) fun σ H Q ⟨B, I, ρ, env, s, h⟩ => ?_⟩
  exact call_core ok hL s h
end
end Cq

/-! text Cq13 -/
set_option Elab.async false
set_option linter.all false
set_option maxRecDepth 100000
/-! Cq, part 13: try with several except clauses, each with or without a name. -/
namespace Cq
open PySem PySem.Spec L2 PyProof.Rows

def endsOf (o : Option Nat) (D : Ends) : Ends := match o with
  | none => D
  | some i => { nx := fun z H' => D.nx (z.set i none) H', rt := D.rt, bk := fun z H' => D.bk (z.set i none) H', ct := fun z H' => D.ct (z.set i none) H' }
def slotOf (o : Option Nat) (a : Addr) (σ : L2.St) : L2.St := match o with
  | none => σ
  | some i => σ.set i (some (.ref a))
abbrev HdT := Value × Option Nat × (Addr → Value → Option Addr → TS)
def wHds (K : PySem.W.Frag) (n : Nat) (Wout : WX) (D : Ends) : List HdT → WX
  | [] => Wout
  | (c, o, ts) :: r => fun cls d σ H => ∃ b, PySem.W.exmOne K cls c = some b ∧ (b = true → ∀ a, H a = none → σ.length = n → ts a cls d (endsOf o D) (slotOf o a σ) H) ∧ (b = false → wHds K n Wout D r cls d σ H)
inductive HdsN (X : Cx) : List ExceptHandler → List HdT → Prop
  | nil : HdsN X [] []
  | bare {x : Str} {c : Value} {ts : Addr → Value → Option Addr → TS} {b₀ : Stmt} {suite : List Stmt} {np pos' : Pos} {hds : List ExceptHandler} {l : List HdT} (hc : Names X x c)
      (hsu : ∀ (a : Addr) (oe : Obj) (cls : Value) (d : Option Addr) (pn : List (Addr × Obj)), Zc cls d oe → (∃ vs, oe.data = .fields vs) → PSs (X.suite a ((a, oe) :: pn)) (b₀ :: suite) (ts a cls d)) (r : HdsN X hds l) :
      HdsN X (.ExceptHandler (some (.Name x np)) none (b₀ :: suite) pos' :: hds) ((c, none, ts) :: l)
  | named {x n : Str} {i : Nat} {c : Value} {ts : Addr → Value → Option Addr → TS} {b₀ : Stmt} {suite : List Stmt} {np pos' : Pos} {hds : List ExceptHandler} {l : List HdT} (hc : Names X x c) (hi : X.N[i]? = some n) (hln : X.env.kindOf n = some .local)
      (hsu : ∀ (a : Addr) (oe : Obj) (cls : Value) (d : Option Addr) (pn : List (Addr × Obj)), Zc cls d oe → (∃ vs, oe.data = .fields vs) → PSs (X.suite a ((a, oe) :: pn)) (b₀ :: suite) (ts a cls d)) (r : HdsN X hds l) :
      HdsN X (.ExceptHandler (some (.Name x np)) (some n) (b₀ :: suite) pos' :: hds) ((c, some i, ts) :: l)
section
variable {X : Cx} {body : List Stmt} {h₀ : ExceptHandler} {hds : List ExceptHandler} {l : List HdT} {pos : Pos} {tb : WX → TS} {Wout : WX}
theorem ps_try_named (hs : X.stack = X.env :: X.outer) (hf : X.env.frame = some X.env.locals) (hN : X.N.Nodup) (tk : Takes X Wout)
    (hb : ∀ (W : WX) (pn : List (Addr × Obj)) (xe : Value → Shared → Prop), Takes (X.tr pn xe) W → PassesOwn (model X.prog X.w) X.A X.env xe → PSs (X.tr pn xe) body (tb W))
    (hh : HdsN X (h₀ :: hds) l) : PS X (.Try body (h₀ :: hds) [] [] pos) (fun D σ H => tb (wHds X.K X.N.length Wout D l) D σ H) := by
  refine ⟨fun pins s σ H D I h => ?_⟩
  have ok := I.ok
  have hfr : X.A.frames = some (X.env :: X.outer) := by rw [ok.frames, hs]
  refine wpAny_Try_except ?_
  refine wpAny_mono ((hb (wHds X.K X.N.length Wout D l) (X.pn ++ pins) (fun e s₁ => wpAny (model X.prog X.w) X.A (noteFrame e X.env) (fun _ s₂ => wpAny (model X.prog X.w) X.A (setFlight e none) (fun _ s₃ =>
    wpAny (model X.prog X.w) X.A (handleBy e X.env (h₀ :: hds)) (L2.SP X pins D) X.xe s₃) X.xe s₂) X.xe s₁) (fun u s' xx => ?_) PassesOwn.looking).run [] s σ H D (I.toTry _) h) (fun f s1 hsp => ?_) (fun e s1 he => he)
  · obtain ⟨a, Bg, sI, pins', z, H', cls, d, rfl, J', nb, up, sky, na, os, ag, wish⟩ := xx
    have J : Inv X pins z H' sI := J'.ofTry ok
    have sky' : Sky Bg (X.env :: X.outer) a (Zc cls d) X.env.locals s'.heap := by rw [← hs]; exact sky
    show wpAny (model X.prog X.w) X.A (noteFrame (.ref a) X.env) _ _ _
    refine Sky.land Zc.steady hfr hf sky' fun hp3 fl3 up3 => ?_
    have J3 : Inv X pins z H' { s' with heap := hp3 } := J.landed nb fl3.1 (up.trans up3) os ag
    obtain ⟨oe3, vs3, he3, hz3, hd3⟩ := fl3.there
    have apart : ∀ {g : Heap} {o : Obj} {vs : Array Value}, g.FunFrames Bg (X.env :: X.outer) → g.get? a = some o → o.data = .fields vs → a ∉ frs (X.env :: X.outer) := fun {g o vs} ff e dd hm => by
      obtain ⟨_, o', e', hnf⟩ := ff.mem hm
      rw [e] at e'; cases e'
      exact hnf _ dd
    have nfr := apart fl3.2.2.1 he3 hd3
    have nL : a ≠ X.env.locals := fun q => nfr (List.mem_filterMap.mpr ⟨X.env, List.mem_cons_self, by rw [hf, q]⟩)
    have nF : a ∉ X.fs := fun hm => by
      obtain ⟨e, he, q⟩ := List.mem_filterMap.mp hm
      exact nfr (List.mem_filterMap.mpr ⟨e, List.mem_cons_of_mem _ he, q⟩)
    have S3 := J3.suite he3 hd3 na nL nF
    have LT : PySem.W.Looks (model X.prog X.w) hp3 (typeOf (.ref a)) cls := fun A Q E s k q => wpAny_typeOf_ref (k _ _ he3) (by rw [hz3.1]; exact q)
    have test : ∀ {x : Str} {c : Value} {np : Pos} {Q : Value → Shared → Prop} {E : Value → Shared → Prop}, Names X x c → Q c { s' with heap := hp3 } → wpAny (model X.prog X.w) (X.A.mark (some (.ref a))) (eval (.Name x np) X.env) Q E { s' with heap := hp3 } := fun {x c np Q E} hc q => by
      obtain ⟨hg, hdbg, hm | ⟨hm, hv, hnn⟩⟩ := hc
      · exact ld_glob (X := X.suite a ((a, oe3) :: (X.pn ++ pins))) S3 hg hm q hdbg
      · exact ld_blt (X := X.suite a ((a, oe3) :: (X.pn ++ pins))) S3 hg hm hv q hnn hdbg
    have walk : ∀ {hs2 : List ExceptHandler} {l2 : List HdT}, HdsN X hs2 l2 → wHds X.K X.N.length Wout D l2 cls d z H' →
        wpAny (model X.prog X.w) X.A (handleBy (.ref a) X.env hs2) (L2.SP X pins D) X.xe { s' with heap := hp3 } := by
      intro hs2 l2 hk
      induction hk with
      | nil =>
        intro wish
        refine wpAny_handleBy_nil ?_
        obtain ⟨k1, k2, k3, oe, vs, T, oT, ts', he, hz, hd, h1, hr⟩ := id fl3
        unfold PySem.passOn
        refine wpAny_bind (wpAny_field he hd h1 ?_)
        rw [if_neg (show ¬ ((Value.ref T == Value.none) = true) from by simp)]
        have out : wpAny (model X.prog X.w) X.A (setFlight (.ref a) X.env.frame) (fun _ s4 => wpAny (model X.prog X.w) X.A (throw (.ref a) : Sem Flow) (L2.SP X pins D) X.xe s4) X.xe { s' with heap := hp3 } := by
          rw [hf]
          refine HandSPX.setFlight_upZ fl3 fun hp4 hh4 up4 => wpAny_throw (tk _ _ ?_)
          exact ⟨a, Bg, sI, pins, z, H', cls, d, rfl, J, nb, (up.trans up3).trans up4, .inr (.inr (by rw [hs]; exact hh4)), na, os, ag, wish⟩
        first
          | exact wpAny_bind (wpAny_pure (wpAny_bind out))
          | exact wpAny_bind out
      | @bare x c ts b₀ suite np pos' hds2 l3 hc hsu r ih =>
        intro wish
        obtain ⟨b, hb1, hyes, hno⟩ := wish
        refine wpAny_handleBy_cons (codeAny_handlers_test ?_) (by intro q; cases q)
        have LM := PySem.W.exm_one (M := model X.prog X.w) (J3.kIn) LT hb1
        refine test hc (LM.here ?_)
        cases b with
        | true =>
          refine codeAny_handlers_suite ?_
          refine HandSPX.lands_againZ fl3 fun hp4 fl4 up4 => ?_
          have J4 : Inv X pins z H' { s' with heap := hp4 } := J.landed nb fl4.1 ((up.trans up3).trans up4) os ag
          obtain ⟨oe4, vs4, he4, hz4, hd4⟩ := fl4.there
          have S4 := J4.suite he4 hd4 na nL nF
          refine wpAny_mono ((hsu a oe4 cls d (X.pn ++ pins) hz4 ⟨_, hd4⟩).run [] _ _ H' _ S4 (hyes rfl a na J.len)) (fun f s6 hsp => ?_) (fun _ _ q => False.elim q)
          cases f with
          | next => obtain ⟨z6, H6, S6, q6⟩ := hsp; exact ⟨_, _, S6.unsuite ok, q6⟩
          | brk => obtain ⟨z6, H6, S6, q6⟩ := hsp; exact ⟨_, _, S6.unsuite ok, q6⟩
          | cont => obtain ⟨z6, H6, S6, q6⟩ := hsp; exact ⟨_, _, S6.unsuite ok, q6⟩
          | ret u => obtain ⟨v6, z6, H6, S6, r6, q6⟩ := hsp; exact ⟨_, _, _, S6.unsuite ok, r6, q6⟩
        | false => exact ih (hno rfl)
      | @named x n i c ts b₀ suite np pos' hds2 l3 hc hi hln hsu r ih =>
        intro wish
        obtain ⟨b, hb1, hyes, hno⟩ := wish
        have hloc : Loc X.env.scope n := .inl hln
        refine wpAny_handleBy_cons (codeAny_handlers_test ?_) (by intro q; cases q)
        have LM := PySem.W.exm_one (M := model X.prog X.w) (J3.kIn) LT hb1
        refine test hc (LM.here ?_)
        cases b with
        | true =>
          refine codeAny_handlers_suite_as ?_
          refine HandSPX.lands_againZ fl3 fun hp4 fl4 up4 => ?_
          have J4 : Inv X pins z H' { s' with heap := hp4 } := J.landed nb fl4.1 ((up.trans up3).trans up4) os ag
          obtain ⟨oe4, vs4, he4, hz4, hd4⟩ := fl4.there
          have S4 := J4.suite he4 hd4 na nL nF
          refine store_ok (X := X.suite a ((a, oe4) :: (X.pn ++ pins))) (v := .ref a) S4 hN hi hloc rfl (fun s5 S5 => ?_) (.inr hln)
          refine wpAny_mono ((hsu a oe4 cls d (X.pn ++ pins) hz4 ⟨_, hd4⟩).run [] s5 _ H' _ S5 (hyes rfl a na J.len)) (fun f s6 hsp => ?_) (fun _ _ q => False.elim q)
          have close : ∀ {z6 : L2.St} {H6 : Hp} {Q : Shared → Prop}, Inv (X.suite a ((a, oe4) :: (X.pn ++ pins))) [] z6 H6 s6 → (∀ s7, Inv X pins (z6.set i none) H6 s7 → Q s7) →
              wpAny (model X.prog X.w) X.A (do bindName X.env n .none; unbindBehindTheSuite X.env n pos') (fun _ s7 => Q s7) X.xe s6 := fun {z6 H6 Q} S6 hq => gone_ok (S6.unsuite ok) hN hi hln hq
          cases f with
          | next => obtain ⟨z6, H6, S6, q6⟩ := hsp; exact close S6 fun s7 J7 => ⟨_, _, J7, q6⟩
          | brk => obtain ⟨z6, H6, S6, q6⟩ := hsp; exact close S6 fun s7 J7 => ⟨_, _, J7, q6⟩
          | cont => obtain ⟨z6, H6, S6, q6⟩ := hsp; exact close S6 fun s7 J7 => ⟨_, _, J7, q6⟩
          | ret u => obtain ⟨v6, z6, H6, S6, r6, q6⟩ := hsp; exact close S6 fun s7 J7 => ⟨_, _, _, J7, r6, q6⟩
        | false => exact ih (hno rfl)
    exact walk hh wish
  · cases f with
    | next => obtain ⟨z, H', J', q⟩ := hsp; exact wpAny_execs_nil ⟨z, H', J'.ofTry ok, q⟩
    | brk => obtain ⟨z, H', J', q⟩ := hsp; exact ⟨z, H', J'.ofTry ok, q⟩
    | cont => obtain ⟨z, H', J', q⟩ := hsp; exact ⟨z, H', J'.ofTry ok, q⟩
    | ret u => obtain ⟨v, z, H', J', r, q⟩ := hsp; exact ⟨v, z, H', J'.ofTry ok, r, q⟩
end
end Cq

/-! text Cq14 -/
set_option Elab.async false
set_option linter.all false
set_option maxRecDepth 100000
/-! Cq, part 14: try over plain values; a caught exception's fields. -/
namespace Cq
open PySem PySem.Spec L2

def ExAt (K : PySem.W.Frag) (mg : Str → Option Value) (I : Hp) (d : Option Addr) (fs : List (Str × PV)) : Prop := (d = none ∧ fs = []) ∨ ∃ dd ws, d = some dd ∧ I dd = some (.xd ws) ∧ RepX K mg I fs ws
def pinX (o : Option Nat) (a : Addr) (J : Hp) (pi : Pin) : Pin := match o with
  | none => pi
  | some i => ⟨i :: pi.ls, some (i, a, J)⟩
def padB (o : Option Nat) (a : Addr) (B : Bs) : Bs := match o with
  | none => B
  | some i => { B with vs := (B.vs ++ List.replicate (i + 1 - B.vs.length) V.non).set i (.ref a) }
theorem pad_at {B : Bs} {i : Nat} {a : Addr} : (padB (some i) a B).vs[i]? = some (.ref a) := by
  unfold padB
  dsimp only
  rw [List.getElem?_set_self (by simp; omega)]
theorem pad_else {B : Bs} {i j : Nat} {a : Addr} {v : V} (hj : j ≠ i) (h : B.vs[j]? = some v) : (padB (some i) a B).vs[j]? = some v := by
  unfold padB
  dsimp only
  rw [List.getElem?_set_ne (Ne.symm hj), List.getElem?_append_left (List.getElem?_eq_some_iff.mp h).1]
  exact h
section
variable {K : PySem.W.Frag} {mg : Str → Option Value} {pi : Pin} {B : Bs} {ms : List Md} {env : List PV} {I J H H2 : Hp} {ρ ρ2 : Own} {σ : L2.St} {o : Option Nat} {a : Addr} {d : Option Addr} {fs : List (Str × PV)}
/-- the exception's fields are frozen -/
theorem ex_freeze (s : Sb pi B I H ρ σ) (e : ExD K mg I H B.H d fs) : ∃ J, Same I J ∧ Sb pi B J H ρ σ ∧ ExAt K mg J d fs := by
  rcases e with ⟨rfl, rfl⟩ | ⟨dd, ws, rfl, h1, h2, h3⟩
  · exact ⟨I, .refl _, s, .inl ⟨rfl, rfl⟩⟩
  · have k1 := frz_same s.sub fun b => decide (b = dd)
    have k2 := frz_sub s.sub fun b => decide (b = dd)
    have nd : ∀ b t, ρ b = some t → b ≠ dd := fun b t q z => by
      subst z
      obtain ⟨_, _, us, w⟩ := s.ro b t q
      rw [h1] at w; cases w
    refine ⟨_, k1, ⟨k2, s.bi.trans k1, s.fr, fun b o q => ?_, fun b t q => ⟨(s.ro b t q).1, ?_, (s.ro b t q).2.2⟩, s.al, s.pr, s.bo, s.pxm k1⟩, .inr ⟨dd, ws, rfl, ?_, fun f p q => ?_⟩⟩
    · by_cases z : b = dd
      · subst z; exact .inr h3
      · rw [frz_f (decide_eq_false z)] at q
        exact s.ft b o q
    · rw [frz_f (decide_eq_false (nd b t q))]
      exact (s.ro b t q).2.1
    · rw [frz_t (decide_eq_true rfl)]; exact h1
    · obtain ⟨v, q1, q2⟩ := h2 f p q
      exact ⟨v, q1, q2.mono k1⟩
theorem uns_get {n i : Nat} {m : Md} (h : (uns n)[i]? = some m) : m = .un := by
  unfold uns at h
  rw [List.getElem?_replicate] at h
  split at h
  · cases h; rfl
  · cases h
/-- a suite's start -/
theorem hd_start {n : Nat} (s : Sb pi B J H ρ σ) (hk : HeldOk K mg n B J H ρ) (hn : σ.length = n) (l1 : B.hp.length = B.hm.length) (l2 : B.hv.length = B.hm.length) (hx : pi.ex = none) (hi : ∀ i, o = some i → i ∉ pi ∧ i < n) :
    Stt K mg (pinX o a J pi) (padB o a B) (uns n) (List.replicate n .non) J H ρ (slotOf o a σ) := by
  have held : ∀ {σ2 : L2.St}, σ2.length = n → EnOk K mg (uns n ++ B.hm) (List.replicate n .non ++ B.hp) J H ρ (σ2 ++ B.hv) := fun {σ2} h2 i m p v q1 q2 q3 => by
    by_cases z : i < n
    · rw [List.getElem?_append_left (by simpa [uns] using z)] at q1
      rw [uns_get q1]
      unfold Ent; trivial
    · rw [List.getElem?_append_right (by simp [uns]; omega)] at q1
      rw [List.getElem?_append_right (by simp; omega)] at q2
      rw [List.getElem?_append_right (by omega)] at q3
      simp only [uns, List.length_replicate] at q1
      simp only [List.length_replicate] at q2
      rw [h2] at q3
      have := hk (i - n) m p v q1 q2 q3
      rwa [show n + (i - n) = i from by omega] at this
  cases o with
  | none => exact ⟨s, by simp [uns, slotOf, hn], by simp [uns], l1, l2, held hn⟩
  | some i =>
    obtain ⟨h1, h2⟩ := hi i rfl
    refine ⟨⟨s.sub, s.bi, s.fr, s.ft, s.ro, s.al, fun j hj => ?_, fun b t q => ?_, fun q e => ?_⟩, by simp [uns, slotOf, hn], by simp [uns], l1, l2, held (by simp [slotOf, hn])⟩
    · rcases List.mem_cons.mp (show j ∈ i :: pi.ls from hj) with z | z
      · subst z
        exact ⟨_, pad_at, by show (σ.set j _)[j]? = _; rw [List.getElem?_set_self (by omega)]⟩
      · have hne : j ≠ i := fun q => h1 (by rw [← q]; exact z)
        obtain ⟨v, q1, q2⟩ := s.pr j z
        exact ⟨v, pad_else hne q1, by show (σ.set i _)[j]? = _; rw [List.getElem?_set_ne (Ne.symm hne)]; exact q2⟩
    · exact List.mem_cons_of_mem _ (s.bo b t q)
    · cases e
      exact ⟨List.mem_cons_self, by show (σ.set i _)[i]? = _; rw [List.getElem?_set_self (by omega)], .refl _⟩
/-- behind a suite -/
theorem hd_back {J2 H2 : Hp} {ρ2 : Own} {σ2 : L2.St} {e : List PV} {X0 : Hp} (s0 : Sb pi B J H ρ σ) (hx : pi.ex = none) (hi : ∀ i, o = some i → i ∉ pi) (s : Stt K mg (pinX o a X0 pi) (padB o a B) ms e J2 H2 ρ2 σ2) : Stt K mg pi B ms e J2 H2 ρ2 σ2 := by
  cases o with
  | none => exact s
  | some i =>
    refine ⟨⟨s.sb.sub, s.sb.bi, s.sb.fr, s.sb.ft, s.sb.ro, s.sb.al, fun j hj => ?_, s0.bo, fun q w => by rw [hx] at w; cases w⟩, s.ls, s.le, s.l1, s.l2, s.ea⟩
    have hne : j ≠ i := fun q => hi i rfl (by rw [← q]; exact hj)
    obtain ⟨v, q1, _⟩ := s0.pr j hj
    obtain ⟨v', q2, q3⟩ := s.sb.pr j (List.mem_cons_of_mem _ hj)
    rw [pad_else hne q1] at q2
    cases q2
    exact ⟨v, q1, q3⟩
theorem Stt.blank {i : Nat} (s : Stt K mg pi B ms env I H ρ σ) (hm : ms.getD i .un = .un) (hi : i ∉ pi) : Stt K mg pi B ms env I H ρ (σ.set i none) := by
  refine ⟨⟨s.sb.sub, s.sb.bi, s.sb.fr, s.sb.ft, s.sb.ro, s.sb.al, fun j hj => ?_, s.sb.bo, fun q w => ?_⟩, by simpa using s.ls, s.le, s.l1, s.l2, fun j m p v q1 q2 q3 => ?_⟩
  · obtain ⟨v, h1, h2⟩ := s.sb.pr j hj
    exact ⟨v, h1, by rw [List.getElem?_set_ne (fun z => hi (by rw [z]; exact hj))]; exact h2⟩
  · obtain ⟨h1, h2, h3⟩ := s.sb.px q w
    exact ⟨h1, by rw [List.getElem?_set_ne (fun z => hi (by rw [z]; exact h1))]; exact h2, h3⟩
  · by_cases hl : i < σ.length
    · by_cases hj : i = j
      · subst hj
        rw [List.getElem?_append_left (by rw [← s.ls]; exact hl)] at q1
        rw [List.getD_eq_getElem?_getD, q1] at hm
        have hm' : m = .un := hm
        subst hm'
        unfold Ent; trivial
      · refine s.ea j m p v q1 q2 ?_
        rw [← set_app hl, List.getElem?_set_ne hj] at q3
        exact q3
    · rw [List.set_eq_of_length_le (by omega)] at q3
      exact s.ea j m p v q1 q2 q3
end

/-! ### try -/
structure HdM where
  sel : Str → Option Bool
  m : Str → List (Str × PV) → MS
def mHds : List HdM → Str → List (Str × PV) → MS
  | [], C, fs => fun _ => .exc C fs
  | h :: r, C, fs => match h.sel C with
    | some true => fun env => (h.m C fs env).nx
    | some false => mHds r C fs
    | none => fun _ => .bad
def mTry (n : Nat) (mb : MS) (l : List HdM) : MS := fun env => match mb env with
  | .ok o => .ok o
  | .bad => .bad
  | .exc C fs => mHds l C fs (List.replicate n .non)
def WN : WX := fun _ _ _ _ => False
def SelOk (X : Cx) (cv : Value) (sel : Str → Option Bool) : Prop := ∀ C c b, X.mg C = some (.ref c) → sel C = some b → PySem.W.exmOne X.K (.ref c) cv = some b
inductive HdOk (X : Cx) (pi : Pin) (rm : Md) (P Lm ms2 : List Md) : List ExceptHandler → List HdM → Prop
  | nil : HdOk X pi rm P Lm ms2 [] []
  | bare {x : Str} {c : Value} {h : HdM} {b₀ : Stmt} {suite : List Stmt} {np pos' : Pos} {hds : List ExceptHandler} {l : List HdM} (hc : Names X x c) (hs : SelOk X c h.sel)
      (hsu : ∀ (C : Str) (fs : List (Str × PV)) (a : Addr) (oe : Obj) (pn : List (Addr × Obj)), SSs (X.suite a ((a, oe) :: pn)) pi WN rm P Lm (uns X.N.length) ms2 (b₀ :: suite) (h.m C fs)) (r : HdOk X pi rm P Lm ms2 hds l) :
      HdOk X pi rm P Lm ms2 (.ExceptHandler (some (.Name x np)) none (b₀ :: suite) pos' :: hds) (h :: l)
  | named {x n : Str} (i : Nat) {c : Value} {h : HdM} {b₀ : Stmt} {suite : List Stmt} {np pos' : Pos} {hds : List ExceptHandler} {l : List HdM} (hc : Names X x c) (hs : SelOk X c h.sel) (hi : X.N[i]? = some n) (hln : X.env.kindOf n = some .local)
      (hip : i ∉ pi) (hin : i < X.N.length) (h2 : ms2.getD i .un = .un) (hL : Lm.getD i .un = .un)
      (hsu : ∀ (C : Str) (fs : List (Str × PV)) (a : Addr) (oe : Obj) (cls : Value) (d : Option Addr) (pn : List (Addr × Obj)) (J : Hp) (cc : Addr), h.sel C = some true → X.mg C = some (.ref cc) → cls = .ref cc → Zc cls d oe → (∃ vs, oe.data = .fields vs) → ExAt X.K X.mg J d fs →
        SSs (X.suite a ((a, oe) :: pn)) (pinX (some i) a J pi) WN rm P Lm (uns X.N.length) ms2 (b₀ :: suite) (h.m C fs)) (r : HdOk X pi rm P Lm ms2 hds l) :
      HdOk X pi rm P Lm ms2 (.ExceptHandler (some (.Name x np)) (some n) (b₀ :: suite) pos' :: hds) (h :: l)
/-- what a suite wants -/
def tSuite (X : Cx) (pi : Pin) (rm : Md) (P Lm ms2 : List Md) (o : Option Nat) (h : HdM) : Addr → Value → Option Addr → TS := fun a cls d D σ H =>
  ∃ C cc fs J, cls = .ref cc ∧ h.sel C = some true ∧ X.mg C = some (.ref cc) ∧ ExAt X.K X.mg J d fs ∧ tS X (pinX o a J pi) WN rm P Lm (uns X.N.length) ms2 (h.m C fs) D σ H
section
variable {X : Cx} {pi : Pin} {W : WX} {rm : Md} {P Lm ms ms2 : List Md} {hds : List ExceptHandler} {l : List HdM}
theorem nx_sat {r : R Out} {F : Out → Prop} {G G' : Str → List (Str × PV) → Prop} (h : r.nx.sat F G) : r.sat F G' := by
  cases r with
  | ok a => exact h
  | exc C fs => exact h.elim
  | bad => exact h.elim
theorem suite_core {o : Option Nat} {h : HdM} {D : Ends} {B : Bs} {I J H : Hp} {ρ : Own} {σ : L2.St} {C : Str} {fs : List (Str × PV)} {cc a : Addr} {d : Option Addr} {G : Str → List (Str × PV) → Prop}
    (ho : ∀ i, o = some i → i ∉ pi ∧ i < X.N.length ∧ ms2.getD i .un = .un ∧ Lm.getD i .un = .un) (hx : pi.ex = none) (l1 : B.hp.length = B.hm.length) (l2 : B.hv.length = B.hm.length) (hm : X.mg C = some (.ref cc)) (sj : Same I J) (s : Sb pi B J H ρ σ)
    (e : ExD X.K X.mg J H B.H d fs) (hk : HeldOk X.K X.mg X.N.length B J H ρ) (hsel : h.sel C = some true) (hl : σ.length = X.N.length) (w : ((h.m C fs) (List.replicate X.N.length .non)).nx.sat (OutOk X pi rm P Lm ms2 D B I) G) :
    tSuite X pi rm P Lm ms2 o h a (.ref cc) d (endsOf o D) (slotOf o a σ) H := by
  obtain ⟨J1, sj1, s1, ea⟩ := ex_freeze s e
  have hk1 : HeldOk X.K X.mg X.N.length B J1 H ρ := fun i m p v h1 h2 h3 => (hk i m p v h1 h2 h3).mono sj1 fun _ _ _ h4 h5 => ⟨h4, h5⟩
  have sa := sj.trans sj1
  refine ⟨C, cc, fs, J1, rfl, hsel, hm, ea, padB o a B, J1, ρ, _, hd_start s1 hk1 hl l1 l2 hx fun i q => ⟨(ho i q).1, (ho i q).2.1⟩, R.sat_mono (nx_sat (G' := fun C fs => ∀ σ, Fly X (pinX o a J1 pi) WN (padB o a B) J1 σ C fs) w) (fun ou z => ?_) fun _ _ z => z⟩
  cases o with
  | none => exact z.mono sa
  | some i =>
    obtain ⟨q1, q2, q3, q4⟩ := ho i rfl
    have q0 : ∀ j, some i = some j → j ∉ pi := fun j w => by cases w; exact q1
    cases ou with
    | nx e => exact fun σ2 J2 H2 ρ2 sj2 st2 => (show ∀ σ J H ρ, Same I J → Stt X.K X.mg pi B ms2 e J H ρ σ → D.nx σ H from z) _ J2 H2 ρ2 (sa.trans sj2) ((hd_back s1 hx q0 st2).blank q3 q1)
    | bk e => exact fun σ2 J2 H2 ρ2 sj2 st2 => (show ∀ σ J H ρ, Same I J → Stt X.K X.mg pi B Lm e J H ρ σ → D.bk σ H from z) _ J2 H2 ρ2 (sa.trans sj2) ((hd_back s1 hx q0 st2).blank q4 q1)
    | ct e => exact fun σ2 J2 H2 ρ2 sj2 st2 => (show ∀ σ J H ρ, Same I J → Stt X.K X.mg pi B Lm e J H ρ σ → D.ct σ H from z) _ J2 H2 ρ2 (sa.trans sj2) ((hd_back s1 hx q0 st2).blank q4 q1)
    | rt p e => exact fun v σ2 J2 H2 ρ2 τ sj2 st2 t2 en => (show ∀ v σ J H ρ τ, Same I J → Stt X.K X.mg pi B P e J H ρ σ → Tau B J H ρ τ → Ent X.K X.mg J H τ 0 rm p (some v) → D.rt v H from z) v σ2 J2 H2 ρ2 τ (sa.trans sj2) (hd_back s1 hx q0 st2) (fun b t q => by
        obtain ⟨w1, w2, w3, w4, w5⟩ := t2 b t q
        exact ⟨w1, w2, w3, w4, w5⟩) en
theorem HdOk.read (k : HdOk X pi rm P Lm ms2 hds l) : ∃ q : List HdT, HdsN X hds q ∧
    ∀ {D : Ends} {B : Bs} {I J H : Hp} {ρ : Own} {σ : L2.St} {C : Str} {fs : List (Str × PV)} {cc : Addr} {d : Option Addr}, pi.ex = none → B.hp.length = B.hm.length → B.hv.length = B.hm.length → X.mg C = some (.ref cc) → Same I J → Sb pi B J H ρ σ → ExD X.K X.mg J H B.H d fs → HeldOk X.K X.mg X.N.length B J H ρ →
      (mHds l C fs (List.replicate X.N.length .non)).sat (OutOk X pi rm P Lm ms2 D B I) (fun C fs => ∀ σ, Fly X pi W B I σ C fs) → wHds X.K X.N.length W D q (.ref cc) d σ H := by
  induction k with
  | nil => exact ⟨[], .nil, fun {D B I J H ρ σ C fs cc d} _ _ _ hm sj s e hk w => (show ∀ σ, Fly X pi W B I σ C fs from w) σ cc d J H ρ hm sj s e hk⟩
  | @bare x c h b₀ suite np pos' hds l hc hs hsu r ih =>
    obtain ⟨q, k1, k2⟩ := ih
    refine ⟨(c, none, tSuite X pi rm P Lm ms2 none h) :: q, .bare hc (fun a oe cls d pn hz hf => ⟨fun pn2 sh st hp D iv w => ?_⟩) k1, fun {D B I J H ρ σ C fs cc d} hx l1 l2 hm sj s e hk w => ?_⟩
    · obtain ⟨C, cc, fs, J, _, _, _, _, w⟩ := w
      exact (hsu C fs a oe pn).ps.run pn2 sh st hp D iv w
    · unfold mHds at w
      cases hsel : h.sel C with
      | none => rw [hsel] at w; exact w.elim
      | some b =>
        rw [hsel] at w
        refine ⟨b, hs C cc b hm hsel, fun hb a na hl => ?_, fun hb => ?_⟩
        · subst hb
          exact suite_core (o := none) (fun i q => by cases q) hx l1 l2 hm sj s e hk hsel hl w
        · subst hb
          exact k2 hx l1 l2 hm sj s e hk w
  | @named x n i c h b₀ suite np pos' hds l hc hs hi hln hip hin h2 hL hsu r ih =>
    obtain ⟨q, k1, k2⟩ := ih
    refine ⟨(c, some i, tSuite X pi rm P Lm ms2 (some i) h) :: q, .named hc hi hln (fun a oe cls d pn hz hf => ⟨fun pn2 sh st hp D iv w => ?_⟩) k1, fun {D B I J H ρ σ C fs cc d} hx l1 l2 hm sj s e hk w => ?_⟩
    · obtain ⟨C, cc, fs, J, w1, w2, w3, w4, w⟩ := w
      exact (hsu C fs a oe cls d pn J cc w2 w3 w1 hz hf w4).ps.run pn2 sh st hp D iv w
    · unfold mHds at w
      cases hsel : h.sel C with
      | none => rw [hsel] at w; exact w.elim
      | some b =>
        rw [hsel] at w
        refine ⟨b, hs C cc b hm hsel, fun hb a na hl => ?_, fun hb => ?_⟩
        · subst hb
          exact suite_core (o := some i) (fun j q => by cases q; exact ⟨hip, hin, h2, hL⟩) hx l1 l2 hm sj s e hk hsel hl w
        · subst hb
          exact k2 hx l1 l2 hm sj s e hk w
theorem SS.try_ {body : List Stmt} {h₀ : ExceptHandler} {mb : MS} {pos : Pos} (hst : X.stack = X.env :: X.outer) (hf : X.env.frame = some X.env.locals) (hN : X.N.Nodup) (tk : Takes X W) (hx : pi.ex = none)
    (hb : ∀ (W' : WX) (pn : List (Addr × Obj)) (xe : Value → Shared → Prop), Takes (X.tr pn xe) W' → PassesOwn (model X.prog X.w) X.A X.env xe → SSs (X.tr pn xe) pi W' rm P Lm ms ms2 body mb)
    (k : HdOk X pi rm P Lm ms2 (h₀ :: hds) l) : SS X pi W rm P Lm ms ms2 (.Try body (h₀ :: hds) [] [] pos) (mTry X.N.length mb l) := by
  obtain ⟨q, k1, k2⟩ := k.read (W := W)
  refine ⟨PSimp (ps_try_named (tb := fun W' => tS X pi W' rm P Lm ms ms2 mb) hst hf hN tk (fun W' pn xe t p => (hb W' pn xe t p).ps) k1) fun D σ H ⟨B, I, ρ, env, st, h⟩ => ?_⟩
  refine ⟨B, I, ρ, env, st, ?_⟩
  unfold mTry at h
  cases w : mb env with
  | ok o => rw [w] at h; exact h
  | bad => rw [w] at h; exact h.elim
  | exc C fs =>
    rw [w] at h
    exact fun σ2 cc d J H2 ρ2 hm sj s e hk => k2 hx st.l1 st.l2 hm sj s e hk h
/-! ### e.f in a suite -/
def mFld (fs : List (Str × PV)) (f : Str) : MV := fun env => ofO (fs.lookup f) env
theorem SE.xf {md : List Md} {a cc : Addr} {oe : Obj} {cls : Value} {d : Option Addr} {pn : List (Addr × Obj)} {J0 : Hp} {fs : List (Str × PV)} {x f : Str} {i : Nat} {p1 pos : Pos} (T : XfC X.K cc) (hno : PySem.W.findIn X.K (.ref cc) f = some none) (hc : cls = .ref cc)
    (hz : Zc cls d oe) (hf : ∃ vs, oe.data = .fields vs) (e : ExAt X.K X.mg J0 d fs) (hN : X.N[i]? = some x := by rfl) (hv : Vis X.env.scope x := by first | exact Or.inl rfl | exact Or.inr (Or.inl rfl) | exact Or.inr (Or.inr rfl))
    (hd : (x == ("__debug__" : Str)) = false := by decide) (hcd : (x == ("__classdict__" : Str)) = false := by decide) (hb : attributeBase (.Name x p1) f X.env (eval (.Name x p1) X.env) = eval (.Name x p1) X.env := by rfl) :
    SE (X.suite a ((a, oe) :: pn)) (pinX (some i) a J0 pi) WN md (.Attribute (.Name x p1) f pos) .fz (mFld fs f) := by
  refine ⟨PEimp (pe_xf T hno hz hf (pe_var (X := X.suite a ((a, oe) :: pn)) hN hv hd hcd) hb) fun σ H Q ⟨B, I, ρ, env, s, h⟩ => ?_⟩
  obtain ⟨q1, q2, q3⟩ := s.sb.px _ rfl
  unfold mFld at h
  cases w : fs.lookup f with
  | none => rw [w] at h; exact h.elim
  | some p =>
    rw [w] at h
    rcases e with ⟨_, rfl⟩ | ⟨dd, ws, hdd, h1, h2⟩
    · cases w
    · obtain ⟨v, g1, g2⟩ := h2 f p w
      exact ⟨.ref a, q2, rfl, hc, dd, ws, v, hdd, s.sub _ _ (q3 _ _ h1), g1, (show ∀ v J H2 ρ2 τ, Same I J → Stt X.K X.mg (pinX (some i) a J0 pi) B md env J H2 ρ2 σ → Tau B J H2 ρ2 τ → Ent X.K X.mg J H2 τ 0 .fz p (some v) → Q v H2 from h) v I H ρ (fun _ => none) (.refl _) s .none (ent_fz.mpr (g2.mono q3))⟩
end
end Cq

/-! text Cq15 -/
set_option Elab.async false
set_option linter.all false
set_option maxRecDepth 100000
/-! Cq, part 15: own exceptions: their __init__, raise. -/
namespace Cq
open PySem PySem.Spec L2

/-- an exception that is being made: H0 as it began -/
def Xst (C a : Addr) (H0 H : Hp) (fs : List (Str × V)) : Prop := (fs = [] ∧ H = H0) ∨ ∃ dx, H0 dx = none ∧ dx ≠ a ∧ H = upd (upd H0 dx (exd dx fs)) a (exo a C (some dx))
def slotV (σ : L2.St) (i : Nat) : V := match σ[i]? with
  | some (some v) => v
  | _ => .non
def addF (σ : L2.St) : List (Str × Nat) → List (Str × V) → List (Str × V)
  | [], fs => fs
  | k :: ks, fs => addF σ ks ((k.1, slotV σ k.2) :: fs)
def addP (ps : List PV) : List (Str × Nat) → List (Str × PV) → List (Str × PV)
  | [], fs => fs
  | k :: ks, fs => addP ps ks ((k.1, ps.getD k.2 .non) :: fs)
def tXi (K : PySem.W.Frag) (C : Addr) (ks : List (Str × Nat)) : TS := fun D σ H => ∃ a H0 fs, σ[0]? = some (some (.ref a)) ∧ OexC K C ∧ H0 a = some (exo a C none) ∧ Xst C a H0 H fs ∧ fs.length + ks.length ≤ 900 ∧
  (∀ k ∈ ks, (∃ v, σ[k.2]? = some (some v)) ∧ PySem.W.findIn K (.ref C) k.1 = some none) ∧ ∀ H', Xst C a H0 H' (addF σ ks fs) → D.nx σ H'
structure XI (X : Cx) (C : Addr) (body : List Stmt) (ks : List (Str × Nat)) : Prop where
  ps : PSs X body (tXi X.K C ks)
section
variable {X : Cx} {C : Addr} {body : List Stmt} {ks : List (Str × Nat)} {x y f : Str} {i : Nat} {p1 p2 p3 pos : Pos}
theorem XI.nil : XI X C [] [] := ⟨PSsimp pss_nil fun D σ H ⟨a, H0, fs, h1, h2, h3, h4, h5, h6, h7⟩ => h7 H h4⟩
theorem XI.cons (i : Nat) (r : XI X C body ks) (hx : X.N[0]? = some x := by rfl) (hy : X.N[i]? = some y := by rfl) (hv : Vis X.env.scope x := by first | exact Or.inl rfl | exact Or.inr (Or.inl rfl) | exact Or.inr (Or.inr rfl)) (hv2 : Vis X.env.scope y := by first | exact Or.inl rfl | exact Or.inr (Or.inl rfl) | exact Or.inr (Or.inr rfl))
    (hd : (x == ("__debug__" : Str)) = false := by decide) (hcd : (x == ("__classdict__" : Str)) = false := by decide) (hd2 : (y == ("__debug__" : Str)) = false := by decide) (hcd2 : (y == ("__classdict__" : Str)) = false := by decide)
    (hs : swapsWith (.Name y p3) (some (.Attribute (.Name x p1) f p2)) pos.line X.env = pure false := by rfl) : XI X C (.Assign [.Attribute (.Name x p1) f p2] (.Name y p3) pos :: body) ((f, i) :: ks) := by
  refine ⟨PSsimp (pss_cons (ps_ost (pe_var hx hv hd hcd) (pe_var hy hv2 hd2 hcd2) hs) r.ps) fun D σ H ⟨a, H0, fs, h1, h2, h3, h4, h5, h6, h7⟩ => ?_⟩
  obtain ⟨⟨v, q1⟩, q2⟩ := h6 (f, i) List.mem_cons_self
  have ev : slotV σ i = v := by unfold slotV; rw [show σ[i]? = some (some v) from q1]
  refine ⟨v, q1, .ref a, h1, a, C, rfl, h2, q2, ?_⟩
  have nxt : ∀ H', Xst C a H0 H' ((f, v) :: fs) → tXi X.K C ks D σ H' := fun H' w => ⟨a, H0, (f, v) :: fs, h1, h2, h3, w, by simp only [List.length_cons] at h5 ⊢; omega, fun k hk => h6 k (List.mem_cons_of_mem _ hk), fun H2 w2 => h7 H2 (by
    show Xst C a H0 H2 (addF σ ks ((f, slotV σ i) :: fs))
    rw [ev]; exact w2)⟩
  rcases h4 with ⟨rfl, rfl⟩ | ⟨dx, n1, n2, rfl⟩
  · exact .inl ⟨h3, fun dx n ne => nxt _ (.inr ⟨dx, n, ne, rfl⟩)⟩
  · refine .inr ⟨dx, fs, upd_same, by rw [upd_ne n2, upd_same], by simp only [List.length_cons] at h5; omega, nxt _ (.inr ⟨dx, n1, n2, ?_⟩)⟩
    funext b
    by_cases hb : b = dx
    · subst hb
      rw [upd_same, upd_ne n2, upd_same]
    · rw [upd_ne hb]
      by_cases ha : b = a
      · subst ha; rw [upd_same, upd_same]
      · rw [upd_ne ha, upd_ne ha, upd_ne hb, upd_ne hb]
end
/-- the promise of such an __init__ -/
def SpXi (C : Addr) (n : Nat) (ks : List (Str × Nat)) : Sp := fun vs H Q _ => ∃ a xs, vs = .ref a :: xs ∧ xs.length = n ∧ H a = some (exo a C none) ∧ ∀ H', Xst C a H H' (addF (vs.map some) ks []) → Q .non H'
section
variable {P : Program} {w : World} {K : PySem.W.Frag} {mg : Str → Option Value} {base : Heap}
theorem xi_ok {x qual : Str} {params : Arguments} {bdy : List Stmt} {scope : Scope} {dvs : List V} {kws : List (Str × V)} {f C : Addr} {fd : FuncData} {N : List Str} {k n : Nat} {ks : List (Str × Nat)} (F : FunD K x qual params bdy scope dvs kws f fd) (S : FnScope N N scope) (hn : N.length = n + 1) (T : OexC K C)
    (hk : ∀ q ∈ ks, q.2 < n + 1 ∧ PySem.W.findIn K (.ref C) q.1 = some none) (hl : ks.length ≤ 900)
    (body : ∀ (cdv : Value) (A : Around) (outer : List Env) (sh : Shared) (H : Hp) (E : XK), XI (cxD P w K mg base N qual scope f cdv A outer sh H E) C bdy ks) :
    FnOk P w K mg base (L2.CX P w) (k + 1) f fd N (SpXi C n ks) := by
  refine F.ok (CX := L2.CX P w) S (fun vs H Q E h => ?_) (fun cdv A outer sh H vs Q E hr h => ⟨_, (body cdv A outer sh H E).ps, ?_⟩)
  · obtain ⟨a, xs, rfl, h2, _⟩ := h
    rw [List.length_cons, h2, hn]
  · obtain ⟨a, xs, rfl, h2, h3, h4⟩ := h
    have hs : L2.start N (V.ref a :: xs) = (V.ref a :: xs).map some := by
      unfold L2.start
      rw [show N.length - (V.ref a :: xs).length = 0 from by rw [List.length_cons, h2, hn]; omega]
      simp
    rw [hs]
    refine ⟨a, H, [], rfl, T, h3, .inl ⟨rfl, rfl⟩, by simpa using hl, fun q hq => ?_, fun H' w => h4 H' w⟩
    obtain ⟨g1, g2⟩ := hk q hq
    have hlt : q.2 < (V.ref a :: xs).length := by rw [List.length_cons, h2]; exact g1
    exact ⟨⟨(V.ref a :: xs)[q.2], by rw [List.getElem?_map, List.getElem?_eq_getElem hlt]; rfl⟩, g2⟩
end
theorem repF_lookup {K : PySem.W.Frag} {mg : Str → Option Value} {I : Hp} : ∀ {fs : List (Str × PV)} {ws : List (Str × V)}, RepF K mg I fs ws → RepX K mg I fs ws
  | [], ws, h, f, p, e => by simp at e
  | (k, q) :: fs, ws, h, f, p, e => by
    unfold RepF at h
    obtain ⟨v, r, rfl, h1, h2⟩ := h
    rw [List.lookup_cons] at e ⊢
    cases w : f == k with
    | true => rw [w] at e; cases e; exact ⟨v, rfl, h1⟩
    | false => rw [w] at e; exact repF_lookup h2 f p e
theorem add_rep {K : PySem.W.Frag} {mg : Str → Option Value} {I : Hp} {ps : List PV} {vs : List V} {a : V} (h : RepL K mg I ps vs) : ∀ {ks : List (Str × Nat)} {fs : List (Str × PV)} {ws : List (Str × V)}, (∀ k ∈ ks, 0 < k.2 ∧ k.2 ≤ ps.length) → RepF K mg I fs ws →
    RepF K mg I (addP (.non :: ps) ks fs) (addF ((a :: vs).map some) ks ws)
  | [], fs, ws, _, r => r
  | k :: ks, fs, ws, hk, r => by
    show RepF K mg I (addP (.non :: ps) ks ((k.1, (PV.non :: ps).getD k.2 .non) :: fs)) (addF ((a :: vs).map some) ks ((k.1, slotV ((a :: vs).map some) k.2) :: ws))
    refine add_rep (ks := ks) h (fun q hq => hk q (List.mem_cons_of_mem _ hq)) ?_
    obtain ⟨h1, h2⟩ := hk k List.mem_cons_self
    obtain ⟨j, hj⟩ : ∃ j, k.2 = j + 1 := ⟨k.2 - 1, by omega⟩
    have hlt : j < ps.length := by omega
    obtain ⟨v, g1, g2⟩ := h.get (List.getElem?_eq_getElem hlt)
    unfold RepF
    refine ⟨v, ws, ?_, ?_, r⟩
    · unfold slotV
      rw [hj, List.getElem?_map, List.getElem?_cons_succ, g1]
      rfl
    · rw [hj]
      simpa [List.getD_eq_getElem?_getD, List.getElem?_eq_getElem hlt] using g2
/-- an own exception class, ready to be raised from X -/
structure XOk (X : Cx) (x : Str) (n : Nat) (ks : List (Str × Nat)) : Prop where
  ex : ∃ C fI k fd ps, OexC X.K C ∧ PySem.W.findIn X.K (.ref C) "__init__" = some (some (.ref fI)) ∧ PySem.W.typeIn X.K (.ref fI) = some (.type "function") ∧ FnOk X.prog X.w X.K X.mg X.base (L2.CX X.prog X.w) k fI fd ps (SpXi C n ks) ∧
    Room (k + 1) X.A ∧ Binds X.K fd ps [] ∧ X.mg x = some (.ref C)
def mRaise (x : Str) (ks : List (Str × Nat)) (a : MA) : MS := fun env => (a env).bind fun r => .exc x (addP (.non :: r.1) ks [])
theorem addF_ne {σ : L2.St} : ∀ {ks : List (Str × Nat)} {fs : List (Str × V)}, (ks ≠ [] ∨ fs ≠ []) → addF σ ks fs ≠ []
  | [], fs, h => by
    rcases h with h | h
    · exact absurd rfl h
    · exact h
  | k :: ks, fs, _ => by
    show addF σ ks ((k.1, slotV σ k.2) :: fs) ≠ []
    exact addF_ne (ks := ks) (.inr (by simp))
section
variable {X : Cx} {pi : Pin} {W : WX} {rm : Md} {P Lm ms ms2 : List Md} {x : Str} {n : Nat} {ks : List (Str × Nat)} {a : MA} {e : Expr} {es : List Expr} {p p2 pos : Pos}
theorem SS.raise (D : XOk X x n ks) (hc : X.calm = true) (tk : Takes X W) (ha : SA X pi W ms (e :: es) a) (hne : ks ≠ [] := by decide) (hn : (e :: es).length = n := by rfl) (hn2 : n ≤ 1000 := by decide) (hlen : ∀ env r, a env = .ok r → r.1.length = n)
    (hks : ∀ k ∈ ks, 0 < k.2 ∧ k.2 ≤ n := by decide) (hL : ms.length = X.N.length := by rfl) (hg : Gl X x := by rfl)
    (hdb : (x == ("__debug__" : Str)) = false := by decide) (he : starEach (e :: es) X.env = (false, eval e X.env) :: starEach es X.env := by rfl) (hpl : (backTo p2 (starEach es X.env)).any (·.1) = false := by rfl) :
    SS X pi W rm P Lm ms ms2 (.Raise (some (.Call (.Name x p) (e :: es) [] p2)) none pos) (mRaise x ks a) := by
  obtain ⟨C, fI, k, fd, ps, T, iC, tI, F1, hr, hb, hm⟩ := D.ex
  refine ⟨PSimp (ps_raise hc tk (pmk_oex T iC tI F1 hr hb (dvs := []) (ds := []) .nil (fun _ _ _ _ _ _ _ ⟨_, _, _, _, _, _, _, _, _, _, _, _, w⟩ => w.elim) hg hm ha.pa hdb he hpl)) fun Dd σ H ⟨B, I, ρ, env, s, h⟩ => ?_⟩
  refine ⟨B, I, ρ, env, s, ?_⟩
  unfold mRaise at h
  cases w : a env with
  | bad => rw [w] at h; exact h.elim
  | exc C2 fs2 => rw [w] at h; exact h σ
  | ok r =>
    rw [w] at h
    have hr1 := hlen env r w
    intro vs J H2 ρ2 sj s2 rl
    have lv := rl.len
    refine ⟨by omega, fun a1 na => ⟨a1, vs, by rw [List.append_nil], by omega, upd_same, fun H' xs => ⟨rfl, ?_⟩⟩⟩
    rw [List.append_nil] at xs
    rcases xs with ⟨z, _⟩ | ⟨dx, n1, n2, rfl⟩
    · exact absurd z (addF_ne (.inl hne))
    · have n1' : H2 dx = none := by rw [upd_ne n2] at n1; exact n1
      refine ⟨dx, _, upd_same, by rw [upd_ne n2, upd_same], n1', ?_⟩
      have eq : upd (del (upd (upd (upd H2 a1 (exo a1 C none)) dx (exd dx (addF ((V.ref a1 :: vs).map some) ks []))) a1 (exo a1 C (some dx))) a1) dx (.xd (addF ((V.ref a1 :: vs).map some) ks [])) = upd H2 dx (.xd (addF ((V.ref a1 :: vs).map some) ks [])) := by
        funext b
        by_cases hb1 : b = dx
        · subst hb1; rw [upd_same, upd_same]
        · rw [upd_ne hb1, upd_ne hb1]
          by_cases hb2 : b = a1
          · subst hb2; rw [del_same, na]
          · rw [del_ne hb2, upd_ne hb2, upd_ne hb1, upd_ne hb2]
      rw [eq]
      have g := Grow.laid (o := HO.xd (addF ((V.ref a1 :: vs).map some) ks [])) s2.sub n1'
      have s3 := s2.grow g
      refine (show ∀ σ, Fly X pi W B I σ x (addP (.non :: r.1) ks []) from h) σ C (some dx) J _ ρ2 hm sj s3.sb (.inr ⟨dx, _, rfl, upd_same, ?_, s2.sb.al dx n1'⟩) (by rw [← hL]; exact s3.heldOk)
      refine repF_lookup (add_rep rl (fun q hq => ?_) (by unfold RepF; rfl))
      rw [hr1]
      exact hks q hq
end
end Cq

/-! text Cq16 -/
set_option Elab.async false
set_option linter.all false
set_option maxRecDepth 100000
/-! Cq, part 16: calls with keywords; instances that are made once and never changed; their fields. -/
namespace Cq
open PySem PySem.Spec L2

/-! ### keywords -/
structure SK (X : Cx) (pi : Pin) (W : WX) (ms : List Md) (kws : List Keyword) (m : MA) : Prop where
  pk : PK X kws (tA X pi W ms m)
theorem PKimp {X : Cx} {kws : List Keyword} {t t' : TA} (h : PK X kws t) (k : ∀ σ H Q, t' σ H Q → t σ H Q) : PK X kws t' := ⟨fun pos pn s st hp q iv w => h.run pos pn s st hp q iv (k _ _ _ w)⟩
def gP {α : Type} (perm : List Nat) (xs : List α) : List α := perm.filterMap fun i => xs[i]?
theorem vals_get {vs : List V} {us : List Value} (r : Vals vs us) : ∀ i : Nat, (vs[i]? = none ∧ us[i]? = none) ∨ ∃ v u, vs[i]? = some v ∧ us[i]? = some u ∧ RelV v u := by
  induction r with
  | nil => intro i; simp
  | cons a b ih =>
    intro i
    cases i with
    | zero => exact .inr ⟨_, _, rfl, rfl, a⟩
    | succ i => simpa using ih i
theorem gP_vals {vs : List V} {us : List Value} (r : Vals vs us) : ∀ perm : List Nat, Vals (gP perm vs) (gP perm us)
  | [] => .nil
  | i :: perm => by
    unfold gP
    rw [List.filterMap_cons, List.filterMap_cons]
    rcases vals_get r i with ⟨h1, h2⟩ | ⟨v, u, h1, h2, h3⟩
    · rw [h1, h2]; exact gP_vals r perm
    · rw [h1, h2]; exact .cons h3 (gP_vals r perm)
theorem gP_rep {K : PySem.W.Frag} {mg : Str → Option Value} {I : Hp} {ps : List PV} {vs : List V} (r : RepL K mg I ps vs) : ∀ perm : List Nat, RepL K mg I (gP perm ps) (gP perm vs)
  | [] => .nil
  | i :: perm => by
    unfold gP
    rw [List.filterMap_cons, List.filterMap_cons]
    cases h : ps[i]? with
    | none =>
      have h2 : vs[i]? = none := by
        rw [List.getElem?_eq_none_iff] at h ⊢
        rw [r.len]; exact h
      rw [h2]; exact gP_rep r perm
    | some p =>
      obtain ⟨v, q1, q2⟩ := r.get h
      rw [q1]; exact .cons q2 (gP_rep r perm)
/-- how the values of such a call are bound -/
def KwB (K : PySem.W.Frag) (fd : FuncData) (ps : List Str) (n : Nat) (ks : List Str) (perm : List Nat) : Prop := ∀ (s : Shared) (us ws : List Value), K.In s.heap → us.length = n → ws.length = ks.length → BindsTo s fd ⟨us, ks.zip ws⟩ (ps.zip (gP perm (us ++ ws)))
theorem KwB.kbn {K : PySem.W.Frag} {fd : FuncData} {ps : List Str} {n : Nat} {ks : List Str} {perm : List Nat} (h : KwB K fd ps n ks perm) : KBn K fd ps n ks (fun us ws => gP perm (us ++ ws)) (fun vs zs => gP perm (vs ++ zs)) :=
  ⟨fun s us ws X l1 l2 => h s us ws X l1 l2, fun r1 r2 => gP_vals (r1.append r2) perm⟩
section
variable {X : Cx} {pi : Pin} {W : WX} {ms : List Md} {m : MV} {a b : MA} {e : Expr} {es : List Expr} {kws : List Keyword} {p pos kpos : Pos} {nm : Option Str} {x : Str}
theorem SK.nil : SK X pi W ms [] mNil := by
  refine ⟨PKimp pk_nil fun σ H Q ⟨B, I, ρ, env, s, h⟩ => ?_⟩
  exact (show ∀ vs J H2 ρ2, Same I J → Stt X.K X.mg pi B ms env J H2 ρ2 σ → RepL X.K X.mg J [] vs → Q vs H2 from h) [] I H ρ (.refl _) s .nil
theorem SK.cons (h1 : SE X pi W ms e .fz m) (h2 : SK X pi W ms kws a) : SK X pi W ms (⟨nm, e, kpos⟩ :: kws) (mCons m a) := by
  refine ⟨PKimp (pk_cons h1.pe h2.pk) fun σ H Q ⟨B, I, ρ, env, s, h⟩ => ?_⟩
  refine ⟨B, I, ρ, env, s, R.sat_mono (R.sat_bind h) (fun z hz x J H1 ρ1 τ sj s1 _ en => ?_) fun _ _ z => z⟩
  refine ⟨B, J, ρ1, z.2, s1, R.sat_mono (R.sat_bind hz) (fun z2 hz2 vs L H2 ρ2 sl s2 rl => ?_) fun _ _ z => z.mono sj⟩
  exact (show ∀ vs J H2 ρ2, Same I J → Stt X.K X.mg pi B ms z2.2 J H2 ρ2 σ → RepL X.K X.mg J (z.1 :: z2.1) vs → Q vs H2 from hz2) (x :: vs) L H2 ρ2 (sj.trans sl) s2 (.cons ((ent_fz.mp en).mono sl) rl)
theorem argOk_of {K : PySem.W.Frag} {mg : Str → Option Value} {J : Hp} {σ : L2.St} : ∀ {ps : List PV} {vs : List V}, RepL K mg J ps vs → ArgOk K mg J σ (List.replicate ps.length none) ps vs
  | [], vs, h => by rw [h.inv0]; exact ⟨rfl, rfl⟩
  | p :: ps, vs, h => by
    obtain ⟨v, r, rfl, h1, h2⟩ := h.inv
    exact ⟨p, ps, v, r, rfl, rfl, h1, argOk_of h2⟩
theorem fill_none : ∀ {ps env : List PV}, fillA (List.replicate ps.length none) ps env = ps
  | [], env => rfl
  | p :: ps, env => by simp [List.replicate_succ, fillA, fill_none (ps := ps) (env := env)]
theorem back_none : ∀ {n : Nat} {rs env : List PV}, backA (List.replicate n none) rs env = env
  | 0, rs, env => by cases rs <;> rfl
  | n + 1, [], env => rfl
  | n + 1, r :: rs, env => by simp [List.replicate_succ, backA, back_none (n := n) (rs := rs) (env := env)]
theorem okA_none {ms : List Md} : ∀ n : Nat, okA ms (List.replicate n .fz) (List.replicate n none) = true := by
  intro n
  unfold okA
  simp [List.getElem?_replicate]
  intro j hj
  simp [hj]
/-- a def gets frozen values -/
theorem spF_of {rm : Md} {F : MF} {B : Bs} {I J H : Hp} {ρ : Own} {σ : L2.St} {env ps : List PV} {vs : List V} {Q : VK} (hL : ms.length = X.N.length) (s : Stt X.K X.mg pi B ms env J H ρ σ) (r : RepL X.K X.mg J ps vs) (sj : Same I J)
    (h : ((F ps).bind fun z => R.ok (z.1, env)).sat (fun z => ∀ v J H2 ρ2 τ, Same I J → Stt X.K X.mg pi B ms z.2 J H2 ρ2 σ → Tau B J H2 ρ2 τ → Ent X.K X.mg J H2 τ 0 rm z.1 (some v) → Q v H2) (Fly X pi W B I σ)) :
    SpF X.K X.mg (List.replicate ps.length .fz) rm F vs H Q (WE W σ) := by
  have ha := argOk_of (σ := σ) r
  have ok : okA ms (List.replicate ps.length .fz) (List.replicate ps.length none) = true := okA_none _
  have c := call_start s ha ok
  rw [fill_none] at c
  refine ⟨by rw [r.len]; simp, J, _, _, c, R.sat_mono (R.sat_bind h) (fun r hr v L H2 ρ2 τ sl e t en => ?_) fun C fs fl c d L H2 ρ2 h1 sl e h2 => ?_⟩
  · obtain ⟨q1, q2⟩ := call_end (rm := rm) (q := .non) (v := .non) s ha ok sl e t
    rw [back_none] at q1
    exact hr v L H2 _ τ (sj.trans sl) q1 q2 en
  · have c2 := call_fly (n := X.N.length) s.sb (by rw [← hL]; exact s.heldOk) (by omega) ok sl e
    exact fl c d L H2 _ h1 (sj.trans sl) c2.1 (h2.back fun a h => s.sb.al a h) c2.2
end
theorem run_fnK {X : Cx} {k n : Nat} {f : Addr} {fd : FuncData} {ps ks : List Str} {sp : Sp} {E : L2.St → XK} {g : List Value → List Value → List Value} {gV : List V → List V → List V} {pins : List (Addr × Obj)} {σ : L2.St} {H : Hp} {s : Shared} {Q : VK} {us ws : List Value} {vs zs : List V}
    (F : FnOk X.prog X.w X.K X.mg X.base (L2.CX X.prog X.w) k f fd ps sp) (hr : Room k X.A) (hb : KBn X.K fd ps n ks g gV) (hx : PassesAt (L2.CX X.prog X.w) X σ (E σ))
    (I : Inv X pins σ H s) (r : Vals vs us) (rz : Vals zs ws) (l1 : vs.length = n) (l2 : zs.length = ks.length) (h : sp (gV vs zs) H Q (E σ)) : wpAny (model X.prog X.w) X.A (call (.ref f) us (ks.zip ws)) (EP X pins σ Q) X.xe s := by
  have r2 := hb.rel r rz
  refine wpAny_call (codeAny_mono (F.run X.A X.stack s H ⟨us, ks.zip ws⟩ (g us ws) (gV vs zs) Q (E σ) hr I.env0 (hb.to s us ws I.kIn (r.length.symm.trans l1) (rz.length.symm.trans l2)) r2 h) fun o s' hq => ?_)
  cases o with
  | error er => exact hx pins H s er s' I hq
  | ok fl =>
    cases fl with
    | ret u => exact I.after hq
    | next => exact False.elim hq
    | brk => exact False.elim hq
    | cont => exact False.elim hq
/-- a def with its promise, ready to be called from X with keywords -/
structure DefKw (X : Cx) (x : Str) (n np : Nat) (ks : List Str) (perm : List Nat) (rm : Md) (F : MF) : Prop where
  ex : ∃ k f fd ps, FnOk X.prog X.w X.K X.mg X.base (L2.CX X.prog X.w) k f fd ps (SpF X.K X.mg (List.replicate np .fz) rm F) ∧ Room k X.A ∧ X.mg x = some (.ref f) ∧ PySem.W.keepIn X.K (.ref f) = true ∧ KwB X.K fd ps n ks perm
def mCallK (F : MF) (np : Nat) (perm : List Nat) (a b : MA) : MV := fun env => (a env).bind fun r => (b r.2).bind fun z => if (gP perm (r.1 ++ z.1)).length = np then (F (gP perm (r.1 ++ z.1))).bind fun q => .ok (q.1, z.2) else .bad
section
variable {X : Cx} {pi : Pin} {W : WX} {ms : List Md} {m : MV} {a b : MA} {e : Expr} {es : List Expr} {kws : List Keyword} {p pos kpos : Pos} {nm : Option Str} {x : Str} {n np : Nat} {ks : List Str} {perm : List Nat} {rm : Md} {F : MF}
theorem callK_core {B : Bs} {I H : Hp} {ρ : Own} {σ : L2.St} {env : List PV} {Q : VK} (hL : ms.length = X.N.length) (la : ∀ env r, a env = .ok r → r.1.length = n) (lb : ∀ env r, b env = .ok r → r.1.length = ks.length) (s : Stt X.K X.mg pi B ms env I H ρ σ)
    (h : (mCallK F np perm a b env).sat (fun z => ∀ v J H2 ρ2 τ, Same I J → Stt X.K X.mg pi B ms z.2 J H2 ρ2 σ → Tau B J H2 ρ2 τ → Ent X.K X.mg J H2 τ 0 rm z.1 (some v) → Q v H2) (Fly X pi W B I σ)) :
    tA X pi W ms a σ H fun vs H1 => tA X pi W ms b σ H1 fun zs H2 => vs.length = n ∧ zs.length = ks.length ∧ SpF X.K X.mg (List.replicate np .fz) rm F (gP perm (vs ++ zs)) H2 Q (WE W σ) := by
  refine ⟨B, I, ρ, env, s, ?_⟩
  unfold mCallK at h
  cases w : a env with
  | bad => rw [w] at h; exact h.elim
  | exc C fs => rw [w] at h; exact h
  | ok r =>
    rw [w] at h
    intro vs J H1 ρ1 sj s1 ra
    refine ⟨B, J, ρ1, r.2, s1, ?_⟩
    dsimp only [R.bind_ok] at h
    cases w2 : b r.2 with
    | bad => rw [w2] at h; exact h.elim
    | exc C fs => rw [w2] at h; exact Fly.mono h sj
    | ok z =>
      rw [w2] at h
      dsimp only [R.bind_ok] at h
      intro zs L H2 ρ2 sl s2 rb
      have ra2 := ra.mono sl
      refine ⟨by rw [ra.len]; exact la _ _ w, by rw [rb.len]; exact lb _ _ w2, ?_⟩
      by_cases hl : (gP perm (r.1 ++ z.1)).length = np
      · rw [if_pos hl] at h
        have q := spF_of (F := F) hL s2 (gP_rep (ra2.app rb) perm) (sj.trans sl) h
        rwa [hl] at q
      · rw [if_neg hl] at h; exact h.elim
/-- f(k = v, ..) -/
theorem SE.callK0 (D : DefKw X x 0 np ks perm rm F) (tk : Takes X W) (hb : SK X pi W ms kws b) (lb : ∀ env r, b env = .ok r → r.1.length = ks.length) (hL : ms.length = X.N.length := by rfl) (hg : Gl X x := by rfl)
    (hall : (backToKw pos (keywordEach kws X.env)).all (·.1.isSome) = true := by rfl) (hks : (backToKw pos (keywordEach kws X.env)).filterMap (·.1) = ks := by rfl) (hdb : (x == ("__debug__" : Str)) = false := by decide)
    (hpl : ((backTo pos (starEach [] X.env)).any (·.1) || (backToKw pos (keywordEach kws X.env)).any (·.1.isNone)) = false := by rfl) : SE X pi W ms (.Call (.Name x p) [] kws pos) rm (mCallK F np perm mNil b) := by
  obtain ⟨k, f, fd, ps, Fk, hr, hm, hk, hkb⟩ := D.ex
  refine ⟨⟨fun pins s σ H Q I h => ?_⟩⟩
  refine wpAny_Call_Name_kw (ld_glob I hg hm ?_ hdb)
  obtain ⟨B, I0, ρ, env, st, h⟩ := h
  have c := callK_core (a := mNil) hL (fun _ _ w => by cases w; rfl) lb st h
  obtain ⟨B1, I1, ρ1, env1, st1, h1⟩ := c
  have c2 := (show ∀ vs J H2 ρ2, Same I1 J → Stt X.K X.mg pi B1 ms env1 J H2 ρ2 σ → RepL X.K X.mg J [] vs → _ from h1) [] I1 H ρ1 (.refl _) st1 .nil
  refine PySem.W.callWith_KW0 (h₀ := X.base) I.ok.mod.kin hk hall ?_ hpl
  refine thn (hb.pk.run pos pins s σ H _ I c2) fun ws s2 ⟨zs, H2, I2, rz, l1, l2, q2⟩ => ⟨I2.kIn, ?_⟩
  rw [hks]
  exact run_fnK (E := WE W) (us := []) Fk hr hkb.kbn (passAt tk σ) I2 .nil rz l1 l2 q2
/-- f(e, .., k = v, ..) -/
theorem SE.callK (D : DefKw X x n np ks perm rm F) (tk : Takes X W) (ha : SA X pi W ms (e :: es) a) (hb : SK X pi W ms kws b) (la : ∀ env r, a env = .ok r → r.1.length = n) (lb : ∀ env r, b env = .ok r → r.1.length = ks.length) (hL : ms.length = X.N.length := by rfl) (hg : Gl X x := by rfl)
    (hall : (backToKw pos (keywordEach kws X.env)).all (·.1.isSome) = true := by rfl) (hks : (backToKw pos (keywordEach kws X.env)).filterMap (·.1) = ks := by rfl) (hdb : (x == ("__debug__" : Str)) = false := by decide)
    (he : starEach (e :: es) X.env = (false, eval e X.env) :: starEach es X.env := by rfl)
    (hpl : ((backTo pos (starEach (e :: es) X.env)).any (·.1) || (backToKw pos (keywordEach kws X.env)).any (·.1.isNone)) = false := by rfl) : SE X pi W ms (.Call (.Name x p) (e :: es) kws pos) rm (mCallK F np perm a b) := by
  obtain ⟨k, f, fd, ps, Fk, hr, hm, hk, hkb⟩ := D.ex
  refine ⟨⟨fun pins s σ H Q I h => ?_⟩⟩
  refine wpAny_Call_Name_kw (ld_glob I hg hm ?_ hdb)
  obtain ⟨B, I0, ρ, env, st, h⟩ := h
  have c := callK_core hL la lb st h
  refine PySem.W.callWith_KW (h₀ := X.base) I.ok.mod.kin hk hall (thn (ha.pa.run pos pins s σ H _ I c) fun us s1 ⟨vs, H1, I1, r, q⟩ => ?_) hpl he
  refine thn (hb.pk.run pos pins s1 σ H1 _ I1 q) fun ws s2 ⟨zs, H2, I2, rz, l1, l2, q2⟩ => ⟨I2.kIn, ?_⟩
  rw [hks]
  exact run_fnK (E := WE W) Fk hr hkb.kbn (passAt tk σ) I2 r rz l1 l2 q2
end
end Cq

/-! text Cq17 -/
set_option Elab.async false
set_option linter.all false
set_option maxRecDepth 100000
/-! Cq, part 17: own classes whose instances are never changed behind __init__. -/
namespace Cq
open PySem PySem.Spec L2

def pin0 : Pin := ⟨[0], none⟩
def putP (f : Str) (v : PV) : List (Str × PV) → List (Str × PV)
  | [] => [(f, v)]
  | (g, x) :: r => if g = f then (g, v) :: r else (g, x) :: putP f v r
section
variable {K : PySem.W.Frag} {mg : Str → Option Value} {I J H H2 : Hp} {ρ : Own} {pi : Pin} {B : Bs} {ms : List Md} {env : List PV} {σ : L2.St} {a : Addr} {o : HO}
theorem repF_len : ∀ {fs : List (Str × PV)} {ws : List (Str × V)}, RepF K mg I fs ws → ws.length = fs.length
  | [], ws, h => by unfold RepF at h; rw [h]; rfl
  | (k, p) :: fs, ws, h => by
    unfold RepF at h
    obtain ⟨v, r, rfl, _, h2⟩ := h
    simp [repF_len h2]
theorem repF_put {f : Str} {p : PV} {v : V} (hp : Rep K mg I p v) : ∀ {fs : List (Str × PV)} {ws : List (Str × V)}, RepF K mg I fs ws → RepF K mg I (putP f p fs) (putF f v ws)
  | [], ws, h => by
    unfold RepF at h; subst h
    show RepF K mg I [(f, p)] [(f, v)]
    unfold RepF
    exact ⟨v, [], rfl, hp, by unfold RepF; rfl⟩
  | (k, q) :: fs, ws, h => by
    unfold RepF at h
    obtain ⟨u, r, rfl, h1, h2⟩ := h
    unfold putP putF
    by_cases e : k = f
    · rw [if_pos e, if_pos e]
      unfold RepF
      exact ⟨v, r, rfl, hp, h2⟩
    · rw [if_neg e, if_neg e]
      unfold RepF
      exact ⟨u, putF f v r, rfl, h1, repF_put hp h2⟩
theorem Sb.noI (s : Sb pi B I H ρ σ) {w : HO} (hB : B.H a = some w) (hI : B.I a = none) : I a = none := by
  cases q : I a with
  | none => rfl
  | some u =>
    rcases s.ft a u q with z | z
    · rw [hI] at z; cases z
    · rw [hB] at z; cases z
theorem Sb.noR (s : Sb pi B I H ρ σ) {w : HO} (hB : B.H a = some w) (ho : B.own a = none) : ρ a = none := by
  cases q : ρ a with
  | none => rfl
  | some t =>
    rcases (s.ro a t q).1 with z | z
    · rw [ho] at z; cases z
    · rw [hB] at z; cases z
/-- an object of the base is another one from now on -/
theorem Sb.poke {w : HO} (s : Sb pi B I H ρ σ) (hB : B.H a = some w) (hI : B.I a = none) (ho : B.own a = none) (u : HO) : Sb pi { B with H := upd B.H a u } I (upd H a u) ρ σ := by
  have nI := s.noI hB hI
  have nR := s.noR hB ho
  refine ⟨fun b v e => ?_, s.bi, fun b v e n => ?_, fun b v e => ?_, fun b t e => ?_, fun b e => ?_, s.pr, s.bo, s.px⟩
  · rw [upd_ne (fun z => by rw [z, nI] at e; cases e)]; exact s.sub b v e
  · by_cases z : b = a
    · subst z
      have e' : upd B.H b u b = some v := e
      rw [upd_same] at e' ⊢; exact e'
    · have e' : upd B.H a u b = some v := e
      rw [upd_ne z] at e' ⊢; exact s.fr b v e' n
  · have z : b ≠ a := fun z => by rw [z, nI] at e; cases e
    rcases s.ft b v e with q | q
    · exact .inl q
    · exact .inr (by show upd B.H a u b = none; rw [upd_ne z]; exact q)
  · have z : b ≠ a := fun z => by rw [z, nR] at e; cases e
    obtain ⟨h1, h2, vs, h3⟩ := s.ro b t e
    refine ⟨?_, h2, vs, by rw [upd_ne z]; exact h3⟩
    rcases h1 with q | q
    · exact .inl q
    · exact .inr (by show upd B.H a u b = none; rw [upd_ne z]; exact q)
  · have z : b ≠ a := fun z => by rw [z, upd_same] at e; cases e
    rw [upd_ne z] at e
    show upd B.H a u b = none
    rw [upd_ne z]; exact s.al b e
theorem Stt.poke {w : HO} (s : Stt K mg pi B ms env I H ρ σ) (hB : B.H a = some w) (hI : B.I a = none) (ho : B.own a = none) (u : HO) : Stt K mg pi { B with H := upd B.H a u } ms env I (upd H a u) ρ σ := by
  have nR := s.sb.noR hB ho
  refine ⟨s.sb.poke hB hI ho u, s.ls, s.le, s.l1, s.l2, fun i m p v h1 h2 h3 => (s.ea i m p v h1 h2 h3).mono (.refl _) fun b r vs h4 h5 => ⟨h4, ?_⟩⟩
  rw [upd_ne (fun z => by rw [z, nR] at h4; cases h4)]; exact h5
theorem upd_back {H : Hp} {a : Addr} {w u : HO} (h : H a = some w) : upd (upd H a u) a w = H := by
  funext b
  by_cases z : b = a
  · subst z; rw [upd_same, h]
  · rw [upd_ne z, upd_ne z]
theorem upd_upd {H : Hp} {a : Addr} {w u : HO} : upd (upd H a u) a w = upd H a w := by
  funext b
  by_cases z : b = a
  · subst z; rw [upd_same, upd_same]
  · rw [upd_ne z, upd_ne z, upd_ne z]
theorem Stt.unpoke {w u : HO} (s : Stt K mg pi { B with H := upd B.H a u } ms env I H ρ σ) (hB : B.H a = some w) (hI : B.I a = none) (ho : B.own a = none) : Stt K mg pi B ms env I (upd H a w) ρ σ := by
  have := s.poke (a := a) (w := u) upd_same hI ho w
  have e : ({ B with H := upd (upd B.H a u) a w } : Bs) = B := by rw [upd_back hB]
  exact (show Stt K mg pi { B with H := upd (upd B.H a u) a w } ms env I (upd H a w) ρ σ from this) |> fun t => by rw [e] at t; exact t
theorem Sb.unpoke {w u : HO} (s : Sb pi { B with H := upd B.H a u } I H ρ σ) (hB : B.H a = some w) (hI : B.I a = none) (ho : B.own a = none) : Sb pi B I (upd H a w) ρ σ := by
  have := s.poke (a := a) (w := u) upd_same hI ho w
  have e : ({ B with H := upd (upd B.H a u) a w } : Bs) = B := by rw [upd_back hB]
  exact (show Sb pi { B with H := upd (upd B.H a u) a w } I (upd H a w) ρ σ from this) |> fun t => by rw [e] at t; exact t
end
/-! ### the last part of an __init__: self.f = e, .. -/
abbrev MT := List (Str × PV) → List PV → R (List (Str × PV))
/-- the instance that is being made -/
structure Slf (B : Bs) (a c dx : Addr) : Prop where
  vs : B.vs[0]? = some (.ref a)
  I : B.I a = none
  own : B.own a = none
  H : B.H a = some (.ins c dx [])
def tIt (X : Cx) (c : Addr) (ms : List Md) (m : MT) : TS := fun D σ H => ∃ B I ρ env a dx G fs ws, Stt X.K X.mg pin0 B ms env I G ρ σ ∧ Slf B a c dx ∧ H = upd G a (.ins c dx ws) ∧ RepF X.K X.mg I fs ws ∧ fs.length < 900 ∧
  (m fs env).sat (fun r => ∀ J G2 ρ2 ws', Same I J → Sb pin0 B J G2 ρ2 σ → RepF X.K X.mg J r ws' → D.nx σ (upd G2 a (.ins c dx ws'))) (fun _ _ => False)
structure IT (X : Cx) (c : Addr) (ms : List Md) (body : List Stmt) (m : MT) : Prop where
  ps : PSs X body (tIt X c ms m)
section
variable {X : Cx} {c : Addr} {ms ms1 ms2 : List Md} {rm : Md} {body : List Stmt} {m : MT} {mv : MV} {x f : Str} {p1 p2 pos : Pos} {e : Expr} {W : WX}
theorem IT.nil : IT X c ms [] (fun fs _ => .ok fs) := ⟨PSsimp pss_nil fun D σ H ⟨B, I, ρ, env, a, dx, G, fs, ws, s, sl, eH, r, _, h⟩ => by
  rw [eH]
  exact (show ∀ J G2 ρ2 ws', Same I J → Sb pin0 B J G2 ρ2 σ → RepF X.K X.mg J fs ws' → D.nx σ (upd G2 a (.ins c dx ws')) from h) I G ρ ws (.refl _) s.sb r⟩
def mFs (f : Str) (mv : MV) (m : MT) : MT := fun fs env => if fs.length + 1 < 900 then (mv env).bind fun r => m (putP f r.1 fs) r.2 else .bad
theorem putP_len {f : Str} {v : PV} : ∀ {fs : List (Str × PV)}, (putP f v fs).length ≤ fs.length + 1
  | [] => Nat.le_refl _
  | (g, x) :: r => by
    unfold putP
    split
    · simp
    · simp only [List.length_cons]; exact Nat.succ_le_succ (putP_len (fs := r))
theorem IT.cons (hc : Cls X.K c) (hno : NoAttr X.K c f) (a : SE X pin0 WN ms e .fz mv) (r : IT X c ms body m) (hx : X.N[0]? = some x := by rfl) (hv : Vis X.env.scope x := by first | exact Or.inl rfl | exact Or.inr (Or.inl rfl) | exact Or.inr (Or.inr rfl))
    (hd : (x == ("__debug__" : Str)) = false := by decide) (hcd : (x == ("__classdict__" : Str)) = false := by decide) (hs : swapsWith e (some (.Attribute (.Name x p1) f p2)) pos.line X.env = pure false := by rfl) :
    IT X c ms (.Assign [.Attribute (.Name x p1) f p2] e pos :: body) (mFs f mv m) := by
  refine ⟨PSsimp (pss_cons (ps_fld (pe_var hx hv hd hcd) a.pe hs) r.ps) fun D σ H ⟨B, I, ρ, env, ad, dx, G, fs, ws, s, sl, eH, rf, hlen, h⟩ => ?_⟩
  subst eH
  unfold mFs at h
  by_cases hl : fs.length + 1 < 900
  · rw [if_pos hl] at h
    refine ⟨{ B with H := upd B.H ad (.ins c dx ws) }, I, ρ, env, s.poke sl.H sl.I sl.own _, ?_⟩
    refine R.sat_mono (R.sat_bind h) (fun z hz v J H2 ρ2 τ sj s2 _ en => ?_) fun C fs q => q.elim
    have r2 : σ[0]? = some (some (.ref ad)) := by
      obtain ⟨v, q1, q2⟩ := s.sb.pr 0 (by show (0 : Nat) ∈ [0]; simp)
      rw [sl.vs] at q1; cases q1; exact q2
    have hH : H2 ad = some (.ins c dx ws) := s2.sb.fr ad _ upd_same sl.own
    refine ⟨.ref ad, r2, ad, c, dx, ws, rfl, hH, hc, hno, by rw [repF_len rf]; omega, ?_⟩
    have s3 := s2.unpoke sl.H sl.I sl.own
    refine ⟨B, J, ρ2, z.2, ad, dx, upd H2 ad (.ins c dx []), putP f z.1 fs, putF f v ws, s3, sl, by rw [upd_upd], repF_put (ent_fz.mp en) (rf.mono sj), Nat.lt_of_le_of_lt putP_len hl, R.sat_mono hz (fun q hq J2 G2 ρ3 ws' sj2 s4 r4 => hq J2 G2 ρ3 ws' (sj.trans sj2) s4 r4) fun _ _ q => q⟩
  · rw [if_neg hl] at h; exact h.elim
/-! ### the whole body -/
abbrev MX := List PV → R (List (Str × PV))
def tIb (X : Cx) (W : WX) (c : Addr) (ms : List Md) (m : MX) : TS := fun D σ H => ∃ B I ρ env a dx, Stt X.K X.mg pin0 B ms env I H ρ σ ∧ Slf B a c dx ∧
  (m env).sat (fun r => ∀ σ2 J G2 ρ2 ws', Same I J → Sb pin0 B J G2 ρ2 σ2 → RepF X.K X.mg J r ws' → D.nx σ2 (upd G2 a (.ins c dx ws'))) (fun C fs => ∀ σ, Fly X pin0 W B I σ C fs)
structure IB (X : Cx) (W : WX) (c : Addr) (ms : List Md) (body : List Stmt) (m : MX) : Prop where
  ps : PSs X body (tIb X W c ms m)
def mIb (m1 : MS) (m2 : MX) : MX := fun env => (m1 env).bind fun o => match o with
  | .nx e => m2 e
  | _ => .bad
theorem IB.cons {s1 : Stmt} {m1 : MS} {m2 : MX} (a : SS X pin0 W rm [] [] ms ms1 s1 m1) (r : IB X W c ms1 body m2) : IB X W c ms (s1 :: body) (mIb m1 m2) := by
  refine ⟨PSsimp (pss_cons a.ps r.ps) fun D σ H ⟨B, I, ρ, env, ad, dx, s, sl, h⟩ => ?_⟩
  refine ⟨B, I, ρ, env, s, R.sat_mono (R.sat_bind h) (fun o z => ?_) fun _ _ z => z⟩
  cases o with
  | nx e => exact fun σ2 J H2 ρ2 sj st2 => ⟨B, J, ρ2, e, ad, dx, st2, sl, R.sat_mono (show (m2 e).sat _ _ from z) (fun q hq σ3 J2 G2 ρ3 ws' sj2 s4 r4 => hq σ3 J2 G2 ρ3 ws' (sj.trans sj2) s4 r4) fun C fs q σ => (q σ).mono sj⟩
  | bk e => exact (show False from z).elim
  | ct e => exact (show False from z).elim
  | rt p e => exact (show False from z).elim
theorem IB.tail (r : IT X c ms body m) : IB X W c ms body (fun env => (m [] env).nx) := by
  refine ⟨PSsimp r.ps fun D σ H ⟨B, I, ρ, env, ad, dx, s, sl, h⟩ => ?_⟩
  refine ⟨B, I, ρ, env, ad, dx, H, [], [], s, sl, ?_, by unfold RepF; rfl, by decide, R.sat_mono (R.sat_nx (g' := fun _ _ => False) h) (fun q hq J G2 ρ2 ws' sj s2 r2 => hq σ J G2 ρ2 ws' sj s2 r2) fun _ _ q => q⟩
  have e := s.sb.fr ad _ sl.H sl.own
  funext b
  by_cases z : b = ad
  · subst z; rw [upd_same, e]
  · rw [upd_ne z]
/-- the promise of such an __init__ -/
def SpI (K : PySem.W.Frag) (mg : Str → Option Value) (c : Addr) (n : Nat) (F : List PV → R (List (Str × PV))) : Sp := fun vs H Q E => ∃ a dx xs I ps, vs = .ref a :: xs ∧ xs.length = n ∧ I a = none ∧ Same I H ∧ H a = some (.ins c dx []) ∧ RepL K mg I ps xs ∧
  (F ps).sat (fun r => ∀ J G ρ ws, Same I J → Sb pin0 ⟨I, H, fun _ => none, vs, [], [], []⟩ J G ρ (vs.map some) → RepF K mg J r ws → Q .non (upd G a (.ins c dx ws)))
    (fun C fs => ∀ cc d J H2 ρ2, mg C = some (.ref cc) → Same I J → Sb pin0 ⟨I, H, fun _ => none, vs, [], [], []⟩ J H2 ρ2 (vs.map some) → ExD K mg J H2 H d fs → E (.ref cc) d H2)
def iniM (n k : Nat) : List Md := .un :: (List.replicate n .fz ++ uns (k - (n + 1)))
def mIni (n k : Nat) (m : MX) : List PV → R (List (Str × PV)) := fun ps => m (.non :: ps ++ List.replicate (k - (n + 1)) .non)
end
theorem Stt.mk0 {K : PySem.W.Frag} {mg : Str → Option Value} {I H : Hp} {a : Addr} {xs : List V} {ps : List PV} {n k : Nat} (hn : xs.length = n) (s : Same I H) (r : RepL K mg I ps xs) :
    Stt K mg pin0 ⟨I, H, fun _ => none, .ref a :: xs, [], [], []⟩ (iniM n k) (.non :: ps ++ List.replicate (k - (n + 1)) .non) I H (fun _ => none) ((V.ref a :: xs).map some ++ List.replicate (k - (n + 1)) none) := by
  have lp : ps.length = n := by rw [← r.len]; exact hn
  refine ⟨⟨s, .refl _, fun b o e _ => e, fun b o e => .inl e, fun b t e => (by cases e), fun b e => e, fun i hi => ?_, fun b t e => (by cases e), fun q e => (by cases e)⟩, by simp [iniM, uns, hn] <;> omega, by simp [iniM, uns, lp] <;> omega, rfl, rfl, fun i m p v h1 h2 h3 => ?_⟩
  · have : i = 0 := by
      have z : i ∈ [0] := hi
      simpa using z
    subst this
    exact ⟨.ref a, rfl, rfl⟩
  · simp only [List.append_nil] at h1 h2 h3
    cases i with
    | zero =>
      unfold iniM at h1
      simp at h1; subst h1
      unfold Ent; trivial
    | succ i =>
      unfold iniM at h1
      rw [List.getElem?_cons_succ] at h1
      by_cases hi : i < n
      · rw [List.getElem?_append_left (by simpa using hi), List.getElem?_replicate, if_pos hi] at h1
        cases h1
        rw [List.cons_append, List.getElem?_cons_succ, List.getElem?_append_left (by omega)] at h2
        rw [List.map_cons, List.cons_append, List.getElem?_cons_succ, List.getElem?_append_left (by simp; omega), List.getElem?_map] at h3
        obtain ⟨w, q1, q2⟩ := r.get h2
        rw [q1] at h3
        cases h3
        unfold Ent
        exact ⟨w, rfl, q2⟩
      · rw [List.getElem?_append_right (by simp; omega)] at h1
        rw [uns_get h1]
        unfold Ent; trivial
section
variable {P : Program} {w : World} {K : PySem.W.Frag} {mg : Str → Option Value} {base : Heap}
theorem ini_ok {x qual : Str} {params : Arguments} {bdy : List Stmt} {scope : Scope} {dvs : List V} {kws : List (Str × V)} {f c : Addr} {fd : FuncData} {N ps : List Str} {k n : Nat} {m : MX} (F : FunD K x qual params bdy scope dvs kws f fd) (S : FnScope N ps scope) (hps : ps.length = n + 1)
    (body : ∀ (cdv : Value) (A : Around) (outer : List Env) (sh : Shared) (H : Hp) (E : XK), Room k (A.deeper (PyProof.Rows.envOfC qual scope sh.heap.objs.size f cdv)) →
      IB (cxD P w K mg base N qual scope f cdv A outer sh H E) (fun cls d _ H => E cls d H) c (iniM n N.length) bdy m) :
    FnOk P w K mg base (L2.CX P w) (k + 1) f fd ps (SpI K mg c n (mIni n N.length m)) := by
  refine F.ok (CX := L2.CX P w) S (fun vs H Q E h => ?_) (fun cdv A outer sh H vs Q E hr h => ⟨_, (body cdv A outer sh H E hr).ps, ?_⟩)
  · obtain ⟨a, dx, xs, I, qs, rfl, h2, _⟩ := h
    rw [List.length_cons, h2, hps]
  · obtain ⟨a, dx, xs, I, qs, rfl, h2, h3, h4, h5, h6, h7⟩ := h
    have hs : L2.start N (V.ref a :: xs) = (V.ref a :: xs).map some ++ List.replicate (N.length - (n + 1)) none := by
      unfold L2.start
      rw [List.length_cons, h2]
    rw [hs]
    have pins : ∀ {σ2 : L2.St} {J G ρ}, Sb pin0 ⟨I, H, fun _ => none, V.ref a :: xs, [], [], []⟩ J G ρ σ2 → Sb pin0 ⟨I, H, fun _ => none, V.ref a :: xs, [], [], []⟩ J G ρ ((V.ref a :: xs).map some) := fun {σ2 J G ρ} s => s.slots fun i hi => by
      have hi' : i = 0 := by
        have z : i ∈ [0] := hi
        simpa using z
      subst hi'
      obtain ⟨v, q1, q2⟩ := s.pr 0 hi
      have q1' : (V.ref a :: xs)[0]? = some v := q1
      cases q1'
      rw [q2]; rfl
    refine ⟨_, I, fun _ => none, _, a, dx, Stt.mk0 h2 h4 h6, ⟨rfl, h3, rfl, h5⟩, R.sat_mono (show (m _).sat _ _ from h7) (fun r hr σ2 J G ρ ws sj s r2 => hr J G ρ ws sj (pins s) r2) fun C fs z σ2 cc d J H2 ρ2 e1 sj s e2 _ => z cc d J H2 ρ2 e1 sj (pins s) e2⟩
end
/-! ### C(..) -/
theorem run_mkS {X : Cx} {k n : Nat} {f C : Addr} {fd : FuncData} {ps ks : List Str} {sp : Sp} {E : L2.St → XK} {g : List Value → List Value → List Value} {gV : List V → List V → List V} {pins : List (Addr × Obj)} {σ : L2.St} {H : Hp} {s : Shared} {Q : VK} {us ws : List Value} {vs zs : List V}
    (M : Mk X.K C f) (F : FnOk X.prog X.w X.K X.mg X.base (L2.CX X.prog X.w) k f fd ps sp) (hr : Room (k + 1) X.A) (hb : KBn X.K fd ps (n + 1) ks g gV) (hx : PassesAt (L2.CX X.prog X.w) X σ (E σ))
    (I : Inv X pins σ H s) (r : Vals vs us) (rz : Vals zs ws) (l1 : vs.length = n) (l2 : zs.length = ks.length)
    (h : ∀ x dx, H x = none → H dx = none → dx ≠ x → sp (gV (.ref x :: vs) zs) (upd (upd H dx (.own x)) x (.ins C dx [])) (fun v H2 => v = .non ∧ Q (.ref x) H2) (E σ)) (hxH : ∀ (x dx : Addr), PassesAt (L2.CX X.prog X.w) X σ (E σ)) :
    wpAny (model X.prog X.w) X.A (call (.ref C) us (ks.zip ws)) (EP X pins σ Q) X.xe s := by
  have hq := h (s.heap.objs.size + 1) s.heap.objs.size (I.hok.fresh (Nat.le_succ _)) (I.hok.fresh (Nat.le_refl _)) (Nat.ne_of_lt (Nat.lt_succ_self _))
  have I2 := Inv.made (C := C) I
  have r1 : Vals (V.ref (s.heap.objs.size + 1) :: vs) (Value.ref (s.heap.objs.size + 1) :: us) := .cons rfl r
  have r2 := hb.rel r1 rz
  have n1 : (Value.ref (s.heap.objs.size + 1) :: us).length = n + 1 := by
    rw [List.length_cons, ← r.length, l1]
  refine wpAny_call (make_map (f := f) I.kIn M.makes M.init (beq_iff_eq.mp M.fn) (codeAny_mono (F.run _ X.stack _ _ ⟨Value.ref (s.heap.objs.size + 1) :: us, ks.zip ws⟩ (g (Value.ref (s.heap.objs.size + 1) :: us) ws) _ _ (E σ) (hr.make C us (ks.zip ws))
    (I2.env0.make C us (ks.zip ws)) (hb.to _ (Value.ref (s.heap.objs.size + 1) :: us) ws I2.kIn n1 (rz.length.symm.trans l2)) r2 hq) fun o s' hq' => ?_))
  cases o with
  | error er => exact hx pins _ _ er s' I2 hq'
  | ok fl =>
    cases fl with
    | ret u =>
      obtain ⟨v, H', I3, rv, ev, q3⟩ := I2.after hq'
      subst ev
      exact ⟨rv, ⟨V.ref (s.heap.objs.size + 1), H', I3, rfl, q3⟩⟩
    | next => exact False.elim hq'
    | brk => exact False.elim hq'
    | cont => exact False.elim hq'
/-- a class, ready to be called from X -/
structure MkOk (X : Cx) (x : Str) (n nk : Nat) (ks : List Str) (perm : List Nat) (F : List PV → R (List (Str × PV))) : Prop where
  ex : ∃ C f k fd ps, Mk X.K C f ∧ FnOk X.prog X.w X.K X.mg X.base (L2.CX X.prog X.w) k f fd ps (SpI X.K X.mg C nk F) ∧ Room (k + 1) X.A ∧ X.mg x = some (.ref C) ∧ KwB X.K fd ps (n + 1) ks (0 :: perm.map (· + 1))
def mMake (x : Str) (F : List PV → R (List (Str × PV))) (nk : Nat) (perm : List Nat) (a b : MA) : MV := fun env => (a env).bind fun r => (b r.2).bind fun z => if (gP perm (r.1 ++ z.1)).length = nk then (F (gP perm (r.1 ++ z.1))).bind fun q => .ok (.ins x q, z.2) else .bad
theorem gP_succ {α : Type} (x : α) (xs : List α) : ∀ perm : List Nat, gP (perm.map (· + 1)) (x :: xs) = gP perm xs
  | [] => rfl
  | i :: perm => by
    have ih := gP_succ x xs perm
    unfold gP at ih ⊢
    rw [List.map_cons, List.filterMap_cons, List.filterMap_cons, List.getElem?_cons_succ, ih]
section
variable {X : Cx} {pi : Pin} {W : WX} {ms : List Md} {m : MV} {a b : MA} {e : Expr} {es : List Expr} {kws : List Keyword} {p pos kpos : Pos} {nm : Option Str} {x : Str} {n nk : Nat} {ks : List Str} {perm : List Nat} {F : List PV → R (List (Str × PV))}
/-- a new instance, from frozen values -/
theorem spI_of {C : Addr} {B : Bs} {I J H : Hp} {ρ : Own} {σ : L2.St} {env ps : List PV} {vs : List V} {Q : VK} (hm : X.mg x = some (.ref C)) (hL : ms.length = X.N.length) (s : Stt X.K X.mg pi B ms env J H ρ σ) (r : RepL X.K X.mg J ps vs) (hn : ps.length = nk) (sj : Same I J)
    (h : ((F ps).bind fun z => R.ok (PV.ins x z, env)).sat (fun z => ∀ v J H2 ρ2 τ, Same I J → Stt X.K X.mg pi B ms z.2 J H2 ρ2 σ → Tau B J H2 ρ2 τ → Ent X.K X.mg J H2 τ 0 .fz z.1 (some v) → Q v H2) (Fly X pi W B I σ))
    (a dx : Addr) (n1 : H a = none) (n2 : H dx = none) (n3 : dx ≠ a) : SpI X.K X.mg C nk F (.ref a :: vs) (upd (upd H dx (.own a)) a (.ins C dx [])) (fun v H2 => v = .non ∧ Q (.ref a) H2) (WE W σ) := by
  have keep : ∀ b o, H b = some o → upd (upd H dx (.own a)) a (.ins C dx []) b = some o := fun b o e => by
    rw [upd_ne (ne_of_none e n1), upd_ne (ne_of_none e n2)]; exact e
  have back : ∀ b, upd (upd H dx (.own a)) a (.ins C dx []) b = none → H b = none := fun b e => by
    cases q : H b with
    | none => rfl
    | some o => rw [keep b o q] at e; cases e
  have nJ : J a = none := by
    cases q : J a with
    | none => rfl
    | some o => have := s.sub a o q; rw [n1] at this; cases this
  refine ⟨a, dx, vs, J, ps, rfl, by rw [r.len]; exact hn, nJ, fun b o e => keep b o (s.sub b o e), upd_same, r, R.sat_mono (R.sat_bind h) (fun fs hz J2 G ρ2 ws sl sb rf => ⟨rfl, ?_⟩) fun C2 fs fl cc d J2 H2 ρ2 h1 sl sb h2 => ?_⟩
  · have hw : upd (upd H dx (.own a)) a (.ins C dx []) a = some (.ins C dx []) := upd_same
    have nJ2 : J2 a = none := sb.noI hw nJ
    have kG : ∀ b o, H b = some o → G b = some o := fun b o e => sb.fr b o (keep b o e) rfl
    have g : Grow J (upd J2 a (.ins C dx ws)) H (upd G a (.ins C dx ws)) := {
      i := fun b o e => by rw [upd_ne (fun z => by rw [z, nJ] at e; cases e)]; exact sl b o e
      h := fun b o e => by rw [upd_ne (ne_of_none e n1)]; exact kG b o e
      s := fun b o e => by
        by_cases z : b = a
        · subst z; rw [upd_same] at e ⊢; exact e
        · rw [upd_ne z] at e ⊢; exact sb.sub b o e
      f := fun b o e => by
        by_cases z : b = a
        · subst z; exact .inr n1
        · rw [upd_ne z] at e
          rcases sb.ft b o e with q | q
          · exact .inl q
          · exact .inr (back b q) }
    have s3 := s.grow g
    have sJ : Same J2 (upd J2 a (.ins C dx ws)) := fun b o e => by rw [upd_ne (fun z => by rw [z, nJ2] at e; cases e)]; exact e
    refine (show ∀ v J H2 ρ2 τ, Same I J → Stt X.K X.mg pi B ms env J H2 ρ2 σ → Tau B J H2 ρ2 τ → Ent X.K X.mg J H2 τ 0 .fz (.ins x fs) (some v) → Q v H2 from hz) (.ref a) _ _ ρ (fun _ => none) (sj.trans g.i) s3 .none (ent_fz.mpr ?_)
    unfold Rep
    exact ⟨a, C, dx, ws, rfl, hm, upd_same, rf.mono sJ⟩
  · have g : Grow J J2 H H2 := ⟨sl, fun b o e => sb.fr b o (keep b o e) rfl, sb.sub, fun b o e => by
      rcases sb.ft b o e with q | q
      · exact .inl q
      · exact .inr (back b q)⟩
    have s3 := s.grow g
    exact fl cc d J2 H2 ρ h1 (sj.trans sl) s3.sb (h2.back fun b e => s.sb.al b (back b e)) (by rw [← hL]; exact s3.heldOk)
theorem make_core {C : Addr} {B : Bs} {I H : Hp} {ρ : Own} {σ : L2.St} {env : List PV} {Q : VK} (hm : X.mg x = some (.ref C)) (hL : ms.length = X.N.length) (la : ∀ env r, a env = .ok r → r.1.length = n) (lb : ∀ env r, b env = .ok r → r.1.length = ks.length) (s : Stt X.K X.mg pi B ms env I H ρ σ)
    (h : (mMake x F nk perm a b env).sat (fun z => ∀ v J H2 ρ2 τ, Same I J → Stt X.K X.mg pi B ms z.2 J H2 ρ2 σ → Tau B J H2 ρ2 τ → Ent X.K X.mg J H2 τ 0 .fz z.1 (some v) → Q v H2) (Fly X pi W B I σ)) :
    tA X pi W ms a σ H fun vs H1 => tA X pi W ms b σ H1 fun zs H2 => vs.length = n ∧ zs.length = ks.length ∧ ∀ o dx, H2 o = none → H2 dx = none → dx ≠ o → SpI X.K X.mg C nk F (gP (0 :: perm.map (· + 1)) ((.ref o :: vs) ++ zs)) (upd (upd H2 dx (.own o)) o (.ins C dx [])) (fun v H3 => v = .non ∧ Q (.ref o) H3) (WE W σ) := by
  refine ⟨B, I, ρ, env, s, ?_⟩
  unfold mMake at h
  cases w : a env with
  | bad => rw [w] at h; exact h.elim
  | exc C fs => rw [w] at h; exact h
  | ok r =>
    rw [w] at h
    intro vs J H1 ρ1 sj s1 ra
    refine ⟨B, J, ρ1, r.2, s1, ?_⟩
    dsimp only [R.bind_ok] at h
    cases w2 : b r.2 with
    | bad => rw [w2] at h; exact h.elim
    | exc C fs => rw [w2] at h; exact Fly.mono h sj
    | ok z =>
      rw [w2] at h
      dsimp only [R.bind_ok] at h
      intro zs L H2 ρ2 sl s2 rb
      have ra2 := ra.mono sl
      refine ⟨by rw [ra.len]; exact la _ _ w, by rw [rb.len]; exact lb _ _ w2, fun o dx n1 n2 n3 => ?_⟩
      by_cases hl : (gP perm (r.1 ++ z.1)).length = nk
      · rw [if_pos hl] at h
        have q := spI_of (F := F) hm hL s2 (gP_rep (ra2.app rb) perm) hl (sj.trans sl) h o dx n1 n2 n3
        have e : gP (0 :: perm.map (· + 1)) ((V.ref o :: vs) ++ zs) = .ref o :: gP perm (vs ++ zs) := by
          show List.filterMap _ _ = _
          rw [List.filterMap_cons]
          exact congrArg _ (gP_succ _ _ perm)
        rw [e]; exact q
      · rw [if_neg hl] at h; exact h.elim
/-- C(k = v, ..) -/
theorem SE.makeK0 (D : MkOk X x 0 nk ks perm F) (tk : Takes X W) (hb : SK X pi W ms kws b) (lb : ∀ env r, b env = .ok r → r.1.length = ks.length) (hL : ms.length = X.N.length := by rfl) (hg : Gl X x := by rfl)
    (hall : (backToKw pos (keywordEach kws X.env)).all (·.1.isSome) = true := by rfl) (hks : (backToKw pos (keywordEach kws X.env)).filterMap (·.1) = ks := by rfl) (hdb : (x == ("__debug__" : Str)) = false := by decide)
    (hpl : ((backTo pos (starEach [] X.env)).any (·.1) || (backToKw pos (keywordEach kws X.env)).any (·.1.isNone)) = false := by rfl) : SE X pi W ms (.Call (.Name x p) [] kws pos) .fz (mMake x F nk perm mNil b) := by
  obtain ⟨C, f, k, fd, ps, M, Fk, hr, hm, hkb⟩ := D.ex
  refine ⟨⟨fun pins s σ H Q I h => ?_⟩⟩
  refine wpAny_Call_Name_kw (ld_glob I hg hm ?_ hdb)
  obtain ⟨B, I0, ρ, env, st, h⟩ := h
  have c := make_core (a := mNil) hm hL (fun _ _ w => by cases w; rfl) lb st h
  obtain ⟨B1, I1, ρ1, env1, st1, h1⟩ := c
  have c2 := (show ∀ vs J H2 ρ2, Same I1 J → Stt X.K X.mg pi B1 ms env1 J H2 ρ2 σ → RepL X.K X.mg J [] vs → _ from h1) [] I1 H ρ1 (.refl _) st1 .nil
  refine PySem.W.callWith_KW0 (h₀ := X.base) I.ok.mod.kin M.kp hall ?_ hpl
  refine thn (hb.pk.run pos pins s σ H _ I c2) fun ws s2 ⟨zs, H2, I2, rz, l1, l2, q2⟩ => ⟨I2.kIn, ?_⟩
  rw [hks]
  exact run_mkS (E := WE W) (us := []) M Fk hr hkb.kbn (passAt tk σ) I2 .nil rz l1 l2 q2 fun _ _ => passAt tk σ
/-- C(e, .., k = v, ..) -/
theorem SE.makeK (D : MkOk X x n nk ks perm F) (tk : Takes X W) (ha : SA X pi W ms (e :: es) a) (hb : SK X pi W ms kws b) (la : ∀ env r, a env = .ok r → r.1.length = n) (lb : ∀ env r, b env = .ok r → r.1.length = ks.length) (hL : ms.length = X.N.length := by rfl) (hg : Gl X x := by rfl)
    (hall : (backToKw pos (keywordEach kws X.env)).all (·.1.isSome) = true := by rfl) (hks : (backToKw pos (keywordEach kws X.env)).filterMap (·.1) = ks := by rfl) (hdb : (x == ("__debug__" : Str)) = false := by decide)
    (he : starEach (e :: es) X.env = (false, eval e X.env) :: starEach es X.env := by rfl)
    (hpl : ((backTo pos (starEach (e :: es) X.env)).any (·.1) || (backToKw pos (keywordEach kws X.env)).any (·.1.isNone)) = false := by rfl) : SE X pi W ms (.Call (.Name x p) (e :: es) kws pos) .fz (mMake x F nk perm a b) := by
  obtain ⟨C, f, k, fd, ps, M, Fk, hr, hm, hkb⟩ := D.ex
  refine ⟨⟨fun pins s σ H Q I h => ?_⟩⟩
  refine wpAny_Call_Name_kw (ld_glob I hg hm ?_ hdb)
  obtain ⟨B, I0, ρ, env, st, h⟩ := h
  have c := make_core hm hL la lb st h
  refine PySem.W.callWith_KW (h₀ := X.base) I.ok.mod.kin M.kp hall (thn (ha.pa.run pos pins s σ H _ I c) fun us s1 ⟨vs, H1, I1, r, q⟩ => ?_) hpl he
  refine thn (hb.pk.run pos pins s1 σ H1 _ I1 q) fun ws s2 ⟨zs, H2, I2, rz, l1, l2, q2⟩ => ⟨I2.kIn, ?_⟩
  rw [hks]
  exact run_mkS (E := WE W) M Fk hr hkb.kbn (passAt tk σ) I2 r rz l1 l2 q2 fun _ _ => passAt tk σ
/-- e.f of such an instance -/
def gFld (x f : Str) : PV → Option PV
  | .ins C fs => if C = x then fs.lookup f else none
  | _ => none
theorem SE.fld {C : Addr} {f : Str} (hm : X.mg x = some (.ref C)) (c : Cls X.K C) (no : NoAttr X.K C f) (h : SE X pi W ms e .fz m) (hb : attributeBase e f X.env (eval e X.env) = eval e X.env := by rfl) : SE X pi W ms (.Attribute e f pos) .fz (mUn (gFld x f) m) := by
  refine ⟨PEimp (pe_fld h.pe hb) fun σ H Q ⟨B, I, ρ, env, s, h⟩ => ?_⟩
  refine ⟨B, I, ρ, env, s, R.sat_mono (R.sat_bind h) (fun z hz v J H2 ρ2 τ sj s2 _ en => ?_) fun _ _ q => q⟩
  have r := ent_fz.mp en
  cases w : gFld x f z.1 with
  | none => rw [w] at hz; exact hz.elim
  | some q =>
    rw [w] at hz
    obtain ⟨zp, ze⟩ := z
    cases zp with
    | ins C2 fs =>
      unfold gFld at w
      by_cases e2 : C2 = x
      · dsimp only at w
        rw [if_pos e2] at w
        subst e2
        dsimp only at r
        unfold Rep at r
        obtain ⟨ad, c2, dx, ws, rfl, hm2, ha, rf⟩ := r
        rw [hm] at hm2
        cases hm2
        obtain ⟨u, g1, g2⟩ := repF_lookup rf f q w
        exact ⟨ad, C, dx, ws, u, rfl, s2.sub _ _ ha, c, no, g1, (show ∀ v J H2 ρ2 τ, Same I J → Stt X.K X.mg pi B ms ze J H2 ρ2 σ → Tau B J H2 ρ2 τ → Ent X.K X.mg J H2 τ 0 .fz q (some v) → Q v H2 from hz) u J H2 ρ2 (fun _ => none) sj s2 .none (ent_fz.mpr g2)⟩
      · dsimp only at w
        rw [if_neg e2] at w; cases w
    | _ => cases w
end
end Cq

/-! text Cq18 -/
set_option Elab.async false
set_option linter.all false
set_option maxRecDepth 100000
/-! Cq, part 18: an expression that only reads the frame's own lists. -/
namespace Cq
open PySem PySem.Spec L2

def fzAll : List Md → List Md
  | [] => []
  | m :: ms => (if m = .un then .un else .fz) :: fzAll ms
theorem fzAll_len : ∀ ms : List Md, (fzAll ms).length = ms.length
  | [] => rfl
  | m :: ms => by simp [fzAll, fzAll_len ms]
theorem fzAll_get : ∀ {ms : List Md} {i : Nat} {m : Md}, (fzAll ms)[i]? = some m → m = .un ∨ ∃ m0, ms[i]? = some m0 ∧ m0 ≠ .un ∧ m = .fz
  | [], i, m, h => by simp [fzAll] at h
  | q :: ms, 0, m, h => by
    simp only [fzAll, List.getElem?_cons_zero, Option.some.injEq] at h
    by_cases w : q = .un
    · rw [if_pos w] at h; exact .inl h.symm
    · rw [if_neg w] at h; exact .inr ⟨q, rfl, w, h.symm⟩
  | q :: ms, i + 1, m, h => by
    have := fzAll_get (ms := ms) (i := i) (m := m) (by simpa [fzAll] using h)
    simpa using this
mutual
def nolst : PV → Bool
  | .tup ps => nolstL ps
  | .lst _ => false
  | .scr _ => false
  | .dic ks => nolstD ks
  | .ins _ fs => nolstF fs
  | _ => true
def nolstL : List PV → Bool
  | [] => true
  | p :: ps => nolst p && nolstL ps
def nolstD : List (Key × PV) → Bool
  | [] => true
  | (_, p) :: ps => nolst p && nolstD ps
def nolstF : List (Str × PV) → Bool
  | [] => true
  | (_, p) :: ps => nolst p && nolstF ps
end
section
variable {K : PySem.W.Frag} {mg : Str → Option Value} {I J H : Hp}
mutual
theorem Rep.thin (k : ∀ a o, I a = some o → (∀ vs, o ≠ .lst vs) → J a = some o) : ∀ {p : PV} {v : V}, nolst p = true → Rep K mg I p v → Rep K mg J p v
  | .non, _, _, r => by unfold Rep at r ⊢; exact r
  | .bl _, _, _, r => by unfold Rep at r ⊢; exact r
  | .int _, _, _, r => by unfold Rep at r ⊢; exact r
  | .str _, _, _, r => by unfold Rep at r ⊢; exact r
  | .ty _, _, _, r => by unfold Rep at r ⊢; exact r
  | .tup ps, _, n, r => by
    unfold Rep at r ⊢
    unfold nolst at n
    obtain ⟨a, vs, ev, s, z⟩ := r
    refine ⟨a, vs, ev, ?_, RepL.thin k n z⟩
    rcases s with (h | ⟨o, h⟩) | h
    · exact .inl (.inl (k _ _ h fun _ q => by cases q))
    · exact .inl (.inr ⟨o, k _ _ h fun _ q => by cases q⟩)
    · exact .inr h
  | .lst ps, _, n, r => by simp [nolst] at n
  | .scr ns, _, n, r => by simp [nolst] at n
  | .dic ks, _, n, r => by
    unfold Rep at r ⊢
    unfold nolst at n
    obtain ⟨a, ws, ev, s, z⟩ := r
    exact ⟨a, ws, ev, k _ _ s (fun _ q => by cases q), RepD.thin k n z⟩
  | .ins C fs, _, n, r => by
    unfold Rep at r ⊢
    unfold nolst at n
    obtain ⟨a, c, dx, ws, ev, hc, s, z⟩ := r
    exact ⟨a, c, dx, ws, ev, hc, k _ _ s (fun _ q => by cases q), RepF.thin k n z⟩
theorem RepL.thin (k : ∀ a o, I a = some o → (∀ vs, o ≠ .lst vs) → J a = some o) : ∀ {ps : List PV} {vs : List V}, nolstL ps = true → RepL K mg I ps vs → RepL K mg J ps vs
  | [], _, _, r => by unfold RepL at r ⊢; exact r
  | p :: ps, _, n, r => by
    unfold RepL at r ⊢
    unfold nolstL at n
    rw [Bool.and_eq_true] at n
    obtain ⟨v, t, ev, a, b⟩ := r
    exact ⟨v, t, ev, Rep.thin k n.1 a, RepL.thin k n.2 b⟩
theorem RepD.thin (k : ∀ a o, I a = some o → (∀ vs, o ≠ .lst vs) → J a = some o) : ∀ {ps : List (Key × PV)} {vs : List (Key × V)}, nolstD ps = true → RepD K mg I ps vs → RepD K mg J ps vs
  | [], _, _, r => by unfold RepD at r ⊢; exact r
  | (q, p) :: ps, _, n, r => by
    unfold RepD at r ⊢
    unfold nolstD at n
    rw [Bool.and_eq_true] at n
    obtain ⟨v, t, ev, a, b⟩ := r
    exact ⟨v, t, ev, Rep.thin k n.1 a, RepD.thin k n.2 b⟩
theorem RepF.thin (k : ∀ a o, I a = some o → (∀ vs, o ≠ .lst vs) → J a = some o) : ∀ {ps : List (Str × PV)} {vs : List (Str × V)}, nolstF ps = true → RepF K mg I ps vs → RepF K mg J ps vs
  | [], _, _, r => by unfold RepF at r ⊢; exact r
  | (q, p) :: ps, _, n, r => by
    unfold RepF at r ⊢
    unfold nolstF at n
    rw [Bool.and_eq_true] at n
    obtain ⟨v, t, ev, a, b⟩ := r
    exact ⟨v, t, ev, Rep.thin k n.1 a, RepF.thin k n.2 b⟩
end
end
section
variable {K : PySem.W.Frag} {mg : Str → Option Value} {I J H H2 : Hp} {ρ ρ2 τ : Own} {pi : Pin} {B : Bs} {ms : List Md} {env env2 : List PV} {σ : L2.St}
/-- all own lists as frozen ones -/
def viewI (I H : Hp) (ρ : Own) : Hp := frzH I H fun a => (ρ a).isSome
def viewB (B : Bs) (I H : Hp) (ρ : Own) : Bs := ⟨viewI I H ρ, H, fun _ => none, B.vs, [], [], []⟩
theorem Stt.viewed (s : Stt K mg pi B ms env I H ρ σ) : Stt K mg pi (viewB B I H ρ) (fzAll ms) env (viewI I H ρ) H (fun _ => none) σ := by
  have k1 : Same I (viewI I H ρ) := frz_same s.sub _
  refine ⟨⟨frz_sub s.sub _, .refl _, fun a o e _ => e, fun a o e => .inl e, fun a t e => (by cases e), fun a e => e, s.sb.pr, fun a t e => (by cases e), s.sb.pxm k1⟩, by rw [fzAll_len]; exact s.ls, by rw [fzAll_len]; exact s.le, rfl, rfl, fun i m p v h1 h2 h3 => ?_⟩
  have h1' : (fzAll ms)[i]? = some m := by simpa [viewB] using h1
  have h2' : env[i]? = some p := by simpa [viewB] using h2
  have h3' : σ[i]? = some v := by simpa [viewB] using h3
  rcases fzAll_get h1' with z | ⟨m0, z1, z2, z3⟩
  · subst z; unfold Ent; trivial
  · subst z3
    obtain ⟨x, q1, q2⟩ := (s.en i m0 p v z1 h2' h3').froz (J := viewI I H ρ) k1 (fun b r vs g1 g2 => by unfold viewI; rw [frz_t (by show (ρ b).isSome = true; rw [g1]; rfl)]; exact g2) z2
    unfold Ent
    exact ⟨x, q1, q2⟩
def thinI (ρ : Own) (J : Hp) : Hp := fun b => if (ρ b).isSome = true then none else J b
theorem thin_k (s : Stt K mg pi B ms env I H ρ σ) (s2 : Sb pi (viewB B I H ρ) J H2 ρ2 σ) : ∀ a o, J a = some o → (∀ vs, o ≠ .lst vs) → thinI ρ J a = some o := fun a o e n => by
  unfold thinI
  cases w : ρ a with
  | none => simpa using e
  | some t =>
    obtain ⟨_, _, vs, q⟩ := s.sb.ro a t w
    have q2 := s2.fr a _ (show (viewB B I H ρ).H a = some _ from q) rfl
    rw [s2.sub a o e] at q2
    cases q2
    exact absurd rfl (n vs)
theorem thin_grow (s : Stt K mg pi B ms env I H ρ σ) (s2 : Sb pi (viewB B I H ρ) J H2 ρ2 σ) : Grow I (thinI ρ J) H H2 := by
  have nI : ∀ a o, I a = some o → ρ a = none := fun a o e => by
    cases w : ρ a with
    | none => rfl
    | some t =>
      have := (s.sb.ro a t w).2.1
      rw [e] at this; cases this
  refine ⟨fun b o e => ?_, fun b o e => s2.fr b o e rfl, fun b o e => ?_, fun b o e => ?_⟩
  · unfold thinI
    rw [nI b o e]
    exact s2.bi b o (show viewI I H ρ b = some o from frz_same s.sub _ b o e)
  · unfold thinI at e
    by_cases z : (ρ b).isSome = true
    · rw [if_pos z] at e; cases e
    · rw [if_neg z] at e; exact s2.sub b o e
  · unfold thinI at e
    by_cases z : (ρ b).isSome = true
    · rw [if_pos z] at e; cases e
    · rw [if_neg z] at e
      rcases s2.ft b o e with q | q
      · have q' : viewI I H ρ b = some o := q
        unfold viewI at q'
        rw [frz_f (by simpa using z)] at q'
        exact .inl q'
      · exact .inr q
theorem thin_tau (s : Stt K mg pi B ms env I H ρ σ) (s2 : Sb pi (viewB B I H ρ) J H2 ρ2 σ) (t : Tau (viewB B I H ρ) J H2 ρ2 τ) : Tau B (thinI ρ J) H2 ρ τ := fun a u h => by
  obtain ⟨h1, h2, h3, h4, h5⟩ := t a u h
  have h4' : H a = none := h4
  have hr : ρ a = none := by
    cases w : ρ a with
    | none => rfl
    | some t =>
      obtain ⟨_, _, vs, q⟩ := s.sb.ro a t w
      rw [h4'] at q; cases q
  refine ⟨h1, hr, ?_, s.sb.al a h4', h5⟩
  unfold thinI
  rw [hr]
  exact h3
end
def mView (m : MV) : MV := fun env => (m env).nx.bind fun r => if nolst r.1 = true then .ok (r.1, env) else .bad
def mViewO (m : MV) : MV := fun env => (m env).nx.bind fun r => match r.1 with
  | .lst ps => if nolstL ps = true then .ok (.lst ps, env) else .bad
  | _ => .bad
def mViewB (m : MB) : MB := fun env => (m env).nx.bind fun r => .ok (r.1, env)
section
variable {X : Cx} {pi : Pin} {W : WX} {ms : List Md} {e : Expr} {m : MV} {b : MB}
theorem nx_bind {α β : Type} {r : R α} {k : α → R β} {F : β → Prop} {G : Str → List (Str × PV) → Prop} {G' : Str → List (Str × PV) → Prop} (h : (r.nx.bind k).sat F G) : r.sat (fun a => (k a).sat F G) G' := by
  cases r with
  | ok a => exact h
  | exc C fs => exact h.elim
  | bad => exact h.elim
theorem SE.view (a : SE X pi W0 (fzAll ms) e .fz m) : SE X pi W ms e .fz (mView m) := by
  refine ⟨PEimp a.pe fun σ H Q ⟨B, I, ρ, env, s, h⟩ => ?_⟩
  refine ⟨viewB B I H ρ, viewI I H ρ, fun _ => none, env, s.viewed, R.sat_mono (nx_bind (G' := Fly X pi W0 (viewB B I H ρ) (viewI I H ρ) σ) h) (fun r hz v J H2 ρ2 τ sj s2 t2 en => ?_) fun _ _ z => z⟩
  by_cases n : nolst r.1 = true
  · rw [if_pos n] at hz
    have g := thin_grow s s2.sb
    exact (show ∀ v J H2 ρ2 τ, Same I J → Stt X.K X.mg pi B ms env J H2 ρ2 σ → Tau B J H2 ρ2 τ → Ent X.K X.mg J H2 τ 0 .fz r.1 (some v) → Q v H2 from hz) v (thinI ρ J) H2 ρ (fun _ => none) g.i (s.grow g) .none (ent_fz.mpr ((ent_fz.mp en).thin (thin_k s s2.sb) n))
  · rw [if_neg n] at hz; exact hz.elim
theorem SE.viewO (a : SE X pi W0 (fzAll ms) e .ow m) : SE X pi W ms e .ow (mViewO m) := by
  refine ⟨PEimp a.pe fun σ H Q ⟨B, I, ρ, env, s, h⟩ => ?_⟩
  refine ⟨viewB B I H ρ, viewI I H ρ, fun _ => none, env, s.viewed, R.sat_mono (nx_bind (G' := Fly X pi W0 (viewB B I H ρ) (viewI I H ρ) σ) h) (fun r hz v J H2 ρ2 τ sj s2 t2 en => ?_) fun _ _ z => z⟩
  unfold Ent at en
  obtain ⟨ad, ps, vs, q1, q2, q3, q4, q5⟩ := en
  rw [q2] at hz
  dsimp only at hz
  by_cases n : nolstL ps = true
  · rw [if_pos n] at hz
    have g := thin_grow s s2.sb
    refine (show ∀ v J H2 ρ2 τ, Same I J → Stt X.K X.mg pi B ms env J H2 ρ2 σ → Tau B J H2 ρ2 τ → Ent X.K X.mg J H2 τ 0 .ow (.lst ps) (some v) → Q v H2 from hz) v (thinI ρ J) H2 ρ τ g.i (s.grow g) (thin_tau s s2.sb t2) ?_
    unfold Ent
    exact ⟨ad, ps, vs, q1, rfl, q3, q4, q5.thin (thin_k s s2.sb) n⟩
  · rw [if_neg n] at hz; exact hz.elim
theorem ST.view (a : ST X pi W0 (fzAll ms) e b) : ST X pi W ms e (mViewB b) := by
  refine ⟨PTimp a.pt fun σ H Q ⟨B, I, ρ, env, s, h⟩ => ?_⟩
  refine ⟨viewB B I H ρ, viewI I H ρ, fun _ => none, env, s.viewed, R.sat_mono (nx_bind (G' := Fly X pi W0 (viewB B I H ρ) (viewI I H ρ) σ) h) (fun r hz J H2 ρ2 sj s2 => ?_) fun _ _ z => z⟩
  have g := thin_grow s s2.sb
  exact (show ∀ J H2 ρ2, Same I J → Stt X.K X.mg pi B ms env J H2 ρ2 σ → Q r.1 H2 from hz) (thinI ρ J) H2 ρ g.i (s.grow g)
end
end Cq

/-! text Cq19 -/
set_option Elab.async false
set_option linter.all false
set_option maxRecDepth 100000
/-! Cq, part 19: enumerate over lists and tuples, zip. -/
namespace PySem
open Sem (wp)
set_option maxHeartbeats 1000000 in
theorem cq_enum1 {v : Value} {o : Obj} {H : Heap → Prop} (B : Begins v o H) :
    Meets (Builtin.«enumerate.__new__» ⟨[.type "enumerate", v], []⟩) (fun _ R s => H s.heap ∧
      R (.ok (.ret (.ref (s.heap.push o).objs.size))) { s with heap := (s.heap.push o).push { cls := .type "enumerate", data := .fields #[.none, .bool false, .ref s.heap.objs.size, rawInt 0, .none, .none] } }) :=
  .of_wp fun prog w A R s h => by
    obtain ⟨hp, g, d, tk, os⟩ := s; obtain ⟨h1, h⟩ := h
    have hsub := sub_enumerate
    have q1 : ∀ {A' : Around} {E : Value → Shared → Prop} {Q : Value → Shared → Prop}, Q (.ref hp.objs.size) ⟨hp.push o, g, d, tk, os⟩ → wpAny (model prog w) A' (pyIter v) Q E ⟨hp, g, d, tk, os⟩ :=
      fun q => B.iter prog w _ _ ⟨hp, g, d, tk, os⟩ _ h1 q
    wp_walk using q1
    refine wpAny_stack_any fun st => wpAny_pure ?_
    split
    · rename_i c _ _ _ _ _
      cases (c == Value.type "enumerate")
      · wp_walk using q1
        exact ⟨_, rfl, h⟩
      · wp_walk using q1
        exact ⟨_, rfl, h⟩
    · wp_walk using q1
      exact ⟨_, rfl, h⟩
theorem cq_enum1_call {prog : Program} {w : World} {A : Around} {E : Value → Shared → Prop} {s : Shared} {v : Value} {o : Obj} {H : Heap → Prop} {Q : Value → Shared → Prop} (B : Begins v o H) (h1 : H s.heap)
    (h : ∀ h', IsEnum h' (s.heap.objs.size + 1) s.heap.objs.size 0 .none → h'.get? s.heap.objs.size = some o → h'.objs.size = s.heap.objs.size + 2 →
      (∀ b o, s.heap.get? b = some o → h'.get? b = some o) → Q (.ref (s.heap.objs.size + 1)) { s with heap := h' }) :
    wpAny (model prog w) A (call (.type "enumerate") [v]) Q E s := by
  refine callType_new F.called_enumerate (by decide) (F.typeCall_enumerate_1 _) (F.newCall_enumerate_1 _) (fun obj => F.args_object_init_2 obj _) F.entry_enumerate_new
    (cq_enum1 B) ⟨h1, ?_⟩
  have hz : (s.heap.push o).objs.size = s.heap.objs.size + 1 := Heap.size_push ..
  show _ ∧ _
  rw [hz]
  have he : IsEnum ((s.heap.push o).push { cls := .type "enumerate", data := .fields #[.none, .bool false, .ref s.heap.objs.size, rawInt 0, .none, .none] }) (s.heap.objs.size + 1) s.heap.objs.size 0 .none := by
    have := Heap.get?_push_size (s.heap.push o) (o := { cls := .type "enumerate", data := .fields #[.none, .bool false, .ref s.heap.objs.size, rawInt 0, .none, .none] }) rfl
    rw [hz] at this; exact this
  refine ⟨⟨_, he, rfl⟩, h _ he (Heap.get?_push_of_some _ (Heap.get?_push_size _ B.free)) (by rw [Heap.size_push, hz]) fun b o x => Heap.get?_push_of_some _ (Heap.get?_push_of_some _ x)⟩
end PySem
namespace Cq
open PySem PySem.Spec L2 PyProof.Rows
/-- the tuple at a at each turn, each item in a new pair -/
def IteT (K : PySem.W.Frag) (a : Addr) : It :=
  ⟨fun i H => ∃ (xs : List V) (x : V), SqT K H a xs ∧ xs[i]? = some x, fun i H v H' => ∃ T x, v = .ref T ∧ H T = none ∧ H' = upd H T (.tup [.int (i : Nat), x]) ∧ ∀ xs, SqT K H a xs → xs[i]? = some x, fun i H => ∃ xs : List V, SqT K H a xs ∧ xs.length = i⟩
theorem turn_enumT {P : Program} {w : World} {K : PySem.W.Frag} {elts : List Expr} {kk : Nat} {tpos : Pos} (a e it : Addr) :
    Turn P w K (.Tuple elts kk tpos) (IteT K a) [e, it] e (fun i h => (∃ old, IsEnum h e it ((i : Nat) : Int) old) ∧ h.IsTupleIter it a i ∧ e ≠ it) where
  mem := by simp
  obj := fun i h st b hb => by
    obtain ⟨⟨old, he⟩, ⟨o, ho, hc, hd⟩, _⟩ := st
    have e' : b = e ∨ b = it := by simpa using hb
    rcases e' with z | z
    · rw [z]; exact ⟨_, he, fun v q => nomatch q⟩
    · rw [z]; exact ⟨o, ho, fun v q => by rw [hd] at q; cases q⟩
  keep := fun i h h' st k => let ⟨⟨old, he⟩, hi, hne⟩ := st; ⟨⟨old, k e (by simp) _ he⟩, hi.at fun o q => k it (by simp) o q, hne⟩
  item := by
    intro X hP hw hK hc i pins s σ H E I hf st hg
    subst hP hw hK
    obtain ⟨⟨old, he⟩, hit, hne⟩ := st
    obtain ⟨xs, x, hq, hx⟩ := hg
    obtain ⟨its, rv, p, hz⟩ := I.tuple hq
    obtain ⟨u, hu, ru⟩ := rv.get hx
    have hel : e < s.heap.objs.size := Heap.lt_size he
    have hil : it < s.heap.objs.size := by obtain ⟨_, q, _⟩ := hit; exact Heap.lt_size q
    obtain ⟨ot, ht1, ht2, nt, ht3⟩ := id p
    have nae : a ≠ e := fun q => by rw [q] at ht1; rw [show s.heap.get? e = _ from he] at ht1; cases ht1; cases ht3
    have nai : a ≠ it := fun q => by obtain ⟨oi, g1, g2, g3⟩ := id hit; rw [q] at ht1; rw [g1] at ht1; cases ht1; rw [g3] at ht3; cases ht3
    have D := Draws.tuple (prog := X.prog) (w := X.w) (A := X.A.in1) (I.ok.hd hc) it a nai its.toArray
    have hlt : i < its.toArray.size := by
      have := (List.getElem?_eq_some_iff.mp hu).1
      simpa using this
    refine wpAny_pyNext_enum_itemD D he ⟨hit, p⟩ hlt hne (by simp [hne, Ne.symm nae]) fun x2 h' tk hP ho hit' hT hsz hk => ?_
    have ex : x2 = u := by
      have hP' : its.toArray[i]? = some x2 := hP
      rw [List.getElem?_toArray, hu] at hP'
      exact (Option.some.inj hP').symm
    subst ex
    refine ⟨_, rfl, wpAny_letOwnedTupleGo_enum (s := { s with heap := h', toks := tk + 1 }) ho fun h'' he' sb => ?_⟩
    have hT2 : h''.get? s.heap.objs.size = some { cls := .type "tuple", data := .seq #[.int i tk, x2] } := (sb.2 _ (Nat.ne_of_gt hel)).trans hT
    have new : ObjOk X.prog X.w (upd H s.heap.objs.size (.tup [.int (i : Nat), x])) h'' s.heap.objs.size (.tup [.int (i : Nat), x]) :=
      ⟨by show 2 ≤ sizeLine; decide, [.int i tk, x2], .cons ⟨_, rfl⟩ (.cons ru .nil), ⟨_, hT2, rfl, _, rfl⟩⟩
    have I1 : Inv X pins σ (upd H s.heap.objs.size (.tup [.int (i : Nat), x])) { s with heap := h'', toks := tk + 1 } :=
      I.turnedNew (ch := [e, it]) (fun b ob hb q => (sb.2 b (fun z => hb (by simp [z]))).trans (hk b ob (fun z => hb (by simp [z])) (fun z => hb (by simp [z])) q)) hf (Nat.le_refl _) new
    refine ⟨.ref s.heap.objs.size, _, I1, rfl, ⟨_, x, rfl, I.hok.fresh (Nat.le_refl _), rfl, fun ys hy => by rw [I.tuple_inj hy hq]; exact hx⟩, ⟨⟨x2, ?_⟩, hit'.1.at fun o q => (sb.2 it (Ne.symm hne)).trans q, hne⟩, fun b hb => ?_⟩
    · have e1 : ((i + 1 : Nat) : Int) = (i : Int) + 1 := by omega
      rw [e1]; exact he'
    · have hb' : b < s.heap.objs.size := by
        have e' : b = e ∨ b = it := by simpa using hb
        rcases e' with z | z
        · rw [z]; exact hel
        · rw [z]; exact hil
      rw [upd_ne (Nat.ne_of_lt hb')]
      exact (hf b hb).1
  done := by
    intro X hP hw hK hc i pins s σ H E I hf st hg
    subst hP hw hK
    obtain ⟨⟨old, he⟩, hit, hne⟩ := st
    obtain ⟨xs, hq, hx⟩ := hg
    obtain ⟨its, rv, p, hz⟩ := I.tuple hq
    obtain ⟨f0, f1, f2, f3, f4, f5⟩ := hf it (by simp)
    have hl := rv.length
    obtain ⟨ot, ht1, ht2, nt, ht3⟩ := id p
    have nai : a ≠ it := fun q => by obtain ⟨oi, g1, g2, g3⟩ := id hit; rw [q] at ht1; rw [g1] at ht1; cases ht1; rw [g3] at ht3; cases ht3
    have D := Draws.tuple (prog := X.prog) (w := X.w) (A := X.A.in1) (I.ok.hd hc) it a nai its.toArray
    have en : its.toArray.size = i := by simp; omega
    exact wpAny_pyNext_enum_endD D he ⟨by rw [en]; exact hit, p⟩ fun h' eb => ⟨rfl, I.turned (t' := s.toks) (fun b o hb q => eb b o hb q) f0 f1 f3 f4 f5⟩
  self := fun A i s Q E st h => let ⟨⟨_, he⟩, _⟩ := st; wpAny_pyIter_enum he h
def iEnumT (K : PySem.W.Frag) (ta : TA) : TI := fun σ H R => ta σ H fun vs H1 => ∃ a xs, vs = [.ref a] ∧ SqT K H1 a xs ∧ R (IteT K a) H1
theorem pi_enumT {X : Cx} {e : Expr} {ta : TA} {p pos tpos : Pos} {elts : List Expr} {kk : Nat} (hg : Gl X "enumerate") (hm : X.mg "enumerate" = none) (ha : PA X [e] ta) (hs : starEach [e] X.env = [(false, eval e X.env)] := by rfl) :
    PI X (.Tuple elts kk tpos) (.Call (.Name "enumerate" p) [e] [] pos) (iEnumT X.K ta) := by
  refine ⟨fun pins s σ H R I h => ?_⟩
  refine Call_ (ld_blt I hg hm boot_enumerate (PyProof.Rows.callWith_type1 (thn (ha.run pos pins s σ H _ I h) fun us s1 ⟨vs, H1, I1, r1, q1⟩ => ?_) hs rfl))
  obtain ⟨a, xs, ex, hq, q⟩ := q1
  subst ex
  cases r1 with
  | cons r rr =>
    cases rr
    cases r
    obtain ⟨its, rv, p', hz⟩ := I1.tuple hq
    refine cq_enum1_call (begins_tuple a its.toArray) p' fun h' he hit hsz hk => wpAny_pyIter_enum he ?_
    have I2 : Inv X pins σ H1 { s1 with heap := h' } := I1.kept (t' := s1.toks) hk
    refine ⟨s1.heap.objs.size + 1, [s1.heap.objs.size + 1, s1.heap.objs.size], _, _, H1, rfl, I2, turn_enumT a (s1.heap.objs.size + 1) s1.heap.objs.size, ⟨⟨.none, he⟩, ⟨_, hit, rfl, rfl⟩, Nat.succ_ne_self _⟩, fun b hb => ?_, q⟩
    have e' : b = s1.heap.objs.size + 1 ∨ b = s1.heap.objs.size := by simpa using hb
    have hle : s1.heap.objs.size ≤ b := by
      rcases e' with z | z
      · rw [z]; exact Nat.le_add_right _ _
      · rw [z]; exact Nat.le_refl _
    exact I1.fpOk hle (I1.hok.fresh hle)
end Cq
namespace Cq
open PySem PySem.Spec L2
/-- the items with their places -/
def enumP : Nat → List PV → List PV
  | _, [] => []
  | n, p :: ps => .tup [.int (n : Nat), p] :: enumP (n + 1) ps
theorem enumP_len : ∀ {n : Nat} {ps : List PV}, (enumP n ps).length = ps.length
  | _, [] => rfl
  | n, p :: ps => by simp [enumP, enumP_len (n := n + 1) (ps := ps)]
theorem enumP_get : ∀ {n : Nat} {ps : List PV} {i : Nat} {q : PV}, (enumP n ps)[i]? = some q → ∃ p, ps[i]? = some p ∧ q = .tup [.int ((n + i : Nat) : Int), p]
  | n, [], i, q, h => by simp [enumP] at h
  | n, p :: ps, 0, q, h => by simp [enumP] at h; exact ⟨p, rfl, h.symm⟩
  | n, p :: ps, i + 1, q, h => by
    obtain ⟨p2, h1, h2⟩ := enumP_get (n := n + 1) (ps := ps) (i := i) (q := q) (by simpa [enumP] using h)
    exact ⟨p2, by simpa using h1, by rw [h2, show n + 1 + i = n + (i + 1) from by omega]⟩
def gEnum (ps : List PV) : Option (List PV) := match ps with
  | [.lst qs] => some (enumP 0 qs)
  | [.scr ns] => some (enumP 0 (ns.map PV.int))
  | [.tup qs] => some (enumP 0 qs)
  | _ => none
section
variable {X : Cx} {pi : Pin} {W : WX} {ms : List Md} {e e1 e2 : Expr} {elts : List Expr} {kk : Nat} {ma : MA} {p1 pos tpos : Pos}
theorem PIor {tg e : Expr} {wi wi2 : TI} (a : PI X tg e wi) (b : PI X tg e wi2) : PI X tg e (fun σ H R => wi σ H R ∨ wi2 σ H R) := ⟨fun pn sh st hp q iv w => by
  rcases w with w | w
  · exact a.run pn sh st hp q iv w
  · exact b.run pn sh st hp q iv w⟩
theorem itPair {I H : Hp} {T : Addr} {p q : PV} {x y : V} (s : Same I H) (n : H T = none) (hp : Rep X.K X.mg I p x) (hq : Rep X.K X.mg I q y) : ∃ I2, Grow I I2 H (upd H T (.tup [x, y])) ∧ Rep X.K X.mg I2 (.tup [p, q]) (.ref T) := by
  have g := Grow.new (o := .tup [x, y]) s n
  exact ⟨_, g, rep_tup (SqT.of upd_same) (.cons (hp.mono g.i) (.cons (hq.mono g.i) .nil))⟩
theorem itEnumL {I0 : Hp} {a : Addr} {ps : List PV} {xs : List V} (h : SqL X.K I0 a xs) (r : RepL X.K X.mg I0 ps xs) : ItOk X (Ite X.K a) (enumP 0 ps) I0 := fun I H s1 s2 => by
  refine ⟨fun i p hp => ?_, ?_⟩
  · obtain ⟨q, g1, rfl⟩ := enumP_get hp
    obtain ⟨v, g2, g3⟩ := r.get g1
    refine ⟨⟨xs, v, (s1.trans s2).seq h, g2⟩, fun x H2 y => ?_⟩
    obtain ⟨T, x2, rfl, n, rfl, k⟩ := y
    have := k xs ((s1.trans s2).seq h)
    rw [g2] at this; cases this
    rw [Nat.zero_add]
    exact itPair s2 n rep_int (g3.mono s1)
  · rw [enumP_len]
    exact ⟨xs, (s1.trans s2).seq h, by rw [r.len]; exact Nat.le_refl _⟩
theorem itEnumT {I0 : Hp} {a : Addr} {ps : List PV} {xs : List V} (h : SqT X.K I0 a xs) (r : RepL X.K X.mg I0 ps xs) : ItOk X (IteT X.K a) (enumP 0 ps) I0 := fun I H s1 s2 => by
  refine ⟨fun i p hp => ?_, ?_⟩
  · obtain ⟨q, g1, rfl⟩ := enumP_get hp
    obtain ⟨v, g2, g3⟩ := r.get g1
    refine ⟨⟨xs, v, sqt_mono (s1.trans s2) h, g2⟩, fun x H2 y => ?_⟩
    obtain ⟨T, x2, rfl, n, rfl, k⟩ := y
    have := k xs (sqt_mono (s1.trans s2) h)
    rw [g2] at this; cases this
    rw [Nat.zero_add]
    exact itPair s2 n rep_int (g3.mono s1)
  · rw [enumP_len]
    exact ⟨xs, sqt_mono (s1.trans s2) h, r.len⟩
theorem SI.enum (a : SA X pi W ms [e] ma) (hm : X.mg "enumerate" = none) (hg : Gl X "enumerate" := by rfl) (hs : starEach [e] X.env = [(false, eval e X.env)] := by rfl) : SI X pi W ms (.Tuple elts kk tpos) (.Call (.Name "enumerate" p1) [e] [] pos) (mRg gEnum ma) := by
  refine ⟨PIimp (PIor (pi_enum hg hm a.pa hs) (pi_enumT hg hm a.pa hs)) fun σ H Q ⟨B, I, ρ, env, st, h⟩ => ?_⟩
  unfold mRg at h
  cases w : ma env with
  | bad => rw [w] at h; exact h.elim
  | exc C fs =>
    rw [w] at h
    exact .inl ⟨B, I, ρ, env, st, by rw [w]; exact h⟩
  | ok r =>
    rw [w] at h
    obtain ⟨ps, en⟩ := r
    dsimp only [R.bind_ok] at h
    cases w2 : gEnum ps with
    | none => rw [w2] at h; exact h.elim
    | some qs =>
      rw [w2] at h
      have h' : ∀ T J H2 ρ2, Same I J → Stt X.K X.mg pi B ms en J H2 ρ2 σ → ItOk X T qs J → Q T H2 := h
      unfold gEnum at w2
      split at w2
      · cases w2
        refine .inl ⟨B, I, ρ, env, st, ?_⟩
        rw [w]
        intro vs J H2 ρ2 sj s2 rl
        obtain ⟨v, rfl, h1⟩ := one_arg (H := H2) rl
        obtain ⟨a, ws, rfl, h2, h3⟩ := repL h1
        exact ⟨a, ws, rfl, SqL.of (s2.sub _ _ h2), h' _ J H2 ρ2 sj s2 (itEnumL (SqL.of h2) h3)⟩
      · cases w2
        refine .inl ⟨B, I, ρ, env, st, ?_⟩
        rw [w]
        intro vs J H2 ρ2 sj s2 rl
        obtain ⟨v, rfl, h1⟩ := one_arg (H := H2) rl
        unfold Rep at h1
        obtain ⟨a, rfl, h2⟩ := h1
        exact ⟨a, _, rfl, s2.sub.seq h2, h' _ J H2 ρ2 sj s2 (itEnumL h2 (.ints _))⟩
      · cases w2
        refine .inr ⟨B, I, ρ, env, st, ?_⟩
        rw [w]
        intro vs J H2 ρ2 sj s2 rl
        obtain ⟨v, rfl, h1⟩ := one_arg (H := H2) rl
        obtain ⟨a, ws, rfl, h2, h3⟩ := repT h1
        exact ⟨a, ws, rfl, sqt_mono s2.sub h2, h' _ J H2 ρ2 sj s2 (itEnumT h2 h3)⟩
      · cases w2
/-! ### zip -/
def zipP : List PV → List PV → List PV
  | p :: ps, q :: qs => .tup [p, q] :: zipP ps qs
  | _, _ => []
theorem zipP_get : ∀ {ps qs : List PV} {i : Nat} {r : PV}, (zipP ps qs)[i]? = some r → ∃ p q, ps[i]? = some p ∧ qs[i]? = some q ∧ r = .tup [p, q]
  | [], qs, i, r, h => by simp [zipP] at h
  | p :: ps, [], i, r, h => by simp [zipP] at h
  | p :: ps, q :: qs, 0, r, h => by simp [zipP] at h; exact ⟨p, q, rfl, rfl, h.symm⟩
  | p :: ps, q :: qs, i + 1, r, h => by simpa using zipP_get (ps := ps) (qs := qs) (i := i) (r := r) (by simpa [zipP] using h)
theorem zipP_len : ∀ {ps qs : List PV}, ps.length ≤ (zipP ps qs).length ∨ qs.length ≤ (zipP ps qs).length
  | [], qs => .inl (Nat.le_refl _)
  | p :: ps, [] => .inr (Nat.zero_le _)
  | p :: ps, q :: qs => by
    simp only [zipP, List.length_cons]
    rcases zipP_len (ps := ps) (qs := qs) with h | h
    · exact .inl (by omega)
    · exact .inr (by omega)
def lstP : PV → Option (List PV)
  | .lst qs => some qs
  | .scr ns => some (ns.map PV.int)
  | _ => none
def gZip (ps : List PV) : Option (List PV) := match ps with
  | [.tup a, .tup b] => some (zipP a b)
  | [p, q] => match lstP p, lstP q with
    | some a, some b => some (zipP a b)
    | _, _ => none
  | _ => none
theorem lstP_rep {I : Hp} {p : PV} {v : V} {qs : List PV} (r : Rep X.K X.mg I p v) (e : lstP p = some qs) : ∃ a vs, v = .ref a ∧ SqL X.K I a vs ∧ RepL X.K X.mg I qs vs := by
  cases p with
  | lst ps =>
    cases e
    obtain ⟨a, vs, rfl, h1, h2⟩ := repL r
    exact ⟨a, vs, rfl, SqL.of h1, h2⟩
  | scr ns =>
    cases e
    unfold Rep at r
    obtain ⟨a, rfl, h⟩ := r
    exact ⟨a, _, rfl, h, .ints _⟩
  | _ => cases e
theorem itZipL {I0 : Hp} {a b : Addr} {ps qs : List PV} {xs ys : List V} (h1 : SqL X.K I0 a xs) (r1 : RepL X.K X.mg I0 ps xs) (h2 : SqL X.K I0 b ys) (r2 : RepL X.K X.mg I0 qs ys) : ItOk X (Itz X.K a b) (zipP ps qs) I0 := fun I H s1 s2 => by
  have q1 := (s1.trans s2).seq h1
  have q2 := (s1.trans s2).seq h2
  refine ⟨fun i p hp => ?_, ?_⟩
  · obtain ⟨p1, p2, g1, g2, rfl⟩ := zipP_get hp
    obtain ⟨v, g3, g4⟩ := r1.get g1
    obtain ⟨u, g5, g6⟩ := r2.get g2
    refine ⟨⟨xs, ys, v, u, q1, q2, g3, g5⟩, fun x H2 y => ?_⟩
    obtain ⟨T, x2, y2, rfl, n, rfl, k1, k2⟩ := y
    have e1 := k1 xs q1
    have e2 := k2 ys q2
    rw [g3] at e1; cases e1
    rw [g5] at e2; cases e2
    exact itPair s2 n (g4.mono s1) (g6.mono s1)
  · refine ⟨xs, ys, q1, q2, ?_⟩
    rw [r1.len, r2.len]
    exact zipP_len
theorem itZipT {I0 : Hp} {a b : Addr} {ps qs : List PV} {xs ys : List V} (h1 : SqT X.K I0 a xs) (r1 : RepL X.K X.mg I0 ps xs) (h2 : SqT X.K I0 b ys) (r2 : RepL X.K X.mg I0 qs ys) : ItOk X (RZ.ItzT X.K a b) (zipP ps qs) I0 := fun I H s1 s2 => by
  have q1 := sqt_mono (s1.trans s2) h1
  have q2 := sqt_mono (s1.trans s2) h2
  refine ⟨fun i p hp => ?_, ?_⟩
  · obtain ⟨p1, p2, g1, g2, rfl⟩ := zipP_get hp
    obtain ⟨v, g3, g4⟩ := r1.get g1
    obtain ⟨u, g5, g6⟩ := r2.get g2
    refine ⟨⟨xs, ys, v, u, q1, q2, g3, g5⟩, fun x H2 y => ?_⟩
    obtain ⟨T, x2, y2, rfl, n, rfl, k1, k2⟩ := y
    have e1 := k1 xs q1
    have e2 := k2 ys q2
    rw [g3] at e1; cases e1
    rw [g5] at e2; cases e2
    exact itPair s2 n (g4.mono s1) (g6.mono s1)
  · refine ⟨xs, ys, q1, q2, ?_⟩
    rw [r1.len, r2.len]
    exact zipP_len
theorem SI.zip (a : SA X pi W ms [e1, e2] ma) (hm : X.mg "zip" = none) (hg : Gl X "zip" := by rfl) (hs : starEach [e1, e2] X.env = (false, eval e1 X.env) :: starEach [e2] X.env := by rfl) (hpl : (backTo pos (starEach [e2] X.env)).any (·.1) = false := by rfl) :
    SI X pi W ms (.Tuple elts kk tpos) (.Call (.Name "zip" p1) [e1, e2] [] pos) (mRg gZip ma) := by
  refine ⟨PIimp (RZ.pi_zipA hg hm a.pa hs hpl) fun σ H Q ⟨B, I, ρ, env, st, h⟩ => ?_⟩
  refine ⟨B, I, ρ, env, st, R.sat_mono (R.sat_bind h) (fun r z vs J H2 ρ2 sj st2 rl => ?_) fun _ _ z => z⟩
  obtain ⟨ps, en⟩ := r
  cases w : gZip ps with
  | none => rw [w] at z; exact z.elim
  | some qs =>
    rw [w] at z
    have z' : ∀ T J H2 ρ2, Same I J → Stt X.K X.mg pi B ms en J H2 ρ2 σ → ItOk X T qs J → Q T H2 := z
    unfold gZip at w
    split at w
    · cases w
      obtain ⟨v, u, rfl, h1, h2⟩ := two_arg (H := H2) rl
      obtain ⟨a, vs, rfl, g1, g2⟩ := repT h1
      obtain ⟨b, us, rfl, g3, g4⟩ := repT h2
      exact ⟨a, b, vs, us, rfl, .inr ⟨sqt_mono st2.sub g1, sqt_mono st2.sub g3, z' _ J H2 ρ2 sj st2 (itZipT g1 g2 g3 g4)⟩⟩
    · rename_i p q _
      split at w
      · rename_i a1 b1 w1 w2
        cases w
        obtain ⟨v, u, rfl, h1, h2⟩ := two_arg (H := H2) rl
        obtain ⟨a, vs, rfl, g1, g2⟩ := lstP_rep h1 w1
        obtain ⟨b, us, rfl, g3, g4⟩ := lstP_rep h2 w2
        exact ⟨a, b, vs, us, rfl, .inl ⟨st2.sub.seq g1, st2.sub.seq g3, z' _ J H2 ρ2 sj st2 (itZipL g1 g2 g3 g4)⟩⟩
      · cases w
    · cases w
end
end Cq

/-! text Cq20 -/
set_option Elab.async false
set_option linter.all false
set_option maxRecDepth 100000
/-! Cq, part 20: isinstance with several classes and with own ones; an empty dict; list(d.items()). -/
namespace Cq
open PySem PySem.Spec L2

section
variable {X : Cx} {pi : Pin} {W : WX} {ms : List Md} {e : Expr} {es : List Expr} {m : MV} {p1 p2 p3 pos cpos apos : Pos} {x : Str}
/-- built-in classes, one behind the other -/
structure STy (X : Cx) (es : List Expr) (cs : List String) : Prop where
  pa : PA X es (fun _ H Q => Q (cs.map V.ty) H)
theorem STy.nil : STy X [] [] := ⟨PAimp pa_nil fun _ _ _ h => h⟩
theorem STy.cons {n : String} {cs : List String} (r : STy X es cs) (hm : X.mg x = none) (hv : bootBuiltins x = some (.type n)) (hg : Gl X x := by rfl) (hn : x ≠ "__name__" := by decide) (hd : (x == ("__debug__" : Str)) = false := by decide)
    (hs : starEach (.Name x p1 :: es) X.env = (false, eval (.Name x p1) X.env) :: starEach es X.env := by rfl) : STy X (.Name x p1 :: es) (n :: cs) :=
  ⟨PAimp (pa_cons (pe_bltn hg hm hv (show RelV (.ty n) (.type n) from rfl) hn hd) r.pa hs) fun _ _ _ h => h⟩
def gIsiT (cs : List String) (p : PV) : Option PV := match tyN p with
  | some k => if (cs.all fun c => kinds.contains c) = true then some (.bl (cs.any fun c => isKind k c)) else none
  | none => none
theorem kinds_any {K : PySem.W.Frag} {k : String} (hk : k ∈ kinds) : ∀ {cs : List String}, (cs.all fun c => kinds.contains c) = true → PySem.W.kitAny K (.type k) (cs.map Value.type) = some (cs.any fun c => isKind k c)
  | [], _ => rfl
  | c :: cs, h => by
    rw [List.all_cons, Bool.and_eq_true] at h
    have h1 := kind_ok hk (by simpa using h.1)
    have ih := kinds_any (K := K) hk h.2
    refine kitAny_cons (kit_ty h1) (fun z => ?_) fun z => ?_
    · rw [ih, List.any_cons, z, Bool.false_or]
    · rw [List.any_cons, z, Bool.true_or]
theorem clsV_tys : ∀ cs : List String, Paired ClsV (cs.map V.ty) (cs.map Value.type)
  | [] => .nil
  | c :: cs => .cons (.ty c) (clsV_tys cs)
theorem SE.isiT {cs : List String} {k : Nat} (h : SE X pi W ms e .fz m) (t : STy X es cs) (hlen : cs.length ≤ 100 := by decide) (hm : X.mg "isinstance" = none) (hg : Gl X "isinstance" := by rfl)
    (he : starEach [e, .Tuple es k p2] X.env = (false, eval e X.env) :: starEach [.Tuple es k p2] X.env := by rfl) (he2 : starEach [.Tuple es k p2] X.env = (false, eval (.Tuple es k p2) X.env) :: starEach [] X.env := by rfl)
    (hl : (backTo pos (starEach [.Tuple es k p2] X.env)).any (·.1) = false := by rfl) : SE X pi W ms (.Call (.Name "isinstance" p1) [e, .Tuple es k p2] [] pos) .fz (mUn (gIsiT cs) m) := by
  refine ⟨PEimp (pe_callB call_isiT hg hm (by rfl) (pa_cons h.pe (pa_cons (pe_tup t.pa) pa_nil he2) he) (by decide) (by decide) he hl) fun σ H Q ⟨B, I, ρ, env, s, h⟩ => ?_⟩
  refine ⟨B, I, ρ, env, s, R.sat_mono (R.sat_bind h) (fun z hz v J H2 ρ2 τ sj s2 _ en => ?_) fun _ _ q => q⟩
  have r := ent_fz.mp en
  refine ⟨by rw [List.length_map, sizeLine_eq]; omega, fun tp ntp => ?_⟩
  have g := Grow.laid (o := HO.tup (cs.map V.ty)) s2.sub ntp
  have s3 := s2.grow g
  cases w : gIsiT cs z.1 with
  | none => rw [w] at hz; exact hz.elim
  | some c =>
    rw [w] at hz
    unfold gIsiT at w
    split at w
    · rename_i k2 w2
      split at w
      · rename_i w3
        cases w
        obtain ⟨t1, t2⟩ := tyN_ok (s3.sub) r w2
        exact ⟨v, tp, _, _, _, _, rfl, upd_same, clsV_tys cs, t1, kinds_any t2 w3, (show ∀ v J H2 ρ2 τ, Same I J → Stt X.K X.mg pi B ms z.2 J H2 ρ2 σ → Tau B J H2 ρ2 τ → Ent X.K X.mg J H2 τ 0 .fz (.bl (cs.any fun c => isKind k2 c)) (some v) → Q v H2 from hz) _ J _ ρ2 (fun _ => none) sj s3 .none (ent_fz.mpr rep_bl)⟩
      · cases w
    · cases w
/-- what isinstance with the class at C asks of the fragment -/
structure IsiC (K : PySem.W.Frag) (C : Addr) : Prop where
  ty : ∀ (H : Hp) (a dx : Addr) (fs : List (Str × V)), H a = some (.ins C dx fs) → TyX K H (.ref a) (.ref C)
  no : ∀ k ∈ kinds, PySem.W.kitOne K (.type k) (.ref C) = some false
def gIsiC (x : Str) (p : PV) : Option PV := match p with
  | .ins D _ => if D = x then some (.bl true) else none
  | p => match tyN p with
    | some _ => some (.bl false)
    | none => none
theorem SE.isiC {C : Addr} (h : SE X pi W ms e .fz m) (ic : IsiC X.K C) (hx : X.mg x = some (.ref C)) (hm : X.mg "isinstance" = none) (hg : Gl X "isinstance" := by rfl) (hgx : Gl X x := by rfl) (hdx : (x == ("__debug__" : Str)) = false := by decide)
    (he : starEach [e, .Name x p2] X.env = (false, eval e X.env) :: starEach [.Name x p2] X.env := by rfl) (he2 : starEach [.Name x p2] X.env = (false, eval (.Name x p2) X.env) :: starEach [] X.env := by rfl)
    (hl : (backTo pos (starEach [.Name x p2] X.env)).any (·.1) = false := by rfl) : SE X pi W ms (.Call (.Name "isinstance" p1) [e, .Name x p2] [] pos) .fz (mUn (gIsiC x) m) := by
  refine ⟨PEimp (pe_callB call_isi hg hm (by rfl) (pa_cons h.pe (pa_cons (pe_glob (v := .ref C) hgx hx rfl hdx) pa_nil he2) he) (by decide) (by decide) he hl) fun σ H Q ⟨B, I, ρ, env, s, h⟩ => ?_⟩
  refine ⟨B, I, ρ, env, s, R.sat_mono (R.sat_bind h) (fun z hz v J H2 ρ2 τ sj s2 _ en => ?_) fun _ _ q => q⟩
  have r := ent_fz.mp en
  obtain ⟨zp, ze⟩ := z
  have fin : ∀ b : Bool, gIsiC x zp = some (.bl b) → Q (.bl b) H2 := fun b w => by
    dsimp only at hz
    rw [w] at hz
    exact (show ∀ v J H2 ρ2 τ, Same I J → Stt X.K X.mg pi B ms ze J H2 ρ2 σ → Tau B J H2 ρ2 τ → Ent X.K X.mg J H2 τ 0 .fz (.bl b) (some v) → Q v H2 from hz) _ J _ ρ2 (fun _ => none) sj s2 .none (ent_fz.mpr rep_bl)
  have base : ∀ k, tyN zp = some k → gIsiC x zp = some (.bl false) → rIsi X.K [v, .ref C] H2 Q := fun k w w2 => by
    obtain ⟨t1, t2⟩ := tyN_ok s2.sub r w
    exact ⟨v, .ref C, _, _, _, rfl, .own C, t1, ic.no k t2, fin false w2⟩
  cases zp with
  | ins D fs =>
    by_cases e2 : D = x
    · have w : gIsiC x (.ins D fs) = some (.bl true) := by unfold gIsiC; exact if_pos e2
      subst e2
      dsimp only at r
      unfold Rep at r
      obtain ⟨a, c, dx, ws, rfl, h1, h2, h3⟩ := r
      rw [hx] at h1; cases h1
      exact ⟨.ref a, .ref C, _, _, _, rfl, .own C, ic.ty H2 a dx ws (s2.sub _ _ h2), by unfold PySem.W.kitOne; rw [if_pos (by simp)], fin true w⟩
    · have w : gIsiC x (.ins D fs) = none := by unfold gIsiC; exact if_neg e2
      dsimp only at hz
      rw [w] at hz
      exact hz.elim
  | non => exact base _ rfl rfl
  | bl b => exact base _ rfl rfl
  | int i => exact base _ rfl rfl
  | str i => exact base _ rfl rfl
  | tup i => exact base _ rfl rfl
  | lst i => exact base _ rfl rfl
  | dic i => exact base _ rfl rfl
  | ty n => exact hz.elim
  | scr n => exact hz.elim
/-! ### dicts that are never changed -/
theorem SE.dict0 : SE X pi W ms (.Dict [] [] pos) .fz (mC (.dic [])) := by
  refine ⟨PEimp pe_dnewK fun σ H Q ⟨B, I, ρ, env, s, h⟩ p np => ?_⟩
  have g := Grow.new (o := HO.dK []) s.sub np
  refine (show ∀ v J H2 ρ2 τ, Same I J → Stt X.K X.mg pi B ms env J H2 ρ2 σ → Tau B J H2 ρ2 τ → Ent X.K X.mg J H2 τ 0 .fz (.dic []) (some v) → Q v H2 from h) _ _ _ ρ (fun _ => none) g.i (s.grow g) .none (ent_fz.mpr ?_)
  unfold Rep
  exact ⟨p, [], rfl, upd_same, by unfold RepD; rfl⟩
def keyP : Key → PV
  | .inl i => .int i
  | .inr s => .str s
def itemsP : List (Key × PV) → List PV
  | [] => []
  | (k, p) :: ks => .tup [keyP k, p] :: itemsP ks
def gItems : PV → Option PV
  | .dic ks => some (.lst (itemsP ks))
  | _ => none
theorem rep_key {K : PySem.W.Frag} {mg : Str → Option Value} {I : Hp} (k : Key) : Rep K mg I (keyP k) (kV k) := by
  cases k with
  | inl i => exact rep_int
  | inr s => exact rep_str
theorem items_rep {K : PySem.W.Frag} {mg : Str → Option Value} {I J : Hp} (s : Same I J) : ∀ {ks : List (Key × PV)} {ws : List (Key × V)} {ts : List Addr}, RepD K mg I ks ws → Paired (fun (t : Addr) (q : Key × V) => J t = some (.tup [kV q.1, q.2])) ts ws → RepL K mg J (itemsP ks) (ts.map V.ref)
  | [], ws, ts, r, p => by
    unfold RepD at r; subst r
    cases p
    exact .nil
  | (k, q) :: ks, ws, ts, r, p => by
    unfold RepD at r
    obtain ⟨v, r2, rfl, h1, h2⟩ := r
    cases p with
    | cons a b => exact .cons (rep_tup (SqT.of a) (.cons (rep_key k) (.cons (h1.mono s) .nil))) (items_rep s h2 b)
theorem paired_mem {α β : Type} {F G : α → β → Prop} : ∀ {xs : List α} {ys : List β}, Paired F xs ys → (∀ x ∈ xs, ∀ y, F x y → G x y) → Paired G xs ys
  | _, _, .nil, _ => .nil
  | _, _, .cons a b, h => .cons (h _ List.mem_cons_self _ a) (paired_mem b fun x hx y w => h x (List.mem_cons_of_mem _ hx) y w)
theorem SE.listItems (h : SE X pi W ms e .fz m) (hc : X.calm = true) (hm : X.mg "list" = none) (hg : Gl X "list" := by rfl) (hbase : attributeBase e "items" X.env (eval e X.env) = eval e X.env := by rfl) (hline : (apos.endLine == cpos.line) = true := by rfl)
    (hs : starEach [.Call (.Attribute e "items" apos) [] [] cpos] X.env = (false, eval (.Call (.Attribute e "items" apos) [] [] cpos) X.env) :: starEach [] X.env := by rfl) :
    SE X pi W ms (.Call (.Name "list" p1) [.Call (.Attribute e "items" apos) [] [] cpos] [] pos) .ow (mUn gItems m) := by
  refine ⟨PEimp (LiI.pe_listItems hc h.pe hg hm (by rfl) hbase hline hs) fun σ H Q ⟨B, I, ρ, env, s, h⟩ => ?_⟩
  refine ⟨B, I, ρ, env, s, R.sat_mono (R.sat_bind h) (fun z hz v J H2 ρ2 τ sj s2 _ en => ?_) fun _ _ q => q⟩
  have r := ent_fz.mp en
  obtain ⟨zp, ze⟩ := z
  cases zp with
  | dic ks =>
    dsimp only at r
    unfold Rep at r
    obtain ⟨a, ws, rfl, h1, h2⟩ := r
    refine ⟨a, ws, rfl, s2.sub _ _ h1, fun H' p ts k1 k2 k3 k4 k5 k6 => ?_⟩
    have hts : ∀ t ∈ ts, ∃ u, H' t = some (.tup u) := fun t ht => by
      obtain ⟨j, y, _, _, e3⟩ := LiI.paired_ix k6 ht
      exact ⟨_, e3⟩
    have nI : ∀ b o, J b = some o → b ∉ ts ∧ b ≠ p := fun b o e => by
      have := s2.sub b o e
      exact ⟨fun z => (by rw [k3 b z] at this; cases this), fun z => (by rw [z, k2] at this; cases this)⟩
    let J2 : Hp := fun b => if b ∈ ts then H' b else J b
    have jt : ∀ b, b ∈ ts → J2 b = H' b := fun b hb => if_pos hb
    have jn : ∀ b, b ∉ ts → J2 b = J b := fun b hb => if_neg hb
    have g : Grow J J2 H2 H' := ⟨fun b o e => by rw [jn b (nI b o e).1]; exact e, k1, fun b o e => by
      by_cases z : b ∈ ts
      · rw [jt b z] at e; exact e
      · rw [jn b z] at e; exact k1 _ _ (s2.sub b o e), fun b o e => by
      by_cases z : b ∈ ts
      · exact .inr (k3 b z)
      · rw [jn b z] at e; exact .inl e⟩
    have s3 := s2.grow g
    have np : J p = none := by
      cases w : J p with
      | none => rfl
      | some o => exact absurd rfl (nI p o w).2
    have rr : Ret X .ow J H2 (.lst (itemsP ks)) Q := Ret.of_state s2 fun v L H3 ρ3 τ3 sl s3 t3 e3 => (show ∀ v J H2 ρ2 τ, Same I J → Stt X.K X.mg pi B ms ze J H2 ρ2 σ → Tau B J H2 ρ2 τ → Ent X.K X.mg J H2 τ 0 .ow (.lst (itemsP ks)) (some v) → Q v H2 from hz) v L H3 ρ3 τ3 (sj.trans sl) s3 t3 e3
    refine rr (.ref p) J2 H' (fun b => if b = p then some (0, none) else none) g (fun b t e => ?_) ?_
    · split at e
      · rename_i z
        cases e; subst z
        exact ⟨rfl, k2, by rw [jn b k4]; exact np, _, k5⟩
      · cases e
    · unfold Ent
      refine ⟨p, itemsP ks, ts.map V.ref, rfl, rfl, by simp, k5, items_rep g.i h2 (paired_mem k6 fun t ht q w => by rw [jt t ht]; exact w)⟩
  | _ => exact hz.elim
end
end Cq

/-! text Cq21 -/
set_option Elab.async false
set_option linter.all false
set_option maxRecDepth 100000
/-! Cq, part 21: == and != by an own __eq__. -/
namespace Cq
open PySem PySem.Spec L2 PyProof.Rows

/-- what an own == asks of the fragment -/
structure EqC (K : PySem.W.Frag) (C f : Addr) : Prop where
  eq : PySem.W.findIn K (.ref C) "__eq__" = some (some (.ref f))
  fn : PySem.W.isFn K (.ref f) = true
  ne : PySem.W.findIn K (.ref C) "__ne__" = some (some (.builtin "object.__ne__"))
  mro : PySem.W.mroIn K C (.type "object") = some true
section
variable {X : Cx} {n : Nat} {f C : Addr} {fd : FuncData} {ps : List Str} {sp : Sp} {E : L2.St → XK} {pins : List (Addr × Obj)} {σ : L2.St} {H : Hp} {s : Shared} {Q : VK} {a b : Addr} {A : Around}
theorem own_call (F : FnOk X.prog X.w X.K X.mg X.base (L2.CX X.prog X.w) n f fd ps sp) (hb : Binds X.K fd ps []) (hx : PassesAt (L2.CX X.prog X.w) X σ (E σ)) (sb : L2.Sub X n A) (I : Inv X pins σ H s) (h : sp [.ref a, .ref b] H Q (E σ)) :
    wpAny (model X.prog X.w) A (call (.ref f) [.ref a, .ref b]) (EP X pins σ Q) X.xe s := by
  have e0 : L2.Env0 X.prog X.w X.K X.mg X.base A X.stack s H := by
    have e := I.env0
    exact ⟨by rw [sb.fr]; exact e.frames, e.mod, e.bs, e.bsz, e.funs, e.frf, e.hok, e.bare⟩
  have hl := F.len _ _ _ _ h
  have r2 : Vals [V.ref a, V.ref b] [Value.ref a, Value.ref b] := .cons rfl (.cons rfl .nil)
  refine wpAny_call (codeAny_mono (F.run A X.stack s H ⟨[.ref a, .ref b], []⟩ [.ref a, .ref b] [.ref a, .ref b] _ (E σ) sb.room e0 (by
    have := hb s [.ref a, .ref b] I.kIn (by simpa using hl)
    simpa using this) r2 h) fun r s' hq => ?_)
  cases r with
  | error e => exact hx pins H s e s' I hq
  | ok fl =>
    cases fl with
    | ret w => exact I.after hq
    | next => exact False.elim hq
    | brk => exact False.elim hq
    | cont => exact False.elim hq
def rOwn (x : Str) (C : Addr) (sp : Sp) (E : L2.St → XK) (σ : L2.St) : R2 := fun x y H Q => ∃ a b dx dy fs gs, x = .ref a ∧ y = .ref b ∧ H a = some (.ins C dx fs) ∧ H b = some (.ins C dy gs) ∧ sp [.ref a, .ref b] H Q (E σ)
theorem own_eq (F : FnOk X.prog X.w X.K X.mg X.base (L2.CX X.prog X.w) n f fd ps sp) (hb : Binds X.K fd ps []) (hx : PassesAt (L2.CX X.prog X.w) X σ (E σ)) (c : EqC X.K C f) (hr : Room n X.A) (I : Inv X pins σ H s) {dx dy : Addr} {fs gs : List (Str × V)}
    (ha : H a = some (.ins C dx fs)) (hb' : H b = some (.ins C dy gs)) (h : sp [.ref a, .ref b] H (fun v H' => (∃ t, v = .bl t) ∧ Q v H') (E σ)) : wpAny (model X.prog X.w) X.A (compareOp .Eq (.ref a) (.ref b)) (EP X pins σ Q) X.xe s := by
  show wpAny (model X.prog X.w) X.A (richCompare .Eq (.ref a) (.ref b)) (EP X pins σ Q) X.xe s
  obtain ⟨mA, J, _⟩ := ins_get I.hok ha
  obtain ⟨mB, J', _⟩ := ins_get I.hok hb'
  obtain ⟨od, J, _⟩ := J.look
  obtain ⟨od', J', _⟩ := J'.look
  obtain ⟨m, hF⟩ := I.fr
  refine PySem.W.cmp_K (op := .Eq) (tb := .ref C) hr.units0 hF I.ok.mod.kin J J'.type (by simp [PySem.W.notFirst]) c.eq c.fn ?_
  refine wpAny_mono (own_call F hb hx ⟨hr, rfl⟩ I h) (fun v s' hv => ?_) fun _ _ x => x
  obtain ⟨z, H', I', rz, ⟨t, rfl⟩, q⟩ := hv
  cases rz
  exact ⟨.bl t, H', I', rfl, q⟩
theorem own_ne (F : FnOk X.prog X.w X.K X.mg X.base (L2.CX X.prog X.w) n f fd ps sp) (hb : Binds X.K fd ps []) (hx : PassesAt (L2.CX X.prog X.w) X σ (E σ)) (c : EqC X.K C f) (hr : Room (n + 2) X.A) (I : Inv X pins σ H s) {dx dy : Addr} {fs gs : List (Str × V)}
    (ha : H a = some (.ins C dx fs)) (hb' : H b = some (.ins C dy gs)) (h : sp [.ref a, .ref b] H (fun v H' => ∃ t, v = .bl t ∧ Q (.bl (!t)) H') (E σ)) : wpAny (model X.prog X.w) X.A (compareOp .NotEq (.ref a) (.ref b)) (EP X pins σ Q) X.xe s := by
  show wpAny (model X.prog X.w) X.A (richCompare .NotEq (.ref a) (.ref b)) (EP X pins σ Q) X.xe s
  obtain ⟨mA, J, _⟩ := ins_get I.hok ha
  obtain ⟨mB, J', _⟩ := ins_get I.hok hb'
  obtain ⟨od, J, _⟩ := J.look
  obtain ⟨od', J', _⟩ := J'.look
  have X0 := I.kIn
  have entry : ∀ {A : Around} {Q2 : Fin → Shared → Prop}, L2.Sub X n A → (∀ t H' s', Inv X pins σ H' s' → Q (.bl (!t)) H' → Q2 (.done (.ret (.bool (!t)))) s') → wpAny (model X.prog X.w) A (Builtin.«object.__ne__» ⟨[.ref a, .ref b], []⟩) Q2 X.xe s := by
    intro A Q2 sb k
    unfold Builtin.«object.__ne__»
    refine wpAny_bind (wpAny_of_eq (a := (Value.ref a, [Value.ref b])) (by first | rfl | kernel_rfl) ?_)
    refine wpAny_bind (wpAny_cRoomFor sb.room.units0 ?_)
    refine wpAny_bind (PySem.W.ifBound_K (name := "__eq__") X0 J c.eq c.fn (wpAny_mono (own_call F hb hx sb I h) (fun v s' hv => ?_) fun _ _ x => x))
    obtain ⟨z, H', I', rz, t, rfl, q⟩ := hv
    cases rz
    exact wpAny_bind (wpAny_truthy_bool (wpAny_pure (k t H' s' I' q)))
  have sb1 : L2.Sub X (n + 1) X.A := ⟨hr.mono (by omega), rfl⟩
  have called : wpAny (model X.prog X.w) X.A (call (.builtin "object.__ne__") [.ref a, .ref b]) (fun v s' => ∃ t H', v = .bool (!t) ∧ Inv X pins σ H' s' ∧ Q (.bl (!t)) H') X.xe s :=
    wpAny_call (codeAny_call_builtin PySem.F.cmp_object.ne.plain PySem.F.cmpEntry_ne (PySem.W.check_slot PySem.F.cmpKind_ne PySem.F.cmpSplit_ne (J.type.andThen (PySem.W.looks_mroIn X0 c.mro)) (PySem.F.cmpArgs_ne _ _) (entry sb1.in1 fun t H' s' I' q => ⟨t, H', rfl, I', q⟩)))
  have bound : wpAny (model X.prog X.w) X.A (callSpecialIfBound? (.ref a) "__ne__" [.ref b]) (fun r s' => ∃ t H', r = some (.bool (!t)) ∧ Inv X pins σ H' s' ∧ Q (.bl (!t)) H') X.xe s := by
    simp only [callSpecialIfBound?, bindSpecialIfBound?]
    refine wpAny_holding (wpAny_bind (wpAny_bind (wpAny_bind (J.type.here ((PySem.W.looks_findIn X0 c.ne).here ?_)))))
    refine wpAny_bind (wpAny_askSetting (wpAny_ite ?_))
    have fin : wpAny (model X.prog X.w) X.A (call (.builtin "object.__ne__") ([.ref a] ++ [.ref b]) >>= fun v => pure (some v)) (fun r s' => ∃ t H', r = some (.bool (!t)) ∧ Inv X pins σ H' s' ∧ Q (.bl (!t)) H') X.xe s :=
      wpAny_bind (wpAny_mono called (fun v s' ⟨t, H', e, I', q⟩ => wpAny_pure ⟨t, H', by rw [e], I', q⟩) fun _ _ h' => h')
    split
    · exact wpAny_bind (wpAny_of_eq (PySem.F.cmp_object.ne.bind _) (wpAny_pure (by exact fin)))
    · exact wpAny_tryCatch (wpAny_bind (wpAny_of_eq (PySem.F.cmp_object.ne.bind _) (wpAny_pure (by exact fin))))
  have one : wpAny (model X.prog X.w) X.A (tryCompare (.ref a) (cmpInfo .NotEq).2.1 (.ref b)) (fun r s' => ∃ t H', r = some (.bool (!t)) ∧ Inv X pins σ H' s' ∧ Q (.bl (!t)) H') X.xe s := by
    unfold tryCompare
    refine wpAny_bind (wpAny_mono bound (fun r s' hv => ?_) fun _ _ e => e)
    obtain ⟨t, H', rfl, I', q⟩ := hv
    exact wpAny_pure ⟨t, H', rfl, I', q⟩
  unfold richCompare
  simp only [oneThing_ref]
  refine wpAny_holding (wpAny_bind (wpAny_cRoomFor hr.units0 ?_))
  refine wpAny_bind (J.type.here (wpAny_bind (J'.type.here ?_)))
  split
  · rename_i q
    exact absurd q (by simp)
  · refine wpAny_bind (wpAny_pure ?_)
    simp only [Bool.false_eq_true, if_false]
    refine wpAny_bind (wpAny_mono one (fun r s' z => ?_) fun _ _ e => e)
    obtain ⟨t, H', rfl, I', q⟩ := z
    exact wpAny_pure ⟨.bl (!t), H', I', rfl, q⟩
end

/-! ### over plain values -/
def gOwn (x : Str) (F : MF) (neg : Bool) : PV → PV → Option PV
  | .ins A fs, .ins B gs => if A = x ∧ B = x then (match F [.ins A fs, .ins B gs] with
    | .ok (.bl t, _) => some (.bl (t != neg))
    | _ => none) else none
  | _, _ => none
theorem spF_flat {X : Cx} {F : MF} {I H : Hp} {ps : List PV} {vs : List V} {t : Bool} {rs : List PV} {Q : VK} (s : Same I H) (r : RepL X.K X.mg I ps vs) (e : F ps = .ok (.bl t, rs)) (k : ∀ J H2, Grow I J H H2 → Q (.bl t) H2) :
    SpF X.K X.mg (List.replicate ps.length .fz) .fz F vs H Q (fun _ _ _ => False) := by
  have s0 : Stt X.K X.mg ⟨[], none⟩ ⟨I, H, fun _ => none, [], [], [], []⟩ [] [] I H (fun _ => none) [] :=
    ⟨⟨s, .refl _, fun _ _ e _ => e, fun _ _ e => .inl e, fun _ _ e => (by cases e), fun _ e => e, fun _ h => absurd h (by show ¬ (_ ∈ ([] : List Nat)); simp), fun _ _ e => (by cases e), fun _ e => (by cases e)⟩, rfl, rfl, rfl, rfl, fun i m p v h1 h2 h3 => by simp at h1⟩
  have ha := argOk_of (σ := ([] : L2.St)) r
  have ok : okA ([] : List Md) (List.replicate ps.length .fz) (List.replicate ps.length none) = true := okA_none _
  have c := call_start s0 ha ok
  rw [fill_none] at c
  have e0 : toCallee (List.replicate ps.length none) (fun _ => none) = (fun _ => none : Own) := rfl
  rw [e0] at c
  refine ⟨by rw [r.len]; simp, I, _, _, c, ?_⟩
  rw [e]
  intro v J H2 ρ2 τ sj st t2 en
  have en' := ent_fz.mp en
  unfold Rep at en'
  rw [en']
  exact k J H2 ⟨sj, fun b o q => st.sb.fr b o q rfl, st.sb.sub, fun b o q => st.sb.ft b o q⟩
structure OwnOk (X : Cx) (x : Str) (F : MF) : Prop where
  ex : ∃ C n f fd ps, X.mg x = some (.ref C) ∧ FnOk X.prog X.w X.K X.mg X.base (L2.CX X.prog X.w) n f fd ps (SpF X.K X.mg [.fz, .fz] .fz F) ∧ Binds X.K fd ps [] ∧ Room (n + 2) X.A ∧ EqC X.K C f
section
variable {X : Cx} {x : Str} {F : MF}
theorem own_args {C : Addr} {I H : Hp} {A B : Str} {fs gs : List (Str × PV)} {v u : V} (hm : X.mg x = some (.ref C)) (s : Same I H) (hA : A = x) (hB : B = x) (h1 : Rep X.K X.mg I (.ins A fs) v) (h2 : Rep X.K X.mg I (.ins B gs) u) :
    ∃ a b dx dy ws zs, v = .ref a ∧ u = .ref b ∧ H a = some (.ins C dx ws) ∧ H b = some (.ins C dy zs) := by
  subst hA hB
  unfold Rep at h1 h2
  obtain ⟨a, c, dx, ws, rfl, q1, q2, _⟩ := h1
  obtain ⟨b, c2, dy, zs, rfl, q3, q4, _⟩ := h2
  rw [hm] at q1 q3
  cases q1; cases q3
  exact ⟨a, b, dx, dy, ws, zs, rfl, rfl, s _ _ q2, s _ _ q4⟩
theorem vOwnEq (D : OwnOk X x F) : VOp X (compareOp .Eq) .fz (gOwn x F false) := by
  obtain ⟨C, n, f, fd, ps, hm, Fk, hb, hr, c⟩ := D.ex
  refine ⟨fun v u H Q => ∃ a b dx dy ws zs, v = .ref a ∧ u = .ref b ∧ H a = some (.ins C dx ws) ∧ H b = some (.ins C dy zs) ∧ SpF X.K X.mg [.fz, .fz] .fz F [.ref a, .ref b] H (fun v H' => (∃ t, v = .bl t) ∧ Q v H') (fun _ _ _ => False), fun pins s σ H v u v2 u2 Q I r1 r2 h => ?_, fun I H p q v u cc Q s rp rq e r => ?_⟩
  · obtain ⟨a, b, dx, dy, ws, zs, rfl, rfl, h1, h2, h3⟩ := h
    cases r1; cases r2
    exact own_eq (E := fun _ _ _ _ => False) Fk hb (fun _ _ _ _ _ _ ⟨_, _, _, _, _, _, _, _, _, _, _, _, w⟩ => w.elim) c (hr.mono (by omega)) I h1 h2 h3
  · unfold gOwn at e
    split at e
    · rename_i A fs B gs
      split at e
      · rename_i hAB
        split at e
        · rename_i t rs w
          cases e
          obtain ⟨a, b, dx, dy, ws, zs, rfl, rfl, h1, h2⟩ := own_args hm s hAB.1 hAB.2 rp rq
          exact ⟨a, b, dx, dy, ws, zs, rfl, rfl, h1, h2, spF_flat (ps := [.ins A fs, .ins B gs]) s (.cons rp (.cons rq .nil)) w fun J H2 g => ⟨⟨t, rfl⟩, by have := r.fz g (v := .bl t) (by cases t <;> exact rep_bl); exact this⟩⟩
        · cases e
      · cases e
    · cases e
theorem vOwnNe (D : OwnOk X x F) : VOp X (compareOp .NotEq) .fz (gOwn x F true) := by
  obtain ⟨C, n, f, fd, ps, hm, Fk, hb, hr, c⟩ := D.ex
  refine ⟨fun v u H Q => ∃ a b dx dy ws zs, v = .ref a ∧ u = .ref b ∧ H a = some (.ins C dx ws) ∧ H b = some (.ins C dy zs) ∧ SpF X.K X.mg [.fz, .fz] .fz F [.ref a, .ref b] H (fun v H' => ∃ t, v = .bl t ∧ Q (.bl (!t)) H') (fun _ _ _ => False), fun pins s σ H v u v2 u2 Q I r1 r2 h => ?_, fun I H p q v u cc Q s rp rq e r => ?_⟩
  · obtain ⟨a, b, dx, dy, ws, zs, rfl, rfl, h1, h2, h3⟩ := h
    cases r1; cases r2
    exact own_ne (E := fun _ _ _ _ => False) Fk hb (fun _ _ _ _ _ _ ⟨_, _, _, _, _, _, _, _, _, _, _, _, w⟩ => w.elim) c hr I h1 h2 h3
  · unfold gOwn at e
    split at e
    · rename_i A fs B gs
      split at e
      · rename_i hAB
        split at e
        · rename_i t rs w
          cases e
          obtain ⟨a, b, dx, dy, ws, zs, rfl, rfl, h1, h2⟩ := own_args hm s hAB.1 hAB.2 rp rq
          exact ⟨a, b, dx, dy, ws, zs, rfl, rfl, h1, h2, spF_flat (ps := [.ins A fs, .ins B gs]) s (.cons rp (.cons rq .nil)) w fun J H2 g => ⟨t, rfl, by have := r.fz g (v := .bl (!t)) (by cases t <;> exact rep_bl); exact this⟩⟩
        · cases e
      · cases e
    · cases e
end
end Cq

/-! text Cq22 -/
set_option Elab.async false
set_option linter.all false
set_option maxRecDepth 100000
/-! Cq, part 22: facts of the head. -/
namespace Cq
open PySem PySem.Spec L2

inductive Fx where
  | oex (x : Str) | xf (x : Str) | isc (x : Str) | eqc (x : Str) | noat (x f : Str)
def oexB (K : PySem.W.Frag) (C : Addr) : Bool := (match K.lookup C with
  | some ⟨.type "type", _, .cls cd, sl⟩ => (match cd.mro, sl.toList with
    | .ref C' :: bm, [_, _, _, _, some (.builtin n), _] => C' == C && (n == "ValueError.__new__" && (!cd.hasDel && (cd.hasDict && PySem.HandSPX.refsVE bm)))
    | _, _ => false)
  | _ => false) && (decide (PySem.W.findIn K (.ref C) "__setattr__" = some (some (.builtin "object.__setattr__"))) && (decide (PySem.W.subIn K (.ref C) (.type "BaseException") = some true) && (decide (PySem.W.typeIn K (.ref C) = some (.type "type")) && PySem.W.keepIn K (.ref C))))
theorem oexB_ok {K : PySem.W.Frag} {C : Addr} (h : oexB K C = true) : OexC K C := by
  unfold oexB at h
  simp only [Bool.and_eq_true, decide_eq_true_eq] at h
  obtain ⟨q, h1, h2, h3, h4⟩ := h
  refine ⟨?_, h1, h2, h3, h4⟩
  split at q
  · rename_i dd cd sl ho
    split at q
    · rename_i C' bm k0 k1 k2 k3 n k5 hm hs
      simp only [Bool.and_eq_true, beq_iff_eq, Bool.not_eq_true'] at q
      obtain ⟨rfl, rfl, hdel, hdc, hr⟩ := q
      obtain ⟨nm, bs, mro, ns, qn, hd, sn, sub, ab, col, del⟩ := cd
      dsimp only at hm hdel hdc
      subst hm hdel hdc
      have hsl : sl = #[k0, k1, k2, k3, some (.builtin "ValueError.__new__"), k5] := by
        obtain ⟨l⟩ := sl
        simp only at hs
        rw [hs]
      subst hsl
      exact ⟨_, _, _, _, _, _, _, _, _, _, _, _, _, _, _, ho, hr⟩
    · cases q
  · cases q
def Fx.ok (K : PySem.W.Frag) : Fx → Bool
  | .oex x => oexB K (He.ga K x) && (decide (PySem.W.findIn K (.ref (He.ga K x)) "__init__" = some (some (.ref (He.ma K (He.ga K x) "__init__")))) && decide (PySem.W.typeIn K (.ref (He.ma K (He.ga K x) "__init__")) = some (.type "function")))
  | .xf x => xfB K (He.ga K x)
  | .isc x => PySem.W.plainGet K (He.ga K x) Str.empty && (PySem.W.hasDictIn K (He.ga K x) && (PySem.W.plainOver K (He.ga K x) && (decide (PySem.W.findIn K (.ref (He.ga K x)) "__setattr__" = some (some (.builtin "object.__setattr__"))) &&
      (decide (PySem.W.findIn K (.ref (He.ga K x)) "__class__" = some (some (.builtin "object.__class__"))) && (decide (PySem.W.specialIn K (.builtin "object.__class__") "__get__" = some (some (.builtin "getset_descriptor.__get__"))) &&
      (decide (PySem.W.takesIn K (.builtin "object.__class__") = some true) && (decide (PySem.W.mroIn K (He.ga K x) (.type "object") = some true) && kinds.all fun k => decide (PySem.W.kitOne K (.type k) (.ref (He.ga K x)) = some false))))))))
  | .eqc x => decide (PySem.W.findIn K (.ref (He.ga K x)) "__eq__" = some (some (.ref (He.ma K (He.ga K x) "__eq__")))) && (PySem.W.isFn K (.ref (He.ma K (He.ga K x) "__eq__")) && (decide (PySem.W.findIn K (.ref (He.ga K x)) "__ne__" = some (some (.builtin "object.__ne__"))) &&
      decide (PySem.W.mroIn K (He.ga K x) (.type "object") = some true)))
  | .noat x f => decide (PySem.W.findIn K (.ref (He.ga K x)) f = some none)
section
variable {K : PySem.W.Frag} {x f : Str}
theorem oex_ok (h : (Fx.oex x).ok K = true) : OexC K (He.ga K x) ∧ PySem.W.findIn K (.ref (He.ga K x)) "__init__" = some (some (.ref (He.ma K (He.ga K x) "__init__"))) ∧ PySem.W.typeIn K (.ref (He.ma K (He.ga K x) "__init__")) = some (.type "function") := by
  unfold Fx.ok at h
  simp only [Bool.and_eq_true, decide_eq_true_eq] at h
  exact ⟨oexB_ok h.1, h.2.1, h.2.2⟩
theorem xf_ok (h : (Fx.xf x).ok K = true) : XfC K (He.ga K x) := xfB_ok h
theorem noat_okx (h : (Fx.noat x f).ok K = true) : PySem.W.findIn K (.ref (He.ga K x)) f = some none := of_decide_eq_true h
theorem isc_ok (h : (Fx.isc x).ok K = true) : IsiC K (He.ga K x) := by
  unfold Fx.ok at h
  simp only [Bool.and_eq_true, decide_eq_true_eq] at h
  obtain ⟨h1, h2, h3, h4, h5, h6, h7, h8, h9⟩ := h
  exact ⟨fun H a dx fs e => .base (.ins e ⟨h1, h2, h3, h4⟩ h5 h6 h7 h8), fun k hk => of_decide_eq_true (List.all_eq_true.mp h9 k hk)⟩
theorem eqc_ok (h : (Fx.eqc x).ok K = true) : EqC K (He.ga K x) (He.ma K (He.ga K x) "__eq__") := by
  unfold Fx.ok at h
  simp only [Bool.and_eq_true, decide_eq_true_eq] at h
  exact ⟨h.1, h.2.1, h.2.2.1, h.2.2.2⟩
end
end Cq

/-! text Cq23 -/
set_option Elab.async false
set_option linter.all false
set_option maxRecDepth 100000
/-! Cq, part 23: what the generator leans on. -/
namespace Cq
open PySem PySem.Spec L2

/-! ### operators by short names -/
def oSub : PV → PV → Option PV := intOp fun i j => .int (i - j)
def oDiv : PV → PV → Option PV := intOpC cDiv fun i j => .int (i / j)
def oMod : PV → PV → Option PV := intOpC (fun _ j => decide (0 < j)) fun i j => .int (i % j)
def oPow : PV → PV → Option PV := intOpC cPow fun i j => .int (i ^ j.toNat)
def oShl : PV → PV → Option PV := intOpC cPow fun i j => .int (i * 2 ^ j.toNat)
def oShr : PV → PV → Option PV := intOpC (fun _ j => decide (0 ≤ j)) fun i j => .int (i / 2 ^ j.toNat)
def oAnd : PV → PV → Option PV := intOp fun i j => .int (Builtin.bitAnd i j)
def oOr : PV → PV → Option PV := intOp fun i j => .int (Builtin.bitOr i j)
def oXor : PV → PV → Option PV := intOp fun i j => .int (Builtin.bitXor i j)
def oLt : PV → PV → Option PV := intOp fun i j => .bl (decide (i < j))
def oLe : PV → PV → Option PV := intOp fun i j => .bl (decide (i ≤ j))
def oGt : PV → PV → Option PV := intOp fun i j => .bl (decide (j < i))
def oGe : PV → PV → Option PV := intOp fun i j => .bl (decide (j ≤ i))
section
variable {X : Cx}
theorem xSub : VOp X (binaryOp .Sub) .fz oSub := vSub
theorem xDiv : VOp X (binaryOp .FloorDiv) .fz oDiv := vDiv
theorem xMod : VOp X (binaryOp .Mod) .fz oMod := vMod
theorem xPow : VOp X (binaryOp .Pow) .fz oPow := vPow
theorem xShl : VOp X (binaryOp .LShift) .fz oShl := vShl
theorem xShr : VOp X (binaryOp .RShift) .fz oShr := vShr
theorem xAnd : VOp X (binaryOp .BitAnd) .fz oAnd := vAnd
theorem xOr : VOp X (binaryOp .BitOr) .fz oOr := vOr
theorem xXor : VOp X (binaryOp .BitXor) .fz oXor := vXor
theorem xLt : VOp X (compareOp .Lt) .fz oLt := vLt
theorem xLe : VOp X (compareOp .LtE) .fz oLe := vLe
theorem xGt : VOp X (compareOp .Gt) .fz oGt := vGt
theorem xGe : VOp X (compareOp .GtE) .fz oGe := vGe
/-- in -/
def flatP : PV → Option V
  | .non => some .non
  | .bl b => some (.bl b)
  | .int i => some (.int i)
  | .str s => some (.str s)
  | _ => none
def flatPs : List PV → Option (List V)
  | [] => some []
  | p :: ps => match flatP p, flatPs ps with
    | some v, some vs => some (v :: vs)
    | _, _ => none
theorem flatP_ok {I : Hp} {p : PV} {v u : V} (r : Rep X.K X.mg I p v) (e : flatP p = some u) : v = u ∧ flatV u = true := by
  cases p <;> first | cases e
  · unfold Rep at r; exact ⟨r, rfl⟩
  · unfold Rep at r; exact ⟨r, rfl⟩
  · unfold Rep at r; exact ⟨r, rfl⟩
  · unfold Rep at r; exact ⟨r, rfl⟩
theorem flatPs_ok {I : Hp} : ∀ {ps : List PV} {vs us : List V}, RepL X.K X.mg I ps vs → flatPs ps = some us → vs = us ∧ us.all flatV = true
  | [], vs, us, r, e => by cases e; exact ⟨r.inv0, rfl⟩
  | p :: ps, vs, us, r, e => by
    obtain ⟨v, t, rfl, h1, h2⟩ := r.inv
    unfold flatPs at e
    split at e
    · rename_i w ws w1 w2
      cases e
      obtain ⟨rfl, f1⟩ := flatP_ok h1 w1
      obtain ⟨rfl, f2⟩ := flatPs_ok h2 w2
      exact ⟨rfl, by rw [List.all_cons, f1, f2]; rfl⟩
    · cases e
def seqP : PV → Option (List PV)
  | .lst qs => some qs
  | .tup qs => some qs
  | .scr ns => some (ns.map PV.int)
  | _ => none
theorem seqP_ok {I : Hp} {p : PV} {v : V} {qs : List PV} (r : Rep X.K X.mg I p v) (e : seqP p = some qs) : ∃ a vs, v = .ref a ∧ (SqL X.K I a vs ∨ SqT X.K I a vs) ∧ RepL X.K X.mg I qs vs := by
  cases p with
  | lst ps =>
    cases e
    obtain ⟨a, vs, rfl, h1, h2⟩ := repL r
    exact ⟨a, vs, rfl, .inl (SqL.of h1), h2⟩
  | tup ps =>
    cases e
    obtain ⟨a, vs, rfl, h1, h2⟩ := repT r
    exact ⟨a, vs, rfl, .inr h1, h2⟩
  | scr ns =>
    cases e
    unfold Rep at r
    obtain ⟨a, rfl, h⟩ := r
    exact ⟨a, _, rfl, .inl h, .ints _⟩
  | _ => cases e
def gInF (neg : Bool) (p q : PV) : Option PV := match flatP p, seqP q with
  | some u, some qs => match flatPs qs with
    | some us => some (.bl (if neg then !inV u us else inV u us))
    | none => none
  | _, _ => none
def gInL (neg : Bool) (p q : PV) : Option PV := match toD p, toD q with
  | some d, some (.list ds) => if (SeqAt.shaped d && SeqAt.shaped (.list ds)) = true then some (.bl (if neg then !(ds.any fun z => PyData.eqv z d) else ds.any fun z => PyData.eqv z d)) else none
  | _, _ => none
theorem rIn_of {I H : Hp} {neg : Bool} {p q c : PV} {v u : V} {Q : VK} (s : Same I H) (rp : Rep X.K X.mg I p v) (rq : Rep X.K X.mg I q u) (e : gInF neg p q = some c) (r : Ret X .fz I H c Q) : rIn X.K neg v u H Q := by
  unfold gInF at e
  split at e
  · rename_i w qs w1 w2
    split at e
    · rename_i us w3
      cases e
      obtain ⟨rfl, f1⟩ := flatP_ok rp w1
      obtain ⟨a, vs, rfl, h1, h2⟩ := seqP_ok rq w2
      obtain ⟨rfl, f2⟩ := flatPs_ok h2 w3
      exact ⟨a, vs, rfl, h1.imp (fun z => s.seq z) (fun z => sqt_mono s z), f1, f2, r.here s rep_bl⟩
    · cases e
  · cases e
theorem xInF : VOp X (compareOp .In) .fz (gInF false) := ⟨_, op_in_seq, fun I H p q x y c Q s rp rq e r => rIn_of s rp rq e r⟩
theorem xNotInF : VOp X (compareOp .NotIn) .fz (gInF true) := ⟨_, op_notIn_seq, fun I H p q x y c Q s rp rq e r => rIn_of s rp rq e r⟩
theorem xInL (hu : X.A.units + 65 < cLine) : VOp X (compareOp .In) .fz (gInL false) := by
  refine ⟨_, op_inD hu, fun I H p q x y c Q s rp rq e r => ?_⟩
  unfold gInL at e
  split at e
  · rename_i d ds w1 w2
    split at e
    · rename_i z
      cases e
      rw [Bool.and_eq_true] at z
      exact ⟨d, ds, dp_of s rp w1, dp_of s rq w2, z.1, z.2, r.here s rep_bl⟩
    · cases e
  · cases e
theorem xNotInL (hu : X.A.units + 65 < cLine) : VOp X (compareOp .NotIn) .fz (gInL true) := by
  refine ⟨_, op_notInD hu, fun I H p q x y c Q s rp rq e r => ?_⟩
  unfold gInL at e
  split at e
  · rename_i d ds w1 w2
    split at e
    · rename_i z
      cases e
      rw [Bool.and_eq_true] at z
      exact ⟨d, ds, dp_of s rp w1, dp_of s rq w2, z.1, z.2, r.here s rep_bl⟩
    · cases e
  · cases e
def gIn (neg : Bool) : PV → PV → Option PV := orO (gInF neg) (gInL neg)
theorem xIn (hu : X.A.units + 65 < cLine) : VOp X (compareOp .In) .fz (gIn false) := xInF.or (xInL hu)
theorem xNotIn (hu : X.A.units + 65 < cLine) : VOp X (compareOp .NotIn) .fz (gIn true) := xNotInF.or (xNotInL hu)
end
/-! ### any sequence is walked; any sequence is spread -/
section
variable {X : Cx} {pi : Pin} {W : WX} {ms ms2 : List Md} {e tg : Expr} {mv : MV} {pos : Pos}
def mSq (mv : MV) : MI := fun env => (mv env).bind fun r => match seqP r.1 with
  | some ps => .ok (ps, r.2)
  | none => .bad
theorem SI.any (a : SE X pi W ms e .fz mv) : SI X pi W ms tg e (mSq mv) := by
  refine ⟨PIimp (PIor (pi_list a.pe) (pi_tup a.pe)) fun σ H Q ⟨B, I, ρ, env, st, h⟩ => ?_⟩
  unfold mSq at h
  cases w : mv env with
  | bad => rw [w] at h; exact h.elim
  | exc C fs =>
    rw [w] at h
    exact .inl ⟨B, I, ρ, env, st, by rw [w]; exact h⟩
  | ok r =>
    rw [w] at h
    obtain ⟨p, en⟩ := r
    dsimp only [R.bind_ok] at h
    cases p with
    | lst ps =>
      refine .inl ⟨B, I, ρ, env, st, ?_⟩
      rw [w]
      intro v J H2 ρ2 τ sj st2 t2 en2
      obtain ⟨a, vs, rfl, h1, h2⟩ := repL (ent_fz.mp en2)
      exact ⟨a, rfl, ⟨vs, SqL.of (st2.sub _ _ h1)⟩, (show ∀ T J H2 ρ2, Same I J → Stt X.K X.mg pi B ms en J H2 ρ2 σ → ItOk X T ps J → Q T H2 from h) _ J H2 ρ2 sj st2 (itList h1 h2)⟩
    | tup ps =>
      refine .inr ⟨B, I, ρ, env, st, ?_⟩
      rw [w]
      intro v J H2 ρ2 τ sj st2 t2 en2
      obtain ⟨a, vs, rfl, h1, h2⟩ := repT (ent_fz.mp en2)
      exact ⟨a, rfl, ⟨vs, sqt_mono st2.sub h1⟩, (show ∀ T J H2 ρ2, Same I J → Stt X.K X.mg pi B ms en J H2 ρ2 σ → ItOk X T ps J → Q T H2 from h) _ J H2 ρ2 sj st2 (itTup h1 h2)⟩
    | scr ns =>
      refine .inl ⟨B, I, ρ, env, st, ?_⟩
      rw [w]
      intro v J H2 ρ2 τ sj st2 t2 en2
      have en3 := ent_fz.mp en2
      unfold Rep at en3
      obtain ⟨a, rfl, h1⟩ := en3
      exact ⟨a, rfl, ⟨_, st2.sub.seq h1⟩, (show ∀ T J H2 ρ2, Same I J → Stt X.K X.mg pi B ms en J H2 ρ2 σ → ItOk X T (ns.map PV.int) J → Q T H2 from h) _ J H2 ρ2 sj st2 (itScr h1)⟩
    | _ => exact h.elim
theorem PGor {t : Expr} {g g' : TG} (a : PG X t g) (b : PG X t g') : PG X t (fun v σ H Q => g v σ H Q ∨ g' v σ H Q) := ⟨fun pn sh st hp v u q iv r w => by
  rcases w with w | w
  · exact a.run pn sh st hp v u q iv r w
  · exact b.run pn sh st hp v u q iv r w⟩
def gSqT (h : List PV → List PV → Option (List PV)) : PV → List PV → Option (List PV) := fun p env => match seqP p with
  | some ps => h ps env
  | none => none
theorem SG.seq {ts : List Nat} {es : List Expr} {k : Nat} {n : Nat} {h : List PV → List PV → Option (List PV)} (hc : X.calm = true) (a : SGs X pi ms ms2 ts es h) (hlen : ∀ ps env r, h ps env = some r → ps.length = n) (hn : (assignEach es X.env).length = n := by rfl) (hst : (assignEach es X.env).findIdx? (·.1) = none := by rfl) : SG X pi ms ms2 ts (.Tuple es k pos) (gSqT h) := by
  refine ⟨PGimp (PGor (pg_lst hc a.pg hn hst) (pg_tup hc a.pg hn hst)) fun v σ H Q ⟨B, I, ρ, env, p, e2, st, r, e, kk⟩ => ?_⟩
  unfold gSqT at e
  cases w : seqP p with
  | none => rw [w] at e; cases e
  | some ps =>
    rw [w] at e
    obtain ⟨u, vs, rfl, h1, h2⟩ := seqP_ok r w
    have hl := h2.len.trans (hlen _ _ _ e)
    rcases h1 with h1 | h1
    · exact .inl ⟨u, vs, rfl, st.sub.seq h1, hl, B, I, ρ, env, ps, e2, st, h2, e, kk⟩
    · exact .inr ⟨u, vs, rfl, sqt_mono st.sub h1, hl, B, I, ρ, env, ps, e2, st, h2, e, kk⟩
end
/-! ### lengths of argument lists -/
theorem lnN : ∀ env r, mNil env = .ok r → r.1.length = 0 := fun env r h => by cases h; rfl
theorem lnC {m : MV} {a : MA} {n : Nat} (h : ∀ env r, a env = .ok r → r.1.length = n) : ∀ env r, mCons m a env = .ok r → r.1.length = n + 1 := fun env r e => by
  unfold mCons at e
  cases w : m env with
  | bad => rw [w] at e; cases e
  | exc C fs => rw [w] at e; cases e
  | ok z =>
    rw [w] at e
    dsimp only [R.bind_ok] at e
    cases w2 : a z.2 with
    | bad => rw [w2] at e; cases e
    | exc C fs => rw [w2] at e; cases e
    | ok z2 =>
      rw [w2] at e
      cases e
      simp [h _ _ w2]
/-! ### defs, ready to be called -/
structure Df (P : Program) (w : World) (K : PySem.W.Frag) (mg : Str → Option Value) (base : Heap) (x : Str) (k : Nat) (pms : List Md) (rm : Md) (F : MF) : Prop where
  ex : ∃ f fd ps, FnOk P w K mg base (L2.CX P w) k f fd ps (SpF K mg pms rm F) ∧ mg x = some (.ref f) ∧ PySem.W.keepIn K (.ref f) = true ∧ Binds K fd ps []
theorem Df.at {X : Cx} {x : Str} {k j : Nat} {pms : List Md} {rm : Md} {F : MF} (D : Df X.prog X.w X.K X.mg X.base x k pms rm F) (hr : Room j X.A) (h : k ≤ j) : DefOk X x pms rm F := by
  obtain ⟨f, fd, ps, h1, h2, h3, h4⟩ := D.ex
  exact ⟨k, f, fd, ps, h1, hr.mono h, h2, h3, h4⟩
/-- .. with keywords -/
structure DfK (P : Program) (w : World) (K : PySem.W.Frag) (mg : Str → Option Value) (base : Heap) (x : Str) (k n np : Nat) (ks : List Str) (perm : List Nat) (rm : Md) (F : MF) : Prop where
  ex : ∃ f fd ps, FnOk P w K mg base (L2.CX P w) k f fd ps (SpF K mg (List.replicate np .fz) rm F) ∧ mg x = some (.ref f) ∧ PySem.W.keepIn K (.ref f) = true ∧ KwB K fd ps n ks perm
theorem DfK.at {X : Cx} {x : Str} {k j n np : Nat} {ks : List Str} {perm : List Nat} {rm : Md} {F : MF} (D : DfK X.prog X.w X.K X.mg X.base x k n np ks perm rm F) (hr : Room j X.A) (h : k ≤ j) : DefKw X x n np ks perm rm F := by
  obtain ⟨f, fd, ps, h1, h2, h3, h4⟩ := D.ex
  exact ⟨k, f, fd, ps, h1, hr.mono h, h2, h3, h4⟩
/-- exceptions -/
structure Dx (P : Program) (w : World) (K : PySem.W.Frag) (mg : Str → Option Value) (base : Heap) (x : Str) (k n : Nat) (ks : List (Str × Nat)) : Prop where
  ex : ∃ C fI fd ps, OexC K C ∧ PySem.W.findIn K (.ref C) "__init__" = some (some (.ref fI)) ∧ PySem.W.typeIn K (.ref fI) = some (.type "function") ∧ FnOk P w K mg base (L2.CX P w) k fI fd ps (SpXi C n ks) ∧ Binds K fd ps [] ∧ mg x = some (.ref C)
theorem Dx.at {X : Cx} {x : Str} {k j n : Nat} {ks : List (Str × Nat)} (D : Dx X.prog X.w X.K X.mg X.base x k n ks) (hr : Room j X.A) (h : k + 1 ≤ j) : XOk X x n ks := by
  obtain ⟨C, fI, fd, ps, h1, h2, h3, h4, h5, h6⟩ := D.ex
  exact ⟨C, fI, k, fd, ps, h1, h2, h3, h4, hr.mono h, h5, h6⟩
/-- classes -/
structure Dm (P : Program) (w : World) (K : PySem.W.Frag) (mg : Str → Option Value) (base : Heap) (x : Str) (k n nk : Nat) (ks : List Str) (perm : List Nat) (F : List PV → R (List (Str × PV))) : Prop where
  ex : ∃ C f fd ps, Mk K C f ∧ FnOk P w K mg base (L2.CX P w) k f fd ps (SpI K mg C nk F) ∧ mg x = some (.ref C) ∧ KwB K fd ps (n + 1) ks (0 :: perm.map (· + 1))
theorem Dm.at {X : Cx} {x : Str} {k j n nk : Nat} {ks : List Str} {perm : List Nat} {F : List PV → R (List (Str × PV))} (D : Dm X.prog X.w X.K X.mg X.base x k n nk ks perm F) (hr : Room j X.A) (h : k + 1 ≤ j) : MkOk X x n nk ks perm F := by
  obtain ⟨C, f, fd, ps, h1, h2, h3, h4⟩ := D.ex
  exact ⟨C, f, k, fd, ps, h1, h2, hr.mono h, h3, h4⟩
/-- own == -/
structure Deq (P : Program) (w : World) (K : PySem.W.Frag) (mg : Str → Option Value) (base : Heap) (x : Str) (k : Nat) (F : MF) : Prop where
  ex : ∃ C f fd ps, mg x = some (.ref C) ∧ FnOk P w K mg base (L2.CX P w) k f fd ps (SpF K mg [.fz, .fz] .fz F) ∧ Binds K fd ps [] ∧ EqC K C f
theorem Deq.at {X : Cx} {x : Str} {k j : Nat} {F : MF} (D : Deq X.prog X.w X.K X.mg X.base x k F) (hr : Room j X.A) (h : k + 2 ≤ j) : OwnOk X x F := by
  obtain ⟨C, f, fd, ps, h1, h2, h3, h4⟩ := D.ex
  exact ⟨C, k, f, fd, ps, h1, h2, h3, hr.mono h, h4⟩
theorem room_u64 {k : Nat} {A : Around} (r : Room k A) : A.units + 64 < cLine := by have := r.un; omega
theorem room_u65 {k : Nat} {A : Around} (r : Room k A) : A.units + 65 < cLine := by have := r.un; omega
/-- a def's frame lets out what it should -/
theorem tk_cxD {P : Program} {w : World} {K : PySem.W.Frag} {mg : Str → Option Value} {base : Heap} {N : List Str} {qual : Str} {scope : Scope} {f : Addr} {cdv : Value} {A : Around} {outer : List Env} {sh : Shared} {H : Hp} {E : XK} :
    Takes (cxD P w K mg base N qual scope f cdv A outer sh H E) (fun cls d _ H => E cls d H) := takes_of rfl rfl rfl rfl
theorem po_cxD {P : Program} {w : World} {K : PySem.W.Frag} {mg : Str → Option Value} {base : Heap} {N : List Str} {qual : Str} {scope : Scope} {f : Addr} {cdv : Value} {A : Around} {outer : List Env} {sh : Shared} {H : Hp} {E : XK} :
    PassesOwn (model P w) (cxD P w K mg base N qual scope f cdv A outer sh H E).A (cxD P w K mg base N qual scope f cdv A outer sh H E).env (cxD P w K mg base N qual scope f cdv A outer sh H E).xe := passes_of rfl
end Cq

/-! text Cq24 -/
set_option Elab.async false
set_option linter.all false
set_option maxRecDepth 100000
/-! Cq, part 24: small words for printed derivations. -/
namespace Cq
open PySem PySem.Spec L2

section
variable {X : Cx} {pi : Pin} {W : WX} {ms : List Md} {x : Str} {pos : Pos}
theorem SE.gint {i : Int} (h : ∃ t, X.mg x = some (.int i t)) (hg : Gl X x := by rfl) (hd : (x == ("__debug__" : Str)) = false := by decide) : SE X pi W ms (.Name x pos) .fz (mC (.int i)) := by
  obtain ⟨t, e⟩ := h
  exact .glo (v := .int i) hg e ⟨t, rfl⟩ (fun _ => rep_int) hd
theorem SE.gstr {z : Str} (h : ∃ t, X.mg x = some (.str z t)) (hg : Gl X x := by rfl) (hd : (x == ("__debug__" : Str)) = false := by decide) : SE X pi W ms (.Name x pos) .fz (mC (.str z)) := by
  obtain ⟨t, e⟩ := h
  exact .glo (v := .str z) hg e ⟨t, rfl⟩ (fun _ => rep_str) hd
def yAddG : PV → PV → Option PV := intOp fun i j => .int (i + j)
theorem yAdd : VOpP X (binaryOp .Add) yAddG := pAdd
theorem ySub : VOpP X (binaryOp .Sub) oSub := pSub
theorem yMod : VOpP X (binaryOp .Mod) oMod := pMod
theorem namesOf {c : Value} (hg : Gl X x) (hd : (x == ("__debug__" : Str)) = false) (hm : X.mg x = some c) : Names X x c := ⟨hg, hd, .inl hm⟩
end
def blkB (N : List Str) (sc scope : Scope) (own : List (Str × Nat)) : Bool := decide (scope.kind = .function) && ((scope.names.all fun y => decide (scope.names.lookup y.1 = some y.2)) && ((own.all fun p => decide (N[p.2]? = some p.1)) &&
  ((scope.names.all fun y => !decide (y.2 = .free) || (decide (sc.names.lookup y.1 = some .cell) || decide (sc.names.lookup y.1 = some .free))) && (scope.names.all fun y => !(decide (y.2 = .local) || decide (y.2 = .cell)) || (decide (y.1 ∈ own.map (·.1)) || decide (y.1 ∉ N))))))
theorem bk {N : List Str} {sc scope : Scope} {own : List (Str × Nat)} (h : blkB N sc scope own = true) : BlkOk N sc scope own := by
  unfold blkB at h
  simp only [Bool.and_eq_true, decide_eq_true_eq, List.all_eq_true, Bool.or_eq_true, Bool.not_eq_true', decide_eq_false_iff_not] at h
  obtain ⟨h1, h2, h3, h4, h5⟩ := h
  exact ⟨h1, fun y hy => h2 y hy, fun p hp => h3 p hp, fun y hy e => by
    rcases h4 y hy with z | z
    · exact absurd e z
    · exact z, fun y hy e => by
    rcases h5 y hy with z | z
    · simp only [Bool.or_eq_false_iff, decide_eq_false_iff_not] at z
      rcases e with e | e
      · exact absurd e z.1
      · exact absurd e z.2
    · exact z⟩
def selT (tbl : List (Str × Bool)) (C : Str) : Option Bool := tbl.lookup C
section
variable {K : PySem.W.Frag} {mg : Str → Option Value} {cv : Value} {tbl : List (Str × Bool)} {flds : List Str}
abbrev SelP (K : PySem.W.Frag) (mg : Str → Option Value) (cv : Value) (tbl : List (Str × Bool)) : Prop := ∀ q ∈ tbl, ∃ c, mg q.1 = some (.ref c) ∧ PySem.W.exmOne K (.ref c) cv = some q.2
theorem selN : SelP K mg cv [] := fun q h => by simp at h
theorem selC {n : Str} {b : Bool} {c : Addr} (h1 : mg n = some (.ref c)) (h2 : PySem.W.exmOne K (.ref c) cv = some b) (r : SelP K mg cv tbl) : SelP K mg cv ((n, b) :: tbl) := fun q h => by
  rcases List.mem_cons.mp h with z | z
  · subst z; exact ⟨c, h1, h2⟩
  · exact r q z
theorem look_mem {α : Type} {C : Str} {b : α} : ∀ {tbl : List (Str × α)}, tbl.lookup C = some b → (C, b) ∈ tbl
  | [], h => by simp at h
  | (k, v) :: tbl, h => by
    rw [List.lookup_cons] at h
    cases w : C == k with
    | true =>
      rw [w] at h
      have e : C = k := by simpa using w
      cases h
      rw [e]; exact List.mem_cons_self
    | false => rw [w] at h; exact List.mem_cons_of_mem _ (look_mem h)
theorem selOk {X : Cx} (h : SelP X.K X.mg cv tbl) : SelOk X cv (selT tbl) := fun C c b hm e => by
  obtain ⟨c2, h1, h2⟩ := h _ (look_mem e)
  rw [hm] at h1
  cases h1
  exact h2
abbrev NoP (K : PySem.W.Frag) (c : Addr) (flds : List Str) : Prop := ∀ f, f ∈ flds → PySem.W.findIn K (.ref c) f = some none
theorem noN {c : Addr} : NoP K c [] := fun f h => by simp at h
theorem noC {c : Addr} {f : Str} (h : PySem.W.findIn K (.ref c) f = some none) (r : NoP K c flds) : NoP K c (f :: flds) := fun g hg => by
  rcases List.mem_cons.mp hg with z | z
  · subst z; exact h
  · exact r g z
abbrev XfP (K : PySem.W.Frag) (mg : Str → Option Value) (flds : List Str) (tbl : List (Str × Bool)) : Prop := ∀ q ∈ tbl, q.2 = true → ∃ c, mg q.1 = some (.ref c) ∧ XfC K c ∧ NoP K c flds
theorem xfN : XfP K mg flds [] := fun q h => by simp at h
theorem xfS {n : Str} (r : XfP K mg flds tbl) : XfP K mg flds ((n, false) :: tbl) := fun q h t => by
  rcases List.mem_cons.mp h with z | z
  · subst z; cases t
  · exact r q z t
theorem xfY {n : Str} {c : Addr} (h1 : mg n = some (.ref c)) (h2 : XfC K c) (h3 : NoP K c flds) (r : XfP K mg flds tbl) : XfP K mg flds ((n, true) :: tbl) := fun q h t => by
  rcases List.mem_cons.mp h with z | z
  · subst z; exact ⟨c, h1, h2, h3⟩
  · exact r q z t
theorem xfT {C : Str} {cc : Addr} (h : XfP K mg flds tbl) (hs : selT tbl C = some true) (hm : mg C = some (.ref cc)) : XfC K cc ∧ NoP K cc flds := by
  obtain ⟨c, h1, h2⟩ := h _ (look_mem hs) rfl
  rw [hm] at h1
  cases h1
  exact h2
abbrev KsP (K : PySem.W.Frag) (c : Addr) (n : Nat) (ks : List (Str × Nat)) : Prop := ∀ q ∈ ks, q.2 < n + 1 ∧ PySem.W.findIn K (.ref c) q.1 = some none
theorem ksN {c : Addr} {n : Nat} : KsP K c n [] := fun q h => by simp at h
theorem ksC {c : Addr} {n i : Nat} {f : Str} {ks : List (Str × Nat)} (hi : i < n + 1) (h : PySem.W.findIn K (.ref c) f = some none) (r : KsP K c n ks) : KsP K c n ((f, i) :: ks) := fun q hq => by
  rcases List.mem_cons.mp hq with z | z
  · subst z; exact ⟨hi, h⟩
  · exact r q z
end
theorem _root_.L2.FunD.kwB {K : PySem.W.Frag} {x qual : Str} {params : Arguments} {body : List Stmt} {scope : Scope} {f : Addr} {fd : FuncData} {ps ks : List Str} {n : Nat} {perm : List Nat} (F : FunD K x qual params body scope [] [] f fd)
    (h : ∀ (kV doc pm : Value) (an : Option Addr) (cdv ct : Value) (us ws : List Value), us.length = n → ws.length = ks.length → bindArgs (PySem.W.fnOf x qual params body scope .none kV doc pm an cdv ct) ⟨us, ks.zip ws⟩ = pure (ps.zip (gP perm (us ++ ws)))) : KwB K fd ps n ks perm := by
  obtain ⟨oc, od, dV, kV, doc, pm, an, cdv, ct, osl, rfl, lk, hcd, hD, hK⟩ := F.ex
  rcases hD with ⟨_, rfl⟩ | ⟨e, _⟩
  · exact fun s us ws _ l1 l2 => .of_eq (h kV doc pm an cdv ct us ws l1 l2)
  · exact absurd rfl e
end Cq

/-! text Cq25 -/
set_option Elab.async false
set_option linter.all false
set_option maxRecDepth 100000
/-! Cq, part 25: the end of a law's proof. -/
namespace Cq
open PySem PySem.Spec L2
theorem spF_top {K : PySem.W.Frag} {mg : Str → Option Value} {F : MF} {H : Hp} {a : Addr} {ns : List Int} {rs : List PV} {Q : VK} (r : SqL K H a (ns.map V.int)) (e : F [.scr ns] = .ok (.bl true, rs)) (k : ∀ H2, Q (.bl true) H2) :
    SpF K mg [.fz] .fz F [.ref a] H Q (fun _ _ _ => False) := by
  have rp : RepL K mg H [.scr ns] [.ref a] := .cons (by unfold Rep; exact ⟨a, rfl, r⟩) .nil
  have s0 : Stt K mg ⟨[], none⟩ ⟨H, H, fun _ => none, [], [], [], []⟩ [] [] H H (fun _ => none) [] :=
    ⟨⟨.refl _, .refl _, fun _ _ e _ => e, fun _ _ e => .inl e, fun _ _ e => (by cases e), fun _ e => e, fun _ h => absurd h (by show ¬ (_ ∈ ([] : List Nat)); simp), fun _ _ e => (by cases e), fun _ e => (by cases e)⟩, rfl, rfl, rfl, rfl, fun i m p v h1 h2 h3 => by simp at h1⟩
  have ha := argOk_of (σ := ([] : L2.St)) rp
  have ok : okA ([] : List Md) (List.replicate 1 .fz) (List.replicate 1 none) = true := okA_none _
  have c := call_start s0 ha ok
  rw [fill_none] at c
  refine ⟨rfl, H, _, _, c, ?_⟩
  rw [e]
  intro v J H2 ρ2 τ sj st t2 en
  unfold Ent at en
  obtain ⟨x, e1, e2⟩ := en
  cases e1
  unfold Rep at e2
  rw [e2]
  exact k H2
theorem walk_cq {l : PySem.W.OpenLaw} {n k : Nat} {q : Program} {loose : List Str} {XP : (Str → Option Value) → Heap → Prop} {YP : World → Heap → Prop} {d : DefRec} {x : Str}
    (hn : l.most = some n) (hn2 : n ≤ sizeLine) (hdf : d.params.defaults = []) (hr : Room k callerA)
    (F : ∀ (w : World) (mg : Str → Option Value) (fa : Addr) (h : Heap), YP w h → h.Ns mainGlobals mg → mg d.name = some (.ref fa) →
      ∃ (K : PySem.W.Frag) (fd : FuncData) (sp : Sp), K.In h ∧ (∀ (s : Shared) (u : Value), BindsTo s fd ⟨[u], []⟩ [(x, u)]) ∧
        (∀ (H : Hp) (a : Addr) (ns : List Int), ns.length ≤ n → SqL K H a (ns.map V.int) → sp [.ref a] H (fun v _ => v = .bl true) fun _ _ _ => False) ∧
        ∀ base : Heap, K.In base → base.Ns mainGlobals mg → FnOk l.prog w K mg base (L2.CX l.prog w) k fa fd [x] sp) :
    PySem.W.WalkO q loose XP YP l.row.toRowW d [] (fun f vs => PySem.call f vs) := by
  refine Att.attach_call hn hdf fun w s₀ s₁ mg mb fa o pm cd doc a vs ns G Y ho hd hcd hmg hobj hints hlen hg => ?_
  obtain ⟨K, fd, sp, KX, hb, hsp, hF⟩ := F w mg fa _ Y G.T.g hmg
  exact law_call KX G.T.g G.T.b G.T.builtins G.T.nolimit hg hobj hints (Nat.le_trans hlen hn2) hr hF hb (fun H _ hS => hsp H a ns hlen hS) fun H e s' ⟨_, _, _, _, _, _, _, _, _, _, _, _, z⟩ => z.elim
theorem fxAt {K : PySem.W.Frag} {fx : List Fx} (h : (fx.all fun f => f.ok K) = true) (i : Nat) {f : Fx} (e : fx[i]? = some f) : f.ok K = true :=
  List.all_eq_true.mp h _ (List.mem_of_getElem? e)
theorem saysD {fa : List He.Fa} {fn : List He.DefD} {ex : PySem.W.Frag → Bool} {w : World} {h : Heap} {K : PySem.W.Frag} (c : He.SaysX fa fn [] [] ex w h K) : He.SaysD fa fn K := congrArg (fun z : He.AlT => z.1) c.t
end Cq

/-! text Cq26 -/
set_option Elab.async false
set_option linter.all false
set_option maxRecDepth 100000
/-! Cq, part 26: loops and comprehensions of mirrors, by invariants. -/
namespace Cq
open PySem PySem.Spec L2
theorem forM_inv {ML : List Md} {g : PV → List PV → Option (List PV)} {body : MS} {Inv : Nat → List PV → Prop} : ∀ {ps : List PV} {n : Nat} {env : List PV}, Inv n env →
    (∀ i p e, ps[i]? = some p → Inv (n + i) e → ∃ e1 e2, g p e = some e1 ∧ (body e1 = .ok (.nx e2) ∧ Inv (n + i + 1) (clr ML e2) ∨ body e1 = .ok (.ct e2) ∧ Inv (n + i + 1) e2)) → ∃ e, forM ML g body ps env = .ok (.nx e) ∧ Inv (n + ps.length) e
  | [], n, env, h0, _ => ⟨env, rfl, by simpa using h0⟩
  | p :: ps, n, env, h0, step => by
    obtain ⟨e1, e2, h1, h2⟩ := step 0 p env rfl h0
    have nxt : ∀ e3, Inv (n + 0 + 1) e3 → ∃ e, forM ML g body ps e3 = .ok (.nx e) ∧ Inv (n + (p :: ps).length) e := fun e3 hi => by
      obtain ⟨e, k1, k2⟩ := forM_inv (ps := ps) (n := n + 1) (env := e3) hi fun i q e hq hie => by
        obtain ⟨f1, f2, k1, k2⟩ := step (i + 1) q e (by simpa using hq) (by rw [show n + (i + 1) = n + 1 + i from by omega]; exact hie)
        exact ⟨f1, f2, k1, by rw [show n + 1 + i + 1 = n + (i + 1) + 1 from by omega]; exact k2⟩
      exact ⟨e, k1, by rw [List.length_cons, show n + (ps.length + 1) = n + 1 + ps.length from by omega]; exact k2⟩
    rcases h2 with ⟨h2, h3⟩ | ⟨h2, h3⟩
    · obtain ⟨e, k1, k2⟩ := nxt _ h3
      refine ⟨e, ?_, k2⟩
      unfold forM
      rw [h1]
      dsimp only
      rw [h2]
      exact k1
    · obtain ⟨e, k1, k2⟩ := nxt _ h3
      refine ⟨e, ?_, k2⟩
      unfold forM
      rw [h1]
      dsimp only
      rw [h2]
      exact k1
/-- a loop that may leave by return: either it is run through, or it ends by one of the returns that are allowed -/
theorem forM_ret {ML : List Md} {g : PV → List PV → Option (List PV)} {body : MS} {Inv : Nat → List PV → Prop} {Rt : PV → List PV → Prop} : ∀ {ps : List PV} {n : Nat} {env : List PV}, Inv n env →
    (∀ i p e, ps[i]? = some p → Inv (n + i) e → ∃ e1, g p e = some e1 ∧ ((∃ e2, body e1 = .ok (.nx e2) ∧ Inv (n + i + 1) (clr ML e2)) ∨ ∃ v e2, body e1 = .ok (.rt v e2) ∧ Rt v e2)) →
    (∃ e, forM ML g body ps env = .ok (.nx e) ∧ Inv (n + ps.length) e) ∨ ∃ v e, forM ML g body ps env = .ok (.rt v e) ∧ Rt v e
  | [], n, env, h0, _ => .inl ⟨env, rfl, by simpa using h0⟩
  | p :: ps, n, env, h0, step => by
    obtain ⟨e1, h1, h2⟩ := step 0 p env rfl h0
    rcases h2 with ⟨e2, h2, h3⟩ | ⟨v, e2, h2, h3⟩
    · have := forM_ret (ps := ps) (n := n + 1) (env := clr ML e2) (Rt := Rt) h3 fun i q e hq hie => by
        obtain ⟨f1, k1, k2⟩ := step (i + 1) q e (by simpa using hq) (by rw [show n + (i + 1) = n + 1 + i from by omega]; exact hie)
        exact ⟨f1, k1, by rw [show n + 1 + i + 1 = n + (i + 1) + 1 from by omega]; exact k2⟩
      have e0 : forM ML g body (p :: ps) env = forM ML g body ps (clr ML e2) := by
        conv => lhs; unfold forM
        rw [h1]; dsimp only; rw [h2]; rfl
      rcases this with ⟨e, k1, k2⟩ | ⟨v, e, k1, k2⟩
      · exact .inl ⟨e, by rw [e0]; exact k1, by rw [List.length_cons, show n + (ps.length + 1) = n + 1 + ps.length from by omega]; exact k2⟩
      · exact .inr ⟨v, e, by rw [e0]; exact k1, k2⟩
    · refine .inr ⟨v, e2, ?_, h3⟩
      unfold forM
      rw [h1]; dsimp only; rw [h2]; rfl
/-- a comprehension -/
theorem lcM_inv {vs : List Nat} {g : PV → List PV → Option (List PV)} {t : MB} {k : List PV → List PV → R (List PV × List PV)} {Inv : Nat → List PV → List PV → Prop} : ∀ {ps acc env : List PV} {n : Nat}, Inv n acc env →
    (∀ i p a e, ps[i]? = some p → Inv (n + i) a e → ∃ e1 b e2, g p e = some e1 ∧ t e1 = .ok (b, e2) ∧ (b = true → ∃ a2 e3, k a e2 = .ok (a2, e3) ∧ Inv (n + i + 1) a2 (wipeE vs e3)) ∧ (b = false → Inv (n + i + 1) a (wipeE vs e2))) →
    ∃ a e, lcM vs g t k ps acc env = .ok (a, e) ∧ Inv (n + ps.length) a e
  | [], acc, env, n, h0, _ => ⟨acc, env, rfl, by simpa using h0⟩
  | p :: ps, acc, env, n, h0, step => by
    obtain ⟨e1, b, e2, h1, h2, h3, h4⟩ := step 0 p acc env rfl h0
    have nxt : ∀ a3 e3, Inv (n + 0 + 1) a3 e3 → ∃ a e, lcM vs g t k ps a3 e3 = .ok (a, e) ∧ Inv (n + (p :: ps).length) a e := fun a3 e3 hi => by
      obtain ⟨a, e, k1, k2⟩ := lcM_inv (ps := ps) (acc := a3) (env := e3) (n := n + 1) hi fun i q a e hq hie => by
        obtain ⟨f1, b, f2, k1, k2, k3, k4⟩ := step (i + 1) q a e (by simpa using hq) (by rw [show n + (i + 1) = n + 1 + i from by omega]; exact hie)
        rw [show n + (i + 1) + 1 = n + 1 + i + 1 from by omega] at k3 k4
        exact ⟨f1, b, f2, k1, k2, k3, k4⟩
      exact ⟨a, e, k1, by rw [List.length_cons, show n + (ps.length + 1) = n + 1 + ps.length from by omega]; exact k2⟩
    cases b with
    | true =>
      obtain ⟨a2, e3, q1, q2⟩ := h3 rfl
      obtain ⟨a, e, k1, k2⟩ := nxt _ _ q2
      refine ⟨a, e, ?_, k2⟩
      unfold lcM
      rw [h1]
      dsimp only
      rw [h2]
      show ((k acc e2).bind _) = _
      rw [q1]
      exact k1
    | false =>
      obtain ⟨a, e, k1, k2⟩ := nxt _ _ (h4 rfl)
      refine ⟨a, e, ?_, k2⟩
      unfold lcM
      rw [h1]
      dsimp only
      rw [h2]
      exact k1
theorem for_ok {ML : List Md} {it : MI} {g : PV → List PV → Option (List PV)} {body : MS} {env ps env2 e : List PV} (h1 : it env = .ok (ps, env2)) (h2 : forM ML g body ps (clr ML env2) = .ok (.nx e)) : mFor ML it g body env = .ok (.nx e) := by
  unfold mFor; rw [h1]; exact h2
theorem seq_ok {m1 m2 : MS} {env e : List PV} (h1 : m1 env = .ok (.nx e)) : mSeq m1 m2 env = m2 e := by
  unfold mSeq; rw [h1]; rfl
theorem seq_rt {m1 m2 : MS} {env e : List PV} {v : PV} (h1 : m1 env = .ok (.rt v e)) : mSeq m1 m2 env = .ok (.rt v e) := by
  unfold mSeq; rw [h1]; rfl
theorem lc_ok {vs : List Nat} {it : MI} {g : PV → List PV → Option (List PV)} {t : MB} {k : List PV → List PV → R (List PV × List PV)} {env ps env2 a e : List PV} (h1 : it env = .ok (ps, env2)) (h2 : lcM vs g t k ps [] (wipeE vs env2) = .ok (a, e)) :
    mLc vs it g t k env = .ok (.lst a, restE vs env2 e) := by
  unfold mLc; rw [h1]
  show ((lcM vs g t k ps [] (wipeE vs env2)).bind _) = _
  rw [h2]; rfl
theorem set_ok {i : Nat} {m : MV} {env e : List PV} {p : PV} (h : m env = .ok (p, e)) : mSet i m env = .ok (.nx (e.set i p)) := by
  unfold mSet; rw [h]; rfl
theorem bin_ok {g : PV → PV → Option PV} {m1 m2 : MV} {env e1 e2 : List PV} {p q c : PV} (h1 : m1 env = .ok (p, e1)) (h2 : m2 e1 = .ok (q, e2)) (h3 : g p q = some c) : mBin g m1 m2 env = .ok (c, e2) := by
  unfold mBin; rw [h1]; show ((m2 e1).bind _) = _; rw [h2]; show ofO (g p q) e2 = _; rw [h3]; rfl
theorem ret_ok {P : List Md} {m : MV} {env e : List PV} {p : PV} (h : m env = .ok (p, e)) : mRet P m env = .ok (.rt p (clr P e)) := by
  unfold mRet; rw [h]; rfl
theorem if_t {α : Type} {c : MB} {m1 m2 : List PV → R α} {env e : List PV} (h : c env = .ok (true, e)) : mIf c m1 m2 env = m1 e := by
  unfold mIf; rw [h]; rfl
theorem if_f {α : Type} {c : MB} {m1 m2 : List PV → R α} {env e : List PV} (h : c env = .ok (false, e)) : mIf c m1 m2 env = m2 e := by
  unfold mIf; rw [h]; rfl
theorem asg_ok {g : PV → List PV → Option (List PV)} {m : MV} {env e e2 : List PV} {p : PV} (h : m env = .ok (p, e)) (h2 : g p e = some e2) : mAsg g m env = .ok (.nx e2) := by
  unfold mAsg; rw [h]; show (match g p e with | some e => R.ok (Out.nx e) | none => .bad) = _; rw [h2]
theorem par_ok {i j : Nat} {m1 m2 : MV} {env e1 e2 : List PV} {p q : PV} (h1 : m1 env = .ok (p, e1)) (h2 : m2 e1 = .ok (q, e2)) : mPar i j m1 m2 env = .ok (.nx ((e2.set i p).set j q)) := by
  unfold mPar; rw [h1]; show ((m2 e1).bind _) = _; rw [h2]; rfl
theorem def_ok {n : Nat} {pms : List Md} {rm : Md} {m : MS} {ps e : List PV} {p : PV} (h : m (ps ++ List.replicate (n - pms.length) .non) = .ok (.rt p e)) : mDef n pms rm m ps = .ok (p, e.take pms.length) := by
  unfold mDef; rw [h]; rfl
/-- a while loop: a measure goes down -/
theorem whileM_inv {ML : List Md} {c : MB} {body : MS} {Inv : Nat → List PV → Prop} {Fin : List PV → Prop}
    (step : ∀ k e, Inv k e → ∃ b e1, c e = .ok (b, e1) ∧ (b = false → Fin e1) ∧ (b = true → ∃ k2 e2, k2 < k ∧ body e1 = .ok (.nx e2) ∧ Inv k2 (clr ML e2))) :
    ∀ {f k : Nat} {env : List PV}, k < f → Inv k env → ∃ e, whileM ML c body f env = .ok (.nx e) ∧ Fin e
  | 0, k, env, hf, _ => absurd hf (Nat.not_lt_zero _)
  | f + 1, k, env, hf, h => by
    obtain ⟨b, e1, h1, h2, h3⟩ := step k env h
    cases b with
    | false =>
      refine ⟨e1, ?_, h2 rfl⟩
      unfold whileM
      rw [h1]; rfl
    | true =>
      obtain ⟨k2, e2, q1, q2, q3⟩ := h3 rfl
      obtain ⟨e, r1, r2⟩ := whileM_inv step (f := f) (k := k2) (env := clr ML e2) (by omega) q3
      refine ⟨e, ?_, r2⟩
      unfold whileM
      rw [h1]
      show ((body e1).bind _) = _
      rw [q2]
      exact r1
end Cq

/-! text Gk00 -/
set_option Elab.async false
set_option linter.all false
set_option maxRecDepth 100000
set_option maxHeartbeats 4000000
namespace CqL
open PySem PySem.Spec L2 Cq
def top (i : Nat) : Stmt := PySem.Challenge.pw_metricbench_k00_spaces.main.body.getD i (.Pass ⟨0, 0, 0, 0⟩)
abbrev s_Space___eq__ : Stmt := inClass (top 14) 1
abbrev s__law_box : Stmt := top 18
abbrev s__law_cell : Stmt := top 17
abbrev s__law_closed : Stmt := top 22
abbrev s__law_take : Stmt := top 19
abbrev s__law_mixed : Stmt := top 21
abbrev s__law_pairs_in : Stmt := top 23
abbrev s__law_tree_rows : Stmt := top 24
abbrev s__law_drawn : Stmt := top 25
abbrev s__law_size : Stmt := top 26
abbrev s__law_tuple : Stmt := top 27
abbrev s__law_with : Stmt := top 32
abbrev s__law_spoilt : Stmt := top 33
abbrev s__law_fits : Stmt := top 29
abbrev s__law_due : Stmt := top 30
abbrev s_is_integer : Stmt := top 5
abbrev s_is_between : Stmt := top 6
abbrev s_is_item : Stmt := top 12
abbrev s_is_tuple_of : Stmt := top 7
abbrev s_are_numbers : Stmt := top 11
abbrev s_shortcut_in : Stmt := top 13
abbrev s_InvalidRows___init__ : Stmt := inClass (top 2) 0
abbrev s_Shortcut___init__ : Stmt := inClass (top 3) 0
abbrev s_Space___init__ : Stmt := inClass (top 14) 0
abbrev s__law_made : Stmt := top 28
abbrev s__law_same : Stmt := top 20
abbrev s_is_space : Stmt := top 15
abbrev s__law_value_right : Stmt := top 31
abbrev s_law : Stmt := top 34
/-! ### mirrors -/
def m_Space___eq__ : MS :=
 (mRet [.un, .un] (mAndV (mUn (gIsiC "Space") (mVar 1)) (mBin (gEq false) (mUn (gFld "Space" "rows") (mVar 0)) (mUn (gFld "Space" "rows") (mVar 1)))))
def F_Space___eq__ : MF := mDef 2 [.fz, .fz] .fz m_Space___eq__
def m__law_box : MS :=
 (mRet [.un] (mArgs gLstD (mCons (mArgs gAbs (mCons (mVar 0) mNil)) (mCons (mBin oGe (mArgs gAbs (mCons (mVar 0) mNil)) (mBin oPow (mC (.int 10)) (mC (.int 18)))) (mCons (mBin oMod (mArgs gInt (mCons (mArgs gAbs (mCons (mVar 0) mNil)) mNil)) (mC (.int 2147483629))) (mCons (mC (.int 0)) mNil))))))
def F__law_box : MF := mDef 1 [.fz] .ow m__law_box
def m__law_cell : MS :=
 (mRet [.un, .un] (mIf (mIsB (mBin oLt (mVar 1) (mArgs gLen (mCons (mVar 0) mNil)))) (mBin gIx (mVar 0) (mVar 1)) (mBin gAdd (mBin gMul (mC (.int 6949)) (mVar 1)) (mBin oMod (mArgs gInt (mCons (mArgs gSum (mCons (mSl (mVar 0) mNoPart (mPart (mC (.int 1)))) mNil)) mNil)) (mC (.int 1000033))))))
def F__law_cell : MF := mDef 2 [.fz, .fz] .fz m__law_cell
def m__law_closed_body1 : MS :=
 (mSeq (mAsg (gSetOwn2 2 (pVar 4) (pVar 5)) (mView (mArgs gMin (mCons (mBin gIx (mBin gIx (mVar 2) (mVar 4)) (mVar 5)) (mCons (mBin gAdd (mBin gIx (mBin gIx (mVar 2) (mVar 4)) (mVar 3)) (mBin gIx (mBin gIx (mVar 2) (mVar 3)) (mVar 5))) mNil)))))
 (mWk [.fz, .fz, .ow2, .fz, .fz, .un, .un] mSkip))
def m__law_closed_body2 : MS :=
 (mSeq (mFor [.fz, .fz, .ow2, .fz, .fz, .un, .un] (mRg gRg1 (mCons (mVar 1) mNil)) (gN 5) m__law_closed_body1)
 (mWk [.fz, .fz, .ow2, .fz, .un, .un, .un] mSkip))
def m__law_closed_body3 : MS :=
 (mSeq (mFor [.fz, .fz, .ow2, .fz, .un, .un, .un] (mRg gRg1 (mCons (mVar 1) mNil)) (gN 4) m__law_closed_body2)
 (mWk [.fz, .fz, .ow2, .un, .un, .un, .un] mSkip))
def m__law_closed : MS :=
 (mSeq (mSet 1 (mArgs gLen (mCons (mVar 0) mNil)))
 (mSeq (mSet 2 (mLc [6] (mSq (mVar 0)) (gN 6) mYes (kElt (mArgs gList (mCons (mVar 6) mNil)))))
 (mSeq (mFor [.fz, .fz, .ow2, .un, .un, .un, .un] (mRg gRg1 (mCons (mVar 1) mNil)) (gN 3) m__law_closed_body3)
 (mRetOwn [.un, .un, .un, .un, .un, .un, .un] 2))))
def F__law_closed : MF := mDef 7 [.fz] .ow2 m__law_closed
def m__law_take_th1 : MS :=
 (mSeq (mSet 2 (mView (mBin oMod (mArgs gInt (mCons (mBin gIx (mVar 0) (mC (.int 0))) mNil)) (mVar 1))))
 (mSeq (mAsg (gSetOwn 0 (pC (.int 0))) (mView (mBin oDiv (mBin gIx (mVar 0) (mC (.int 0))) (mVar 1))))
 (mRet [.ow, .un, .un, .un] (mVar 2))))
def m__law_take : MS :=
 (mSeq (mIf (mViewB (mAnd (mTru (mBin gIx (mVar 0) (mC (.int 1)))) (mIsB (mBin oGt (mBin gIx (mVar 0) (mC (.int 0))) (mC (.int 0))))))
 m__law_take_th1
 mSkip)
 (mSeq (mAsg (gSetOwn 0 (pC (.int 3))) (mView (mBin gAdd (mBin gIx (mVar 0) (mC (.int 3))) (mC (.int 1)))))
 (mSeq (mSet 3 (mView (mBin oMod (mArgs gInt (mCons (mBin oPow (mBin gAdd (mBin gAdd (mBin gIx (mVar 0) (mC (.int 2))) (mBin gMul (mC (.int 15487517)) (mBin gIx (mVar 0) (mC (.int 3))))) (mC (.int 170362694))) (mC (.int 5))) mNil)) (mC (.int 2147483647)))))
 (mRet [.ow, .un, .un, .un] (mView (mBin oMod (mArgs gInt (mCons (mBin oDiv (mBin oMod (mArgs gInt (mCons (mBin oPow (mBin gAdd (mBin gMul (mVar 3) (mC (.int 48271))) (mBin gMul (mC (.int 104729)) (mBin gIx (mVar 0) (mC (.int 3))))) (mC (.int 3))) mNil)) (mC (.int 2147483587))) (mC (.int 64))) mNil)) (mVar 1)))))))
def F__law_take : MF := mDef 4 [.ow, .fz] .fz m__law_take
def m__law_mixed_body1 : MS :=
 (mDrop (mPush 3 (mPopAt 2 (mCall [some 0, none] F__law_take (mOwnA (mCons (mView (mArgs gLen (mCons (mVar 2) mNil))) mNil))))))
def m__law_mixed : MS :=
 (mSeq (mPar 2 3 (mUn (fun p => gLr1 [p]) (mVar 1)) (mArgs gLstD mNil))
 (mSeq (mWhile [.ow, .fz, .ow, .ow] (fun _ => 4096) (mViewB (mIsB (mBin (gEq true) (mVar 2) (mArgs gLstD mNil)))) m__law_mixed_body1)
 (mRet [.ow, .un, .un, .un] (mVar 3))))
def F__law_mixed : MF := mDef 4 [.ow, .fz] .fz m__law_mixed
def m__law_pairs_in_elt1 : MV :=
 (mArgs gTupD (mCons (mVar 2) (mCons (mVar 3) mNil)))
def m__law_pairs_in_body2 : MS :=
 (mSeq (mDrop (mExt 1 (mLc [3] (mRg gRg2 (mCons (mBin gAdd (mVar 2) (mC (.int 1))) (mCons (mVar 0) mNil))) (gN 3) mYes (kElt m__law_pairs_in_elt1))))
 (mWk [.fz, .ow, .un, .un] mSkip))
def m__law_pairs_in : MS :=
 (mSeq (mSet 1 (mArgs gLstD mNil))
 (mSeq (mFor [.fz, .ow, .un, .un] (mRg gRg1 (mCons (mVar 0) mNil)) (gN 2) m__law_pairs_in_body2)
 (mRet [.un, .un, .un, .un] (mVar 1))))
def F__law_pairs_in : MF := mDef 4 [.fz] .fz m__law_pairs_in
def m__law_tree_rows_elt1 : MV :=
 (mBin gRepL (mArgs gLstD (mCons (mC (.int 0)) mNil)) (mVar 3))
def m__law_tree_rows_body2 : MS :=
 (mSeq (mAsg (gSetOwn2 4 (pVar 5) (pVar 8)) (mView (mBin gAdd (mBin gIx (mBin gIx (mVar 4) (mVar 6)) (mVar 8)) (mVar 7))))
 (mSeq (mAsg (gSetOwn2 4 (pVar 8) (pVar 5)) (mView (mBin gIx (mBin gIx (mVar 4) (mVar 5)) (mVar 8))))
 (mWk [.ow, .fz, .fz, .fz, .ow2, .fz, .fz, .fz, .un, .un] mSkip)))
def m__law_tree_rows_body3 : MS :=
 (mSeq (mPar 6 7 (mCall [some 0, none] F__law_take (mOwnA (mCons (mVar 5) mNil))) (mBin gAdd (mC (.int 1)) (mCall [some 0, none] F__law_take (mOwnA (mCons (mVar 2) mNil)))))
 (mSeq (mFor [.ow, .fz, .fz, .fz, .ow2, .fz, .fz, .fz, .un, .un] (mRg gRg1 (mCons (mVar 5) mNil)) (gN 8) m__law_tree_rows_body2)
 (mWk [.ow, .fz, .fz, .fz, .ow2, .un, .un, .un, .un, .un] mSkip)))
def m__law_tree_rows_elt4 : MV :=
 (mBin gIx (mBin gIx (mVar 4) (mVar 5)) (mVar 8))
def m__law_tree_rows_elt5 : MV :=
 (mLc [8] (mSq (mVar 9)) (gN 8) mYes (kElt m__law_tree_rows_elt4))
def m__law_tree_rows : MS :=
 (mSeq (mSet 3 (mBin gAdd (mVar 1) (mCall [some 0, none] F__law_take (mOwnA (mCons (mBin gAdd (mVar 1) (mC (.int 1))) mNil)))))
 (mSeq (mSet 4 (mLc [5] (mRg gRg1 (mCons (mVar 3) mNil)) (gN 5) mYes (kElt m__law_tree_rows_elt1)))
 (mSeq (mFor [.ow, .fz, .fz, .fz, .ow2, .un, .un, .un, .un, .un] (mRg gRg2 (mCons (mC (.int 1)) (mCons (mVar 3) mNil))) (gN 5) m__law_tree_rows_body3)
 (mSeq (mSet 9 (mSl (mCall [some 0, none] F__law_mixed (mOwnA (mCons (mVar 3) mNil))) mNoPart (mPart (mVar 1))))
 (mRet [.ow, .un, .un, .un, .un, .un, .un, .un, .un, .un] (mLc [5] (mSq (mVar 9)) (gN 5) mYes (kElt m__law_tree_rows_elt5)))))))
def F__law_tree_rows : MF := mDef 10 [.ow, .fz, .fz] .ow2 m__law_tree_rows
def m__law_drawn_elt1 : MV :=
 (mBin gRepL (mArgs gLstD (mCons (mC (.int 0)) mNil)) (mVar 1))
def m__law_drawn_th2 : MS :=
 (mSet 7 (mIf (mIsB (mBin (gEq false) (mCall [some 0, none] F__law_take (mOwnA (mCons (mC (.int 3)) mNil))) (mC (.int 0)))) (mC (.int 1)) (mVar 1)))
def m__law_drawn_body3 : MS :=
 (mSeq (mSet 7 (mBin gAdd (mC (.int 1)) (mCall [some 0, none] F__law_take (mOwnA (mCons (mVar 3) mNil)))))
 (mSeq (mIf (mIsB (mBin (gEq false) (mVar 2) (mC (.int 6))))
 m__law_drawn_th2
 mSkip)
 (mSeq (mAsg (gSetOwn2 4 (pVar 5) (pVar 6)) (mVar 7))
 (mSeq (mAsg (gSetOwn2 4 (pVar 6) (pVar 5)) (mVar 7))
 (mWk [.ow, .fz, .fz, .fz, .ow2, .un, .un, .un, .un, .un, .un, .un, .un, .un, .un, .un, .un, .un] mSkip)))))
def m__law_drawn_body4 : MS :=
 (mSeq (mPar 5 6 (mBin gIx (mVar 8) (mVar 9)) (mBin gIx (mVar 8) (mCall [some 0, none] F__law_take (mOwnA (mCons (mVar 9) mNil)))))
 (mSeq (mAsg (gSetOwn2 4 (pVar 5) (pVar 6)) (mC (.int 1)))
 (mSeq (mAsg (gSetOwn2 4 (pVar 6) (pVar 5)) (mC (.int 1)))
 (mWk [.ow, .fz, .fz, .fz, .ow2, .un, .un, .un, .fz, .un, .un, .un, .un, .un, .un, .un, .un, .un] mSkip))))
def m__law_drawn_th5 : MS :=
 (mSeq (mSet 8 (mCall [some 0, none] F__law_mixed (mOwnA (mCons (mVar 1) mNil))))
 (mSeq (mFor [.ow, .fz, .fz, .fz, .ow2, .un, .un, .un, .fz, .un, .un, .un, .un, .un, .un, .un, .un, .un] (mRg gRg2 (mCons (mC (.int 1)) (mCons (mVar 1) mNil))) (gN 9) m__law_drawn_body4)
 (mWk [.ow, .fz, .fz, .fz, .ow2, .un, .un, .un, .un, .un, .un, .un, .un, .un, .un, .un, .un, .un] mSkip)))
def m__law_drawn_th6 : MS :=
 (mSeq (mFor [.ow, .fz, .fz, .fz, .ow2, .un, .un, .un, .un, .un, .un, .un, .un, .un, .un, .un, .un, .un] (mSq (mCall [none] F__law_pairs_in (mCons (mVar 1) mNil))) (gSqT (gsCons (gN 5) (gsCons (gN 6) gsNil))) m__law_drawn_body3)
 (mSeq (mIf (mIsB (mBin (gEq false) (mVar 2) (mC (.int 6))))
 m__law_drawn_th5
 mSkip)
 (mRet [.ow, .un, .un, .un, .un, .un, .un, .un, .un, .un, .un, .un, .un, .un, .un, .un, .un, .un] (mCall [none] F__law_closed (mCons (mVar 4) mNil)))))
def m__law_drawn_th7 : MS :=
 (mSeq (mAsg (gSetOwn2 4 (pVar 5) (pVar 6)) (mBin gAdd (mView (mBin gAdd (mBin gIx (mBin gIx (mVar 4) (mVar 5)) (mVar 6)) (mC (.int 1)))) (mBin gMul (mCall [some 0, none] F__law_take (mOwnA (mCons (mC (.int 2)) mNil))) (mArgs gInt (mCons (mBin oGt (mVar 6) (mVar 5)) mNil)))))
 (mAsg (gSetOwn2 4 (pVar 6) (pVar 5)) (mView (mBin gIx (mBin gIx (mVar 4) (mVar 5)) (mVar 6)))))
def m__law_drawn_body8 : MS :=
 (mSeq (mIf (mIsB (mBin (gEq true) (mVar 6) (mVar 5)))
 m__law_drawn_th7
 mSkip)
 (mWk [.ow, .fz, .fz, .fz, .ow2, .fz, .un, .un, .un, .un, .un, .un, .un, .un, .un, .un, .un, .un] mSkip))
def m__law_drawn_th9 : MS :=
 (mSeq (mSet 5 (mCall [some 0, none] F__law_take (mOwnA (mCons (mVar 1) mNil))))
 (mSeq (mFor [.ow, .fz, .fz, .fz, .ow2, .fz, .un, .un, .un, .un, .un, .un, .un, .un, .un, .un, .un, .un] (mRg gRg1 (mCons (mVar 1) mNil)) (gN 6) m__law_drawn_body8)
 (mSeq (mSet 4 (mCall [none] F__law_closed (mCons (mVar 4) mNil)))
 (mWk [.ow, .fz, .fz, .fz, .ow2, .un, .un, .un, .un, .un, .un, .un, .un, .un, .un, .un, .un, .un] mSkip))))
def m__law_drawn_th10 : MS :=
 (mSeq (mSet 4 (mCall [some 0, none, none] F__law_tree_rows (mOwnA (mCons (mVar 1) (mCons (mArgs gMin (mCons (mVar 3) (mCons (mC (.int 40)) mNil))) mNil)))))
 (mSeq (mIf (mAnd (mIsB (mBin (gEq false) (mVar 2) (mC (.int 7)))) (mIsB (mBin oGt (mVar 1) (mC (.int 1)))))
 m__law_drawn_th9
 mSkip)
 (mRet [.ow, .un, .un, .un, .un, .un, .un, .un, .un, .un, .un, .un, .un, .un, .un, .un, .un, .un] (mVar 4))))
def m__law_drawn_body11 : MS :=
 (mDrop (mPush 10 (mBin gAdd (mView (mBin gAdd (mIf (mIsB (mBin (gEq true) (mVar 10) (mArgs gLstD mNil))) (mBin gIx (mVar 10) (mUn gNeg (mC (.int 1)))) (mC (.int 0))) (mC (.int 1)))) (mCall [some 0, none] F__law_take (mOwnA (mCons (mVar 3) mNil))))))
def m__law_drawn_elt12 : MV :=
 (mArgs gAbs (mCons (mBin oSub (mBin gIx (mVar 10) (mBin gIx (mVar 8) (mVar 5))) (mBin gIx (mVar 10) (mBin gIx (mVar 8) (mVar 6)))) mNil))
def m__law_drawn_elt13 : MV :=
 (mLc [6] (mRg gRg1 (mCons (mVar 1) mNil)) (gN 6) mYes (kElt m__law_drawn_elt12))
def m__law_drawn_th14 : MS :=
 (mSeq (mSet 10 (mArgs gLstD mNil))
 (mSeq (mWhile [.ow, .fz, .fz, .fz, .ow2, .un, .un, .un, .un, .un, .ow, .un, .un, .un, .un, .un, .un, .un] (fun _ => 4096) (mViewB (mIsB (mBin oLt (mArgs gLen (mCons (mVar 10) mNil)) (mVar 1)))) m__law_drawn_body11)
 (mSeq (mSet 8 (mCall [some 0, none] F__law_mixed (mOwnA (mCons (mVar 1) mNil))))
 (mRet [.ow, .un, .un, .un, .un, .un, .un, .un, .un, .un, .un, .un, .un, .un, .un, .un, .un, .un] (mLc [5] (mRg gRg1 (mCons (mVar 1) mNil)) (gN 5) mYes (kElt m__law_drawn_elt13))))))
def m__law_drawn_body15 : MS :=
 (mSeq (mAsg (gSetOwn2 4 (pVar 5) (pVar 6)) (mC (.int 0)))
 (mWk [.ow, .fz, .fz, .fz, .ow2, .un, .un, .un, .un, .un, .un, .un, .un, .un, .un, .un, .un, .un] mSkip))
def m__law_drawn_body16 : MS :=
 (mSeq (mAsg (gSetOwn2 4 (pVar 5) (pVar 6)) (mView (mBin gAdd (mBin gIx (mBin gIx (mVar 4) (mVar 5)) (mVar 6)) (mBin gMul (mVar 13) (mArgs gInt (mCons (mBin (gEq true) (mBin oAnd (mBin oShr (mVar 12) (mVar 5)) (mC (.int 1))) (mBin oAnd (mBin oShr (mVar 12) (mVar 6)) (mC (.int 1)))) mNil))))))
 (mWk [.ow, .fz, .fz, .fz, .ow2, .un, .un, .un, .un, .un, .un, .fz, .fz, .fz, .un, .un, .un, .un] mSkip))
def m__law_drawn_body17 : MS :=
 (mSeq (mPar 12 13 (mCall [some 0, none] F__law_take (mOwnA (mCons (mBin oShl (mC (.int 1)) (mVar 1)) mNil))) (mBin gAdd (mC (.int 1)) (mCall [some 0, none] F__law_take (mOwnA (mCons (mC (.int 5)) mNil)))))
 (mSeq (mFor [.ow, .fz, .fz, .fz, .ow2, .un, .un, .un, .un, .un, .un, .fz, .fz, .fz, .un, .un, .un, .un] (mSq (mCall [none] F__law_pairs_in (mCons (mVar 1) mNil))) (gSqT (gsCons (gN 5) (gsCons (gN 6) gsNil))) m__law_drawn_body16)
 (mWk [.ow, .fz, .fz, .fz, .ow2, .un, .un, .un, .un, .un, .un, .un, .un, .un, .un, .un, .un, .un] mSkip)))
def m__law_drawn_body18 : MS :=
 (mSeq (mAsg (gSetOwn2 4 (pVar 5) (pVar 6)) (mView (mBin gAdd (mBin gIx (mBin gIx (mVar 4) (mVar 5)) (mVar 6)) (mC (.int 2)))))
 (mSeq (mAsg (gSetOwn2 4 (pVar 6) (pVar 5)) (mView (mBin gIx (mBin gIx (mVar 4) (mVar 5)) (mVar 6))))
 (mWk [.ow, .fz, .fz, .fz, .ow2, .un, .un, .un, .un, .un, .un, .un, .un, .un, .un, .un, .un, .un] mSkip)))
def m__law_drawn_th19 : MS :=
 (mSeq (mFor [.ow, .fz, .fz, .fz, .ow2, .un, .un, .un, .un, .un, .un, .un, .un, .un, .un, .un, .un, .un] (mSq (mCall [none] F__law_pairs_in (mCons (mVar 1) mNil))) (gSqT (gsCons (gN 5) (gsCons (gN 6) gsNil))) m__law_drawn_body15)
 (mSeq (mFor [.ow, .fz, .fz, .fz, .ow2, .un, .un, .un, .un, .un, .un, .un, .un, .un, .un, .un, .un, .un] (mRg gRg1 (mCons (mBin gAdd (mC (.int 2)) (mCall [some 0, none] F__law_take (mOwnA (mCons (mC (.int 4)) mNil)))) mNil)) (gN 11) m__law_drawn_body17)
 (mSeq (mFor [.ow, .fz, .fz, .fz, .ow2, .un, .un, .un, .un, .un, .un, .un, .un, .un, .un, .un, .un, .un] (mSq (mCall [none] F__law_pairs_in (mCons (mVar 1) mNil))) (gSqT (gsCons (gN 5) (gsCons (gN 6) gsNil))) m__law_drawn_body18)
 (mRet [.ow, .un, .un, .un, .un, .un, .un, .un, .un, .un, .un, .un, .un, .un, .un, .un, .un, .un] (mVar 4)))))
def m__law_drawn_elt20 : MV :=
 (mBin gAdd (mC (.int 1)) (mCall [some 0, none] F__law_take (mOwnA (mCons (mVar 3) mNil))))
def m__law_drawn_body21 : MS :=
 (mSeq (mPar 16 17 (mArgs gMin (mCons (mBin gIx (mVar 15) (mVar 5)) (mCons (mBin gIx (mVar 15) (mVar 6)) mNil))) (mArgs gMax (mCons (mBin gIx (mVar 15) (mVar 5)) (mCons (mBin gIx (mVar 15) (mVar 6)) mNil))))
 (mSeq (mAsg (gSetOwn2 4 (pVar 5) (pVar 6)) (mView (mArgs gMax (mCons (mSl (mVar 14) (mPart (mVar 16)) (mPart (mVar 17))) mNil))))
 (mSeq (mAsg (gSetOwn2 4 (pVar 6) (pVar 5)) (mView (mBin gIx (mBin gIx (mVar 4) (mVar 5)) (mVar 6))))
 (mWk [.ow, .fz, .fz, .fz, .ow2, .un, .un, .un, .un, .un, .un, .un, .un, .un, .ow, .fz, .un, .un] mSkip))))
def m__law_drawn_th22 : MS :=
 (mSeq (mSet 14 (mLc [9] (mRg gRg1 (mCons (mVar 1) mNil)) (gN 9) mYes (kElt m__law_drawn_elt20)))
 (mSeq (mSet 15 (mCall [some 0, none] F__law_mixed (mOwnA (mCons (mVar 1) mNil))))
 (mSeq (mFor [.ow, .fz, .fz, .fz, .ow2, .un, .un, .un, .un, .un, .un, .un, .un, .un, .ow, .fz, .un, .un] (mSq (mCall [none] F__law_pairs_in (mCons (mVar 1) mNil))) (gSqT (gsCons (gN 5) (gsCons (gN 6) gsNil))) m__law_drawn_body21)
 (mRet [.ow, .un, .un, .un, .un, .un, .un, .un, .un, .un, .un, .un, .un, .un, .un, .un, .un, .un] (mVar 4)))))
def m__law_drawn_elt23 : MV :=
 (mBin gMul (mVar 7) (mArgs gInt (mCons (mBin (gEq true) (mVar 5) (mVar 6)) mNil)))
def m__law_drawn_elt24 : MV :=
 (mLc [6] (mRg gRg1 (mCons (mVar 1) mNil)) (gN 6) mYes (kElt m__law_drawn_elt23))
def m__law_drawn : MS :=
 (mSeq (mAsg (gSqT (gsCons (gN 2) (gsCons (gN 3) gsNil))) (mArgs gTupD (mCons (mCall [some 0, none] F__law_take (mOwnA (mCons (mC (.int 8)) mNil))) (mCons (mBin gIx (mArgs gLstD (mCons (mC (.int 2)) (mCons (mC (.int 5)) (mCons (mC (.int 12)) (mCons (mC (.int 60)) mNil))))) (mCall [some 0, none] F__law_take (mOwnA (mCons (mC (.int 4)) mNil)))) mNil))))
 (mSeq (mSet 4 (mLc [5] (mRg gRg1 (mCons (mVar 1) mNil)) (gN 5) mYes (kElt m__law_drawn_elt1)))
 (mSeq (mIf (mOr (mIsB (mBin (gEq false) (mVar 2) (mC (.int 0)))) (mIsB (mBin (gEq false) (mVar 2) (mC (.int 6)))))
 m__law_drawn_th6
 mSkip)
 (mSeq (mIf (mOr (mIsB (mBin (gEq false) (mVar 2) (mC (.int 1)))) (mIsB (mBin (gEq false) (mVar 2) (mC (.int 7)))))
 m__law_drawn_th10
 mSkip)
 (mSeq (mIf (mIsB (mBin (gEq false) (mVar 2) (mC (.int 2))))
 m__law_drawn_th14
 mSkip)
 (mSeq (mIf (mIsB (mBin (gEq false) (mVar 2) (mC (.int 3))))
 m__law_drawn_th19
 mSkip)
 (mSeq (mIf (mIsB (mBin (gEq false) (mVar 2) (mC (.int 4))))
 m__law_drawn_th22
 mSkip)
 (mSeq (mSet 7 (mBin gAdd (mC (.int 1)) (mCall [some 0, none] F__law_take (mOwnA (mCons (mVar 3) mNil)))))
 (mRet [.ow, .un, .un, .un, .un, .un, .un, .un, .un, .un, .un, .un, .un, .un, .un, .un, .un, .un] (mLc [5] (mRg gRg1 (mCons (mVar 1) mNil)) (gN 5) mYes (kElt m__law_drawn_elt24)))))))))))
def F__law_drawn : MF := mDef 18 [.ow, .fz] .fz m__law_drawn
def m__law_size : MS :=
 (mRet [.ow] (mBin gIx (mArgs gLstD (mCons (mC (.int 4)) (mCons (mC (.int 5)) (mCons (mC (.int 3)) (mCons (mC (.int 4)) (mCons (mC (.int 5)) (mCons (mC (.int 4)) (mCons (mBin gAdd (mC (.int 1)) (mCall [some 0, none] F__law_take (mOwnA (mCons (mC (.int 2)) mNil)))) (mCons (mBin gAdd (mC (.int 6)) (mCall [some 0, none] F__law_take (mOwnA (mCons (mC (.int 2)) mNil)))) mNil))))))))) (mCall [some 0, none] F__law_take (mOwnA (mCons (mC (.int 8)) mNil)))))
def F__law_size : MF := mDef 1 [.ow] .fz m__law_size
def m__law_tuple : MS :=
 (mRet [.un, .un] (mArgs gTuple (mCons (mLc [1] (mSq (mVar 0)) (gN 1) mYes (kElt (mArgs gTuple (mCons (mVar 1) mNil)))) mNil)))
def F__law_tuple : MF := mDef 2 [.fz] .fz m__law_tuple
def m__law_with : MS :=
 (mSeq (mSet 5 (mLc [6] (mSq (mVar 0)) (gN 6) mYes (kElt (mArgs gList (mCons (mVar 6) mNil)))))
 (mSeq (mAsg (gSqT (gsCons (gSetOwn2 5 (pVar 1) (pVar 2)) (gsCons (gSetOwn2 5 (pVar 2) (pVar 1)) gsNil))) (mArgs gTupD (mCons (mVar 3) (mCons (mVar 4) mNil))))
 (mRet [.un, .un, .un, .un, .un, .un, .un] (mCall [none] F__law_tuple (mCons (mVar 5) mNil)))))
def F__law_with : MF := mDef 7 [.fz, .fz, .fz, .fz, .fz] .fz m__law_with
def m__law_spoilt_elt1 : MV :=
 (mCall [none, none, none, none, none] F__law_with (mCons (mVar 1) (mCons (mVar 4) (mCons (mVar 5) (mCons (mVar 8) (mCons (mVar 9) mNil))))))
def m__law_spoilt_elt2 : MV :=
 (mIf (mIsB (mChain (gEq false) (gEq false) (mVar 8) (mVar 9) (mVar 4))) (mVar 6) (mBin gIx (mBin gIx (mVar 1) (mVar 8)) (mVar 9)))
def m__law_spoilt_elt3 : MV :=
 (mLc [9] (mRg gRg1 (mCons (mVar 2) mNil)) (gN 9) mYes (kElt m__law_spoilt_elt2))
def m__law_spoilt_th4 : MS :=
 (mSeq (mAsg (gSqT (gsCons (gN 4) (gsCons (gN 5) gsNil))) (mSl (mCall [some 0, none] F__law_mixed (mOwnA (mCons (mVar 2) mNil))) mNoPart (mPart (mC (.int 2)))))
 (mSeq (mSet 6 (mBin gIx (mBin gIx (mVar 1) (mVar 4)) (mVar 5)))
 (mSeq (mSet 7 (mArgs gLstD (mCons (mArgs gTupD (mCons (mC (.int 0)) (mCons (mC (.int 0)) mNil))) (mCons (mArgs gTupD (mCons (mC (.int 1001)) (mCons (mC (.int 1001)) mNil))) (mCons (mArgs gTupD (mCons (mC (.int 1000)) (mCons (mC (.int 1000)) mNil))) (mCons (mArgs gTupD (mCons (mC (.int 1)) (mCons (mC (.int 1)) mNil))) (mCons (mArgs gTupD (mCons (mBin gAdd (mVar 6) (mC (.int 1))) (mCons (mBin gAdd (mVar 6) (mC (.int 1))) mNil))) (mCons (mArgs gTupD (mCons (mArgs gMax (mCons (mC (.int 1)) (mCons (mBin oSub (mVar 6) (mC (.int 1))) mNil))) (mCons (mArgs gMax (mCons (mC (.int 1)) (mCons (mBin oSub (mVar 6) (mC (.int 1))) mNil))) mNil))) (mCons (mArgs gTupD (mCons (mBin gMul (mC (.int 2)) (mVar 6)) (mCons (mBin gMul (mC (.int 2)) (mVar 6)) mNil))) mNil)))))))))
 (mSeq (mSet 7 (mBin gAdd (mVar 7) (mArgs gLstD (mCons (mArgs gTupD (mCons (mVar 6) (mCons (mBin gAdd (mVar 6) (mC (.int 1))) mNil))) (mCons (mArgs gTupD (mCons (mC .non) (mCons (mC .non) mNil))) (mCons (mArgs gTupD (mCons (mC (.bl true)) (mCons (mC (.bl true)) mNil))) (mCons (mArgs gTupD (mCons (mC (.str "1")) (mCons (mC (.str "1")) mNil))) (mCons (mArgs gTupD (mCons (mUn gNeg (mC (.int 1))) (mCons (mUn gNeg (mC (.int 1))) mNil))) (mCons (mArgs gTupD (mCons (mArgs gTupD (mCons (mC (.int 1)) (mCons (mC (.int 1)) mNil))) (mCons (mArgs gTupD (mCons (mC (.int 1)) (mCons (mC (.int 1)) mNil))) mNil))) mNil)))))))))
 (mSeq (mSet 3 (mBin gCatL (mVar 3) (mLc [8, 9] (mSq (mVar 7)) (gSqT (gsCons (gN 8) (gsCons (gN 9) gsNil))) mYes (kElt m__law_spoilt_elt1))))
 (mSeq (mDrop (mPush 3 (mCall [none] F__law_tuple (mCons (mLc [8] (mRg gRg1 (mCons (mVar 2) mNil)) (gN 8) mYes (kElt m__law_spoilt_elt3)) mNil))))
 (mWk [.ow, .fz, .fz, .ow, .un, .un, .un, .un, .un, .un] mSkip)))))))
def m__law_spoilt : MS :=
 (mSeq (mSet 2 (mArgs gLen (mCons (mVar 1) mNil)))
 (mSeq (mSet 3 (mArgs gLstD (mCons (mArgs gList (mCons (mVar 1) mNil)) (mCons (mBin gAdd (mSl (mCall [none] F__law_tuple (mCons (mVar 1) mNil)) mNoPart (mPart (mBin oSub (mVar 2) (mC (.int 1))))) (mArgs gTupD (mCons (mArgs gList (mCons (mBin gIx (mVar 1) (mBin oSub (mVar 2) (mC (.int 1)))) mNil)) mNil))) (mCons (mBin gAdd (mVar 1) (mSl (mVar 1) mNoPart (mPart (mC (.int 1))))) (mCons (mSl (mVar 1) (mPart (mC (.int 1))) mNoPart) (mCons (mArgs gTupD mNil) (mCons (mArgs gTupD (mCons (mArgs gTupD mNil) mNil)) (mCons (mC .non) (mCons (mC (.int 7)) (mCons (mC (.str "0")) (mCons (mC (.dic [])) (mCons (mC (.bl true)) (mCons (mBin gMul (mArgs gTupD (mCons (mBin gMul (mArgs gTupD (mCons (mC (.int 0)) mNil)) (mC (.int 8))) mNil)) (mC (.int 8))) (mCons (mArgs gTupD (mCons (mArgs gTupD (mCons (mC (.int 1)) mNil)) mNil)) (mCons (mArgs gTupD (mCons (mArgs gTupD (mCons (mC (.bl false)) mNil)) mNil)) (mCons (mArgs gTupD (mCons (mArgs gTupD (mCons (mC .non) mNil)) mNil)) mNil)))))))))))))))))
 (mSeq (mIf (mIsB (mBin oGt (mVar 2) (mC (.int 1))))
 m__law_spoilt_th4
 mSkip)
 (mRet [.ow, .un, .un, .un, .un, .un, .un, .un, .un, .un] (mVar 3)))))
def F__law_spoilt : MF := mDef 10 [.ow, .fz] .fz m__law_spoilt
def m__law_fits_body1 : MS :=
 (mSeq (mSet 3 (mBin gIx (mBin gIx (mVar 0) (mVar 1)) (mVar 2)))
 (mSeq (mIf (mOr (mNot (mTru (mArgs gIsi (mCons (mVar 3) (mCons (mC (.ty "int")) mNil))))) (mOr (mTru (mArgs gIsi (mCons (mVar 3) (mCons (mC (.ty "bool")) mNil)))) (mOr (mIsB (mBin (gEq true) (mVar 3) (mBin gIx (mBin gIx (mVar 0) (mVar 2)) (mVar 1)))) (mOr (mAnd (mIsB (mBin (gEq false) (mVar 1) (mVar 2))) (mIsB (mBin (gEq true) (mVar 3) (mC (.int 0))))) (mAnd (mIsB (mBin (gEq true) (mVar 1) (mVar 2))) (mNot (mIsB (mChain oLe oLe (mC (.int 1)) (mVar 3) (mC (.int 1000))))))))))
 (mRet [.un, .un, .un, .un, .un] (mC (.bl false)))
 mSkip)
 (mWk [.fz, .fz, .un, .un, .un] mSkip)))
def m__law_fits_body2 : MS :=
 (mSeq (mFor [.fz, .fz, .un, .un, .un] (mRg gRg1 (mCons (mArgs gLen (mCons (mVar 0) mNil)) mNil)) (gN 2) m__law_fits_body1)
 (mWk [.fz, .un, .un, .un, .un] mSkip))
def m__law_fits : MS :=
 (mSeq (mIf (mOr (mNot (mTru (mArgs gIsi (mCons (mVar 0) (mCons (mC (.ty "tuple")) mNil))))) (mOr (mNot (mIsB (mChain oLe oLe (mC (.int 1)) (mArgs gLen (mCons (mVar 0) mNil)) (mC (.int 7))))) (mIsB (mBin (gEq true) (mLc [4] (mSq (mVar 0)) (gN 4) (mOr (mNot (mTru (mArgs gIsi (mCons (mVar 4) (mCons (mC (.ty "tuple")) mNil))))) (mIsB (mBin (gEq true) (mArgs gLen (mCons (mVar 4) mNil)) (mArgs gLen (mCons (mVar 0) mNil))))) (kElt (mVar 4))) (mArgs gLstD mNil)))))
 (mRet [.un, .un, .un, .un, .un] (mC (.bl false)))
 mSkip)
 (mSeq (mFor [.fz, .un, .un, .un, .un] (mRg gRg1 (mCons (mArgs gLen (mCons (mVar 0) mNil)) mNil)) (gN 1) m__law_fits_body2)
 (mRet [.un, .un, .un, .un, .un] (mC (.bl true)))))
def F__law_fits : MF := mDef 5 [.fz] .fz m__law_fits
def m__law_due_th1 : MS :=
 (mRet [.un, .un, .un, .un, .un] (mArgs gLstD (mCons (mC (.str "shortcut")) (mCons (mVar 2) (mCons (mVar 3) (mCons (mVar 4) mNil))))))
def m__law_due_body2 : MS :=
 (mSeq (mIf (mIsB (mBin oGt (mBin gIx (mBin gIx (mVar 0) (mVar 2)) (mVar 4)) (mBin gAdd (mBin gIx (mBin gIx (mVar 0) (mVar 2)) (mVar 3)) (mBin gIx (mBin gIx (mVar 0) (mVar 3)) (mVar 4)))))
 m__law_due_th1
 mSkip)
 (mWk [.fz, .fz, .fz, .fz, .un] mSkip))
def m__law_due_body3 : MS :=
 (mSeq (mFor [.fz, .fz, .fz, .fz, .un] (mRg gRg1 (mCons (mVar 1) mNil)) (gN 4) m__law_due_body2)
 (mWk [.fz, .fz, .fz, .un, .un] mSkip))
def m__law_due_body4 : MS :=
 (mSeq (mFor [.fz, .fz, .fz, .un, .un] (mRg gRg1 (mCons (mVar 1) mNil)) (gN 3) m__law_due_body3)
 (mWk [.fz, .fz, .un, .un, .un] mSkip))
def m__law_due : MS :=
 (mSeq (mIf (mNot (mTru (mCall [none] F__law_fits (mCons (mVar 0) mNil))))
 (mRet [.un, .un, .un, .un, .un] (mArgs gLstD (mCons (mC (.str "rows")) (mCons (mVar 0) mNil))))
 mSkip)
 (mSeq (mSet 1 (mArgs gLen (mCons (mVar 0) mNil)))
 (mSeq (mFor [.fz, .fz, .un, .un, .un] (mRg gRg1 (mCons (mVar 1) mNil)) (gN 2) m__law_due_body4)
 (mRet [.un, .un, .un, .un, .un] (mArgs gLstD (mCons (mC (.str "told")) (mCons (mVar 0) (mCons (mVar 1) mNil))))))))
def F__law_due : MF := mDef 5 [.fz] .fz m__law_due
def m_is_integer : MS :=
 (mRet [.un] (mAndV (mArgs gIsi (mCons (mVar 0) (mCons (mC (.ty "int")) mNil))) (mNotV (mArgs gIsi (mCons (mVar 0) (mCons (mC (.ty "bool")) mNil))))))
def F_is_integer : MF := mDef 1 [.fz] .fz m_is_integer
def m_is_between : MS :=
 (mRet [.un, .un, .un] (mAndV (mCall [none] F_is_integer (mCons (mVar 0) mNil)) (mChain oLe oLe (mVar 1) (mVar 0) (mVar 2))))
def F_is_between : MF := mDef 3 [.fz, .fz, .fz] .fz m_is_between
def m_is_item : MS :=
 (mRet [.un, .un] (mIf (mIsB (mBin (gIs false) (mVar 0) (mC .non))) (mBin (gEq false) (mVar 1) (mC (.int 0))) (mCall [none, none, none] F_is_between (mCons (mVar 0) (mCons (mC (.int 1)) (mCons (mC (.int 1000)) mNil))))))
def F_is_item : MF := mDef 2 [.fz, .fz] .fz m_is_item
def m_is_tuple_of : MS :=
 (mRet [.un, .un] (mAndV (mArgs gIsi (mCons (mVar 0) (mCons (mC (.ty "tuple")) mNil))) (mBin (gEq false) (mArgs gLen (mCons (mVar 0) mNil)) (mVar 1))))
def F_is_tuple_of : MF := mDef 2 [.fz, .fz] .fz m_is_tuple_of
def m_are_numbers_elt1 : MV :=
 (mCall [none, none] F_is_tuple_of (mCons (mVar 3) (mCons (mArgs gLen (mCons (mVar 0) mNil)) mNil)))
def m_are_numbers_body2 : MS :=
 (mSeq (mIf (mOr (mAnd (mIsB (mBin (gEq false) (mVar 2) (mVar 4))) (mNot (mTru (mCall [none, none, none] F_is_between (mCons (mVar 5) (mCons (mC (.int 0)) (mCons (mC (.int 0)) mNil))))))) (mAnd (mIsB (mBin (gEq true) (mVar 2) (mVar 4))) (mNot (mTru (mCall [none, none] F_is_item (mCons (mVar 5) (mCons (mVar 1) mNil)))))))
 (mRet [.un, .un, .un, .un, .un, .un] (mC (.bl false)))
 mSkip)
 (mWk [.fz, .fz, .fz, .fz, .un, .un] mSkip))
def m_are_numbers_body3 : MS :=
 (mSeq (mFor [.fz, .fz, .fz, .fz, .un, .un] (mRg gEnum (mCons (mVar 3) mNil)) (gSqT (gsCons (gN 4) (gsCons (gN 5) gsNil))) m_are_numbers_body2)
 (mWk [.fz, .fz, .un, .un, .un, .un] mSkip))
def m_are_numbers_elt4 : MV :=
 (mBin (gEq false) (mBin gIx (mBin gIx (mVar 0) (mVar 2)) (mVar 4)) (mBin gIx (mBin gIx (mVar 0) (mVar 4)) (mVar 2)))
def m_are_numbers : MS :=
 (mSeq (mIf (mOr (mNot (mTru (mArgs gIsi (mCons (mVar 0) (mCons (mC (.ty "tuple")) mNil))))) (mNot (mIsB (mChain oLe oLe (mC (.int 1)) (mArgs gLen (mCons (mVar 0) mNil)) (mC (.int 7))))))
 (mRet [.un, .un, .un, .un, .un, .un] (mC (.bl false)))
 mSkip)
 (mSeq (mIf (mNot (mTru (mArgs gAll (mCons (mLc [3] (mSq (mVar 0)) (gN 3) mYes (kElt m_are_numbers_elt1)) mNil))))
 (mRet [.un, .un, .un, .un, .un, .un] (mC (.bl false)))
 mSkip)
 (mSeq (mFor [.fz, .fz, .un, .un, .un, .un] (mRg gEnum (mCons (mVar 0) mNil)) (gSqT (gsCons (gN 2) (gsCons (gN 3) gsNil))) m_are_numbers_body3)
 (mRet [.un, .un, .un, .un, .un, .un] (mArgs gAll (mCons (mLc [2, 4] (mRg gRg1 (mCons (mArgs gLen (mCons (mVar 0) mNil)) mNil)) (gN 2) mYes (kSub [4] (mRg gRg1 (mCons (mVar 2) mNil)) (gN 4) mYes (kElt m_are_numbers_elt4))) mNil))))))
def F_are_numbers : MF := mDef 6 [.fz, .fz] .fz m_are_numbers
def m_shortcut_in_body1 : MS :=
 (mSeq (mIf (mIsB (mBin oGt (mBin gIx (mBin gIx (mVar 0) (mVar 2)) (mVar 4)) (mBin gAdd (mBin gIx (mBin gIx (mVar 0) (mVar 2)) (mVar 3)) (mBin gIx (mBin gIx (mVar 0) (mVar 3)) (mVar 4)))))
 (mRet [.un, .un, .un, .un, .un] (mArgs gTupD (mCons (mVar 2) (mCons (mVar 3) (mCons (mVar 4) mNil)))))
 mSkip)
 (mWk [.fz, .fz, .fz, .fz, .un] mSkip))
def m_shortcut_in_body2 : MS :=
 (mSeq (mFor [.fz, .fz, .fz, .fz, .un] (mSq (mVar 1)) (gN 4) m_shortcut_in_body1)
 (mWk [.fz, .fz, .fz, .un, .un] mSkip))
def m_shortcut_in_body3 : MS :=
 (mSeq (mFor [.fz, .fz, .fz, .un, .un] (mSq (mVar 1)) (gN 3) m_shortcut_in_body2)
 (mWk [.fz, .fz, .un, .un, .un] mSkip))
def m_shortcut_in : MS :=
 (mSeq (mSet 1 (mUn (fun p => gLr1 [p]) (mArgs gLen (mCons (mVar 0) mNil))))
 (mSeq (mFor [.fz, .fz, .un, .un, .un] (mSq (mVar 1)) (gN 2) m_shortcut_in_body3)
 (mRet [.un, .un, .un, .un, .un] (mC .non))))
def F_shortcut_in : MF := mDef 5 [.fz] .fz m_shortcut_in
def m_Space___init___th1 : MS :=
 (mRaise "Shortcut" [("x", 1), ("y", 2), ("z", 3)] (mCons (mBin gIx (mVar 2) (mC (.int 0))) (mCons (mBin gIx (mVar 2) (mC (.int 1))) (mCons (mBin gIx (mVar 2) (mC (.int 2))) mNil))))
def m_Space___init__ : MX :=
 (mIb (mIf (mNot (mTru (mCall [none, none] F_are_numbers (mCons (mVar 1) (mCons (mC (.int 1)) mNil)))))
 (mRaise "InvalidRows" [("given", 1)] (mCons (mVar 1) mNil))
 mSkip)
 (mIb (mSet 2 (mCall [none] F_shortcut_in (mCons (mVar 1) mNil)))
 (mIb (mIf (mIsB (mBin (gIs true) (mVar 2) (mC .non)))
 m_Space___init___th1
 mSkip)
 (fun env => ((mFs "rows" (mVar 1) (mFs "size" (mArgs gLen (mCons (mVar 1) mNil)) (fun fs _ => .ok fs))) [] env).nx))))
def F_Space___init__ : List PV → R (List (Str × PV)) := mIni 1 3 m_Space___init__
def m__law_made_hd1 : Str → List (Str × PV) → MS :=
 fun _ fs => (mRet [.un, .un, .un, .un] (mArgs gLstD (mCons (mC (.str "shortcut")) (mCons (mFld fs "x") (mCons (mFld fs "y") (mCons (mFld fs "z") mNil))))))
def m__law_made_hd2 : Str → List (Str × PV) → MS :=
 fun _ fs => (mRet [.un, .un, .un, .un] (mArgs gLstD (mCons (mC (.str "rows")) (mCons (mFld fs "given") mNil))))
def m__law_made : MS :=
 (mTry 4 (mSeq (mSet 2 (mIf (mTru (mVar 1)) (mMake "Space" F_Space___init__ 1 [0] mNil (mCons (mVar 0) mNil)) (mMake "Space" F_Space___init__ 1 [0] (mCons (mVar 0) mNil) mNil)))
 (mRet [.un, .un, .un, .un] (mArgs gLstD (mCons (mC (.str "told")) (mCons (mUn (gFld "Space" "rows") (mVar 2)) (mCons (mUn (gFld "Space" "size") (mVar 2)) mNil)))))) [⟨selT [("SpaceError", false), ("InvalidRows", true), ("Shortcut", false)], m__law_made_hd2⟩, ⟨selT [("SpaceError", false), ("InvalidRows", false), ("Shortcut", true)], m__law_made_hd1⟩])
def F__law_made : MF := mDef 4 [.fz, .fz] .fz m__law_made
def m__law_same_th1 (Fr : MF) : MS :=
 (mRet [.un, .un, .un, .un] (mIf (mIsB (mBin (gIs false) (mVar 1) (mC .non))) (mBin (gIs false) (mVar 0) (mC .non)) (mAndV (mArgs gIsi (mCons (mVar 0) (mCons (mC (.ty "bool")) mNil))) (mBin (gEq false) (mBin (gIs false) (mVar 0) (mC (.bl true))) (mBin (gIs false) (mVar 1) (mC (.bl true)))))))
def m__law_same_th2 (Fr : MF) : MS :=
 (mRet [.un, .un, .un, .un] (mAndV (mArgs gIsi (mCons (mVar 0) (mCons (mC (.ty "int")) mNil))) (mAndV (mNotV (mArgs gIsi (mCons (mVar 0) (mCons (mC (.ty "bool")) mNil)))) (mBin (gEq false) (mBin oSub (mArgs gInt (mCons (mVar 0) mNil)) (mVar 1)) (mC (.int 0))))))
def m__law_same_th3 (Fr : MF) : MS :=
 (mSeq (mSet 2 (mAndV (mArgs gIsi (mCons (mVar 0) (mCons (mC (.ty "str")) mNil))) (mBin (gEq false) (mArgs gLen (mCons (mVar 0) mNil)) (mArgs gLen (mCons (mVar 1) mNil)))))
 (mRet [.un, .un, .un, .un] (mAndV (mVar 2) (mBin (gEq false) (mLc [3] (mRg gRg1 (mCons (mArgs gLen (mCons (mVar 1) mNil)) mNil)) (gN 3) (mIsB (mBin (gEq true) (mSl (mVar 0) (mPart (mVar 3)) (mPart (mBin gAdd (mVar 3) (mC (.int 1))))) (mBin gIx (mVar 1) (mVar 3)))) (kElt (mVar 3))) (mArgs gLstD mNil)))))
def m__law_same_th4 (Fr : MF) : MS :=
 (mRet [.un, .un, .un, .un] (mAndV (mArgs gIsi (mCons (mVar 0) (mCons (mC (.ty "dict")) mNil))) (mCall [none, none] Fr (mCons (mUn gItems (mVar 0)) (mCons (mUn gItems (mVar 1)) mNil)))))
def m__law_same (Fr : MF) : MS :=
 (mSeq (mIf (mOr (mIsB (mBin (gIs false) (mVar 1) (mC .non))) (mTru (mArgs gIsi (mCons (mVar 1) (mCons (mC (.ty "bool")) mNil)))))
 (m__law_same_th1 Fr)
 mSkip)
 (mSeq (mIf (mTru (mArgs gIsi (mCons (mVar 1) (mCons (mC (.ty "int")) mNil))))
 (m__law_same_th2 Fr)
 mSkip)
 (mSeq (mIf (mTru (mArgs gIsi (mCons (mVar 1) (mCons (mC (.ty "str")) mNil))))
 (m__law_same_th3 Fr)
 mSkip)
 (mSeq (mIf (mTru (mArgs gIsi (mCons (mVar 1) (mCons (mC (.ty "dict")) mNil))))
 (m__law_same_th4 Fr)
 mSkip)
 (mSeq (mIf (mOr (mIsB (mBin (gEq true) (mArgs gIsi (mCons (mVar 0) (mCons (mC (.ty "list")) mNil))) (mArgs gIsi (mCons (mVar 1) (mCons (mC (.ty "list")) mNil))))) (mIsB (mBin (gEq true) (mArgs gIsi (mCons (mVar 0) (mCons (mC (.ty "tuple")) mNil))) (mArgs gIsi (mCons (mVar 1) (mCons (mC (.ty "tuple")) mNil))))))
 (mRet [.un, .un, .un, .un] (mC (.bl false)))
 mSkip)
 (mSeq (mIf (mOr (mNot (mTru (mUn (gIsiT ["list", "tuple"]) (mVar 0)))) (mIsB (mBin (gEq true) (mArgs gLen (mCons (mVar 0) mNil)) (mArgs gLen (mCons (mVar 1) mNil)))))
 (mRet [.un, .un, .un, .un] (mC (.bl false)))
 mSkip)
 (mRet [.un, .un, .un, .un] (mBin (gEq false) (mLc [3] (mRg gRg1 (mCons (mArgs gLen (mCons (mVar 1) mNil)) mNil)) (gN 3) (mNot (mTru (mCall [none, none] Fr (mCons (mBin gIx (mVar 0) (mVar 3)) (mCons (mBin gIx (mVar 1) (mVar 3)) mNil))))) (kElt (mVar 3))) (mArgs gLstD mNil)))))))))
def F__law_same : Nat → MF
  | 0 => mDef 4 [.fz, .fz] .fz (fun _ => .bad)
  | k + 1 => mDef 4 [.fz, .fz] .fz (m__law_same (F__law_same k))
def m_is_space : MS :=
 (mRet [.un] (mAndV (mCall [none, none] F_are_numbers (mCons (mVar 0) (mCons (mC (.int 1)) mNil))) (mBin (gIs false) (mCall [none] F_shortcut_in (mCons (mVar 0) mNil)) (mC .non))))
def F_is_space : MF := mDef 1 [.fz] .fz m_is_space
def m__law_value_right : MS :=
 (mSeq (mPar 2 3 (mCall [none] F__law_due (mCons (mVar 1) mNil)) (mBin (gEq false) (mCall [some 0, none] F__law_take (mOwnA (mCons (mC (.int 2)) mNil))) (mC (.int 0))))
 (mSeq (mIf (mNot (mTru (mCall [none, none] (F__law_same 12) (mCons (mArgs gLstD (mCons (mCall [none, none] F__law_made (mCons (mVar 1) (mCons (mVar 3) mNil))) (mCons (mCall [none, none] F__law_made (mCons (mVar 1) (mCons (mNotV (mVar 3)) mNil))) mNil))) (mCons (mArgs gLstD (mCons (mVar 2) (mCons (mVar 2) mNil))) mNil)))))
 (mRet [.ow, .un, .un, .un, .un] (mC (.bl false)))
 mSkip)
 (mSeq (mSet 4 (mIf (mTru (mVar 3)) (mCallK F_is_space 1 [0] mNil (mCons (mVar 1) mNil)) (mCall [none] F_is_space (mCons (mVar 1) mNil))))
 (mRet [.ow, .un, .un, .un, .un] (mCall [none, none] (F__law_same 12) (mCons (mVar 4) (mCons (mBin (gEq false) (mBin gIx (mVar 2) (mC (.int 0))) (mC (.str "told"))) mNil)))))))
def F__law_value_right : MF := mDef 5 [.ow, .fz] .fz m__law_value_right
def m_law_body1 : MS :=
 (mSeq (mIf (mNot (mTru (mCall [some 2, none] F__law_value_right (mOwnA (mCons (mVar 5) mNil)))))
 (mRet [.un, .un, .un, .un, .un, .un, .un, .un, .un, .un, .un, .un, .un, .un] (mC (.bl false)))
 mSkip)
 (mWk [.fz, .fz, .ow, .fz, .fz, .un, .un, .un, .un, .un, .un, .un, .un, .un] mSkip))
def m_law_elt2 : MV :=
 (mBin gRepL (mArgs gLstD (mCons (mC (.int 0)) mNil)) (mVar 6))
def m_law_body3 : MS :=
 (mSeq (mSet 10 (mBin gAdd (mC (.int 1)) (mCall [some 2, none] F__law_take (mOwnA (mCons (mBin gIx (mArgs gLstD (mCons (mC (.int 3)) (mCons (mC (.int 4)) (mCons (mC (.int 6)) mNil)))) (mCall [some 2, none] F__law_take (mOwnA (mCons (mC (.int 3)) mNil)))) mNil)))))
 (mSeq (mAsg (gSqT (gsCons (gSetOwn2 7 (pVar 8) (pVar 9)) (gsCons (gSetOwn2 7 (pVar 9) (pVar 8)) gsNil))) (mArgs gTupD (mCons (mVar 10) (mCons (mVar 10) mNil))))
 (mWk [.fz, .fz, .ow, .fz, .fz, .un, .fz, .ow2, .un, .un, .un, .un, .un, .un] mSkip)))
def m_law_body4 : MS :=
 (mSeq (mSet 2 (mCall [none] F__law_box (mCons (mCall [none, none] F__law_cell (mCons (mVar 0) (mCons (mVar 1) mNil))) mNil)))
 (mSeq (mPar 3 4 (mCall [none] F__law_tuple (mCons (mCall [some 2, none] F__law_drawn (mOwnA (mCons (mCall [some 2] F__law_size (mOwnA mNil)) mNil))) mNil)) (mCall [none] F__law_tuple (mCons (mCall [some 2, none] F__law_drawn (mOwnA (mCons (mCall [some 2] F__law_size (mOwnA mNil)) mNil))) mNil)))
 (mSeq (mFor [.fz, .fz, .ow, .fz, .fz, .un, .un, .un, .un, .un, .un, .un, .un, .un] (mSq (mBin gAdd (mArgs gLstD (mCons (mVar 3) (mCons (mVar 4) mNil))) (mCall [some 2, none] F__law_spoilt (mOwnA (mCons (mVar 3) mNil))))) (gN 5) m_law_body1)
 (mSeq (mSet 6 (mBin gAdd (mC (.int 3)) (mCall [some 2, none] F__law_take (mOwnA (mCons (mC (.int 5)) mNil)))))
 (mSeq (mSet 7 (mLc [8] (mRg gRg1 (mCons (mVar 6) mNil)) (gN 8) mYes (kElt m_law_elt2)))
 (mSeq (mFor [.fz, .fz, .ow, .fz, .fz, .un, .fz, .ow2, .un, .un, .un, .un, .un, .un] (mSq (mCall [none] F__law_pairs_in (mCons (mVar 6) mNil))) (gSqT (gsCons (gN 8) (gsCons (gN 9) gsNil))) m_law_body3)
 (mSeq (mIf (mNot (mTru (mCall [some 2, none] F__law_value_right (mOwnA (mCons (mCall [none] F__law_tuple (mCons (mVar 7) mNil)) mNil)))))
 (mRet [.un, .un, .un, .un, .un, .un, .un, .un, .un, .un, .un, .un, .un, .un] (mC (.bl false)))
 mSkip)
 (mSeq (mPar 11 12 (mMake "Space" F_Space___init__ 1 [0] (mCons (mVar 3) mNil) mNil) (mMake "Space" F_Space___init__ 1 [0] (mCons (mVar 4) mNil) mNil))
 (mSeq (mIf (mOr (mIsB (mBin (gEq true) (mBin (gOwn "Space" F_Space___eq__ false) (mVar 11) (mVar 12)) (mBin (gEq false) (mVar 3) (mVar 4)))) (mIsB (mBin (gOwn "Space" F_Space___eq__ true) (mVar 11) (mMake "Space" F_Space___init__ 1 [0] (mCons (mCall [none] F__law_tuple (mCons (mLc [13] (mSq (mVar 3)) (gN 13) mYes (kElt (mArgs gList (mCons (mVar 13) mNil)))) mNil)) mNil) mNil))))
 (mRet [.un, .un, .un, .un, .un, .un, .un, .un, .un, .un, .un, .un, .un, .un] (mC (.bl false)))
 mSkip)
 (mWk [.fz, .un, .un, .un, .un, .un, .un, .un, .un, .un, .un, .un, .un, .un] mSkip))))))))))
def m_law : MS :=
 (mSeq (mFor [.fz, .un, .un, .un, .un, .un, .un, .un, .un, .un, .un, .un, .un, .un] (mRg gRg1 (mCons (mArgs gMax (mCons (mC (.int 3)) (mCons (mArgs gMin (mCons (mC (.int 6)) (mCons (mArgs gLen (mCons (mVar 0) mNil)) mNil))) mNil))) mNil)) (gN 1) m_law_body4)
 (mRet [.un, .un, .un, .un, .un, .un, .un, .un, .un, .un, .un, .un, .un, .un] (mC (.bl true))))
def F_law : MF := mDef 14 [.fz] .fz m_law
/-! ### facts -/
structure Gg (K : PySem.W.Frag) (mg : Str → Option Value) : Prop where
  b_abs : mg "abs" = none
  b_all : mg "all" = none
  b_bool : mg "bool" = none
  b_dict : mg "dict" = none
  b_enumerate : mg "enumerate" = none
  b_int : mg "int" = none
  b_isinstance : mg "isinstance" = none
  b_len : mg "len" = none
  b_list : mg "list" = none
  b_max : mg "max" = none
  b_min : mg "min" = none
  b_range : mg "range" = none
  b_str : mg "str" = none
  b_sum : mg "sum" = none
  b_tuple : mg "tuple" = none
  c_MOST_POINTS : ∃ t, mg "MOST_POINTS" = some (.int 7 t)
  c_MOST_DISTANCE : ∃ t, mg "MOST_DISTANCE" = some (.int 1000 t)
  k_InvalidRows : mg "InvalidRows" = some (.ref (He.ga K "InvalidRows"))
  k_Shortcut : mg "Shortcut" = some (.ref (He.ga K "Shortcut"))
  k_Space : mg "Space" = some (.ref (He.ga K "Space"))
  cl_Space : Cls K (He.ga K "Space")
  no_Space_rows : NoAttr K (He.ga K "Space") "rows"
  no_Space_size : NoAttr K (He.ga K "Space") "size"
  k_SpaceError : mg "SpaceError" = some (.ref (He.ga K "SpaceError"))
  is_Space : IsiC K (He.ga K "Space")
  xm_InvalidRows_InvalidRows : PySem.W.exmOne K (.ref (He.ga K "InvalidRows")) (.ref (He.ga K "InvalidRows")) = some true
  xm_InvalidRows_Shortcut : PySem.W.exmOne K (.ref (He.ga K "InvalidRows")) (.ref (He.ga K "Shortcut")) = some false
  xm_Shortcut_InvalidRows : PySem.W.exmOne K (.ref (He.ga K "Shortcut")) (.ref (He.ga K "InvalidRows")) = some false
  xm_Shortcut_Shortcut : PySem.W.exmOne K (.ref (He.ga K "Shortcut")) (.ref (He.ga K "Shortcut")) = some true
  xm_SpaceError_InvalidRows : PySem.W.exmOne K (.ref (He.ga K "SpaceError")) (.ref (He.ga K "InvalidRows")) = some false
  xm_SpaceError_Shortcut : PySem.W.exmOne K (.ref (He.ga K "SpaceError")) (.ref (He.ga K "Shortcut")) = some false
  xf_InvalidRows : XfC K (He.ga K "InvalidRows")
  xf_Shortcut : XfC K (He.ga K "Shortcut")
  xn_InvalidRows_given : PySem.W.findIn K (.ref (He.ga K "InvalidRows")) "given" = some none
  xn_Shortcut_x : PySem.W.findIn K (.ref (He.ga K "Shortcut")) "x" = some none
  xn_Shortcut_y : PySem.W.findIn K (.ref (He.ga K "Shortcut")) "y" = some none
  xn_Shortcut_z : PySem.W.findIn K (.ref (He.ga K "Shortcut")) "z" = some none
  eq_Space : EqC K (He.ga K "Space") (He.ma K (He.ga K "Space") "__eq__")
  k__law_box : mg "_law_box" = some (.ref (He.ga K "_law_box"))
  k__law_cell : mg "_law_cell" = some (.ref (He.ga K "_law_cell"))
  k__law_closed : mg "_law_closed" = some (.ref (He.ga K "_law_closed"))
  k__law_take : mg "_law_take" = some (.ref (He.ga K "_law_take"))
  k__law_mixed : mg "_law_mixed" = some (.ref (He.ga K "_law_mixed"))
  k__law_pairs_in : mg "_law_pairs_in" = some (.ref (He.ga K "_law_pairs_in"))
  k__law_tree_rows : mg "_law_tree_rows" = some (.ref (He.ga K "_law_tree_rows"))
  k__law_drawn : mg "_law_drawn" = some (.ref (He.ga K "_law_drawn"))
  k__law_size : mg "_law_size" = some (.ref (He.ga K "_law_size"))
  k__law_tuple : mg "_law_tuple" = some (.ref (He.ga K "_law_tuple"))
  k__law_with : mg "_law_with" = some (.ref (He.ga K "_law_with"))
  k__law_spoilt : mg "_law_spoilt" = some (.ref (He.ga K "_law_spoilt"))
  k__law_fits : mg "_law_fits" = some (.ref (He.ga K "_law_fits"))
  k__law_due : mg "_law_due" = some (.ref (He.ga K "_law_due"))
  k_is_integer : mg "is_integer" = some (.ref (He.ga K "is_integer"))
  k_is_between : mg "is_between" = some (.ref (He.ga K "is_between"))
  k_is_item : mg "is_item" = some (.ref (He.ga K "is_item"))
  k_is_tuple_of : mg "is_tuple_of" = some (.ref (He.ga K "is_tuple_of"))
  k_are_numbers : mg "are_numbers" = some (.ref (He.ga K "are_numbers"))
  k_shortcut_in : mg "shortcut_in" = some (.ref (He.ga K "shortcut_in"))
  ox_InvalidRows : OexC K (He.ga K "InvalidRows") ∧ PySem.W.findIn K (.ref (He.ga K "InvalidRows")) "__init__" = some (some (.ref (He.ma K (He.ga K "InvalidRows") "__init__"))) ∧ PySem.W.typeIn K (.ref (He.ma K (He.ga K "InvalidRows") "__init__")) = some (.type "function")
  ox_Shortcut : OexC K (He.ga K "Shortcut") ∧ PySem.W.findIn K (.ref (He.ga K "Shortcut")) "__init__" = some (some (.ref (He.ma K (He.ga K "Shortcut") "__init__"))) ∧ PySem.W.typeIn K (.ref (He.ma K (He.ga K "Shortcut") "__init__")) = some (.type "function")
  mk_Space : Mk K (He.ga K "Space") (He.ma K (He.ga K "Space") "__init__")
  k__law_made : mg "_law_made" = some (.ref (He.ga K "_law_made"))
  k__law_same : mg "_law_same" = some (.ref (He.ga K "_law_same"))
  k_is_space : mg "is_space" = some (.ref (He.ga K "is_space"))
  k__law_value_right : mg "_law_value_right" = some (.ref (He.ga K "_law_value_right"))
  k_law : mg "law" = some (.ref (He.ga K "law"))
section
variable {P : Program} {w : World} {K : PySem.W.Frag} {mg : Str → Option Value} {base : Heap}
theorem S_Space___eq__ : FnScope ["self", "other"] ["self", "other"] (defScope s_Space___eq__) := ⟨rfl, rfl, rfl, by decide +kernel, rfl, by decide +kernel, by decide +kernel⟩
theorem t_Space___eq__ (G : Gg K mg)  {fa : Addr} {cdv : Value} {A : Around} {outer : List Env} {sh : Shared} {H : Hp} {E : XK} (hr : Room 0 (A.deeper (PyProof.Rows.envOfC "Space.__eq__" (defScope s_Space___eq__) sh.heap.objs.size fa cdv))) :
  SSs (cxD P w K mg base ["self", "other"] "Space.__eq__" (defScope s_Space___eq__) fa cdv A outer sh H E) (⟨[], none⟩ : Pin) (fun cls d _ H => E cls d H) .fz [.un, .un] [] [.fz, .fz] [.fz, .fz] (defBody s_Space___eq__) m_Space___eq__ := by
  have tk : Takes (cxD P w K mg base ["self", "other"] "Space.__eq__" (defScope s_Space___eq__) fa cdv A outer sh H E) (fun cls d _ H => E cls d H) := tk_cxD
  have po : PassesOwn (model (cxD P w K mg base ["self", "other"] "Space.__eq__" (defScope s_Space___eq__) fa cdv A outer sh H E).prog (cxD P w K mg base ["self", "other"] "Space.__eq__" (defScope s_Space___eq__) fa cdv A outer sh H E).w) (cxD P w K mg base ["self", "other"] "Space.__eq__" (defScope s_Space___eq__) fa cdv A outer sh H E).A (cxD P w K mg base ["self", "other"] "Space.__eq__" (defScope s_Space___eq__) fa cdv A outer sh H E).env (cxD P w K mg base ["self", "other"] "Space.__eq__" (defScope s_Space___eq__) fa cdv A outer sh H E).xe := po_cxD
  have S := S_Space___eq__
  exact (SSs.one (SS.ret (ms2 := [.fz, .fz]) (SE.and (SE.isiC (SE.var 1) G.is_Space G.k_Space G.b_isinstance) (SE.one (SE.cmp (vEq (room_u64 hr)) (SE.fld G.k_Space G.cl_Space G.no_Space_rows (SE.var 0)) (SE.fld G.k_Space G.cl_Space G.no_Space_rows (SE.var 1)))))))
theorem k_Space___eq__ (G : Gg K mg)  (h : ∃ fd, FunD K "__eq__" "Space.__eq__" (defArgs s_Space___eq__) (defBody s_Space___eq__) (defScope s_Space___eq__) [] [] (He.ma K (He.ga K "Space") "__eq__") fd) : Deq P w K mg base "Space" 1 F_Space___eq__ := by
  obtain ⟨fd, F⟩ := h
  exact ⟨_, _, fd, ["self", "other"], G.k_Space, Cq.fn_ok F S_Space___eq__ rfl (by rfl) (by decide) (fun cdv A outer sh H E hr => t_Space___eq__ G  hr), (FunD.bindsN F fun _ _ _ _ _ _ us hl => match us, hl with | [_, _], _ => rfl), G.eq_Space⟩
theorem S__law_box : FnScope ["great"] ["great"] (defScope s__law_box) := ⟨rfl, rfl, rfl, by decide +kernel, rfl, by decide +kernel, by decide +kernel⟩
theorem t__law_box (G : Gg K mg)  {fa : Addr} {cdv : Value} {A : Around} {outer : List Env} {sh : Shared} {H : Hp} {E : XK} (hr : Room 0 (A.deeper (PyProof.Rows.envOfC "_law_box" (defScope s__law_box) sh.heap.objs.size fa cdv))) :
  SSs (cxD P w K mg base ["great"] "_law_box" (defScope s__law_box) fa cdv A outer sh H E) (⟨[], none⟩ : Pin) (fun cls d _ H => E cls d H) .ow [.un] [] [.fz] [.fz] (defBody s__law_box) m__law_box := by
  have tk : Takes (cxD P w K mg base ["great"] "_law_box" (defScope s__law_box) fa cdv A outer sh H E) (fun cls d _ H => E cls d H) := tk_cxD
  have po : PassesOwn (model (cxD P w K mg base ["great"] "_law_box" (defScope s__law_box) fa cdv A outer sh H E).prog (cxD P w K mg base ["great"] "_law_box" (defScope s__law_box) fa cdv A outer sh H E).w) (cxD P w K mg base ["great"] "_law_box" (defScope s__law_box) fa cdv A outer sh H E).A (cxD P w K mg base ["great"] "_law_box" (defScope s__law_box) fa cdv A outer sh H E).env (cxD P w K mg base ["great"] "_law_box" (defScope s__law_box) fa cdv A outer sh H E).xe := po_cxD
  have S := S__law_box
  exact (SSs.one (SS.ret (ms2 := [.fz]) (SE.lst (SA.cons (SE.callB vAbs G.b_abs (by rfl) (SA.cons (SE.var 0) SA.nil)) (SA.cons (SE.cmp xGe (SE.callB vAbs G.b_abs (by rfl) (SA.cons (SE.var 0) SA.nil)) (SE.bin xPow SE.int SE.int)) (SA.cons (SE.bin xMod (SE.callT vInt G.b_int (by rfl) (SA.cons (SE.callB vAbs G.b_abs (by rfl) (SA.cons (SE.var 0) SA.nil)) SA.nil)) SE.int) (SA.cons SE.int SA.nil)))))))
theorem k__law_box (G : Gg K mg)  (h : ∃ fd, FunD K "_law_box" "_law_box" (defArgs s__law_box) (defBody s__law_box) (defScope s__law_box) [] [] (He.ga K "_law_box") fd) : Df P w K mg base "_law_box" 1 [.fz] .ow F__law_box := by
  obtain ⟨fd, F⟩ := h
  exact ⟨_, fd, ["great"], Cq.fn_ok F S__law_box rfl (by rfl) (by decide) (fun cdv A outer sh H E hr => t__law_box G  hr), G.k__law_box, F.kp, (FunD.bindsN F fun _ _ _ _ _ _ us hl => match us, hl with | [_], _ => rfl)⟩
theorem S__law_cell : FnScope ["script", "k"] ["script", "k"] (defScope s__law_cell) := ⟨rfl, rfl, rfl, by decide +kernel, rfl, by decide +kernel, by decide +kernel⟩
theorem t__law_cell (G : Gg K mg)  {fa : Addr} {cdv : Value} {A : Around} {outer : List Env} {sh : Shared} {H : Hp} {E : XK} (hr : Room 0 (A.deeper (PyProof.Rows.envOfC "_law_cell" (defScope s__law_cell) sh.heap.objs.size fa cdv))) :
  SSs (cxD P w K mg base ["script", "k"] "_law_cell" (defScope s__law_cell) fa cdv A outer sh H E) (⟨[], none⟩ : Pin) (fun cls d _ H => E cls d H) .fz [.un, .un] [] [.fz, .fz] [.fz, .fz] (defBody s__law_cell) m__law_cell := by
  have tk : Takes (cxD P w K mg base ["script", "k"] "_law_cell" (defScope s__law_cell) fa cdv A outer sh H E) (fun cls d _ H => E cls d H) := tk_cxD
  have po : PassesOwn (model (cxD P w K mg base ["script", "k"] "_law_cell" (defScope s__law_cell) fa cdv A outer sh H E).prog (cxD P w K mg base ["script", "k"] "_law_cell" (defScope s__law_cell) fa cdv A outer sh H E).w) (cxD P w K mg base ["script", "k"] "_law_cell" (defScope s__law_cell) fa cdv A outer sh H E).A (cxD P w K mg base ["script", "k"] "_law_cell" (defScope s__law_cell) fa cdv A outer sh H E).env (cxD P w K mg base ["script", "k"] "_law_cell" (defScope s__law_cell) fa cdv A outer sh H E).xe := po_cxD
  have S := S__law_cell
  exact (SSs.one (SS.ret (ms2 := [.fz, .fz]) (SE.ite (ST.cmp xLt (SE.var 1) (SE.callB vLen G.b_len (by rfl) (SA.cons (SE.var 0) SA.nil))) (SE.ix (SE.var 0) (SE.var 1)) (SE.bin vAdd (SE.bin vMulA SE.int (SE.var 1)) (SE.bin xMod (SE.callT vInt G.b_int (by rfl) (SA.cons (SE.callB (vSum rfl) G.b_sum (by rfl) (SA.cons (SE.slice (SE.var 0) SO.none (SO.some SE.int)) SA.nil)) SA.nil)) SE.int)))))
theorem k__law_cell (G : Gg K mg)  (h : ∃ fd, FunD K "_law_cell" "_law_cell" (defArgs s__law_cell) (defBody s__law_cell) (defScope s__law_cell) [] [] (He.ga K "_law_cell") fd) : Df P w K mg base "_law_cell" 1 [.fz, .fz] .fz F__law_cell := by
  obtain ⟨fd, F⟩ := h
  exact ⟨_, fd, ["script", "k"], Cq.fn_ok F S__law_cell rfl (by rfl) (by decide) (fun cdv A outer sh H E hr => t__law_cell G  hr), G.k__law_cell, F.kp, (FunD.bindsN F fun _ _ _ _ _ _ us hl => match us, hl with | [_, _], _ => rfl)⟩
theorem S__law_closed : FnScope ["rows", "size", "found", "k", "i", "j", "row"] ["rows"] (defScope s__law_closed) := ⟨rfl, rfl, rfl, by decide +kernel, rfl, by decide +kernel, by decide +kernel⟩
theorem t__law_closed (G : Gg K mg)  {fa : Addr} {cdv : Value} {A : Around} {outer : List Env} {sh : Shared} {H : Hp} {E : XK} (hr : Room 0 (A.deeper (PyProof.Rows.envOfC "_law_closed" (defScope s__law_closed) sh.heap.objs.size fa cdv))) :
  SSs (cxD P w K mg base ["rows", "size", "found", "k", "i", "j", "row"] "_law_closed" (defScope s__law_closed) fa cdv A outer sh H E) (⟨[], none⟩ : Pin) (fun cls d _ H => E cls d H) .ow2 [.un, .un, .un, .un, .un, .un, .un] [] [.fz, .un, .un, .un, .un, .un, .un] [.fz, .un, .un, .un, .un, .un, .un] (defBody s__law_closed) m__law_closed := by
  have tk : Takes (cxD P w K mg base ["rows", "size", "found", "k", "i", "j", "row"] "_law_closed" (defScope s__law_closed) fa cdv A outer sh H E) (fun cls d _ H => E cls d H) := tk_cxD
  have po : PassesOwn (model (cxD P w K mg base ["rows", "size", "found", "k", "i", "j", "row"] "_law_closed" (defScope s__law_closed) fa cdv A outer sh H E).prog (cxD P w K mg base ["rows", "size", "found", "k", "i", "j", "row"] "_law_closed" (defScope s__law_closed) fa cdv A outer sh H E).w) (cxD P w K mg base ["rows", "size", "found", "k", "i", "j", "row"] "_law_closed" (defScope s__law_closed) fa cdv A outer sh H E).A (cxD P w K mg base ["rows", "size", "found", "k", "i", "j", "row"] "_law_closed" (defScope s__law_closed) fa cdv A outer sh H E).env (cxD P w K mg base ["rows", "size", "found", "k", "i", "j", "row"] "_law_closed" (defScope s__law_closed) fa cdv A outer sh H E).xe := po_cxD
  have S := S__law_closed
  exact (SSs.cons (ms1 := [.fz, .fz, .un, .un, .un, .un, .un]) (SS.set (md := .fz) 1 (SE.callB vLen G.b_len (by rfl) (SA.cons (SE.var 0) SA.nil)) S.nd)
 (SSs.cons (ms1 := [.fz, .fz, .ow2, .un, .un, .un, .un]) (SS.setLc (own := [("row", 6)]) (ms1 := [.fz, .fz, .un, .un, .un, .un, .fz]) 2 rfl S.nd (SI.any (SE.var 0)) (bk (by first | decide +kernel | rfl)) (fun sh hp C cl fp => (SG.name 6 S.nd)) (fun sh hp C cl fp => STs.nil) (fun sh hp C cl fp => (SE.callT vList G.b_list (by rfl) (SA.cons (SE.var 6) SA.nil))))
 (SSs.cons (ms1 := [.fz, .fz, .ow2, .un, .un, .un, .un]) (SS.for_ (ms1 := [.fz, .fz, .ow2, .fz, .un, .un, .un]) (ms2 := [.fz, .fz, .ow2, .un, .un, .un, .un]) [.fz, .fz, .ow2, .un, .un, .un, .un] (SI.range1 (SA.cons (SE.var 1) SA.nil) G.b_range) (SG.name 3 S.nd)
 (SSs.cons (ms1 := [.fz, .fz, .ow2, .fz, .un, .un, .un]) (SS.for_ (ms1 := [.fz, .fz, .ow2, .fz, .fz, .un, .un]) (ms2 := [.fz, .fz, .ow2, .fz, .un, .un, .un]) [.fz, .fz, .ow2, .fz, .un, .un, .un] (SI.range1 (SA.cons (SE.var 1) SA.nil) G.b_range) (SG.name 4 S.nd)
 (SSs.cons (ms1 := [.fz, .fz, .ow2, .fz, .fz, .un, .un]) (SS.for_ (ms1 := [.fz, .fz, .ow2, .fz, .fz, .fz, .un]) (ms2 := [.fz, .fz, .ow2, .fz, .fz, .un, .un]) [.fz, .fz, .ow2, .fz, .fz, .un, .un] (SI.range1 (SA.cons (SE.var 1) SA.nil) G.b_range) (SG.name 5 S.nd)
 (SSs.cons (ms1 := [.fz, .fz, .ow2, .fz, .fz, .fz, .un]) (SS.asg (SE.view (SE.callB (vMin rfl) G.b_min (by rfl) (SA.cons (SE.ix (SE.ix (SE.var 2) (SE.var 4)) (SE.var 5)) (SA.cons (SE.bin vAdd (SE.ix (SE.ix (SE.var 2) (SE.var 4)) (SE.var 3)) (SE.ix (SE.ix (SE.var 2) (SE.var 3)) (SE.var 5))) SA.nil)))) (SG.subOwn2 2 (SP.var 4) (SP.var 5)))
 (SSs.weak (ms3 := [.fz, .fz, .ow2, .fz, .fz, .un, .un]) (SSs.nil (ms := [.fz, .fz, .ow2, .fz, .fz, .fz, .un])))) po rfl)
 (SSs.weak (ms3 := [.fz, .fz, .ow2, .fz, .un, .un, .un]) (SSs.nil (ms := [.fz, .fz, .ow2, .fz, .fz, .un, .un])))) po rfl)
 (SSs.weak (ms3 := [.fz, .fz, .ow2, .un, .un, .un, .un]) (SSs.nil (ms := [.fz, .fz, .ow2, .fz, .un, .un, .un])))) po rfl)
 (SSs.one (SS.retOwn (ms2 := [.fz, .un, .un, .un, .un, .un, .un]) 2)))))
theorem k__law_closed (G : Gg K mg)  (h : ∃ fd, FunD K "_law_closed" "_law_closed" (defArgs s__law_closed) (defBody s__law_closed) (defScope s__law_closed) [] [] (He.ga K "_law_closed") fd) : Df P w K mg base "_law_closed" 1 [.fz] .ow2 F__law_closed := by
  obtain ⟨fd, F⟩ := h
  exact ⟨_, fd, ["rows"], Cq.fn_ok F S__law_closed rfl (by rfl) (by decide) (fun cdv A outer sh H E hr => t__law_closed G  hr), G.k__law_closed, F.kp, (FunD.bindsN F fun _ _ _ _ _ _ us hl => match us, hl with | [_], _ => rfl)⟩
theorem S__law_take : FnScope ["box", "many", "digit", "mixed"] ["box", "many"] (defScope s__law_take) := ⟨rfl, rfl, rfl, by decide +kernel, rfl, by decide +kernel, by decide +kernel⟩
theorem t__law_take (G : Gg K mg)  {fa : Addr} {cdv : Value} {A : Around} {outer : List Env} {sh : Shared} {H : Hp} {E : XK} (hr : Room 0 (A.deeper (PyProof.Rows.envOfC "_law_take" (defScope s__law_take) sh.heap.objs.size fa cdv))) :
  SSs (cxD P w K mg base ["box", "many", "digit", "mixed"] "_law_take" (defScope s__law_take) fa cdv A outer sh H E) (⟨[0], none⟩ : Pin) (fun cls d _ H => E cls d H) .fz [.ow, .un, .un, .un] [] [.ow, .fz, .un, .un] [.ow, .fz, .un, .un] (defBody s__law_take) m__law_take := by
  have tk : Takes (cxD P w K mg base ["box", "many", "digit", "mixed"] "_law_take" (defScope s__law_take) fa cdv A outer sh H E) (fun cls d _ H => E cls d H) := tk_cxD
  have po : PassesOwn (model (cxD P w K mg base ["box", "many", "digit", "mixed"] "_law_take" (defScope s__law_take) fa cdv A outer sh H E).prog (cxD P w K mg base ["box", "many", "digit", "mixed"] "_law_take" (defScope s__law_take) fa cdv A outer sh H E).w) (cxD P w K mg base ["box", "many", "digit", "mixed"] "_law_take" (defScope s__law_take) fa cdv A outer sh H E).A (cxD P w K mg base ["box", "many", "digit", "mixed"] "_law_take" (defScope s__law_take) fa cdv A outer sh H E).env (cxD P w K mg base ["box", "many", "digit", "mixed"] "_law_take" (defScope s__law_take) fa cdv A outer sh H E).xe := po_cxD
  have S := S__law_take
  exact (SSs.cons (ms1 := [.ow, .fz, .un, .un]) (SS.ite (ms2 := [.ow, .fz, .un, .un]) (ST.view (SW.st (SW.and (ST.tru (SE.ix (SE.var 0) SE.int)) (SW.and1 (ST.cmp xGt (SE.ix (SE.var 0) SE.int) SE.int)))))
 (SSs.cons (ms1 := [.ow, .fz, .fz, .un]) (SS.set (md := .fz) 2 (SE.view (SE.bin xMod (SE.callT vInt G.b_int (by rfl) (SA.cons (SE.ix (SE.var 0) SE.int) SA.nil)) (SE.var 1))) S.nd)
 (SSs.cons (ms1 := [.ow, .fz, .fz, .un]) (SS.asg (SE.view (SE.bin xDiv (SE.ix (SE.var 0) SE.int) (SE.var 1))) (SG.subOwn 0 SP.int))
 (SSs.one (SS.ret (ms2 := [.ow, .fz, .un, .un]) (SE.var 2)))))
 SSs.nil)
 (SSs.cons (ms1 := [.ow, .fz, .un, .un]) (SS.asg (SE.view (SE.bin vAdd (SE.ix (SE.var 0) SE.int) SE.int)) (SG.subOwn 0 SP.int))
 (SSs.cons (ms1 := [.ow, .fz, .un, .fz]) (SS.set (md := .fz) 3 (SE.view (SE.bin xMod (SE.callT vInt G.b_int (by rfl) (SA.cons (SE.bin xPow (SE.bin vAdd (SE.bin vAdd (SE.ix (SE.var 0) SE.int) (SE.bin vMulA SE.int (SE.ix (SE.var 0) SE.int))) SE.int) SE.int) SA.nil)) SE.int)) S.nd)
 (SSs.one (SS.ret (ms2 := [.ow, .fz, .un, .un]) (SE.view (SE.bin xMod (SE.callT vInt G.b_int (by rfl) (SA.cons (SE.bin xDiv (SE.bin xMod (SE.callT vInt G.b_int (by rfl) (SA.cons (SE.bin xPow (SE.bin vAdd (SE.bin vMulA (SE.var 3) SE.int) (SE.bin vMulA SE.int (SE.ix (SE.var 0) SE.int))) SE.int) SA.nil)) SE.int) SE.int) SA.nil)) (SE.var 1))))))))
theorem k__law_take (G : Gg K mg)  (h : ∃ fd, FunD K "_law_take" "_law_take" (defArgs s__law_take) (defBody s__law_take) (defScope s__law_take) [] [] (He.ga K "_law_take") fd) : Df P w K mg base "_law_take" 1 [.ow, .fz] .fz F__law_take := by
  obtain ⟨fd, F⟩ := h
  exact ⟨_, fd, ["box", "many"], Cq.fn_ok F S__law_take rfl (by rfl) (by decide) (fun cdv A outer sh H E hr => t__law_take G  hr), G.k__law_take, F.kp, (FunD.bindsN F fun _ _ _ _ _ _ us hl => match us, hl with | [_, _], _ => rfl)⟩
theorem S__law_mixed : FnScope ["box", "many", "left", "found"] ["box", "many"] (defScope s__law_mixed) := ⟨rfl, rfl, rfl, by decide +kernel, rfl, by decide +kernel, by decide +kernel⟩
theorem t__law_mixed (G : Gg K mg) (d__law_take : Df P w K mg base "_law_take" 1 [.ow, .fz] .fz F__law_take) {fa : Addr} {cdv : Value} {A : Around} {outer : List Env} {sh : Shared} {H : Hp} {E : XK} (hr : Room 1 (A.deeper (PyProof.Rows.envOfC "_law_mixed" (defScope s__law_mixed) sh.heap.objs.size fa cdv))) :
  SSs (cxD P w K mg base ["box", "many", "left", "found"] "_law_mixed" (defScope s__law_mixed) fa cdv A outer sh H E) (⟨[0], none⟩ : Pin) (fun cls d _ H => E cls d H) .fz [.ow, .un, .un, .un] [] [.ow, .fz, .un, .un] [.ow, .fz, .un, .un] (defBody s__law_mixed) m__law_mixed := by
  have tk : Takes (cxD P w K mg base ["box", "many", "left", "found"] "_law_mixed" (defScope s__law_mixed) fa cdv A outer sh H E) (fun cls d _ H => E cls d H) := tk_cxD
  have po : PassesOwn (model (cxD P w K mg base ["box", "many", "left", "found"] "_law_mixed" (defScope s__law_mixed) fa cdv A outer sh H E).prog (cxD P w K mg base ["box", "many", "left", "found"] "_law_mixed" (defScope s__law_mixed) fa cdv A outer sh H E).w) (cxD P w K mg base ["box", "many", "left", "found"] "_law_mixed" (defScope s__law_mixed) fa cdv A outer sh H E).A (cxD P w K mg base ["box", "many", "left", "found"] "_law_mixed" (defScope s__law_mixed) fa cdv A outer sh H E).env (cxD P w K mg base ["box", "many", "left", "found"] "_law_mixed" (defScope s__law_mixed) fa cdv A outer sh H E).xe := po_cxD
  have S := S__law_mixed
  exact (SSs.cons (ms1 := [.ow, .fz, .ow, .ow]) (SS.par (md1 := .ow) (md2 := .ow) 2 3 (SE.listRange1 (SE.var 1) rfl G.b_list G.b_range) (SE.lst SA.nil) rfl S.nd)
 (SSs.cons (ms1 := [.ow, .fz, .ow, .ow]) (SS.while_ (ms2 := [.ow, .fz, .ow, .ow]) [.ow, .fz, .ow, .ow] (fun _ => 4096) (ST.view (ST.cmp (vNe (room_u64 hr)) (SE.var 2) (SE.frozen (SE.lst SA.nil))))
 (SSs.one (SS.expr (SE.append 3 (SE.popAt 2 (SE.call (d__law_take.at hr (by decide)) tk (SAr.own 0 (SAr.cons (SE.view (SE.callB vLen G.b_len (by rfl) (SA.cons (SE.var 2) SA.nil))) SAr.nil))))))) po)
 (SSs.freeze (md := .ow) 3 (SSs.one (SS.ret (ms2 := [.ow, .fz, .un, .un]) (SE.var 3))))))
theorem k__law_mixed (G : Gg K mg) (d__law_take : Df P w K mg base "_law_take" 1 [.ow, .fz] .fz F__law_take) (h : ∃ fd, FunD K "_law_mixed" "_law_mixed" (defArgs s__law_mixed) (defBody s__law_mixed) (defScope s__law_mixed) [] [] (He.ga K "_law_mixed") fd) : Df P w K mg base "_law_mixed" 2 [.ow, .fz] .fz F__law_mixed := by
  obtain ⟨fd, F⟩ := h
  exact ⟨_, fd, ["box", "many"], Cq.fn_ok F S__law_mixed rfl (by rfl) (by decide) (fun cdv A outer sh H E hr => t__law_mixed G d__law_take hr), G.k__law_mixed, F.kp, (FunD.bindsN F fun _ _ _ _ _ _ us hl => match us, hl with | [_, _], _ => rfl)⟩
theorem S__law_pairs_in : FnScope ["size", "found", "x", "y"] ["size"] (defScope s__law_pairs_in) := ⟨rfl, rfl, rfl, by decide +kernel, rfl, by decide +kernel, by decide +kernel⟩
theorem t__law_pairs_in (G : Gg K mg)  {fa : Addr} {cdv : Value} {A : Around} {outer : List Env} {sh : Shared} {H : Hp} {E : XK} (hr : Room 0 (A.deeper (PyProof.Rows.envOfC "_law_pairs_in" (defScope s__law_pairs_in) sh.heap.objs.size fa cdv))) :
  SSs (cxD P w K mg base ["size", "found", "x", "y"] "_law_pairs_in" (defScope s__law_pairs_in) fa cdv A outer sh H E) (⟨[], none⟩ : Pin) (fun cls d _ H => E cls d H) .fz [.un, .un, .un, .un] [] [.fz, .un, .un, .un] [.fz, .un, .un, .un] (defBody s__law_pairs_in) m__law_pairs_in := by
  have tk : Takes (cxD P w K mg base ["size", "found", "x", "y"] "_law_pairs_in" (defScope s__law_pairs_in) fa cdv A outer sh H E) (fun cls d _ H => E cls d H) := tk_cxD
  have po : PassesOwn (model (cxD P w K mg base ["size", "found", "x", "y"] "_law_pairs_in" (defScope s__law_pairs_in) fa cdv A outer sh H E).prog (cxD P w K mg base ["size", "found", "x", "y"] "_law_pairs_in" (defScope s__law_pairs_in) fa cdv A outer sh H E).w) (cxD P w K mg base ["size", "found", "x", "y"] "_law_pairs_in" (defScope s__law_pairs_in) fa cdv A outer sh H E).A (cxD P w K mg base ["size", "found", "x", "y"] "_law_pairs_in" (defScope s__law_pairs_in) fa cdv A outer sh H E).env (cxD P w K mg base ["size", "found", "x", "y"] "_law_pairs_in" (defScope s__law_pairs_in) fa cdv A outer sh H E).xe := po_cxD
  have S := S__law_pairs_in
  exact (SSs.cons (ms1 := [.fz, .ow, .un, .un]) (SS.set (md := .ow) 1 (SE.lst SA.nil) S.nd)
 (SSs.cons (ms1 := [.fz, .ow, .un, .un]) (SS.for_ (ms1 := [.fz, .ow, .fz, .un]) (ms2 := [.fz, .ow, .un, .un]) [.fz, .ow, .un, .un] (SI.range1 (SA.cons (SE.var 0) SA.nil) G.b_range) (SG.name 2 S.nd)
 (SSs.cons (ms1 := [.fz, .ow, .fz, .un]) (SS.expr (SE.extend 1 (SE.frozen (SE.lc (own := [("y", 3)]) (ms1 := [.fz, .ow, .fz, .fz]) rfl S.nd (SI.range2 (SA.cons (SE.bin vAdd (SE.var 2) SE.int) (SA.cons (SE.var 0) SA.nil)) G.b_range) (bk (by first | decide +kernel | rfl)) (fun sh hp C cl fp => (SG.name 3 S.nd)) (fun sh hp C cl fp => STs.nil) (fun sh hp C cl fp => (SE.tup (SA.cons (SE.var 2) (SA.cons (SE.var 3) SA.nil))))))))
 (SSs.weak (ms3 := [.fz, .ow, .un, .un]) (SSs.nil (ms := [.fz, .ow, .fz, .un])))) po rfl)
 (SSs.freeze (md := .ow) 1 (SSs.one (SS.ret (ms2 := [.fz, .un, .un, .un]) (SE.var 1))))))
theorem k__law_pairs_in (G : Gg K mg)  (h : ∃ fd, FunD K "_law_pairs_in" "_law_pairs_in" (defArgs s__law_pairs_in) (defBody s__law_pairs_in) (defScope s__law_pairs_in) [] [] (He.ga K "_law_pairs_in") fd) : Df P w K mg base "_law_pairs_in" 1 [.fz] .fz F__law_pairs_in := by
  obtain ⟨fd, F⟩ := h
  exact ⟨_, fd, ["size"], Cq.fn_ok F S__law_pairs_in rfl (by rfl) (by decide) (fun cdv A outer sh H E hr => t__law_pairs_in G  hr), G.k__law_pairs_in, F.kp, (FunD.bindsN F fun _ _ _ _ _ _ us hl => match us, hl with | [_], _ => rfl)⟩
theorem S__law_tree_rows : FnScope ["box", "size", "wide", "many", "rows", "x", "low", "far", "y", "order"] ["box", "size", "wide"] (defScope s__law_tree_rows) := ⟨rfl, rfl, rfl, by decide +kernel, rfl, by decide +kernel, by decide +kernel⟩
theorem t__law_tree_rows (G : Gg K mg) (d__law_mixed : Df P w K mg base "_law_mixed" 2 [.ow, .fz] .fz F__law_mixed) (d__law_take : Df P w K mg base "_law_take" 1 [.ow, .fz] .fz F__law_take) {fa : Addr} {cdv : Value} {A : Around} {outer : List Env} {sh : Shared} {H : Hp} {E : XK} (hr : Room 2 (A.deeper (PyProof.Rows.envOfC "_law_tree_rows" (defScope s__law_tree_rows) sh.heap.objs.size fa cdv))) :
  SSs (cxD P w K mg base ["box", "size", "wide", "many", "rows", "x", "low", "far", "y", "order"] "_law_tree_rows" (defScope s__law_tree_rows) fa cdv A outer sh H E) (⟨[0], none⟩ : Pin) (fun cls d _ H => E cls d H) .ow2 [.ow, .un, .un, .un, .un, .un, .un, .un, .un, .un] [] [.ow, .fz, .fz, .un, .un, .un, .un, .un, .un, .un] [.ow, .fz, .fz, .un, .un, .un, .un, .un, .un, .un] (defBody s__law_tree_rows) m__law_tree_rows := by
  have tk : Takes (cxD P w K mg base ["box", "size", "wide", "many", "rows", "x", "low", "far", "y", "order"] "_law_tree_rows" (defScope s__law_tree_rows) fa cdv A outer sh H E) (fun cls d _ H => E cls d H) := tk_cxD
  have po : PassesOwn (model (cxD P w K mg base ["box", "size", "wide", "many", "rows", "x", "low", "far", "y", "order"] "_law_tree_rows" (defScope s__law_tree_rows) fa cdv A outer sh H E).prog (cxD P w K mg base ["box", "size", "wide", "many", "rows", "x", "low", "far", "y", "order"] "_law_tree_rows" (defScope s__law_tree_rows) fa cdv A outer sh H E).w) (cxD P w K mg base ["box", "size", "wide", "many", "rows", "x", "low", "far", "y", "order"] "_law_tree_rows" (defScope s__law_tree_rows) fa cdv A outer sh H E).A (cxD P w K mg base ["box", "size", "wide", "many", "rows", "x", "low", "far", "y", "order"] "_law_tree_rows" (defScope s__law_tree_rows) fa cdv A outer sh H E).env (cxD P w K mg base ["box", "size", "wide", "many", "rows", "x", "low", "far", "y", "order"] "_law_tree_rows" (defScope s__law_tree_rows) fa cdv A outer sh H E).xe := po_cxD
  have S := S__law_tree_rows
  exact (SSs.cons (ms1 := [.ow, .fz, .fz, .fz, .un, .un, .un, .un, .un, .un]) (SS.set (md := .fz) 3 (SE.bin vAdd (SE.var 1) (SE.call (d__law_take.at hr (by decide)) tk (SAr.own 0 (SAr.cons (SE.bin vAdd (SE.var 1) SE.int) SAr.nil)))) S.nd)
 (SSs.cons (ms1 := [.ow, .fz, .fz, .fz, .ow2, .un, .un, .un, .un, .un]) (SS.set (md := .ow2) 4 (SE.lc (own := [("x", 5)]) (ms1 := [.ow, .fz, .fz, .fz, .un, .fz, .un, .un, .un, .un]) rfl S.nd (SI.range1 (SA.cons (SE.var 3) SA.nil) G.b_range) (bk (by first | decide +kernel | rfl)) (fun sh hp C cl fp => (SG.name 5 S.nd)) (fun sh hp C cl fp => STs.nil) (fun sh hp C cl fp => (SE.bin vRepL (SE.frozen (SE.lst (SA.cons SE.int SA.nil))) (SE.var 3)))) S.nd)
 (SSs.cons (ms1 := [.ow, .fz, .fz, .fz, .ow2, .un, .un, .un, .un, .un]) (SS.for_ (ms1 := [.ow, .fz, .fz, .fz, .ow2, .fz, .un, .un, .un, .un]) (ms2 := [.ow, .fz, .fz, .fz, .ow2, .un, .un, .un, .un, .un]) [.ow, .fz, .fz, .fz, .ow2, .un, .un, .un, .un, .un] (SI.range2 (SA.cons SE.int (SA.cons (SE.var 3) SA.nil)) G.b_range) (SG.name 5 S.nd)
 (SSs.cons (ms1 := [.ow, .fz, .fz, .fz, .ow2, .fz, .fz, .fz, .un, .un]) (SS.par (md1 := .fz) (md2 := .fz) 6 7 (SE.call (d__law_take.at hr (by decide)) tk (SAr.own 0 (SAr.cons (SE.var 5) SAr.nil))) (SE.bin vAdd SE.int (SE.call (d__law_take.at hr (by decide)) tk (SAr.own 0 (SAr.cons (SE.var 2) SAr.nil)))) rfl S.nd)
 (SSs.cons (ms1 := [.ow, .fz, .fz, .fz, .ow2, .fz, .fz, .fz, .un, .un]) (SS.for_ (ms1 := [.ow, .fz, .fz, .fz, .ow2, .fz, .fz, .fz, .fz, .un]) (ms2 := [.ow, .fz, .fz, .fz, .ow2, .fz, .fz, .fz, .un, .un]) [.ow, .fz, .fz, .fz, .ow2, .fz, .fz, .fz, .un, .un] (SI.range1 (SA.cons (SE.var 5) SA.nil) G.b_range) (SG.name 8 S.nd)
 (SSs.cons (ms1 := [.ow, .fz, .fz, .fz, .ow2, .fz, .fz, .fz, .fz, .un]) (SS.asg (SE.view (SE.bin vAdd (SE.ix (SE.ix (SE.var 4) (SE.var 6)) (SE.var 8)) (SE.var 7))) (SG.subOwn2 4 (SP.var 5) (SP.var 8)))
 (SSs.cons (ms1 := [.ow, .fz, .fz, .fz, .ow2, .fz, .fz, .fz, .fz, .un]) (SS.asg (SE.view (SE.ix (SE.ix (SE.var 4) (SE.var 5)) (SE.var 8))) (SG.subOwn2 4 (SP.var 8) (SP.var 5)))
 (SSs.weak (ms3 := [.ow, .fz, .fz, .fz, .ow2, .fz, .fz, .fz, .un, .un]) (SSs.nil (ms := [.ow, .fz, .fz, .fz, .ow2, .fz, .fz, .fz, .fz, .un]))))) po rfl)
 (SSs.weak (ms3 := [.ow, .fz, .fz, .fz, .ow2, .un, .un, .un, .un, .un]) (SSs.nil (ms := [.ow, .fz, .fz, .fz, .ow2, .fz, .fz, .fz, .un, .un]))))) po rfl)
 (SSs.cons (ms1 := [.ow, .fz, .fz, .fz, .ow2, .un, .un, .un, .un, .fz]) (SS.set (md := .fz) 9 (SE.slice (SE.call (d__law_mixed.at hr (by decide)) tk (SAr.own 0 (SAr.cons (SE.var 3) SAr.nil))) SO.none (SO.some (SE.var 1))) S.nd)
 (SSs.freeze (md := .ow2) 4 (SSs.one (SS.ret (ms2 := [.ow, .fz, .fz, .un, .un, .un, .un, .un, .un, .un]) (SE.lc (own := [("x", 5)]) (ms1 := [.ow, .fz, .fz, .fz, .fz, .fz, .un, .un, .un, .fz]) rfl S.nd (SI.any (SE.var 9)) (bk (by first | decide +kernel | rfl)) (fun sh hp C cl fp => (SG.name 5 S.nd)) (fun sh hp C cl fp => STs.nil) (fun sh hp C cl fp => (SE.lc (own := [("y", 8)]) (ms1 := [.ow, .fz, .fz, .fz, .fz, .fz, .un, .un, .fz, .fz]) rfl S.nd (SI.any (SE.var 9)) (bk (by first | decide +kernel | rfl)) (fun sh hp C cl fp => (SG.name 8 S.nd)) (fun sh hp C cl fp => STs.nil) (fun sh hp C cl fp => (SE.ix (SE.ix (SE.var 4) (SE.var 5)) (SE.var 8)))))))))))))
theorem k__law_tree_rows (G : Gg K mg) (d__law_mixed : Df P w K mg base "_law_mixed" 2 [.ow, .fz] .fz F__law_mixed) (d__law_take : Df P w K mg base "_law_take" 1 [.ow, .fz] .fz F__law_take) (h : ∃ fd, FunD K "_law_tree_rows" "_law_tree_rows" (defArgs s__law_tree_rows) (defBody s__law_tree_rows) (defScope s__law_tree_rows) [] [] (He.ga K "_law_tree_rows") fd) : Df P w K mg base "_law_tree_rows" 3 [.ow, .fz, .fz] .ow2 F__law_tree_rows := by
  obtain ⟨fd, F⟩ := h
  exact ⟨_, fd, ["box", "size", "wide"], Cq.fn_ok F S__law_tree_rows rfl (by rfl) (by decide) (fun cdv A outer sh H E hr => t__law_tree_rows G d__law_mixed d__law_take hr), G.k__law_tree_rows, F.kp, (FunD.bindsN F fun _ _ _ _ _ _ us hl => match us, hl with | [_, _, _], _ => rfl)⟩
theorem S__law_drawn : FnScope ["box", "size", "way", "wide", "rows", "x", "y", "far", "order", "k", "places", "turn", "side", "weight", "heights", "label", "low", "high"] ["box", "size"] (defScope s__law_drawn) := ⟨rfl, rfl, rfl, by decide +kernel, rfl, by decide +kernel, by decide +kernel⟩
theorem t__law_drawn (G : Gg K mg) (d__law_closed : Df P w K mg base "_law_closed" 1 [.fz] .ow2 F__law_closed) (d__law_mixed : Df P w K mg base "_law_mixed" 2 [.ow, .fz] .fz F__law_mixed) (d__law_pairs_in : Df P w K mg base "_law_pairs_in" 1 [.fz] .fz F__law_pairs_in) (d__law_take : Df P w K mg base "_law_take" 1 [.ow, .fz] .fz F__law_take) (d__law_tree_rows : Df P w K mg base "_law_tree_rows" 3 [.ow, .fz, .fz] .ow2 F__law_tree_rows) {fa : Addr} {cdv : Value} {A : Around} {outer : List Env} {sh : Shared} {H : Hp} {E : XK} (hr : Room 3 (A.deeper (PyProof.Rows.envOfC "_law_drawn" (defScope s__law_drawn) sh.heap.objs.size fa cdv))) :
  SSs (cxD P w K mg base ["box", "size", "way", "wide", "rows", "x", "y", "far", "order", "k", "places", "turn", "side", "weight", "heights", "label", "low", "high"] "_law_drawn" (defScope s__law_drawn) fa cdv A outer sh H E) (⟨[0], none⟩ : Pin) (fun cls d _ H => E cls d H) .fz [.ow, .un, .un, .un, .un, .un, .un, .un, .un, .un, .un, .un, .un, .un, .un, .un, .un, .un] [] [.ow, .fz, .un, .un, .un, .un, .un, .un, .un, .un, .un, .un, .un, .un, .un, .un, .un, .un] [.ow, .fz, .un, .un, .un, .un, .un, .un, .un, .un, .un, .un, .un, .un, .un, .un, .un, .un] (defBody s__law_drawn) m__law_drawn := by
  have tk : Takes (cxD P w K mg base ["box", "size", "way", "wide", "rows", "x", "y", "far", "order", "k", "places", "turn", "side", "weight", "heights", "label", "low", "high"] "_law_drawn" (defScope s__law_drawn) fa cdv A outer sh H E) (fun cls d _ H => E cls d H) := tk_cxD
  have po : PassesOwn (model (cxD P w K mg base ["box", "size", "way", "wide", "rows", "x", "y", "far", "order", "k", "places", "turn", "side", "weight", "heights", "label", "low", "high"] "_law_drawn" (defScope s__law_drawn) fa cdv A outer sh H E).prog (cxD P w K mg base ["box", "size", "way", "wide", "rows", "x", "y", "far", "order", "k", "places", "turn", "side", "weight", "heights", "label", "low", "high"] "_law_drawn" (defScope s__law_drawn) fa cdv A outer sh H E).w) (cxD P w K mg base ["box", "size", "way", "wide", "rows", "x", "y", "far", "order", "k", "places", "turn", "side", "weight", "heights", "label", "low", "high"] "_law_drawn" (defScope s__law_drawn) fa cdv A outer sh H E).A (cxD P w K mg base ["box", "size", "way", "wide", "rows", "x", "y", "far", "order", "k", "places", "turn", "side", "weight", "heights", "label", "low", "high"] "_law_drawn" (defScope s__law_drawn) fa cdv A outer sh H E).env (cxD P w K mg base ["box", "size", "way", "wide", "rows", "x", "y", "far", "order", "k", "places", "turn", "side", "weight", "heights", "label", "low", "high"] "_law_drawn" (defScope s__law_drawn) fa cdv A outer sh H E).xe := po_cxD
  have S := S__law_drawn
  exact (SSs.cons (ms1 := [.ow, .fz, .fz, .fz, .un, .un, .un, .un, .un, .un, .un, .un, .un, .un, .un, .un, .un, .un]) (SS.asg (SE.tup (SA.cons (SE.call (d__law_take.at hr (by decide)) tk (SAr.own 0 (SAr.cons SE.int SAr.nil))) (SA.cons (SE.ix (SE.frozen (SE.lst (SA.cons SE.int (SA.cons SE.int (SA.cons SE.int (SA.cons SE.int SA.nil)))))) (SE.call (d__law_take.at hr (by decide)) tk (SAr.own 0 (SAr.cons SE.int SAr.nil)))) SA.nil))) (SG.seq rfl (SGs.cons (SG.name 2 S.nd) (SGs.cons (SG.name 3 S.nd) SGs.nil)) (gs_lenS (gs_lenS gs_len0))))
 (SSs.cons (ms1 := [.ow, .fz, .fz, .fz, .ow2, .un, .un, .un, .un, .un, .un, .un, .un, .un, .un, .un, .un, .un]) (SS.setLc (own := [("x", 5)]) (ms1 := [.ow, .fz, .fz, .fz, .un, .fz, .un, .un, .un, .un, .un, .un, .un, .un, .un, .un, .un, .un]) 4 rfl S.nd (SI.range1 (SA.cons (SE.var 1) SA.nil) G.b_range) (bk (by first | decide +kernel | rfl)) (fun sh hp C cl fp => (SG.name 5 S.nd)) (fun sh hp C cl fp => STs.nil) (fun sh hp C cl fp => (SE.bin vRepL (SE.frozen (SE.lst (SA.cons SE.int SA.nil))) (SE.var 1))))
 (SSs.cons (ms1 := [.ow, .fz, .fz, .fz, .ow2, .un, .un, .un, .un, .un, .un, .un, .un, .un, .un, .un, .un, .un]) (SS.ite (ms2 := [.ow, .fz, .fz, .fz, .ow2, .un, .un, .un, .un, .un, .un, .un, .un, .un, .un, .un, .un, .un]) (SW.st (SW.or (ST.cmp (vEq (room_u64 hr)) (SE.var 2) SE.int) (SW.or1 (ST.cmp (vEq (room_u64 hr)) (SE.var 2) SE.int))))
 (SSs.cons (ms1 := [.ow, .fz, .fz, .fz, .ow2, .un, .un, .un, .un, .un, .un, .un, .un, .un, .un, .un, .un, .un]) (SS.for_ (ms1 := [.ow, .fz, .fz, .fz, .ow2, .fz, .fz, .un, .un, .un, .un, .un, .un, .un, .un, .un, .un, .un]) (ms2 := [.ow, .fz, .fz, .fz, .ow2, .un, .un, .un, .un, .un, .un, .un, .un, .un, .un, .un, .un, .un]) [.ow, .fz, .fz, .fz, .ow2, .un, .un, .un, .un, .un, .un, .un, .un, .un, .un, .un, .un, .un] (SI.any (SE.call (d__law_pairs_in.at hr (by decide)) tk (SAr.cons (SE.var 1) SAr.nil))) (SG.seq rfl (SGs.cons (SG.name 5 S.nd) (SGs.cons (SG.name 6 S.nd) SGs.nil)) (gs_lenS (gs_lenS gs_len0)))
 (SSs.cons (ms1 := [.ow, .fz, .fz, .fz, .ow2, .fz, .fz, .fz, .un, .un, .un, .un, .un, .un, .un, .un, .un, .un]) (SS.set (md := .fz) 7 (SE.bin vAdd SE.int (SE.call (d__law_take.at hr (by decide)) tk (SAr.own 0 (SAr.cons (SE.var 3) SAr.nil)))) S.nd)
 (SSs.cons (ms1 := [.ow, .fz, .fz, .fz, .ow2, .fz, .fz, .fz, .un, .un, .un, .un, .un, .un, .un, .un, .un, .un]) (SS.ite (ms2 := [.ow, .fz, .fz, .fz, .ow2, .fz, .fz, .fz, .un, .un, .un, .un, .un, .un, .un, .un, .un, .un]) (ST.cmp (vEq (room_u64 hr)) (SE.var 2) SE.int)
 (SSs.one (SS.set (md := .fz) 7 (SE.ite (ST.cmp (vEq (room_u64 hr)) (SE.call (d__law_take.at hr (by decide)) tk (SAr.own 0 (SAr.cons SE.int SAr.nil))) SE.int) SE.int (SE.var 1)) S.nd))
 SSs.nil)
 (SSs.cons (ms1 := [.ow, .fz, .fz, .fz, .ow2, .fz, .fz, .fz, .un, .un, .un, .un, .un, .un, .un, .un, .un, .un]) (SS.asg (SE.var 7) (SG.subOwn2 4 (SP.var 5) (SP.var 6)))
 (SSs.cons (ms1 := [.ow, .fz, .fz, .fz, .ow2, .fz, .fz, .fz, .un, .un, .un, .un, .un, .un, .un, .un, .un, .un]) (SS.asg (SE.var 7) (SG.subOwn2 4 (SP.var 6) (SP.var 5)))
 (SSs.weak (ms3 := [.ow, .fz, .fz, .fz, .ow2, .un, .un, .un, .un, .un, .un, .un, .un, .un, .un, .un, .un, .un]) (SSs.nil (ms := [.ow, .fz, .fz, .fz, .ow2, .fz, .fz, .fz, .un, .un, .un, .un, .un, .un, .un, .un, .un, .un]))))))) po rfl)
 (SSs.cons (ms1 := [.ow, .fz, .fz, .fz, .ow2, .un, .un, .un, .un, .un, .un, .un, .un, .un, .un, .un, .un, .un]) (SS.ite (ms2 := [.ow, .fz, .fz, .fz, .ow2, .un, .un, .un, .un, .un, .un, .un, .un, .un, .un, .un, .un, .un]) (ST.cmp (vEq (room_u64 hr)) (SE.var 2) SE.int)
 (SSs.cons (ms1 := [.ow, .fz, .fz, .fz, .ow2, .un, .un, .un, .fz, .un, .un, .un, .un, .un, .un, .un, .un, .un]) (SS.set (md := .fz) 8 (SE.call (d__law_mixed.at hr (by decide)) tk (SAr.own 0 (SAr.cons (SE.var 1) SAr.nil))) S.nd)
 (SSs.cons (ms1 := [.ow, .fz, .fz, .fz, .ow2, .un, .un, .un, .fz, .un, .un, .un, .un, .un, .un, .un, .un, .un]) (SS.for_ (ms1 := [.ow, .fz, .fz, .fz, .ow2, .un, .un, .un, .fz, .fz, .un, .un, .un, .un, .un, .un, .un, .un]) (ms2 := [.ow, .fz, .fz, .fz, .ow2, .un, .un, .un, .fz, .un, .un, .un, .un, .un, .un, .un, .un, .un]) [.ow, .fz, .fz, .fz, .ow2, .un, .un, .un, .fz, .un, .un, .un, .un, .un, .un, .un, .un, .un] (SI.range2 (SA.cons SE.int (SA.cons (SE.var 1) SA.nil)) G.b_range) (SG.name 9 S.nd)
 (SSs.cons (ms1 := [.ow, .fz, .fz, .fz, .ow2, .fz, .fz, .un, .fz, .fz, .un, .un, .un, .un, .un, .un, .un, .un]) (SS.par (md1 := .fz) (md2 := .fz) 5 6 (SE.ix (SE.var 8) (SE.var 9)) (SE.ix (SE.var 8) (SE.call (d__law_take.at hr (by decide)) tk (SAr.own 0 (SAr.cons (SE.var 9) SAr.nil)))) rfl S.nd)
 (SSs.cons (ms1 := [.ow, .fz, .fz, .fz, .ow2, .fz, .fz, .un, .fz, .fz, .un, .un, .un, .un, .un, .un, .un, .un]) (SS.asg SE.int (SG.subOwn2 4 (SP.var 5) (SP.var 6)))
 (SSs.cons (ms1 := [.ow, .fz, .fz, .fz, .ow2, .fz, .fz, .un, .fz, .fz, .un, .un, .un, .un, .un, .un, .un, .un]) (SS.asg SE.int (SG.subOwn2 4 (SP.var 6) (SP.var 5)))
 (SSs.weak (ms3 := [.ow, .fz, .fz, .fz, .ow2, .un, .un, .un, .fz, .un, .un, .un, .un, .un, .un, .un, .un, .un]) (SSs.nil (ms := [.ow, .fz, .fz, .fz, .ow2, .fz, .fz, .un, .fz, .fz, .un, .un, .un, .un, .un, .un, .un, .un])))))) po rfl)
 (SSs.weak (ms3 := [.ow, .fz, .fz, .fz, .ow2, .un, .un, .un, .un, .un, .un, .un, .un, .un, .un, .un, .un, .un]) (SSs.nil (ms := [.ow, .fz, .fz, .fz, .ow2, .un, .un, .un, .fz, .un, .un, .un, .un, .un, .un, .un, .un, .un])))))
 SSs.nil)
 (SSs.freeze (md := .ow2) 4 (SSs.one (SS.ret (ms2 := [.ow, .fz, .fz, .fz, .ow2, .un, .un, .un, .un, .un, .un, .un, .un, .un, .un, .un, .un, .un]) (SE.frozen (SE.call (d__law_closed.at hr (by decide)) tk (SAr.cons (SE.var 4) SAr.nil))))))))
 SSs.nil)
 (SSs.cons (ms1 := [.ow, .fz, .fz, .fz, .ow2, .un, .un, .un, .un, .un, .un, .un, .un, .un, .un, .un, .un, .un]) (SS.ite (ms2 := [.ow, .fz, .fz, .fz, .ow2, .un, .un, .un, .un, .un, .un, .un, .un, .un, .un, .un, .un, .un]) (SW.st (SW.or (ST.cmp (vEq (room_u64 hr)) (SE.var 2) SE.int) (SW.or1 (ST.cmp (vEq (room_u64 hr)) (SE.var 2) SE.int))))
 (SSs.cons (ms1 := [.ow, .fz, .fz, .fz, .ow2, .un, .un, .un, .un, .un, .un, .un, .un, .un, .un, .un, .un, .un]) (SS.set (md := .ow2) 4 (SE.call (d__law_tree_rows.at hr (by decide)) tk (SAr.own 0 (SAr.cons (SE.var 1) (SAr.cons (SE.callB (vMin rfl) G.b_min (by rfl) (SA.cons (SE.var 3) (SA.cons SE.int SA.nil))) SAr.nil)))) S.nd)
 (SSs.cons (ms1 := [.ow, .fz, .fz, .fz, .ow2, .un, .un, .un, .un, .un, .un, .un, .un, .un, .un, .un, .un, .un]) (SS.ite (ms2 := [.ow, .fz, .fz, .fz, .ow2, .un, .un, .un, .un, .un, .un, .un, .un, .un, .un, .un, .un, .un]) (SW.st (SW.and (ST.cmp (vEq (room_u64 hr)) (SE.var 2) SE.int) (SW.and1 (ST.cmp xGt (SE.var 1) SE.int))))
 (SSs.cons (ms1 := [.ow, .fz, .fz, .fz, .ow2, .fz, .un, .un, .un, .un, .un, .un, .un, .un, .un, .un, .un, .un]) (SS.set (md := .fz) 5 (SE.call (d__law_take.at hr (by decide)) tk (SAr.own 0 (SAr.cons (SE.var 1) SAr.nil))) S.nd)
 (SSs.cons (ms1 := [.ow, .fz, .fz, .fz, .ow2, .fz, .un, .un, .un, .un, .un, .un, .un, .un, .un, .un, .un, .un]) (SS.for_ (ms1 := [.ow, .fz, .fz, .fz, .ow2, .fz, .fz, .un, .un, .un, .un, .un, .un, .un, .un, .un, .un, .un]) (ms2 := [.ow, .fz, .fz, .fz, .ow2, .fz, .un, .un, .un, .un, .un, .un, .un, .un, .un, .un, .un, .un]) [.ow, .fz, .fz, .fz, .ow2, .fz, .un, .un, .un, .un, .un, .un, .un, .un, .un, .un, .un, .un] (SI.range1 (SA.cons (SE.var 1) SA.nil) G.b_range) (SG.name 6 S.nd)
 (SSs.cons (ms1 := [.ow, .fz, .fz, .fz, .ow2, .fz, .fz, .un, .un, .un, .un, .un, .un, .un, .un, .un, .un, .un]) (SS.ite (ms2 := [.ow, .fz, .fz, .fz, .ow2, .fz, .fz, .un, .un, .un, .un, .un, .un, .un, .un, .un, .un, .un]) (ST.cmp (vNe (room_u64 hr)) (SE.var 6) (SE.var 5))
 (SSs.cons (ms1 := [.ow, .fz, .fz, .fz, .ow2, .fz, .fz, .un, .un, .un, .un, .un, .un, .un, .un, .un, .un, .un]) (SS.asg (SE.bin vAdd (SE.view (SE.bin vAdd (SE.ix (SE.ix (SE.var 4) (SE.var 5)) (SE.var 6)) SE.int)) (SE.bin vMulA (SE.call (d__law_take.at hr (by decide)) tk (SAr.own 0 (SAr.cons SE.int SAr.nil))) (SE.callT vInt G.b_int (by rfl) (SA.cons (SE.cmp xGt (SE.var 6) (SE.var 5)) SA.nil)))) (SG.subOwn2 4 (SP.var 5) (SP.var 6)))
 (SSs.one (SS.asg (SE.view (SE.ix (SE.ix (SE.var 4) (SE.var 5)) (SE.var 6))) (SG.subOwn2 4 (SP.var 6) (SP.var 5)))))
 SSs.nil)
 (SSs.weak (ms3 := [.ow, .fz, .fz, .fz, .ow2, .fz, .un, .un, .un, .un, .un, .un, .un, .un, .un, .un, .un, .un]) (SSs.nil (ms := [.ow, .fz, .fz, .fz, .ow2, .fz, .fz, .un, .un, .un, .un, .un, .un, .un, .un, .un, .un, .un])))) po rfl)
 (SSs.freeze (md := .ow2) 4 (SSs.cons (ms1 := [.ow, .fz, .fz, .fz, .ow2, .fz, .un, .un, .un, .un, .un, .un, .un, .un, .un, .un, .un, .un]) (SS.set (md := .ow2) 4 (SE.call (d__law_closed.at hr (by decide)) tk (SAr.cons (SE.var 4) SAr.nil)) S.nd)
 (SSs.weak (ms3 := [.ow, .fz, .fz, .fz, .ow2, .un, .un, .un, .un, .un, .un, .un, .un, .un, .un, .un, .un, .un]) (SSs.nil (ms := [.ow, .fz, .fz, .fz, .ow2, .fz, .un, .un, .un, .un, .un, .un, .un, .un, .un, .un, .un, .un])))))))
 SSs.nil)
 (SSs.freeze (md := .ow2) 4 (SSs.one (SS.ret (ms2 := [.ow, .fz, .fz, .fz, .ow2, .un, .un, .un, .un, .un, .un, .un, .un, .un, .un, .un, .un, .un]) (SE.var 4))))))
 SSs.nil)
 (SSs.cons (ms1 := [.ow, .fz, .fz, .fz, .ow2, .un, .un, .un, .un, .un, .un, .un, .un, .un, .un, .un, .un, .un]) (SS.ite (ms2 := [.ow, .fz, .fz, .fz, .ow2, .un, .un, .un, .un, .un, .un, .un, .un, .un, .un, .un, .un, .un]) (ST.cmp (vEq (room_u64 hr)) (SE.var 2) SE.int)
 (SSs.cons (ms1 := [.ow, .fz, .fz, .fz, .ow2, .un, .un, .un, .un, .un, .ow, .un, .un, .un, .un, .un, .un, .un]) (SS.set (md := .ow) 10 (SE.lst SA.nil) S.nd)
 (SSs.cons (ms1 := [.ow, .fz, .fz, .fz, .ow2, .un, .un, .un, .un, .un, .ow, .un, .un, .un, .un, .un, .un, .un]) (SS.while_ (ms2 := [.ow, .fz, .fz, .fz, .ow2, .un, .un, .un, .un, .un, .ow, .un, .un, .un, .un, .un, .un, .un]) [.ow, .fz, .fz, .fz, .ow2, .un, .un, .un, .un, .un, .ow, .un, .un, .un, .un, .un, .un, .un] (fun _ => 4096) (ST.view (ST.cmp xLt (SE.callB vLen G.b_len (by rfl) (SA.cons (SE.var 10) SA.nil)) (SE.var 1)))
 (SSs.one (SS.expr (SE.append 10 (SE.bin vAdd (SE.view (SE.bin vAdd (SE.ite (ST.cmp (vNe (room_u64 hr)) (SE.var 10) (SE.frozen (SE.lst SA.nil))) (SE.ix (SE.var 10) (SE.neg SE.int)) SE.int) SE.int)) (SE.call (d__law_take.at hr (by decide)) tk (SAr.own 0 (SAr.cons (SE.var 3) SAr.nil))))))) po)
 (SSs.cons (ms1 := [.ow, .fz, .fz, .fz, .ow2, .un, .un, .un, .fz, .un, .ow, .un, .un, .un, .un, .un, .un, .un]) (SS.set (md := .fz) 8 (SE.call (d__law_mixed.at hr (by decide)) tk (SAr.own 0 (SAr.cons (SE.var 1) SAr.nil))) S.nd)
 (SSs.freeze (md := .ow) 10 (SSs.one (SS.ret (ms2 := [.ow, .fz, .fz, .fz, .ow2, .un, .un, .un, .un, .un, .un, .un, .un, .un, .un, .un, .un, .un]) (SE.frozen (SE.lc (own := [("x", 5)]) (ms1 := [.ow, .fz, .fz, .fz, .ow2, .fz, .un, .un, .fz, .un, .fz, .un, .un, .un, .un, .un, .un, .un]) rfl S.nd (SI.range1 (SA.cons (SE.var 1) SA.nil) G.b_range) (bk (by first | decide +kernel | rfl)) (fun sh hp C cl fp => (SG.name 5 S.nd)) (fun sh hp C cl fp => STs.nil) (fun sh hp C cl fp => (SE.frozen (SE.lc (own := [("y", 6)]) (ms1 := [.ow, .fz, .fz, .fz, .ow2, .fz, .fz, .un, .fz, .un, .fz, .un, .un, .un, .un, .un, .un, .un]) rfl S.nd (SI.range1 (SA.cons (SE.var 1) SA.nil) G.b_range) (bk (by first | decide +kernel | rfl)) (fun sh hp C cl fp => (SG.name 6 S.nd)) (fun sh hp C cl fp => STs.nil) (fun sh hp C cl fp => (SE.callB vAbs G.b_abs (by rfl) (SA.cons (SE.bin xSub (SE.ix (SE.var 10) (SE.ix (SE.var 8) (SE.var 5))) (SE.ix (SE.var 10) (SE.ix (SE.var 8) (SE.var 6)))) SA.nil))))))))))))))
 SSs.nil)
 (SSs.cons (ms1 := [.ow, .fz, .fz, .fz, .ow2, .un, .un, .un, .un, .un, .un, .un, .un, .un, .un, .un, .un, .un]) (SS.ite (ms2 := [.ow, .fz, .fz, .fz, .ow2, .un, .un, .un, .un, .un, .un, .un, .un, .un, .un, .un, .un, .un]) (ST.cmp (vEq (room_u64 hr)) (SE.var 2) SE.int)
 (SSs.cons (ms1 := [.ow, .fz, .fz, .fz, .ow2, .un, .un, .un, .un, .un, .un, .un, .un, .un, .un, .un, .un, .un]) (SS.for_ (ms1 := [.ow, .fz, .fz, .fz, .ow2, .fz, .fz, .un, .un, .un, .un, .un, .un, .un, .un, .un, .un, .un]) (ms2 := [.ow, .fz, .fz, .fz, .ow2, .un, .un, .un, .un, .un, .un, .un, .un, .un, .un, .un, .un, .un]) [.ow, .fz, .fz, .fz, .ow2, .un, .un, .un, .un, .un, .un, .un, .un, .un, .un, .un, .un, .un] (SI.any (SE.call (d__law_pairs_in.at hr (by decide)) tk (SAr.cons (SE.var 1) SAr.nil))) (SG.seq rfl (SGs.cons (SG.name 5 S.nd) (SGs.cons (SG.name 6 S.nd) SGs.nil)) (gs_lenS (gs_lenS gs_len0)))
 (SSs.cons (ms1 := [.ow, .fz, .fz, .fz, .ow2, .fz, .fz, .un, .un, .un, .un, .un, .un, .un, .un, .un, .un, .un]) (SS.asg SE.int (SG.subOwn2 4 (SP.var 5) (SP.var 6)))
 (SSs.weak (ms3 := [.ow, .fz, .fz, .fz, .ow2, .un, .un, .un, .un, .un, .un, .un, .un, .un, .un, .un, .un, .un]) (SSs.nil (ms := [.ow, .fz, .fz, .fz, .ow2, .fz, .fz, .un, .un, .un, .un, .un, .un, .un, .un, .un, .un, .un])))) po rfl)
 (SSs.cons (ms1 := [.ow, .fz, .fz, .fz, .ow2, .un, .un, .un, .un, .un, .un, .un, .un, .un, .un, .un, .un, .un]) (SS.for_ (ms1 := [.ow, .fz, .fz, .fz, .ow2, .un, .un, .un, .un, .un, .un, .fz, .un, .un, .un, .un, .un, .un]) (ms2 := [.ow, .fz, .fz, .fz, .ow2, .un, .un, .un, .un, .un, .un, .un, .un, .un, .un, .un, .un, .un]) [.ow, .fz, .fz, .fz, .ow2, .un, .un, .un, .un, .un, .un, .un, .un, .un, .un, .un, .un, .un] (SI.range1 (SA.cons (SE.bin vAdd SE.int (SE.call (d__law_take.at hr (by decide)) tk (SAr.own 0 (SAr.cons SE.int SAr.nil)))) SA.nil) G.b_range) (SG.name 11 S.nd)
 (SSs.cons (ms1 := [.ow, .fz, .fz, .fz, .ow2, .un, .un, .un, .un, .un, .un, .fz, .fz, .fz, .un, .un, .un, .un]) (SS.par (md1 := .fz) (md2 := .fz) 12 13 (SE.call (d__law_take.at hr (by decide)) tk (SAr.own 0 (SAr.cons (SE.bin xShl SE.int (SE.var 1)) SAr.nil))) (SE.bin vAdd SE.int (SE.call (d__law_take.at hr (by decide)) tk (SAr.own 0 (SAr.cons SE.int SAr.nil)))) rfl S.nd)
 (SSs.cons (ms1 := [.ow, .fz, .fz, .fz, .ow2, .un, .un, .un, .un, .un, .un, .fz, .fz, .fz, .un, .un, .un, .un]) (SS.for_ (ms1 := [.ow, .fz, .fz, .fz, .ow2, .fz, .fz, .un, .un, .un, .un, .fz, .fz, .fz, .un, .un, .un, .un]) (ms2 := [.ow, .fz, .fz, .fz, .ow2, .un, .un, .un, .un, .un, .un, .fz, .fz, .fz, .un, .un, .un, .un]) [.ow, .fz, .fz, .fz, .ow2, .un, .un, .un, .un, .un, .un, .fz, .fz, .fz, .un, .un, .un, .un] (SI.any (SE.call (d__law_pairs_in.at hr (by decide)) tk (SAr.cons (SE.var 1) SAr.nil))) (SG.seq rfl (SGs.cons (SG.name 5 S.nd) (SGs.cons (SG.name 6 S.nd) SGs.nil)) (gs_lenS (gs_lenS gs_len0)))
 (SSs.cons (ms1 := [.ow, .fz, .fz, .fz, .ow2, .fz, .fz, .un, .un, .un, .un, .fz, .fz, .fz, .un, .un, .un, .un]) (SS.asg (SE.view (SE.bin vAdd (SE.ix (SE.ix (SE.var 4) (SE.var 5)) (SE.var 6)) (SE.bin vMulA (SE.var 13) (SE.callT vInt G.b_int (by rfl) (SA.cons (SE.cmp (vNe (room_u64 hr)) (SE.bin xAnd (SE.bin xShr (SE.var 12) (SE.var 5)) SE.int) (SE.bin xAnd (SE.bin xShr (SE.var 12) (SE.var 6)) SE.int)) SA.nil))))) (SG.subOwn2 4 (SP.var 5) (SP.var 6)))
 (SSs.weak (ms3 := [.ow, .fz, .fz, .fz, .ow2, .un, .un, .un, .un, .un, .un, .fz, .fz, .fz, .un, .un, .un, .un]) (SSs.nil (ms := [.ow, .fz, .fz, .fz, .ow2, .fz, .fz, .un, .un, .un, .un, .fz, .fz, .fz, .un, .un, .un, .un])))) po rfl)
 (SSs.weak (ms3 := [.ow, .fz, .fz, .fz, .ow2, .un, .un, .un, .un, .un, .un, .un, .un, .un, .un, .un, .un, .un]) (SSs.nil (ms := [.ow, .fz, .fz, .fz, .ow2, .un, .un, .un, .un, .un, .un, .fz, .fz, .fz, .un, .un, .un, .un]))))) po rfl)
 (SSs.cons (ms1 := [.ow, .fz, .fz, .fz, .ow2, .un, .un, .un, .un, .un, .un, .un, .un, .un, .un, .un, .un, .un]) (SS.for_ (ms1 := [.ow, .fz, .fz, .fz, .ow2, .fz, .fz, .un, .un, .un, .un, .un, .un, .un, .un, .un, .un, .un]) (ms2 := [.ow, .fz, .fz, .fz, .ow2, .un, .un, .un, .un, .un, .un, .un, .un, .un, .un, .un, .un, .un]) [.ow, .fz, .fz, .fz, .ow2, .un, .un, .un, .un, .un, .un, .un, .un, .un, .un, .un, .un, .un] (SI.any (SE.call (d__law_pairs_in.at hr (by decide)) tk (SAr.cons (SE.var 1) SAr.nil))) (SG.seq rfl (SGs.cons (SG.name 5 S.nd) (SGs.cons (SG.name 6 S.nd) SGs.nil)) (gs_lenS (gs_lenS gs_len0)))
 (SSs.cons (ms1 := [.ow, .fz, .fz, .fz, .ow2, .fz, .fz, .un, .un, .un, .un, .un, .un, .un, .un, .un, .un, .un]) (SS.asg (SE.view (SE.bin vAdd (SE.ix (SE.ix (SE.var 4) (SE.var 5)) (SE.var 6)) SE.int)) (SG.subOwn2 4 (SP.var 5) (SP.var 6)))
 (SSs.cons (ms1 := [.ow, .fz, .fz, .fz, .ow2, .fz, .fz, .un, .un, .un, .un, .un, .un, .un, .un, .un, .un, .un]) (SS.asg (SE.view (SE.ix (SE.ix (SE.var 4) (SE.var 5)) (SE.var 6))) (SG.subOwn2 4 (SP.var 6) (SP.var 5)))
 (SSs.weak (ms3 := [.ow, .fz, .fz, .fz, .ow2, .un, .un, .un, .un, .un, .un, .un, .un, .un, .un, .un, .un, .un]) (SSs.nil (ms := [.ow, .fz, .fz, .fz, .ow2, .fz, .fz, .un, .un, .un, .un, .un, .un, .un, .un, .un, .un, .un]))))) po rfl)
 (SSs.freeze (md := .ow2) 4 (SSs.one (SS.ret (ms2 := [.ow, .fz, .fz, .fz, .ow2, .un, .un, .un, .un, .un, .un, .un, .un, .un, .un, .un, .un, .un]) (SE.var 4)))))))
 SSs.nil)
 (SSs.cons (ms1 := [.ow, .fz, .fz, .fz, .ow2, .un, .un, .un, .un, .un, .un, .un, .un, .un, .un, .un, .un, .un]) (SS.ite (ms2 := [.ow, .fz, .fz, .fz, .ow2, .un, .un, .un, .un, .un, .un, .un, .un, .un, .un, .un, .un, .un]) (ST.cmp (vEq (room_u64 hr)) (SE.var 2) SE.int)
 (SSs.cons (ms1 := [.ow, .fz, .fz, .fz, .ow2, .un, .un, .un, .un, .un, .un, .un, .un, .un, .ow, .un, .un, .un]) (SS.setLc (own := [("k", 9)]) (ms1 := [.ow, .fz, .fz, .fz, .ow2, .un, .un, .un, .un, .fz, .un, .un, .un, .un, .un, .un, .un, .un]) 14 rfl S.nd (SI.range1 (SA.cons (SE.var 1) SA.nil) G.b_range) (bk (by first | decide +kernel | rfl)) (fun sh hp C cl fp => (SG.name 9 S.nd)) (fun sh hp C cl fp => STs.nil) (fun sh hp C cl fp => (SE.bin vAdd SE.int (SE.call (d__law_take.at hr (by decide)) takes_none5 (SAr.own 0 (SAr.cons (SE.var 3) SAr.nil))))))
 (SSs.cons (ms1 := [.ow, .fz, .fz, .fz, .ow2, .un, .un, .un, .un, .un, .un, .un, .un, .un, .ow, .fz, .un, .un]) (SS.set (md := .fz) 15 (SE.call (d__law_mixed.at hr (by decide)) tk (SAr.own 0 (SAr.cons (SE.var 1) SAr.nil))) S.nd)
 (SSs.cons (ms1 := [.ow, .fz, .fz, .fz, .ow2, .un, .un, .un, .un, .un, .un, .un, .un, .un, .ow, .fz, .un, .un]) (SS.for_ (ms1 := [.ow, .fz, .fz, .fz, .ow2, .fz, .fz, .un, .un, .un, .un, .un, .un, .un, .ow, .fz, .un, .un]) (ms2 := [.ow, .fz, .fz, .fz, .ow2, .un, .un, .un, .un, .un, .un, .un, .un, .un, .ow, .fz, .un, .un]) [.ow, .fz, .fz, .fz, .ow2, .un, .un, .un, .un, .un, .un, .un, .un, .un, .ow, .fz, .un, .un] (SI.any (SE.call (d__law_pairs_in.at hr (by decide)) tk (SAr.cons (SE.var 1) SAr.nil))) (SG.seq rfl (SGs.cons (SG.name 5 S.nd) (SGs.cons (SG.name 6 S.nd) SGs.nil)) (gs_lenS (gs_lenS gs_len0)))
 (SSs.cons (ms1 := [.ow, .fz, .fz, .fz, .ow2, .fz, .fz, .un, .un, .un, .un, .un, .un, .un, .ow, .fz, .fz, .fz]) (SS.par (md1 := .fz) (md2 := .fz) 16 17 (SE.callB (vMin rfl) G.b_min (by rfl) (SA.cons (SE.ix (SE.var 15) (SE.var 5)) (SA.cons (SE.ix (SE.var 15) (SE.var 6)) SA.nil))) (SE.callB (vMax rfl) G.b_max (by rfl) (SA.cons (SE.ix (SE.var 15) (SE.var 5)) (SA.cons (SE.ix (SE.var 15) (SE.var 6)) SA.nil))) rfl S.nd)
 (SSs.cons (ms1 := [.ow, .fz, .fz, .fz, .ow2, .fz, .fz, .un, .un, .un, .un, .un, .un, .un, .ow, .fz, .fz, .fz]) (SS.asg (SE.view (SE.callB (vMax rfl) G.b_max (by rfl) (SA.cons (SE.slice (SE.var 14) (SO.some (SE.var 16)) (SO.some (SE.var 17))) SA.nil))) (SG.subOwn2 4 (SP.var 5) (SP.var 6)))
 (SSs.cons (ms1 := [.ow, .fz, .fz, .fz, .ow2, .fz, .fz, .un, .un, .un, .un, .un, .un, .un, .ow, .fz, .fz, .fz]) (SS.asg (SE.view (SE.ix (SE.ix (SE.var 4) (SE.var 5)) (SE.var 6))) (SG.subOwn2 4 (SP.var 6) (SP.var 5)))
 (SSs.weak (ms3 := [.ow, .fz, .fz, .fz, .ow2, .un, .un, .un, .un, .un, .un, .un, .un, .un, .ow, .fz, .un, .un]) (SSs.nil (ms := [.ow, .fz, .fz, .fz, .ow2, .fz, .fz, .un, .un, .un, .un, .un, .un, .un, .ow, .fz, .fz, .fz])))))) po rfl)
 (SSs.freeze (md := .ow2) 4 (SSs.one (SS.ret (ms2 := [.ow, .fz, .fz, .fz, .ow2, .un, .un, .un, .un, .un, .un, .un, .un, .un, .un, .un, .un, .un]) (SE.var 4)))))))
 SSs.nil)
 (SSs.cons (ms1 := [.ow, .fz, .fz, .fz, .ow2, .un, .un, .fz, .un, .un, .un, .un, .un, .un, .un, .un, .un, .un]) (SS.set (md := .fz) 7 (SE.bin vAdd SE.int (SE.call (d__law_take.at hr (by decide)) tk (SAr.own 0 (SAr.cons (SE.var 3) SAr.nil)))) S.nd)
 (SSs.one (SS.ret (ms2 := [.ow, .fz, .un, .un, .un, .un, .un, .un, .un, .un, .un, .un, .un, .un, .un, .un, .un, .un]) (SE.frozen (SE.lc (own := [("x", 5)]) (ms1 := [.ow, .fz, .fz, .fz, .ow2, .fz, .un, .fz, .un, .un, .un, .un, .un, .un, .un, .un, .un, .un]) rfl S.nd (SI.range1 (SA.cons (SE.var 1) SA.nil) G.b_range) (bk (by first | decide +kernel | rfl)) (fun sh hp C cl fp => (SG.name 5 S.nd)) (fun sh hp C cl fp => STs.nil) (fun sh hp C cl fp => (SE.frozen (SE.lc (own := [("y", 6)]) (ms1 := [.ow, .fz, .fz, .fz, .ow2, .fz, .fz, .fz, .un, .un, .un, .un, .un, .un, .un, .un, .un, .un]) rfl S.nd (SI.range1 (SA.cons (SE.var 1) SA.nil) G.b_range) (bk (by first | decide +kernel | rfl)) (fun sh hp C cl fp => (SG.name 6 S.nd)) (fun sh hp C cl fp => STs.nil) (fun sh hp C cl fp => (SE.bin vMulA (SE.var 7) (SE.callT vInt G.b_int (by rfl) (SA.cons (SE.cmp (vNe (room_u64 hr)) (SE.var 5) (SE.var 6)) SA.nil)))))))))))))))))))
theorem k__law_drawn (G : Gg K mg) (d__law_closed : Df P w K mg base "_law_closed" 1 [.fz] .ow2 F__law_closed) (d__law_mixed : Df P w K mg base "_law_mixed" 2 [.ow, .fz] .fz F__law_mixed) (d__law_pairs_in : Df P w K mg base "_law_pairs_in" 1 [.fz] .fz F__law_pairs_in) (d__law_take : Df P w K mg base "_law_take" 1 [.ow, .fz] .fz F__law_take) (d__law_tree_rows : Df P w K mg base "_law_tree_rows" 3 [.ow, .fz, .fz] .ow2 F__law_tree_rows) (h : ∃ fd, FunD K "_law_drawn" "_law_drawn" (defArgs s__law_drawn) (defBody s__law_drawn) (defScope s__law_drawn) [] [] (He.ga K "_law_drawn") fd) : Df P w K mg base "_law_drawn" 4 [.ow, .fz] .fz F__law_drawn := by
  obtain ⟨fd, F⟩ := h
  exact ⟨_, fd, ["box", "size"], Cq.fn_ok F S__law_drawn rfl (by rfl) (by decide) (fun cdv A outer sh H E hr => t__law_drawn G d__law_closed d__law_mixed d__law_pairs_in d__law_take d__law_tree_rows hr), G.k__law_drawn, F.kp, (FunD.bindsN F fun _ _ _ _ _ _ us hl => match us, hl with | [_, _], _ => rfl)⟩
theorem S__law_size : FnScope ["box"] ["box"] (defScope s__law_size) := ⟨rfl, rfl, rfl, by decide +kernel, rfl, by decide +kernel, by decide +kernel⟩
theorem t__law_size (G : Gg K mg) (d__law_take : Df P w K mg base "_law_take" 1 [.ow, .fz] .fz F__law_take) {fa : Addr} {cdv : Value} {A : Around} {outer : List Env} {sh : Shared} {H : Hp} {E : XK} (hr : Room 1 (A.deeper (PyProof.Rows.envOfC "_law_size" (defScope s__law_size) sh.heap.objs.size fa cdv))) :
  SSs (cxD P w K mg base ["box"] "_law_size" (defScope s__law_size) fa cdv A outer sh H E) (⟨[0], none⟩ : Pin) (fun cls d _ H => E cls d H) .fz [.ow] [] [.ow] [.ow] (defBody s__law_size) m__law_size := by
  have tk : Takes (cxD P w K mg base ["box"] "_law_size" (defScope s__law_size) fa cdv A outer sh H E) (fun cls d _ H => E cls d H) := tk_cxD
  have po : PassesOwn (model (cxD P w K mg base ["box"] "_law_size" (defScope s__law_size) fa cdv A outer sh H E).prog (cxD P w K mg base ["box"] "_law_size" (defScope s__law_size) fa cdv A outer sh H E).w) (cxD P w K mg base ["box"] "_law_size" (defScope s__law_size) fa cdv A outer sh H E).A (cxD P w K mg base ["box"] "_law_size" (defScope s__law_size) fa cdv A outer sh H E).env (cxD P w K mg base ["box"] "_law_size" (defScope s__law_size) fa cdv A outer sh H E).xe := po_cxD
  have S := S__law_size
  exact (SSs.one (SS.ret (ms2 := [.ow]) (SE.ix (SE.frozen (SE.lst (SA.cons SE.int (SA.cons SE.int (SA.cons SE.int (SA.cons SE.int (SA.cons SE.int (SA.cons SE.int (SA.cons (SE.bin vAdd SE.int (SE.call (d__law_take.at hr (by decide)) tk (SAr.own 0 (SAr.cons SE.int SAr.nil)))) (SA.cons (SE.bin vAdd SE.int (SE.call (d__law_take.at hr (by decide)) tk (SAr.own 0 (SAr.cons SE.int SAr.nil)))) SA.nil)))))))))) (SE.call (d__law_take.at hr (by decide)) tk (SAr.own 0 (SAr.cons SE.int SAr.nil))))))
theorem k__law_size (G : Gg K mg) (d__law_take : Df P w K mg base "_law_take" 1 [.ow, .fz] .fz F__law_take) (h : ∃ fd, FunD K "_law_size" "_law_size" (defArgs s__law_size) (defBody s__law_size) (defScope s__law_size) [] [] (He.ga K "_law_size") fd) : Df P w K mg base "_law_size" 2 [.ow] .fz F__law_size := by
  obtain ⟨fd, F⟩ := h
  exact ⟨_, fd, ["box"], Cq.fn_ok F S__law_size rfl (by rfl) (by decide) (fun cdv A outer sh H E hr => t__law_size G d__law_take hr), G.k__law_size, F.kp, (FunD.bindsN F fun _ _ _ _ _ _ us hl => match us, hl with | [_], _ => rfl)⟩
theorem S__law_tuple : FnScope ["rows", "row"] ["rows"] (defScope s__law_tuple) := ⟨rfl, rfl, rfl, by decide +kernel, rfl, by decide +kernel, by decide +kernel⟩
theorem t__law_tuple (G : Gg K mg)  {fa : Addr} {cdv : Value} {A : Around} {outer : List Env} {sh : Shared} {H : Hp} {E : XK} (hr : Room 0 (A.deeper (PyProof.Rows.envOfC "_law_tuple" (defScope s__law_tuple) sh.heap.objs.size fa cdv))) :
  SSs (cxD P w K mg base ["rows", "row"] "_law_tuple" (defScope s__law_tuple) fa cdv A outer sh H E) (⟨[], none⟩ : Pin) (fun cls d _ H => E cls d H) .fz [.un, .un] [] [.fz, .un] [.fz, .un] (defBody s__law_tuple) m__law_tuple := by
  have tk : Takes (cxD P w K mg base ["rows", "row"] "_law_tuple" (defScope s__law_tuple) fa cdv A outer sh H E) (fun cls d _ H => E cls d H) := tk_cxD
  have po : PassesOwn (model (cxD P w K mg base ["rows", "row"] "_law_tuple" (defScope s__law_tuple) fa cdv A outer sh H E).prog (cxD P w K mg base ["rows", "row"] "_law_tuple" (defScope s__law_tuple) fa cdv A outer sh H E).w) (cxD P w K mg base ["rows", "row"] "_law_tuple" (defScope s__law_tuple) fa cdv A outer sh H E).A (cxD P w K mg base ["rows", "row"] "_law_tuple" (defScope s__law_tuple) fa cdv A outer sh H E).env (cxD P w K mg base ["rows", "row"] "_law_tuple" (defScope s__law_tuple) fa cdv A outer sh H E).xe := po_cxD
  have S := S__law_tuple
  exact (SSs.one (SS.ret (ms2 := [.fz, .un]) (SE.callT vTuple G.b_tuple (by rfl) (SA.cons (SE.frozen (SE.lc (own := [("row", 1)]) (ms1 := [.fz, .fz]) rfl S.nd (SI.any (SE.var 0)) (bk (by first | decide +kernel | rfl)) (fun sh hp C cl fp => (SG.name 1 S.nd)) (fun sh hp C cl fp => STs.nil) (fun sh hp C cl fp => (SE.callT vTuple G.b_tuple (by rfl) (SA.cons (SE.var 1) SA.nil))))) SA.nil))))
theorem k__law_tuple (G : Gg K mg)  (h : ∃ fd, FunD K "_law_tuple" "_law_tuple" (defArgs s__law_tuple) (defBody s__law_tuple) (defScope s__law_tuple) [] [] (He.ga K "_law_tuple") fd) : Df P w K mg base "_law_tuple" 1 [.fz] .fz F__law_tuple := by
  obtain ⟨fd, F⟩ := h
  exact ⟨_, fd, ["rows"], Cq.fn_ok F S__law_tuple rfl (by rfl) (by decide) (fun cdv A outer sh H E hr => t__law_tuple G  hr), G.k__law_tuple, F.kp, (FunD.bindsN F fun _ _ _ _ _ _ us hl => match us, hl with | [_], _ => rfl)⟩
theorem S__law_with : FnScope ["rows", "x", "y", "far", "other", "found", "row"] ["rows", "x", "y", "far", "other"] (defScope s__law_with) := ⟨rfl, rfl, rfl, by decide +kernel, rfl, by decide +kernel, by decide +kernel⟩
theorem t__law_with (G : Gg K mg) (d__law_tuple : Df P w K mg base "_law_tuple" 1 [.fz] .fz F__law_tuple) {fa : Addr} {cdv : Value} {A : Around} {outer : List Env} {sh : Shared} {H : Hp} {E : XK} (hr : Room 1 (A.deeper (PyProof.Rows.envOfC "_law_with" (defScope s__law_with) sh.heap.objs.size fa cdv))) :
  SSs (cxD P w K mg base ["rows", "x", "y", "far", "other", "found", "row"] "_law_with" (defScope s__law_with) fa cdv A outer sh H E) (⟨[], none⟩ : Pin) (fun cls d _ H => E cls d H) .fz [.un, .un, .un, .un, .un, .un, .un] [] [.fz, .fz, .fz, .fz, .fz, .un, .un] [.fz, .fz, .fz, .fz, .fz, .un, .un] (defBody s__law_with) m__law_with := by
  have tk : Takes (cxD P w K mg base ["rows", "x", "y", "far", "other", "found", "row"] "_law_with" (defScope s__law_with) fa cdv A outer sh H E) (fun cls d _ H => E cls d H) := tk_cxD
  have po : PassesOwn (model (cxD P w K mg base ["rows", "x", "y", "far", "other", "found", "row"] "_law_with" (defScope s__law_with) fa cdv A outer sh H E).prog (cxD P w K mg base ["rows", "x", "y", "far", "other", "found", "row"] "_law_with" (defScope s__law_with) fa cdv A outer sh H E).w) (cxD P w K mg base ["rows", "x", "y", "far", "other", "found", "row"] "_law_with" (defScope s__law_with) fa cdv A outer sh H E).A (cxD P w K mg base ["rows", "x", "y", "far", "other", "found", "row"] "_law_with" (defScope s__law_with) fa cdv A outer sh H E).env (cxD P w K mg base ["rows", "x", "y", "far", "other", "found", "row"] "_law_with" (defScope s__law_with) fa cdv A outer sh H E).xe := po_cxD
  have S := S__law_with
  exact (SSs.cons (ms1 := [.fz, .fz, .fz, .fz, .fz, .ow2, .un]) (SS.setLc (own := [("row", 6)]) (ms1 := [.fz, .fz, .fz, .fz, .fz, .un, .fz]) 5 rfl S.nd (SI.any (SE.var 0)) (bk (by first | decide +kernel | rfl)) (fun sh hp C cl fp => (SG.name 6 S.nd)) (fun sh hp C cl fp => STs.nil) (fun sh hp C cl fp => (SE.callT vList G.b_list (by rfl) (SA.cons (SE.var 6) SA.nil))))
 (SSs.cons (ms1 := [.fz, .fz, .fz, .fz, .fz, .ow2, .un]) (SS.asg (SE.tup (SA.cons (SE.var 3) (SA.cons (SE.var 4) SA.nil))) (SG.seq rfl (SGs.cons (SG.subOwn2 5 (SP.var 1) (SP.var 2)) (SGs.cons (SG.subOwn2 5 (SP.var 2) (SP.var 1)) SGs.nil)) (gs_lenS (gs_lenS gs_len0))))
 (SSs.freeze (md := .ow2) 5 (SSs.one (SS.ret (ms2 := [.fz, .fz, .fz, .fz, .fz, .un, .un]) (SE.call (d__law_tuple.at hr (by decide)) tk (SAr.cons (SE.var 5) SAr.nil)))))))
theorem k__law_with (G : Gg K mg) (d__law_tuple : Df P w K mg base "_law_tuple" 1 [.fz] .fz F__law_tuple) (h : ∃ fd, FunD K "_law_with" "_law_with" (defArgs s__law_with) (defBody s__law_with) (defScope s__law_with) [] [] (He.ga K "_law_with") fd) : Df P w K mg base "_law_with" 2 [.fz, .fz, .fz, .fz, .fz] .fz F__law_with := by
  obtain ⟨fd, F⟩ := h
  exact ⟨_, fd, ["rows", "x", "y", "far", "other"], Cq.fn_ok F S__law_with rfl (by rfl) (by decide) (fun cdv A outer sh H E hr => t__law_with G d__law_tuple hr), G.k__law_with, F.kp, (FunD.bindsN F fun _ _ _ _ _ _ us hl => match us, hl with | [_, _, _, _, _], _ => rfl)⟩
theorem S__law_spoilt : FnScope ["box", "rows", "size", "found", "x", "y", "far", "pairs", "a", "b"] ["box", "rows"] (defScope s__law_spoilt) := ⟨rfl, rfl, rfl, by decide +kernel, rfl, by decide +kernel, by decide +kernel⟩
theorem t__law_spoilt (G : Gg K mg) (d__law_mixed : Df P w K mg base "_law_mixed" 2 [.ow, .fz] .fz F__law_mixed) (d__law_tuple : Df P w K mg base "_law_tuple" 1 [.fz] .fz F__law_tuple) (d__law_with : Df P w K mg base "_law_with" 2 [.fz, .fz, .fz, .fz, .fz] .fz F__law_with) {fa : Addr} {cdv : Value} {A : Around} {outer : List Env} {sh : Shared} {H : Hp} {E : XK} (hr : Room 2 (A.deeper (PyProof.Rows.envOfC "_law_spoilt" (defScope s__law_spoilt) sh.heap.objs.size fa cdv))) :
  SSs (cxD P w K mg base ["box", "rows", "size", "found", "x", "y", "far", "pairs", "a", "b"] "_law_spoilt" (defScope s__law_spoilt) fa cdv A outer sh H E) (⟨[0], none⟩ : Pin) (fun cls d _ H => E cls d H) .fz [.ow, .un, .un, .un, .un, .un, .un, .un, .un, .un] [] [.ow, .fz, .un, .un, .un, .un, .un, .un, .un, .un] [.ow, .fz, .un, .un, .un, .un, .un, .un, .un, .un] (defBody s__law_spoilt) m__law_spoilt := by
  have tk : Takes (cxD P w K mg base ["box", "rows", "size", "found", "x", "y", "far", "pairs", "a", "b"] "_law_spoilt" (defScope s__law_spoilt) fa cdv A outer sh H E) (fun cls d _ H => E cls d H) := tk_cxD
  have po : PassesOwn (model (cxD P w K mg base ["box", "rows", "size", "found", "x", "y", "far", "pairs", "a", "b"] "_law_spoilt" (defScope s__law_spoilt) fa cdv A outer sh H E).prog (cxD P w K mg base ["box", "rows", "size", "found", "x", "y", "far", "pairs", "a", "b"] "_law_spoilt" (defScope s__law_spoilt) fa cdv A outer sh H E).w) (cxD P w K mg base ["box", "rows", "size", "found", "x", "y", "far", "pairs", "a", "b"] "_law_spoilt" (defScope s__law_spoilt) fa cdv A outer sh H E).A (cxD P w K mg base ["box", "rows", "size", "found", "x", "y", "far", "pairs", "a", "b"] "_law_spoilt" (defScope s__law_spoilt) fa cdv A outer sh H E).env (cxD P w K mg base ["box", "rows", "size", "found", "x", "y", "far", "pairs", "a", "b"] "_law_spoilt" (defScope s__law_spoilt) fa cdv A outer sh H E).xe := po_cxD
  have S := S__law_spoilt
  exact (SSs.cons (ms1 := [.ow, .fz, .fz, .un, .un, .un, .un, .un, .un, .un]) (SS.set (md := .fz) 2 (SE.callB vLen G.b_len (by rfl) (SA.cons (SE.var 1) SA.nil)) S.nd)
 (SSs.cons (ms1 := [.ow, .fz, .fz, .ow, .un, .un, .un, .un, .un, .un]) (SS.set (md := .ow) 3 (SE.lst (SA.cons (SE.frozen (SE.callT vList G.b_list (by rfl) (SA.cons (SE.var 1) SA.nil))) (SA.cons (SE.bin vAdd (SE.slice (SE.call (d__law_tuple.at hr (by decide)) tk (SAr.cons (SE.var 1) SAr.nil)) SO.none (SO.some (SE.bin xSub (SE.var 2) SE.int))) (SE.tup (SA.cons (SE.frozen (SE.callT vList G.b_list (by rfl) (SA.cons (SE.ix (SE.var 1) (SE.bin xSub (SE.var 2) SE.int)) SA.nil))) SA.nil))) (SA.cons (SE.bin vAdd (SE.var 1) (SE.slice (SE.var 1) SO.none (SO.some SE.int))) (SA.cons (SE.slice (SE.var 1) (SO.some SE.int) SO.none) (SA.cons (SE.tup SA.nil) (SA.cons (SE.tup (SA.cons (SE.tup SA.nil) SA.nil)) (SA.cons SE.non (SA.cons SE.int (SA.cons SE.str (SA.cons SE.dict0 (SA.cons SE.bl (SA.cons (SE.bin vMulA (SE.tup (SA.cons (SE.bin vMulA (SE.tup (SA.cons SE.int SA.nil)) SE.int) SA.nil)) SE.int) (SA.cons (SE.tup (SA.cons (SE.tup (SA.cons SE.int SA.nil)) SA.nil)) (SA.cons (SE.tup (SA.cons (SE.tup (SA.cons SE.bl SA.nil)) SA.nil)) (SA.cons (SE.tup (SA.cons (SE.tup (SA.cons SE.non SA.nil)) SA.nil)) SA.nil)))))))))))))))) S.nd)
 (SSs.cons (ms1 := [.ow, .fz, .fz, .ow, .un, .un, .un, .un, .un, .un]) (SS.ite (ms2 := [.ow, .fz, .fz, .ow, .un, .un, .un, .un, .un, .un]) (ST.cmp xGt (SE.var 2) SE.int)
 (SSs.cons (ms1 := [.ow, .fz, .fz, .ow, .fz, .fz, .un, .un, .un, .un]) (SS.asg (SE.slice (SE.call (d__law_mixed.at hr (by decide)) tk (SAr.own 0 (SAr.cons (SE.var 2) SAr.nil))) SO.none (SO.some SE.int)) (SG.seq rfl (SGs.cons (SG.name 4 S.nd) (SGs.cons (SG.name 5 S.nd) SGs.nil)) (gs_lenS (gs_lenS gs_len0))))
 (SSs.cons (ms1 := [.ow, .fz, .fz, .ow, .fz, .fz, .fz, .un, .un, .un]) (SS.set (md := .fz) 6 (SE.ix (SE.ix (SE.var 1) (SE.var 4)) (SE.var 5)) S.nd)
 (SSs.cons (ms1 := [.ow, .fz, .fz, .ow, .fz, .fz, .fz, .fz, .un, .un]) (SS.set (md := .fz) 7 (SE.frozen (SE.lst (SA.cons (SE.tup (SA.cons SE.int (SA.cons SE.int SA.nil))) (SA.cons (SE.tup (SA.cons SE.int (SA.cons SE.int SA.nil))) (SA.cons (SE.tup (SA.cons SE.int (SA.cons SE.int SA.nil))) (SA.cons (SE.tup (SA.cons SE.int (SA.cons SE.int SA.nil))) (SA.cons (SE.tup (SA.cons (SE.bin vAdd (SE.var 6) SE.int) (SA.cons (SE.bin vAdd (SE.var 6) SE.int) SA.nil))) (SA.cons (SE.tup (SA.cons (SE.callB (vMax rfl) G.b_max (by rfl) (SA.cons SE.int (SA.cons (SE.bin xSub (SE.var 6) SE.int) SA.nil))) (SA.cons (SE.callB (vMax rfl) G.b_max (by rfl) (SA.cons SE.int (SA.cons (SE.bin xSub (SE.var 6) SE.int) SA.nil))) SA.nil))) (SA.cons (SE.tup (SA.cons (SE.bin vMulA SE.int (SE.var 6)) (SA.cons (SE.bin vMulA SE.int (SE.var 6)) SA.nil))) SA.nil))))))))) S.nd)
 (SSs.cons (ms1 := [.ow, .fz, .fz, .ow, .fz, .fz, .fz, .fz, .un, .un]) (SS.set (md := .fz) 7 (SE.bin vAdd (SE.var 7) (SE.frozen (SE.lst (SA.cons (SE.tup (SA.cons (SE.var 6) (SA.cons (SE.bin vAdd (SE.var 6) SE.int) SA.nil))) (SA.cons (SE.tup (SA.cons SE.non (SA.cons SE.non SA.nil))) (SA.cons (SE.tup (SA.cons SE.bl (SA.cons SE.bl SA.nil))) (SA.cons (SE.tup (SA.cons SE.str (SA.cons SE.str SA.nil))) (SA.cons (SE.tup (SA.cons (SE.neg SE.int) (SA.cons (SE.neg SE.int) SA.nil))) (SA.cons (SE.tup (SA.cons (SE.tup (SA.cons SE.int (SA.cons SE.int SA.nil))) (SA.cons (SE.tup (SA.cons SE.int (SA.cons SE.int SA.nil))) SA.nil))) SA.nil))))))))) S.nd)
 (SSs.freeze (md := .ow) 3 (SSs.cons (ms1 := [.ow, .fz, .fz, .ow, .fz, .fz, .fz, .fz, .un, .un]) (SS.set (md := .ow) 3 (SE.bin vCatL (SE.var 3) (SE.frozen (SE.lc (own := [("a", 8), ("b", 9)]) (ms1 := [.ow, .fz, .fz, .fz, .fz, .fz, .fz, .fz, .fz, .fz]) rfl S.nd (SI.any (SE.var 7)) (bk (by first | decide +kernel | rfl)) (fun sh hp C cl fp => (SG.seq rfl (SGs.cons (SG.name 8 S.nd) (SGs.cons (SG.name 9 S.nd) SGs.nil)) (gs_lenS (gs_lenS gs_len0)))) (fun sh hp C cl fp => STs.nil) (fun sh hp C cl fp => (SE.call (d__law_with.at hr (by decide)) takes_none5 (SAr.cons (SE.var 1) (SAr.cons (SE.var 4) (SAr.cons (SE.var 5) (SAr.cons (SE.var 8) (SAr.cons (SE.var 9) SAr.nil)))))))))) S.nd)
 (SSs.cons (ms1 := [.ow, .fz, .fz, .ow, .fz, .fz, .fz, .fz, .un, .un]) (SS.expr (SE.append 3 (SE.call (d__law_tuple.at hr (by decide)) tk (SAr.cons (SE.frozen (SE.lc (own := [("a", 8)]) (ms1 := [.ow, .fz, .fz, .ow, .fz, .fz, .fz, .fz, .fz, .un]) rfl S.nd (SI.range1 (SA.cons (SE.var 2) SA.nil) G.b_range) (bk (by first | decide +kernel | rfl)) (fun sh hp C cl fp => (SG.name 8 S.nd)) (fun sh hp C cl fp => STs.nil) (fun sh hp C cl fp => (SE.frozen (SE.lc (own := [("b", 9)]) (ms1 := [.ow, .fz, .fz, .ow, .fz, .fz, .fz, .fz, .fz, .fz]) rfl S.nd (SI.range1 (SA.cons (SE.var 2) SA.nil) G.b_range) (bk (by first | decide +kernel | rfl)) (fun sh hp C cl fp => (SG.name 9 S.nd)) (fun sh hp C cl fp => STs.nil) (fun sh hp C cl fp => (SE.ite (ST.chain (vEq (room_u64 hr)) (vEq (room_u64 hr)) (SE.var 8) (SE.var 9) (SE.var 4)) (SE.var 6) (SE.ix (SE.ix (SE.var 1) (SE.var 8)) (SE.var 9))))))))) SAr.nil))))
 (SSs.weak (ms3 := [.ow, .fz, .fz, .ow, .un, .un, .un, .un, .un, .un]) (SSs.nil (ms := [.ow, .fz, .fz, .ow, .fz, .fz, .fz, .fz, .un, .un]))))))))))
 SSs.nil)
 (SSs.freeze (md := .ow) 3 (SSs.one (SS.ret (ms2 := [.ow, .fz, .un, .un, .un, .un, .un, .un, .un, .un]) (SE.var 3)))))))
theorem k__law_spoilt (G : Gg K mg) (d__law_mixed : Df P w K mg base "_law_mixed" 2 [.ow, .fz] .fz F__law_mixed) (d__law_tuple : Df P w K mg base "_law_tuple" 1 [.fz] .fz F__law_tuple) (d__law_with : Df P w K mg base "_law_with" 2 [.fz, .fz, .fz, .fz, .fz] .fz F__law_with) (h : ∃ fd, FunD K "_law_spoilt" "_law_spoilt" (defArgs s__law_spoilt) (defBody s__law_spoilt) (defScope s__law_spoilt) [] [] (He.ga K "_law_spoilt") fd) : Df P w K mg base "_law_spoilt" 3 [.ow, .fz] .fz F__law_spoilt := by
  obtain ⟨fd, F⟩ := h
  exact ⟨_, fd, ["box", "rows"], Cq.fn_ok F S__law_spoilt rfl (by rfl) (by decide) (fun cdv A outer sh H E hr => t__law_spoilt G d__law_mixed d__law_tuple d__law_with hr), G.k__law_spoilt, F.kp, (FunD.bindsN F fun _ _ _ _ _ _ us hl => match us, hl with | [_, _], _ => rfl)⟩
theorem S__law_fits : FnScope ["value", "x", "y", "far", "row"] ["value"] (defScope s__law_fits) := ⟨rfl, rfl, rfl, by decide +kernel, rfl, by decide +kernel, by decide +kernel⟩
theorem t__law_fits (G : Gg K mg)  {fa : Addr} {cdv : Value} {A : Around} {outer : List Env} {sh : Shared} {H : Hp} {E : XK} (hr : Room 0 (A.deeper (PyProof.Rows.envOfC "_law_fits" (defScope s__law_fits) sh.heap.objs.size fa cdv))) :
  SSs (cxD P w K mg base ["value", "x", "y", "far", "row"] "_law_fits" (defScope s__law_fits) fa cdv A outer sh H E) (⟨[], none⟩ : Pin) (fun cls d _ H => E cls d H) .fz [.un, .un, .un, .un, .un] [] [.fz, .un, .un, .un, .un] [.fz, .un, .un, .un, .un] (defBody s__law_fits) m__law_fits := by
  have tk : Takes (cxD P w K mg base ["value", "x", "y", "far", "row"] "_law_fits" (defScope s__law_fits) fa cdv A outer sh H E) (fun cls d _ H => E cls d H) := tk_cxD
  have po : PassesOwn (model (cxD P w K mg base ["value", "x", "y", "far", "row"] "_law_fits" (defScope s__law_fits) fa cdv A outer sh H E).prog (cxD P w K mg base ["value", "x", "y", "far", "row"] "_law_fits" (defScope s__law_fits) fa cdv A outer sh H E).w) (cxD P w K mg base ["value", "x", "y", "far", "row"] "_law_fits" (defScope s__law_fits) fa cdv A outer sh H E).A (cxD P w K mg base ["value", "x", "y", "far", "row"] "_law_fits" (defScope s__law_fits) fa cdv A outer sh H E).env (cxD P w K mg base ["value", "x", "y", "far", "row"] "_law_fits" (defScope s__law_fits) fa cdv A outer sh H E).xe := po_cxD
  have S := S__law_fits
  exact (SSs.cons (ms1 := [.fz, .un, .un, .un, .un]) (SS.ite (ms2 := [.fz, .un, .un, .un, .un]) (SW.st (SW.or (ST.not (ST.tru (SE.callB vIsi G.b_isinstance (by rfl) (SA.cons (SE.var 0) (SA.cons (SE.ty G.b_tuple (by rfl)) SA.nil))))) (SW.or (ST.not (ST.chain xLe xLe SE.int (SE.callB vLen G.b_len (by rfl) (SA.cons (SE.var 0) SA.nil)) SE.int)) (SW.or1 (ST.cmp (vNe (room_u64 hr)) (SE.frozen (SE.lc (own := [("row", 4)]) (ms1 := [.fz, .un, .un, .un, .fz]) rfl S.nd (SI.any (SE.var 0)) (bk (by first | decide +kernel | rfl)) (fun sh hp C cl fp => (SG.name 4 S.nd)) (fun sh hp C cl fp => (STs.one (SW.st (SW.or (ST.not (ST.tru (SE.callB vIsi G.b_isinstance (by rfl) (SA.cons (SE.var 4) (SA.cons (SE.ty G.b_tuple (by rfl)) SA.nil))))) (SW.or1 (ST.cmp (vNe (room_u64 hr)) (SE.callB vLen G.b_len (by rfl) (SA.cons (SE.var 4) SA.nil)) (SE.callB vLen G.b_len (by rfl) (SA.cons (SE.var 0) SA.nil)))))))) (fun sh hp C cl fp => (SE.var 4)))) (SE.frozen (SE.lst SA.nil)))))))
 (SSs.one (SS.ret (ms2 := [.fz, .un, .un, .un, .un]) SE.bl))
 SSs.nil)
 (SSs.cons (ms1 := [.fz, .un, .un, .un, .un]) (SS.for_ (ms1 := [.fz, .fz, .un, .un, .un]) (ms2 := [.fz, .un, .un, .un, .un]) [.fz, .un, .un, .un, .un] (SI.range1 (SA.cons (SE.callB vLen G.b_len (by rfl) (SA.cons (SE.var 0) SA.nil)) SA.nil) G.b_range) (SG.name 1 S.nd)
 (SSs.cons (ms1 := [.fz, .fz, .un, .un, .un]) (SS.for_ (ms1 := [.fz, .fz, .fz, .un, .un]) (ms2 := [.fz, .fz, .un, .un, .un]) [.fz, .fz, .un, .un, .un] (SI.range1 (SA.cons (SE.callB vLen G.b_len (by rfl) (SA.cons (SE.var 0) SA.nil)) SA.nil) G.b_range) (SG.name 2 S.nd)
 (SSs.cons (ms1 := [.fz, .fz, .fz, .fz, .un]) (SS.set (md := .fz) 3 (SE.ix (SE.ix (SE.var 0) (SE.var 1)) (SE.var 2)) S.nd)
 (SSs.cons (ms1 := [.fz, .fz, .fz, .fz, .un]) (SS.ite (ms2 := [.fz, .fz, .fz, .fz, .un]) (SW.st (SW.or (ST.not (ST.tru (SE.callB vIsi G.b_isinstance (by rfl) (SA.cons (SE.var 3) (SA.cons (SE.ty G.b_int (by rfl)) SA.nil))))) (SW.or (ST.tru (SE.callB vIsi G.b_isinstance (by rfl) (SA.cons (SE.var 3) (SA.cons (SE.ty G.b_bool (by rfl)) SA.nil)))) (SW.or (ST.cmp (vNe (room_u64 hr)) (SE.var 3) (SE.ix (SE.ix (SE.var 0) (SE.var 2)) (SE.var 1))) (SW.or (SW.st (SW.and (ST.cmp (vEq (room_u64 hr)) (SE.var 1) (SE.var 2)) (SW.and1 (ST.cmp (vNe (room_u64 hr)) (SE.var 3) SE.int)))) (SW.or1 (SW.st (SW.and (ST.cmp (vNe (room_u64 hr)) (SE.var 1) (SE.var 2)) (SW.and1 (ST.not (ST.chain xLe xLe SE.int (SE.var 3) SE.int)))))))))))
 (SSs.one (SS.ret (ms2 := [.fz, .fz, .fz, .fz, .un]) SE.bl))
 SSs.nil)
 (SSs.weak (ms3 := [.fz, .fz, .un, .un, .un]) (SSs.nil (ms := [.fz, .fz, .fz, .fz, .un]))))) po rfl)
 (SSs.weak (ms3 := [.fz, .un, .un, .un, .un]) (SSs.nil (ms := [.fz, .fz, .un, .un, .un])))) po rfl)
 (SSs.one (SS.ret (ms2 := [.fz, .un, .un, .un, .un]) SE.bl))))
theorem k__law_fits (G : Gg K mg)  (h : ∃ fd, FunD K "_law_fits" "_law_fits" (defArgs s__law_fits) (defBody s__law_fits) (defScope s__law_fits) [] [] (He.ga K "_law_fits") fd) : Df P w K mg base "_law_fits" 1 [.fz] .fz F__law_fits := by
  obtain ⟨fd, F⟩ := h
  exact ⟨_, fd, ["value"], Cq.fn_ok F S__law_fits rfl (by rfl) (by decide) (fun cdv A outer sh H E hr => t__law_fits G  hr), G.k__law_fits, F.kp, (FunD.bindsN F fun _ _ _ _ _ _ us hl => match us, hl with | [_], _ => rfl)⟩
theorem S__law_due : FnScope ["value", "size", "x", "y", "z"] ["value"] (defScope s__law_due) := ⟨rfl, rfl, rfl, by decide +kernel, rfl, by decide +kernel, by decide +kernel⟩
theorem t__law_due (G : Gg K mg) (d__law_fits : Df P w K mg base "_law_fits" 1 [.fz] .fz F__law_fits) {fa : Addr} {cdv : Value} {A : Around} {outer : List Env} {sh : Shared} {H : Hp} {E : XK} (hr : Room 1 (A.deeper (PyProof.Rows.envOfC "_law_due" (defScope s__law_due) sh.heap.objs.size fa cdv))) :
  SSs (cxD P w K mg base ["value", "size", "x", "y", "z"] "_law_due" (defScope s__law_due) fa cdv A outer sh H E) (⟨[], none⟩ : Pin) (fun cls d _ H => E cls d H) .fz [.un, .un, .un, .un, .un] [] [.fz, .un, .un, .un, .un] [.fz, .un, .un, .un, .un] (defBody s__law_due) m__law_due := by
  have tk : Takes (cxD P w K mg base ["value", "size", "x", "y", "z"] "_law_due" (defScope s__law_due) fa cdv A outer sh H E) (fun cls d _ H => E cls d H) := tk_cxD
  have po : PassesOwn (model (cxD P w K mg base ["value", "size", "x", "y", "z"] "_law_due" (defScope s__law_due) fa cdv A outer sh H E).prog (cxD P w K mg base ["value", "size", "x", "y", "z"] "_law_due" (defScope s__law_due) fa cdv A outer sh H E).w) (cxD P w K mg base ["value", "size", "x", "y", "z"] "_law_due" (defScope s__law_due) fa cdv A outer sh H E).A (cxD P w K mg base ["value", "size", "x", "y", "z"] "_law_due" (defScope s__law_due) fa cdv A outer sh H E).env (cxD P w K mg base ["value", "size", "x", "y", "z"] "_law_due" (defScope s__law_due) fa cdv A outer sh H E).xe := po_cxD
  have S := S__law_due
  exact (SSs.cons (ms1 := [.fz, .un, .un, .un, .un]) (SS.ite (ms2 := [.fz, .un, .un, .un, .un]) (ST.not (ST.tru (SE.call (d__law_fits.at hr (by decide)) tk (SAr.cons (SE.var 0) SAr.nil))))
 (SSs.one (SS.ret (ms2 := [.fz, .un, .un, .un, .un]) (SE.frozen (SE.lst (SA.cons SE.str (SA.cons (SE.var 0) SA.nil))))))
 SSs.nil)
 (SSs.cons (ms1 := [.fz, .fz, .un, .un, .un]) (SS.set (md := .fz) 1 (SE.callB vLen G.b_len (by rfl) (SA.cons (SE.var 0) SA.nil)) S.nd)
 (SSs.cons (ms1 := [.fz, .fz, .un, .un, .un]) (SS.for_ (ms1 := [.fz, .fz, .fz, .un, .un]) (ms2 := [.fz, .fz, .un, .un, .un]) [.fz, .fz, .un, .un, .un] (SI.range1 (SA.cons (SE.var 1) SA.nil) G.b_range) (SG.name 2 S.nd)
 (SSs.cons (ms1 := [.fz, .fz, .fz, .un, .un]) (SS.for_ (ms1 := [.fz, .fz, .fz, .fz, .un]) (ms2 := [.fz, .fz, .fz, .un, .un]) [.fz, .fz, .fz, .un, .un] (SI.range1 (SA.cons (SE.var 1) SA.nil) G.b_range) (SG.name 3 S.nd)
 (SSs.cons (ms1 := [.fz, .fz, .fz, .fz, .un]) (SS.for_ (ms1 := [.fz, .fz, .fz, .fz, .fz]) (ms2 := [.fz, .fz, .fz, .fz, .un]) [.fz, .fz, .fz, .fz, .un] (SI.range1 (SA.cons (SE.var 1) SA.nil) G.b_range) (SG.name 4 S.nd)
 (SSs.cons (ms1 := [.fz, .fz, .fz, .fz, .fz]) (SS.ite (ms2 := [.fz, .fz, .fz, .fz, .fz]) (ST.cmp xGt (SE.ix (SE.ix (SE.var 0) (SE.var 2)) (SE.var 4)) (SE.bin vAdd (SE.ix (SE.ix (SE.var 0) (SE.var 2)) (SE.var 3)) (SE.ix (SE.ix (SE.var 0) (SE.var 3)) (SE.var 4))))
 (SSs.one (SS.ret (ms2 := [.fz, .fz, .fz, .fz, .fz]) (SE.frozen (SE.lst (SA.cons SE.str (SA.cons (SE.var 2) (SA.cons (SE.var 3) (SA.cons (SE.var 4) SA.nil))))))))
 SSs.nil)
 (SSs.weak (ms3 := [.fz, .fz, .fz, .fz, .un]) (SSs.nil (ms := [.fz, .fz, .fz, .fz, .fz])))) po rfl)
 (SSs.weak (ms3 := [.fz, .fz, .fz, .un, .un]) (SSs.nil (ms := [.fz, .fz, .fz, .fz, .un])))) po rfl)
 (SSs.weak (ms3 := [.fz, .fz, .un, .un, .un]) (SSs.nil (ms := [.fz, .fz, .fz, .un, .un])))) po rfl)
 (SSs.one (SS.ret (ms2 := [.fz, .un, .un, .un, .un]) (SE.frozen (SE.lst (SA.cons SE.str (SA.cons (SE.var 0) (SA.cons (SE.var 1) SA.nil))))))))))
theorem k__law_due (G : Gg K mg) (d__law_fits : Df P w K mg base "_law_fits" 1 [.fz] .fz F__law_fits) (h : ∃ fd, FunD K "_law_due" "_law_due" (defArgs s__law_due) (defBody s__law_due) (defScope s__law_due) [] [] (He.ga K "_law_due") fd) : Df P w K mg base "_law_due" 2 [.fz] .fz F__law_due := by
  obtain ⟨fd, F⟩ := h
  exact ⟨_, fd, ["value"], Cq.fn_ok F S__law_due rfl (by rfl) (by decide) (fun cdv A outer sh H E hr => t__law_due G d__law_fits hr), G.k__law_due, F.kp, (FunD.bindsN F fun _ _ _ _ _ _ us hl => match us, hl with | [_], _ => rfl)⟩
theorem S_is_integer : FnScope ["value"] ["value"] (defScope s_is_integer) := ⟨rfl, rfl, rfl, by decide +kernel, rfl, by decide +kernel, by decide +kernel⟩
theorem t_is_integer (G : Gg K mg)  {fa : Addr} {cdv : Value} {A : Around} {outer : List Env} {sh : Shared} {H : Hp} {E : XK} (hr : Room 0 (A.deeper (PyProof.Rows.envOfC "is_integer" (defScope s_is_integer) sh.heap.objs.size fa cdv))) :
  SSs (cxD P w K mg base ["value"] "is_integer" (defScope s_is_integer) fa cdv A outer sh H E) (⟨[], none⟩ : Pin) (fun cls d _ H => E cls d H) .fz [.un] [] [.fz] [.fz] (defBody s_is_integer) m_is_integer := by
  have tk : Takes (cxD P w K mg base ["value"] "is_integer" (defScope s_is_integer) fa cdv A outer sh H E) (fun cls d _ H => E cls d H) := tk_cxD
  have po : PassesOwn (model (cxD P w K mg base ["value"] "is_integer" (defScope s_is_integer) fa cdv A outer sh H E).prog (cxD P w K mg base ["value"] "is_integer" (defScope s_is_integer) fa cdv A outer sh H E).w) (cxD P w K mg base ["value"] "is_integer" (defScope s_is_integer) fa cdv A outer sh H E).A (cxD P w K mg base ["value"] "is_integer" (defScope s_is_integer) fa cdv A outer sh H E).env (cxD P w K mg base ["value"] "is_integer" (defScope s_is_integer) fa cdv A outer sh H E).xe := po_cxD
  have S := S_is_integer
  exact (SSs.one (SS.ret (ms2 := [.fz]) (SE.and (SE.callB vIsi G.b_isinstance (by rfl) (SA.cons (SE.var 0) (SA.cons (SE.ty G.b_int (by rfl)) SA.nil))) (SE.one (SE.not (SE.callB vIsi G.b_isinstance (by rfl) (SA.cons (SE.var 0) (SA.cons (SE.ty G.b_bool (by rfl)) SA.nil))))))))
theorem k_is_integer (G : Gg K mg)  (h : ∃ fd, FunD K "is_integer" "is_integer" (defArgs s_is_integer) (defBody s_is_integer) (defScope s_is_integer) [] [] (He.ga K "is_integer") fd) : Df P w K mg base "is_integer" 1 [.fz] .fz F_is_integer := by
  obtain ⟨fd, F⟩ := h
  exact ⟨_, fd, ["value"], Cq.fn_ok F S_is_integer rfl (by rfl) (by decide) (fun cdv A outer sh H E hr => t_is_integer G  hr), G.k_is_integer, F.kp, (FunD.bindsN F fun _ _ _ _ _ _ us hl => match us, hl with | [_], _ => rfl)⟩
theorem S_is_between : FnScope ["value", "least", "most"] ["value", "least", "most"] (defScope s_is_between) := ⟨rfl, rfl, rfl, by decide +kernel, rfl, by decide +kernel, by decide +kernel⟩
theorem t_is_between (G : Gg K mg) (d_is_integer : Df P w K mg base "is_integer" 1 [.fz] .fz F_is_integer) {fa : Addr} {cdv : Value} {A : Around} {outer : List Env} {sh : Shared} {H : Hp} {E : XK} (hr : Room 1 (A.deeper (PyProof.Rows.envOfC "is_between" (defScope s_is_between) sh.heap.objs.size fa cdv))) :
  SSs (cxD P w K mg base ["value", "least", "most"] "is_between" (defScope s_is_between) fa cdv A outer sh H E) (⟨[], none⟩ : Pin) (fun cls d _ H => E cls d H) .fz [.un, .un, .un] [] [.fz, .fz, .fz] [.fz, .fz, .fz] (defBody s_is_between) m_is_between := by
  have tk : Takes (cxD P w K mg base ["value", "least", "most"] "is_between" (defScope s_is_between) fa cdv A outer sh H E) (fun cls d _ H => E cls d H) := tk_cxD
  have po : PassesOwn (model (cxD P w K mg base ["value", "least", "most"] "is_between" (defScope s_is_between) fa cdv A outer sh H E).prog (cxD P w K mg base ["value", "least", "most"] "is_between" (defScope s_is_between) fa cdv A outer sh H E).w) (cxD P w K mg base ["value", "least", "most"] "is_between" (defScope s_is_between) fa cdv A outer sh H E).A (cxD P w K mg base ["value", "least", "most"] "is_between" (defScope s_is_between) fa cdv A outer sh H E).env (cxD P w K mg base ["value", "least", "most"] "is_between" (defScope s_is_between) fa cdv A outer sh H E).xe := po_cxD
  have S := S_is_between
  exact (SSs.one (SS.ret (ms2 := [.fz, .fz, .fz]) (SE.and (SE.call (d_is_integer.at hr (by decide)) tk (SAr.cons (SE.var 0) SAr.nil)) (SE.one (SE.chain xLe xLe (SE.var 1) (SE.var 0) (SE.var 2))))))
theorem k_is_between (G : Gg K mg) (d_is_integer : Df P w K mg base "is_integer" 1 [.fz] .fz F_is_integer) (h : ∃ fd, FunD K "is_between" "is_between" (defArgs s_is_between) (defBody s_is_between) (defScope s_is_between) [] [] (He.ga K "is_between") fd) : Df P w K mg base "is_between" 2 [.fz, .fz, .fz] .fz F_is_between := by
  obtain ⟨fd, F⟩ := h
  exact ⟨_, fd, ["value", "least", "most"], Cq.fn_ok F S_is_between rfl (by rfl) (by decide) (fun cdv A outer sh H E hr => t_is_between G d_is_integer hr), G.k_is_between, F.kp, (FunD.bindsN F fun _ _ _ _ _ _ us hl => match us, hl with | [_, _, _], _ => rfl)⟩
theorem S_is_item : FnScope ["value", "least"] ["value", "least"] (defScope s_is_item) := ⟨rfl, rfl, rfl, by decide +kernel, rfl, by decide +kernel, by decide +kernel⟩
theorem t_is_item (G : Gg K mg) (d_is_between : Df P w K mg base "is_between" 2 [.fz, .fz, .fz] .fz F_is_between) {fa : Addr} {cdv : Value} {A : Around} {outer : List Env} {sh : Shared} {H : Hp} {E : XK} (hr : Room 2 (A.deeper (PyProof.Rows.envOfC "is_item" (defScope s_is_item) sh.heap.objs.size fa cdv))) :
  SSs (cxD P w K mg base ["value", "least"] "is_item" (defScope s_is_item) fa cdv A outer sh H E) (⟨[], none⟩ : Pin) (fun cls d _ H => E cls d H) .fz [.un, .un] [] [.fz, .fz] [.fz, .fz] (defBody s_is_item) m_is_item := by
  have tk : Takes (cxD P w K mg base ["value", "least"] "is_item" (defScope s_is_item) fa cdv A outer sh H E) (fun cls d _ H => E cls d H) := tk_cxD
  have po : PassesOwn (model (cxD P w K mg base ["value", "least"] "is_item" (defScope s_is_item) fa cdv A outer sh H E).prog (cxD P w K mg base ["value", "least"] "is_item" (defScope s_is_item) fa cdv A outer sh H E).w) (cxD P w K mg base ["value", "least"] "is_item" (defScope s_is_item) fa cdv A outer sh H E).A (cxD P w K mg base ["value", "least"] "is_item" (defScope s_is_item) fa cdv A outer sh H E).env (cxD P w K mg base ["value", "least"] "is_item" (defScope s_is_item) fa cdv A outer sh H E).xe := po_cxD
  have S := S_is_item
  exact (SSs.one (SS.ret (ms2 := [.fz, .fz]) (SE.ite (ST.cmp vIs (SE.var 0) SE.non) (SE.cmp (vEq (room_u64 hr)) (SE.var 1) SE.int) (SE.call (d_is_between.at hr (by decide)) tk (SAr.cons (SE.var 0) (SAr.cons SE.int (SAr.cons (SE.gint G.c_MOST_DISTANCE) SAr.nil)))))))
theorem k_is_item (G : Gg K mg) (d_is_between : Df P w K mg base "is_between" 2 [.fz, .fz, .fz] .fz F_is_between) (h : ∃ fd, FunD K "is_item" "is_item" (defArgs s_is_item) (defBody s_is_item) (defScope s_is_item) [] [] (He.ga K "is_item") fd) : Df P w K mg base "is_item" 3 [.fz, .fz] .fz F_is_item := by
  obtain ⟨fd, F⟩ := h
  exact ⟨_, fd, ["value", "least"], Cq.fn_ok F S_is_item rfl (by rfl) (by decide) (fun cdv A outer sh H E hr => t_is_item G d_is_between hr), G.k_is_item, F.kp, (FunD.bindsN F fun _ _ _ _ _ _ us hl => match us, hl with | [_, _], _ => rfl)⟩
theorem S_is_tuple_of : FnScope ["value", "many"] ["value", "many"] (defScope s_is_tuple_of) := ⟨rfl, rfl, rfl, by decide +kernel, rfl, by decide +kernel, by decide +kernel⟩
theorem t_is_tuple_of (G : Gg K mg)  {fa : Addr} {cdv : Value} {A : Around} {outer : List Env} {sh : Shared} {H : Hp} {E : XK} (hr : Room 0 (A.deeper (PyProof.Rows.envOfC "is_tuple_of" (defScope s_is_tuple_of) sh.heap.objs.size fa cdv))) :
  SSs (cxD P w K mg base ["value", "many"] "is_tuple_of" (defScope s_is_tuple_of) fa cdv A outer sh H E) (⟨[], none⟩ : Pin) (fun cls d _ H => E cls d H) .fz [.un, .un] [] [.fz, .fz] [.fz, .fz] (defBody s_is_tuple_of) m_is_tuple_of := by
  have tk : Takes (cxD P w K mg base ["value", "many"] "is_tuple_of" (defScope s_is_tuple_of) fa cdv A outer sh H E) (fun cls d _ H => E cls d H) := tk_cxD
  have po : PassesOwn (model (cxD P w K mg base ["value", "many"] "is_tuple_of" (defScope s_is_tuple_of) fa cdv A outer sh H E).prog (cxD P w K mg base ["value", "many"] "is_tuple_of" (defScope s_is_tuple_of) fa cdv A outer sh H E).w) (cxD P w K mg base ["value", "many"] "is_tuple_of" (defScope s_is_tuple_of) fa cdv A outer sh H E).A (cxD P w K mg base ["value", "many"] "is_tuple_of" (defScope s_is_tuple_of) fa cdv A outer sh H E).env (cxD P w K mg base ["value", "many"] "is_tuple_of" (defScope s_is_tuple_of) fa cdv A outer sh H E).xe := po_cxD
  have S := S_is_tuple_of
  exact (SSs.one (SS.ret (ms2 := [.fz, .fz]) (SE.and (SE.callB vIsi G.b_isinstance (by rfl) (SA.cons (SE.var 0) (SA.cons (SE.ty G.b_tuple (by rfl)) SA.nil))) (SE.one (SE.cmp (vEq (room_u64 hr)) (SE.callB vLen G.b_len (by rfl) (SA.cons (SE.var 0) SA.nil)) (SE.var 1))))))
theorem k_is_tuple_of (G : Gg K mg)  (h : ∃ fd, FunD K "is_tuple_of" "is_tuple_of" (defArgs s_is_tuple_of) (defBody s_is_tuple_of) (defScope s_is_tuple_of) [] [] (He.ga K "is_tuple_of") fd) : Df P w K mg base "is_tuple_of" 1 [.fz, .fz] .fz F_is_tuple_of := by
  obtain ⟨fd, F⟩ := h
  exact ⟨_, fd, ["value", "many"], Cq.fn_ok F S_is_tuple_of rfl (by rfl) (by decide) (fun cdv A outer sh H E hr => t_is_tuple_of G  hr), G.k_is_tuple_of, F.kp, (FunD.bindsN F fun _ _ _ _ _ _ us hl => match us, hl with | [_, _], _ => rfl)⟩
theorem S_are_numbers : FnScope ["value", "least", "x", "row", "y", "item"] ["value", "least"] (defScope s_are_numbers) := ⟨rfl, rfl, rfl, by decide +kernel, rfl, by decide +kernel, by decide +kernel⟩
theorem t_are_numbers (G : Gg K mg) (d_is_between : Df P w K mg base "is_between" 2 [.fz, .fz, .fz] .fz F_is_between) (d_is_item : Df P w K mg base "is_item" 3 [.fz, .fz] .fz F_is_item) (d_is_tuple_of : Df P w K mg base "is_tuple_of" 1 [.fz, .fz] .fz F_is_tuple_of) {fa : Addr} {cdv : Value} {A : Around} {outer : List Env} {sh : Shared} {H : Hp} {E : XK} (hr : Room 3 (A.deeper (PyProof.Rows.envOfC "are_numbers" (defScope s_are_numbers) sh.heap.objs.size fa cdv))) :
  SSs (cxD P w K mg base ["value", "least", "x", "row", "y", "item"] "are_numbers" (defScope s_are_numbers) fa cdv A outer sh H E) (⟨[], none⟩ : Pin) (fun cls d _ H => E cls d H) .fz [.un, .un, .un, .un, .un, .un] [] [.fz, .fz, .un, .un, .un, .un] [.fz, .fz, .un, .un, .un, .un] (defBody s_are_numbers) m_are_numbers := by
  have tk : Takes (cxD P w K mg base ["value", "least", "x", "row", "y", "item"] "are_numbers" (defScope s_are_numbers) fa cdv A outer sh H E) (fun cls d _ H => E cls d H) := tk_cxD
  have po : PassesOwn (model (cxD P w K mg base ["value", "least", "x", "row", "y", "item"] "are_numbers" (defScope s_are_numbers) fa cdv A outer sh H E).prog (cxD P w K mg base ["value", "least", "x", "row", "y", "item"] "are_numbers" (defScope s_are_numbers) fa cdv A outer sh H E).w) (cxD P w K mg base ["value", "least", "x", "row", "y", "item"] "are_numbers" (defScope s_are_numbers) fa cdv A outer sh H E).A (cxD P w K mg base ["value", "least", "x", "row", "y", "item"] "are_numbers" (defScope s_are_numbers) fa cdv A outer sh H E).env (cxD P w K mg base ["value", "least", "x", "row", "y", "item"] "are_numbers" (defScope s_are_numbers) fa cdv A outer sh H E).xe := po_cxD
  have S := S_are_numbers
  exact (SSs.cons (ms1 := [.fz, .fz, .un, .un, .un, .un]) (SS.ite (ms2 := [.fz, .fz, .un, .un, .un, .un]) (SW.st (SW.or (ST.not (ST.tru (SE.callB vIsi G.b_isinstance (by rfl) (SA.cons (SE.var 0) (SA.cons (SE.ty G.b_tuple (by rfl)) SA.nil))))) (SW.or1 (ST.not (ST.chain xLe xLe SE.int (SE.callB vLen G.b_len (by rfl) (SA.cons (SE.var 0) SA.nil)) (SE.gint G.c_MOST_POINTS))))))
 (SSs.one (SS.ret (ms2 := [.fz, .fz, .un, .un, .un, .un]) SE.bl))
 SSs.nil)
 (SSs.cons (ms1 := [.fz, .fz, .un, .un, .un, .un]) (SS.ite (ms2 := [.fz, .fz, .un, .un, .un, .un]) (ST.not (ST.tru (SE.callB (vAll rfl) G.b_all (by rfl) (SA.cons (SE.frozen (SE.lc (own := [("row", 3)]) (ms1 := [.fz, .fz, .un, .fz, .un, .un]) rfl S.nd (SI.any (SE.var 0)) (bk (by first | decide +kernel | rfl)) (fun sh hp C cl fp => (SG.name 3 S.nd)) (fun sh hp C cl fp => STs.nil) (fun sh hp C cl fp => (SE.call (d_is_tuple_of.at hr (by decide)) takes_none5 (SAr.cons (SE.var 3) (SAr.cons (SE.callB vLen G.b_len (by rfl) (SA.cons (SE.var 0) SA.nil)) SAr.nil)))))) SA.nil))))
 (SSs.one (SS.ret (ms2 := [.fz, .fz, .un, .un, .un, .un]) SE.bl))
 SSs.nil)
 (SSs.cons (ms1 := [.fz, .fz, .un, .un, .un, .un]) (SS.for_ (ms1 := [.fz, .fz, .fz, .fz, .un, .un]) (ms2 := [.fz, .fz, .un, .un, .un, .un]) [.fz, .fz, .un, .un, .un, .un] (SI.enum (SA.cons (SE.var 0) SA.nil) G.b_enumerate) (SG.seq rfl (SGs.cons (SG.name 2 S.nd) (SGs.cons (SG.name 3 S.nd) SGs.nil)) (gs_lenS (gs_lenS gs_len0)))
 (SSs.cons (ms1 := [.fz, .fz, .fz, .fz, .un, .un]) (SS.for_ (ms1 := [.fz, .fz, .fz, .fz, .fz, .fz]) (ms2 := [.fz, .fz, .fz, .fz, .un, .un]) [.fz, .fz, .fz, .fz, .un, .un] (SI.enum (SA.cons (SE.var 3) SA.nil) G.b_enumerate) (SG.seq rfl (SGs.cons (SG.name 4 S.nd) (SGs.cons (SG.name 5 S.nd) SGs.nil)) (gs_lenS (gs_lenS gs_len0)))
 (SSs.cons (ms1 := [.fz, .fz, .fz, .fz, .fz, .fz]) (SS.ite (ms2 := [.fz, .fz, .fz, .fz, .fz, .fz]) (SW.st (SW.or (SW.st (SW.and (ST.cmp (vEq (room_u64 hr)) (SE.var 2) (SE.var 4)) (SW.and1 (ST.not (ST.tru (SE.call (d_is_between.at hr (by decide)) tk (SAr.cons (SE.var 5) (SAr.cons SE.int (SAr.cons SE.int SAr.nil))))))))) (SW.or1 (SW.st (SW.and (ST.cmp (vNe (room_u64 hr)) (SE.var 2) (SE.var 4)) (SW.and1 (ST.not (ST.tru (SE.call (d_is_item.at hr (by decide)) tk (SAr.cons (SE.var 5) (SAr.cons (SE.var 1) SAr.nil)))))))))))
 (SSs.one (SS.ret (ms2 := [.fz, .fz, .fz, .fz, .fz, .fz]) SE.bl))
 SSs.nil)
 (SSs.weak (ms3 := [.fz, .fz, .fz, .fz, .un, .un]) (SSs.nil (ms := [.fz, .fz, .fz, .fz, .fz, .fz])))) po rfl)
 (SSs.weak (ms3 := [.fz, .fz, .un, .un, .un, .un]) (SSs.nil (ms := [.fz, .fz, .fz, .fz, .un, .un])))) po rfl)
 (SSs.one (SS.ret (ms2 := [.fz, .fz, .un, .un, .un, .un]) (SE.callB (vAll rfl) G.b_all (by rfl) (SA.cons (SE.frozen (SE.lc2 (Lc2.mk (own := [("x", 2), ("y", 4)]) (ms1 := [.fz, .fz, .fz, .un, .un, .un]) (ms2 := [.fz, .fz, .fz, .un, .fz, .un]) (vs2 := [4]) (SI.range1 (SA.cons (SE.callB vLen G.b_len (by rfl) (SA.cons (SE.var 0) SA.nil)) SA.nil) G.b_range) (bk (by first | decide +kernel | rfl)) ⟨_, by decide, (fun sh hp C cl fp => (SG.name 2 S.nd))⟩ (fun sh hp C cl fp => STs.nil) (fun sh hp C cl fp => (SI.range1 (SA.cons (SE.var 2) SA.nil) G.b_range)) ⟨_, by decide, (fun sh hp C cl fp => (SG.name 4 S.nd))⟩ (fun sh hp C cl fp => STs.nil) ⟨_, .inl ⟨rfl, rfl⟩, (fun sh hp C cl fp => (SE.cmp (vEq (room_u64 hr)) (SE.ix (SE.ix (SE.var 0) (SE.var 2)) (SE.var 4)) (SE.ix (SE.ix (SE.var 0) (SE.var 4)) (SE.var 2))))⟩ (by decide) (by rfl) (by rfl) (by decide) (by exact of_decide_eq_true rfl) (by decide) (by decide)) rfl S.nd)) SA.nil)))))))
theorem k_are_numbers (G : Gg K mg) (d_is_between : Df P w K mg base "is_between" 2 [.fz, .fz, .fz] .fz F_is_between) (d_is_item : Df P w K mg base "is_item" 3 [.fz, .fz] .fz F_is_item) (d_is_tuple_of : Df P w K mg base "is_tuple_of" 1 [.fz, .fz] .fz F_is_tuple_of) (h : ∃ fd, FunD K "are_numbers" "are_numbers" (defArgs s_are_numbers) (defBody s_are_numbers) (defScope s_are_numbers) [] [] (He.ga K "are_numbers") fd) : Df P w K mg base "are_numbers" 4 [.fz, .fz] .fz F_are_numbers := by
  obtain ⟨fd, F⟩ := h
  exact ⟨_, fd, ["value", "least"], Cq.fn_ok F S_are_numbers rfl (by rfl) (by decide) (fun cdv A outer sh H E hr => t_are_numbers G d_is_between d_is_item d_is_tuple_of hr), G.k_are_numbers, F.kp, (FunD.bindsN F fun _ _ _ _ _ _ us hl => match us, hl with | [_, _], _ => rfl)⟩
theorem S_shortcut_in : FnScope ["rows", "points", "x", "y", "z"] ["rows"] (defScope s_shortcut_in) := ⟨rfl, rfl, rfl, by decide +kernel, rfl, by decide +kernel, by decide +kernel⟩
theorem t_shortcut_in (G : Gg K mg)  {fa : Addr} {cdv : Value} {A : Around} {outer : List Env} {sh : Shared} {H : Hp} {E : XK} (hr : Room 0 (A.deeper (PyProof.Rows.envOfC "shortcut_in" (defScope s_shortcut_in) sh.heap.objs.size fa cdv))) :
  SSs (cxD P w K mg base ["rows", "points", "x", "y", "z"] "shortcut_in" (defScope s_shortcut_in) fa cdv A outer sh H E) (⟨[], none⟩ : Pin) (fun cls d _ H => E cls d H) .fz [.un, .un, .un, .un, .un] [] [.fz, .un, .un, .un, .un] [.fz, .un, .un, .un, .un] (defBody s_shortcut_in) m_shortcut_in := by
  have tk : Takes (cxD P w K mg base ["rows", "points", "x", "y", "z"] "shortcut_in" (defScope s_shortcut_in) fa cdv A outer sh H E) (fun cls d _ H => E cls d H) := tk_cxD
  have po : PassesOwn (model (cxD P w K mg base ["rows", "points", "x", "y", "z"] "shortcut_in" (defScope s_shortcut_in) fa cdv A outer sh H E).prog (cxD P w K mg base ["rows", "points", "x", "y", "z"] "shortcut_in" (defScope s_shortcut_in) fa cdv A outer sh H E).w) (cxD P w K mg base ["rows", "points", "x", "y", "z"] "shortcut_in" (defScope s_shortcut_in) fa cdv A outer sh H E).A (cxD P w K mg base ["rows", "points", "x", "y", "z"] "shortcut_in" (defScope s_shortcut_in) fa cdv A outer sh H E).env (cxD P w K mg base ["rows", "points", "x", "y", "z"] "shortcut_in" (defScope s_shortcut_in) fa cdv A outer sh H E).xe := po_cxD
  have S := S_shortcut_in
  exact (SSs.cons (ms1 := [.fz, .fz, .un, .un, .un]) (SS.set (md := .fz) 1 (SE.frozen (SE.listRange1 (SE.callB vLen G.b_len (by rfl) (SA.cons (SE.var 0) SA.nil)) rfl G.b_list G.b_range)) S.nd)
 (SSs.cons (ms1 := [.fz, .fz, .un, .un, .un]) (SS.for_ (ms1 := [.fz, .fz, .fz, .un, .un]) (ms2 := [.fz, .fz, .un, .un, .un]) [.fz, .fz, .un, .un, .un] (SI.any (SE.var 1)) (SG.name 2 S.nd)
 (SSs.cons (ms1 := [.fz, .fz, .fz, .un, .un]) (SS.for_ (ms1 := [.fz, .fz, .fz, .fz, .un]) (ms2 := [.fz, .fz, .fz, .un, .un]) [.fz, .fz, .fz, .un, .un] (SI.any (SE.var 1)) (SG.name 3 S.nd)
 (SSs.cons (ms1 := [.fz, .fz, .fz, .fz, .un]) (SS.for_ (ms1 := [.fz, .fz, .fz, .fz, .fz]) (ms2 := [.fz, .fz, .fz, .fz, .un]) [.fz, .fz, .fz, .fz, .un] (SI.any (SE.var 1)) (SG.name 4 S.nd)
 (SSs.cons (ms1 := [.fz, .fz, .fz, .fz, .fz]) (SS.ite (ms2 := [.fz, .fz, .fz, .fz, .fz]) (ST.cmp xGt (SE.ix (SE.ix (SE.var 0) (SE.var 2)) (SE.var 4)) (SE.bin vAdd (SE.ix (SE.ix (SE.var 0) (SE.var 2)) (SE.var 3)) (SE.ix (SE.ix (SE.var 0) (SE.var 3)) (SE.var 4))))
 (SSs.one (SS.ret (ms2 := [.fz, .fz, .fz, .fz, .fz]) (SE.tup (SA.cons (SE.var 2) (SA.cons (SE.var 3) (SA.cons (SE.var 4) SA.nil))))))
 SSs.nil)
 (SSs.weak (ms3 := [.fz, .fz, .fz, .fz, .un]) (SSs.nil (ms := [.fz, .fz, .fz, .fz, .fz])))) po rfl)
 (SSs.weak (ms3 := [.fz, .fz, .fz, .un, .un]) (SSs.nil (ms := [.fz, .fz, .fz, .fz, .un])))) po rfl)
 (SSs.weak (ms3 := [.fz, .fz, .un, .un, .un]) (SSs.nil (ms := [.fz, .fz, .fz, .un, .un])))) po rfl)
 (SSs.one (SS.ret (ms2 := [.fz, .un, .un, .un, .un]) SE.non))))
theorem k_shortcut_in (G : Gg K mg)  (h : ∃ fd, FunD K "shortcut_in" "shortcut_in" (defArgs s_shortcut_in) (defBody s_shortcut_in) (defScope s_shortcut_in) [] [] (He.ga K "shortcut_in") fd) : Df P w K mg base "shortcut_in" 1 [.fz] .fz F_shortcut_in := by
  obtain ⟨fd, F⟩ := h
  exact ⟨_, fd, ["rows"], Cq.fn_ok F S_shortcut_in rfl (by rfl) (by decide) (fun cdv A outer sh H E hr => t_shortcut_in G  hr), G.k_shortcut_in, F.kp, (FunD.bindsN F fun _ _ _ _ _ _ us hl => match us, hl with | [_], _ => rfl)⟩
theorem S_InvalidRows___init__ : FnScope ["self", "given"] ["self", "given"] (defScope s_InvalidRows___init__) := ⟨rfl, rfl, rfl, by decide +kernel, rfl, by decide +kernel, by decide +kernel⟩
theorem k_InvalidRows___init__ (G : Gg K mg) (h : ∃ fd, FunD K "__init__" "InvalidRows.__init__" (defArgs s_InvalidRows___init__) (defBody s_InvalidRows___init__) (defScope s_InvalidRows___init__) [] [] (He.ma K (He.ga K "InvalidRows") "__init__") fd) : Dx P w K mg base "InvalidRows" 1 1 [("given", 1)] := by
  obtain ⟨fd, F⟩ := h
  exact ⟨_, _, fd, ["self", "given"], G.ox_InvalidRows.1, G.ox_InvalidRows.2.1, G.ox_InvalidRows.2.2, Cq.xi_ok F S_InvalidRows___init__ rfl G.ox_InvalidRows.1 (ksC (by decide) G.xn_InvalidRows_given ksN) (by decide) (fun cdv A outer sh H E => (XI.cons 1 XI.nil)), (FunD.bindsN F fun _ _ _ _ _ _ us hl => match us, hl with | [_, _], _ => rfl), G.k_InvalidRows⟩
theorem S_Shortcut___init__ : FnScope ["self", "x", "y", "z"] ["self", "x", "y", "z"] (defScope s_Shortcut___init__) := ⟨rfl, rfl, rfl, by decide +kernel, rfl, by decide +kernel, by decide +kernel⟩
theorem k_Shortcut___init__ (G : Gg K mg) (h : ∃ fd, FunD K "__init__" "Shortcut.__init__" (defArgs s_Shortcut___init__) (defBody s_Shortcut___init__) (defScope s_Shortcut___init__) [] [] (He.ma K (He.ga K "Shortcut") "__init__") fd) : Dx P w K mg base "Shortcut" 1 3 [("x", 1), ("y", 2), ("z", 3)] := by
  obtain ⟨fd, F⟩ := h
  exact ⟨_, _, fd, ["self", "x", "y", "z"], G.ox_Shortcut.1, G.ox_Shortcut.2.1, G.ox_Shortcut.2.2, Cq.xi_ok F S_Shortcut___init__ rfl G.ox_Shortcut.1 (ksC (by decide) G.xn_Shortcut_x (ksC (by decide) G.xn_Shortcut_y (ksC (by decide) G.xn_Shortcut_z ksN))) (by decide) (fun cdv A outer sh H E => (XI.cons 1 (XI.cons 2 (XI.cons 3 XI.nil)))), (FunD.bindsN F fun _ _ _ _ _ _ us hl => match us, hl with | [_, _, _, _], _ => rfl), G.k_Shortcut⟩
theorem S_Space___init__ : FnScope ["self", "rows", "fault"] ["self", "rows"] (defScope s_Space___init__) := ⟨rfl, rfl, rfl, by decide +kernel, rfl, by decide +kernel, by decide +kernel⟩
theorem t_Space___init__ (G : Gg K mg) (d_are_numbers : Df P w K mg base "are_numbers" 4 [.fz, .fz] .fz F_are_numbers) (d_shortcut_in : Df P w K mg base "shortcut_in" 1 [.fz] .fz F_shortcut_in) (x_InvalidRows : Dx P w K mg base "InvalidRows" 1 1 [("given", 1)]) (x_Shortcut : Dx P w K mg base "Shortcut" 1 3 [("x", 1), ("y", 2), ("z", 3)]) {fa : Addr} {cdv : Value} {A : Around} {outer : List Env} {sh : Shared} {H : Hp} {E : XK} (hr : Room 4 (A.deeper (PyProof.Rows.envOfC "Space.__init__" (defScope s_Space___init__) sh.heap.objs.size fa cdv))) :
  IB (cxD P w K mg base ["self", "rows", "fault"] "Space.__init__" (defScope s_Space___init__) fa cdv A outer sh H E) (fun cls d _ H => E cls d H) (He.ga K "Space") [.un, .fz, .un] (defBody s_Space___init__) m_Space___init__ := by
  have tk : Takes (cxD P w K mg base ["self", "rows", "fault"] "Space.__init__" (defScope s_Space___init__) fa cdv A outer sh H E) (fun cls d _ H => E cls d H) := tk_cxD
  have po : PassesOwn (model (cxD P w K mg base ["self", "rows", "fault"] "Space.__init__" (defScope s_Space___init__) fa cdv A outer sh H E).prog (cxD P w K mg base ["self", "rows", "fault"] "Space.__init__" (defScope s_Space___init__) fa cdv A outer sh H E).w) (cxD P w K mg base ["self", "rows", "fault"] "Space.__init__" (defScope s_Space___init__) fa cdv A outer sh H E).A (cxD P w K mg base ["self", "rows", "fault"] "Space.__init__" (defScope s_Space___init__) fa cdv A outer sh H E).env (cxD P w K mg base ["self", "rows", "fault"] "Space.__init__" (defScope s_Space___init__) fa cdv A outer sh H E).xe := po_cxD
  have S := S_Space___init__
  exact (IB.cons (rm := .fz) (ms1 := [.un, .fz, .un]) (SS.ite (ms2 := [.un, .fz, .un]) (ST.not (ST.tru (SE.call (d_are_numbers.at hr (by decide)) tk (SAr.cons (SE.var 1) (SAr.cons SE.int SAr.nil)))))
 (SSs.one (SS.raise (ms2 := [.un, .fz, .un]) (ks := [("given", 1)]) (n := 1) (x_InvalidRows.at hr (by decide)) rfl tk (SA.cons (SE.var 1) SA.nil) (by decide) (by rfl) (by decide) (lnC lnN)))
 SSs.nil)
 (IB.cons (rm := .fz) (ms1 := [.un, .fz, .fz]) (SS.set (md := .fz) 2 (SE.call (d_shortcut_in.at hr (by decide)) tk (SAr.cons (SE.var 1) SAr.nil)) S.nd)
 (IB.cons (rm := .fz) (ms1 := [.un, .fz, .fz]) (SS.ite (ms2 := [.un, .fz, .fz]) (ST.cmp vIsNot (SE.var 2) SE.non)
 (SSs.one (SS.raise (ms2 := [.un, .fz, .fz]) (ks := [("x", 1), ("y", 2), ("z", 3)]) (n := 3) (x_Shortcut.at hr (by decide)) rfl tk (SA.cons (SE.ix (SE.var 2) SE.int) (SA.cons (SE.ix (SE.var 2) SE.int) (SA.cons (SE.ix (SE.var 2) SE.int) SA.nil))) (by decide) (by rfl) (by decide) (lnC (lnC (lnC lnN)))))
 SSs.nil)
 (IB.tail (IT.cons G.cl_Space G.no_Space_rows (SE.var 1) (IT.cons G.cl_Space G.no_Space_size (SE.callB vLen G.b_len (by rfl) (SA.cons (SE.var 1) SA.nil)) IT.nil))))))
theorem v_Space_0_rows_k (G : Gg K mg) (d_are_numbers : Df P w K mg base "are_numbers" 4 [.fz, .fz] .fz F_are_numbers) (d_shortcut_in : Df P w K mg base "shortcut_in" 1 [.fz] .fz F_shortcut_in) (x_InvalidRows : Dx P w K mg base "InvalidRows" 1 1 [("given", 1)]) (x_Shortcut : Dx P w K mg base "Shortcut" 1 3 [("x", 1), ("y", 2), ("z", 3)]) (h : ∃ fd, FunD K "__init__" "Space.__init__" (defArgs s_Space___init__) (defBody s_Space___init__) (defScope s_Space___init__) [] [] (He.ma K (He.ga K "Space") "__init__") fd) : Dm P w K mg base "Space" 5 0 1 ["rows"] [0] F_Space___init__ := by
  obtain ⟨fd, F⟩ := h
  exact ⟨_, _, fd, ["self", "rows"], G.mk_Space, Cq.ini_ok F S_Space___init__ rfl (fun cdv A outer sh H E hr => t_Space___init__ G d_are_numbers d_shortcut_in x_InvalidRows x_Shortcut hr), G.k_Space, F.kwB fun _ _ _ _ _ _ us ws h1 h2 => match us, ws, h1, h2 with | [_], [_], _, _ => rfl⟩
theorem v_Space_1__k (G : Gg K mg) (d_are_numbers : Df P w K mg base "are_numbers" 4 [.fz, .fz] .fz F_are_numbers) (d_shortcut_in : Df P w K mg base "shortcut_in" 1 [.fz] .fz F_shortcut_in) (x_InvalidRows : Dx P w K mg base "InvalidRows" 1 1 [("given", 1)]) (x_Shortcut : Dx P w K mg base "Shortcut" 1 3 [("x", 1), ("y", 2), ("z", 3)]) (h : ∃ fd, FunD K "__init__" "Space.__init__" (defArgs s_Space___init__) (defBody s_Space___init__) (defScope s_Space___init__) [] [] (He.ma K (He.ga K "Space") "__init__") fd) : Dm P w K mg base "Space" 5 1 1 [] [0] F_Space___init__ := by
  obtain ⟨fd, F⟩ := h
  exact ⟨_, _, fd, ["self", "rows"], G.mk_Space, Cq.ini_ok F S_Space___init__ rfl (fun cdv A outer sh H E hr => t_Space___init__ G d_are_numbers d_shortcut_in x_InvalidRows x_Shortcut hr), G.k_Space, F.kwB fun _ _ _ _ _ _ us ws h1 h2 => match us, ws, h1, h2 with | [_, _], [], _, _ => rfl⟩
theorem S__law_made : FnScope ["rows", "by_name", "made", "e"] ["rows", "by_name"] (defScope s__law_made) := ⟨rfl, rfl, rfl, by decide +kernel, rfl, by decide +kernel, by decide +kernel⟩
theorem t__law_made (G : Gg K mg) (v_Space_0_rows : Dm P w K mg base "Space" 5 0 1 ["rows"] [0] F_Space___init__) (v_Space_1_ : Dm P w K mg base "Space" 5 1 1 [] [0] F_Space___init__) {fa : Addr} {cdv : Value} {A : Around} {outer : List Env} {sh : Shared} {H : Hp} {E : XK} (hr : Room 6 (A.deeper (PyProof.Rows.envOfC "_law_made" (defScope s__law_made) sh.heap.objs.size fa cdv))) :
  SSs (cxD P w K mg base ["rows", "by_name", "made", "e"] "_law_made" (defScope s__law_made) fa cdv A outer sh H E) (⟨[], none⟩ : Pin) (fun cls d _ H => E cls d H) .fz [.un, .un, .un, .un] [] [.fz, .fz, .un, .un] [.fz, .fz, .un, .un] (defBody s__law_made) m__law_made := by
  have tk : Takes (cxD P w K mg base ["rows", "by_name", "made", "e"] "_law_made" (defScope s__law_made) fa cdv A outer sh H E) (fun cls d _ H => E cls d H) := tk_cxD
  have po : PassesOwn (model (cxD P w K mg base ["rows", "by_name", "made", "e"] "_law_made" (defScope s__law_made) fa cdv A outer sh H E).prog (cxD P w K mg base ["rows", "by_name", "made", "e"] "_law_made" (defScope s__law_made) fa cdv A outer sh H E).w) (cxD P w K mg base ["rows", "by_name", "made", "e"] "_law_made" (defScope s__law_made) fa cdv A outer sh H E).A (cxD P w K mg base ["rows", "by_name", "made", "e"] "_law_made" (defScope s__law_made) fa cdv A outer sh H E).env (cxD P w K mg base ["rows", "by_name", "made", "e"] "_law_made" (defScope s__law_made) fa cdv A outer sh H E).xe := po_cxD
  have S := S__law_made
  exact (SSs.one (SS.try_ (ms2 := [.fz, .fz, .un, .un]) rfl rfl S.nd tk (by rfl) (fun W' pn xe tk' po' => (SSs.cons (ms1 := [.fz, .fz, .fz, .un]) (SS.set (md := .fz) 2 (SE.ite (ST.tru (SE.var 1)) (SE.makeK0 (ks := ["rows"]) (v_Space_0_rows.at hr (by decide)) tk' (SK.cons (SE.var 0) SK.nil) (lnC lnN)) (SE.makeK (ks := []) (v_Space_1_.at hr (by decide)) tk' (SA.cons (SE.var 0) SA.nil) SK.nil (lnC lnN) lnN)) S.nd)
 (SSs.one (SS.ret (ms2 := [.fz, .fz, .un, .un]) (SE.frozen (SE.lst (SA.cons SE.str (SA.cons (SE.fld G.k_Space G.cl_Space G.no_Space_rows (SE.var 2)) (SA.cons (SE.fld G.k_Space G.cl_Space G.no_Space_size (SE.var 2)) SA.nil))))))))) (HdOk.named (h := ⟨selT [("SpaceError", false), ("InvalidRows", true), ("Shortcut", false)], m__law_made_hd2⟩) 3 (namesOf rfl (by decide) G.k_InvalidRows) (selOk (selC G.k_SpaceError G.xm_SpaceError_InvalidRows (selC G.k_InvalidRows G.xm_InvalidRows_InvalidRows (selC G.k_Shortcut G.xm_Shortcut_InvalidRows selN)))) (by rfl) (by rfl) (by exact of_decide_eq_true rfl) (by exact of_decide_eq_true rfl) (by rfl) (by rfl)
 (fun C fs a oe cls d pn J cc hsel hmg hcls hz hf hat => by
  have xt := xfT (flds := ["given"]) (xfS (xfY G.k_InvalidRows G.xf_InvalidRows (noC G.xn_InvalidRows_given noN) (xfS xfN))) hsel hmg
  obtain ⟨T, hF⟩ := xt
  exact (SSs.one (SS.ret (ms2 := [.fz, .fz, .un, .un]) (SE.frozen (SE.lst (SA.cons SE.str (SA.cons (SE.xf T (hF "given" (by decide)) hcls hz hf hat) SA.nil))))))) (HdOk.named (h := ⟨selT [("SpaceError", false), ("InvalidRows", false), ("Shortcut", true)], m__law_made_hd1⟩) 3 (namesOf rfl (by decide) G.k_Shortcut) (selOk (selC G.k_SpaceError G.xm_SpaceError_Shortcut (selC G.k_InvalidRows G.xm_InvalidRows_Shortcut (selC G.k_Shortcut G.xm_Shortcut_Shortcut selN)))) (by rfl) (by rfl) (by exact of_decide_eq_true rfl) (by exact of_decide_eq_true rfl) (by rfl) (by rfl)
 (fun C fs a oe cls d pn J cc hsel hmg hcls hz hf hat => by
  have xt := xfT (flds := ["x", "y", "z"]) (xfS (xfS (xfY G.k_Shortcut G.xf_Shortcut (noC G.xn_Shortcut_x (noC G.xn_Shortcut_y (noC G.xn_Shortcut_z noN))) xfN))) hsel hmg
  obtain ⟨T, hF⟩ := xt
  exact (SSs.one (SS.ret (ms2 := [.fz, .fz, .un, .un]) (SE.frozen (SE.lst (SA.cons SE.str (SA.cons (SE.xf T (hF "x" (by decide)) hcls hz hf hat) (SA.cons (SE.xf T (hF "y" (by decide)) hcls hz hf hat) (SA.cons (SE.xf T (hF "z" (by decide)) hcls hz hf hat) SA.nil))))))))) HdOk.nil))))
theorem k__law_made (G : Gg K mg) (v_Space_0_rows : Dm P w K mg base "Space" 5 0 1 ["rows"] [0] F_Space___init__) (v_Space_1_ : Dm P w K mg base "Space" 5 1 1 [] [0] F_Space___init__) (h : ∃ fd, FunD K "_law_made" "_law_made" (defArgs s__law_made) (defBody s__law_made) (defScope s__law_made) [] [] (He.ga K "_law_made") fd) : Df P w K mg base "_law_made" 7 [.fz, .fz] .fz F__law_made := by
  obtain ⟨fd, F⟩ := h
  exact ⟨_, fd, ["rows", "by_name"], Cq.fn_ok F S__law_made rfl (by rfl) (by decide) (fun cdv A outer sh H E hr => t__law_made G v_Space_0_rows v_Space_1_ hr), G.k__law_made, F.kp, (FunD.bindsN F fun _ _ _ _ _ _ us hl => match us, hl with | [_, _], _ => rfl)⟩
theorem S__law_same : FnScope ["told", "due", "same", "k"] ["told", "due"] (defScope s__law_same) := ⟨rfl, rfl, rfl, by decide +kernel, rfl, by decide +kernel, by decide +kernel⟩
theorem t__law_same (G : Gg K mg)  {n : Nat} {Fr : MF} (IH : Df P w K mg base "_law_same" (1 + n) [.fz, .fz] .fz Fr) {fa : Addr} {cdv : Value} {A : Around} {outer : List Env} {sh : Shared} {H : Hp} {E : XK} (hr : Room (1 + n) (A.deeper (PyProof.Rows.envOfC "_law_same" (defScope s__law_same) sh.heap.objs.size fa cdv))) :
  SSs (cxD P w K mg base ["told", "due", "same", "k"] "_law_same" (defScope s__law_same) fa cdv A outer sh H E) (⟨[], none⟩ : Pin) (fun cls d _ H => E cls d H) .fz [.un, .un, .un, .un] [] [.fz, .fz, .un, .un] [.fz, .fz, .un, .un] (defBody s__law_same) (m__law_same Fr) := by
  have tk : Takes (cxD P w K mg base ["told", "due", "same", "k"] "_law_same" (defScope s__law_same) fa cdv A outer sh H E) (fun cls d _ H => E cls d H) := tk_cxD
  have po : PassesOwn (model (cxD P w K mg base ["told", "due", "same", "k"] "_law_same" (defScope s__law_same) fa cdv A outer sh H E).prog (cxD P w K mg base ["told", "due", "same", "k"] "_law_same" (defScope s__law_same) fa cdv A outer sh H E).w) (cxD P w K mg base ["told", "due", "same", "k"] "_law_same" (defScope s__law_same) fa cdv A outer sh H E).A (cxD P w K mg base ["told", "due", "same", "k"] "_law_same" (defScope s__law_same) fa cdv A outer sh H E).env (cxD P w K mg base ["told", "due", "same", "k"] "_law_same" (defScope s__law_same) fa cdv A outer sh H E).xe := po_cxD
  have S := S__law_same
  exact (SSs.cons (ms1 := [.fz, .fz, .un, .un]) (SS.ite (ms2 := [.fz, .fz, .un, .un]) (SW.st (SW.or (ST.cmp vIs (SE.var 1) SE.non) (SW.or1 (ST.tru (SE.callB vIsi G.b_isinstance (by rfl) (SA.cons (SE.var 1) (SA.cons (SE.ty G.b_bool (by rfl)) SA.nil)))))))
 (SSs.one (SS.ret (ms2 := [.fz, .fz, .un, .un]) (SE.ite (ST.cmp vIs (SE.var 1) SE.non) (SE.cmp vIs (SE.var 0) SE.non) (SE.and (SE.callB vIsi G.b_isinstance (by rfl) (SA.cons (SE.var 0) (SA.cons (SE.ty G.b_bool (by rfl)) SA.nil))) (SE.one (SE.cmp (vEq (room_u64 hr)) (SE.cmp vIs (SE.var 0) SE.bl) (SE.cmp vIs (SE.var 1) SE.bl)))))))
 SSs.nil)
 (SSs.cons (ms1 := [.fz, .fz, .un, .un]) (SS.ite (ms2 := [.fz, .fz, .un, .un]) (ST.tru (SE.callB vIsi G.b_isinstance (by rfl) (SA.cons (SE.var 1) (SA.cons (SE.ty G.b_int (by rfl)) SA.nil))))
 (SSs.one (SS.ret (ms2 := [.fz, .fz, .un, .un]) (SE.and (SE.callB vIsi G.b_isinstance (by rfl) (SA.cons (SE.var 0) (SA.cons (SE.ty G.b_int (by rfl)) SA.nil))) (SE.and (SE.not (SE.callB vIsi G.b_isinstance (by rfl) (SA.cons (SE.var 0) (SA.cons (SE.ty G.b_bool (by rfl)) SA.nil)))) (SE.one (SE.cmp (vEq (room_u64 hr)) (SE.bin xSub (SE.callT vInt G.b_int (by rfl) (SA.cons (SE.var 0) SA.nil)) (SE.var 1)) SE.int))))))
 SSs.nil)
 (SSs.cons (ms1 := [.fz, .fz, .un, .un]) (SS.ite (ms2 := [.fz, .fz, .un, .un]) (ST.tru (SE.callB vIsi G.b_isinstance (by rfl) (SA.cons (SE.var 1) (SA.cons (SE.ty G.b_str (by rfl)) SA.nil))))
 (SSs.cons (ms1 := [.fz, .fz, .fz, .un]) (SS.set (md := .fz) 2 (SE.and (SE.callB vIsi G.b_isinstance (by rfl) (SA.cons (SE.var 0) (SA.cons (SE.ty G.b_str (by rfl)) SA.nil))) (SE.one (SE.cmp (vEq (room_u64 hr)) (SE.callB vLen G.b_len (by rfl) (SA.cons (SE.var 0) SA.nil)) (SE.callB vLen G.b_len (by rfl) (SA.cons (SE.var 1) SA.nil))))) S.nd)
 (SSs.one (SS.ret (ms2 := [.fz, .fz, .un, .un]) (SE.and (SE.var 2) (SE.one (SE.cmp (vEq (room_u64 hr)) (SE.frozen (SE.lc (own := [("k", 3)]) (ms1 := [.fz, .fz, .fz, .fz]) rfl S.nd (SI.range1 (SA.cons (SE.callB vLen G.b_len (by rfl) (SA.cons (SE.var 1) SA.nil)) SA.nil) G.b_range) (bk (by first | decide +kernel | rfl)) (fun sh hp C cl fp => (SG.name 3 S.nd)) (fun sh hp C cl fp => (STs.one (ST.cmp (vNe (room_u64 hr)) (SE.slice (SE.var 0) (SO.some (SE.var 3)) (SO.some (SE.bin vAdd (SE.var 3) SE.int))) (SE.ix (SE.var 1) (SE.var 3))))) (fun sh hp C cl fp => (SE.var 3)))) (SE.frozen (SE.lst SA.nil))))))))
 SSs.nil)
 (SSs.cons (ms1 := [.fz, .fz, .un, .un]) (SS.ite (ms2 := [.fz, .fz, .un, .un]) (ST.tru (SE.callB vIsi G.b_isinstance (by rfl) (SA.cons (SE.var 1) (SA.cons (SE.ty G.b_dict (by rfl)) SA.nil))))
 (SSs.one (SS.ret (ms2 := [.fz, .fz, .un, .un]) (SE.and (SE.callB vIsi G.b_isinstance (by rfl) (SA.cons (SE.var 0) (SA.cons (SE.ty G.b_dict (by rfl)) SA.nil))) (SE.one (SE.call (IH.at hr (by omega)) tk (SAr.cons (SE.frozen (SE.listItems (SE.var 0) rfl G.b_list)) (SAr.cons (SE.frozen (SE.listItems (SE.var 1) rfl G.b_list)) SAr.nil)))))))
 SSs.nil)
 (SSs.cons (ms1 := [.fz, .fz, .un, .un]) (SS.ite (ms2 := [.fz, .fz, .un, .un]) (SW.st (SW.or (ST.cmp (vNe (room_u64 hr)) (SE.callB vIsi G.b_isinstance (by rfl) (SA.cons (SE.var 0) (SA.cons (SE.ty G.b_list (by rfl)) SA.nil))) (SE.callB vIsi G.b_isinstance (by rfl) (SA.cons (SE.var 1) (SA.cons (SE.ty G.b_list (by rfl)) SA.nil)))) (SW.or1 (ST.cmp (vNe (room_u64 hr)) (SE.callB vIsi G.b_isinstance (by rfl) (SA.cons (SE.var 0) (SA.cons (SE.ty G.b_tuple (by rfl)) SA.nil))) (SE.callB vIsi G.b_isinstance (by rfl) (SA.cons (SE.var 1) (SA.cons (SE.ty G.b_tuple (by rfl)) SA.nil)))))))
 (SSs.one (SS.ret (ms2 := [.fz, .fz, .un, .un]) SE.bl))
 SSs.nil)
 (SSs.cons (ms1 := [.fz, .fz, .un, .un]) (SS.ite (ms2 := [.fz, .fz, .un, .un]) (SW.st (SW.or (ST.not (ST.tru (SE.isiT (SE.var 0) (STy.cons (STy.cons STy.nil G.b_tuple (by rfl)) G.b_list (by rfl)) (hm := G.b_isinstance)))) (SW.or1 (ST.cmp (vNe (room_u64 hr)) (SE.callB vLen G.b_len (by rfl) (SA.cons (SE.var 0) SA.nil)) (SE.callB vLen G.b_len (by rfl) (SA.cons (SE.var 1) SA.nil))))))
 (SSs.one (SS.ret (ms2 := [.fz, .fz, .un, .un]) SE.bl))
 SSs.nil)
 (SSs.one (SS.ret (ms2 := [.fz, .fz, .un, .un]) (SE.cmp (vEq (room_u64 hr)) (SE.frozen (SE.lc (own := [("k", 3)]) (ms1 := [.fz, .fz, .un, .fz]) rfl S.nd (SI.range1 (SA.cons (SE.callB vLen G.b_len (by rfl) (SA.cons (SE.var 1) SA.nil)) SA.nil) G.b_range) (bk (by first | decide +kernel | rfl)) (fun sh hp C cl fp => (SG.name 3 S.nd)) (fun sh hp C cl fp => (STs.one (ST.not (ST.tru (SE.call (IH.at hr (by omega)) takes_none5 (SAr.cons (SE.ix (SE.var 0) (SE.var 3)) (SAr.cons (SE.ix (SE.var 1) (SE.var 3)) SAr.nil))))))) (fun sh hp C cl fp => (SE.var 3)))) (SE.frozen (SE.lst SA.nil)))))))))))
theorem k__law_samen (G : Gg K mg)  {fd : FuncData} (F : FunD K "_law_same" "_law_same" (defArgs s__law_same) (defBody s__law_same) (defScope s__law_same) [] [] (He.ga K "_law_same") fd) : ∀ n : Nat, Df P w K mg base "_law_same" (1 + n) [.fz, .fz] .fz (F__law_same n)
  | 0 => ⟨(He.ga K "_law_same"), fd, ["told", "due"], Cq.fn_ok (ms2 := [.fz, .fz, .un, .un]) F S__law_same rfl (by rfl) (by decide) (fun cdv A outer sh H E hr => SSs.never), G.k__law_same, F.kp, (FunD.bindsN F fun _ _ _ _ _ _ us hl => match us, hl with | [_, _], _ => rfl)⟩
  | n + 1 => ⟨(He.ga K "_law_same"), fd, ["told", "due"], Cq.fn_ok F S__law_same rfl (by rfl) (by decide) (fun cdv A outer sh H E hr => t__law_same G  (k__law_samen G  F n) hr), G.k__law_same, F.kp, (FunD.bindsN F fun _ _ _ _ _ _ us hl => match us, hl with | [_, _], _ => rfl)⟩
theorem k__law_same (G : Gg K mg)  (h : ∃ fd, FunD K "_law_same" "_law_same" (defArgs s__law_same) (defBody s__law_same) (defScope s__law_same) [] [] (He.ga K "_law_same") fd) : Df P w K mg base "_law_same" 13 [.fz, .fz] .fz (F__law_same 12) := by
  obtain ⟨fd, F⟩ := h
  exact k__law_samen G  F 12
theorem S_is_space : FnScope ["value"] ["value"] (defScope s_is_space) := ⟨rfl, rfl, rfl, by decide +kernel, rfl, by decide +kernel, by decide +kernel⟩
theorem t_is_space (G : Gg K mg) (d_are_numbers : Df P w K mg base "are_numbers" 4 [.fz, .fz] .fz F_are_numbers) (d_shortcut_in : Df P w K mg base "shortcut_in" 1 [.fz] .fz F_shortcut_in) {fa : Addr} {cdv : Value} {A : Around} {outer : List Env} {sh : Shared} {H : Hp} {E : XK} (hr : Room 4 (A.deeper (PyProof.Rows.envOfC "is_space" (defScope s_is_space) sh.heap.objs.size fa cdv))) :
  SSs (cxD P w K mg base ["value"] "is_space" (defScope s_is_space) fa cdv A outer sh H E) (⟨[], none⟩ : Pin) (fun cls d _ H => E cls d H) .fz [.un] [] [.fz] [.fz] (defBody s_is_space) m_is_space := by
  have tk : Takes (cxD P w K mg base ["value"] "is_space" (defScope s_is_space) fa cdv A outer sh H E) (fun cls d _ H => E cls d H) := tk_cxD
  have po : PassesOwn (model (cxD P w K mg base ["value"] "is_space" (defScope s_is_space) fa cdv A outer sh H E).prog (cxD P w K mg base ["value"] "is_space" (defScope s_is_space) fa cdv A outer sh H E).w) (cxD P w K mg base ["value"] "is_space" (defScope s_is_space) fa cdv A outer sh H E).A (cxD P w K mg base ["value"] "is_space" (defScope s_is_space) fa cdv A outer sh H E).env (cxD P w K mg base ["value"] "is_space" (defScope s_is_space) fa cdv A outer sh H E).xe := po_cxD
  have S := S_is_space
  exact (SSs.one (SS.ret (ms2 := [.fz]) (SE.and (SE.call (d_are_numbers.at hr (by decide)) tk (SAr.cons (SE.var 0) (SAr.cons SE.int SAr.nil))) (SE.one (SE.cmp vIs (SE.call (d_shortcut_in.at hr (by decide)) tk (SAr.cons (SE.var 0) SAr.nil)) SE.non)))))
theorem k_is_space (G : Gg K mg) (d_are_numbers : Df P w K mg base "are_numbers" 4 [.fz, .fz] .fz F_are_numbers) (d_shortcut_in : Df P w K mg base "shortcut_in" 1 [.fz] .fz F_shortcut_in) (h : ∃ fd, FunD K "is_space" "is_space" (defArgs s_is_space) (defBody s_is_space) (defScope s_is_space) [] [] (He.ga K "is_space") fd) : Df P w K mg base "is_space" 5 [.fz] .fz F_is_space := by
  obtain ⟨fd, F⟩ := h
  exact ⟨_, fd, ["value"], Cq.fn_ok F S_is_space rfl (by rfl) (by decide) (fun cdv A outer sh H E hr => t_is_space G d_are_numbers d_shortcut_in hr), G.k_is_space, F.kp, (FunD.bindsN F fun _ _ _ _ _ _ us hl => match us, hl with | [_], _ => rfl)⟩
theorem w_is_space_0_value_k (G : Gg K mg) (d_are_numbers : Df P w K mg base "are_numbers" 4 [.fz, .fz] .fz F_are_numbers) (d_shortcut_in : Df P w K mg base "shortcut_in" 1 [.fz] .fz F_shortcut_in) (h : ∃ fd, FunD K "is_space" "is_space" (defArgs s_is_space) (defBody s_is_space) (defScope s_is_space) [] [] (He.ga K "is_space") fd) : DfK P w K mg base "is_space" 5 0 1 ["value"] [0] .fz F_is_space := by
  obtain ⟨fd, F⟩ := h
  exact ⟨_, fd, ["value"], Cq.fn_ok F S_is_space rfl (by rfl) (by decide) (fun cdv A outer sh H E hr => t_is_space G d_are_numbers d_shortcut_in hr), G.k_is_space, F.kp, F.kwB fun _ _ _ _ _ _ us ws h1 h2 => match us, ws, h1, h2 with | [], [_], _, _ => rfl⟩
theorem S__law_value_right : FnScope ["box", "value", "due", "by_name", "told"] ["box", "value"] (defScope s__law_value_right) := ⟨rfl, rfl, rfl, by decide +kernel, rfl, by decide +kernel, by decide +kernel⟩
theorem t__law_value_right (G : Gg K mg) (d__law_due : Df P w K mg base "_law_due" 2 [.fz] .fz F__law_due) (d__law_made : Df P w K mg base "_law_made" 7 [.fz, .fz] .fz F__law_made) (d__law_same : Df P w K mg base "_law_same" 13 [.fz, .fz] .fz (F__law_same 12)) (d__law_take : Df P w K mg base "_law_take" 1 [.ow, .fz] .fz F__law_take) (d_is_space : Df P w K mg base "is_space" 5 [.fz] .fz F_is_space) (w_is_space_0_value : DfK P w K mg base "is_space" 5 0 1 ["value"] [0] .fz F_is_space) {fa : Addr} {cdv : Value} {A : Around} {outer : List Env} {sh : Shared} {H : Hp} {E : XK} (hr : Room 13 (A.deeper (PyProof.Rows.envOfC "_law_value_right" (defScope s__law_value_right) sh.heap.objs.size fa cdv))) :
  SSs (cxD P w K mg base ["box", "value", "due", "by_name", "told"] "_law_value_right" (defScope s__law_value_right) fa cdv A outer sh H E) (⟨[0], none⟩ : Pin) (fun cls d _ H => E cls d H) .fz [.ow, .un, .un, .un, .un] [] [.ow, .fz, .un, .un, .un] [.ow, .fz, .un, .un, .un] (defBody s__law_value_right) m__law_value_right := by
  have tk : Takes (cxD P w K mg base ["box", "value", "due", "by_name", "told"] "_law_value_right" (defScope s__law_value_right) fa cdv A outer sh H E) (fun cls d _ H => E cls d H) := tk_cxD
  have po : PassesOwn (model (cxD P w K mg base ["box", "value", "due", "by_name", "told"] "_law_value_right" (defScope s__law_value_right) fa cdv A outer sh H E).prog (cxD P w K mg base ["box", "value", "due", "by_name", "told"] "_law_value_right" (defScope s__law_value_right) fa cdv A outer sh H E).w) (cxD P w K mg base ["box", "value", "due", "by_name", "told"] "_law_value_right" (defScope s__law_value_right) fa cdv A outer sh H E).A (cxD P w K mg base ["box", "value", "due", "by_name", "told"] "_law_value_right" (defScope s__law_value_right) fa cdv A outer sh H E).env (cxD P w K mg base ["box", "value", "due", "by_name", "told"] "_law_value_right" (defScope s__law_value_right) fa cdv A outer sh H E).xe := po_cxD
  have S := S__law_value_right
  exact (SSs.cons (ms1 := [.ow, .fz, .fz, .fz, .un]) (SS.par (md1 := .fz) (md2 := .fz) 2 3 (SE.call (d__law_due.at hr (by decide)) tk (SAr.cons (SE.var 1) SAr.nil)) (SE.cmp (vEq (room_u64 hr)) (SE.call (d__law_take.at hr (by decide)) tk (SAr.own 0 (SAr.cons SE.int SAr.nil))) SE.int) rfl S.nd)
 (SSs.cons (ms1 := [.ow, .fz, .fz, .fz, .un]) (SS.ite (ms2 := [.ow, .fz, .fz, .fz, .un]) (ST.not (ST.tru (SE.call (d__law_same.at hr (by decide)) tk (SAr.cons (SE.frozen (SE.lst (SA.cons (SE.call (d__law_made.at hr (by decide)) tk (SAr.cons (SE.var 1) (SAr.cons (SE.var 3) SAr.nil))) (SA.cons (SE.call (d__law_made.at hr (by decide)) tk (SAr.cons (SE.var 1) (SAr.cons (SE.not (SE.var 3)) SAr.nil))) SA.nil)))) (SAr.cons (SE.frozen (SE.lst (SA.cons (SE.var 2) (SA.cons (SE.var 2) SA.nil)))) SAr.nil)))))
 (SSs.one (SS.ret (ms2 := [.ow, .fz, .fz, .fz, .un]) SE.bl))
 SSs.nil)
 (SSs.cons (ms1 := [.ow, .fz, .fz, .fz, .fz]) (SS.set (md := .fz) 4 (SE.ite (ST.tru (SE.var 3)) (SE.callK0 (ks := ["value"]) (w_is_space_0_value.at hr (by decide)) tk (SK.cons (SE.var 1) SK.nil) (lnC lnN)) (SE.call (d_is_space.at hr (by decide)) tk (SAr.cons (SE.var 1) SAr.nil))) S.nd)
 (SSs.one (SS.ret (ms2 := [.ow, .fz, .un, .un, .un]) (SE.call (d__law_same.at hr (by decide)) tk (SAr.cons (SE.var 4) (SAr.cons (SE.cmp (vEq (room_u64 hr)) (SE.ix (SE.var 2) SE.int) SE.str) SAr.nil))))))))
theorem k__law_value_right (G : Gg K mg) (d__law_due : Df P w K mg base "_law_due" 2 [.fz] .fz F__law_due) (d__law_made : Df P w K mg base "_law_made" 7 [.fz, .fz] .fz F__law_made) (d__law_same : Df P w K mg base "_law_same" 13 [.fz, .fz] .fz (F__law_same 12)) (d__law_take : Df P w K mg base "_law_take" 1 [.ow, .fz] .fz F__law_take) (d_is_space : Df P w K mg base "is_space" 5 [.fz] .fz F_is_space) (w_is_space_0_value : DfK P w K mg base "is_space" 5 0 1 ["value"] [0] .fz F_is_space) (h : ∃ fd, FunD K "_law_value_right" "_law_value_right" (defArgs s__law_value_right) (defBody s__law_value_right) (defScope s__law_value_right) [] [] (He.ga K "_law_value_right") fd) : Df P w K mg base "_law_value_right" 14 [.ow, .fz] .fz F__law_value_right := by
  obtain ⟨fd, F⟩ := h
  exact ⟨_, fd, ["box", "value"], Cq.fn_ok F S__law_value_right rfl (by rfl) (by decide) (fun cdv A outer sh H E hr => t__law_value_right G d__law_due d__law_made d__law_same d__law_take d_is_space w_is_space_0_value hr), G.k__law_value_right, F.kp, (FunD.bindsN F fun _ _ _ _ _ _ us hl => match us, hl with | [_, _], _ => rfl)⟩
theorem S_law : FnScope ["script", "k", "box", "rows", "other", "value", "size", "table", "x", "y", "far", "one", "more", "row"] ["script"] (defScope s_law) := ⟨rfl, rfl, rfl, by decide +kernel, rfl, by decide +kernel, by decide +kernel⟩
theorem t_law (G : Gg K mg) (q_Space : Deq P w K mg base "Space" 1 F_Space___eq__) (d__law_box : Df P w K mg base "_law_box" 1 [.fz] .ow F__law_box) (d__law_cell : Df P w K mg base "_law_cell" 1 [.fz, .fz] .fz F__law_cell) (d__law_drawn : Df P w K mg base "_law_drawn" 4 [.ow, .fz] .fz F__law_drawn) (d__law_pairs_in : Df P w K mg base "_law_pairs_in" 1 [.fz] .fz F__law_pairs_in) (d__law_size : Df P w K mg base "_law_size" 2 [.ow] .fz F__law_size) (d__law_spoilt : Df P w K mg base "_law_spoilt" 3 [.ow, .fz] .fz F__law_spoilt) (d__law_take : Df P w K mg base "_law_take" 1 [.ow, .fz] .fz F__law_take) (d__law_tuple : Df P w K mg base "_law_tuple" 1 [.fz] .fz F__law_tuple) (d__law_value_right : Df P w K mg base "_law_value_right" 14 [.ow, .fz] .fz F__law_value_right) (v_Space_1_ : Dm P w K mg base "Space" 5 1 1 [] [0] F_Space___init__) {fa : Addr} {cdv : Value} {A : Around} {outer : List Env} {sh : Shared} {H : Hp} {E : XK} (hr : Room 14 (A.deeper (PyProof.Rows.envOfC "law" (defScope s_law) sh.heap.objs.size fa cdv))) :
  SSs (cxD P w K mg base ["script", "k", "box", "rows", "other", "value", "size", "table", "x", "y", "far", "one", "more", "row"] "law" (defScope s_law) fa cdv A outer sh H E) (⟨[], none⟩ : Pin) (fun cls d _ H => E cls d H) .fz [.un, .un, .un, .un, .un, .un, .un, .un, .un, .un, .un, .un, .un, .un] [] [.fz, .un, .un, .un, .un, .un, .un, .un, .un, .un, .un, .un, .un, .un] [.fz, .un, .un, .un, .un, .un, .un, .un, .un, .un, .un, .un, .un, .un] (defBody s_law) m_law := by
  have tk : Takes (cxD P w K mg base ["script", "k", "box", "rows", "other", "value", "size", "table", "x", "y", "far", "one", "more", "row"] "law" (defScope s_law) fa cdv A outer sh H E) (fun cls d _ H => E cls d H) := tk_cxD
  have po : PassesOwn (model (cxD P w K mg base ["script", "k", "box", "rows", "other", "value", "size", "table", "x", "y", "far", "one", "more", "row"] "law" (defScope s_law) fa cdv A outer sh H E).prog (cxD P w K mg base ["script", "k", "box", "rows", "other", "value", "size", "table", "x", "y", "far", "one", "more", "row"] "law" (defScope s_law) fa cdv A outer sh H E).w) (cxD P w K mg base ["script", "k", "box", "rows", "other", "value", "size", "table", "x", "y", "far", "one", "more", "row"] "law" (defScope s_law) fa cdv A outer sh H E).A (cxD P w K mg base ["script", "k", "box", "rows", "other", "value", "size", "table", "x", "y", "far", "one", "more", "row"] "law" (defScope s_law) fa cdv A outer sh H E).env (cxD P w K mg base ["script", "k", "box", "rows", "other", "value", "size", "table", "x", "y", "far", "one", "more", "row"] "law" (defScope s_law) fa cdv A outer sh H E).xe := po_cxD
  have S := S_law
  exact (SSs.cons (ms1 := [.fz, .un, .un, .un, .un, .un, .un, .un, .un, .un, .un, .un, .un, .un]) (SS.for_ (ms1 := [.fz, .fz, .un, .un, .un, .un, .un, .un, .un, .un, .un, .un, .un, .un]) (ms2 := [.fz, .un, .un, .un, .un, .un, .un, .un, .un, .un, .un, .un, .un, .un]) [.fz, .un, .un, .un, .un, .un, .un, .un, .un, .un, .un, .un, .un, .un] (SI.range1 (SA.cons (SE.callB (vMax rfl) G.b_max (by rfl) (SA.cons SE.int (SA.cons (SE.callB (vMin rfl) G.b_min (by rfl) (SA.cons SE.int (SA.cons (SE.callB vLen G.b_len (by rfl) (SA.cons (SE.var 0) SA.nil)) SA.nil))) SA.nil))) SA.nil) G.b_range) (SG.name 1 S.nd)
 (SSs.cons (ms1 := [.fz, .fz, .ow, .un, .un, .un, .un, .un, .un, .un, .un, .un, .un, .un]) (SS.set (md := .ow) 2 (SE.call (d__law_box.at hr (by decide)) tk (SAr.cons (SE.call (d__law_cell.at hr (by decide)) tk (SAr.cons (SE.var 0) (SAr.cons (SE.var 1) SAr.nil))) SAr.nil)) S.nd)
 (SSs.cons (ms1 := [.fz, .fz, .ow, .fz, .fz, .un, .un, .un, .un, .un, .un, .un, .un, .un]) (SS.par (md1 := .fz) (md2 := .fz) 3 4 (SE.call (d__law_tuple.at hr (by decide)) tk (SAr.cons (SE.call (d__law_drawn.at hr (by decide)) tk (SAr.own 2 (SAr.cons (SE.call (d__law_size.at hr (by decide)) tk (SAr.own 2 SAr.nil)) SAr.nil))) SAr.nil)) (SE.call (d__law_tuple.at hr (by decide)) tk (SAr.cons (SE.call (d__law_drawn.at hr (by decide)) tk (SAr.own 2 (SAr.cons (SE.call (d__law_size.at hr (by decide)) tk (SAr.own 2 SAr.nil)) SAr.nil))) SAr.nil)) rfl S.nd)
 (SSs.cons (ms1 := [.fz, .fz, .ow, .fz, .fz, .un, .un, .un, .un, .un, .un, .un, .un, .un]) (SS.for_ (ms1 := [.fz, .fz, .ow, .fz, .fz, .fz, .un, .un, .un, .un, .un, .un, .un, .un]) (ms2 := [.fz, .fz, .ow, .fz, .fz, .un, .un, .un, .un, .un, .un, .un, .un, .un]) [.fz, .fz, .ow, .fz, .fz, .un, .un, .un, .un, .un, .un, .un, .un, .un] (SI.any (SE.bin vAdd (SE.frozen (SE.lst (SA.cons (SE.var 3) (SA.cons (SE.var 4) SA.nil)))) (SE.call (d__law_spoilt.at hr (by decide)) tk (SAr.own 2 (SAr.cons (SE.var 3) SAr.nil))))) (SG.name 5 S.nd)
 (SSs.cons (ms1 := [.fz, .fz, .ow, .fz, .fz, .fz, .un, .un, .un, .un, .un, .un, .un, .un]) (SS.ite (ms2 := [.fz, .fz, .ow, .fz, .fz, .fz, .un, .un, .un, .un, .un, .un, .un, .un]) (ST.not (ST.tru (SE.call (d__law_value_right.at hr (by decide)) tk (SAr.own 2 (SAr.cons (SE.var 5) SAr.nil)))))
 (SSs.one (SS.ret (ms2 := [.fz, .fz, .ow, .fz, .fz, .fz, .un, .un, .un, .un, .un, .un, .un, .un]) SE.bl))
 SSs.nil)
 (SSs.weak (ms3 := [.fz, .fz, .ow, .fz, .fz, .un, .un, .un, .un, .un, .un, .un, .un, .un]) (SSs.nil (ms := [.fz, .fz, .ow, .fz, .fz, .fz, .un, .un, .un, .un, .un, .un, .un, .un])))) po rfl)
 (SSs.cons (ms1 := [.fz, .fz, .ow, .fz, .fz, .un, .fz, .un, .un, .un, .un, .un, .un, .un]) (SS.set (md := .fz) 6 (SE.bin vAdd SE.int (SE.call (d__law_take.at hr (by decide)) tk (SAr.own 2 (SAr.cons SE.int SAr.nil)))) S.nd)
 (SSs.cons (ms1 := [.fz, .fz, .ow, .fz, .fz, .un, .fz, .ow2, .un, .un, .un, .un, .un, .un]) (SS.setLc (own := [("x", 8)]) (ms1 := [.fz, .fz, .ow, .fz, .fz, .un, .fz, .un, .fz, .un, .un, .un, .un, .un]) 7 rfl S.nd (SI.range1 (SA.cons (SE.var 6) SA.nil) G.b_range) (bk (by first | decide +kernel | rfl)) (fun sh hp C cl fp => (SG.name 8 S.nd)) (fun sh hp C cl fp => STs.nil) (fun sh hp C cl fp => (SE.bin vRepL (SE.frozen (SE.lst (SA.cons SE.int SA.nil))) (SE.var 6))))
 (SSs.cons (ms1 := [.fz, .fz, .ow, .fz, .fz, .un, .fz, .ow2, .un, .un, .un, .un, .un, .un]) (SS.for_ (ms1 := [.fz, .fz, .ow, .fz, .fz, .un, .fz, .ow2, .fz, .fz, .un, .un, .un, .un]) (ms2 := [.fz, .fz, .ow, .fz, .fz, .un, .fz, .ow2, .un, .un, .un, .un, .un, .un]) [.fz, .fz, .ow, .fz, .fz, .un, .fz, .ow2, .un, .un, .un, .un, .un, .un] (SI.any (SE.call (d__law_pairs_in.at hr (by decide)) tk (SAr.cons (SE.var 6) SAr.nil))) (SG.seq rfl (SGs.cons (SG.name 8 S.nd) (SGs.cons (SG.name 9 S.nd) SGs.nil)) (gs_lenS (gs_lenS gs_len0)))
 (SSs.cons (ms1 := [.fz, .fz, .ow, .fz, .fz, .un, .fz, .ow2, .fz, .fz, .fz, .un, .un, .un]) (SS.set (md := .fz) 10 (SE.bin vAdd SE.int (SE.call (d__law_take.at hr (by decide)) tk (SAr.own 2 (SAr.cons (SE.ix (SE.frozen (SE.lst (SA.cons SE.int (SA.cons SE.int (SA.cons SE.int SA.nil))))) (SE.call (d__law_take.at hr (by decide)) tk (SAr.own 2 (SAr.cons SE.int SAr.nil)))) SAr.nil)))) S.nd)
 (SSs.cons (ms1 := [.fz, .fz, .ow, .fz, .fz, .un, .fz, .ow2, .fz, .fz, .fz, .un, .un, .un]) (SS.asg (SE.tup (SA.cons (SE.var 10) (SA.cons (SE.var 10) SA.nil))) (SG.seq rfl (SGs.cons (SG.subOwn2 7 (SP.var 8) (SP.var 9)) (SGs.cons (SG.subOwn2 7 (SP.var 9) (SP.var 8)) SGs.nil)) (gs_lenS (gs_lenS gs_len0))))
 (SSs.weak (ms3 := [.fz, .fz, .ow, .fz, .fz, .un, .fz, .ow2, .un, .un, .un, .un, .un, .un]) (SSs.nil (ms := [.fz, .fz, .ow, .fz, .fz, .un, .fz, .ow2, .fz, .fz, .fz, .un, .un, .un]))))) po rfl)
 (SSs.freeze (md := .ow2) 7 (SSs.cons (ms1 := [.fz, .fz, .ow, .fz, .fz, .un, .fz, .fz, .un, .un, .un, .un, .un, .un]) (SS.ite (ms2 := [.fz, .fz, .ow, .fz, .fz, .un, .fz, .fz, .un, .un, .un, .un, .un, .un]) (ST.not (ST.tru (SE.call (d__law_value_right.at hr (by decide)) tk (SAr.own 2 (SAr.cons (SE.call (d__law_tuple.at hr (by decide)) tk (SAr.cons (SE.var 7) SAr.nil)) SAr.nil)))))
 (SSs.one (SS.ret (ms2 := [.fz, .fz, .ow, .fz, .fz, .un, .fz, .fz, .un, .un, .un, .un, .un, .un]) SE.bl))
 SSs.nil)
 (SSs.cons (ms1 := [.fz, .fz, .ow, .fz, .fz, .un, .fz, .fz, .un, .un, .un, .fz, .fz, .un]) (SS.par (md1 := .fz) (md2 := .fz) 11 12 (SE.makeK (ks := []) (v_Space_1_.at hr (by decide)) tk (SA.cons (SE.var 3) SA.nil) SK.nil (lnC lnN) lnN) (SE.makeK (ks := []) (v_Space_1_.at hr (by decide)) tk (SA.cons (SE.var 4) SA.nil) SK.nil (lnC lnN) lnN) rfl S.nd)
 (SSs.cons (ms1 := [.fz, .fz, .ow, .fz, .fz, .un, .fz, .fz, .un, .un, .un, .fz, .fz, .un]) (SS.ite (ms2 := [.fz, .fz, .ow, .fz, .fz, .un, .fz, .fz, .un, .un, .un, .fz, .fz, .un]) (SW.st (SW.or (ST.cmp (vNe (room_u64 hr)) (SE.cmp (vOwnEq (q_Space.at hr (by decide))) (SE.var 11) (SE.var 12)) (SE.cmp (vEq (room_u64 hr)) (SE.var 3) (SE.var 4))) (SW.or1 (ST.cmp (vOwnNe (q_Space.at hr (by decide))) (SE.var 11) (SE.makeK (ks := []) (v_Space_1_.at hr (by decide)) tk (SA.cons (SE.call (d__law_tuple.at hr (by decide)) tk (SAr.cons (SE.frozen (SE.lc (own := [("row", 13)]) (ms1 := [.fz, .fz, .ow, .fz, .fz, .un, .fz, .fz, .un, .un, .un, .fz, .fz, .fz]) rfl S.nd (SI.any (SE.var 3)) (bk (by first | decide +kernel | rfl)) (fun sh hp C cl fp => (SG.name 13 S.nd)) (fun sh hp C cl fp => STs.nil) (fun sh hp C cl fp => (SE.frozen (SE.callT vList G.b_list (by rfl) (SA.cons (SE.var 13) SA.nil)))))) SAr.nil)) SA.nil) SK.nil (lnC lnN) lnN)))))
 (SSs.one (SS.ret (ms2 := [.fz, .fz, .ow, .fz, .fz, .un, .fz, .fz, .un, .un, .un, .fz, .fz, .un]) SE.bl))
 SSs.nil)
 (SSs.weak (ms3 := [.fz, .un, .un, .un, .un, .un, .un, .un, .un, .un, .un, .un, .un, .un]) (SSs.nil (ms := [.fz, .fz, .ow, .fz, .fz, .un, .fz, .fz, .un, .un, .un, .fz, .fz, .un]))))))))))))) po rfl)
 (SSs.one (SS.ret (ms2 := [.fz, .un, .un, .un, .un, .un, .un, .un, .un, .un, .un, .un, .un, .un]) SE.bl)))
theorem k_law (G : Gg K mg) (q_Space : Deq P w K mg base "Space" 1 F_Space___eq__) (d__law_box : Df P w K mg base "_law_box" 1 [.fz] .ow F__law_box) (d__law_cell : Df P w K mg base "_law_cell" 1 [.fz, .fz] .fz F__law_cell) (d__law_drawn : Df P w K mg base "_law_drawn" 4 [.ow, .fz] .fz F__law_drawn) (d__law_pairs_in : Df P w K mg base "_law_pairs_in" 1 [.fz] .fz F__law_pairs_in) (d__law_size : Df P w K mg base "_law_size" 2 [.ow] .fz F__law_size) (d__law_spoilt : Df P w K mg base "_law_spoilt" 3 [.ow, .fz] .fz F__law_spoilt) (d__law_take : Df P w K mg base "_law_take" 1 [.ow, .fz] .fz F__law_take) (d__law_tuple : Df P w K mg base "_law_tuple" 1 [.fz] .fz F__law_tuple) (d__law_value_right : Df P w K mg base "_law_value_right" 14 [.ow, .fz] .fz F__law_value_right) (v_Space_1_ : Dm P w K mg base "Space" 5 1 1 [] [0] F_Space___init__) (h : ∃ fd, FunD K "law" "law" (defArgs s_law) (defBody s_law) (defScope s_law) [] [] (He.ga K "law") fd) : Df P w K mg base "law" 15 [.fz] .fz F_law := by
  obtain ⟨fd, F⟩ := h
  exact ⟨_, fd, ["script"], Cq.fn_ok F S_law rfl (by rfl) (by decide) (fun cdv A outer sh H E hr => t_law G q_Space d__law_box d__law_cell d__law_drawn d__law_pairs_in d__law_size d__law_spoilt d__law_take d__law_tuple d__law_value_right v_Space_1_ hr), G.k_law, F.kp, (FunD.bindsN F fun _ _ _ _ _ _ us hl => match us, hl with | [_], _ => rfl)⟩
end
end CqL

/-! text Pa -/
set_option linter.all false
set_option maxRecDepth 100000
/-! plain law: the box -/
namespace CqL
open PySem PySem.Spec L2 Cq
/-- a box: what is left of the number, whether it was great, its rest, how often the rest was asked -/
def Bx (d : Int) (p : PV) : Prop := ∃ a b c e, p = .lst [.int a, .bl b, .int c, .int e] ∧ 0 ≤ a ∧ 0 ≤ c ∧ c < 2147483629 ∧ 0 ≤ e ∧ e ≤ d
theorem Bx.mono {d d2 : Int} {p : PV} (h : Bx d p) (k : d ≤ d2) : Bx d2 p := by
  obtain ⟨a, b, c, e, h1, h2, h3, h4, h5, h6⟩ := h
  exact ⟨a, b, c, e, h1, h2, h3, h4, h5, by omega⟩
theorem take_great {a c e m : Int} (h1 : 0 < a) (h2 : 0 < m) (h3 : m < 1073741824) :
    F__law_take [.lst [.int a, .bl true, .int c, .int e], .int m] = .ok (.int (a % m), [.lst [.int (a / m), .bl true, .int c, .int e], .non]) := by
  simp [F__law_take, mDef, m__law_take, m__law_take_th1, mSeq, mIf, mViewB, mAnd, mTru, mBin, mVar, ofO, gIx, atI, ixN, mC, tru, mOfB, mIsB, isBl, oGt, intOp, R.nx, seqO, h1, h2, mSet, mView, mArgs, mCons, mNil, gInt, nolst, oMod, intOpC,
    mAsg, gSetOwn, pC, oDiv, cDiv, h3, mRet, clr]
theorem take_small {a c e m : Int} {b : Bool} (h : b = false ∨ ¬ 0 < a) (h2 : 0 < m) (hc : 0 ≤ c) (hc2 : c < 2147483629) (he : 0 ≤ e) (he2 : e < 1000000000) :
    F__law_take [.lst [.int a, .bl b, .int c, .int e], .int m] = .ok (.int (((((c + 15487517 * (e + 1) + 170362694) ^ 5 % 2147483647) * 48271 + 104729 * (e + 1)) ^ 3 % 2147483587 / 64) % m), [.lst [.int a, .bl b, .int c, .int (e + 1)], .non]) := by
  have q1 : (c + 15487517 * (e + 1) + 170362694).natAbs < 18446744073709551616 := by omega
  have q2 : ∀ x : Int, (x % 2147483647 * 48271 + 104729 * (e + 1)).natAbs < 18446744073709551616 := fun x => by omega
  have q3 : ((c + 15487517 * (e + 1) + 170362694) ^ 5 % 2147483647) < 18446744073709551616 ∧ -18446744073709551616 < ((c + 15487517 * (e + 1) + 170362694) ^ 5 % 2147483647) := by omega
  cases b with
  | false => simp [F__law_take, mDef, m__law_take, m__law_take_th1, mSeq, mIf, mViewB, mAnd, mTru, mBin, mVar, ofO, gIx, atI, ixN, mC, tru, mOfB, mIsB, isBl, oGt, intOp, R.nx, seqO, h2, mSet, mView, mArgs, mCons, mNil, gInt, nolst, oMod, intOpC,
      mAsg, gSetOwn, pC, oDiv, cDiv, mRet, clr, mSkip, gAdd, orO, gMul, cMul, oPow, cPow, q1, q2, q3]
  | true =>
    have ha : ¬ 0 < a := by simpa using h
    simp [F__law_take, mDef, m__law_take, m__law_take_th1, mSeq, mIf, mViewB, mAnd, mTru, mBin, mVar, ofO, gIx, atI, ixN, mC, tru, mOfB, mIsB, isBl, oGt, intOp, R.nx, seqO, ha, h2, mSet, mView, mArgs, mCons, mNil, gInt, nolst, oMod, intOpC,
      mAsg, gSetOwn, pC, oDiv, cDiv, mRet, clr, mSkip, gAdd, orO, gMul, cMul, oPow, cPow, q1, q2, q3]
theorem take_ok {d : Int} {box : PV} {m : Int} (h : Bx d box) (h2 : 0 < m) (h3 : m < 1073741824) (hd : d < 1000000000) :
    ∃ r box', F__law_take [box, .int m] = .ok (.int r, [box', .non]) ∧ 0 ≤ r ∧ r < m ∧ Bx (d + 1) box' := by
  obtain ⟨a, b, c, e, rfl, ha, hc, hc2, he, he2⟩ := h
  by_cases k : b = false ∨ ¬ 0 < a
  · exact ⟨_, _, take_small k h2 hc hc2 he (by omega), Int.emod_nonneg _ (by omega), Int.emod_lt_of_pos _ h2, a, b, c, e + 1, rfl, ha, hc, hc2, by omega, by omega⟩
  · have k1 : b = true := by
      cases b with
      | false => exact absurd (.inl rfl) k
      | true => rfl
    have k2 : 0 < a := by
      rcases Int.lt_or_le 0 a with z | z
      · exact z
      · exact absurd (.inr (by omega)) k
    subst k1
    exact ⟨_, _, take_great k2 h2 h3, Int.emod_nonneg _ (by omega), Int.emod_lt_of_pos _ h2, a / m, true, c, e, rfl, Int.ediv_nonneg ha (by omega), hc, hc2, he, by omega⟩
end CqL

/-! text Pb -/
set_option linter.all false
set_option maxRecDepth 100000
/-! plain law: lists of numbers, a mixed order -/
namespace CqL
open PySem PySem.Spec L2 Cq
abbrev iL (l : List Int) : List PV := l.map PV.int
theorem toDs_ints : ∀ l : List Int, toDs (iL l) = some (l.map PyData.int)
  | [] => rfl
  | i :: l => by
    show (match toD (.int i), toDs (iL l) with | some d, some ds => some (d :: ds) | _, _ => none) = _
    rw [toDs_ints l]
    rfl
theorem lay_ints : ∀ l : List Int, PyData.canLayAll0 (l.map PyData.int) = true ∧ PyData.depthAll (l.map PyData.int) ≤ 1
  | [] => ⟨rfl, by simp [PyData.depthAll]⟩
  | i :: l => by
    obtain ⟨h1, h2⟩ := lay_ints l
    refine ⟨?_, ?_⟩
    · show (PyData.canLay0 (.int i) && PyData.canLayAll0 (l.map PyData.int)) = true
      rw [h1]; rfl
    · simp [PyData.depthAll, PyData.depth] at h2 ⊢
      omega
theorem shaped_ints (l : List Int) : SeqAt.shaped (.list (l.map PyData.int)) = true := by
  obtain ⟨h1, h2⟩ := lay_ints l
  unfold SeqAt.shaped
  rw [Bool.and_eq_true]
  refine ⟨h1, decide_eq_true ?_⟩
  simp only [PyData.depth]
  omega
theorem ne_nil (l : List Int) : gEq true (.lst (iL l)) (.lst []) = some (.bl (!l.isEmpty)) := by
  have e1 : toD (.lst (iL l)) = some (.list (l.map PyData.int)) := by
    show (toDs (iL l)).map PyData.list = _
    rw [toDs_ints]; rfl
  have e2 : toD (.lst []) = some (.list []) := rfl
  have s2 : SeqAt.shaped (.list []) = true := shaped_ints []
  unfold gEq orO
  show (match seq1 true (.lst (iL l)) (.lst []) with | some c => some c | none => deq true (.lst (iL l)) (.lst [])) = _
  have e3 : seq1 true (.lst (iL l)) (.lst []) = none := rfl
  rw [e3]
  dsimp only
  unfold deq
  rw [e1, e2]
  dsimp only
  rw [shaped_ints, s2]
  cases l with
  | nil => rfl
  | cons i l => rfl
theorem ixN_of {n : Nat} {i : Int} (h : 0 ≤ i) (h2 : i < n) : ixN n i = some i.toNat := by
  unfold ixN
  rw [if_pos h, if_pos h2]
theorem erase_map : ∀ (l : List Int) (j : Nat), (iL l).eraseIdx j = iL (l.eraseIdx j)
  | [], j => rfl
  | x :: l, 0 => rfl
  | x :: l, j + 1 => by
    show PV.int x :: (iL l).eraseIdx j = PV.int x :: iL (l.eraseIdx j)
    rw [erase_map l j]
theorem mixed_step {d : Int} {box : PV} {m : Int} {left found : List Int} (hb : Bx d box) (hd : d < 1000000000) (hl : left ≠ []) (h1 : left.length ≤ 1000) (h2 : found.length ≤ 1000) :
    ∃ j box', j < left.length ∧ Bx (d + 1) box' ∧ m__law_mixed_body1 [box, .int m, .lst (iL left), .lst (iL found)] = .ok (.nx [box', .int m, .lst (iL (left.eraseIdx j)), .lst (iL (found ++ [left.getD j 0]))]) := by
  have hp : 0 < left.length := by cases left with | nil => exact absurd rfl hl | cons => simp
  obtain ⟨r, box', e, r0, r1, hb'⟩ := take_ok (m := (left.length : Nat)) hb (by omega) (by omega) hd
  have hr : r.toNat < left.length := by omega
  refine ⟨r.toNat, box', hr, hb', ?_⟩
  have q1 : (iL left)[r.toNat]? = some (.int (left.getD r.toNat 0)) := by
    rw [List.getElem?_map, List.getElem?_eq_getElem hr, List.getD_eq_getElem?_getD, List.getElem?_eq_getElem hr]
    rfl
  have q2 : ixN (iL left).length r = some r.toNat := ixN_of r0 (by rw [List.length_map]; omega)
  have q3 : (iL left).length ≤ sizeLine := by rw [List.length_map, sizeLine_eq]; omega
  have q4 : (iL found).length < sizeLine := by rw [List.length_map, sizeLine_eq]; omega
  have q5 : (iL left).eraseIdx r.toNat = iL (left.eraseIdx r.toNat) := erase_map _ _
  unfold m__law_mixed_body1
  simp only [mDrop, mPush, mPopAt, mCall, mOwnA, mCons, mNil, mView, mArgs, mVar, ofO, gLen, R.nx, nolst, fillA, backA, R.bind, List.getElem?_cons_succ, List.getElem?_cons_zero, List.getD, Option.getD, if_true, List.length_map]
  rw [e]
  simp only [R.bind, backA, List.set_cons_zero, List.set_cons_succ, List.getElem?_cons_succ, List.getElem?_cons_zero]
  rw [List.length_map] at q2 q3 q4
  simp [q1, q2, q3, q4, q5]
  cases left[r.toNat]? <;> rfl
theorem perm_take : ∀ {l : List Int} {j : Nat}, j < l.length → (l.eraseIdx j ++ [l.getD j 0]).Perm l
  | [], j, h => absurd h (Nat.not_lt_zero _)
  | x :: l, 0, h => by
    show (l ++ [x]).Perm (x :: l)
    exact List.perm_append_comm
  | x :: l, j + 1, h => by
    show (x :: (l.eraseIdx j ++ [(x :: l).getD (j + 1) 0])).Perm (x :: l)
    exact (perm_take (l := l) (j := j) (by simpa using h)).cons x
/-- 0 .. m - 1 -/
def upto (m : Nat) : List Int := (List.range m).map fun (k : Nat) => (k : Int)
theorem rangeP_upto (m : Nat) : rangeP 0 m = iL (upto m) := by
  unfold rangeP upto iL
  rw [List.map_map]
  apply List.map_congr_left
  intro k _
  show PV.int (0 + (k : Int)) = PV.int (k : Int)
  rw [Int.zero_add]
theorem mixed_ok {d : Int} {box : PV} {m : Nat} (hb : Bx d box) (hm : m ≤ 900) (hd : d + m < 1000000000) : ∃ l box', F__law_mixed [box, .int m] = .ok (.lst (iL l), [box', .non]) ∧ l.Perm (upto m) ∧ Bx (d + m) box' := by
  have key := fun (f k : Nat) (env : List PV) => whileM_inv (f := f) (k := k) (env := env) (ML := [.ow, .fz, .ow, .ow]) (c := mViewB (mIsB (mBin (gEq true) (mVar 2) (mArgs gLstD mNil)))) (body := m__law_mixed_body1)
    (Inv := fun k e => ∃ bx left found, e = [bx, .int m, .lst (iL left), .lst (iL found)] ∧ left.length = k ∧ (left ++ found).Perm (upto m) ∧ Bx (d + m - k) bx)
    (Fin := fun e => ∃ bx found, e = [bx, .int m, .lst [], .lst (iL found)] ∧ found.Perm (upto m) ∧ Bx (d + m) bx) (fun k e h => by
      obtain ⟨bx, left, found, rfl, hk, hp, hbx⟩ := h
      have hlen := hp.length_eq
      rw [List.length_append] at hlen
      have hu : (upto m).length = m := by simp [upto]
      refine ⟨!left.isEmpty, [bx, .int m, .lst (iL left), .lst (iL found)], ?_, fun hf => ?_, fun hf => ?_⟩
      · have hz : (0 : Nat) ≤ sizeLine := Nat.zero_le _
        simp [mViewB, mIsB, mBin, mVar, mArgs, mNil, gLstD, ofO, R.nx, ne_nil, mOfB, isBl]
      · have e0 : left = [] := by cases left with | nil => rfl | cons => simp at hf
        subst e0
        refine ⟨bx, found, rfl, by simpa using hp, hbx.mono (by omega)⟩
      · have hne : left ≠ [] := fun z => by subst z; simp at hf
        have hpos : 0 < left.length := by cases left with | nil => exact absurd rfl hne | cons => simp
        obtain ⟨j, bx', hj, hb', e⟩ := mixed_step (m := m) hbx (by omega) hne (by omega) (found := found) (by omega)
        refine ⟨k - 1, _, by omega, e, bx', left.eraseIdx j, found ++ [left.getD j 0], rfl, by rw [List.length_eraseIdx]; simp [hj]; omega, ?_, hb'.mono (by omega)⟩
        have p1 := perm_take hj
        have p2 : (left.eraseIdx j ++ (found ++ [left.getD j 0])).Perm (left ++ found) := by
          have : (left.eraseIdx j ++ (found ++ [left.getD j 0])).Perm ((left.eraseIdx j ++ [left.getD j 0]) ++ found) := by
            rw [List.append_assoc]
            exact List.Perm.append_left _ List.perm_append_comm
          exact this.trans (p1.append_right found)
        exact p2.trans hp)
  obtain ⟨e, h1, bx, found, rfl, h2, h3⟩ := key 4096 m [box, .int m, .lst (iL (upto m)), .lst (iL [])] (by omega) ⟨box, upto m, [], rfl, by simp [upto], by simp, hb.mono (by omega)⟩
  refine ⟨found, bx, ?_, h2, h3⟩
  have r1 : Nat.ble (m : Int).natAbs 16777216 = true := Nat.ble_eq_true_of_le (by omega)
  have s1 : mPar 2 3 (mUn (fun p => gLr1 [p]) (mVar 1)) (mArgs gLstD mNil) [box, .int m, .non, .non] = .ok (.nx [box, .int m, .lst (iL (upto m)), .lst (iL [])]) := by
    have r2 : gLr1 [.int (m : Int)] = some (.lst (iL (upto m))) := by
      show (if _ then some (PV.lst (rangeP 0 (m : Int).toNat)) else none) = _
      rw [if_pos r1, Int.toNat_natCast, rangeP_upto]
    simp [mPar, mUn, mVar, ofO, r2, mArgs, mNil, gLstD]
  have s2 : mWhile [.ow, .fz, .ow, .ow] (fun _ => 4096) (mViewB (mIsB (mBin (gEq true) (mVar 2) (mArgs gLstD mNil)))) m__law_mixed_body1 [box, .int m, .lst (iL (upto m)), .lst (iL [])] = .ok (.nx [bx, .int m, .lst [], .lst (iL found)]) := h1
  unfold F__law_mixed mDef m__law_mixed mSeq
  show (((mPar 2 3 (mUn (fun p => gLr1 [p]) (mVar 1)) (mArgs gLstD mNil) [box, .int m, .non, .non]).bind _).bind _) = _
  rw [s1]
  show ((((mWhile _ _ _ _ _).bind _).bind _)) = _
  rw [s2]
  rfl
end CqL

/-! text Pc -/
set_option linter.all false
set_option maxRecDepth 100000
/-! plain law: pairs; closed rows -/
namespace CqL
open PySem PySem.Spec L2 Cq
abbrev T2 (x y : Int) : PV := .tup [.int x, .int y]
/-- the pairs x < y < n -/
def pairs (n : Nat) : List (Int × Int) := (List.range n).flatMap fun (x : Nat) => ((List.range n).filter fun (y : Nat) => x < y).map fun (y : Nat) => ((x : Int), (y : Int))
theorem rgOk_small {i j : Int} (h1 : -1000000 ≤ i) (h2 : i ≤ 1000000) (h3 : -1000000 ≤ j) (h4 : j ≤ 1000000) : rgOk i j = true := by
  unfold rgOk
  rw [Bool.and_eq_true]
  exact ⟨Nat.ble_eq_true_of_le (by omega), Nat.ble_eq_true_of_le (by omega)⟩
/-- a part of a range, from lo -/
def from_ (lo : Int) (n : Nat) : List Int := (List.range n).map fun (k : Nat) => lo + (k : Int)
theorem rangeP_from (lo : Int) (n : Nat) : rangeP lo n = iL (from_ lo n) := by
  unfold rangeP from_ iL
  rw [List.map_map]
  rfl
/-- a comprehension over numbers whose element is told -/
theorem lc_map {vs : List Nat} {g : PV → List PV → Option (List PV)} {m : MV} {f : PV → PV} {env : List PV} {ps : List PV} (hlen : ps.length ≤ 10000) (h : ∀ p ∈ ps, ∃ e1 e2, g p env = some e1 ∧ m e1 = .ok (f p, e2) ∧ wipeE vs e2 = env) :
    lcM vs g mYes (kElt m) ps [] env = .ok (ps.map f, env) := by
  have key := lcM_inv (vs := vs) (g := g) (t := mYes) (k := kElt m) (Inv := fun n a e => a = (ps.take n).map f ∧ e = env) (ps := ps) (acc := []) (env := env) (n := 0) ⟨by simp, rfl⟩ fun i p a e hp hi => by
    obtain ⟨rfl, rfl⟩ := hi
    obtain ⟨e1, e2, h1, h2, h3⟩ := h p (List.mem_of_getElem? hp)
    have hi : i < ps.length := (List.getElem?_eq_some_iff.mp hp).1
    refine ⟨e1, true, e1, h1, rfl, fun _ => ⟨_, e2, by unfold kElt; rw [h2]; show (if _ then _ else _) = _; rw [if_pos (by rw [List.length_map, List.length_take, sizeLine_eq]; omega)], ?_, h3⟩, fun z => by cases z⟩
    rw [Nat.zero_add, List.take_add_one, hp]
    simp
  obtain ⟨a, e, h1, rfl, rfl⟩ := key
  rw [h1]
  simp
/-! ### square tables of numbers -/
def row (n : Nat) (h : Nat → Int) : List Int := (List.range n).map h
def enc (n : Nat) (f : Nat → Nat → Int) : List PV := (List.range n).map fun i => PV.lst (iL (row n (f i)))
theorem enc_len {n : Nat} {f : Nat → Nat → Int} : (enc n f).length = n := by simp [enc]
theorem row_len {n : Nat} {h : Nat → Int} : (row n h).length = n := by simp [row]
theorem enc_get {n i : Nat} {f : Nat → Nat → Int} (h : i < n) : (enc n f)[i]? = some (.lst (iL (row n (f i)))) := by
  unfold enc
  rw [List.getElem?_map, List.getElem?_range h]
  rfl
theorem row_get {n j : Nat} {g : Nat → Int} (h : j < n) : (iL (row n g))[j]? = some (.int (g j)) := by
  unfold iL row
  rw [List.getElem?_map, List.getElem?_map, List.getElem?_range h]
  rfl
def put2 (f : Nat → Nat → Int) (i j : Nat) (v : Int) : Nat → Nat → Int := fun a b => if a = i ∧ b = j then v else f a b
theorem enc_put {n i j : Nat} {f : Nat → Nat → Int} {v : Int} (hi : i < n) (hj : j < n) : (enc n f).set i (.lst ((iL (row n (f i))).set j (.int v))) = enc n (put2 f i j v) := by
  apply List.ext_getElem?
  intro a
  by_cases ha : a < n
  · rw [enc_get ha]
    by_cases e : i = a
    · subst e
      rw [List.getElem?_set_self (by rw [enc_len]; exact hi)]
      congr 2
      apply List.ext_getElem?
      intro b
      by_cases hb : b < n
      · rw [row_get hb]
        by_cases e2 : j = b
        · subst e2
          rw [List.getElem?_set_self (by simp [row_len, hj])]
          simp [put2]
        · rw [List.getElem?_set_ne e2, row_get hb]
          simp [put2, Ne.symm e2]
      · rw [List.getElem?_eq_none (by simp [row_len]; omega), List.getElem?_eq_none (by simp [row_len]; omega)]
    · rw [List.getElem?_set_ne e, enc_get ha]
      congr 3
      unfold row
      apply List.map_congr_left
      intro b _
      simp [put2, Ne.symm e]
  · rw [List.getElem?_eq_none (by simp [enc_len]; omega), List.getElem?_eq_none (by simp [enc_len]; omega)]
theorem enc_congr {n : Nat} {f g : Nat → Nat → Int} (h : ∀ i j, i < n → j < n → f i j = g i j) : enc n f = enc n g := by
  unfold enc
  apply List.map_congr_left
  intro i hi
  congr 2
  unfold row
  apply List.map_congr_left
  intro j hj
  exact h i j (List.mem_range.mp hi) (List.mem_range.mp hj)
theorem atI_nat {α : Type} {l : List α} {i : Nat} (h : i < l.length) : atI l (i : Int) = l[i]? := by
  unfold atI
  rw [ixN_of (by omega) (by omega)]
  simp
theorem ix_enc {n i : Nat} {f : Nat → Nat → Int} (h : i < n) : gIx (.lst (enc n f)) (.int (i : Int)) = some (.lst (iL (row n (f i)))) := by
  show atI (enc n f) (i : Int) = _
  rw [atI_nat (by rw [enc_len]; exact h), enc_get h]
theorem ix_row {n j : Nat} {g : Nat → Int} (h : j < n) : gIx (.lst (iL (row n g))) (.int (j : Int)) = some (.int (g j)) := by
  show atI (iL (row n g)) (j : Int) = _
  rw [atI_nat (by simp [row_len, h]), row_get h]
end CqL

/-! text Pd -/
set_option linter.all false
set_option maxRecDepth 100000
/-! plain law: closed rows -/
namespace CqL
open PySem PySem.Spec L2 Cq
theorem set2 {n a b i : Nat} {f : Nat → Nat → Int} {v : Int} {m1 m2 : MP} {env : List PV} (he : env[i]? = some (.lst (enc n f))) (h1 : m1 env = some (.int (a : Int))) (h2 : m2 env = some (.int (b : Int))) (ha : a < n) (hb : b < n) :
    gSetOwn2 i m1 m2 (.int v) env = some (env.set i (.lst (enc n (put2 f a b v)))) := by
  unfold gSetOwn2
  rw [he, h1, h2]
  have e1 : ixN (enc n f).length (a : Int) = some a := by rw [ixN_of (by omega) (by rw [enc_len]; omega)]; simp
  have e2 : ixN (iL (row n (f a))).length (b : Int) = some b := by rw [ixN_of (by omega) (by simp [row_len]; omega)]; simp
  dsimp only
  rw [e1]
  dsimp only
  rw [enc_get ha]
  dsimp only
  rw [e2]
  dsimp only
  rw [enc_put ha hb]
def mn (x y : Int) : Int := if y < x then y else x
theorem closed_step {n k i j : Nat} {f : Nat → Nat → Int} {r x : PV} (hk : k < n) (hi : i < n) (hj : j < n) :
    m__law_closed_body1 [r, .int n, .lst (enc n f), .int k, .int i, .int j, x] = .ok (.nx [r, .int n, .lst (enc n (put2 f i j (mn (f i j) (f i k + f k j)))), .int k, .int i, .non, .non]) := by
  have g1 : ∀ {a b : Nat}, a < n → b < n → ∀ {e : List PV}, (mBin gIx (mBin gIx (fun e => .ok (.lst (enc n f), e)) (fun e => .ok (.int (a : Int), e))) (fun e => .ok (.int (b : Int), e))) e = .ok (.int (f a b), e) := fun {a b} ha hb {e} => by
    simp [mBin, ofO, ix_enc ha, ix_row hb]
  have s : (mView (mArgs gMin (mCons (mBin gIx (mBin gIx (mVar 2) (mVar 4)) (mVar 5)) (mCons (mBin gAdd (mBin gIx (mBin gIx (mVar 2) (mVar 4)) (mVar 3)) (mBin gIx (mBin gIx (mVar 2) (mVar 3)) (mVar 5))) mNil)))) [r, .int n, .lst (enc n f), .int k, .int i, .int j, x]
      = .ok (.int (mn (f i j) (f i k + f k j)), [r, .int n, .lst (enc n f), .int k, .int i, .int j, x]) := by
    simp [mView, mArgs, mCons, mNil, mBin, mVar, ofO, ix_enc hi, ix_enc hk, ix_row hj, ix_row hk, gAdd, orO, intOp, gMin, orA, gMin2, R.nx, nolst, mn]
  unfold m__law_closed_body1 mSeq mAsg
  rw [s]
  have t := set2 (n := n) (a := i) (b := j) (i := 2) (f := f) (v := mn (f i j) (f i k + f k j)) (m1 := pVar 4) (m2 := pVar 5) (env := [r, .int n, .lst (enc n f), .int k, .int i, .int j, x]) rfl rfl rfl hi hj
  show ((match gSetOwn2 2 (pVar 4) (pVar 5) (.int (mn (f i j) (f i k + f k j))) [r, .int n, .lst (enc n f), .int k, .int i, .int j, x] with
    | some e => R.ok (.nx e)
    | none => .bad : R Out).bind fun o => seqO o (mWk _ mSkip)) = _
  rw [t]
  rfl
/-- one phase -/
def ph (f : Nat → Nat → Int) (k : Nat) : Nat → Nat → Int := fun i j => mn (f i j) (f i k + f k j)
/-- a phase, up to row a and place b in it -/
def part (f : Nat → Nat → Int) (k a b : Nat) : Nat → Nat → Int := fun i j => if i < a ∨ (i = a ∧ j < b) then ph f k i j else f i j
theorem ph_row {f : Nat → Nat → Int} {k : Nat} (hz : f k k = 0) (hn : ∀ i j, 0 ≤ f i j) (i j : Nat) : ph f k i k = f i k ∧ ph f k k j = f k j := by
  unfold ph mn
  constructor
  · rw [hz]; split <;> omega
  · rw [hz]; split <;> omega
theorem part_step {f : Nat → Nat → Int} {k a b : Nat} (hz : f k k = 0) (hn : ∀ i j, 0 ≤ f i j) :
    put2 (part f k a b) a b (mn (part f k a b a b) (part f k a b a k + part f k a b k b)) = part f k a (b + 1) := by
  have e1 : part f k a b a k = f a k := by
    unfold part; split
    · exact (ph_row hz hn a k).1
    · rfl
  have e2 : part f k a b k b = f k b := by
    unfold part; split
    · exact (ph_row hz hn k b).2
    · rfl
  have e3 : part f k a b a b = f a b := by
    unfold part; rw [if_neg (by omega)]
  rw [e1, e2, e3]
  funext i j
  unfold put2
  by_cases h : i = a ∧ j = b
  · obtain ⟨rfl, rfl⟩ := h
    rw [if_pos ⟨rfl, rfl⟩]
    unfold part
    rw [if_pos (by omega)]
    rfl
  · rw [if_neg h]
    unfold part
    by_cases h2 : i < a ∨ (i = a ∧ j < b)
    · rw [if_pos h2, if_pos (by omega)]
    · rw [if_neg h2, if_neg (by omega)]
theorem rg1 {n : Nat} (h : n ≤ 1000000) : gRg1 [.int (n : Int)] = some (iL (upto n)) := by
  show (if rgOk 0 (n : Int) = true then some (rangeP 0 (n : Int).toNat) else none) = _
  rw [if_pos (rgOk_small (by omega) (by omega) (by omega) (by omega)), Int.toNat_natCast, rangeP_upto]
theorem upto_get {n i : Nat} {p : PV} (h : (iL (upto n))[i]? = some p) : i < n ∧ p = .int (i : Int) := by
  unfold iL upto at h
  rw [List.getElem?_map, List.getElem?_map] at h
  by_cases hi : i < n
  · rw [List.getElem?_range hi] at h
    cases h
    exact ⟨hi, rfl⟩
  · rw [List.getElem?_eq_none (by simpa using hi)] at h
    cases h
theorem upto_len {n : Nat} : (iL (upto n)).length = n := by simp [upto]
theorem rg_env {n : Nat} {g : List PV} {e0 : PV} (h : n ≤ 1000) : (mRg gRg1 (mCons (mVar 1) mNil)) (e0 :: .int (n : Int) :: g) = .ok (iL (upto n), e0 :: .int (n : Int) :: g) := by
  have q : mCons (mVar 1) mNil (e0 :: .int (n : Int) :: g) = .ok ([.int (n : Int)], e0 :: .int (n : Int) :: g) := rfl
  simp only [mRg, q, R.bind, rg1 (show n ≤ 1000000 by omega)]
theorem row_loop {n k i : Nat} {f : Nat → Nat → Int} {r : PV} (hk : k < n) (hi : i < n) (hz : f k k = 0) (hp : ∀ i j, 0 ≤ f i j) :
    forM [.fz, .fz, .ow2, .fz, .fz, .un, .un] (gN 5) m__law_closed_body1 (iL (upto n)) [r, .int n, .lst (enc n (part f k i 0)), .int k, .int i, .non, .non] = .ok (.nx [r, .int n, .lst (enc n (part f k i n)), .int k, .int i, .non, .non]) := by
  have key := forM_inv (ML := [.fz, .fz, .ow2, .fz, .fz, .un, .un]) (g := gN 5) (body := m__law_closed_body1) (ps := iL (upto n)) (n := 0) (env := [r, .int n, .lst (enc n (part f k i 0)), .int k, .int i, .non, .non])
    (Inv := fun b e => e = [r, .int n, .lst (enc n (part f k i b)), .int k, .int i, .non, .non]) rfl (fun b p e hb he => by
      obtain ⟨hb1, rfl⟩ := upto_get hb
      subst he
      rw [Nat.zero_add]
      refine ⟨_, _, rfl, .inl ⟨closed_step hk hi hb1, ?_⟩⟩
      rw [part_step hz hp]
      rfl)
  obtain ⟨e, h1, rfl⟩ := key
  rw [upto_len, Nat.zero_add] at h1
  exact h1
theorem part_end {n k i : Nat} {f : Nat → Nat → Int} : enc n (part f k i n) = enc n (part f k (i + 1) 0) := enc_congr fun a b ha hb => by
    unfold part
    by_cases h : a < i ∨ (a = i ∧ b < n)
    · rw [if_pos h, if_pos (by omega)]
    · rw [if_neg h, if_neg (by omega)]
theorem closed_row {n k i : Nat} {f : Nat → Nat → Int} {r x y : PV} (hn : n ≤ 1000) (hk : k < n) (hi : i < n) (hz : f k k = 0) (hp : ∀ i j, 0 ≤ f i j) :
    m__law_closed_body2 [r, .int n, .lst (enc n (part f k i 0)), .int k, .int i, x, y] = .ok (.nx [r, .int n, .lst (enc n (part f k (i + 1) 0)), .int k, .non, .non, .non]) := by
  have h1 := row_loop (r := r) hk hi hz hp
  rw [part_end] at h1
  have s := rg_env (n := n) (e0 := r) (g := [.lst (enc n (part f k i 0)), .int k, .int i, x, y]) hn
  have t := for_ok (ML := [.fz, .fz, .ow2, .fz, .fz, .un, .un]) (g := gN 5) (body := m__law_closed_body1) s h1
  unfold m__law_closed_body2
  rw [seq_ok t]
  rfl
theorem closed_phase {n k : Nat} {f : Nat → Nat → Int} {r x y z : PV} (hn : n ≤ 1000) (hk : k < n) (hz : f k k = 0) (hp : ∀ i j, 0 ≤ f i j) :
    m__law_closed_body3 [r, .int n, .lst (enc n f), .int k, x, y, z] = .ok (.nx [r, .int n, .lst (enc n (ph f k)), .non, .non, .non, .non]) := by
  have key := forM_inv (ML := [.fz, .fz, .ow2, .fz, .un, .un, .un]) (g := gN 4) (body := m__law_closed_body2) (ps := iL (upto n)) (n := 0) (env := [r, .int n, .lst (enc n f), .int k, .non, .non, .non])
    (Inv := fun a e => e = [r, .int n, .lst (enc n (part f k a 0)), .int k, .non, .non, .non]) (by
      have e0 : part f k 0 0 = f := by
        funext i j
        unfold part
        rw [if_neg (by omega)]
      rw [e0]) (fun a p e hb he => by
      obtain ⟨hb1, rfl⟩ := upto_get hb
      subst he
      rw [Nat.zero_add]
      exact ⟨_, _, rfl, .inl ⟨closed_row hn hk hb1 hz hp, rfl⟩⟩)
  obtain ⟨e, h1, rfl⟩ := key
  rw [upto_len, Nat.zero_add] at h1
  have e0 : enc n (part f k n 0) = enc n (ph f k) := enc_congr fun a b ha hb => by
    unfold part
    rw [if_pos (by omega)]
  rw [e0] at h1
  have s : (mRg gRg1 (mCons (mVar 1) mNil)) [r, .int n, .lst (enc n f), .int k, x, y, z] = .ok (iL (upto n), [r, .int n, .lst (enc n f), .int k, x, y, z]) := by
    simp [mRg, mCons, mVar, mNil, ofO, rg1 (show n ≤ 1000000 by omega)]
  unfold m__law_closed_body3
  rw [seq_ok (for_ok s h1)]
  rfl
/-- all phases up to k -/
def fw (f : Nat → Nat → Int) : Nat → Nat → Nat → Int
  | 0 => f
  | k + 1 => ph (fw f k) k
theorem ph_nn {f : Nat → Nat → Int} (hp : ∀ i j, 0 ≤ f i j) (k i j : Nat) : 0 ≤ ph f k i j := by
  have h1 := hp i j; have h2 := hp i k; have h3 := hp k j
  unfold ph mn; split <;> omega
theorem ph_dz {f : Nat → Nat → Int} (hp : ∀ i j, 0 ≤ f i j) (hz : ∀ i, f i i = 0) (k i : Nat) : ph f k i i = 0 := by
  have h1 := hz i; have h2 := hp i k; have h3 := hp k i
  unfold ph mn; split <;> omega
theorem fw_nn {f : Nat → Nat → Int} (hp : ∀ i j, 0 ≤ f i j) : ∀ k i j, 0 ≤ fw f k i j
  | 0 => hp
  | k + 1 => ph_nn (fw_nn hp k) k
theorem fw_dz {f : Nat → Nat → Int} (hp : ∀ i j, 0 ≤ f i j) (hz : ∀ i, f i i = 0) : ∀ k i, fw f k i i = 0
  | 0 => hz
  | k + 1 => ph_dz (fw_nn hp k) (fw_dz hp hz k) k
/-- the triangle over k: kept by later phases, made by its own -/
theorem ph_tri {f : Nat → Nat → Int} {k q : Nat} (hp : ∀ i j, 0 ≤ f i j) (h : ∀ i j, f i j ≤ f i q + f q j) (i j : Nat) : ph f k i j ≤ ph f k i q + ph f k q j := by
  have a1 := h i j; have a2 := h i k; have a3 := h k j; have a4 := hp k q; have a5 := hp q k; have a6 := hp i q; have a7 := hp q j
  unfold ph mn
  split <;> split <;> split <;> omega
theorem ph_own {f : Nat → Nat → Int} {k : Nat} (hp : ∀ i j, 0 ≤ f i j) (hz : f k k = 0) (i j : Nat) : ph f k i j ≤ ph f k i k + ph f k k j := by
  rw [(ph_row hz hp i j).1, (ph_row hz hp i j).2]
  unfold ph mn; split <;> omega
theorem fw_tri {f : Nat → Nat → Int} (hp : ∀ i j, 0 ≤ f i j) (hz : ∀ i, f i i = 0) : ∀ {k q : Nat}, q < k → ∀ i j, fw f k i j ≤ fw f k i q + fw f k q j
  | 0, q, h => absurd h (Nat.not_lt_zero _)
  | k + 1, q, h => by
    by_cases e : q = k
    · subst e
      exact ph_own (fw_nn hp _) (fw_dz hp hz _ _)
    · exact ph_tri (fw_nn hp k) (fw_tri hp hz (show q < k by omega))
theorem fw_sym {f : Nat → Nat → Int} (hs : ∀ i j, f i j = f j i) : ∀ k i j, fw f k i j = fw f k j i
  | 0 => hs
  | k + 1 => fun i j => by
    show mn (fw f k i j) (fw f k i k + fw f k k j) = mn (fw f k j i) (fw f k j k + fw f k k i)
    rw [fw_sym hs k i j, fw_sym hs k i k, fw_sym hs k k j, Int.add_comm]
theorem fw_le {f : Nat → Nat → Int} : ∀ k i j, fw f k i j ≤ f i j
  | 0 => fun _ _ => Int.le_refl _
  | k + 1 => fun i j => by
    have := fw_le (f := f) k i j
    show mn _ _ ≤ _
    unfold mn; split <;> omega
theorem fw_pos {f : Nat → Nat → Int} (h : ∀ i j, i ≠ j → 1 ≤ f i j) (hz : ∀ i, f i i = 0) : ∀ k i j, i ≠ j → 1 ≤ fw f k i j
  | 0 => h
  | k + 1 => fun i j hij => by
    have hp : ∀ i j, 0 ≤ f i j := fun i j => by
      by_cases e : i = j
      · subst e; rw [hz]; exact Int.le_refl _
      · have := h i j e; omega
    have h1 := fw_pos h hz k i j hij
    have h2 := fw_nn hp k i k; have h3 := fw_nn hp k k j
    show 1 ≤ mn _ _
    unfold mn
    split
    · by_cases e : i = k
      · have := fw_pos h hz k k j (by omega); omega
      · have := fw_pos h hz k i k e; omega
    · exact h1
end CqL

/-! text Pe -/
set_option linter.all false
set_option maxRecDepth 100000
/-! plain law: the def that closes rows -/
namespace CqL
open PySem PySem.Spec L2 Cq
theorem closed_loop {n : Nat} {f : Nat → Nat → Int} {r : PV} (hn : n ≤ 1000) (hz : ∀ i, f i i = 0) (hp : ∀ i j, 0 ≤ f i j) :
    forM [.fz, .fz, .ow2, .un, .un, .un, .un] (gN 3) m__law_closed_body3 (iL (upto n)) [r, .int n, .lst (enc n f), .non, .non, .non, .non] = .ok (.nx [r, .int n, .lst (enc n (fw f n)), .non, .non, .non, .non]) := by
  have key := forM_inv (ML := [.fz, .fz, .ow2, .un, .un, .un, .un]) (g := gN 3) (body := m__law_closed_body3) (ps := iL (upto n)) (n := 0) (env := [r, .int n, .lst (enc n f), .non, .non, .non, .non])
    (Inv := fun a e => e = [r, .int n, .lst (enc n (fw f a)), .non, .non, .non, .non]) rfl (fun a p e hb he => by
      obtain ⟨hb1, rfl⟩ := upto_get hb
      subst he
      rw [Nat.zero_add]
      exact ⟨_, _, rfl, .inl ⟨closed_phase hn hb1 (fw_dz hp hz a a) (fw_nn hp a), rfl⟩⟩)
  obtain ⟨e, h1, rfl⟩ := key
  rw [upto_len, Nat.zero_add] at h1
  exact h1
theorem enc_map {n : Nat} {f : Nat → Nat → Int} {h : PV → PV} (k : ∀ i, i < n → h (.lst (iL (row n (f i)))) = .lst (iL (row n (f i)))) : (enc n f).map h = enc n f := by
  unfold enc
  rw [List.map_map]
  apply List.map_congr_left
  intro i hi
  exact k i (List.mem_range.mp hi)
theorem closed_ok {n : Nat} {f : Nat → Nat → Int} (hn : n ≤ 1000) (hz : ∀ i, f i i = 0) (hp : ∀ i j, 0 ≤ f i j) : F__law_closed [.lst (enc n f)] = .ok (.lst (enc n (fw f n)), [.non]) := by
  have s1 : mSet 1 (mArgs gLen (mCons (mVar 0) mNil)) [.lst (enc n f), .non, .non, .non, .non, .non, .non] = .ok (.nx [.lst (enc n f), .int n, .non, .non, .non, .non, .non]) := by
    simp [mSet, mArgs, mCons, mNil, mVar, ofO, gLen, enc_len]
  have s2 : mLc [6] (mSq (mVar 0)) (gN 6) mYes (kElt (mArgs gList (mCons (mVar 6) mNil))) [.lst (enc n f), .int n, .non, .non, .non, .non, .non] = .ok (.lst (enc n f), [.lst (enc n f), .int n, .non, .non, .non, .non, .non]) := by
    have q := lc_map (vs := [6]) (g := gN 6) (m := mArgs gList (mCons (mVar 6) mNil)) (f := fun p => p) (env := [.lst (enc n f), .int n, .non, .non, .non, .non, .non]) (ps := enc n f) (by rw [enc_len]; omega) (fun p hp => by
      obtain ⟨i, hi⟩ := List.mem_iff_getElem?.mp hp
      have hlt : i < n := by
        have := (List.getElem?_eq_some_iff.mp hi).1
        rwa [enc_len] at this
      rw [enc_get hlt] at hi
      cases hi
      exact ⟨_, [.lst (enc n f), .int n, .non, .non, .non, .non, .lst (iL (row n (f i)))], rfl, rfl, rfl⟩)
    rw [List.map_id'] at q
    exact lc_ok (ps := enc n f) (env2 := [.lst (enc n f), .int n, .non, .non, .non, .non, .non]) rfl q
  have s3 := set_ok (i := 2) s2
  have s4 := for_ok (ML := [.fz, .fz, .ow2, .un, .un, .un, .un]) (g := gN 3) (body := m__law_closed_body3) (rg_env (n := n) (e0 := .lst (enc n f)) (g := [.lst (enc n f), .non, .non, .non, .non]) hn) (closed_loop hn hz hp)
  have e : m__law_closed [.lst (enc n f), .non, .non, .non, .non, .non, .non] = .ok (.rt (.lst (enc n (fw f n))) [.non, .non, .non, .non, .non, .non, .non]) := by
    unfold m__law_closed
    rw [seq_ok s1, seq_ok s3]
    show mSeq _ _ [.lst (enc n f), .int n, .lst (enc n f), .non, .non, .non, .non] = _
    rw [seq_ok s4]
    rfl
  exact def_ok (n := 7) (pms := [.fz]) (rm := .ow2) (m := m__law_closed) (ps := [.lst (enc n f)]) e
/-- what a drawn table is: a metric with distances 1 .. b -/
structure Mt (n : Nat) (b : Int) (f : Nat → Nat → Int) : Prop where
  z : ∀ i, i < n → f i i = 0
  s : ∀ i j, i < n → j < n → f i j = f j i
  p : ∀ i j, i < n → j < n → i ≠ j → 1 ≤ f i j ∧ f i j ≤ b
  t : ∀ i j k, i < n → j < n → k < n → f i j ≤ f i k + f k j
/-- any symmetric table of distances 1 .. b, closed -/
theorem closed_mt {n : Nat} {b : Int} {f : Nat → Nat → Int} (hn : n ≤ 1000) (hz : ∀ i, i < n → f i i = 0) (hs : ∀ i j, i < n → j < n → f i j = f j i) (hp : ∀ i j, i < n → j < n → i ≠ j → 1 ≤ f i j ∧ f i j ≤ b) :
    ∃ g, F__law_closed [.lst (enc n f)] = .ok (.lst (enc n g), [.non]) ∧ Mt n b g := by
  let f' : Nat → Nat → Int := fun i j => if i = j then 0 else if i < n ∧ j < n then f i j else 1
  have e : enc n f = enc n f' := enc_congr fun i j hi hj => by
    show f i j = if i = j then 0 else if i < n ∧ j < n then f i j else 1
    by_cases h : i = j
    · subst h; rw [if_pos rfl, hz i hi]
    · rw [if_neg h, if_pos ⟨hi, hj⟩]
  have z' : ∀ i, f' i i = 0 := fun i => if_pos rfl
  have p' : ∀ i j, i ≠ j → 1 ≤ f' i j := fun i j h => by
    show 1 ≤ if i = j then (0 : Int) else if i < n ∧ j < n then f i j else 1
    rw [if_neg h]
    split
    · rename_i q; exact (hp i j q.1 q.2 h).1
    · omega
  have s' : ∀ i j, f' i j = f' j i := fun i j => by
    show (if i = j then (0 : Int) else if i < n ∧ j < n then f i j else 1) = if j = i then (0 : Int) else if j < n ∧ i < n then f j i else 1
    by_cases h : i = j
    · subst h; rfl
    · rw [if_neg h, if_neg (Ne.symm h)]
      by_cases q : i < n ∧ j < n
      · rw [if_pos q, if_pos ⟨q.2, q.1⟩, hs i j q.1 q.2]
      · rw [if_neg q, if_neg (fun z => q ⟨z.2, z.1⟩)]
  have n' : ∀ i j, 0 ≤ f' i j := fun i j => by
    by_cases h : i = j
    · subst h; rw [z']; exact Int.le_refl _
    · have := p' i j h; omega
  refine ⟨fw f' n, by rw [e]; exact closed_ok hn z' n', fun i _ => fw_dz n' z' n i, fun i j _ _ => fw_sym s' n i j, fun i j hi hj h => ⟨fw_pos p' z' n i j h, ?_⟩, fun i j k _ _ hk => fw_tri n' z' hk i j⟩
  have h1 := fw_le (f := f') n i j
  have h2 : f' i j = f i j := by
    show (if i = j then (0 : Int) else if i < n ∧ j < n then f i j else 1) = _
    rw [if_neg h, if_pos ⟨hi, hj⟩]
  have h3 := (hp i j hi hj h).2
  omega
end CqL

/-! text Pf -/
set_option linter.all false
set_option maxRecDepth 100000
/-! plain law: the pairs of a size -/
namespace CqL
open PySem PySem.Spec L2 Cq
/-- the pairs behind x -/
def pairsAt (n x : Nat) : List PV := (from_ ((x : Int) + 1) (n - (x + 1))).map fun y => T2 x y
def pairsTo (n : Nat) : Nat → List PV
  | 0 => []
  | x + 1 => pairsTo n x ++ pairsAt n x
theorem pairsAt_len {n x : Nat} : (pairsAt n x).length = n - (x + 1) := by simp [pairsAt, from_]
theorem pairsTo_len {n : Nat} : ∀ x, (pairsTo n x).length ≤ x * n
  | 0 => Nat.zero_le _
  | x + 1 => by
    rw [pairsTo, List.length_append, pairsAt_len]
    have := pairsTo_len (n := n) x
    rw [Nat.succ_mul]
    omega
theorem rg2_ok {i j : Int} (h1 : -1000000 ≤ i) (h2 : i ≤ 1000000) (h3 : -1000000 ≤ j) (h4 : j ≤ 1000000) : gRg2 [.int i, .int j] = some (iL (from_ i (j - i).toNat)) := by
  show (if rgOk i j = true then some (rangeP i (j - i).toNat) else none) = _
  rw [if_pos (rgOk_small h1 h2 h3 h4), rangeP_from]
theorem pairs_body {n x : Nat} {acc : List PV} {z : PV} (hn : n ≤ 100) (hx : x < n) (ha : acc.length ≤ 100000) :
    m__law_pairs_in_body2 [.int n, .lst acc, .int x, z] = .ok (.nx [.int n, .lst (acc ++ pairsAt n x), .non, .non]) := by
  have s0 : (mRg gRg2 (mCons (mBin gAdd (mVar 2) (mC (.int 1))) (mCons (mVar 0) mNil))) [.int n, .lst acc, .int x, z] = .ok (iL (from_ ((x : Int) + 1) (n - (x + 1))), [.int n, .lst acc, .int x, z]) := by
    have e : ((n : Int) - ((x : Int) + 1)).toNat = n - (x + 1) := by omega
    have q := rg2_ok (i := (x : Int) + 1) (j := n) (by omega) (by omega) (by omega) (by omega)
    rw [e] at q
    simp [mRg, mCons, mBin, mVar, mC, mNil, ofO, gAdd, orO, intOp, q]
  have q := lc_map (vs := [3]) (g := gN 3) (m := m__law_pairs_in_elt1) (f := fun p => .tup [.int x, p]) (env := [.int n, .lst acc, .int x, .non]) (ps := iL (from_ ((x : Int) + 1) (n - (x + 1)))) (by simp [from_]; omega) (fun p hp => by
    refine ⟨[.int n, .lst acc, .int x, p], [.int n, .lst acc, .int x, p], rfl, ?_, rfl⟩
    have hz : (2 : Nat) ≤ sizeLine := by rw [sizeLine_eq]; omega
    simp [m__law_pairs_in_elt1, mArgs, mCons, mNil, mVar, ofO, gTupD, hz])
  have s1 := lc_ok (vs := [3]) (g := gN 3) (t := mYes) (k := kElt m__law_pairs_in_elt1) s0 q
  have e1 : (iL (from_ ((x : Int) + 1) (n - (x + 1)))).map (fun p => PV.tup [.int x, p]) = pairsAt n x := by
    unfold pairsAt iL
    rw [List.map_map]
    rfl
  rw [e1] at s1
  have hl : acc.length + (pairsAt n x).length ≤ sizeLine := by rw [pairsAt_len, sizeLine_eq]; omega
  have s2 : mExt 1 (mLc [3] (mRg gRg2 (mCons (mBin gAdd (mVar 2) (mC (.int 1))) (mCons (mVar 0) mNil))) (gN 3) mYes (kElt m__law_pairs_in_elt1)) [.int n, .lst acc, .int x, z] = .ok (.non, [.int n, .lst (acc ++ pairsAt n x), .int x, z]) := by
    unfold mExt
    rw [s1]
    simp [restE, hl]
  unfold m__law_pairs_in_body2 mSeq mDrop
  rw [s2]
  rfl
theorem pairs_in_ok {n : Nat} (hn : n ≤ 100) : F__law_pairs_in [.int n] = .ok (.lst (pairsTo n n), [.non]) := by
  have key := forM_inv (ML := [.fz, .ow, .un, .un]) (g := gN 2) (body := m__law_pairs_in_body2) (ps := iL (upto n)) (n := 0) (env := [.int n, .lst [], .non, .non])
    (Inv := fun a e => e = [.int n, .lst (pairsTo n a), .non, .non]) rfl (fun a p e hb he => by
      obtain ⟨hb1, rfl⟩ := upto_get hb
      subst he
      rw [Nat.zero_add]
      have hl : (pairsTo n a).length ≤ 100000 := by
        have := pairsTo_len (n := n) a
        have h2 : a * n ≤ 100 * 100 := Nat.mul_le_mul (by omega) hn
        omega
      exact ⟨_, _, rfl, .inl ⟨pairs_body hn hb1 hl, rfl⟩⟩)
  obtain ⟨e, h1, rfl⟩ := key
  rw [upto_len, Nat.zero_add] at h1
  have s1 : mSet 1 (mArgs gLstD mNil) [.int n, .non, .non, .non] = .ok (.nx [.int n, .lst [], .non, .non]) := by
    simp [mSet, mArgs, mNil, gLstD, ofO]
  have s2 : (mRg gRg1 (mCons (mVar 0) mNil)) [.int n, .lst [], .non, .non] = .ok (iL (upto n), [.int n, .lst [], .non, .non]) := by
    have q : mCons (mVar 0) mNil [.int (n : Int), .lst [], .non, .non] = .ok ([.int (n : Int)], [.int (n : Int), .lst [], .non, .non]) := rfl
    simp only [mRg, q, R.bind, rg1 (show n ≤ 1000000 by omega)]
  have e : m__law_pairs_in [.int n, .non, .non, .non] = .ok (.rt (.lst (pairsTo n n)) [.non, .non, .non, .non]) := by
    unfold m__law_pairs_in
    rw [seq_ok s1, seq_ok (for_ok s2 h1)]
    rfl
  exact def_ok (n := 4) (pms := [.fz]) (rm := .fz) (m := m__law_pairs_in) (ps := [.int n]) e
end CqL

/-! text Pg -/
set_option linter.all false
set_option maxRecDepth 100000
/-! plain law: the size -/
namespace CqL
open PySem PySem.Spec L2 Cq
/-- a call of take, the box in slot 0 -/
theorem take_call {d : Int} {box : PV} {m : Int} {g : List PV} {ma : MV} (hb : Bx d box) (hm : ma (box :: g) = .ok (.int m, box :: g)) (h2 : 0 < m) (h3 : m < 1073741824) (hd : d < 1000000000) :
    ∃ r box', mCall [some 0, none] F__law_take (mOwnA (mCons ma mNil)) (box :: g) = .ok (.int r, box' :: g) ∧ 0 ≤ r ∧ r < m ∧ Bx (d + 1) box' := by
  obtain ⟨r, box', e, r0, r1, hb'⟩ := take_ok hb h2 h3 hd
  refine ⟨r, box', ?_, r0, r1, hb'⟩
  simp only [mCall, mOwnA, mCons, mNil, hm, R.bind, fillA, List.getD_cons_zero]
  rw [e]
  rfl
theorem size_ok {d : Int} {box : PV} (hb : Bx d box) (hd : d < 100000000) : ∃ (n : Nat) (box' : PV), F__law_size [box] = .ok (.int n, [box']) ∧ 1 ≤ n ∧ n ≤ 7 ∧ Bx (d + 3) box' := by
  obtain ⟨r1, b1, e1, p1, q1, h1⟩ := take_call (g := []) (ma := mC (.int 2)) (m := 2) hb rfl (by omega) (by omega) (by omega)
  obtain ⟨r2, b2, e2, p2, q2, h2⟩ := take_call (g := []) (ma := mC (.int 2)) (m := 2) h1 rfl (by omega) (by omega) (by omega)
  obtain ⟨r3, b3, e3, p3, q3, h3⟩ := take_call (g := []) (ma := mC (.int 8)) (m := 8) h2 rfl (by omega) (by omega) (by omega)
  have hz : (8 : Nat) ≤ sizeLine := by rw [sizeLine_eq]; omega
  have s1 : ∀ (b : PV) (c : Int) (r : Int) (b' : PV), mCall [some 0, none] F__law_take (mOwnA (mCons (mC (.int 2)) mNil)) [b] = .ok (.int r, [b']) → mBin gAdd (mC (.int c)) (mCall [some 0, none] F__law_take (mOwnA (mCons (mC (.int 2)) mNil))) [b] = .ok (.int (c + r), [b']) := fun b c r b' e => by
    unfold mBin
    show ((mCall _ _ _ [b]).bind _) = _
    rw [e]
    rfl
  have key : ∃ n : Nat, m__law_size [box] = .ok (.rt (.int n) [b3]) ∧ 1 ≤ n ∧ n ≤ 7 := by
    have hl : mArgs gLstD (mCons (mC (.int 4)) (mCons (mC (.int 5)) (mCons (mC (.int 3)) (mCons (mC (.int 4)) (mCons (mC (.int 5)) (mCons (mC (.int 4)) (mCons (mBin gAdd (mC (.int 1)) (mCall [some 0, none] F__law_take (mOwnA (mCons (mC (.int 2)) mNil)))) (mCons (mBin gAdd (mC (.int 6)) (mCall [some 0, none] F__law_take (mOwnA (mCons (mC (.int 2)) mNil)))) mNil)))))))) [box]
        = .ok (.lst [.int 4, .int 5, .int 3, .int 4, .int 5, .int 4, .int (1 + r1), .int (6 + r2)], [b2]) := by
      have t1 := s1 box 1 r1 b1 e1
      have t2 := s1 b1 6 r2 b2 e2
      simp only [mArgs, mCons, mC, mNil, R.bind] at t1 t2 ⊢
      rw [t1]
      dsimp only [R.bind]
      rw [t2]
      simp [ofO, gLstD, hz]
    have hv : ∃ n : Nat, gIx (.lst [.int 4, .int 5, .int 3, .int 4, .int 5, .int 4, .int (1 + r1), .int (6 + r2)]) (.int r3) = some (.int n) ∧ 1 ≤ n ∧ n ≤ 7 := by
      obtain ⟨k, rfl⟩ : ∃ k : Nat, r3 = k := ⟨r3.toNat, by omega⟩
      have hk : k < 8 := by omega
      show ∃ n : Nat, atI _ _ = _ ∧ _
      rw [atI_nat (by simpa using hk)]
      match k, hk with
      | 0, _ => exact ⟨4, rfl, by omega, by omega⟩
      | 1, _ => exact ⟨5, rfl, by omega, by omega⟩
      | 2, _ => exact ⟨3, rfl, by omega, by omega⟩
      | 3, _ => exact ⟨4, rfl, by omega, by omega⟩
      | 4, _ => exact ⟨5, rfl, by omega, by omega⟩
      | 5, _ => exact ⟨4, rfl, by omega, by omega⟩
      | 6, _ => exact ⟨(1 + r1).toNat, by show some (PV.int (1 + r1)) = _; rw [Int.toNat_of_nonneg (by omega)], by omega, by omega⟩
      | 7, _ => exact ⟨(6 + r2).toNat, by show some (PV.int (6 + r2)) = _; rw [Int.toNat_of_nonneg (by omega)], by omega, by omega⟩
    obtain ⟨n, hv, k1, k2⟩ := hv
    refine ⟨n, ?_, k1, k2⟩
    exact ret_ok (bin_ok hl e3 hv)
  obtain ⟨n, e, k1, k2⟩ := key
  exact ⟨n, b3, def_ok (n := 1) (pms := [.ow]) (rm := .fz) (m := m__law_size) (ps := [box]) e, k1, k2, h3.mono (by omega)⟩
end CqL

/-! text Ph -/
set_option linter.all false
set_option maxRecDepth 100000
/-! plain law: what stands among the pairs; tables that grow pair by pair -/
namespace CqL
open PySem PySem.Spec L2 Cq
theorem pairsAt_mem {n x : Nat} {p : PV} : p ∈ pairsAt n x ↔ ∃ y : Nat, x < y ∧ y < n ∧ p = T2 (x : Nat) (y : Nat) := by
  unfold pairsAt from_
  rw [List.map_map, List.mem_map]
  constructor
  · rintro ⟨k, hk, rfl⟩
    have := List.mem_range.mp hk
    refine ⟨x + 1 + k, by omega, by omega, ?_⟩
    show PV.tup [.int (x : Int), .int ((x : Int) + 1 + (k : Int))] = _
    have e : ((x + 1 + k : Nat) : Int) = (x : Int) + 1 + (k : Int) := by omega
    rw [e]
  · rintro ⟨y, h1, h2, rfl⟩
    refine ⟨y - (x + 1), List.mem_range.mpr (by omega), ?_⟩
    show PV.tup [.int (x : Int), .int ((x : Int) + 1 + ((y - (x + 1) : Nat) : Int))] = PV.tup [.int (x : Int), .int (y : Int)]
    have e : (x : Int) + 1 + ((y - (x + 1) : Nat) : Int) = (y : Int) := by omega
    rw [e]
theorem pairsTo_mem {n : Nat} {p : PV} : ∀ {m : Nat}, p ∈ pairsTo n m ↔ ∃ x y : Nat, x < m ∧ x < y ∧ y < n ∧ p = T2 (x : Nat) (y : Nat)
  | 0 => by simp [pairsTo]
  | m + 1 => by
    rw [pairsTo, List.mem_append, pairsTo_mem (m := m), pairsAt_mem]
    constructor
    · rintro (⟨x, y, h1, h2, h3, h4⟩ | ⟨y, h1, h2, h3⟩)
      · exact ⟨x, y, by omega, h2, h3, h4⟩
      · exact ⟨m, y, by omega, h1, h2, h3⟩
    · rintro ⟨x, y, h1, h2, h3, h4⟩
      by_cases e : x = m
      · subst e; exact .inr ⟨y, h2, h3, h4⟩
      · exact .inl ⟨x, y, by omega, h2, h3, h4⟩
/-- a table that is being filled in pair by pair -/
structure Fil (n : Nat) (b : Int) (done : Nat → Nat → Prop) (f : Nat → Nat → Int) : Prop where
  z : ∀ i, i < n → f i i = 0
  s : ∀ i j, i < n → j < n → f i j = f j i
  d : ∀ i j, i < n → j < n → i < j → done i j → 1 ≤ f i j ∧ f i j ≤ b
/-- both places of a pair -/
def putS (f : Nat → Nat → Int) (i j : Nat) (v : Int) : Nat → Nat → Int := put2 (put2 f i j v) j i v
theorem Fil.put {n i j : Nat} {b v : Int} {done done' : Nat → Nat → Prop} {f : Nat → Nat → Int} (h : Fil n b done f) (hij : i < j) (hv : 1 ≤ v ∧ v ≤ b) (hd : ∀ x y, done' x y → done x y ∨ (x = i ∧ y = j)) : Fil n b done' (putS f i j v) := by
  refine ⟨fun a ha => ?_, fun a c ha hc => ?_, fun a c ha hc hac hdn => ?_⟩
  · unfold putS put2
    rw [if_neg (by omega), if_neg (by omega), h.z a ha]
  · have := h.s a c ha hc
    unfold putS put2
    by_cases e1 : a = j ∧ c = i
    · rw [if_pos e1, if_neg (by omega), if_pos (by omega)]
    · by_cases e2 : a = i ∧ c = j
      · rw [if_neg e1, if_pos e2, if_pos (by omega)]
      · rw [if_neg e1, if_neg e2, if_neg (by omega), if_neg (by omega), this]
  · unfold putS put2
    by_cases e2 : a = i ∧ c = j
    · rw [if_neg (by omega), if_pos e2]; exact hv
    · rw [if_neg (by omega), if_neg e2]
      rcases hd a c hdn with q | q
      · exact h.d a c ha hc hac q
      · exact absurd q e2
/-- rows filled with zeros -/
theorem fil0 {n : Nat} {b : Int} : Fil n b (fun _ _ => False) (fun _ _ => 0) := ⟨fun _ _ => rfl, fun _ _ _ _ => rfl, fun _ _ _ _ _ h => h.elim⟩
end CqL

/-! text Pi -/
set_option linter.all false
set_option maxRecDepth 100000
/-! plain law: the ways of drawing -/
namespace CqL
open PySem PySem.Spec L2 Cq
theorem eq_int (i j : Int) : gEq false (.int i) (.int j) = some (.bl (decide (i = j))) := rfl
theorem ne_int (i j : Int) : gEq true (.int i) (.int j) = some (.bl (!decide (i = j))) := rfl
theorem add_int (i j : Int) : gAdd (.int i) (.int j) = some (.int (i + j)) := rfl
/-- both places of a pair are set to the value in a slot -/
theorem pair_set {n x y : Nat} {f : Nat → Nat → Int} {v : Int} {e0 e1 e2 e3 : PV} {g : List PV} (hx : x < n) (hy : y < n) :
    gSetOwn2 4 (pVar 5) (pVar 6) (.int v) (e0 :: e1 :: e2 :: e3 :: .lst (enc n f) :: .int x :: .int y :: g) = some (e0 :: e1 :: e2 :: e3 :: .lst (enc n (put2 f x y v)) :: .int x :: .int y :: g) :=
  set2 (env := e0 :: e1 :: e2 :: e3 :: .lst (enc n f) :: .int x :: .int y :: g) rfl rfl rfl hx hy
theorem pair_set2 {n x y : Nat} {f : Nat → Nat → Int} {v : Int} {e0 e1 e2 e3 : PV} {g : List PV} (hx : x < n) (hy : y < n) :
    gSetOwn2 4 (pVar 6) (pVar 5) (.int v) (e0 :: e1 :: e2 :: e3 :: .lst (enc n f) :: .int x :: .int y :: g) = some (e0 :: e1 :: e2 :: e3 :: .lst (enc n (put2 f y x v)) :: .int x :: .int y :: g) :=
  set2 (env := e0 :: e1 :: e2 :: e3 :: .lst (enc n f) :: .int x :: .int y :: g) rfl rfl rfl hy hx
theorem way06_step {d wd : Int} {bx : PV} {n x y : Nat} {w : Int} {f : Nat → Nat → Int} {q7 q8 q9 q10 q11 q12 q13 q14 q15 q16 q17 : PV} (hb : Bx d bx) (hd : d < 100000000) (hw : 1 ≤ wd ∧ wd ≤ 60) (hn : 1 ≤ n ∧ n ≤ 60) (hx : x < n) (hy : y < n) :
    ∃ v bx', m__law_drawn_body3 [bx, .int n, .int w, .int wd, .lst (enc n f), .int x, .int y, q7, q8, q9, q10, q11, q12, q13, q14, q15, q16, q17] =
      .ok (.nx [bx', .int n, .int w, .int wd, .lst (enc n (putS f x y v)), .non, .non, .non, .non, .non, .non, .non, .non, .non, .non, .non, .non, .non]) ∧ 1 ≤ v ∧ v ≤ 61 ∧ Bx (d + 2) bx' := by
  obtain ⟨r, b1, e1, p1, p2, h1⟩ := take_call (g := [.int n, .int w, .int wd, .lst (enc n f), .int x, .int y, q7, q8, q9, q10, q11, q12, q13, q14, q15, q16, q17]) (ma := mVar 3) (m := wd) hb rfl (by omega) (by omega) (by omega)
  have s1 := set_ok (i := 7) (bin_ok (m1 := mC (.int 1)) rfl e1 (add_int 1 r))
  have fin : ∀ (v : Int) (b : PV), mSeq (mAsg (gSetOwn2 4 (pVar 5) (pVar 6)) (mVar 7)) (mSeq (mAsg (gSetOwn2 4 (pVar 6) (pVar 5)) (mVar 7)) (mWk [.ow, .fz, .fz, .fz, .ow2, .un, .un, .un, .un, .un, .un, .un, .un, .un, .un, .un, .un, .un] mSkip))
      [b, .int n, .int w, .int wd, .lst (enc n f), .int x, .int y, .int v, q8, q9, q10, q11, q12, q13, q14, q15, q16, q17] = .ok (.nx [b, .int n, .int w, .int wd, .lst (enc n (putS f x y v)), .non, .non, .non, .non, .non, .non, .non, .non, .non, .non, .non, .non, .non]) := fun v b => by
    rw [seq_ok (asg_ok (m := mVar 7) (p := .int v) rfl (pair_set hx hy)), seq_ok (asg_ok (m := mVar 7) (p := .int v) rfl (pair_set2 hx hy))]
    rfl
  unfold m__law_drawn_body3
  rw [seq_ok s1]
  show ∃ v bx', mSeq _ _ [b1, .int n, .int w, .int wd, .lst (enc n f), .int x, .int y, .int (1 + r), q8, q9, q10, q11, q12, q13, q14, q15, q16, q17] = _ ∧ _
  have c : mIsB (mBin (gEq false) (mVar 2) (mC (.int 6))) [b1, .int n, .int w, .int wd, .lst (enc n f), .int x, .int y, .int (1 + r), q8, q9, q10, q11, q12, q13, q14, q15, q16, q17] = .ok (decide (w = 6), [b1, .int n, .int w, .int wd, .lst (enc n f), .int x, .int y, .int (1 + r), q8, q9, q10, q11, q12, q13, q14, q15, q16, q17]) := rfl
  by_cases h6 : w = 6
  · rw [decide_eq_true h6] at c
    obtain ⟨r2, b2, e2, p3, p4, h2⟩ := take_call (g := [.int n, .int w, .int wd, .lst (enc n f), .int x, .int y, .int (1 + r), q8, q9, q10, q11, q12, q13, q14, q15, q16, q17]) (ma := mC (.int 3)) (m := 3) h1 rfl (by omega) (by omega) (by omega)
    have c2 : mIsB (mBin (gEq false) (mCall [some 0, none] F__law_take (mOwnA (mCons (mC (.int 3)) mNil))) (mC (.int 0))) [b1, .int n, .int w, .int wd, .lst (enc n f), .int x, .int y, .int (1 + r), q8, q9, q10, q11, q12, q13, q14, q15, q16, q17] = .ok (decide (r2 = 0), [b2, .int n, .int w, .int wd, .lst (enc n f), .int x, .int y, .int (1 + r), q8, q9, q10, q11, q12, q13, q14, q15, q16, q17]) := by
      have := bin_ok (m2 := mC (.int 0)) e2 rfl (eq_int r2 0)
      unfold mIsB
      rw [this]
      rfl
    by_cases h0 : r2 = 0
    · rw [decide_eq_true h0] at c2
      have s2 : mIf (mIsB (mBin (gEq false) (mVar 2) (mC (.int 6)))) m__law_drawn_th2 mSkip [b1, .int n, .int w, .int wd, .lst (enc n f), .int x, .int y, .int (1 + r), q8, q9, q10, q11, q12, q13, q14, q15, q16, q17] = .ok (.nx [b2, .int n, .int w, .int wd, .lst (enc n f), .int x, .int y, .int 1, q8, q9, q10, q11, q12, q13, q14, q15, q16, q17]) := by
        rw [if_t c]
        unfold m__law_drawn_th2
        exact set_ok (i := 7) (p := .int 1) (e := [b2, .int n, .int w, .int wd, .lst (enc n f), .int x, .int y, .int (1 + r), q8, q9, q10, q11, q12, q13, q14, q15, q16, q17]) (if_t (m1 := mC (.int 1)) (m2 := mVar 1) c2)
      exact ⟨1, b2, by rw [seq_ok s2]; exact fin 1 b2, by omega, by omega, h2.mono (by omega)⟩
    · rw [decide_eq_false h0] at c2
      have s2 : mIf (mIsB (mBin (gEq false) (mVar 2) (mC (.int 6)))) m__law_drawn_th2 mSkip [b1, .int n, .int w, .int wd, .lst (enc n f), .int x, .int y, .int (1 + r), q8, q9, q10, q11, q12, q13, q14, q15, q16, q17] = .ok (.nx [b2, .int n, .int w, .int wd, .lst (enc n f), .int x, .int y, .int n, q8, q9, q10, q11, q12, q13, q14, q15, q16, q17]) := by
        rw [if_t c]
        unfold m__law_drawn_th2
        exact set_ok (i := 7) (p := .int n) (e := [b2, .int n, .int w, .int wd, .lst (enc n f), .int x, .int y, .int (1 + r), q8, q9, q10, q11, q12, q13, q14, q15, q16, q17]) (if_f (m1 := mC (.int 1)) (m2 := mVar 1) c2)
      exact ⟨n, b2, by rw [seq_ok s2]; exact fin n b2, by omega, by omega, h2.mono (by omega)⟩
  · rw [decide_eq_false h6] at c
    have s2 : mIf (mIsB (mBin (gEq false) (mVar 2) (mC (.int 6)))) m__law_drawn_th2 mSkip [b1, .int n, .int w, .int wd, .lst (enc n f), .int x, .int y, .int (1 + r), q8, q9, q10, q11, q12, q13, q14, q15, q16, q17] = .ok (.nx [b1, .int n, .int w, .int wd, .lst (enc n f), .int x, .int y, .int (1 + r), q8, q9, q10, q11, q12, q13, q14, q15, q16, q17]) := if_f c
    exact ⟨1 + r, b1, by rw [seq_ok s2]; exact fin (1 + r) b1, by omega, by omega, h1.mono (by omega)⟩
end CqL

/-! text Pj -/
set_option linter.all false
set_option maxRecDepth 100000
/-! plain law: ways 0 and 6, the first loop -/
namespace CqL
open PySem PySem.Spec L2 Cq
def seen (n i a b : Nat) : Prop := ∃ j : Nat, j < i ∧ (pairsTo n n)[j]? = some (T2 (a : Nat) (b : Nat))
theorem T2_inj {a b c d : Nat} (h : T2 (a : Nat) (b : Nat) = T2 (c : Nat) (d : Nat)) : a = c ∧ b = d := by
  simp only [PV.tup.injEq, List.cons.injEq, PV.int.injEq, and_true] at h
  omega
theorem way06_loop {d wd : Int} {bx : PV} {n : Nat} {w : Int} (hb : Bx d bx) (hd : d < 10000000) (hw : 1 ≤ wd ∧ wd ≤ 60) (hn : 1 ≤ n ∧ n ≤ 60) :
    ∃ f bx', forM [.ow, .fz, .fz, .fz, .ow2, .un, .un, .un, .un, .un, .un, .un, .un, .un, .un, .un, .un, .un] (gSqT (gsCons (gN 5) (gsCons (gN 6) gsNil))) m__law_drawn_body3 (pairsTo n n) [bx, .int n, .int w, .int wd, .lst (enc n fun _ _ => 0), .non, .non, .non, .non, .non, .non, .non, .non, .non, .non, .non, .non, .non]
      = .ok (.nx [bx', .int n, .int w, .int wd, .lst (enc n f), .non, .non, .non, .non, .non, .non, .non, .non, .non, .non, .non, .non, .non]) ∧ Fil n 61 (fun a b => a < b ∧ b < n) f ∧ Bx (d + 8000) bx' := by
  have hl : (pairsTo n n).length ≤ 3600 := by
    have := pairsTo_len (n := n) n
    have h2 : n * n ≤ 60 * 60 := Nat.mul_le_mul hn.2 hn.2
    omega
  obtain ⟨e, h1, f, bx', rfl, h2, h3⟩ := forM_inv (ML := [.ow, .fz, .fz, .fz, .ow2, .un, .un, .un, .un, .un, .un, .un, .un, .un, .un, .un, .un, .un]) (g := gSqT (gsCons (gN 5) (gsCons (gN 6) gsNil))) (body := m__law_drawn_body3) (ps := pairsTo n n) (n := 0)
    (env := [bx, .int n, .int w, .int wd, .lst (enc n fun _ _ => 0), .non, .non, .non, .non, .non, .non, .non, .non, .non, .non, .non, .non, .non])
    (Inv := fun i e => ∃ f bx, e = [bx, .int n, .int w, .int wd, .lst (enc n f), .non, .non, .non, .non, .non, .non, .non, .non, .non, .non, .non, .non, .non] ∧ Fil n 61 (seen n i) f ∧ Bx (d + 2 * (i : Int)) bx)
    ⟨_, bx, rfl, ⟨fun _ _ => rfl, fun _ _ _ _ => rfl, fun _ _ _ _ _ h => by obtain ⟨j, h, _⟩ := h; omega⟩, hb.mono (by omega)⟩ (fun i p e hp he => by
      rw [Nat.zero_add] at he ⊢
      obtain ⟨f, b0, rfl, hf, hb0⟩ := he
      obtain ⟨x, y, hx, hxy, hy, rfl⟩ := pairsTo_mem.mp (List.mem_of_getElem? hp)
      have hi : i < (pairsTo n n).length := (List.getElem?_eq_some_iff.mp hp).1
      obtain ⟨v, b1, e1, v1, v2, hb1⟩ := way06_step (w := w) (f := f) (q7 := .non) (q8 := .non) (q9 := .non) (q10 := .non) (q11 := .non) (q12 := .non) (q13 := .non) (q14 := .non) (q15 := .non) (q16 := .non) (q17 := .non) hb0 (by omega) hw hn hx hy
      refine ⟨_, _, rfl, .inl ⟨e1, putS f x y v, b1, rfl, hf.put hxy ⟨v1, v2⟩ fun a b q => ?_, hb1.mono (by omega)⟩⟩
      obtain ⟨j, hj, hq⟩ := q
      by_cases hji : j < i
      · exact .inl ⟨j, hji, hq⟩
      · have : j = i := by omega
        subst this
        rw [hp] at hq
        exact .inr ((T2_inj (Option.some.inj hq)).imp Eq.symm Eq.symm))
  rw [Nat.zero_add] at h2 h3
  refine ⟨f, bx', h1, ⟨h2.z, h2.s, fun a b ha hb' hab hdn => h2.d a b ha hb' hab ?_⟩, h3.mono (by omega)⟩
  obtain ⟨j, hj⟩ := List.mem_iff_getElem?.mp (pairsTo_mem.mpr ⟨a, b, ha, hab, hb', rfl⟩)
  exact ⟨j, (List.getElem?_eq_some_iff.mp hj).1, hj⟩
/-- such a table, closed, is a metric -/
theorem Fil.mt {n : Nat} {b : Int} {f : Nat → Nat → Int} (hn : n ≤ 1000) (h : Fil n b (fun a c => a < c ∧ c < n) f) : ∃ g, F__law_closed [.lst (enc n f)] = .ok (.lst (enc n g), [.non]) ∧ Mt n b g :=
  closed_mt hn h.z h.s fun i j hi hj hne => by
    rcases Nat.lt_or_gt_of_ne hne with q | q
    · exact h.d i j hi hj q ⟨q, hj⟩
    · rw [h.s i j hi hj]; exact h.d j i hj hi q ⟨q, hi⟩
end CqL

/-! text Pk -/
set_option linter.all false
set_option maxRecDepth 100000
/-! plain law: an order's places; way 6's second loop -/
namespace CqL
open PySem PySem.Spec L2 Cq
theorem ord_get {n k : Nat} {l : List Int} (hl : l.Perm (upto n)) (hk : k < n) : ∃ x : Nat, x < n ∧ l[k]? = some (x : Int) ∧ gIx (.lst (iL l)) (.int (k : Nat)) = some (.int (x : Nat)) := by
  have hlen : l.length = n := by rw [hl.length_eq]; simp [upto]
  have hk2 : k < l.length := by omega
  have hm : l[k] ∈ upto n := hl.mem_iff.mp (List.getElem_mem hk2)
  unfold upto at hm
  obtain ⟨x, hx, e⟩ := List.mem_map.mp hm
  refine ⟨x, List.mem_range.mp hx, by rw [List.getElem?_eq_getElem hk2, ← e], ?_⟩
  show atI (iL l) (k : Int) = _
  rw [atI_nat (by simpa using hk2), List.getElem?_map, List.getElem?_eq_getElem hk2, ← e]
  rfl
theorem upto_nodup (n : Nat) : (upto n).Nodup := by
  unfold upto
  exact List.Pairwise.map _ (fun a b h => fun z => h (by omega)) List.nodup_range
theorem ord_ne {n i j x y : Nat} {l : List Int} (hl : l.Perm (upto n)) (hij : i ≠ j) (h1 : l[i]? = some (x : Int)) (h2 : l[j]? = some (y : Int)) : x ≠ y := fun e => by
  subst e
  have hd : l.Nodup := hl.nodup_iff.mpr (upto_nodup n)
  obtain ⟨a1, a2⟩ := List.getElem?_eq_some_iff.mp h1
  obtain ⟨b1, b2⟩ := List.getElem?_eq_some_iff.mp h2
  have key : ∀ {i j : Nat} (hi : i < l.length) (hj : j < l.length), i < j → l[i] = l[j] → False := fun {i j} hi hj h e => by
    exact (List.pairwise_iff_getElem.mp hd) i j hi hj h e
  rcases Nat.lt_or_gt_of_ne hij with q | q
  · exact key a1 b1 q (a2.trans b2.symm)
  · exact key b1 a1 q (b2.trans a2.symm)
end CqL

/-! text Pl -/
set_option linter.all false
set_option maxRecDepth 100000
/-! plain law: way 6's second loop -/
namespace CqL
open PySem PySem.Spec L2 Cq
theorem putS_any {n i j : Nat} {b v : Int} {f : Nat → Nat → Int} (h : Fil n b (fun a c => a < c ∧ c < n) f) (hij : i ≠ j) (hi : i < n) (hj : j < n) (hv : 1 ≤ v ∧ v ≤ b) : Fil n b (fun a c => a < c ∧ c < n) (putS f i j v) := by
  rcases Nat.lt_or_gt_of_ne hij with q | q
  · exact h.put q hv fun x y w => .inl w
  · have e : putS f i j v = putS f j i v := by
      funext a c
      unfold putS put2
      by_cases e1 : a = j ∧ c = i
      · rw [if_pos e1, if_neg (by omega), if_pos e1]
      · by_cases e2 : a = i ∧ c = j
        · rw [if_neg e1, if_pos e2, if_pos e2]
        · rw [if_neg e1, if_neg e2, if_neg e2, if_neg e1]
    rw [e]
    exact h.put q hv fun x y w => .inl w
theorem way6_step {d wd : Int} {bx : PV} {n k : Nat} {w : Int} {l : List Int} {f : Nat → Nat → Int} {q5 q6 q7 q10 q11 q12 q13 q14 q15 q16 q17 : PV} (hb : Bx d bx) (hd : d < 100000000) (hl : l.Perm (upto n)) (hk : 1 ≤ k ∧ k < n) (hn : n ≤ 60) :
    ∃ x y bx', x < n ∧ y < n ∧ x ≠ y ∧ m__law_drawn_body4 [bx, .int n, .int w, .int wd, .lst (enc n f), q5, q6, q7, .lst (iL l), .int k, q10, q11, q12, q13, q14, q15, q16, q17] =
      .ok (.nx [bx', .int n, .int w, .int wd, .lst (enc n (putS f x y 1)), .non, .non, .non, .lst (iL l), .non, .non, .non, .non, .non, .non, .non, .non, .non]) ∧ Bx (d + 1) bx' := by
  obtain ⟨x, hx, lx, gx⟩ := ord_get hl hk.2
  obtain ⟨r, b1, e1, p1, p2, h1⟩ := take_call (g := [.int n, .int w, .int wd, .lst (enc n f), q5, q6, q7, .lst (iL l), .int k, q10, q11, q12, q13, q14, q15, q16, q17]) (ma := mVar 9) (m := k) hb rfl (by omega) (by omega) (by omega)
  obtain ⟨k2, rfl⟩ : ∃ k2 : Nat, r = k2 := ⟨r.toNat, by omega⟩
  obtain ⟨y, hy, ly, gy⟩ := ord_get hl (show k2 < n by omega)
  have hne : x ≠ y := ord_ne hl (show k ≠ k2 by omega) lx ly
  refine ⟨x, y, b1, hx, hy, hne, ?_, h1⟩
  have s1 := par_ok (i := 5) (j := 6) (bin_ok (m1 := mVar 8) (m2 := mVar 9) (env := [bx, .int n, .int w, .int wd, .lst (enc n f), q5, q6, q7, .lst (iL l), .int k, q10, q11, q12, q13, q14, q15, q16, q17]) rfl rfl gx) (bin_ok (m1 := mVar 8) rfl e1 gy)
  unfold m__law_drawn_body4
  rw [seq_ok s1]
  show mSeq _ _ [b1, .int n, .int w, .int wd, .lst (enc n f), .int x, .int y, q7, .lst (iL l), .int k, q10, q11, q12, q13, q14, q15, q16, q17] = _
  rw [seq_ok (asg_ok (m := mC (.int 1)) (p := .int 1) rfl (pair_set hx hy)), seq_ok (asg_ok (m := mC (.int 1)) (p := .int 1) rfl (pair_set2 hx hy))]
  rfl
end CqL

/-! text Pm -/
set_option linter.all false
set_option maxRecDepth 100000
/-! plain law: ways 0 and 6 whole -/
namespace CqL
open PySem PySem.Spec L2 Cq
theorem from_get {lo : Int} {n i : Nat} {p : PV} (h : (iL (from_ lo n))[i]? = some p) : i < n ∧ p = .int (lo + (i : Int)) := by
  unfold iL from_ at h
  rw [List.getElem?_map, List.getElem?_map] at h
  by_cases hi : i < n
  · rw [List.getElem?_range hi] at h
    cases h
    exact ⟨hi, rfl⟩
  · rw [List.getElem?_eq_none (by simpa using hi)] at h
    cases h
theorem from_len {lo : Int} {n : Nat} : (iL (from_ lo n)).length = n := by simp [from_]
theorem rg2_env {n : Nat} {g : List PV} {e0 : PV} (h : n ≤ 1000) : (mRg gRg2 (mCons (mC (.int 1)) (mCons (mVar 1) mNil))) (e0 :: .int (n : Int) :: g) = .ok (iL (from_ 1 (n - 1)), e0 :: .int (n : Int) :: g) := by
  have q : mCons (mC (.int 1)) (mCons (mVar 1) mNil) (e0 :: .int (n : Int) :: g) = .ok ([.int 1, .int (n : Int)], e0 :: .int (n : Int) :: g) := rfl
  have e : ((n : Int) - 1).toNat = n - 1 := by omega
  have r := rg2_ok (i := 1) (j := n) (by omega) (by omega) (by omega) (by omega)
  rw [e] at r
  simp only [mRg, q, R.bind, r]
/-- a call of mixed, the box in slot 0 -/
theorem mixed_call {d : Int} {box : PV} {m : Nat} {g : List PV} {ma : MV} (hb : Bx d box) (hm : ma (box :: g) = .ok (.int m, box :: g)) (h2 : m ≤ 900) (hd : d + m < 1000000000) :
    ∃ l box', mCall [some 0, none] F__law_mixed (mOwnA (mCons ma mNil)) (box :: g) = .ok (.lst (iL l), box' :: g) ∧ l.Perm (upto m) ∧ Bx (d + m) box' := by
  obtain ⟨l, box', e, r0, hb'⟩ := mixed_ok hb h2 hd
  refine ⟨l, box', ?_, r0, hb'⟩
  simp only [mCall, mOwnA, mCons, mNil, hm, R.bind, fillA, List.getD_cons_zero]
  rw [e]
  rfl
theorem way6_loop {d wd : Int} {bx : PV} {n : Nat} {w : Int} {l : List Int} {f : Nat → Nat → Int} (hb : Bx d bx) (hd : d < 10000000) (hl : l.Perm (upto n)) (hn : n ≤ 60) (hf : Fil n 61 (fun a b => a < b ∧ b < n) f) :
    ∃ f' bx', forM [.ow, .fz, .fz, .fz, .ow2, .un, .un, .un, .fz, .un, .un, .un, .un, .un, .un, .un, .un, .un] (gN 9) m__law_drawn_body4 (iL (from_ 1 (n - 1))) [bx, .int n, .int w, .int wd, .lst (enc n f), .non, .non, .non, .lst (iL l), .non, .non, .non, .non, .non, .non, .non, .non, .non]
      = .ok (.nx [bx', .int n, .int w, .int wd, .lst (enc n f'), .non, .non, .non, .lst (iL l), .non, .non, .non, .non, .non, .non, .non, .non, .non]) ∧ Fil n 61 (fun a b => a < b ∧ b < n) f' ∧ Bx (d + n) bx' := by
  obtain ⟨e, h1, f', bx', rfl, h2, h3⟩ := forM_inv (ML := [.ow, .fz, .fz, .fz, .ow2, .un, .un, .un, .fz, .un, .un, .un, .un, .un, .un, .un, .un, .un]) (g := gN 9) (body := m__law_drawn_body4) (ps := iL (from_ 1 (n - 1))) (n := 0)
    (env := [bx, .int n, .int w, .int wd, .lst (enc n f), .non, .non, .non, .lst (iL l), .non, .non, .non, .non, .non, .non, .non, .non, .non])
    (Inv := fun i e => ∃ f bx, e = [bx, .int n, .int w, .int wd, .lst (enc n f), .non, .non, .non, .lst (iL l), .non, .non, .non, .non, .non, .non, .non, .non, .non] ∧ Fil n 61 (fun a b => a < b ∧ b < n) f ∧ Bx (d + (i : Int)) bx)
    ⟨f, bx, rfl, hf, hb.mono (by omega)⟩ (fun i p e hp he => by
      rw [Nat.zero_add] at he ⊢
      obtain ⟨f, b0, rfl, hf, hb0⟩ := he
      obtain ⟨hi, rfl⟩ := from_get hp
      have ek : (1 : Int) + (i : Int) = ((i + 1 : Nat) : Int) := by omega
      rw [ek]
      obtain ⟨x, y, b1, hx, hy, hne, e1, hb1⟩ := way6_step (w := w) (wd := wd) (f := f) (k := i + 1) (q5 := .non) (q6 := .non) (q7 := .non) (q10 := .non) (q11 := .non) (q12 := .non) (q13 := .non) (q14 := .non) (q15 := .non) (q16 := .non) (q17 := .non) hb0 (by omega) hl ⟨by omega, by omega⟩ hn
      exact ⟨_, _, rfl, .inl ⟨e1, putS f x y 1, b1, rfl, putS_any hf hne hx hy ⟨by omega, by omega⟩, hb1.mono (by omega)⟩⟩)
  rw [Nat.zero_add, from_len] at h3
  exact ⟨f', bx', h1, h2, h3.mono (by omega)⟩
end CqL

/-! text Pn -/
set_option linter.all false
set_option maxRecDepth 100000
/-! plain law: ways 0 and 6 whole -/
namespace CqL
open PySem PySem.Spec L2 Cq
/-- the frame of drawn after its first two lines -/
abbrev dr0 (bx : PV) (n : Nat) (w wd : Int) (f : Nat → Nat → Int) : List PV := [bx, .int n, .int w, .int wd, .lst (enc n f), .non, .non, .non, .non, .non, .non, .non, .non, .non, .non, .non, .non, .non]
theorem pairs_call {n : Nat} {g : List PV} {e0 : PV} (h : n ≤ 100) : mSq (mCall [none] F__law_pairs_in (mCons (mVar 1) mNil)) (e0 :: .int n :: g) = .ok (pairsTo n n, e0 :: .int n :: g) := by
  have q : mCons (mVar 1) mNil (e0 :: .int (n : Int) :: g) = .ok ([.int (n : Int)], e0 :: .int (n : Int) :: g) := rfl
  have r : mCall [none] F__law_pairs_in (mCons (mVar 1) mNil) (e0 :: .int n :: g) = .ok (.lst (pairsTo n n), e0 :: .int n :: g) := by
    unfold mCall
    rw [q]
    show ((F__law_pairs_in (fillA [none] [.int (n : Int)] (e0 :: .int n :: g))).bind _) = _
    rw [show fillA [none] [.int (n : Int)] (e0 :: .int n :: g) = [.int (n : Int)] from rfl, pairs_in_ok h]
    rfl
  unfold mSq
  rw [r]
  rfl
theorem th6_ok {d wd : Int} {bx : PV} {n : Nat} {w : Int} (hb : Bx d bx) (hd : d < 1000000) (hw : 1 ≤ wd ∧ wd ≤ 60) (hn : 1 ≤ n ∧ n ≤ 60) :
    ∃ f bx', m__law_drawn_th6 (dr0 bx n w wd fun _ _ => 0) = .ok (.rt (.lst (enc n f)) (bx' :: List.replicate 17 .non)) ∧ Mt n 61 f ∧ Bx (d + 9000) bx' := by
  obtain ⟨f, b1, l1, hf, hb1⟩ := way06_loop (w := w) hb (by omega) hw hn
  have s1 := for_ok (it := mSq (mCall [none] F__law_pairs_in (mCons (mVar 1) mNil))) (env := dr0 bx n w wd fun _ _ => 0) (env2 := dr0 bx n w wd fun _ _ => 0) (pairs_call (by omega)) l1
  have fin : ∀ (b : PV) (f : Nat → Nat → Int), Fil n 61 (fun a c => a < c ∧ c < n) f → ∃ g, mRet [.ow, .un, .un, .un, .un, .un, .un, .un, .un, .un, .un, .un, .un, .un, .un, .un, .un, .un] (mCall [none] F__law_closed (mCons (mVar 4) mNil)) (dr0 b n w wd f) = .ok (.rt (.lst (enc n g)) (b :: List.replicate 17 .non)) ∧ Mt n 61 g := fun b f hf => by
    obtain ⟨g, e, hg⟩ := hf.mt (by omega)
    refine ⟨g, ?_, hg⟩
    refine ret_ok (e := dr0 b n w wd f) ?_
    unfold mCall
    show ((F__law_closed [.lst (enc n f)]).bind _) = _
    rw [e]
    rfl
  unfold m__law_drawn_th6
  rw [seq_ok s1]
  have c : mIsB (mBin (gEq false) (mVar 2) (mC (.int 6))) (dr0 b1 n w wd f) = .ok (decide (w = 6), dr0 b1 n w wd f) := rfl
  by_cases h6 : w = 6
  · rw [decide_eq_true h6] at c
    obtain ⟨l, b2, e2, hl, hb2⟩ := mixed_call (g := [.int n, .int w, .int wd, .lst (enc n f), .non, .non, .non, .non, .non, .non, .non, .non, .non, .non, .non, .non, .non]) (ma := mVar 1) (m := n) hb1 rfl (by omega) (by omega)
    obtain ⟨f2, b3, l3, hf3, hb3⟩ := way6_loop (w := w) (wd := wd) hb2 (by omega) hl (by omega) hf
    have s2 : mIf (mIsB (mBin (gEq false) (mVar 2) (mC (.int 6)))) m__law_drawn_th5 mSkip (dr0 b1 n w wd f) = .ok (.nx (dr0 b3 n w wd f2)) := by
      rw [if_t c]
      unfold m__law_drawn_th5
      rw [seq_ok (set_ok (i := 8) e2)]
      have s3 := for_ok (rg2_env (n := n) (e0 := b2) (g := [.int w, .int wd, .lst (enc n f), .non, .non, .non, .lst (iL l), .non, .non, .non, .non, .non, .non, .non, .non, .non]) (by omega)) l3
      show mSeq _ _ [b2, .int n, .int w, .int wd, .lst (enc n f), .non, .non, .non, .lst (iL l), .non, .non, .non, .non, .non, .non, .non, .non, .non] = _
      rw [seq_ok s3]
      rfl
    obtain ⟨g, e3, hg⟩ := fin b3 f2 hf3
    exact ⟨g, b3, by rw [seq_ok s2]; exact e3, hg, hb3.mono (by omega)⟩
  · rw [decide_eq_false h6] at c
    have s2 : mIf (mIsB (mBin (gEq false) (mVar 2) (mC (.int 6)))) m__law_drawn_th5 mSkip (dr0 b1 n w wd f) = .ok (.nx (dr0 b1 n w wd f)) := if_f c
    obtain ⟨g, e3, hg⟩ := fin b1 f hf
    exact ⟨g, b1, by rw [seq_ok s2]; exact e3, hg, hb1.mono (by omega)⟩
end CqL

/-! text Po -/
set_option linter.all false
set_option maxRecDepth 100000
/-! plain law: tables of trees, the loops -/
namespace CqL
open PySem PySem.Spec L2 Cq
/-- a place joined to low, up to y -/
def joinT (f : Nat → Nat → Int) (x low : Nat) (far : Int) (y : Nat) : Nat → Nat → Int := fun i j => if i = x ∧ j < y then f low j + far else if j = x ∧ i < y then f low i + far else f i j
theorem joinT_step {f : Nat → Nat → Int} {x low y : Nat} {far : Int} (h : y < x) (hl : low < x) :
    put2 (put2 (joinT f x low far y) x y (joinT f x low far y low y + far)) y x (joinT f x low far y low y + far) = joinT f x low far (y + 1) := by
  have e : joinT f x low far y low y = f low y := by
    unfold joinT
    rw [if_neg (by omega), if_neg (by omega)]
  rw [e]
  funext i j
  unfold put2 joinT
  by_cases e1 : i = y ∧ j = x
  · rw [if_pos e1, if_neg (by omega), if_pos (by omega), e1.1]
  · rw [if_neg e1]
    by_cases e2 : i = x ∧ j = y
    · rw [if_pos e2, if_pos (by omega), e2.2]
    · rw [if_neg e2]
      by_cases e3 : i = x ∧ j < y
      · rw [if_pos e3, if_pos (by omega)]
      · rw [if_neg e3]
        by_cases e4 : j = x ∧ i < y
        · rw [if_pos e4, if_neg (by omega), if_pos (by omega)]
        · rw [if_neg e4, if_neg (by omega), if_neg (by omega)]
theorem tree_step {n x low y : Nat} {f : Nat → Nat → Int} {far : Int} {q0 q1 q2 q3 q9 : PV} (hx : x < n) (hy : y < n) (hl : low < n) :
    m__law_tree_rows_body2 [q0, q1, q2, q3, .lst (enc n f), .int x, .int low, .int far, .int y, q9] = .ok (.nx [q0, q1, q2, q3, .lst (enc n (put2 (put2 f x y (f low y + far)) y x (f low y + far))), .int x, .int low, .int far, .non, .non]) := by
  have s1 : mView (mBin gAdd (mBin gIx (mBin gIx (mVar 4) (mVar 6)) (mVar 8)) (mVar 7)) [q0, q1, q2, q3, .lst (enc n f), .int x, .int low, .int far, .int y, q9] = .ok (.int (f low y + far), [q0, q1, q2, q3, .lst (enc n f), .int x, .int low, .int far, .int y, q9]) := by
    simp [mView, mBin, mVar, ofO, ix_enc hl, ix_row hy, gAdd, orO, intOp, R.nx, nolst]
  have s2 : mView (mBin gIx (mBin gIx (mVar 4) (mVar 5)) (mVar 8)) [q0, q1, q2, q3, .lst (enc n (put2 f x y (f low y + far))), .int x, .int low, .int far, .int y, q9] = .ok (.int (f low y + far), [q0, q1, q2, q3, .lst (enc n (put2 f x y (f low y + far))), .int x, .int low, .int far, .int y, q9]) := by
    simp [mView, mBin, mVar, ofO, ix_enc hx, ix_row hy, R.nx, nolst, put2]
  have t1 := set2 (n := n) (a := x) (b := y) (i := 4) (f := f) (v := f low y + far) (m1 := pVar 5) (m2 := pVar 8) (env := [q0, q1, q2, q3, .lst (enc n f), .int x, .int low, .int far, .int y, q9]) rfl rfl rfl hx hy
  have t2 := set2 (n := n) (a := y) (b := x) (i := 4) (f := put2 f x y (f low y + far)) (v := f low y + far) (m1 := pVar 8) (m2 := pVar 5) (env := [q0, q1, q2, q3, .lst (enc n (put2 f x y (f low y + far))), .int x, .int low, .int far, .int y, q9]) rfl rfl rfl hy hx
  unfold m__law_tree_rows_body2
  rw [seq_ok (asg_ok s1 t1)]
  show mSeq _ _ [q0, q1, q2, q3, .lst (enc n (put2 f x y (f low y + far))), .int x, .int low, .int far, .int y, q9] = _
  rw [seq_ok (asg_ok s2 t2)]
  rfl
theorem tree_loop {n x low : Nat} {f : Nat → Nat → Int} {far : Int} {q0 q1 q2 q3 : PV} (hx : x < n) (hl : low < x) :
    forM [.ow, .fz, .fz, .fz, .ow2, .fz, .fz, .fz, .un, .un] (gN 8) m__law_tree_rows_body2 (iL (upto x)) [q0, q1, q2, q3, .lst (enc n f), .int x, .int low, .int far, .non, .non] = .ok (.nx [q0, q1, q2, q3, .lst (enc n (joinT f x low far x)), .int x, .int low, .int far, .non, .non]) := by
  have key := forM_inv (ML := [.ow, .fz, .fz, .fz, .ow2, .fz, .fz, .fz, .un, .un]) (g := gN 8) (body := m__law_tree_rows_body2) (ps := iL (upto x)) (n := 0) (env := [q0, q1, q2, q3, .lst (enc n f), .int x, .int low, .int far, .non, .non])
    (Inv := fun b e => e = [q0, q1, q2, q3, .lst (enc n (joinT f x low far b)), .int x, .int low, .int far, .non, .non]) (by
      have e0 : joinT f x low far 0 = f := by
        funext i j
        unfold joinT
        rw [if_neg (by omega), if_neg (by omega)]
      rw [e0]) (fun b p e hb he => by
      obtain ⟨hb1, rfl⟩ := upto_get hb
      subst he
      rw [Nat.zero_add]
      refine ⟨_, _, rfl, .inl ⟨tree_step hx (by omega) (by omega), ?_⟩⟩
      rw [joinT_step hb1 hl]
      rfl)
  obtain ⟨e, h1, rfl⟩ := key
  rw [upto_len, Nat.zero_add] at h1
  exact h1
/-- a metric on the places before x, joined -/
theorem Mt.join {x low : Nat} {b far c : Int} {f : Nat → Nat → Int} (h : Mt x b f) (hx : f x x = 0) (hl : low < x) (hb : 0 ≤ b) (hf : 1 ≤ far ∧ b + far ≤ c) : Mt (x + 1) c (joinT f x low far x) := by
  have e1 : ∀ j, j < x → joinT f x low far x x j = f low j + far := fun j hj => by unfold joinT; rw [if_pos ⟨rfl, hj⟩]
  have e2 : ∀ i, i < x → joinT f x low far x i x = f low i + far := fun i hi => by unfold joinT; rw [if_neg (by omega), if_pos ⟨rfl, hi⟩]
  have e3 : ∀ i j, i < x → j < x → joinT f x low far x i j = f i j := fun i j hi hj => by unfold joinT; rw [if_neg (by omega), if_neg (by omega)]
  have e4 : joinT f x low far x x x = 0 := by unfold joinT; rw [if_neg (by omega), if_neg (by omega), hx]
  have nn : ∀ i j, i < x → j < x → 0 ≤ f i j ∧ f i j ≤ b := fun i j hi hj => by
    by_cases e : i = j
    · subst e; rw [h.z i hi]; omega
    · have := h.p i j hi hj e; omega
  have sp : ∀ {i}, i < x + 1 → i < x ∨ i = x := fun hi => by omega
  refine ⟨fun i hi => ?_, fun i j hi hj => ?_, fun i j hi hj hij => ?_, fun i j k hi hj hk => ?_⟩
  · rcases sp hi with q | rfl
    · rw [e3 i i q q, h.z i q]
    · exact e4
  · rcases sp hi with q | rfl
    · rcases sp hj with r | rfl
      · rw [e3 i j q r, e3 j i r q, h.s i j q r]
      · rw [e2 i q, e1 i q]
    · rcases sp hj with r | rfl
      · rw [e1 j r, e2 j r]
      · rfl
  · rcases sp hi with q | rfl
    · rcases sp hj with r | rfl
      · rw [e3 i j q r]; have := h.p i j q r hij; omega
      · rw [e2 i q]; have := nn low i hl q; omega
    · rcases sp hj with r | rfl
      · rw [e1 j r]; have := nn low j hl r; omega
      · exact absurd rfl hij
  · rcases sp hi with q | rfl
    · rcases sp hj with r | rfl
      · rw [e3 i j q r]
        rcases sp hk with s | rfl
        · rw [e3 i k q s, e3 k j s r]; exact h.t i j k q r s
        · rw [e2 i q, e1 j r]
          have := h.t i j low q r hl
          rw [h.s i low q hl] at this
          omega
      · rw [e2 i q]
        rcases sp hk with s | rfl
        · rw [e3 i k q s, e2 k s]
          have := h.t low i k hl q s
          rw [h.s k i s q] at this
          omega
        · rw [e2 i q, e4]; omega
    · rcases sp hj with r | rfl
      · rw [e1 j r]
        rcases sp hk with s | rfl
        · rw [e1 k s, e3 k j s r]
          have := h.t low j k hl r s
          omega
        · rw [e4, e1 j r]; omega
      · rw [e4]
        rcases sp hk with s | rfl
        · rw [e1 k s, e2 k s]; have := nn low k hl s; omega
        · rw [e4]; omega
end CqL

/-! text Pp -/
set_option linter.all false
set_option maxRecDepth 100000
/-! plain law: tables of trees, whole -/
namespace CqL
open PySem PySem.Spec L2 Cq
theorem Mt.mono {n : Nat} {b c : Int} {f : Nat → Nat → Int} (h : Mt n b f) (k : b ≤ c) : Mt n c f :=
  ⟨h.z, h.s, fun i j hi hj hij => ⟨(h.p i j hi hj hij).1, Int.le_trans (h.p i j hi hj hij).2 k⟩, h.t⟩
theorem tree_body {d wd : Int} {bx q1 q6 q7 q8 q9 : PV} {n x : Nat} {f : Nat → Nat → Int} (hb : Bx d bx) (hd : d < 100000000) (hw : 1 ≤ wd ∧ wd ≤ 40) (hn : n ≤ 60) (hx : 1 ≤ x ∧ x < n) (hm : Mt x (40 * (x : Int)) f) (hz : ∀ i, i < n → f i i = 0) :
    ∃ f' bx', m__law_tree_rows_body3 [bx, q1, .int wd, .int n, .lst (enc n f), .int x, q6, q7, q8, q9] = .ok (.nx [bx', q1, .int wd, .int n, .lst (enc n f'), .non, .non, .non, .non, .non]) ∧ Mt (x + 1) (40 * ((x + 1 : Nat) : Int)) f' ∧ (∀ i, i < n → f' i i = 0) ∧ Bx (d + 2) bx' := by
  obtain ⟨r, b1, e1, p1, p2, h1⟩ := take_call (g := [q1, .int wd, .int n, .lst (enc n f), .int x, q6, q7, q8, q9]) (ma := mVar 5) (m := x) hb rfl (by omega) (by omega) (by omega)
  obtain ⟨r2, b2, e2, p3, p4, h2⟩ := take_call (g := [q1, .int wd, .int n, .lst (enc n f), .int x, q6, q7, q8, q9]) (ma := mVar 2) (m := wd) h1 rfl (by omega) (by omega) (by omega)
  obtain ⟨low, rfl⟩ : ∃ low : Nat, r = low := ⟨r.toNat, by omega⟩
  have hl : low < x := by omega
  have s1 := par_ok (i := 6) (j := 7) e1 (bin_ok (m1 := mC (.int 1)) rfl e2 (add_int 1 r2))
  have s2 : (mRg gRg1 (mCons (mVar 5) mNil)) [b2, q1, .int wd, .int n, .lst (enc n f), .int x, .int low, .int (1 + r2), q8, q9] = .ok (iL (upto x), [b2, q1, .int wd, .int n, .lst (enc n f), .int x, .int low, .int (1 + r2), q8, q9]) := by
    have q : mCons (mVar 5) mNil [b2, q1, .int wd, .int n, .lst (enc n f), .int x, .int low, .int (1 + r2), q8, q9] = .ok ([.int (x : Int)], [b2, q1, .int wd, .int n, .lst (enc n f), .int x, .int low, .int (1 + r2), q8, q9]) := rfl
    simp only [mRg, q, R.bind, rg1 (show x ≤ 1000000 by omega)]
  have l1 := tree_loop (q0 := b2) (q1 := q1) (q2 := .int wd) (q3 := .int n) (f := f) (far := 1 + r2) hx.2 hl
  have s3 := for_ok (ML := [.ow, .fz, .fz, .fz, .ow2, .fz, .fz, .fz, .un, .un]) s2 l1
  refine ⟨joinT f x low (1 + r2) x, b2, ?_, hm.join (hz x hx.2) hl (by omega) ⟨by omega, by omega⟩, fun i hi => ?_, h2.mono (by omega)⟩
  · unfold m__law_tree_rows_body3
    rw [seq_ok s1]
    show mSeq _ _ [b2, q1, .int wd, .int n, .lst (enc n f), .int x, .int low, .int (1 + r2), q8, q9] = _
    rw [seq_ok s3]
    rfl
  · unfold joinT
    by_cases e : i = x
    · subst e
      rw [if_neg (by omega), if_neg (by omega)]; exact hz i hi
    · rw [if_neg (by omega), if_neg (by omega)]; exact hz i hi
theorem tree_grown {d wd : Int} {bx q1 : PV} {n : Nat} (hb : Bx d bx) (hd : d < 10000000) (hw : 1 ≤ wd ∧ wd ≤ 40) (hn : 1 ≤ n ∧ n ≤ 60) :
    ∃ f bx', forM [.ow, .fz, .fz, .fz, .ow2, .un, .un, .un, .un, .un] (gN 5) m__law_tree_rows_body3 (iL (from_ 1 (n - 1))) [bx, q1, .int wd, .int n, .lst (enc n fun _ _ => 0), .non, .non, .non, .non, .non]
      = .ok (.nx [bx', q1, .int wd, .int n, .lst (enc n f), .non, .non, .non, .non, .non]) ∧ Mt n (40 * (n : Int)) f ∧ Bx (d + 2 * n) bx' := by
  obtain ⟨e, h1, f', bx', rfl, h2, h3, h4⟩ := forM_inv (ML := [.ow, .fz, .fz, .fz, .ow2, .un, .un, .un, .un, .un]) (g := gN 5) (body := m__law_tree_rows_body3) (ps := iL (from_ 1 (n - 1))) (n := 0)
    (env := [bx, q1, .int wd, .int n, .lst (enc n fun _ _ => 0), .non, .non, .non, .non, .non])
    (Inv := fun i e => ∃ f bx, e = [bx, q1, .int wd, .int n, .lst (enc n f), .non, .non, .non, .non, .non] ∧ Mt (i + 1) (40 * ((i + 1 : Nat) : Int)) f ∧ (∀ i, i < n → f i i = 0) ∧ Bx (d + 2 * (i : Int)) bx)
    ⟨_, bx, rfl, ⟨fun _ _ => rfl, fun _ _ _ _ => rfl, fun i j hi hj h => by omega, fun _ _ _ _ _ _ => by show (0 : Int) ≤ 0 + 0; omega⟩, fun _ _ => rfl, hb.mono (by omega)⟩ (fun i p e hp he => by
      rw [Nat.zero_add] at he ⊢
      obtain ⟨f, b0, rfl, hf, hz, hb0⟩ := he
      obtain ⟨hi, rfl⟩ := from_get hp
      have ek : (1 : Int) + (i : Int) = ((i + 1 : Nat) : Int) := by omega
      rw [ek]
      obtain ⟨f', b1, e1, hm, hz1, hb1⟩ := tree_body (q1 := q1) (q6 := .non) (q7 := .non) (q8 := .non) (q9 := .non) hb0 (by omega) hw hn.2 ⟨by omega, by omega⟩ hf hz
      exact ⟨_, _, rfl, .inl ⟨e1, f', b1, rfl, hm, hz1, hb1.mono (by omega)⟩⟩)
  rw [Nat.zero_add, from_len] at h2 h4
  rw [show n - 1 + 1 = n from by omega] at h2
  exact ⟨f', bx', h1, h2, h4.mono (by omega)⟩
theorem repL_ok {n : Nat} (hn : n ≤ 1000) : gRepL (.lst [.int 0]) (.int (n : Int)) = some (.lst (List.replicate n [PV.int 0]).flatten) := by
  have z : [PV.int 0].length * (n : Int).toNat ≤ sizeLine ∧ -(2 ^ 63) ≤ (n : Int) ∧ (n : Int) < 2 ^ 63 := ⟨by rw [sizeLine_eq]; simp; omega, by omega, by omega⟩
  show (if [PV.int 0].length * (n : Int).toNat ≤ sizeLine ∧ -(2 ^ 63) ≤ (n : Int) ∧ (n : Int) < 2 ^ 63 then some (PV.lst (List.replicate (n : Int).toNat [PV.int 0]).flatten) else none) = _
  rw [if_pos z, Int.toNat_natCast]
/-- rows of zeros -/
theorem zeros_ok {n : Nat} {m : MV} {env : List PV} {vs : List Nat} {i : Nat} (hn : n ≤ 1000) (h : ∀ p ∈ iL (upto n), m (env.set i p) = .ok (.int (n : Int), env.set i p)) (hw : ∀ p, wipeE vs (env.set i p) = env) (hi : i < env.length) :
    lcM vs (gN i) mYes (kElt (mBin gRepL (mArgs gLstD (mCons (mC (.int 0)) mNil)) m)) (iL (upto n)) [] env = .ok (enc n fun _ _ => 0, env) := by
  have q := lc_map (vs := vs) (g := gN i) (m := mBin gRepL (mArgs gLstD (mCons (mC (.int 0)) mNil)) m) (f := fun _ => .lst (iL (row n fun _ => 0))) (env := env) (ps := iL (upto n)) (by rw [upto_len]; omega) (fun p hp => by
    refine ⟨env.set i p, env.set i p, ?_, ?_, hw p⟩
    · rfl
    · have r1 : mArgs gLstD (mCons (mC (.int 0)) mNil) (env.set i p) = .ok (.lst [.int 0], env.set i p) := by
        have hz : (1 : Nat) ≤ sizeLine := by rw [sizeLine_eq]; omega
        simp [mArgs, mCons, mC, mNil, ofO, gLstD, hz]
      refine bin_ok r1 (h p hp) ?_
      have e : iL (row n fun _ => 0) = (List.replicate n [PV.int 0]).flatten := by
        unfold iL row
        rw [List.map_map]
        apply List.ext_getElem
        · simp
        · intro a h1 h2
          simp
      rw [e]
      exact repL_ok hn)
  have e : (iL (upto n)).map (fun _ => PV.lst (iL (row n fun _ => 0))) = enc n fun _ _ => 0 := by
    unfold iL upto enc
    rw [List.map_map, List.map_map]
    rfl
  rw [e] at q
  exact q
/-- a table read in another order -/
theorem order_ok {n m : Nat} {l : List Int} {f : Nat → Nat → Int} (hn : n ≤ 1000) (hl : l.Perm (upto n)) (hm : m ≤ n) {b c d e g h i k : PV} :
    ∃ o : Nat → Nat, (∀ a, a < m → o a < n) ∧ (∀ a b, a < m → b < m → a ≠ b → o a ≠ o b) ∧
    mLc [5] (mSq (mVar 9)) (gN 5) mYes (kElt m__law_tree_rows_elt5) [b, c, d, e, .lst (enc n f), .non, g, h, .non, .lst (iL (l.take m))] = .ok (.lst (enc m fun x y => f (o x) (o y)), [b, c, d, e, .lst (enc n f), .non, g, h, .non, .lst (iL (l.take m))]) := by
  have hlen : l.length = n := by rw [hl.length_eq]; simp [upto]
  let o : Nat → Nat := fun a => ((l[a]?).getD 0).toNat
  have ho : ∀ a, a < m → o a < n ∧ l[a]? = some ((o a : Nat) : Int) := fun a ha => by
    obtain ⟨x, hx, lx, _⟩ := ord_get hl (show a < n by omega)
    have : o a = x := by
      show ((l[a]?).getD 0).toNat = x
      rw [lx]; rfl
    rw [this]; exact ⟨hx, lx⟩
  have hrow : l.take m = row m (fun a => ((o a : Nat) : Int)) := by
    apply List.ext_getElem?
    intro a
    by_cases ha : a < m
    · rw [List.getElem?_take_of_lt ha, (ho a ha).2]
      unfold row
      rw [List.getElem?_map, List.getElem?_range ha]
      rfl
    · rw [List.getElem?_eq_none (by simp; omega), List.getElem?_eq_none (by simp [row_len]; omega)]
  refine ⟨o, fun a ha => (ho a ha).1, fun a b ha hb hab => ord_ne hl hab (ho a ha).2 (ho b hb).2, ?_⟩
  rw [hrow]
  have inner : ∀ x : Nat, x < m → mLc [8] (mSq (mVar 9)) (gN 8) mYes (kElt m__law_tree_rows_elt4) [b, c, d, e, .lst (enc n f), .int (o x), g, h, .non, .lst (iL (row m (fun a => ((o a : Nat) : Int))))] = .ok (.lst (iL (row m fun y => f (o x) (o y))), [b, c, d, e, .lst (enc n f), .int (o x), g, h, .non, .lst (iL (row m (fun a => ((o a : Nat) : Int))))]) := fun x hx => by
    have q := lc_map (vs := [8]) (g := gN 8) (m := m__law_tree_rows_elt4) (f := fun p => match p with | .int y => .int (f (o x) y.toNat) | _ => .non) (env := [b, c, d, e, .lst (enc n f), .int (o x), g, h, .non, .lst (iL (row m (fun a => ((o a : Nat) : Int))))]) (ps := iL (row m (fun a => ((o a : Nat) : Int)))) (by simp [row_len]; omega) (fun p hp => by
      obtain ⟨y, hy⟩ := List.mem_iff_getElem?.mp hp
      have hlt : y < m := by
        have := (List.getElem?_eq_some_iff.mp hy).1
        simpa [row_len] using this
      rw [row_get hlt] at hy
      cases hy
      refine ⟨_, [b, c, d, e, .lst (enc n f), .int (o x), g, h, .int (o y), .lst (iL (row m (fun a => ((o a : Nat) : Int))))], rfl, ?_, rfl⟩
      simp [m__law_tree_rows_elt4, mBin, mVar, ofO, ix_enc (ho x hx).1, ix_row (ho y hlt).1])
    have e1 : (iL (row m (fun a => ((o a : Nat) : Int)))).map (fun p => match p with | .int y => .int (f (o x) y.toNat) | _ => PV.non) = iL (row m fun y => f (o x) (o y)) := by
      unfold iL row
      rw [List.map_map, List.map_map, List.map_map]
      apply List.map_congr_left
      intro a _
      rfl
    rw [e1] at q
    exact lc_ok (ps := iL (row m (fun a => ((o a : Nat) : Int)))) (env2 := [b, c, d, e, .lst (enc n f), .int (o x), g, h, .non, .lst (iL (row m (fun a => ((o a : Nat) : Int))))]) rfl q
  have q := lc_map (vs := [5]) (g := gN 5) (m := m__law_tree_rows_elt5) (f := fun p => match p with | .int x => .lst (iL (row m fun y => f x.toNat (o y))) | _ => .non) (env := [b, c, d, e, .lst (enc n f), .non, g, h, .non, .lst (iL (row m (fun a => ((o a : Nat) : Int))))]) (ps := iL (row m (fun a => ((o a : Nat) : Int)))) (by simp [row_len]; omega) (fun p hp => by
      obtain ⟨x, hx⟩ := List.mem_iff_getElem?.mp hp
      have hlt : x < m := by
        have := (List.getElem?_eq_some_iff.mp hx).1
        simpa [row_len] using this
      rw [row_get hlt] at hx
      cases hx
      exact ⟨_, [b, c, d, e, .lst (enc n f), .int (o x), g, h, .non, .lst (iL (row m (fun a => ((o a : Nat) : Int))))], rfl, inner x hlt, rfl⟩)
  have e1 : (iL (row m (fun a => ((o a : Nat) : Int)))).map (fun p => match p with | .int x => .lst (iL (row m fun y => f x.toNat (o y))) | _ => PV.non) = enc m fun x y => f (o x) (o y) := by
    unfold iL row enc
    rw [List.map_map, List.map_map]
    apply List.map_congr_left
    intro a _
    rfl
  rw [e1] at q
  exact lc_ok (ps := iL (row m (fun a => ((o a : Nat) : Int)))) (env2 := [b, c, d, e, .lst (enc n f), .non, g, h, .non, .lst (iL (row m (fun a => ((o a : Nat) : Int))))]) rfl q
theorem Mt.ord {n m : Nat} {b : Int} {f : Nat → Nat → Int} {o : Nat → Nat} (h : Mt n b f) (ho : ∀ a, a < m → o a < n) (hi : ∀ a b, a < m → b < m → a ≠ b → o a ≠ o b) : Mt m b fun x y => f (o x) (o y) :=
  ⟨fun i q => h.z _ (ho i q), fun i j q r => h.s _ _ (ho i q) (ho j r), fun i j q r s => h.p _ _ (ho i q) (ho j r) (hi i j q r s), fun i j k q r s => h.t _ _ _ (ho i q) (ho j r) (ho k s)⟩
end CqL

/-! text Pq -/
set_option linter.all false
set_option maxRecDepth 100000
/-! plain law: the def of trees -/
namespace CqL
open PySem PySem.Spec L2 Cq
theorem slice_to {l : List Int} {m : Nat} {env env2 : List PV} {mv mm : MV} (h1 : mv env = .ok (.lst (iL l), env2)) (h2 : mm env2 = .ok (.int (m : Int), env2)) (hm : m ≤ l.length) (hl : l.length ≤ 1000) :
    mSl mv mNoPart (mPart mm) env = .ok (.lst (iL (l.take m)), env2) := by
  have hp : mPart mm env2 = .ok (some (m : Int), env2) := by
    unfold mPart
    rw [h2]
    rfl
  have hc : cutP (iL l) Option.none (some (m : Int)) = iL (l.take m) := by
    unfold cutP
    rw [HT.sIx_none, HT.sIx_nat, List.length_map, Nat.min_eq_left hm]
    simp [iL]
  unfold mSl
  rw [h1]
  show ((mPart mm env2).bind _) = _
  rw [hp]
  show ofO (some (PV.lst (cutP (iL l) Option.none (some (m : Int))))) env2 = _
  rw [hc]
  rfl
theorem tree_rows_ok {d wd : Int} {bx : PV} {n : Nat} (hb : Bx d bx) (hd : d < 1000000) (hw : 1 ≤ wd ∧ wd ≤ 40) (hn : 1 ≤ n ∧ n ≤ 20) :
    ∃ f bx', F__law_tree_rows [bx, .int n, .int wd] = .ok (.lst (enc n f), [bx', .non, .non]) ∧ Mt n (80 * (n : Int)) f ∧ Bx (d + 200) bx' := by
  obtain ⟨r, b1, e1, p1, p2, h1⟩ := take_call (g := [.int n, .int wd, .non, .non, .non, .non, .non, .non, .non]) (ma := mBin gAdd (mVar 1) (mC (.int 1))) (m := (n : Int) + 1) hb (bin_ok (m1 := mVar 1) (m2 := mC (.int 1)) (env := [bx, .int n, .int wd, .non, .non, .non, .non, .non, .non, .non]) rfl rfl (add_int n 1)) (by omega) (by omega) (by omega)
  obtain ⟨m, hm, hm2⟩ : ∃ m : Nat, (n : Int) + r = m ∧ n ≤ m ∧ m ≤ 40 := ⟨((n : Int) + r).toNat, by omega, by omega, by omega⟩
  have s1 := set_ok (i := 3) (bin_ok (m1 := mVar 1) (env := [bx, .int n, .int wd, .non, .non, .non, .non, .non, .non, .non]) rfl e1 (add_int n r))
  rw [hm] at s1
  have s2 : mLc [5] (mRg gRg1 (mCons (mVar 3) mNil)) (gN 5) mYes (kElt m__law_tree_rows_elt1) [b1, .int n, .int wd, .int m, .non, .non, .non, .non, .non, .non] = .ok (.lst (enc m fun _ _ => 0), [b1, .int n, .int wd, .int m, .non, .non, .non, .non, .non, .non]) := by
    have q : (mRg gRg1 (mCons (mVar 3) mNil)) [b1, .int n, .int wd, .int m, .non, .non, .non, .non, .non, .non] = .ok (iL (upto m), [b1, .int n, .int wd, .int m, .non, .non, .non, .non, .non, .non]) := by
      have q : mCons (mVar 3) mNil [b1, .int n, .int wd, .int m, .non, .non, .non, .non, .non, .non] = .ok ([.int (m : Int)], [b1, .int n, .int wd, .int m, .non, .non, .non, .non, .non, .non]) := rfl
      simp only [mRg, q, R.bind, rg1 (show m ≤ 1000000 by omega)]
    exact lc_ok q (zeros_ok (vs := [5]) (i := 5) (env := [b1, .int n, .int wd, .int m, .non, .non, .non, .non, .non, .non]) (by omega) (fun p _ => rfl) (fun p => rfl) (by simp))
  obtain ⟨f, b2, l1, hf, h2⟩ := tree_grown (q1 := .int n) h1 (by omega) hw (show 1 ≤ m ∧ m ≤ 60 by omega)
  have s3 : mFor [.ow, .fz, .fz, .fz, .ow2, .un, .un, .un, .un, .un] (mRg gRg2 (mCons (mC (.int 1)) (mCons (mVar 3) mNil))) (gN 5) m__law_tree_rows_body3 [b1, .int n, .int wd, .int m, .lst (enc m fun _ _ => 0), .non, .non, .non, .non, .non] = .ok (.nx [b2, .int n, .int wd, .int m, .lst (enc m f), .non, .non, .non, .non, .non]) := by
    have q : (mRg gRg2 (mCons (mC (.int 1)) (mCons (mVar 3) mNil))) [b1, .int n, .int wd, .int m, .lst (enc m fun _ _ => 0), .non, .non, .non, .non, .non] = .ok (iL (from_ 1 (m - 1)), [b1, .int n, .int wd, .int m, .lst (enc m fun _ _ => 0), .non, .non, .non, .non, .non]) := by
      have q : mCons (mC (.int 1)) (mCons (mVar 3) mNil) [b1, .int n, .int wd, .int m, .lst (enc m fun _ _ => 0), .non, .non, .non, .non, .non] = .ok ([.int 1, .int (m : Int)], [b1, .int n, .int wd, .int m, .lst (enc m fun _ _ => 0), .non, .non, .non, .non, .non]) := rfl
      have e : ((m : Int) - 1).toNat = m - 1 := by omega
      have r := rg2_ok (i := 1) (j := m) (by omega) (by omega) (by omega) (by omega)
      rw [e] at r
      simp only [mRg, q, R.bind, r]
    exact for_ok q l1
  obtain ⟨l, b3, e3, hl, h3⟩ := mixed_call (g := [.int n, .int wd, .int m, .lst (enc m f), .non, .non, .non, .non, .non]) (ma := mVar 3) (m := m) h2 rfl (by omega) (by omega)
  have hlen : l.length = m := by rw [hl.length_eq]; simp [upto]
  have s4 := set_ok (i := 9) (slice_to (mm := mVar 1) (m := n) e3 rfl (by omega) (by omega))
  obtain ⟨o, ho, hi, e5⟩ := order_ok (n := m) (m := n) (f := f) (b := b3) (c := .int n) (d := .int wd) (e := .int m) (g := .non) (h := .non) (i := .non) (k := .non) (by omega) hl hm2.1
  refine ⟨fun x y => f (o x) (o y), b3, ?_, (hf.ord ho hi).mono (by omega), h3.mono (by omega)⟩
  have e : m__law_tree_rows [bx, .int n, .int wd, .non, .non, .non, .non, .non, .non, .non] = .ok (.rt (.lst (enc n fun x y => f (o x) (o y))) [b3, .non, .non, .non, .non, .non, .non, .non, .non, .non]) := by
    unfold m__law_tree_rows
    rw [seq_ok s1]
    show mSeq _ _ [b1, .int n, .int wd, .int m, .non, .non, .non, .non, .non, .non] = _
    rw [seq_ok (set_ok (i := 4) s2)]
    show mSeq _ _ [b1, .int n, .int wd, .int m, .lst (enc m fun _ _ => 0), .non, .non, .non, .non, .non] = _
    rw [seq_ok s3, seq_ok s4]
    exact ret_ok e5
  exact def_ok (n := 10) (pms := [.ow, .fz, .fz]) (rm := .ow2) (m := m__law_tree_rows) (ps := [bx, .int n, .int wd]) e
end CqL

/-! text Pr -/
set_option linter.all false
set_option maxRecDepth 100000
/-! plain law: ways 1 and 7 -/
namespace CqL
open PySem PySem.Spec L2 Cq
/-- a table whose row x is being raised, up to y -/
structure Up (n : Nat) (b : Int) (x y : Nat) (f : Nat → Nat → Int) : Prop where
  z : ∀ i, i < n → f i i = 0
  s : ∀ i j, i < n → j < n → f i j = f j i
  p : ∀ i j, i < n → j < n → i ≠ j → 1 ≤ f i j ∧ f i j ≤ b + 2
  l : ∀ j, j < n → y ≤ j → j ≠ x → f x j ≤ b
theorem Up.step {n x y : Nat} {b v : Int} {f : Nat → Nat → Int} (h : Up n b x y f) (hne : y ≠ x) (hv : 1 ≤ v ∧ v ≤ b + 2) : Up n b x (y + 1) (putS f x y v) := by
  refine ⟨fun i hi => ?_, fun i j hi hj => ?_, fun i j hi hj hij => ?_, fun j hj hy hjx => ?_⟩
  · unfold putS put2
    rw [if_neg (by omega), if_neg (by omega), h.z i hi]
  · have := h.s i j hi hj
    unfold putS put2
    by_cases e1 : i = y ∧ j = x
    · rw [if_pos e1, if_neg (by omega), if_pos (by omega)]
    · by_cases e2 : i = x ∧ j = y
      · rw [if_neg e1, if_pos e2, if_pos (by omega)]
      · rw [if_neg e1, if_neg e2, if_neg (by omega), if_neg (by omega), this]
  · unfold putS put2
    by_cases e1 : i = y ∧ j = x
    · rw [if_pos e1]; exact hv
    · rw [if_neg e1]
      by_cases e2 : i = x ∧ j = y
      · rw [if_pos e2]; exact hv
      · rw [if_neg e2]; exact h.p i j hi hj hij
  · unfold putS put2
    rw [if_neg (by omega), if_neg (by omega)]
    exact h.l j hj (by omega) hjx
theorem mul_int {i j : Int} (h1 : -1000000 < j) (h2 : j < 1000000) : gMul (.int i) (.int j) = some (.int (i * j)) := by
  have c : cMul i j = true := by
    unfold cMul
    rw [Bool.or_eq_true]
    right
    rw [Bool.and_eq_true]
    exact ⟨decide_eq_true (by omega), decide_eq_true (by omega)⟩
  unfold gMul orO intOpC
  dsimp only
  rw [if_pos c]
theorem way7_step {d wd b : Int} {bx : PV} {n x y : Nat} {w : Int} {f : Nat → Nat → Int} (hb : Bx d bx) (hd : d < 100000000) (hx : x < n) (hy : y < n) (hu : Up n b x y f) :
    ∃ f' bx', m__law_drawn_body8 [bx, .int n, .int w, .int wd, .lst (enc n f), .int x, .int y, .non, .non, .non, .non, .non, .non, .non, .non, .non, .non, .non] =
      .ok (.nx [bx', .int n, .int w, .int wd, .lst (enc n f'), .int x, .non, .non, .non, .non, .non, .non, .non, .non, .non, .non, .non, .non]) ∧ Up n b x (y + 1) f' ∧ Bx (d + 1) bx' := by
  have c : ∀ g : List PV, mIsB (mBin (gEq true) (mVar 6) (mVar 5)) (bx :: .int n :: .int w :: .int wd :: .lst (enc n f) :: .int x :: .int y :: g) = .ok (!decide ((y : Int) = (x : Int)), bx :: .int n :: .int w :: .int wd :: .lst (enc n f) :: .int x :: .int y :: g) := fun g => rfl
  by_cases e : y = x
  · have c2 := c [.non, .non, .non, .non, .non, .non, .non, .non, .non, .non, .non]
    rw [decide_eq_true (show (y : Int) = (x : Int) by omega)] at c2
    refine ⟨f, bx, ?_, ⟨hu.z, hu.s, hu.p, fun j hj h1 h2 => hu.l j hj (by omega) h2⟩, hb.mono (by omega)⟩
    unfold m__law_drawn_body8
    rw [seq_ok (if_f (m1 := m__law_drawn_th7) (m2 := mSkip) c2)]
    rfl
  · have c2 := c [.non, .non, .non, .non, .non, .non, .non, .non, .non, .non, .non]
    rw [decide_eq_false (show ¬ (y : Int) = (x : Int) by omega)] at c2
    obtain ⟨r, b1, e1, p1, p2, h1⟩ := take_call (g := [.int n, .int w, .int wd, .lst (enc n f), .int x, .int y, .non, .non, .non, .non, .non, .non, .non, .non, .non, .non, .non]) (ma := mC (.int 2)) (m := 2) hb rfl (by omega) (by omega) (by omega)
    have s1 : mView (mBin gAdd (mBin gIx (mBin gIx (mVar 4) (mVar 5)) (mVar 6)) (mC (.int 1))) [bx, .int n, .int w, .int wd, .lst (enc n f), .int x, .int y, .non, .non, .non, .non, .non, .non, .non, .non, .non, .non, .non] = .ok (.int (f x y + 1), [bx, .int n, .int w, .int wd, .lst (enc n f), .int x, .int y, .non, .non, .non, .non, .non, .non, .non, .non, .non, .non, .non]) := by
      simp [mView, mBin, mVar, mC, ofO, ix_enc hx, ix_row hy, gAdd, orO, intOp, R.nx, nolst]
    obtain ⟨k, hk, s2⟩ : ∃ k : Int, (0 ≤ k ∧ k ≤ 1) ∧ mArgs gInt (mCons (mBin oGt (mVar 6) (mVar 5)) mNil) [b1, .int n, .int w, .int wd, .lst (enc n f), .int x, .int y, .non, .non, .non, .non, .non, .non, .non, .non, .non, .non, .non] = .ok (.int k, [b1, .int n, .int w, .int wd, .lst (enc n f), .int x, .int y, .non, .non, .non, .non, .non, .non, .non, .non, .non, .non, .non]) :=
      ⟨if decide ((x : Int) < (y : Int)) then 1 else 0, by split <;> omega, rfl⟩
    have s3 := bin_ok s1 (bin_ok e1 s2 (mul_int (i := r) (j := k) (by omega) (by omega))) (add_int _ _)
    have hv : 1 ≤ f x y + 1 + r * k ∧ f x y + 1 + r * k ≤ b + 2 := by
      have q1 := hu.p x y hx hy (Ne.symm e)
      have q2 := hu.l y hy (by omega) e
      have q3 : r = 0 ∨ r = 1 := by omega
      have q4 : k = 0 ∨ k = 1 := by omega
      rcases q3 with rfl | rfl <;> rcases q4 with rfl | rfl <;> omega
    have s4 : ∀ v, mView (mBin gIx (mBin gIx (mVar 4) (mVar 5)) (mVar 6)) [b1, .int n, .int w, .int wd, .lst (enc n (put2 f x y v)), .int x, .int y, .non, .non, .non, .non, .non, .non, .non, .non, .non, .non, .non] = .ok (.int v, [b1, .int n, .int w, .int wd, .lst (enc n (put2 f x y v)), .int x, .int y, .non, .non, .non, .non, .non, .non, .non, .non, .non, .non, .non]) := fun v => by
      simp [mView, mBin, mVar, ofO, ix_enc hx, ix_row hy, R.nx, nolst, put2]
    refine ⟨putS f x y (f x y + 1 + r * k), b1, ?_, hu.step e hv, h1⟩
    have s5 : mIf (mIsB (mBin (gEq true) (mVar 6) (mVar 5))) m__law_drawn_th7 mSkip [bx, .int n, .int w, .int wd, .lst (enc n f), .int x, .int y, .non, .non, .non, .non, .non, .non, .non, .non, .non, .non, .non] = .ok (.nx [b1, .int n, .int w, .int wd, .lst (enc n (putS f x y (f x y + 1 + r * k))), .int x, .int y, .non, .non, .non, .non, .non, .non, .non, .non, .non, .non, .non]) := by
      rw [if_t c2]
      unfold m__law_drawn_th7
      rw [seq_ok (asg_ok s3 (pair_set hx hy))]
      exact asg_ok (s4 _) (pair_set2 hx hy)
    unfold m__law_drawn_body8
    rw [seq_ok s5]
    rfl
end CqL

/-! text Ps -/
set_option linter.all false
set_option maxRecDepth 100000
/-! plain law: ways 1 and 7 whole -/
namespace CqL
open PySem PySem.Spec L2 Cq
theorem cons_ok {m : MV} {a : MA} {env e1 e2 ps : List PV} {p : PV} (h1 : m env = .ok (p, e1)) (h2 : a e1 = .ok (ps, e2)) : mCons m a env = .ok (p :: ps, e2) := by
  unfold mCons; rw [h1]; show ((a e1).bind _) = _; rw [h2]; rfl
theorem own_a {a : MA} {env e ps : List PV} (h : a env = .ok (ps, e)) : mOwnA a env = .ok (.non :: ps, e) := by
  unfold mOwnA; rw [h]; rfl
theorem args_ok {g : List PV → Option PV} {a : MA} {env e ps : List PV} {c : PV} (h : a env = .ok (ps, e)) (h2 : g ps = some c) : mArgs g a env = .ok (c, e) := by
  unfold mArgs; rw [h]; show ofO (g ps) e = _; rw [h2]; rfl
theorem view_ok {m : MV} {env e : List PV} {p : PV} (h : m env = .ok (p, e)) (h2 : nolst p = true) : mView m env = .ok (p, env) := by
  unfold mView; rw [h]; show (if nolst p = true then _ else _) = _; rw [if_pos h2]
theorem rg_ok {g : List PV → Option (List PV)} {a : MA} {env e ps qs : List PV} (h : a env = .ok (ps, e)) (h2 : g ps = some qs) : mRg g a env = .ok (qs, e) := by
  unfold mRg; rw [h]; simp only [R.bind, h2]
abbrev dr5 (bx : PV) (n : Nat) (w wd : Int) (f : Nat → Nat → Int) (x : PV) : List PV := [bx, .int n, .int w, .int wd, .lst (enc n f), x, .non, .non, .non, .non, .non, .non, .non, .non, .non, .non, .non, .non]
theorem way7_loop {d wd b : Int} {bx : PV} {n x : Nat} {w : Int} {f : Nat → Nat → Int} (hb : Bx d bx) (hd : d < 10000000) (hx : x < n) (hn : n ≤ 60) (hu : Up n b x 0 f) :
    ∃ f' bx', forM [.ow, .fz, .fz, .fz, .ow2, .fz, .un, .un, .un, .un, .un, .un, .un, .un, .un, .un, .un, .un] (gN 6) m__law_drawn_body8 (iL (upto n)) (dr5 bx n w wd f (.int x)) = .ok (.nx (dr5 bx' n w wd f' (.int x))) ∧ Up n b x n f' ∧ Bx (d + n) bx' := by
  obtain ⟨e, h1, f', bx', rfl, h2, h3⟩ := forM_inv (ML := [.ow, .fz, .fz, .fz, .ow2, .fz, .un, .un, .un, .un, .un, .un, .un, .un, .un, .un, .un, .un]) (g := gN 6) (body := m__law_drawn_body8) (ps := iL (upto n)) (n := 0)
    (env := dr5 bx n w wd f (.int x))
    (Inv := fun i e => ∃ f bx, e = dr5 bx n w wd f (.int x) ∧ Up n b x i f ∧ Bx (d + (i : Int)) bx)
    ⟨f, bx, rfl, hu, hb.mono (by omega)⟩ (fun i p e hp he => by
      rw [Nat.zero_add] at he ⊢
      obtain ⟨f, b0, rfl, hf, hb0⟩ := he
      obtain ⟨hi, rfl⟩ := upto_get hp
      obtain ⟨f', b1, e1, hm, hb1⟩ := way7_step (w := w) (wd := wd) hb0 (by omega) hx hi hf
      exact ⟨_, _, rfl, .inl ⟨e1, f', b1, rfl, hm, hb1.mono (by omega)⟩⟩)
  rw [Nat.zero_add, upto_len] at h2 h3
  exact ⟨f', bx', h1, h2, h3⟩
theorem th9_ok {d wd b : Int} {bx : PV} {n : Nat} {w : Int} {f : Nat → Nat → Int} (hb : Bx d bx) (hd : d < 1000000) (hn : 1 ≤ n ∧ n ≤ 60) (hb0 : 0 ≤ b) (hm : Mt n b f) :
    ∃ g bx', m__law_drawn_th9 (dr0 bx n w wd f) = .ok (.nx (dr0 bx' n w wd g)) ∧ Mt n (b + 2) g ∧ Bx (d + 61) bx' := by
  obtain ⟨r, b1, e1, p1, p2, h1⟩ := take_call (g := [.int n, .int w, .int wd, .lst (enc n f), .non, .non, .non, .non, .non, .non, .non, .non, .non, .non, .non, .non, .non]) (ma := mVar 1) (m := n) hb rfl (by omega) (by omega) (by omega)
  obtain ⟨x, rfl⟩ : ∃ x : Nat, r = x := ⟨r.toNat, by omega⟩
  have s1 := set_ok (i := 5) e1
  obtain ⟨f', b2, l1, hu, h2⟩ := way7_loop (w := w) (wd := wd) (f := f) (b := b) h1 (by omega) (show x < n by omega) hn.2 ⟨hm.z, hm.s, fun i j hi hj hij => ⟨(hm.p i j hi hj hij).1, by have := (hm.p i j hi hj hij).2; omega⟩, fun j hj _ hne => (hm.p x j (by omega) hj (Ne.symm hne)).2⟩
  have s2 := for_ok (rg_env (n := n) (e0 := b1) (g := [.int w, .int wd, .lst (enc n f), .int x, .non, .non, .non, .non, .non, .non, .non, .non, .non, .non, .non, .non]) (by omega)) l1
  obtain ⟨g, e3, hg⟩ := closed_mt (b := b + 2) (by omega) hu.z hu.s hu.p
  have s3 : mCall [none] F__law_closed (mCons (mVar 4) mNil) (dr5 b2 n w wd f' (.int x)) = .ok (.lst (enc n g), dr5 b2 n w wd f' (.int x)) := by
    unfold mCall
    show ((F__law_closed [.lst (enc n f')]).bind _) = _
    rw [e3]
    rfl
  refine ⟨g, b2, ?_, hg, h2.mono (by omega)⟩
  unfold m__law_drawn_th9
  rw [seq_ok s1]
  show mSeq _ _ [b1, .int n, .int w, .int wd, .lst (enc n f), .int x, .non, .non, .non, .non, .non, .non, .non, .non, .non, .non, .non, .non] = _
  rw [seq_ok s2, seq_ok (set_ok (i := 4) s3)]
  rfl
theorem th10_ok {d wd : Int} {bx : PV} {n : Nat} {w : Int} (hb : Bx d bx) (hd : d < 100000) (hw : 1 ≤ wd ∧ wd ≤ 60) (hn : 1 ≤ n ∧ n ≤ 20) :
    ∃ f bx', m__law_drawn_th10 (dr0 bx n w wd fun _ _ => 0) = .ok (.rt (.lst (enc n f)) (bx' :: List.replicate 17 .non)) ∧ Mt n (80 * (n : Int) + 2) f ∧ Bx (d + 300) bx' := by
  obtain ⟨u, hu, hmin⟩ : ∃ u : Int, (1 ≤ u ∧ u ≤ 40) ∧ gMin [.int wd, .int 40] = some (.int u) := ⟨if (40 : Int) < wd then 40 else wd, by split <;> omega, by
    unfold gMin orA gMin2
    rfl⟩
  obtain ⟨f, b1, e1, hm, h1⟩ := tree_rows_ok hb (by omega) hu hn
  have s1 : mCall [some 0, none, none] F__law_tree_rows (mOwnA (mCons (mVar 1) (mCons (mArgs gMin (mCons (mVar 3) (mCons (mC (.int 40)) mNil))) mNil))) (dr0 bx n w wd fun _ _ => 0) = .ok (.lst (enc n f), dr0 b1 n w wd fun _ _ => 0) := by
    have q : mArgs gMin (mCons (mVar 3) (mCons (mC (.int 40)) mNil)) (dr0 bx n w wd fun _ _ => 0) = .ok (.int u, dr0 bx n w wd fun _ _ => 0) := by
      unfold mArgs
      show ofO (gMin [.int wd, .int 40]) _ = _
      rw [hmin]
      rfl
    have q2 : mOwnA (mCons (mVar 1) (mCons (mArgs gMin (mCons (mVar 3) (mCons (mC (.int 40)) mNil))) mNil)) (dr0 bx n w wd fun _ _ => 0) = .ok ([.non, .int n, .int u], dr0 bx n w wd fun _ _ => 0) := by
      exact own_a (cons_ok rfl (cons_ok q rfl))
    unfold mCall
    rw [q2]
    show ((F__law_tree_rows [bx, .int n, .int u]).bind _) = _
    rw [e1]
    rfl
  have c : (mAnd (mIsB (mBin (gEq false) (mVar 2) (mC (.int 7)))) (mIsB (mBin oGt (mVar 1) (mC (.int 1))))) (dr0 b1 n w wd f) = .ok (decide (w = 7) && decide ((1 : Int) < n), dr0 b1 n w wd f) := by
    by_cases h : w = 7
    · rw [decide_eq_true h, Bool.true_and]
      have : mIsB (mBin (gEq false) (mVar 2) (mC (.int 7))) (dr0 b1 n w wd f) = .ok (decide (w = 7), dr0 b1 n w wd f) := rfl
      rw [decide_eq_true h] at this
      unfold mAnd
      rw [this]
      rfl
    · rw [decide_eq_false h, Bool.false_and]
      have : mIsB (mBin (gEq false) (mVar 2) (mC (.int 7))) (dr0 b1 n w wd f) = .ok (decide (w = 7), dr0 b1 n w wd f) := rfl
      rw [decide_eq_false h] at this
      unfold mAnd
      rw [this]
      rfl
  unfold m__law_drawn_th10
  rw [seq_ok (set_ok (i := 4) s1)]
  show ∃ g bx', mSeq _ _ (dr0 b1 n w wd f) = _ ∧ _
  cases hc : decide (w = 7) && decide ((1 : Int) < n) with
  | true =>
    rw [hc] at c
    obtain ⟨g, b2, e2, hg, h2⟩ := th9_ok (w := w) (wd := wd) h1 (by omega) (show 1 ≤ n ∧ n ≤ 60 by omega) (by omega) hm
    refine ⟨g, b2, ?_, hg, h2.mono (by omega)⟩
    rw [seq_ok (show mIf _ m__law_drawn_th9 mSkip (dr0 b1 n w wd f) = _ from (if_t c).trans e2)]
    rfl
  | false =>
    rw [hc] at c
    refine ⟨f, b1, ?_, hm.mono (by omega), h1.mono (by omega)⟩
    rw [seq_ok (show mIf _ m__law_drawn_th9 mSkip (dr0 b1 n w wd f) = .ok (.nx (dr0 b1 n w wd f)) from if_f c)]
    rfl
end CqL

/-! text Cq27 -/
set_option Elab.async false
set_option linter.all false
set_option maxRecDepth 100000
/-! Cq, part 27: mirrors are run by rewriting. -/
namespace Cq
open PySem PySem.Spec L2
section
variable {α β : Type} {Q : α → Prop} {E : Str → List (Str × PV) → Prop}
def satK (h : β → R α) (Q : α → Prop) (E : Str → List (Str × PV) → Prop) (a : β) : Prop := (h a).sat Q E
theorem satK_ap {h : β → R α} {a : β} : satK h Q E a = (h a).sat Q E := rfl
def noX (C : Str) (fs : List (Str × PV)) : Prop := False
theorem sat_bind {r : R β} {h : β → R α} : (r.bind h).sat Q E = r.sat (satK h Q E) E := by cases r <;> rfl
theorem sat_nx {r : R α} : r.nx.sat Q E = r.sat Q noX := by cases r <;> rfl
theorem sat_ok {a : α} : (R.ok a).sat Q E = Q a := rfl
theorem sat_exc {C : Str} {fs : List (Str × PV)} : (R.exc C fs : R α).sat Q E = E C fs := rfl
theorem sat_bad : (R.bad : R α).sat Q E = False := rfl
theorem bind_ok {a : α} {f : α → R β} : (R.ok a).bind f = f a := rfl
theorem bind_exc {C : Str} {fs : List (Str × PV)} {f : α → R β} : (R.exc C fs).bind f = .exc C fs := rfl
theorem bind_bad {f : α → R β} : (R.bad : R α).bind f = .bad := rfl
theorem nx_ok {a : α} : (R.ok a).nx = .ok a := rfl
theorem nx_bad : (R.bad : R α).nx = .bad := rfl
def iteB (b : Bool) (x y : α) : α := if b = true then x else y
theorem iteB_t {x y : α} : iteB true x y = x := rfl
theorem iteB_f {x y : α} : iteB false x y = y := rfl
theorem iteB_n {b : Bool} {x y : α} : iteB (!b) x y = iteB b y x := by cases b <;> rfl
theorem sat_iteB {b : Bool} {x y : R α} : (iteB b x y).sat Q E = ((b = true → x.sat Q E) ∧ (b = false → y.sat Q E)) := by cases b <;> simp [iteB]
theorem iteB_pure {b c : Bool} {e : List PV} : iteB b (R.ok (c, e)) (R.ok (false, e)) = .ok (b && c, e) := by cases b <;> rfl
theorem iteB_pure2 {b c : Bool} {e : List PV} : iteB b (R.ok (true, e)) (R.ok (c, e)) = .ok (b || c, e) := by cases b <;> rfl
theorem iteB_val {b : Bool} {p q : PV} {e : List PV} : iteB b (R.ok (p, e)) (R.ok (q, e)) = .ok (iteB b p q, e) := by cases b <;> rfl
theorem iteB_int {b : Bool} {p q : Int} : iteB b (PV.int p) (PV.int q) = .int (iteB b p q) := by cases b <;> rfl
theorem iteB_bl {b : Bool} {p q : Bool} : iteB b (PV.bl p) (PV.bl q) = .bl (iteB b p q) := by cases b <;> rfl
theorem iteB_and {b c : Bool} : iteB b c false = (b && c) := by cases b <;> rfl
theorem iteB_or {b c : Bool} : iteB b true c = (b || c) := by cases b <;> rfl
/-- a spec is used -/
theorem use_sat {r : R α} {Q2 : α → Prop} (h : r.sat Q2 noX) (k : ∀ a, Q2 a → Q a) : r.sat Q E := R.sat_mono h k fun _ _ z => z.elim
theorem use_ok {r : R α} {a : α} (h : r = .ok a) (k : Q a) : r.sat Q E := by rw [h]; exact k
theorem ok_of {r : R α} (h : r.sat Q noX) : ∃ a, r = .ok a ∧ Q a := by
  cases r with
  | ok a => exact ⟨a, rfl, h⟩
  | exc C fs => exact h.elim
  | bad => exact h.elim
theorem eq_of {r : R α} {a : α} (h : r.sat (fun b => b = a) noX) : r = .ok a := by
  obtain ⟨b, h1, rfl⟩ := ok_of h
  exact h1
theorem sat_eq {r : R α} {a : α} (h : r = .ok a) : r.sat (fun b => b = a) noX := by rw [h]; rfl
end
section
variable {m m1 m2 m3 : MV} {a : MA} {b b1 b2 : MB} {s s1 s2 : MS} {env e : List PV} {g h : PV → PV → Option PV} {p : PV}
theorem ofO_some : ofO (some p) e = .ok (p, e) := rfl
theorem ofO_none : ofO none e = .bad := rfl
theorem mOfB_some {c : Bool} : mOfB (some c) e = .ok (c, e) := rfl
theorem mVar_ap {i : Nat} : mVar i env = ofO env[i]? env := rfl
theorem mC_ap : mC p env = .ok (p, env) := rfl
def andK (b2 : MB) (r : Bool × List PV) : R (Bool × List PV) := iteB r.1 (b2 r.2) (.ok (false, r.2))
theorem andK_ap {c : Bool} : andK b2 (c, e) = iteB c (b2 e) (.ok (false, e)) := rfl
theorem mAnd_ap : mAnd b1 b2 env = (b1 env).bind (andK b2) := rfl
def orK (b2 : MB) (r : Bool × List PV) : R (Bool × List PV) := iteB r.1 (.ok (true, r.2)) (b2 r.2)
theorem orK_ap {c : Bool} : orK b2 (c, e) = iteB c (.ok (true, e)) (b2 e) := rfl
theorem mOr_ap : mOr b1 b2 env = (b1 env).bind (orK b2) := rfl
def notK (r : Bool × List PV) : R (Bool × List PV) := .ok (!r.1, r.2)
theorem notK_ap {c : Bool} : notK (c, e) = .ok (!c, e) := rfl
theorem mNot_ap : mNot b env = (b env).bind notK := rfl
def ifK {α : Type} (x y : List PV → R α) (r : Bool × List PV) : R α := iteB r.1 (x r.2) (y r.2)
theorem ifK_ap {α : Type} {x y : List PV → R α} {c : Bool} : ifK x y (c, e) = iteB c (x e) (y e) := rfl
theorem mIf_ap {α : Type} {x y : List PV → R α} : mIf b x y env = (b env).bind (ifK x y) := rfl
def andVK2 (p : PV) (m2 : MV) (z : Bool × List PV) : R (PV × List PV) := iteB z.1 (m2 z.2) (.ok (p, z.2))
theorem andVK2_ap {c : Bool} : andVK2 p m2 (c, e) = iteB c (m2 e) (.ok (p, e)) := rfl
def andVK (m2 : MV) (r : PV × List PV) : R (PV × List PV) := (mOfB (tru r.1) r.2).bind (andVK2 r.1 m2)
theorem andVK_ap : andVK m2 (p, e) = (mOfB (tru p) e).bind (andVK2 p m2) := rfl
theorem mAndV_ap : mAndV m1 m2 env = (m1 env).bind (andVK m2) := by
  unfold mAndV; congr; funext r; unfold andVK; cases h : tru r.1 with
  | none => rfl
  | some k => cases k <;> rfl
def orVK2 (p : PV) (m2 : MV) (z : Bool × List PV) : R (PV × List PV) := iteB z.1 (.ok (p, z.2)) (m2 z.2)
theorem orVK2_ap {c : Bool} : orVK2 p m2 (c, e) = iteB c (.ok (p, e)) (m2 e) := rfl
def orVK (m2 : MV) (r : PV × List PV) : R (PV × List PV) := (mOfB (tru r.1) r.2).bind (orVK2 r.1 m2)
theorem orVK_ap : orVK m2 (p, e) = (mOfB (tru p) e).bind (orVK2 p m2) := rfl
theorem mOrV_ap : mOrV m1 m2 env = (m1 env).bind (orVK m2) := by
  unfold mOrV; congr; funext r; unfold orVK; cases h : tru r.1 with
  | none => rfl
  | some k => cases k <;> rfl
def notVK2 (z : Bool × List PV) : R (PV × List PV) := .ok (.bl !z.1, z.2)
theorem notVK2_ap {c : Bool} : notVK2 (c, e) = .ok (.bl !c, e) := rfl
def notVK (r : PV × List PV) : R (PV × List PV) := (mOfB (tru r.1) r.2).bind notVK2
theorem notVK_ap : notVK (p, e) = (mOfB (tru p) e).bind notVK2 := rfl
theorem mNotV_ap : mNotV m env = (m env).bind notVK := by
  unfold mNotV; congr; funext r; unfold notVK; cases h : tru r.1 with
  | none => rfl
  | some k => cases k <;> rfl
def unK (g : PV → Option PV) (r : PV × List PV) : R (PV × List PV) := ofO (g r.1) r.2
theorem unK_ap {g : PV → Option PV} : unK g (p, e) = ofO (g p) e := rfl
theorem mUn_ap {g : PV → Option PV} : mUn g m env = (m env).bind (unK g) := rfl
def binK2 (g : PV → PV → Option PV) (p : PV) (r : PV × List PV) : R (PV × List PV) := ofO (g p r.1) r.2
theorem binK2_ap {q : PV} : binK2 g p (q, e) = ofO (g p q) e := rfl
def binK (g : PV → PV → Option PV) (m2 : MV) (r : PV × List PV) : R (PV × List PV) := (m2 r.2).bind (binK2 g r.1)
theorem binK_ap : binK g m2 (p, e) = (m2 e).bind (binK2 g p) := rfl
theorem mBin_ap : mBin g m1 m2 env = (m1 env).bind (binK g m2) := rfl
def truK (r : PV × List PV) : R (Bool × List PV) := mOfB (tru r.1) r.2
theorem truK_ap : truK (p, e) = mOfB (tru p) e := rfl
theorem mTru_ap : mTru m env = (m env).bind truK := rfl
def isbK (r : PV × List PV) : R (Bool × List PV) := mOfB (isBl r.1) r.2
theorem isbK_ap : isbK (p, e) = mOfB (isBl p) e := rfl
theorem mIsB_ap : mIsB m env = (m env).bind isbK := rfl
def chO (h : PV → PV → Option PV) (m3 : MV) (p : PV) (e : List PV) (o : Option PV) : R (PV × List PV) := (mOfB (o.bind isBl) e).bind fun z => iteB z.1 ((m3 z.2).bind (binK2 h p)) (.ok (.bl false, z.2))
def chK2 (g h : PV → PV → Option PV) (m3 : MV) (p : PV) (r : PV × List PV) : R (PV × List PV) := chO h m3 r.1 r.2 (g p r.1)
theorem chK2_ap {q : PV} : chK2 g h m3 p (q, e) = chO h m3 q e (g p q) := rfl
def chK (g h : PV → PV → Option PV) (m2 m3 : MV) (r : PV × List PV) : R (PV × List PV) := (m2 r.2).bind (chK2 g h m3 r.1)
theorem chK_ap : chK g h m2 m3 (p, e) = (m2 e).bind (chK2 g h m3 p) := rfl
theorem mChain_ap : mChain g h m1 m2 m3 env = (m1 env).bind (chK g h m2 m3) := by
  unfold mChain; congr; funext r1; unfold chK; congr; funext r2; unfold chK2
  cases w : g r1.1 r2.1 with
  | none => rfl
  | some p => cases p with
    | bl b => cases b <;> rfl
    | _ => rfl
theorem chO_b {c : Bool} : chO h m3 p e (some (.bl c)) = iteB c ((m3 e).bind (binK2 h p)) (.ok (.bl false, e)) := rfl
theorem mNil_ap : mNil env = .ok ([], env) := rfl
def consK2 (p : PV) (r : List PV × List PV) : R (List PV × List PV) := .ok (p :: r.1, r.2)
theorem consK2_ap {ps : List PV} : consK2 p (ps, e) = .ok (p :: ps, e) := rfl
def consK (a : MA) (r : PV × List PV) : R (List PV × List PV) := (a r.2).bind (consK2 r.1)
theorem consK_ap : consK a (p, e) = (a e).bind (consK2 p) := rfl
theorem mCons_ap : mCons m a env = (m env).bind (consK a) := rfl
def argsK (g : List PV → Option PV) (r : List PV × List PV) : R (PV × List PV) := ofO (g r.1) r.2
theorem argsK_ap {g : List PV → Option PV} {ps : List PV} : argsK g (ps, e) = ofO (g ps) e := rfl
theorem mArgs_ap {g : List PV → Option PV} : mArgs g a env = (a env).bind (argsK g) := rfl
def ownK (r : List PV × List PV) : R (List PV × List PV) := .ok (.non :: r.1, r.2)
theorem ownK_ap {ps : List PV} : ownK (ps, e) = .ok (.non :: ps, e) := rfl
theorem mOwnA_ap : mOwnA a env = (a env).bind ownK := rfl
def callK2 (am : List (Option Nat)) (env : List PV) (z : PV × List PV) : R (PV × List PV) := .ok (z.1, backA am z.2 env)
theorem callK2_ap {am : List (Option Nat)} {ps : List PV} : callK2 am env (p, ps) = .ok (p, backA am ps env) := rfl
def callK (am : List (Option Nat)) (F : MF) (r : List PV × List PV) : R (PV × List PV) := (F (fillA am r.1 r.2)).bind (callK2 am r.2)
theorem callK_ap {am : List (Option Nat)} {F : MF} {ps : List PV} : callK am F (ps, e) = (F (fillA am ps e)).bind (callK2 am e) := rfl
theorem mCall_ap {am : List (Option Nat)} {F : MF} : mCall am F a env = (a env).bind (callK am F) := rfl
def lenIs {α β : Type} (n : Nat) (l : List α) (x : R β) : R β := if l.length = n then x else .bad
theorem lenIs_ok {α β : Type} {l : List α} {x : R β} : lenIs l.length l x = x := if_pos rfl
def kwK3 (env : List PV) (q : PV × List PV) : R (PV × List PV) := .ok (q.1, env)
theorem kwK3_ap {ps : List PV} : kwK3 env (p, ps) = .ok (p, env) := rfl
def kwK2 (F : MF) (np : Nat) (perm : List Nat) (ps : List PV) (z : List PV × List PV) : R (PV × List PV) := lenIs np (gP perm (ps ++ z.1)) ((F (gP perm (ps ++ z.1))).bind (kwK3 z.2))
theorem kwK2_ap {F : MF} {np : Nat} {perm : List Nat} {ps qs : List PV} : kwK2 F np perm ps (qs, e) = lenIs np (gP perm (ps ++ qs)) ((F (gP perm (ps ++ qs))).bind (kwK3 e)) := rfl
def kwK (F : MF) (np : Nat) (perm : List Nat) (b : MA) (r : List PV × List PV) : R (PV × List PV) := (b r.2).bind (kwK2 F np perm r.1)
theorem kwK_ap {F : MF} {np : Nat} {perm : List Nat} {b : MA} {ps : List PV} : kwK F np perm b (ps, e) = (b e).bind (kwK2 F np perm ps) := rfl
def mkK3 (x : Str) (env : List PV) (q : List (Str × PV)) : R (PV × List PV) := .ok (.ins x q, env)
theorem mkK3_ap {x : Str} {fs : List (Str × PV)} : mkK3 x env fs = .ok (.ins x fs, env) := rfl
def mkK2 (x : Str) (F : List PV → R (List (Str × PV))) (np : Nat) (perm : List Nat) (ps : List PV) (z : List PV × List PV) : R (PV × List PV) := lenIs np (gP perm (ps ++ z.1)) ((F (gP perm (ps ++ z.1))).bind (mkK3 x z.2))
theorem mkK2_ap {x : Str} {F : List PV → R (List (Str × PV))} {np : Nat} {perm : List Nat} {ps qs : List PV} : mkK2 x F np perm ps (qs, e) = lenIs np (gP perm (ps ++ qs)) ((F (gP perm (ps ++ qs))).bind (mkK3 x e)) := rfl
def mkK (x : Str) (F : List PV → R (List (Str × PV))) (np : Nat) (perm : List Nat) (b : MA) (r : List PV × List PV) : R (PV × List PV) := (b r.2).bind (mkK2 x F np perm r.1)
theorem mkK_ap {x : Str} {F : List PV → R (List (Str × PV))} {np : Nat} {perm : List Nat} {b : MA} {ps : List PV} : mkK x F np perm b (ps, e) = (b e).bind (mkK2 x F np perm ps) := rfl
theorem mMake_ap {x : Str} {F : List PV → R (List (Str × PV))} {np : Nat} {perm : List Nat} {a b : MA} : mMake x F np perm a b env = (a env).bind (mkK x F np perm b) := rfl
theorem mCallK_ap {F : MF} {np : Nat} {perm : List Nat} {a b : MA} : mCallK F np perm a b env = (a env).bind (kwK F np perm b) := rfl
def vwK (env : List PV) (r : PV × List PV) : R (PV × List PV) := iteB (nolst r.1) (.ok (r.1, env)) .bad
theorem vwK_ap : vwK env (p, e) = iteB (nolst p) (.ok (p, env)) .bad := rfl
theorem mView_ap : mView m env = (m env).nx.bind (vwK env) := rfl
def vbK (env : List PV) (r : Bool × List PV) : R (Bool × List PV) := .ok (r.1, env)
theorem vbK_ap {c : Bool} : vbK env (c, e) = .ok (c, env) := rfl
theorem mViewB_ap : mViewB b env = (b env).nx.bind (vbK env) := rfl
def vwO (p : PV) (env : List PV) : R (PV × List PV) := match p with
  | .lst ps => iteB (nolstL ps) (.ok (.lst ps, env)) .bad
  | _ => .bad
def voK (env : List PV) (r : PV × List PV) : R (PV × List PV) := vwO r.1 env
theorem voK_ap : voK env (p, e) = vwO p env := rfl
theorem mViewO_ap : mViewO m env = (m env).nx.bind (voK env) := by
  unfold mViewO; exact congrArg _ (funext fun r => by unfold voK; cases r.1 <;> rfl)
theorem vwO_ap {ps : List PV} : vwO (.lst ps) env = iteB (nolstL ps) (.ok (.lst ps, env)) .bad := rfl
theorem nolst_int {i : Int} : nolst (.int i) = true := rfl
theorem nolst_bl {i : Bool} : nolst (.bl i) = true := rfl
theorem nolst_non : nolst .non = true := rfl
theorem nolst_str {i : Str} : nolst (.str i) = true := rfl
theorem nolst_tup {ps : List PV} : nolst (.tup ps) = nolstL ps := rfl
theorem nolst_nil : nolstL [] = true := rfl
theorem nolst_cons {ps : List PV} : nolstL (p :: ps) = (nolst p && nolstL ps) := rfl
def seqK (s2 : MS) (o : Out) : R Out := seqO o s2
theorem seqK_nx : seqK s (.nx e) = s e := rfl
theorem seqK_rt : seqK s (.rt p e) = .ok (.rt p e) := rfl
theorem seqK_bk : seqK s (.bk e) = .ok (.bk e) := rfl
theorem seqK_ct : seqK s (.ct e) = .ok (.ct e) := rfl
theorem mSeq_ap : mSeq s1 s2 env = (s1 env).bind (seqK s2) := rfl
theorem mSkip_ap : mSkip env = .ok (.nx env) := rfl
def wkO (ms : List Md) : Out → R Out
  | .nx e => .ok (.nx (clr ms e))
  | o => .ok o
theorem mWk_ap {ms : List Md} : mWk ms s env = (s env).bind (wkO ms) := by
  unfold mWk; exact congrArg _ (funext fun o => by cases o <;> rfl)
theorem wkO_nx {ms : List Md} : wkO ms (.nx e) = .ok (.nx (clr ms e)) := rfl
theorem wkO_rt {ms : List Md} : wkO ms (.rt p e) = .ok (.rt p e) := rfl
theorem wkO_bk {ms : List Md} : wkO ms (.bk e) = .ok (.bk e) := rfl
theorem wkO_ct {ms : List Md} : wkO ms (.ct e) = .ok (.ct e) := rfl
theorem mBrk_ap {ms : List Md} : mBrk ms env = .ok (.bk (clr ms env)) := rfl
theorem mCnt_ap {ms : List Md} : mCnt ms env = .ok (.ct (clr ms env)) := rfl
def dropK (r : PV × List PV) : R Out := .ok (.nx r.2)
theorem dropK_ap : dropK (p, e) = .ok (.nx e) := rfl
theorem mDrop_ap : mDrop m env = (m env).bind dropK := rfl
def retK (P : List Md) (r : PV × List PV) : R Out := .ok (.rt r.1 (clr P r.2))
theorem retK_ap {P : List Md} : retK P (p, e) = .ok (.rt p (clr P e)) := rfl
theorem mRet_ap {P : List Md} : mRet P m env = (m env).bind (retK P) := rfl
def rowO (P : List Md) (env : List PV) (o : Option PV) : R Out := match o with
  | some p => .ok (.rt p (clr P env))
  | none => .bad
theorem rowO_s {P : List Md} : rowO P env (some p) = .ok (.rt p (clr P env)) := rfl
theorem mRetOwn_ap {P : List Md} {i : Nat} : mRetOwn P i env = rowO P env env[i]? := rfl
def setK (i : Nat) (r : PV × List PV) : R Out := .ok (.nx (r.2.set i r.1))
theorem setK_ap {i : Nat} : setK i (p, e) = .ok (.nx (e.set i p)) := rfl
theorem mSet_ap {i : Nat} : mSet i m env = (m env).bind (setK i) := rfl
def parK2 (i j : Nat) (p : PV) (r : PV × List PV) : R Out := .ok (.nx ((r.2.set i p).set j r.1))
theorem parK2_ap {i j : Nat} {q : PV} : parK2 i j p (q, e) = .ok (.nx ((e.set i p).set j q)) := rfl
def parK (i j : Nat) (m2 : MV) (r : PV × List PV) : R Out := (m2 r.2).bind (parK2 i j r.1)
theorem parK_ap {i j : Nat} : parK i j m2 (p, e) = (m2 e).bind (parK2 i j p) := rfl
theorem mPar_ap {i j : Nat} : mPar i j m1 m2 env = (m1 env).bind (parK i j m2) := rfl
def asgO : Option (List PV) → R Out
  | some e => .ok (.nx e)
  | none => .bad
theorem asgO_s : asgO (some e) = .ok (.nx e) := rfl
def asgK (g : PV → List PV → Option (List PV)) (r : PV × List PV) : R Out := asgO (g r.1 r.2)
theorem asgK_ap {g : PV → List PV → Option (List PV)} : asgK g (p, e) = asgO (g p e) := rfl
theorem mAsg_ap {g : PV → List PV → Option (List PV)} : mAsg g m env = (m env).bind (asgK g) := rfl
theorem gN_ap {i : Nat} : gN i p env = some (env.set i p) := rfl
theorem gsNil_ap : gsNil [] env = some env := rfl
theorem gsCons_ap {g : PV → List PV → Option (List PV)} {h : List PV → List PV → Option (List PV)} {ps : List PV} : gsCons g h (p :: ps) env = (g p env).bind (h ps) := by
  unfold gsCons; dsimp only; cases g p env <;> rfl
theorem obind_s {α β : Type} {x : α} {f : α → Option β} : (some x).bind f = f x := rfl
theorem gSqT_t {h : List PV → List PV → Option (List PV)} {ps : List PV} : gSqT h (.tup ps) env = h ps env := rfl
theorem gSqT_l {h : List PV → List PV → Option (List PV)} {ps : List PV} : gSqT h (.lst ps) env = h ps env := rfl
theorem gTupT_t {h : List PV → List PV → Option (List PV)} {ps : List PV} : gTupT h (.tup ps) env = h ps env := rfl
def itO (o : Option (List PV)) (env : List PV) : R (List PV × List PV) := match o with
  | some ps => .ok (ps, env)
  | none => .bad
theorem itO_s {ps : List PV} : itO (some ps) env = .ok (ps, env) := rfl
def sqK (r : PV × List PV) : R (List PV × List PV) := itO (seqP r.1) r.2
theorem sqK_ap : sqK (p, e) = itO (seqP p) e := rfl
theorem mSq_ap : mSq m env = (m env).bind sqK := by
  unfold mSq; exact congrArg _ (funext fun r => by unfold sqK; cases seqP r.1 <;> rfl)
def rgK (g : List PV → Option (List PV)) (r : List PV × List PV) : R (List PV × List PV) := itO (g r.1) r.2
theorem rgK_ap {g : List PV → Option (List PV)} {ps : List PV} : rgK g (ps, e) = itO (g ps) e := rfl
theorem mRg_ap {g : List PV → Option (List PV)} : mRg g a env = (a env).bind (rgK g) := by
  unfold mRg; exact congrArg _ (funext fun r => by unfold rgK; cases g r.1 <;> rfl)
def itK (f : PV → Option (List PV)) (r : PV × List PV) : R (List PV × List PV) := itO (f r.1) r.2
theorem itK_ap {f : PV → Option (List PV)} : itK f (p, e) = itO (f p) e := rfl
theorem mIt_ap {f : PV → Option (List PV)} : mIt f m env = (m env).bind (itK f) := by
  unfold mIt; exact congrArg _ (funext fun r => by unfold itK; cases f r.1 <;> rfl)
theorem seqP_l {ps : List PV} : seqP (.lst ps) = some ps := rfl
theorem seqP_t {ps : List PV} : seqP (.tup ps) = some ps := rfl
def forK (ML : List Md) (g : PV → List PV → Option (List PV)) (s : MS) (r : List PV × List PV) : R Out := forM ML g s r.1 (clr ML r.2)
theorem forK_ap {ML : List Md} {g : PV → List PV → Option (List PV)} {ps : List PV} : forK ML g s (ps, e) = forM ML g s ps (clr ML e) := rfl
theorem mFor_ap {ML : List Md} {it : MI} {g : PV → List PV → Option (List PV)} : mFor ML it g s env = (it env).bind (forK ML g s) := rfl
theorem mWhile_ap {ML : List Md} {f : List PV → Nat} : mWhile ML f b s env = whileM ML b s (f (clr ML env)) (clr ML env) := rfl
def lcK2 (vs : List Nat) (env : List PV) (z : List PV × List PV) : R (PV × List PV) := .ok (.lst z.1, restE vs env z.2)
theorem lcK2_ap {vs : List Nat} {ps : List PV} : lcK2 vs env (ps, e) = .ok (.lst ps, restE vs env e) := rfl
def lcK (vs : List Nat) (g : PV → List PV → Option (List PV)) (t : MB) (k : List PV → List PV → R (List PV × List PV)) (r : List PV × List PV) : R (PV × List PV) := (lcM vs g t k r.1 [] (wipeE vs r.2)).bind (lcK2 vs r.2)
theorem lcK_ap {vs : List Nat} {g : PV → List PV → Option (List PV)} {k : List PV → List PV → R (List PV × List PV)} {ps : List PV} : lcK vs g b k (ps, e) = (lcM vs g b k ps [] (wipeE vs e)).bind (lcK2 vs e) := rfl
theorem mLc_ap {vs : List Nat} {it : MI} {g : PV → List PV → Option (List PV)} {k : List PV → List PV → R (List PV × List PV)} : mLc vs it g b k env = (it env).bind (lcK vs g b k) := rfl
theorem mYes_ap : mYes env = .ok (true, env) := rfl
def outD (n : Nat) (pms : List Md) (rm : Md) : Out → R (PV × List PV)
  | .rt p e => .ok (p, e.take pms.length)
  | .nx e => if rm = .fz then .ok (.non, (clr (exitN pms n) e).take pms.length) else .bad
  | _ => .bad
theorem mDef_ap {n : Nat} {pms : List Md} {rm : Md} {ps : List PV} : mDef n pms rm s ps = (s (ps ++ List.replicate (n - pms.length) .non)).bind (outD n pms rm) := by
  unfold mDef; exact congrArg _ (funext fun o => by cases o <;> rfl)
theorem outD_rt {n : Nat} {pms : List Md} {rm : Md} : outD n pms rm (.rt p e) = .ok (p, e.take pms.length) := rfl
theorem outD_nx {n : Nat} {pms : List Md} : outD n pms .fz (.nx e) = .ok (.non, (clr (exitN pms n) e).take pms.length) := rfl
def pshO (i : Nat) (p : PV) (env : List PV) : Option PV → R (PV × List PV)
  | some (.lst ps) => if ps.length < sizeLine then .ok (.non, env.set i (.lst (ps ++ [p]))) else .bad
  | _ => .bad
def pshK (i : Nat) (r : PV × List PV) : R (PV × List PV) := pshO i r.1 r.2 r.2[i]?
theorem pshK_ap {i : Nat} : pshK i (p, e) = pshO i p e e[i]? := rfl
theorem mPush_ap {i : Nat} : mPush i m env = (m env).bind (pshK i) := by
  unfold mPush; refine congrArg _ (funext fun r => ?_); unfold pshK; cases r.2[i]? with
  | none => rfl
  | some p => cases p <;> rfl
theorem pshO_s {i : Nat} {ps : List PV} (h : ps.length ≤ 1000000) : pshO i p env (some (.lst ps)) = .ok (.non, env.set i (.lst (ps ++ [p]))) := if_pos (by rw [sizeLine_eq]; omega)
def extO (i : Nat) (p : PV) (env : List PV) : Option PV → R (PV × List PV)
  | some (.lst ps) => match p with
    | .lst qs => if ps.length + qs.length ≤ sizeLine then .ok (.non, env.set i (.lst (ps ++ qs))) else .bad
    | _ => .bad
  | _ => .bad
def extK (i : Nat) (r : PV × List PV) : R (PV × List PV) := extO i r.1 r.2 r.2[i]?
theorem extK_ap {i : Nat} : extK i (p, e) = extO i p e e[i]? := rfl
theorem mExt_ap {i : Nat} : mExt i m env = (m env).bind (extK i) := by
  unfold mExt; refine congrArg _ (funext fun r => ?_); unfold extK; cases r.2[i]? with
  | none => rfl
  | some p => cases p <;> cases r.1 <;> rfl
theorem extO_s {i : Nat} {ps qs : List PV} (h : ps.length + qs.length ≤ 1000000) : extO i (.lst qs) env (some (.lst ps)) = .ok (.non, env.set i (.lst (ps ++ qs))) := if_pos (by rw [sizeLine_eq]; omega)
theorem clr_un {ms : List Md} {ps : List PV} : clr (.un :: ms) (p :: ps) = .non :: clr ms ps := rfl
theorem clr_fz {ms : List Md} {ps : List PV} : clr (.fz :: ms) (p :: ps) = p :: clr ms ps := rfl
theorem clr_ow {ms : List Md} {ps : List PV} : clr (.ow :: ms) (p :: ps) = p :: clr ms ps := rfl
theorem clr_ow2 {ms : List Md} {ps : List PV} : clr (.ow2 :: ms) (p :: ps) = p :: clr ms ps := rfl
theorem clr_nil : clr [] [] = [] := rfl
theorem fill_n {am : List (Option Nat)} {ps : List PV} : fillA (none :: am) (p :: ps) env = p :: fillA am ps env := rfl
theorem fill_s {am : List (Option Nat)} {ps : List PV} {i : Nat} : fillA (some i :: am) (p :: ps) env = env.getD i .non :: fillA am ps env := rfl
theorem fill_0 : fillA [] [] env = [] := rfl
theorem back_n {am : List (Option Nat)} {ps : List PV} : backA (none :: am) (p :: ps) env = backA am ps env := rfl
theorem back_s {am : List (Option Nat)} {ps : List PV} {i : Nat} : backA (some i :: am) (p :: ps) env = (backA am ps env).set i p := rfl
theorem back_0 : backA [] [] env = env := rfl
theorem wipe_0 : wipeE [] env = env := rfl
theorem wipe_s {v : Nat} {vs : List Nat} : wipeE (v :: vs) env = (wipeE vs env).set v .non := rfl
theorem rest_0 {e0 : List PV} : restE [] e0 env = env := rfl
theorem rest_s {v : Nat} {vs : List Nat} {e0 : List PV} : restE (v :: vs) e0 env = (restE vs e0 env).set v (e0.getD v .non) := rfl
def hdE (n : Nat) (l : List HdM) (Q : Out → Prop) (E : Str → List (Str × PV) → Prop) (C : Str) (fs : List (Str × PV)) : Prop := (mHds l C fs (List.replicate n .non)).sat Q E
theorem hdE_ap {n : Nat} {l : List HdM} {Q : Out → Prop} {E : Str → List (Str × PV) → Prop} {C : Str} {fs : List (Str × PV)} : hdE n l Q E C fs = (mHds l C fs (List.replicate n .non)).sat Q E := rfl
theorem sat_try {n : Nat} {l : List HdM} {Q : Out → Prop} {E : Str → List (Str × PV) → Prop} : (mTry n s l env).sat Q E = (s env).sat Q (hdE n l Q E) := by
  unfold mTry; cases s env <;> rfl
def partO (p : PV) (e : List PV) : R (Option Int × List PV) := match p with
  | .int i => .ok (some i, e)
  | _ => .bad
theorem partO_i {i : Int} : partO (.int i) e = .ok (some i, e) := rfl
def partK (r : PV × List PV) : R (Option Int × List PV) := partO r.1 r.2
theorem partK_ap : partK (p, e) = partO p e := rfl
theorem mPart_ap : mPart m env = (m env).bind partK := rfl
theorem mNoPart_ap : mNoPart env = .ok (none, env) := rfl
def slK3 (p : PV) (l : Option Int) (u : Option Int × List PV) : R (PV × List PV) := ofO (gSl p l u.1) u.2
theorem slK3_ap {l u : Option Int} : slK3 p l (u, e) = ofO (gSl p l u) e := rfl
def slK2 (p : PV) (hi : MO) (l : Option Int × List PV) : R (PV × List PV) := (hi l.2).bind (slK3 p l.1)
theorem slK2_ap {hi : MO} {l : Option Int} : slK2 p hi (l, e) = (hi e).bind (slK3 p l) := rfl
def slK (lo hi : MO) (r : PV × List PV) : R (PV × List PV) := (lo r.2).bind (slK2 r.1 hi)
theorem slK_ap {lo hi : MO} : slK lo hi (p, e) = (lo e).bind (slK2 p hi) := rfl
theorem mSl_ap {lo hi : MO} : mSl m lo hi env = (m env).bind (slK lo hi) := rfl
end
theorem fst_mk {α β : Type} {a : α} {b : β} : (a, b).1 = a := rfl
theorem snd_mk {α β : Type} {a : α} {b : β} : (a, b).2 = b := rfl
end Cq

/-! text Cq28 -/
set_option Elab.async false
set_option linter.all false
set_option maxRecDepth 100000
/-! Cq, part 28: loops and comprehensions, run by invariants; values. -/
namespace Cq
open PySem PySem.Spec L2
def stepO (o : Option (List PV)) (s : MS) : R Out := match o with
  | some e => s e
  | none => .bad
theorem stepO_s {e : List PV} {s : MS} : stepO (some e) s = s e := rfl
def fwd (ML : List Md) (I : List PV → Prop) (Q : Out → Prop) : Out → Prop
  | .nx e => I (clr ML e)
  | .ct e => I e
  | .bk e => Q (.nx e)
  | .rt p e => Q (.rt p e)
section
variable {ML : List Md} {I : List PV → Prop} {Q : Out → Prop} {e : List PV} {p : PV}
theorem fwd_nx : fwd ML I Q (.nx e) = I (clr ML e) := rfl
theorem fwd_ct : fwd ML I Q (.ct e) = I e := rfl
theorem fwd_bk : fwd ML I Q (.bk e) = Q (.nx e) := rfl
theorem fwd_rt : fwd ML I Q (.rt p e) = Q (.rt p e) := rfl
end
section
variable {ML : List Md} {Q : Out → Prop} {E : Str → List (Str × PV) → Prop} {g : PV → List PV → Option (List PV)} {s : MS}
theorem sat_forM_aux {I : Nat → List PV → Prop} : ∀ {ps env : List PV} {n : Nat}, I n env → (∀ i p e, ps[i]? = some p → I (n + i) e → (stepO (g p e) s).sat (fwd ML (I (n + i + 1)) Q) E) →
    (∀ e, I (n + ps.length) e → Q (.nx e)) → (forM ML g s ps env).sat Q E
  | [], env, n, h0, _, fin => fin env (by simpa using h0)
  | p :: ps, env, n, h0, step, fin => by
    have h1 := step 0 p env rfl h0
    have nxt : ∀ e3, I (n + 0 + 1) e3 → (forM ML g s ps e3).sat Q E := fun e3 hi =>
      sat_forM_aux (n := n + 1) hi (fun i q e hq hie => by
        have := step (i + 1) q e (by simpa using hq) (by rw [show n + (i + 1) = n + 1 + i from by omega]; exact hie)
        rw [show n + (i + 1) + 1 = n + 1 + i + 1 from by omega] at this
        exact this) (fun e he => fin e (by rw [List.length_cons, show n + (ps.length + 1) = n + 1 + ps.length from by omega]; exact he))
    unfold forM
    cases w : g p env with
    | none => rw [w] at h1; exact h1.elim
    | some e1 =>
      rw [w] at h1
      dsimp only
      rw [sat_bind]
      refine R.sat_mono (show (s e1).sat _ E from h1) (fun o ho => ?_) fun _ _ z => z
      cases o with
      | nx e => exact nxt _ ho
      | ct e => exact nxt _ ho
      | bk e => exact ho
      | rt v e => exact ho
theorem sat_forM (Inv : List PV → Nat → List PV → Prop) {ps env : List PV} (h0 : Inv env 0 env) (step : ∀ i p e, ps[i]? = some p → Inv env i e → (stepO (g p e) s).sat (fwd ML (Inv env (i + 1)) Q) E)
    (fin : ∀ e, Inv env ps.length e → Q (.nx e)) : (forM ML g s ps env).sat Q E :=
  sat_forM_aux (I := Inv env) (n := 0) h0 (fun i p e h1 h2 => by rw [Nat.zero_add] at h2 ⊢; exact step i p e h1 h2) (fun e h => fin e (by rw [Nat.zero_add] at h; exact h))
theorem sat_whileM {b : MB} {I : Nat → List PV → Prop} (step : ∀ k e, I k e → (b e).sat (fun r => (r.1 = true → (s r.2).sat (fwd ML (fun e2 => ∃ k2, k2 < k ∧ I k2 e2) Q) E) ∧ (r.1 = false → Q (.nx r.2))) E) :
    ∀ {f k : Nat} {env : List PV}, k < f → I k env → (whileM ML b s f env).sat Q E
  | 0, k, env, hf, _ => absurd hf (Nat.not_lt_zero _)
  | f + 1, k, env, hf, h => by
    unfold whileM
    rw [sat_bind]
    refine R.sat_mono (step k env h) (fun r hr => ?_) fun _ _ z => z
    rw [satK_ap]
    cases hb : r.1 with
    | false =>
      rw [if_neg (by simp)]
      exact hr.2 hb
    | true =>
      rw [if_pos rfl, sat_bind]
      refine R.sat_mono (hr.1 hb) (fun o ho => ?_) fun _ _ z => z
      cases o with
      | nx e => obtain ⟨k2, hk, hi⟩ := ho; exact sat_whileM step (by omega) hi
      | ct e => obtain ⟨k2, hk, hi⟩ := ho; exact sat_whileM step (by omega) hi
      | bk e => exact ho
      | rt v e => exact ho
theorem sat_while {b : MB} (Inv : List PV → Nat → List PV → Prop) {f : Nat} {env : List PV} (k : Nat) (hk : k < f) (h : Inv env k env)
    (step : ∀ k e, Inv env k e → (b e).sat (fun r => (r.1 = true → (s r.2).sat (fwd ML (fun e2 => ∃ k2, k2 < k ∧ Inv env k2 e2) Q) E) ∧ (r.1 = false → Q (.nx r.2))) E) : (whileM ML b s f env).sat Q E :=
  sat_whileM (I := Inv env) step hk h
end
/-! ### comprehensions -/
def stmK2 (vs : List Nat) (z : List PV × List PV) : R (List PV × List PV) := .ok (z.1, wipeE vs z.2)
theorem stmK2_ap {vs : List Nat} {a e : List PV} : stmK2 vs (a, e) = .ok (a, wipeE vs e) := rfl
def stmK (vs : List Nat) (k : List PV → List PV → R (List PV × List PV)) (a : List PV) (r : Bool × List PV) : R (List PV × List PV) := iteB r.1 ((k a r.2).bind (stmK2 vs)) (.ok (a, wipeE vs r.2))
theorem stmK_ap {vs : List Nat} {k : List PV → List PV → R (List PV × List PV)} {a e : List PV} {c : Bool} : stmK vs k a (c, e) = iteB c ((k a e).bind (stmK2 vs)) (.ok (a, wipeE vs e)) := rfl
def stepM (vs : List Nat) (o : Option (List PV)) (t : MB) (k : List PV → List PV → R (List PV × List PV)) (a : List PV) : R (List PV × List PV) := match o with
  | some e1 => (t e1).nx.bind (stmK vs k a)
  | none => .bad
theorem stepM_s {vs : List Nat} {e1 a : List PV} {t : MB} {k : List PV → List PV → R (List PV × List PV)} :
    stepM vs (some e1) t k a = (t e1).nx.bind (stmK vs k a) := rfl
section
variable {vs : List Nat} {Q : List PV × List PV → Prop} {E : Str → List (Str × PV) → Prop} {g : PV → List PV → Option (List PV)} {t : MB} {k : List PV → List PV → R (List PV × List PV)}
theorem sat_lcM_aux {I : Nat → List PV → List PV → Prop} : ∀ {ps acc env : List PV} {n : Nat}, I n acc env → (∀ i p a e, ps[i]? = some p → I (n + i) a e → (stepM vs (g p e) t k a).sat (fun z => I (n + i + 1) z.1 z.2) E) →
    (∀ a e, I (n + ps.length) a e → Q (a, e)) → (lcM vs g t k ps acc env).sat Q E
  | [], acc, env, n, h0, _, fin => fin acc env (by simpa using h0)
  | p :: ps, acc, env, n, h0, step, fin => by
    have h1 := step 0 p acc env rfl h0
    have nxt : ∀ a3 e3, I (n + 0 + 1) a3 e3 → (lcM vs g t k ps a3 e3).sat Q E := fun a3 e3 hi =>
      sat_lcM_aux (n := n + 1) hi (fun i q a e hq hie => by
        have := step (i + 1) q a e (by simpa using hq) (by rw [show n + (i + 1) = n + 1 + i from by omega]; exact hie)
        rw [show n + (i + 1) + 1 = n + 1 + i + 1 from by omega] at this
        exact this) (fun a e he => fin a e (by rw [List.length_cons, show n + (ps.length + 1) = n + 1 + ps.length from by omega]; exact he))
    unfold lcM
    cases w : g p env with
    | none => rw [w] at h1; exact h1.elim
    | some e1 =>
      rw [w, stepM_s, sat_bind] at h1
      dsimp only
      rw [sat_bind]
      refine R.sat_mono h1 (fun r hr => ?_) fun _ _ z => z
      unfold satK stmK at hr
      rw [satK_ap]
      rw [sat_iteB] at hr
      cases hb : r.1 with
      | true =>
        have := hr.1 hb
        rw [sat_bind] at this
        rw [if_pos rfl, sat_bind]
        exact R.sat_mono this (fun z hz => nxt _ _ hz) fun _ _ z => z
      | false =>
        rw [if_neg (by simp)]
        exact nxt _ _ (hr.2 hb)
theorem sat_lcM (Inv : List PV → Nat → List PV → List PV → Prop) {ps acc env : List PV} (h0 : Inv env 0 acc env) (step : ∀ i p a e, ps[i]? = some p → Inv env i a e → (stepM vs (g p e) t k a).sat (fun z => Inv env (i + 1) z.1 z.2) E)
    (fin : ∀ a e, Inv env ps.length a e → Q (a, e)) : (lcM vs g t k ps acc env).sat Q E :=
  sat_lcM_aux (I := Inv env) (n := 0) h0 (fun i p a e h1 h2 => by rw [Nat.zero_add] at h2 ⊢; exact step i p a e h1 h2) (fun a e h => fin a e (by rw [Nat.zero_add] at h; exact h))
def eltK (acc : List PV) (r : PV × List PV) : R (List PV × List PV) := .ok (acc ++ [r.1], r.2)
theorem eltK_ap {acc e : List PV} {p : PV} : eltK acc (p, e) = .ok (acc ++ [p], e) := rfl
theorem kElt_ap {m : MV} {acc env : List PV} (h : acc.length ≤ 1000000) : kElt m acc env = (m env).nx.bind (eltK acc) := by
  unfold kElt; congr; funext r; rw [if_pos (by rw [sizeLine_eq]; omega)]; rfl
def subK (vs : List Nat) (g : PV → List PV → Option (List PV)) (t : MB) (k : List PV → List PV → R (List PV × List PV)) (acc : List PV) (r : List PV × List PV) : R (List PV × List PV) := lcM vs g t k r.1 acc (wipeE vs r.2)
theorem subK_ap {acc ps e : List PV} : subK vs g t k acc (ps, e) = lcM vs g t k ps acc (wipeE vs e) := rfl
theorem kSub_ap {it : MI} {acc env : List PV} {vs2 : List Nat} : kSub vs2 it g t k acc env = (it env).nx.bind (subK vs2 g t k acc) := rfl
/-- each element told by its place; nothing else changes -/
def steK (vs : List Nat) (r : PV × List PV) : R (PV × List PV) := .ok (r.1, wipeE vs r.2)
theorem steK_ap {vs : List Nat} {p : PV} {e : List PV} : steK vs (p, e) = .ok (p, wipeE vs e) := rfl
def stepE (vs : List Nat) (o : Option (List PV)) (m : MV) : R (PV × List PV) := match o with
  | some e1 => (m e1).nx.bind (steK vs)
  | none => .bad
theorem stepE_s {e1 : List PV} {m : MV} : stepE vs (some e1) m = (m e1).nx.bind (steK vs) := rfl
theorem sat_lcMap (f : Nat → PV) {m : MV} {ps env : List PV} (hl : ps.length ≤ 100000) (step : ∀ i p, ps[i]? = some p → (stepE vs (g p env) m).sat (fun z => z = (f i, env)) noX)
    (fin : Q ((List.range ps.length).map f, env)) : (lcM vs g mYes (kElt m) ps [] env).sat Q E := by
  refine sat_lcM (fun E0 i a e => a = (List.range i).map f ∧ e = E0) ⟨rfl, rfl⟩ (fun i p a e hp ⟨ha, he⟩ => ?_) fun a e ⟨ha, he⟩ => by subst ha; subst he; exact fin
  subst ha; subst he
  have h1 := step i p hp
  have hi := (List.getElem?_eq_some_iff.mp hp).1
  cases w : g p e with
  | none => rw [w] at h1; exact h1.elim
  | some e1 =>
    rw [w, stepE_s] at h1
    obtain ⟨z, h2, rfl⟩ := ok_of h1
    rw [stepM_s, mYes_ap, nx_ok, bind_ok, stmK_ap, iteB_t, kElt_ap (by simp; omega)]
    cases w2 : m e1 with
    | bad => rw [w2] at h2; cases h2
    | exc C fs => rw [w2] at h2; cases h2
    | ok r =>
      rw [w2, nx_ok, bind_ok] at h2
      obtain ⟨r1, r2⟩ := r
      rw [steK_ap] at h2
      injection h2 with h2
      injection h2 with h3 h4
      subst h3
      rw [nx_ok, bind_ok, eltK_ap, bind_ok, stmK2_ap, sat_ok]
      refine ⟨?_, h4⟩
      rw [List.range_succ, List.map_append]
      rfl
end
def b2i (b : Bool) : Int := if b = true then 1 else 0
theorem b2i_t {p : Prop} [Decidable p] (h : p) : b2i (decide p) = 1 := by unfold b2i; rw [decide_eq_true h]; rfl
theorem b2i_f {p : Prop} [Decidable p] (h : ¬ p) : b2i (decide p) = 0 := by unfold b2i; rw [decide_eq_false h]; rfl
theorem b2i_b {b : Bool} : 0 ≤ b2i b ∧ b2i b ≤ 1 := by cases b <;> decide
/-! ### places of own lists -/
def set2O (i : Nat) (p : PV) (env : List PV) (a b c : Option PV) : Option (List PV) := match a, b, c with
  | some (.lst ps), some (.int k), some (.int n) => match ixN ps.length k with
    | some j => match ps[j]? with
      | some (.lst qs) => match ixN qs.length n with
        | some l => some (env.set i (.lst (ps.set j (.lst (qs.set l p)))))
        | none => none
      | _ => none
    | none => none
  | _, _, _ => none
def set1O (i : Nat) (p : PV) (env : List PV) (a b : Option PV) : Option (List PV) := match a, b with
  | some (.lst ps), some (.int k) => match ixN ps.length k with
    | some j => some (env.set i (.lst (ps.set j p)))
    | none => none
  | _, _ => none
/-! ### values -/
theorem gSetOwn2_ap {i : Nat} {m1 m2 : MP} {p : PV} {env : List PV} : gSetOwn2 i m1 m2 p env = set2O i p env env[i]? (m1 env) (m2 env) := rfl
theorem gSetOwn_ap {i : Nat} {m : MP} {p : PV} {env : List PV} : gSetOwn i m p env = set1O i p env env[i]? (m env) := rfl
theorem pVar_ap {i : Nat} {env : List PV} : pVar i env = env[i]? := rfl
theorem pC_ap {p : PV} {env : List PV} : pC p env = some p := rfl
def pbO (g : PV → PV → Option PV) (a b : Option PV) : Option PV := match a, b with
  | some p, some q => g p q
  | _, _ => none
theorem pBin_ap {g : PV → PV → Option PV} {m1 m2 : MP} {env : List PV} : pBin g m1 m2 env = pbO g (m1 env) (m2 env) := rfl
theorem pbO_s {g : PV → PV → Option PV} {p q : PV} : pbO g (some p) (some q) = g p q := rfl
section
variable {i j : Int} {ps qs : List PV} {p q a b c d : PV}
theorem add_i : gAdd (.int i) (.int j) = some (.int (i + j)) := rfl
theorem sub_i : oSub (.int i) (.int j) = some (.int (i - j)) := rfl
theorem mul_r (h1 : -1000000000 < j) (h2 : j < 1000000000) : gMul (.int i) (.int j) = some (.int (i * j)) := by
  have c : cMul i j = true := by
    unfold cMul; rw [Bool.or_eq_true, Bool.and_eq_true, Bool.and_eq_true]
    exact .inr ⟨decide_eq_true (by omega), decide_eq_true (by omega)⟩
  unfold gMul orO intOpC; dsimp only; rw [if_pos c]
theorem mul_l (h1 : -1000000000 < i) (h2 : i < 1000000000) : gMul (.int i) (.int j) = some (.int (i * j)) := by
  have c : cMul i j = true := by
    unfold cMul; rw [Bool.or_eq_true, Bool.and_eq_true, Bool.and_eq_true]
    exact .inl ⟨decide_eq_true (by omega), decide_eq_true (by omega)⟩
  unfold gMul orO intOpC; dsimp only; rw [if_pos c]
theorem div_i (h1 : 0 < j) (h2 : j < 1073741824) : oDiv (.int i) (.int j) = some (.int (i / j)) := by
  unfold oDiv intOpC cDiv; dsimp only; rw [if_pos (by rw [decide_eq_true h1, decide_eq_true h2]; rfl)]
theorem mod_i (h1 : 0 < j) : oMod (.int i) (.int j) = some (.int (i % j)) := by
  unfold oMod intOpC; dsimp only; rw [if_pos (decide_eq_true h1)]
theorem cpow_i (h0 : 0 ≤ j) (h1 : j ≤ 1000000) (h2 : -1000000000000000000 < i) (h3 : i < 1000000000000000000) : cPow i j = true := by
  unfold cPow
  rw [decide_eq_true h0, decide_eq_true h1, decide_eq_true (by omega)]; rfl
theorem shl_i (h0 : 0 ≤ j) (h1 : j ≤ 1000000) (h2 : -1000000000000000000 < i) (h3 : i < 1000000000000000000) : oShl (.int i) (.int j) = some (.int (i * 2 ^ j.toNat)) := by
  unfold oShl intOpC; dsimp only; rw [if_pos (cpow_i h0 h1 h2 h3)]
theorem shr_i (h0 : 0 ≤ j) : oShr (.int i) (.int j) = some (.int (i / 2 ^ j.toNat)) := by
  unfold oShr intOpC; dsimp only; rw [if_pos (decide_eq_true h0)]
theorem and_i : oAnd (.int i) (.int j) = some (.int (Builtin.bitAnd i j)) := rfl
theorem or_i : oOr (.int i) (.int j) = some (.int (Builtin.bitOr i j)) := rfl
theorem xor_i : oXor (.int i) (.int j) = some (.int (Builtin.bitXor i j)) := rfl
theorem lt_i : oLt (.int i) (.int j) = some (.bl (decide (i < j))) := rfl
theorem le_i : oLe (.int i) (.int j) = some (.bl (decide (i ≤ j))) := rfl
theorem gt_i : oGt (.int i) (.int j) = some (.bl (decide (j < i))) := rfl
theorem ge_i : oGe (.int i) (.int j) = some (.bl (decide (j ≤ i))) := rfl
theorem eq_i : gEq false (.int i) (.int j) = some (.bl (decide (i = j))) := rfl
theorem ne_i : gEq true (.int i) (.int j) = some (.bl (!decide (i = j))) := rfl
theorem eq_in : gEq false (.int i) .non = some (.bl false) := rfl
theorem ne_in : gEq true (.int i) .non = some (.bl true) := rfl
theorem eq_b {x y : Bool} : gEq false (.bl x) (.bl y) = some (.bl (decide (x = y))) := rfl
theorem ne_b {x y : Bool} : gEq true (.bl x) (.bl y) = some (.bl (!decide (x = y))) := rfl
theorem eq_s {x y : Str} : gEq false (.str x) (.str y) = some (.bl (decide (x = y))) := rfl
theorem ne_s {x y : Str} : gEq true (.str x) (.str y) = some (.bl (!decide (x = y))) := rfl
theorem is_n : gIs false p .non = some (.bl (isNonP p)) := by cases p <;> rfl
theorem isn_n : gIs true p .non = some (.bl (!isNonP p)) := by cases p <;> rfl
theorem isNonP_int : isNonP (.int i) = false := rfl
theorem isNonP_non : isNonP .non = true := rfl
theorem isNonP_tup : isNonP (.tup ps) = false := rfl
theorem isNonP_lst : isNonP (.lst ps) = false := rfl
theorem isNonP_bl {x : Bool} : isNonP (.bl x) = false := rfl
theorem isNonP_str {x : Str} : isNonP (.str x) = false := rfl
theorem isNonP_ins {C : Str} {fs : List (Str × PV)} : isNonP (.ins C fs) = false := rfl
theorem tru_b {x : Bool} : tru (.bl x) = some x := rfl
theorem tru_i : tru (.int i) = some (i != 0) := rfl
theorem tru_n : tru .non = some false := rfl
theorem tru_l : tru (.lst ps) = some (!ps.isEmpty) := rfl
theorem tru_t : tru (.tup ps) = some (!ps.isEmpty) := rfl
theorem isBl_b {x : Bool} : isBl (.bl x) = some x := rfl
theorem neg_i : gNeg (.int i) = some (.int (-i)) := rfl
theorem len_l : gLen [.lst ps] = some (.int (ps.length : Nat)) := rfl
theorem len_t : gLen [.tup ps] = some (.int (ps.length : Nat)) := rfl
theorem len_scr {ns : List Int} : gLen [.scr ns] = some (.int (ns.length : Nat)) := rfl
theorem abs_i : gAbs [.int i] = some (.int (if i < 0 then -i else i)) := rfl
theorem int_i : gInt [.int i] = some (.int i) := rfl
theorem int_b {x : Bool} : gInt [.bl x] = some (.int (b2i x)) := by cases x <;> rfl
theorem max_ii : gMax [.int i, .int j] = some (.int (if j > i then j else i)) := rfl
theorem min_ii : gMin [.int i, .int j] = some (.int (if j < i then j else i)) := rfl
theorem list_l : gList [.lst ps] = some (.lst ps) := rfl
theorem list_t : gList [.tup ps] = some (.lst ps) := rfl
theorem tuple_l : gTuple [.lst ps] = some (.tup ps) := rfl
theorem tuple_t : gTuple [.tup ps] = some (.tup ps) := rfl
theorem tup_n (h : ps.length ≤ 1000000) : gTupD ps = some (.tup ps) := if_pos (by rw [sizeLine_eq]; omega)
theorem lst_n (h : ps.length ≤ 1000000) : gLstD ps = some (.lst ps) := if_pos (by rw [sizeLine_eq]; omega)
theorem tup_0 : gTupD [] = some (.tup []) := rfl
theorem tup_1 : gTupD [a] = some (.tup [a]) := tup_n (by simp)
theorem tup_2 : gTupD [a, b] = some (.tup [a, b]) := tup_n (by simp)
theorem tup_3 : gTupD [a, b, c] = some (.tup [a, b, c]) := tup_n (by simp)
theorem tup_4 : gTupD [a, b, c, d] = some (.tup [a, b, c, d]) := tup_n (by simp)
theorem lst_0 : gLstD [] = some (.lst []) := rfl
theorem lst_1 : gLstD [a] = some (.lst [a]) := lst_n (by simp)
theorem lst_2 : gLstD [a, b] = some (.lst [a, b]) := lst_n (by simp)
theorem lst_3 : gLstD [a, b, c] = some (.lst [a, b, c]) := lst_n (by simp)
theorem lst_4 : gLstD [a, b, c, d] = some (.lst [a, b, c, d]) := lst_n (by simp)
theorem ixN_ok {n : Nat} (h : 0 ≤ i) (h2 : i < n) : ixN n i = some i.toNat := by
  unfold ixN
  rw [if_pos h, if_pos h2]
theorem atI_ok {α : Type} {l : List α} (h : 0 ≤ i) (h2 : i < l.length) : atI l i = l[i.toNat]? := by
  unfold atI
  rw [ixN_ok h h2]
  rfl
theorem ixl_0 : gIx (.lst (a :: ps)) (.int 0) = some a := by
  show atI _ _ = _; rw [atI_ok (by omega) (by simp only [List.length_cons]; omega)]; rfl
theorem ixl_1 : gIx (.lst (a :: b :: ps)) (.int 1) = some b := by
  show atI _ _ = _; rw [atI_ok (by omega) (by simp only [List.length_cons]; omega)]; rfl
theorem ixl_2 : gIx (.lst (a :: b :: c :: ps)) (.int 2) = some c := by
  show atI _ _ = _; rw [atI_ok (by omega) (by simp only [List.length_cons]; omega)]; rfl
theorem ixl_3 : gIx (.lst (a :: b :: c :: d :: ps)) (.int 3) = some d := by
  show atI _ _ = _; rw [atI_ok (by omega) (by simp only [List.length_cons]; omega)]; rfl
theorem ixt_0 : gIx (.tup (a :: ps)) (.int 0) = some a := by
  show atI _ _ = _; rw [atI_ok (by omega) (by simp only [List.length_cons]; omega)]; rfl
theorem ixt_1 : gIx (.tup (a :: b :: ps)) (.int 1) = some b := by
  show atI _ _ = _; rw [atI_ok (by omega) (by simp only [List.length_cons]; omega)]; rfl
theorem ixt_2 : gIx (.tup (a :: b :: c :: ps)) (.int 2) = some c := by
  show atI _ _ = _; rw [atI_ok (by omega) (by simp only [List.length_cons]; omega)]; rfl
theorem ixt_3 : gIx (.tup (a :: b :: c :: d :: ps)) (.int 3) = some d := by
  show atI _ _ = _; rw [atI_ok (by omega) (by simp only [List.length_cons]; omega)]; rfl
end
end Cq

/-! text Pt -/
set_option linter.all false
set_option maxRecDepth 100000
/-! plain law: tables, ranges, the box, for runs by rewriting -/
namespace CqL
open PySem PySem.Spec L2 Cq
theorem rgI {j : Int} (h1 : 0 ≤ j) (h2 : j ≤ 1000000) : gRg1 [.int j] = some (iL (upto j.toNat)) := by
  obtain ⟨n, rfl⟩ : ∃ n : Nat, j = n := ⟨j.toNat, by omega⟩
  rw [Int.toNat_natCast]
  exact rg1 (by omega)
theorem rgI2 {i j : Int} (h1 : -1000000 ≤ i) (h2 : i ≤ 1000000) (h3 : -1000000 ≤ j) (h4 : j ≤ 1000000) : gRg2 [.int i, .int j] = some (iL (from_ i (j - i).toNat)) := rg2_ok h1 h2 h3 h4
theorem ixe {n : Nat} {f : Nat → Nat → Int} {i : Int} (h1 : 0 ≤ i) (h2 : i < n) : gIx (.lst (enc n f)) (.int i) = some (.lst (iL (row n (f i.toNat)))) := by
  obtain ⟨k, rfl⟩ : ∃ k : Nat, i = k := ⟨i.toNat, by omega⟩
  rw [Int.toNat_natCast]
  exact ix_enc (by omega)
theorem ixr {n : Nat} {g : Nat → Int} {i : Int} (h1 : 0 ≤ i) (h2 : i < n) : gIx (.lst (iL (row n g))) (.int i) = some (.int (g i.toNat)) := by
  obtain ⟨k, rfl⟩ : ∃ k : Nat, i = k := ⟨i.toNat, by omega⟩
  rw [Int.toNat_natCast]
  exact ix_row (by omega)
theorem iL_len {l : List Int} : (iL l).length = l.length := List.length_map ..
theorem upto_l {n : Nat} : (upto n).length = n := by simp [upto]
theorem from_l {lo : Int} {n : Nat} : (from_ lo n).length = n := by simp [from_]
theorem row_l {n : Nat} {g : Nat → Int} : (row n g).length = n := row_len
theorem repL_i {j : Int} (h1 : 0 ≤ j) (h2 : j ≤ 1000) : gRepL (.lst [.int 0]) (.int j) = some (.lst (iL (row j.toNat fun _ => 0))) := by
  obtain ⟨n, rfl⟩ : ∃ n : Nat, j = n := ⟨j.toNat, by omega⟩
  rw [Int.toNat_natCast, repL_ok (by omega)]
  congr 2
  unfold iL row
  rw [List.map_map]
  apply List.ext_getElem?
  intro i
  simp [List.getElem?_map, List.getElem?_replicate]
  by_cases h : i < n <;> simp [h]
theorem take_sat {d : Int} {bx : PV} {m : Int} {Q : PV × List PV → Prop} {E : Str → List (Str × PV) → Prop} (hb : Bx d bx) (h2 : 0 < m) (h3 : m < 1073741824) (hd : d < 1000000000)
    (k : ∀ (r : Nat) b', (r : Int) < m → Bx (d + 1) b' → Q (.int r, [b', .non])) : (F__law_take [bx, .int m]).sat Q E := by
  obtain ⟨r, b, e, r0, r1, hb'⟩ := take_ok hb h2 h3 hd
  obtain ⟨n, rfl⟩ : ∃ n : Nat, r = n := ⟨r.toNat, by omega⟩
  exact use_ok e (k n b r1 hb')
/-- an order of the places -/
structure Ord (n : Nat) (o : Nat → Nat) : Prop where
  lt : ∀ a, a < n → o a < n
  ne : ∀ a b, a < n → b < n → a ≠ b → o a ≠ o b
theorem mixed_sat {d : Int} {bx : PV} {m : Int} {Q : PV × List PV → Prop} {E : Str → List (Str × PV) → Prop} (hb : Bx d bx) (h0 : 0 ≤ m) (h2 : m ≤ 900) (hd : d + m < 1000000000)
    (k : ∀ (o : Nat → Nat) b', Ord m.toNat o → Bx (d + m) b' → Q (.lst (iL (row m.toNat fun a => (o a : Nat))), [b', .non])) : (F__law_mixed [bx, .int m]).sat Q E := by
  obtain ⟨n, rfl⟩ : ∃ n : Nat, m = n := ⟨m.toNat, by omega⟩
  rw [Int.toNat_natCast] at k
  obtain ⟨l, b, e, hl, hb'⟩ := mixed_ok hb (show n ≤ 900 by omega) hd
  have hlen : l.length = n := by rw [hl.length_eq]; simp [upto]
  let o : Nat → Nat := fun a => ((l[a]?).getD 0).toNat
  have ho : ∀ a, a < n → o a < n ∧ l[a]? = some ((o a : Nat) : Int) := fun a ha => by
    obtain ⟨x, hx, lx, _⟩ := ord_get hl ha
    have e : o a = x := by
      show ((l[a]?).getD 0).toNat = x
      rw [lx]; simp
    rw [e]; exact ⟨hx, lx⟩
  have el : iL l = iL (row n fun a => (o a : Nat)) := by
    congr 1
    apply List.ext_getElem?
    intro a
    unfold row
    by_cases h : a < n
    · rw [(ho a h).2, List.getElem?_map, List.getElem?_range h]; rfl
    · rw [List.getElem?_eq_none (by omega), List.getElem?_eq_none (by simp; omega)]
  refine use_ok e ?_
  rw [el]
  exact k o b ⟨fun a h => (ho a h).1, fun a b ha hb hab => ord_ne hl hab (ho a ha).2 (ho b hb).2⟩ hb'
theorem pairs_sat {m : Int} {Q : PV × List PV → Prop} {E : Str → List (Str × PV) → Prop} (h0 : 0 ≤ m) (h2 : m ≤ 100) (k : Q (.lst (pairsTo m.toNat m.toNat), [.non])) : (F__law_pairs_in [.int m]).sat Q E := by
  obtain ⟨n, rfl⟩ : ∃ n : Nat, m = n := ⟨m.toNat, by omega⟩
  rw [Int.toNat_natCast] at k
  exact use_ok (pairs_in_ok (by omega)) k
theorem set2_e {n i : Nat} {a b v : Int} {f : Nat → Nat → Int} {env : List PV} (ha : 0 ≤ a) (ha2 : a < n) (hb : 0 ≤ b) (hb2 : b < n) :
    set2O i (.int v) env (some (.lst (enc n f))) (some (.int a)) (some (.int b)) = some (env.set i (.lst (enc n (put2 f a.toNat b.toNat v)))) := by
  obtain ⟨x, rfl⟩ : ∃ x : Nat, a = x := ⟨a.toNat, by omega⟩
  obtain ⟨y, rfl⟩ : ∃ y : Nat, b = y := ⟨b.toNat, by omega⟩
  have e1 : ixN (enc n f).length (x : Int) = some x := by rw [ixN_of (by omega) (by rw [enc_len]; omega)]; simp
  have e2 : ixN (iL (row n (f x))).length (y : Int) = some y := by rw [ixN_of (by omega) (by simp [row_len]; omega)]; simp
  unfold set2O
  dsimp only
  rw [e1]
  dsimp only
  rw [enc_get (by omega)]
  dsimp only
  rw [e2]
  dsimp only
  rw [enc_put (by omega) (by omega)]
  rfl
theorem sat_lcU {vs : List Nat} {Q : List PV × List PV → Prop} {E : Str → List (Str × PV) → Prop} {g : PV → List PV → Option (List PV)} (f : Nat → PV) {m : MV} {n : Nat} {env : List PV} (hl : n ≤ 100000) (step : ∀ x : Nat, x < n → (stepE vs (g (.int x) env) m).sat (fun z => z = (f x, env)) noX)
    (fin : Q ((List.range n).map f, env)) : (lcM vs g mYes (kElt m) (iL (upto n)) [] env).sat Q E :=
  sat_lcMap f (by rw [upto_len]; exact hl) (fun x v hv => by
    obtain ⟨h1, rfl⟩ := upto_get hv
    exact step x h1) (by rw [upto_len]; exact fin)
theorem sat_forU {ML : List Md} {Q : Out → Prop} {E : Str → List (Str × PV) → Prop} {g : PV → List PV → Option (List PV)} {s : MS} (Inv : List PV → Nat → List PV → Prop) {n : Nat} {env : List PV} (h0 : Inv env 0 env)
    (step : ∀ (x : Nat) e, x < n → Inv env x e → (stepO (g (.int x) e) s).sat (fwd ML (Inv env (x + 1)) Q) E) (fin : ∀ e, Inv env n e → Q (.nx e)) : (forM ML g s (iL (upto n)) env).sat Q E :=
  sat_forM Inv h0 (fun x v e hv hi => by
    obtain ⟨h1, rfl⟩ := upto_get hv
    exact step x e h1 hi) (fun e h => fin e (by rw [upto_len] at h; exact h))
theorem sat_forF {ML : List Md} {Q : Out → Prop} {E : Str → List (Str × PV) → Prop} {g : PV → List PV → Option (List PV)} {s : MS} (Inv : List PV → Nat → List PV → Prop) {lo : Int} {n : Nat} {env : List PV} (h0 : Inv env 0 env)
    (step : ∀ (x : Nat) e, x < n → Inv env x e → (stepO (g (.int (lo + x)) e) s).sat (fwd ML (Inv env (x + 1)) Q) E) (fin : ∀ e, Inv env n e → Q (.nx e)) : (forM ML g s (iL (from_ lo n)) env).sat Q E :=
  sat_forM Inv h0 (fun x v e hv hi => by
    obtain ⟨h1, rfl⟩ := from_get hv
    exact step x e h1 hi) (fun e h => fin e (by rw [from_len] at h; exact h))
theorem pairsTo_nd {n : Nat} : ∀ m, (pairsTo n m).Nodup
  | 0 => List.nodup_nil
  | m + 1 => by
    rw [pairsTo, List.nodup_append]
    refine ⟨pairsTo_nd m, ?_, fun a ha b hb e => ?_⟩
    · unfold pairsAt from_
      rw [List.map_map]
      exact List.Pairwise.map _ (fun a b h z => h (by
        simp only [Function.comp, PV.tup.injEq, List.cons.injEq, PV.int.injEq, and_true, true_and] at z
        omega)) List.nodup_range
    · subst e
      obtain ⟨x, y, h1, h2, h3, rfl⟩ := pairsTo_mem.mp ha
      obtain ⟨y2, h4, h5, h6⟩ := pairsAt_mem.mp hb
      have := (T2_inj h6).1
      omega
theorem fwd_mono {ML : List Md} {I I' : List PV → Prop} {Q : Out → Prop} (h : ∀ e, I e → I' e) : ∀ o, fwd ML I Q o → fwd ML I' Q o
  | .nx e, z => h _ z
  | .ct e, z => h _ z
  | .bk e, z => z
  | .rt p e, z => z
/-- a loop over all pairs -/
theorem sat_forP {ML : List Md} {Q : Out → Prop} {E : Str → List (Str × PV) → Prop} {g : PV → List PV → Option (List PV)} {s : MS} (Inv : List PV → (Nat → Nat → Prop) → List PV → Prop) {n : Nat} {env : List PV} (h0 : Inv env (fun _ _ => False) env)
    (step : ∀ (x y : Nat) d e, x < y → y < n → ¬ d x y → (∀ a b, d a b → a < b ∧ b < n) → Inv env d e → (stepO (g (T2 x y) e) s).sat (fwd ML (Inv env (fun a b => d a b ∨ (a = x ∧ b = y))) Q) E) (fin : ∀ e, Inv env (fun a b => a < b ∧ b < n) e → Q (.nx e)) : (forM ML g s (pairsTo n n) env).sat Q E := by
  have hs0 : (fun a b => seen n 0 a b) = fun _ _ => False := by
    funext a b; apply propext; constructor
    · rintro ⟨j, hj, _⟩; omega
    · exact False.elim
  refine sat_forM (fun E i e => Inv E (fun a b => seen n i a b) e) (by rw [hs0]; exact h0) (fun i p e hp hi => ?_) (fun e he => fin e ?_)
  · obtain ⟨x, y, hx, hxy, hy, rfl⟩ := pairsTo_mem.mp (List.mem_of_getElem? hp)
    have nd : ¬ seen n i x y := fun ⟨j, hj, hq⟩ => by
      obtain ⟨a1, a2⟩ := List.getElem?_eq_some_iff.mp hp
      obtain ⟨b1, b2⟩ := List.getElem?_eq_some_iff.mp hq
      exact (List.pairwise_iff_getElem.mp (pairsTo_nd n)) j i b1 a1 hj (b2.trans a2.symm)
    have hs : (fun a b => seen n (i + 1) a b) = fun a b => seen n i a b ∨ (a = x ∧ b = y) := by
      funext a b; apply propext; constructor
      · rintro ⟨j, hj, hq⟩
        by_cases hji : j < i
        · exact .inl ⟨j, hji, hq⟩
        · have : j = i := by omega
          subst this
          rw [hp] at hq
          exact .inr ((T2_inj (Option.some.inj hq)).imp Eq.symm Eq.symm)
      · rintro (⟨j, hj, hq⟩ | ⟨rfl, rfl⟩)
        · exact ⟨j, by omega, hq⟩
        · exact ⟨i, by omega, hp⟩
    rw [hs]
    exact step x y _ e hxy hy nd (fun a b ⟨j, hj, hq⟩ => by
      obtain ⟨x, y, h1, h2, h3, h4⟩ := pairsTo_mem.mp (List.mem_of_getElem? hq)
      obtain ⟨rfl, rfl⟩ := T2_inj h4
      exact ⟨h2, h3⟩) hi
  · have hs : (fun a b => seen n (pairsTo n n).length a b) = fun a b => a < b ∧ b < n := by
      funext a b; apply propext; constructor
      · rintro ⟨j, hj, hq⟩
        obtain ⟨x, y, h1, h2, h3, h4⟩ := pairsTo_mem.mp (List.mem_of_getElem? hq)
        obtain ⟨rfl, rfl⟩ := T2_inj h4
        exact ⟨h2, h3⟩
      · rintro ⟨h1, h2⟩
        obtain ⟨j, hj⟩ := List.mem_iff_getElem?.mp (pairsTo_mem.mpr ⟨a, b, show a < n by omega, h1, h2, rfl⟩)
        exact ⟨j, (List.getElem?_eq_some_iff.mp hj).1, hj⟩
    rw [hs] at he
    exact he
theorem enc_map2 {n : Nat} {f : Nat → Nat → Int} : (List.range n).map (fun i => PV.lst (iL (row n (f i)))) = enc n f := rfl
theorem row_map {n : Nat} {g : Nat → Int} : (List.range n).map (fun i => PV.int (g i)) = iL (row n g) := by
  unfold iL row; rw [List.map_map]; rfl
end CqL

/-! text Pu -/
set_option linter.all false
set_option maxRecDepth 100000
/-! plain law: way 2 -/
namespace CqL
open PySem PySem.Spec L2 Cq
local macro_rules
  | `(tactic| simp! [$xs,*]) => `(tactic| simp -implicitDefEqProofs (disch := first | omega | (simp only [List.length_append, List.length_map, List.length_range, List.length_cons, List.length_nil, List.length_set, iL_len, row_l, enc_len, upto_l, from_l]; omega)) only [satK_ap, sat_bind, sat_nx, sat_ok, sat_exc, sat_bad, bind_ok, bind_exc, bind_bad, nx_ok, nx_bad, iteB_t, iteB_f, iteB_n, sat_iteB, iteB_pure, iteB_pure2, iteB_val, iteB_int, iteB_bl, iteB_and, iteB_or, ofO_some, ofO_none, mOfB_some, mVar_ap, mC_ap, andK_ap, mAnd_ap, orK_ap, mOr_ap, notK_ap, mNot_ap, ifK_ap, mIf_ap, andVK2_ap, andVK_ap, mAndV_ap, orVK2_ap, orVK_ap, mOrV_ap, notVK2_ap, notVK_ap, mNotV_ap, unK_ap, mUn_ap, binK2_ap, binK_ap, mBin_ap, truK_ap, mTru_ap, isbK_ap, mIsB_ap, chK2_ap, chK_ap, mChain_ap, chO_b, mNil_ap, consK2_ap, consK_ap, mCons_ap, argsK_ap, mArgs_ap, ownK_ap, mOwnA_ap, callK2_ap, callK_ap, mCall_ap, lenIs_ok, kwK3_ap, kwK2_ap, kwK_ap, mkK3_ap, mkK2_ap, mkK_ap, mMake_ap, mCallK_ap, vwK_ap, mView_ap, vbK_ap, mViewB_ap, voK_ap, mViewO_ap, vwO_ap, nolst_int, nolst_bl, nolst_non, nolst_str, nolst_tup, nolst_nil, nolst_cons, seqK_nx, seqK_rt, seqK_bk, seqK_ct, mSeq_ap, mSkip_ap, mWk_ap, wkO_nx, wkO_rt, wkO_bk, wkO_ct, mBrk_ap, mCnt_ap, dropK_ap, mDrop_ap, retK_ap, mRet_ap, rowO_s, mRetOwn_ap, setK_ap, mSet_ap, parK2_ap, parK_ap, mPar_ap, asgO_s, asgK_ap, mAsg_ap, gN_ap, gsNil_ap, gsCons_ap, obind_s, gSqT_t, gSqT_l, gTupT_t, itO_s, sqK_ap, mSq_ap, rgK_ap, mRg_ap, itK_ap, mIt_ap, seqP_l, seqP_t, forK_ap, mFor_ap, mWhile_ap, lcK2_ap, lcK_ap, mLc_ap, mYes_ap, mDef_ap, outD_rt, outD_nx, pshK_ap, mPush_ap, extK_ap, mExt_ap, clr_un, clr_fz, clr_ow, clr_ow2, clr_nil, fill_n, fill_s, fill_0, back_n, back_s, back_0, wipe_0, wipe_s, rest_0, rest_s, hdE_ap, sat_try, partO_i, partK_ap, mPart_ap, mNoPart_ap, slK3_ap, slK2_ap, slK_ap, mSl_ap, pshO_s, extO_s, stepO_s, fwd_nx, fwd_ct, fwd_bk, fwd_rt, stepM_s, stmK_ap, stmK2_ap, eltK_ap, kElt_ap, kSub_ap, subK_ap, stepE_s, steK_ap, gSetOwn2_ap, gSetOwn_ap, pVar_ap, pC_ap, pBin_ap, pbO_s, add_i, sub_i, mul_r, mul_l, div_i, mod_i, shl_i, shr_i, and_i, or_i, xor_i, lt_i, le_i, gt_i, ge_i, eq_i, ne_i, eq_in, ne_in, eq_b, ne_b, eq_s, ne_s, is_n, isn_n, isNonP_int, isNonP_non, isNonP_tup, isNonP_lst, isNonP_bl, isNonP_str, isNonP_ins, tru_b, tru_i, tru_n, tru_l, tru_t, isBl_b, neg_i, len_l, len_t, len_scr, abs_i, int_i, int_b, max_ii, min_ii, list_l, list_t, tuple_l, tuple_t, tup_0, tup_1, tup_2, tup_3, tup_4, lst_0, lst_1, lst_2, lst_3, lst_4, ixl_0, ixl_1, ixl_2, ixl_3, ixt_0, ixt_1, ixt_2, ixt_3, List.set_cons_zero, List.set_cons_succ, List.getElem?_cons_zero, List.getElem?_cons_succ, List.getD_cons_zero, List.getD_cons_succ, List.take_succ_cons, List.take_zero, List.cons_append, List.nil_append, List.length_cons, List.length_nil, List.replicate_succ, List.replicate_zero, Nat.reduceSub, Nat.reduceAdd, Int.toNat_natCast, decide_eq_true_eq, decide_eq_false_iff_not, Bool.not_true, Bool.not_false, Bool.not_eq_true', Bool.not_eq_false', Bool.or_eq_true, Bool.and_eq_true, Bool.or_eq_false_iff, Bool.and_eq_false_imp, set2_e, ixe, ixr, rgI, rgI2, repL_i, row_map, $xs,*])
/-- places that grow -/
structure Gro (n : Nat) (b : Int) (p : Nat → Int) : Prop where
  g : ∀ i j, i < j → j < n → 1 ≤ p j - p i ∧ p j - p i ≤ b * ((j : Int) - i)
theorem Gro.snoc {n : Nat} {b v : Int} {p : Nat → Int} (h : Gro n b p) (hb : 1 ≤ b) (hv : n = 0 ∨ 1 ≤ v - p (n - 1) ∧ v - p (n - 1) ≤ b) : Gro (n + 1) b (fun k => if k < n then p k else v) := by
  refine ⟨fun i j hij hj => ?_⟩
  by_cases e : j < n
  · rw [if_pos e, if_pos (by omega)]; exact h.g i j hij e
  · have ej : j = n := by omega
    subst ej
    rw [if_neg e, if_pos hij]
    rcases hv with hv | hv
    · omega
    · by_cases q : i = j - 1
      · subst q
        have : b * ((j : Int) - ((j - 1 : Nat) : Int)) = b := by
          rw [show (j : Int) - ((j - 1 : Nat) : Int) = 1 from by omega, Int.mul_one]
        omega
      · have h1 := h.g i (j - 1) (by omega) (by omega)
        have : b * ((j : Int) - (i : Int)) = b * (((j - 1 : Nat) : Int) - (i : Int)) + b := by
          rw [show (j : Int) - (i : Int) = (((j - 1 : Nat) : Int) - (i : Int)) + 1 from by omega, Int.mul_add, Int.mul_one]
        omega
theorem ix_last {n : Nat} {g : Nat → Int} (h : 0 < n) : gIx (.lst (iL (row n g))) (.int (-1)) = some (.int (g (n - 1))) := by
  show atI _ _ = _
  have hl : (iL (row n g)).length = n := by rw [iL_len, row_l]
  have e : ixN (iL (row n g)).length (-1) = some (n - 1) := by
    rw [hl]
    unfold ixN
    rw [if_neg (by omega), if_pos (by omega)]
    congr 1
    omega
  unfold atI
  rw [e]
  exact row_get (by omega)
theorem row_snoc {n : Nat} {g : Nat → Int} {v : Int} : iL (row n g) ++ [PV.int v] = iL (row (n + 1) fun k => if k < n then g k else v) := by
  unfold iL row
  rw [List.range_succ, List.map_append, List.map_append]
  congr 1
  · rw [List.map_map, List.map_map]
    apply List.map_congr_left
    intro k hk
    simp [List.mem_range.mp hk]
  · simp
theorem row_0 {g : Nat → Int} : (row 0 g).isEmpty = true := rfl
theorem row_ne {n : Nat} {g : Nat → Int} (h : n ≠ 0) : (row n g).isEmpty = false := by
  cases hr : row n g with
  | nil => have := row_l (n := n) (g := g); rw [hr] at this; exact absurd this.symm h
  | cons => rfl
theorem ne_nil2 {l : List Int} : gEq true (.lst (iL l)) (.lst []) = some (.bl (!l.isEmpty)) := ne_nil l
theorem Gro.mt {n : Nat} {b : Int} {p : Nat → Int} {o : Nat → Nat} (h : Gro n b p) (hb : 1 ≤ b) (ho : Ord n o) : Mt n (b * n) fun x y => if p (o x) - p (o y) < 0 then -(p (o x) - p (o y)) else p (o x) - p (o y) := by
  have key : ∀ i j, i < n → j < n → i ≠ j → 1 ≤ (if p i - p j < 0 then -(p i - p j) else p i - p j) ∧ (if p i - p j < 0 then -(p i - p j) else p i - p j) ≤ b * n := by
    have mono : ∀ k : Int, 0 ≤ k → k ≤ n → b * k ≤ b * n := fun k h0 h1 => Int.mul_le_mul_of_nonneg_left h1 (by omega)
    intro i j hi hj hij
    rcases Nat.lt_or_gt_of_ne hij with q | q
    · have := h.g i j q hj
      have := mono ((j : Int) - i) (by omega) (by omega)
      rw [if_pos (by omega)]; omega
    · have := h.g j i q hi
      have := mono ((i : Int) - j) (by omega) (by omega)
      rw [if_neg (by omega)]; omega
  have m : Mt n (b * n) fun i j => if p i - p j < 0 then -(p i - p j) else p i - p j := ⟨fun i _ => by simp, fun i j _ _ => by
      show (if p i - p j < 0 then -(p i - p j) else p i - p j) = if p j - p i < 0 then -(p j - p i) else p j - p i
      split <;> split <;> omega, key, fun i j k _ _ _ => by
      show (if p i - p j < 0 then -(p i - p j) else p i - p j) ≤ (if p i - p k < 0 then -(p i - p k) else p i - p k) + if p k - p j < 0 then -(p k - p j) else p k - p j
      split <;> split <;> split <;> omega⟩
  exact m.ord ho.lt ho.ne
theorem enc_lc {n : Nat} {f : Nat → Nat → Int} {g : Nat → PV} (h : ∀ i, i < n → g i = .lst (iL (row n (f i)))) : (List.range n).map g = enc n f := by
  unfold enc
  exact List.map_congr_left fun i hi => h i (List.mem_range.mp hi)
theorem th14_ok {d wd : Int} {bx : PV} {n : Nat} {w : Int} (hb : Bx d bx) (hd : d < 1000000) (hw : 1 ≤ wd ∧ wd ≤ 60) (hn : 1 ≤ n ∧ n ≤ 20) :
    (m__law_drawn_th14 (dr0 bx n w wd fun _ _ => 0)).sat (fun o => ∃ f bx', o = .rt (.lst (enc n f)) (bx' :: List.replicate 17 .non) ∧ Mt n (60 * n) f ∧ Bx (d + 100) bx') noX := by
  unfold dr0
  simp! [m__law_drawn_th14]
  refine sat_while (fun E k e => ∃ i p b, i + k = n ∧ e = (E.set 0 b).set 10 (.lst (iL (row i p))) ∧ Gro i 60 p ∧ Bx (d + i) b) n (by omega) ⟨0, fun _ => 0, bx, by omega, rfl, ⟨fun i j h1 h2 => by omega⟩, hb.mono (by omega)⟩ ?_
  rintro k e ⟨i, p, b, hk, rfl, hg, hb1⟩
  simp! [iL_len, row_l]
  refine ⟨fun hi => ?_, fun hi => ?_⟩
  · by_cases h0 : i = 0
    · subst h0
      simp! [m__law_drawn_body11, ne_nil2, row_0]
      refine take_sat hb1 (by omega) (by omega) (by omega) fun r b2 hr hb2 => ?_
      simp! [row_snoc, iL_len, row_l]
      exact ⟨k - 1, by omega, 1, _, b2, by omega, rfl, hg.snoc (b := 60) (v := 0 + 1 + (r : Int)) (by omega) (.inl rfl), hb2.mono (by omega)⟩
    · simp! [m__law_drawn_body11, ne_nil2, row_ne h0, ix_last]
      refine take_sat hb1 (by omega) (by omega) (by omega) fun r b2 hr hb2 => ?_
      simp! [row_snoc, iL_len, row_l]
      exact ⟨k - 1, by omega, i + 1, _, b2, by omega, rfl, hg.snoc (b := 60) (by omega) (.inr (by omega)), hb2.mono (by omega)⟩
  · have ei : i = n := by omega
    subst ei
    refine mixed_sat hb1 (by omega) (by omega) (by omega) fun o b2 ho hb2 => ?_
    rw [Int.toNat_natCast] at ho ⊢
    simp! [rgI]
    refine sat_lcU (fun x => .lst (iL (row i fun y => if p (o x) - p (o y) < 0 then -(p (o x) - p (o y)) else p (o x) - p (o y)))) (by omega) (fun x hx => ?_) ?_
    · have := ho.lt x hx
      simp! [m__law_drawn_elt13, rgI]
      refine sat_lcU (fun y => .int (if p (o x) - p (o y) < 0 then -(p (o x) - p (o y)) else p (o x) - p (o y))) (by omega) (fun y hy => ?_) ?_
      · have := ho.lt y hy
        simp! [m__law_drawn_elt12, ixr]
      · simp! [row_map]
    · simp! [enc_lc fun _ _ => rfl]
      exact ⟨_, b2, rfl, hg.mt (by omega) ho, hb2.mono (by omega)⟩
end CqL

/-! text Pv -/
set_option linter.all false
set_option maxRecDepth 100000
/-! plain law: way 3 -/
namespace CqL
open PySem PySem.Spec L2 Cq
local macro_rules
  | `(tactic| simp! [$xs,*]) => `(tactic| simp -implicitDefEqProofs (disch := first | omega | (simp only [List.length_append, List.length_map, List.length_range, List.length_cons, List.length_nil, List.length_set, iL_len, row_l, enc_len, upto_l, from_l]; omega)) only [satK_ap, sat_bind, sat_nx, sat_ok, sat_exc, sat_bad, bind_ok, bind_exc, bind_bad, nx_ok, nx_bad, iteB_t, iteB_f, iteB_n, sat_iteB, iteB_pure, iteB_pure2, iteB_val, iteB_int, iteB_bl, iteB_and, iteB_or, ofO_some, ofO_none, mOfB_some, mVar_ap, mC_ap, andK_ap, mAnd_ap, orK_ap, mOr_ap, notK_ap, mNot_ap, ifK_ap, mIf_ap, andVK2_ap, andVK_ap, mAndV_ap, orVK2_ap, orVK_ap, mOrV_ap, notVK2_ap, notVK_ap, mNotV_ap, unK_ap, mUn_ap, binK2_ap, binK_ap, mBin_ap, truK_ap, mTru_ap, isbK_ap, mIsB_ap, chK2_ap, chK_ap, mChain_ap, chO_b, mNil_ap, consK2_ap, consK_ap, mCons_ap, argsK_ap, mArgs_ap, ownK_ap, mOwnA_ap, callK2_ap, callK_ap, mCall_ap, lenIs_ok, kwK3_ap, kwK2_ap, kwK_ap, mkK3_ap, mkK2_ap, mkK_ap, mMake_ap, mCallK_ap, vwK_ap, mView_ap, vbK_ap, mViewB_ap, voK_ap, mViewO_ap, vwO_ap, nolst_int, nolst_bl, nolst_non, nolst_str, nolst_tup, nolst_nil, nolst_cons, seqK_nx, seqK_rt, seqK_bk, seqK_ct, mSeq_ap, mSkip_ap, mWk_ap, wkO_nx, wkO_rt, wkO_bk, wkO_ct, mBrk_ap, mCnt_ap, dropK_ap, mDrop_ap, retK_ap, mRet_ap, rowO_s, mRetOwn_ap, setK_ap, mSet_ap, parK2_ap, parK_ap, mPar_ap, asgO_s, asgK_ap, mAsg_ap, gN_ap, gsNil_ap, gsCons_ap, obind_s, gSqT_t, gSqT_l, gTupT_t, itO_s, sqK_ap, mSq_ap, rgK_ap, mRg_ap, itK_ap, mIt_ap, seqP_l, seqP_t, forK_ap, mFor_ap, mWhile_ap, lcK2_ap, lcK_ap, mLc_ap, mYes_ap, mDef_ap, outD_rt, outD_nx, pshK_ap, mPush_ap, extK_ap, mExt_ap, clr_un, clr_fz, clr_ow, clr_ow2, clr_nil, fill_n, fill_s, fill_0, back_n, back_s, back_0, wipe_0, wipe_s, rest_0, rest_s, hdE_ap, sat_try, partO_i, partK_ap, mPart_ap, mNoPart_ap, slK3_ap, slK2_ap, slK_ap, mSl_ap, pshO_s, extO_s, stepO_s, fwd_nx, fwd_ct, fwd_bk, fwd_rt, stepM_s, stmK_ap, stmK2_ap, eltK_ap, kElt_ap, kSub_ap, subK_ap, stepE_s, steK_ap, gSetOwn2_ap, gSetOwn_ap, pVar_ap, pC_ap, pBin_ap, pbO_s, add_i, sub_i, mul_r, mul_l, div_i, mod_i, shl_i, shr_i, and_i, or_i, xor_i, lt_i, le_i, gt_i, ge_i, eq_i, ne_i, eq_in, ne_in, eq_b, ne_b, eq_s, ne_s, is_n, isn_n, isNonP_int, isNonP_non, isNonP_tup, isNonP_lst, isNonP_bl, isNonP_str, isNonP_ins, tru_b, tru_i, tru_n, tru_l, tru_t, isBl_b, neg_i, len_l, len_t, len_scr, abs_i, int_i, int_b, max_ii, min_ii, list_l, list_t, tuple_l, tuple_t, tup_0, tup_1, tup_2, tup_3, tup_4, lst_0, lst_1, lst_2, lst_3, lst_4, ixl_0, ixl_1, ixl_2, ixl_3, ixt_0, ixt_1, ixt_2, ixt_3, List.set_cons_zero, List.set_cons_succ, List.getElem?_cons_zero, List.getElem?_cons_succ, List.getD_cons_zero, List.getD_cons_succ, List.take_succ_cons, List.take_zero, List.cons_append, List.nil_append, List.length_cons, List.length_nil, List.replicate_succ, List.replicate_zero, Nat.reduceSub, Nat.reduceAdd, Int.toNat_natCast, decide_eq_true_eq, decide_eq_false_iff_not, Bool.not_true, Bool.not_false, Bool.not_eq_true', Bool.not_eq_false', Bool.or_eq_true, Bool.and_eq_true, Bool.or_eq_false_iff, Bool.and_eq_false_imp, set2_e, ixe, ixr, rgI, rgI2, repL_i, row_map, $xs,*])
def sy (f : Nat → Nat → Int) (i j : Nat) : Int := if i < j then f i j else if j < i then f j i else 0
/-- the upper half of a table, with no way over a third one that is shorter -/
structure Hf (n : Nat) (b : Int) (f : Nat → Nat → Int) : Prop where
  z : ∀ i, i < n → f i i = 0
  p : ∀ i j, i < j → j < n → 0 ≤ f i j ∧ f i j ≤ b
  t : ∀ i j k, i < n → j < n → k < n → sy f i j ≤ sy f i k + sy f k j
theorem Hf.add {n : Nat} {b c w : Int} {f : Nat → Nat → Int} {s : Nat → Int} (h : Hf n b f) (hw : 0 ≤ w ∧ b + w ≤ c) : Hf n c fun i j => f i j + w * if s i = s j then 0 else 1 := by
  have m : ∀ i j, w * (if s i = s j then 0 else 1) = if s i = s j then 0 else w := fun i j => by split <;> simp
  refine ⟨fun i hi => by simp [h.z i hi], fun i j hij hj => ?_, fun i j k hi hj hk => ?_⟩
  · have := h.p i j hij hj
    rw [m]; split <;> omega
  · have e : ∀ i j, sy (fun i j => f i j + w * if s i = s j then 0 else 1) i j = sy f i j + if s i = s j then 0 else w := fun i j => by
      unfold sy
      by_cases h1 : i < j
      · rw [if_pos h1, if_pos h1]; exact congrArg _ (m i j)
      · by_cases h2 : j < i
        · rw [if_neg h1, if_pos h2, if_neg h1, if_pos h2]
          show f j i + w * (if s j = s i then 0 else 1) = _
          rw [m]
          by_cases h3 : s i = s j
          · rw [if_pos h3, if_pos h3.symm]
          · rw [if_neg h3, if_neg (Ne.symm h3)]
        · have : i = j := by omega
          subst this
          simp
    rw [e, e, e]
    have := h.t i j k hi hj hk
    by_cases h1 : s i = s k
    · by_cases h2 : s k = s j
      · rw [if_pos h1, if_pos h2, if_pos (h1.trans h2)]; omega
      · rw [if_pos h1, if_neg h2]; split <;> omega
    · rw [if_neg h1]; split <;> split <;> omega
theorem Hf.mono {n : Nat} {b c : Int} {f : Nat → Nat → Int} (h : Hf n b f) (hw : b ≤ c) : Hf n c f :=
  ⟨h.z, fun i j hij hj => ⟨(h.p i j hij hj).1, Int.le_trans (h.p i j hij hj).2 hw⟩, h.t⟩
theorem Hf.mt {n : Nat} {b : Int} {f g : Nat → Nat → Int} (h : Hf n b f) (hb : 0 ≤ b) (hg : ∀ i j, i < n → j < n → g i j = if i = j then 0 else sy f i j + 2) : Mt n (b + 2) g := by
  have sw : ∀ i j, sy f i j = sy f j i := fun i j => by
    unfold sy
    by_cases h1 : i < j
    · rw [if_pos h1, if_neg (by omega), if_pos h1]
    · by_cases h2 : j < i
      · rw [if_neg h1, if_pos h2, if_pos h2]
      · rw [if_neg h1, if_neg h2, if_neg h2, if_neg h1]
  have bd : ∀ i j, i < n → j < n → 0 ≤ sy f i j ∧ sy f i j ≤ b := fun i j hi hj => by
    unfold sy
    by_cases h1 : i < j
    · rw [if_pos h1]; exact h.p i j h1 hj
    · by_cases h2 : j < i
      · rw [if_neg h1, if_pos h2]; exact h.p j i h2 hi
      · rw [if_neg h1, if_neg h2]; omega
  refine ⟨fun i hi => by rw [hg i i hi hi, if_pos rfl], fun i j hi hj => ?_, fun i j hi hj hij => ?_, fun i j k hi hj hk => ?_⟩
  · rw [hg i j hi hj, hg j i hj hi, sw i j]
    by_cases e : i = j
    · rw [if_pos e, if_pos e.symm]
    · rw [if_neg e, if_neg (Ne.symm e)]
  · rw [hg i j hi hj, if_neg hij]
    have := bd i j hi hj; omega
  · have := h.t i j k hi hj hk
    have := bd i j hi hj; have := bd i k hi hk; have := bd k j hk hj
    rw [hg i j hi hj, hg i k hi hk, hg k j hk hj]
    by_cases e1 : i = j
    · rw [if_pos e1]; split <;> split <;> omega
    · rw [if_neg e1]
      by_cases e2 : i = k
      · subst e2
        rw [if_pos rfl, if_neg e1]; omega
      · rw [if_neg e2]
        by_cases e3 : k = j
        · subst e3; rw [if_pos rfl]; omega
        · rw [if_neg e3]; omega
theorem Hf.congr {n : Nat} {b : Int} {f g : Nat → Nat → Int} (h : Hf n b f) (e : ∀ i j, i < j → j < n → g i j = f i j) (z : ∀ i, i < n → g i i = 0) : Hf n b g := by
  have es : ∀ i j, i < n → j < n → sy g i j = sy f i j := fun i j hi hj => by
    unfold sy
    by_cases h1 : i < j
    · rw [if_pos h1, if_pos h1, e i j h1 hj]
    · by_cases h2 : j < i
      · rw [if_neg h1, if_neg h1, if_pos h2, if_pos h2, e j i h2 hi]
      · rw [if_neg h1, if_neg h1, if_neg h2, if_neg h2]
  exact ⟨z, fun i j hij hj => by rw [e i j hij hj]; exact h.p i j hij hj, fun i j k hi hj hk => by rw [es i j hi hj, es i k hi hk, es k j hk hj]; exact h.t i j k hi hj hk⟩
/-- pairs by pairs -/
noncomputable def sel (d : Nat → Nat → Prop) (g f : Nat → Nat → Int) : Nat → Nat → Int := fun a b => @ite _ (d a b) (Classical.propDecidable _) (g a b) (f a b)
theorem sel_t {d : Nat → Nat → Prop} {g f : Nat → Nat → Int} {a b : Nat} (h : d a b) : sel d g f a b = g a b := if_pos h
theorem sel_f {d : Nat → Nat → Prop} {g f : Nat → Nat → Int} {a b : Nat} (h : ¬ d a b) : sel d g f a b = f a b := if_neg h
theorem sel_0 {g f : Nat → Nat → Int} : sel (fun _ _ => False) g f = f := by
  funext a b; exact if_neg id
theorem sel_put {x y : Nat} {f g : Nat → Nat → Int} {d : Nat → Nat → Prop} (h : ¬ d x y) : put2 (sel d g f) x y (g x y) = sel (fun a b => d a b ∨ (a = x ∧ b = y)) g f := by
  funext a b
  unfold put2
  by_cases e : a = x ∧ b = y
  · rw [if_pos e, sel_t (d := fun a b => d a b ∨ (a = x ∧ b = y)) (.inr e), e.1, e.2]
  · rw [if_neg e]
    by_cases e2 : d a b
    · rw [sel_t (d := fun a b => d a b ∨ (a = x ∧ b = y)) (.inl e2), sel_t e2]
    · rw [sel_f (d := fun a b => d a b ∨ (a = x ∧ b = y)) (fun z => z.elim e2 e), sel_f e2]
theorem two_pow : ∀ {n : Nat}, n < 21 → (0 : Int) < 1 * 2 ^ n ∧ (1 : Int) * 2 ^ n < 1073741824 := by decide
theorem th19_ok {d wd : Int} {bx : PV} {n : Nat} {w : Int} (hb : Bx d bx) (hd : d < 1000000) (hn : 1 ≤ n ∧ n ≤ 20) :
    (m__law_drawn_th19 (dr0 bx n w wd fun _ _ => 0)).sat (fun o => ∃ f bx', o = .rt (.lst (enc n f)) (bx' :: List.replicate 17 .non) ∧ Mt n 27 f ∧ Bx (d + 100) bx') noX := by
  unfold dr0
  simp! [m__law_drawn_th19]
  refine pairs_sat (by omega) (by omega) ?_
  simp! []
  refine sat_forP (fun E dn e => e = E) rfl (fun x y dn e hxy hy hd hlt he => ?_) ?_
  · subst he
    simp! [m__law_drawn_body15]
    have e0 : put2 (fun _ _ => (0 : Int)) x y 0 = fun _ _ => 0 := by
      funext a b; unfold put2; split <;> rfl
    simp! [e0]
  · rintro _ rfl
    simp! []
    refine take_sat hb (by omega) (by omega) (by omega) fun r b1 hr hb1 => ?_
    simp! []
    refine sat_forU (fun E t e => ∃ f b, e = (E.set 0 b).set 4 (.lst (enc n f)) ∧ Hf n (5 * t) f ∧ Bx (d + 1 + 2 * t) b) ⟨fun _ _ => 0, b1, rfl, ⟨fun _ _ => rfl, fun _ _ _ _ => by omega, fun i j k _ _ _ => by simp [sy]⟩, hb1.mono (by omega)⟩ (fun t e ht he => ?_) ?_
    · obtain ⟨f, b, rfl, hf, hb2⟩ := he
      simp! [m__law_drawn_body17]
      obtain ⟨q1, q2⟩ := two_pow (show n < 21 by omega)
      refine take_sat hb2 q1 q2 (by omega) fun side b3 hs hb3 => ?_
      simp! []
      refine take_sat hb3 (by omega) (by omega) (by omega) fun wt b4 hw hb4 => ?_
      simp! []
      refine pairs_sat (by omega) (by omega) ?_
      simp! []
      obtain ⟨s, hsd⟩ : ∃ s : Nat → Int, ∀ x, Builtin.bitAnd ((side : Int) / 2 ^ x) 1 = s x := ⟨_, fun _ => rfl⟩
      obtain ⟨g, hg⟩ : ∃ g : Nat → Nat → Int, g = fun i j => f i j + (1 + (wt : Int)) * if s i = s j then 0 else 1 := ⟨_, rfl⟩
      refine sat_forP (fun E dn e => e = E.set 4 (.lst (enc n (sel dn g f)))) ?_ (fun x y dn e hxy hy hd hlt he => ?_) ?_
      · simp! [sel_0]
      · subst he
        have e1 : f x y + (1 + (wt : Int)) * b2i (!decide (s x = s y)) = g x y := by
          rw [hg]
          by_cases e : s x = s y
          · simp only [e, if_true]; rfl
          · simp only [e, if_false]; rfl
        simp! [m__law_drawn_body16, hsd, sel_f hd, e1, sel_put hd]
      · rintro _ rfl
        simp! []
        refine ⟨_, b4, rfl, ?_, hb4.mono (by omega)⟩
        have h2 : Hf n (5 * ((t + 1 : Nat) : Int)) g := by rw [hg]; exact hf.add (by omega)
        exact h2.congr (fun i j hij hj => sel_t ⟨hij, hj⟩) (fun i hi => by rw [sel_f (by omega), hf.z i hi])
    · rintro e ⟨f, b, rfl, hf, hb2⟩
      simp! []
      refine pairs_sat (by omega) (by omega) ?_
      simp! []
      obtain ⟨g, hg⟩ : ∃ g : Nat → Nat → Int, g = fun i j => if i = j then 0 else sy f i j + 2 := ⟨_, rfl⟩
      refine sat_forP (fun E dn e => e = E.set 4 (.lst (enc n (sel (fun a b => dn a b ∨ dn b a) g f)))) ?_ (fun x y dn e hxy hy hd hlt he => ?_) ?_
      · simp! [or_self, sel_0]
      · subst he
        have e1 : f x y + 2 = g x y := by rw [hg]; unfold sy; dsimp only; rw [if_neg (by omega), if_pos hxy]
        have e2 : sel (fun a b => dn a b ∨ dn b a) g f x y = f x y := sel_f (d := fun a b => dn a b ∨ dn b a) (fun z => z.elim hd fun z => by have := hlt _ _ z; omega)
        have e3 : put2 (sel (fun a b => dn a b ∨ dn b a) g f) x y (g x y) x y = g x y := by unfold put2; rw [if_pos ⟨rfl, rfl⟩]
        have e4 : put2 (put2 (sel (fun a b => dn a b ∨ dn b a) g f) x y (g x y)) y x (g x y) = sel (fun a b => (dn a b ∨ a = x ∧ b = y) ∨ dn b a ∨ b = x ∧ a = y) g f := by
          have gs : g y x = g x y := by
            have v1 : sy f y x = f x y := by unfold sy; rw [if_neg (by omega), if_pos hxy]
            have v2 : sy f x y = f x y := by unfold sy; rw [if_pos hxy]
            rw [hg]; dsimp only
            rw [v1, v2, if_neg (by omega), if_neg (by omega)]
          rw [sel_put (fun z => z.elim hd fun z => by have := hlt _ _ z; omega), ← gs, sel_put (fun z => z.elim (fun z => z.elim (fun z => by have := hlt _ _ z; omega) hd) fun z => by omega)]
          congr 1
          funext a b
          apply propext
          constructor
          · rintro ((h | h) | h)
            · rcases h with h | h
              · exact .inl (.inl h)
              · exact .inr (.inl h)
            · exact .inl (.inr h)
            · exact .inr (.inr ⟨h.2, h.1⟩)
          · rintro ((h | h) | h | h)
            · exact .inl (.inl (.inl h))
            · exact .inl (.inr h)
            · exact .inl (.inl (.inr h))
            · exact .inr ⟨h.2, h.1⟩
        simp! [m__law_drawn_body18, e2, e1, e3, e4]
      · rintro _ rfl
        simp! []
        refine ⟨_, b, rfl, ?_, hb2.mono (by omega)⟩
        refine (hf.mt (g := _) (by omega) fun i j hi hj => ?_).mono (by omega)
        by_cases e : i = j
        · subst e
          rw [sel_f (by omega), hf.z i hi, if_pos rfl]
        · rw [sel_t (by omega), hg]
end CqL

/-! text Pw -/
set_option linter.all false
set_option maxRecDepth 100000
/-! plain law: way 4 -/
namespace CqL
open PySem PySem.Spec L2 Cq
local macro_rules
  | `(tactic| simp! [$xs,*]) => `(tactic| simp -implicitDefEqProofs (disch := first | omega | (simp only [List.length_append, List.length_map, List.length_range, List.length_cons, List.length_nil, List.length_set, iL_len, row_l, enc_len, upto_l, from_l]; omega)) only [satK_ap, sat_bind, sat_nx, sat_ok, sat_exc, sat_bad, bind_ok, bind_exc, bind_bad, nx_ok, nx_bad, iteB_t, iteB_f, iteB_n, sat_iteB, iteB_pure, iteB_pure2, iteB_val, iteB_int, iteB_bl, iteB_and, iteB_or, ofO_some, ofO_none, mOfB_some, mVar_ap, mC_ap, andK_ap, mAnd_ap, orK_ap, mOr_ap, notK_ap, mNot_ap, ifK_ap, mIf_ap, andVK2_ap, andVK_ap, mAndV_ap, orVK2_ap, orVK_ap, mOrV_ap, notVK2_ap, notVK_ap, mNotV_ap, unK_ap, mUn_ap, binK2_ap, binK_ap, mBin_ap, truK_ap, mTru_ap, isbK_ap, mIsB_ap, chK2_ap, chK_ap, mChain_ap, chO_b, mNil_ap, consK2_ap, consK_ap, mCons_ap, argsK_ap, mArgs_ap, ownK_ap, mOwnA_ap, callK2_ap, callK_ap, mCall_ap, lenIs_ok, kwK3_ap, kwK2_ap, kwK_ap, mkK3_ap, mkK2_ap, mkK_ap, mMake_ap, mCallK_ap, vwK_ap, mView_ap, vbK_ap, mViewB_ap, voK_ap, mViewO_ap, vwO_ap, nolst_int, nolst_bl, nolst_non, nolst_str, nolst_tup, nolst_nil, nolst_cons, seqK_nx, seqK_rt, seqK_bk, seqK_ct, mSeq_ap, mSkip_ap, mWk_ap, wkO_nx, wkO_rt, wkO_bk, wkO_ct, mBrk_ap, mCnt_ap, dropK_ap, mDrop_ap, retK_ap, mRet_ap, rowO_s, mRetOwn_ap, setK_ap, mSet_ap, parK2_ap, parK_ap, mPar_ap, asgO_s, asgK_ap, mAsg_ap, gN_ap, gsNil_ap, gsCons_ap, obind_s, gSqT_t, gSqT_l, gTupT_t, itO_s, sqK_ap, mSq_ap, rgK_ap, mRg_ap, itK_ap, mIt_ap, seqP_l, seqP_t, forK_ap, mFor_ap, mWhile_ap, lcK2_ap, lcK_ap, mLc_ap, mYes_ap, mDef_ap, outD_rt, outD_nx, pshK_ap, mPush_ap, extK_ap, mExt_ap, clr_un, clr_fz, clr_ow, clr_ow2, clr_nil, fill_n, fill_s, fill_0, back_n, back_s, back_0, wipe_0, wipe_s, rest_0, rest_s, hdE_ap, sat_try, partO_i, partK_ap, mPart_ap, mNoPart_ap, slK3_ap, slK2_ap, slK_ap, mSl_ap, pshO_s, extO_s, stepO_s, fwd_nx, fwd_ct, fwd_bk, fwd_rt, stepM_s, stmK_ap, stmK2_ap, eltK_ap, kElt_ap, kSub_ap, subK_ap, stepE_s, steK_ap, gSetOwn2_ap, gSetOwn_ap, pVar_ap, pC_ap, pBin_ap, pbO_s, add_i, sub_i, mul_r, mul_l, div_i, mod_i, shl_i, shr_i, and_i, or_i, xor_i, lt_i, le_i, gt_i, ge_i, eq_i, ne_i, eq_in, ne_in, eq_b, ne_b, eq_s, ne_s, is_n, isn_n, isNonP_int, isNonP_non, isNonP_tup, isNonP_lst, isNonP_bl, isNonP_str, isNonP_ins, tru_b, tru_i, tru_n, tru_l, tru_t, isBl_b, neg_i, len_l, len_t, len_scr, abs_i, int_i, int_b, max_ii, min_ii, list_l, list_t, tuple_l, tuple_t, tup_0, tup_1, tup_2, tup_3, tup_4, lst_0, lst_1, lst_2, lst_3, lst_4, ixl_0, ixl_1, ixl_2, ixl_3, ixt_0, ixt_1, ixt_2, ixt_3, List.set_cons_zero, List.set_cons_succ, List.getElem?_cons_zero, List.getElem?_cons_succ, List.getD_cons_zero, List.getD_cons_succ, List.take_succ_cons, List.take_zero, List.cons_append, List.nil_append, List.length_cons, List.length_nil, List.replicate_succ, List.replicate_zero, Nat.reduceSub, Nat.reduceAdd, Int.toNat_natCast, decide_eq_true_eq, decide_eq_false_iff_not, Bool.not_true, Bool.not_false, Bool.not_eq_true', Bool.not_eq_false', Bool.or_eq_true, Bool.and_eq_true, Bool.or_eq_false_iff, Bool.and_eq_false_imp, set2_e, ixe, ixr, rgI, rgI2, repL_i, row_map, $xs,*])
theorem sl_ii {ps : List PV} {lo hi : Int} (h0 : 0 ≤ lo) (h1 : lo ≤ hi) (h2 : hi ≤ ps.length) : gSl (.lst ps) (some lo) (some hi) = some (.lst ((ps.drop lo.toNat).take (hi.toNat - lo.toNat))) := by
  obtain ⟨a, rfl⟩ : ∃ a : Nat, lo = a := ⟨lo.toNat, by omega⟩
  obtain ⟨b, rfl⟩ : ∃ b : Nat, hi = b := ⟨hi.toNat, by omega⟩
  unfold gSl cutP
  dsimp only
  rw [HT.sIx_nat, HT.sIx_nat, Int.toNat_natCast, Int.toNat_natCast, Nat.min_eq_left (by omega), Nat.min_eq_left (by omega)]
def mxs (h : Nat → Int) (lo hi : Nat) : Int := maxI ((List.range (hi - lo)).map fun k => h (lo + k))
theorem mxs_spec {h : Nat → Int} {lo hi : Nat} (q : lo < hi) : (∃ k, lo ≤ k ∧ k < hi ∧ mxs h lo hi = h k) ∧ ∀ k, lo ≤ k → k < hi → h k ≤ mxs h lo hi := by
  have hne : (List.range (hi - lo)).map (fun k => h (lo + k)) ≠ [] := by
    intro z
    have := congrArg List.length z
    simp at this
    omega
  obtain ⟨a, b⟩ := maxI_spec hne
  refine ⟨?_, fun k h1 h2 => ?_⟩
  · obtain ⟨k, hk, e⟩ := List.mem_map.mp a
    have := List.mem_range.mp hk
    exact ⟨lo + k, by omega, by omega, e.symm⟩
  · refine b _ (List.mem_map.mpr ⟨k - lo, List.mem_range.mpr (by omega), ?_⟩)
    rw [show lo + (k - lo) = k from by omega]
theorem max_sl {n lo hi : Nat} {h : Nat → Int} (q : lo < hi) (q2 : hi ≤ n) : gMax [.lst (((iL (row n h)).drop lo).take (hi - lo))] = some (.int (mxs h lo hi)) := by
  have e : ((iL (row n h)).drop lo).take (hi - lo) = ((List.range (hi - lo)).map fun k => h (lo + k)).map PV.int := by
    apply List.ext_getElem?
    intro k
    by_cases hk : k < hi - lo
    · rw [List.getElem?_take_of_lt hk, List.getElem?_drop, row_get (by omega), List.getElem?_map, List.getElem?_map, List.getElem?_range hk]
      rfl
    · rw [List.getElem?_eq_none (by simp; omega), List.getElem?_eq_none (by simp; omega)]
  rw [e]
  have e2 : gMax2 [.lst (((List.range (hi - lo)).map fun k => h (lo + k)).map PV.int)] = none := rfl
  unfold gMax orA
  rw [e2]
  dsimp only
  unfold gMaxL
  have e3 : intsOf [.lst (((List.range (hi - lo)).map fun k => h (lo + k)).map PV.int)] = some ((List.range (hi - lo)).map fun k => h (lo + k)) := toInts_map _
  rw [e3]
  unfold mxs
  cases w : (List.range (hi - lo)).map fun k => h (lo + k) with
  | nil =>
    have := congrArg List.length w
    simp at this
    omega
  | cons x l => rfl
def ult (h : Nat → Int) (a b : Nat) : Int := if a = b then 0 else if a < b then mxs h a b else mxs h b a
theorem ult_mt {n : Nat} {h : Nat → Int} {b : Int} (hh : ∀ k, k < n → 1 ≤ h k ∧ h k ≤ b) : Mt n b (ult h) := by
  have sw : ∀ i j, ult h i j = ult h j i := fun i j => by
    unfold ult
    by_cases e : i = j
    · rw [if_pos e, if_pos e.symm]
    · rw [if_neg e, if_neg (Ne.symm e)]
      by_cases q : i < j
      · rw [if_pos q, if_neg (by omega)]
      · rw [if_neg q, if_pos (by omega)]
  have sp : ∀ i j, i ≠ j → ∃ k, min i j ≤ k ∧ k < max i j ∧ ult h i j = h k := fun i j e => by
    unfold ult
    rw [if_neg e]
    by_cases q : i < j
    · obtain ⟨⟨k, h1, h2, h3⟩, _⟩ := mxs_spec (h := h) q
      rw [if_pos q]; exact ⟨k, by omega, by omega, h3⟩
    · obtain ⟨⟨k, h1, h2, h3⟩, _⟩ := mxs_spec (h := h) (show j < i by omega)
      rw [if_neg q]; exact ⟨k, by omega, by omega, h3⟩
  have ub : ∀ i j k, min i j ≤ k → k < max i j → h k ≤ ult h i j := fun i j k h1 h2 => by
    unfold ult
    rw [if_neg (by omega)]
    by_cases q : i < j
    · rw [if_pos q]; exact (mxs_spec q).2 k (by omega) (by omega)
    · rw [if_neg q]; exact (mxs_spec (show j < i by omega)).2 k (by omega) (by omega)
  have nn : ∀ i j, i < n → j < n → 0 ≤ ult h i j := fun i j hi hj => by
    by_cases e : i = j
    · unfold ult; rw [if_pos e]; omega
    · obtain ⟨k, h1, h2, h3⟩ := sp i j e
      have := hh k (by omega); omega
  refine ⟨fun i _ => if_pos rfl, fun i j _ _ => sw i j, fun i j hi hj e => ?_, fun i j k hi hj hk => ?_⟩
  · obtain ⟨k, h1, h2, h3⟩ := sp i j e
    rw [h3]; exact hh k (by omega)
  · by_cases e : i = j
    · have := nn i k hi hk; have := nn k j hk hj
      unfold ult; rw [if_pos e]; unfold ult at *; omega
    · obtain ⟨m, h1, h2, h3⟩ := sp i j e
      rw [h3]
      by_cases q : min i k ≤ m ∧ m < max i k
      · have := ub i k m q.1 q.2; have := nn k j hk hj; omega
      · have := ub k j m (by omega) (by omega); have := nn i k hi hk; omega
/-- both places of a pair -/
theorem sel_both {x y : Nat} {f g : Nat → Nat → Int} {dn : Nat → Nat → Prop} (hxy : x < y) (hd : ¬ dn x y) (hlt : ∀ a b, dn a b → a < b) (hg : g y x = g x y) :
    put2 (put2 (sel (fun a b => dn a b ∨ dn b a) g f) x y (g x y)) y x (g x y) = sel (fun a b => (dn a b ∨ a = x ∧ b = y) ∨ dn b a ∨ b = x ∧ a = y) g f := by
  rw [sel_put (fun z => z.elim hd fun z => by have := hlt _ _ z; omega), ← hg, sel_put (fun z => z.elim (fun z => z.elim (fun z => by have := hlt _ _ z; omega) hd) fun z => by omega)]
  congr 1
  funext a b
  apply propext
  constructor
  · rintro ((h | h) | h)
    · rcases h with h | h
      · exact .inl (.inl h)
      · exact .inr (.inl h)
    · exact .inl (.inr h)
    · exact .inr (.inr ⟨h.2, h.1⟩)
  · rintro ((h | h) | h | h)
    · exact .inl (.inl (.inl h))
    · exact .inl (.inr h)
    · exact .inl (.inl (.inr h))
    · exact .inr ⟨h.2, h.1⟩
theorem put_same {f : Nat → Nat → Int} {x y : Nat} {v : Int} : put2 f x y v x y = v := if_pos ⟨rfl, rfl⟩
theorem th22_ok {d wd : Int} {bx : PV} {n : Nat} {w : Int} (hb : Bx d bx) (hd : d < 1000000) (hw : 1 ≤ wd ∧ wd ≤ 60) (hn : 1 ≤ n ∧ n ≤ 20) :
    (m__law_drawn_th22 (dr0 bx n w wd fun _ _ => 0)).sat (fun o => ∃ f bx', o = .rt (.lst (enc n f)) (bx' :: List.replicate 17 .non) ∧ Mt n 60 f ∧ Bx (d + 100) bx') noX := by
  unfold dr0
  simp! [m__law_drawn_th22]
  refine sat_lcM (fun E i a e => i ≤ n → ∃ h b, a = iL (row i h) ∧ (∀ k, k < i → 1 ≤ h k ∧ h k ≤ 60) ∧ e = E.set 0 b ∧ Bx (d + i) b) (fun _ => ⟨fun _ => 0, bx, rfl, fun k hk => by omega, rfl, hb.mono (by omega)⟩) (fun i p a e hp he => ?_) ?_
  · obtain ⟨hi, rfl⟩ := upto_get hp
    obtain ⟨h, b, rfl, hh, rfl, hb1⟩ := he (by omega)
    simp! [m__law_drawn_elt20]
    refine take_sat hb1 (by omega) (by omega) (by omega) fun r b2 hr hb2 => ?_
    simp! [row_snoc]
    refine fun _ => ⟨_, b2, rfl, fun k hk => ?_, rfl, hb2.mono (by omega)⟩
    by_cases q : k < i
    · rw [if_pos q]; exact hh k q
    · rw [if_neg q]; omega
  · intro a e he
    rw [upto_len] at he
    obtain ⟨h, b, rfl, hh, rfl, hb1⟩ := he (by omega)
    simp! []
    refine mixed_sat hb1 (by omega) (by omega) (by omega) fun o b2 ho hb2 => ?_
    rw [Int.toNat_natCast] at ho ⊢
    simp! []
    refine pairs_sat (by omega) (by omega) ?_
    simp! []
    obtain ⟨g, hg⟩ : ∃ g : Nat → Nat → Int, g = fun x y => ult h (o x) (o y) := ⟨_, rfl⟩
    have hm : Mt n 60 g := by rw [hg]; exact (ult_mt hh).ord ho.lt ho.ne
    refine sat_forP (fun E dn e => e = E.set 4 (.lst (enc n (sel (fun a b => dn a b ∨ dn b a) g fun _ _ => 0)))) ?_ (fun x y dn e hxy hy hd hlt he => ?_) ?_
    · simp! [or_self, sel_0]
    · subst he
      have hx2 := ho.lt x (by omega)
      have hy2 := ho.lt y hy
      have hne := ho.ne x y (by omega) hy (by omega)
      have gs := hm.s y x hy (by omega)
      have sb := sel_both (f := fun _ _ => 0) hxy hd (fun a b z => (hlt a b z).1) gs
      by_cases q : o x < o y
      · have e1 : mxs h (o x) (o y) = g x y := by rw [hg]; show _ = ult h (o x) (o y); unfold ult; rw [if_neg hne, if_pos q]
        simp! [m__law_drawn_body21, if_neg (show ¬ (o y : Int) < o x by omega), if_pos (show (o y : Int) > o x by omega), sl_ii, max_sl, e1, put_same, sb]
      · have e1 : mxs h (o y) (o x) = g x y := by rw [hg]; show _ = ult h (o x) (o y); unfold ult; rw [if_neg hne, if_neg q]
        simp! [m__law_drawn_body21, if_pos (show (o y : Int) < o x by omega), if_neg (show ¬ (o y : Int) > o x by omega), sl_ii, max_sl, e1, put_same, sb]
    · rintro _ rfl
      simp! []
      have e0 : enc n (sel (fun a b => a < b ∧ b < n ∨ b < a ∧ a < n) g fun _ _ => 0) = enc n g := enc_congr fun i j hi hj => by
        by_cases e : i = j
        · subst e; rw [sel_f (by omega), hm.z i hi]
        · exact sel_t (d := fun a b => a < b ∧ b < n ∨ b < a ∧ a < n) (by omega)
      rw [e0]
      exact ⟨g, b2, rfl, hm, hb2.mono (by omega)⟩
end CqL

/-! text Px -/
set_option linter.all false
set_option maxRecDepth 100000
/-! plain law: any drawn table -/
namespace CqL
open PySem PySem.Spec L2 Cq
local macro_rules
  | `(tactic| simp! [$xs,*]) => `(tactic| simp -implicitDefEqProofs (disch := first | omega | (simp only [List.length_append, List.length_map, List.length_range, List.length_cons, List.length_nil, List.length_set, iL_len, row_l, enc_len, upto_l, from_l]; omega)) only [satK_ap, sat_bind, sat_nx, sat_ok, sat_exc, sat_bad, bind_ok, bind_exc, bind_bad, nx_ok, nx_bad, iteB_t, iteB_f, iteB_n, sat_iteB, iteB_pure, iteB_pure2, iteB_val, iteB_int, iteB_bl, iteB_and, iteB_or, ofO_some, ofO_none, mOfB_some, mVar_ap, mC_ap, andK_ap, mAnd_ap, orK_ap, mOr_ap, notK_ap, mNot_ap, ifK_ap, mIf_ap, andVK2_ap, andVK_ap, mAndV_ap, orVK2_ap, orVK_ap, mOrV_ap, notVK2_ap, notVK_ap, mNotV_ap, unK_ap, mUn_ap, binK2_ap, binK_ap, mBin_ap, truK_ap, mTru_ap, isbK_ap, mIsB_ap, chK2_ap, chK_ap, mChain_ap, chO_b, mNil_ap, consK2_ap, consK_ap, mCons_ap, argsK_ap, mArgs_ap, ownK_ap, mOwnA_ap, callK2_ap, callK_ap, mCall_ap, lenIs_ok, kwK3_ap, kwK2_ap, kwK_ap, mkK3_ap, mkK2_ap, mkK_ap, mMake_ap, mCallK_ap, vwK_ap, mView_ap, vbK_ap, mViewB_ap, voK_ap, mViewO_ap, vwO_ap, nolst_int, nolst_bl, nolst_non, nolst_str, nolst_tup, nolst_nil, nolst_cons, seqK_nx, seqK_rt, seqK_bk, seqK_ct, mSeq_ap, mSkip_ap, mWk_ap, wkO_nx, wkO_rt, wkO_bk, wkO_ct, mBrk_ap, mCnt_ap, dropK_ap, mDrop_ap, retK_ap, mRet_ap, rowO_s, mRetOwn_ap, setK_ap, mSet_ap, parK2_ap, parK_ap, mPar_ap, asgO_s, asgK_ap, mAsg_ap, gN_ap, gsNil_ap, gsCons_ap, obind_s, gSqT_t, gSqT_l, gTupT_t, itO_s, sqK_ap, mSq_ap, rgK_ap, mRg_ap, itK_ap, mIt_ap, seqP_l, seqP_t, forK_ap, mFor_ap, mWhile_ap, lcK2_ap, lcK_ap, mLc_ap, mYes_ap, mDef_ap, outD_rt, outD_nx, pshK_ap, mPush_ap, extK_ap, mExt_ap, clr_un, clr_fz, clr_ow, clr_ow2, clr_nil, fill_n, fill_s, fill_0, back_n, back_s, back_0, wipe_0, wipe_s, rest_0, rest_s, hdE_ap, sat_try, partO_i, partK_ap, mPart_ap, mNoPart_ap, slK3_ap, slK2_ap, slK_ap, mSl_ap, pshO_s, extO_s, stepO_s, fwd_nx, fwd_ct, fwd_bk, fwd_rt, stepM_s, stmK_ap, stmK2_ap, eltK_ap, kElt_ap, kSub_ap, subK_ap, stepE_s, steK_ap, gSetOwn2_ap, gSetOwn_ap, pVar_ap, pC_ap, pBin_ap, pbO_s, add_i, sub_i, mul_r, mul_l, div_i, mod_i, shl_i, shr_i, and_i, or_i, xor_i, lt_i, le_i, gt_i, ge_i, eq_i, ne_i, eq_in, ne_in, eq_b, ne_b, eq_s, ne_s, is_n, isn_n, isNonP_int, isNonP_non, isNonP_tup, isNonP_lst, isNonP_bl, isNonP_str, isNonP_ins, tru_b, tru_i, tru_n, tru_l, tru_t, isBl_b, neg_i, len_l, len_t, len_scr, abs_i, int_i, int_b, max_ii, min_ii, list_l, list_t, tuple_l, tuple_t, tup_0, tup_1, tup_2, tup_3, tup_4, lst_0, lst_1, lst_2, lst_3, lst_4, ixl_0, ixl_1, ixl_2, ixl_3, ixt_0, ixt_1, ixt_2, ixt_3, List.set_cons_zero, List.set_cons_succ, List.getElem?_cons_zero, List.getElem?_cons_succ, List.getD_cons_zero, List.getD_cons_succ, List.take_succ_cons, List.take_zero, List.cons_append, List.nil_append, List.length_cons, List.length_nil, List.replicate_succ, List.replicate_zero, Nat.reduceSub, Nat.reduceAdd, Int.toNat_natCast, decide_eq_true_eq, decide_eq_false_iff_not, Bool.not_true, Bool.not_false, Bool.not_eq_true', Bool.not_eq_false', Bool.or_eq_true, Bool.and_eq_true, Bool.or_eq_false_iff, Bool.and_eq_false_imp, set2_e, ixe, ixr, rgI, rgI2, repL_i, row_map, $xs,*])
theorem wides {r : Nat} (h : (r : Int) < 4) : ∃ u : Int, gIx (.lst [.int 2, .int 5, .int 12, .int 60]) (.int r) = some (.int u) ∧ 1 ≤ u ∧ u ≤ 60 := by
  have h : r < 4 := by omega
  match r, h with
  | 0, _ => exact ⟨2, rfl, by omega, by omega⟩
  | 1, _ => exact ⟨5, rfl, by omega, by omega⟩
  | 2, _ => exact ⟨12, rfl, by omega, by omega⟩
  | 3, _ => exact ⟨60, rfl, by omega, by omega⟩
theorem equal_mt {n far : Nat} (h : far ≤ 999) : Mt n 1000 fun x y => (1 + (far : Int)) * b2i (!decide ((x : Int) = y)) := by
  have e : (fun x y : Nat => (1 + (far : Int)) * b2i (!decide ((x : Int) = y))) = fun x y : Nat => if x = y then (0 : Int) else 1 + far := by
    funext x y
    by_cases q : x = y
    · subst q; rw [if_pos rfl, decide_eq_true rfl]; show _ * (0 : Int) = 0; omega
    · rw [if_neg q, decide_eq_false (by omega)]; show _ * (1 : Int) = _; omega
  rw [e]
  refine ⟨fun i _ => if_pos rfl, fun i j _ _ => ?_, fun i j _ _ hij => by rw [if_neg hij]; omega, fun i j k _ _ _ => ?_⟩
  · by_cases q : i = j
    · rw [if_pos q, if_pos q.symm]
    · rw [if_neg q, if_neg (Ne.symm q)]
  · split <;> split <;> split <;> omega
theorem drawn_sat {d : Int} {bx : PV} {m : Int} {Q : PV × List PV → Prop} {E : Str → List (Str × PV) → Prop} (hb : Bx d bx) (hd : d < 90000) (h1 : 1 ≤ m) (h2 : m ≤ 12)
    (k : ∀ f b', Mt m.toNat 1000 f → Bx (d + 10000) b' → Q (.lst (enc m.toNat f), [b', .non])) : (F__law_drawn [bx, .int m]).sat Q E := by
  obtain ⟨n, rfl⟩ : ∃ n : Nat, m = n := ⟨m.toNat, by omega⟩
  rw [Int.toNat_natCast] at k
  simp! [F__law_drawn, m__law_drawn]
  refine take_sat hb (by omega) (by omega) (by omega) fun w b1 hw hb1 => ?_
  simp! []
  refine take_sat hb1 (by omega) (by omega) (by omega) fun r b2 hr hb2 => ?_
  obtain ⟨wd, hwd, hw1, hw2⟩ := wides hr
  simp! [hwd]
  refine sat_lcU (fun _ => .lst (iL (row n fun _ => 0))) (by omega) (fun x hx => ?_) ?_
  · simp! [m__law_drawn_elt1]
  simp! [enc_lc (f := fun _ _ => 0) fun _ _ => rfl]
  refine ⟨fun _ => ?_, fun _ => ⟨fun _ => ?_, fun _ => ⟨fun _ => ?_, fun _ => ⟨fun _ => ?_, fun _ => ⟨fun _ => ?_, fun _ => ?_⟩⟩⟩⟩⟩
  · obtain ⟨f, b3, e, hm, hb3⟩ := th6_ok (w := w) (wd := wd) (n := n) hb2 (by omega) ⟨hw1, hw2⟩ (by omega)
    refine use_ok e ?_
    simp! []
    exact k f b3 (hm.mono (by omega)) (hb3.mono (by omega))
  · obtain ⟨f, b3, e, hm, hb3⟩ := th10_ok (w := w) (wd := wd) (n := n) hb2 (by omega) ⟨hw1, hw2⟩ (by omega)
    refine use_ok e ?_
    simp! []
    exact k f b3 (hm.mono (by omega)) (hb3.mono (by omega))
  · refine use_sat (th14_ok (n := n) hb2 (by omega) ⟨hw1, hw2⟩ (by omega)) ?_
    rintro _ ⟨f, b3, rfl, hm, hb3⟩
    simp! []
    exact k f b3 (hm.mono (by omega)) (hb3.mono (by omega))
  · refine use_sat (th19_ok (n := n) hb2 (by omega) (by omega)) ?_
    rintro _ ⟨f, b3, rfl, hm, hb3⟩
    simp! []
    exact k f b3 (hm.mono (by omega)) (hb3.mono (by omega))
  · refine use_sat (th22_ok (n := n) hb2 (by omega) ⟨hw1, hw2⟩ (by omega)) ?_
    rintro _ ⟨f, b3, rfl, hm, hb3⟩
    simp! []
    exact k f b3 (hm.mono (by omega)) (hb3.mono (by omega))
  · refine take_sat hb2 (by omega) (by omega) (by omega) fun far b3 hf hb3 => ?_
    simp! []
    refine sat_lcU (fun x => .lst (iL (row n fun y => (1 + (far : Int)) * b2i (!decide ((x : Int) = y))))) (by omega) (fun x hx => ?_) ?_
    · simp! [m__law_drawn_elt24]
      refine sat_lcU (fun y => .int ((1 + (far : Int)) * b2i (!decide ((x : Int) = y)))) (by omega) (fun y hy => ?_) ?_
      · simp! [m__law_drawn_elt23]
      · simp! []
    simp! [enc_lc (f := fun x y => (1 + (far : Int)) * b2i (!decide ((x : Int) = y))) fun _ _ => rfl]
    refine k _ b3 (equal_mt (by omega)) (hb3.mono (by omega))
end CqL

/-! text Qa -/
set_option linter.all false
set_option maxRecDepth 100000
/-! plain law: data, equality -/
namespace CqL
open PySem PySem.Spec L2 Cq
/-- data of a depth -/
def Sh (k : Nat) (p : PV) : Prop := ∃ d, toD p = some d ∧ d.canLay0 = true ∧ d.depth ≤ k
theorem Sh.mono {k l : Nat} {p : PV} (h : Sh k p) (q : k ≤ l) : Sh l p := by
  obtain ⟨d, h1, h2, h3⟩ := h
  exact ⟨d, h1, h2, by omega⟩
theorem Sh.int {i : Int} : Sh 0 (.int i) := ⟨_, rfl, rfl, by simp [PyData.depth]⟩
theorem Sh.non : Sh 0 .non := ⟨_, rfl, rfl, by simp [PyData.depth]⟩
theorem Sh.bl {b : Bool} : Sh 0 (.bl b) := ⟨_, rfl, rfl, by simp [PyData.depth]⟩
theorem Sh.str {x : Str} (h : PyData.canLay0 (.str x) = true) : Sh 0 (.str x) := ⟨_, rfl, h, by simp [PyData.depth]⟩
theorem Shs {k : Nat} : ∀ {ps : List PV}, (∀ p ∈ ps, Sh k p) → ∃ ds, toDs ps = some ds ∧ PyData.canLayAll0 ds = true ∧ PyData.depthAll ds ≤ k
  | [], _ => ⟨[], rfl, rfl, by simp [PyData.depthAll]⟩
  | p :: ps, h => by
    obtain ⟨d, h1, h2, h3⟩ := h p List.mem_cons_self
    obtain ⟨ds, h4, h5, h6⟩ := Shs (ps := ps) (fun q hq => h q (List.mem_cons_of_mem _ hq))
    refine ⟨d :: ds, ?_, ?_, ?_⟩
    · unfold toDs; rw [h1, h4]
    · show (d.canLay0 && PyData.canLayAll0 ds) = true
      rw [h2, h5]; rfl
    · simp only [PyData.depthAll]; omega
theorem Sh.tup {k : Nat} {ps : List PV} (h : ∀ p ∈ ps, Sh k p) : Sh (k + 1) (.tup ps) := by
  obtain ⟨ds, h1, h2, h3⟩ := Shs h
  exact ⟨.tuple ds, by unfold toD; rw [h1]; rfl, h2, by simp only [PyData.depth]; omega⟩
theorem Sh.lst {k : Nat} {ps : List PV} (h : ∀ p ∈ ps, Sh k p) : Sh (k + 1) (.lst ps) := by
  obtain ⟨ds, h1, h2, h3⟩ := Shs h
  exact ⟨.list ds, by unfold toD; rw [h1]; rfl, h2, by simp only [PyData.depth]; omega⟩
def peq (p q : PV) : Bool := match toD p, toD q with
  | some d, some e => PyData.eqv d e
  | _, _ => false
theorem eq_sh {p q : PV} (hp : Sh 64 p) (hq : Sh 64 q) : gEq false p q = some (.bl (peq p q)) ∧ gEq true p q = some (.bl (!peq p q)) := by
  obtain ⟨d, h1, h2, h3⟩ := hp
  obtain ⟨e, k1, k2, k3⟩ := hq
  have s1 : SeqAt.shaped d = true := by unfold SeqAt.shaped; rw [h2, decide_eq_true h3]; rfl
  have s2 : SeqAt.shaped e = true := by unfold SeqAt.shaped; rw [k2, decide_eq_true k3]; rfl
  have dd : ∀ neg, deq neg p q = some (.bl (if neg then !peq p q else peq p q)) := fun neg => by
    unfold deq peq
    rw [h1, k1]
    dsimp only
    rw [s1, s2]
    rfl
  have key : ∀ neg, seq1 neg p q = none ∨ seq1 neg p q = some (.bl (if neg then !peq p q else peq p q)) := fun neg => by
    cases p <;> cases q <;> first | exact .inl rfl | skip
    all_goals refine .inr ?_
    all_goals cases neg
    all_goals first | rfl | (simp [seq1, peq, toD, PyData.eqv] <;> rfl)
  have fin : ∀ neg, gEq neg p q = some (.bl (if neg then !peq p q else peq p q)) := fun neg => by
    unfold gEq orO
    rcases key neg with h | h
    · rw [h]; exact dd neg
    · rw [h]
  exact ⟨fin false, fin true⟩
mutual
theorem eqv_refl : ∀ {d : PyData}, d.canLay0 = true → PyData.eqv d d = true
  | .none, _ => rfl
  | .bool b, _ => by simp [PyData.eqv]
  | .int i, _ => by simp [PyData.eqv]
  | .str x, _ => by simp [PyData.eqv]
  | .list xs, h => eqvs_refl (show PyData.canLayAll0 xs = true from h)
  | .tuple xs, h => eqvs_refl (show PyData.canLayAll0 xs = true from h)
  | .dict _, h => by cases h
theorem eqvs_refl : ∀ {ds : List PyData}, PyData.canLayAll0 ds = true → PyData.eqvAll ds ds = true
  | [], _ => rfl
  | d :: ds, h => by
    have h : (d.canLay0 && PyData.canLayAll0 ds) = true := h
    rw [Bool.and_eq_true] at h
    show (PyData.eqv d d && PyData.eqvAll ds ds) = true
    rw [eqv_refl h.1, eqvs_refl h.2]; rfl
end
theorem peq_refl {k : Nat} {p : PV} (h : Sh k p) : peq p p = true := by
  obtain ⟨d, h1, h2, h3⟩ := h
  unfold peq; rw [h1]
  exact eqv_refl h2
theorem peq_int {i j : Int} : peq (.int i) (.int j) = decide (i = j) := by
  show (i == j) = _
  exact Bool.eq_iff_iff.mpr (by simp)
theorem peq_nil {ps : List PV} {k : Nat} (h : Sh k (.lst ps)) : peq (.lst ps) (.lst []) = ps.isEmpty := by
  obtain ⟨d, h1, _⟩ := h
  unfold toD at h1
  cases w : toDs ps with
  | none => rw [w] at h1; cases h1
  | some ds =>
    have e : toD (.lst ps) = some (.list ds) := by unfold toD; rw [w]; rfl
    unfold peq; rw [e]
    show PyData.eqvAll ds [] = _
    cases ps with
    | nil => cases w; rfl
    | cons p ps =>
      unfold toDs at w
      cases ds with
      | nil => split at w <;> cases w
      | cons d ds => rfl
end CqL

/-! text Qb -/
set_option linter.all false
set_option maxRecDepth 100000
/-! plain law: the law's look at a value -/
namespace CqL
open PySem PySem.Spec L2 Cq
local macro_rules
  | `(tactic| simp! [$xs,*]) => `(tactic| simp -implicitDefEqProofs (disch := first | omega | (simp only [List.length_append, List.length_map, List.length_range, List.length_cons, List.length_nil, List.length_set, iL_len, row_l, enc_len, upto_l, from_l]; omega)) only [satK_ap, sat_bind, sat_nx, sat_ok, sat_exc, sat_bad, bind_ok, bind_exc, bind_bad, nx_ok, nx_bad, iteB_t, iteB_f, iteB_n, sat_iteB, iteB_pure, iteB_pure2, iteB_val, iteB_int, iteB_bl, iteB_and, iteB_or, ofO_some, ofO_none, mOfB_some, mVar_ap, mC_ap, andK_ap, mAnd_ap, orK_ap, mOr_ap, notK_ap, mNot_ap, ifK_ap, mIf_ap, andVK2_ap, andVK_ap, mAndV_ap, orVK2_ap, orVK_ap, mOrV_ap, notVK2_ap, notVK_ap, mNotV_ap, unK_ap, mUn_ap, binK2_ap, binK_ap, mBin_ap, truK_ap, mTru_ap, isbK_ap, mIsB_ap, chK2_ap, chK_ap, mChain_ap, chO_b, mNil_ap, consK2_ap, consK_ap, mCons_ap, argsK_ap, mArgs_ap, ownK_ap, mOwnA_ap, callK2_ap, callK_ap, mCall_ap, lenIs_ok, kwK3_ap, kwK2_ap, kwK_ap, mkK3_ap, mkK2_ap, mkK_ap, mMake_ap, mCallK_ap, vwK_ap, mView_ap, vbK_ap, mViewB_ap, voK_ap, mViewO_ap, vwO_ap, nolst_int, nolst_bl, nolst_non, nolst_str, nolst_tup, nolst_nil, nolst_cons, seqK_nx, seqK_rt, seqK_bk, seqK_ct, mSeq_ap, mSkip_ap, mWk_ap, wkO_nx, wkO_rt, wkO_bk, wkO_ct, mBrk_ap, mCnt_ap, dropK_ap, mDrop_ap, retK_ap, mRet_ap, rowO_s, mRetOwn_ap, setK_ap, mSet_ap, parK2_ap, parK_ap, mPar_ap, asgO_s, asgK_ap, mAsg_ap, gN_ap, gsNil_ap, gsCons_ap, obind_s, gSqT_t, gSqT_l, gTupT_t, itO_s, sqK_ap, mSq_ap, rgK_ap, mRg_ap, itK_ap, mIt_ap, seqP_l, seqP_t, forK_ap, mFor_ap, mWhile_ap, lcK2_ap, lcK_ap, mLc_ap, mYes_ap, mDef_ap, outD_rt, outD_nx, pshK_ap, mPush_ap, extK_ap, mExt_ap, clr_un, clr_fz, clr_ow, clr_ow2, clr_nil, fill_n, fill_s, fill_0, back_n, back_s, back_0, wipe_0, wipe_s, rest_0, rest_s, hdE_ap, sat_try, partO_i, partK_ap, mPart_ap, mNoPart_ap, slK3_ap, slK2_ap, slK_ap, mSl_ap, pshO_s, extO_s, stepO_s, fwd_nx, fwd_ct, fwd_bk, fwd_rt, stepM_s, stmK_ap, stmK2_ap, eltK_ap, kElt_ap, kSub_ap, subK_ap, stepE_s, steK_ap, gSetOwn2_ap, gSetOwn_ap, pVar_ap, pC_ap, pBin_ap, pbO_s, add_i, sub_i, mul_r, mul_l, div_i, mod_i, shl_i, shr_i, and_i, or_i, xor_i, lt_i, le_i, gt_i, ge_i, eq_i, ne_i, eq_in, ne_in, eq_b, ne_b, eq_s, ne_s, is_n, isn_n, isNonP_int, isNonP_non, isNonP_tup, isNonP_lst, isNonP_bl, isNonP_str, isNonP_ins, tru_b, tru_i, tru_n, tru_l, tru_t, isBl_b, neg_i, len_l, len_t, len_scr, abs_i, int_i, int_b, max_ii, min_ii, list_l, list_t, tuple_l, tuple_t, tup_0, tup_1, tup_2, tup_3, tup_4, lst_0, lst_1, lst_2, lst_3, lst_4, ixl_0, ixl_1, ixl_2, ixl_3, ixt_0, ixt_1, ixt_2, ixt_3, List.set_cons_zero, List.set_cons_succ, List.getElem?_cons_zero, List.getElem?_cons_succ, List.getD_cons_zero, List.getD_cons_succ, List.take_succ_cons, List.take_zero, List.cons_append, List.nil_append, List.length_cons, List.length_nil, List.replicate_succ, List.replicate_zero, Nat.reduceSub, Nat.reduceAdd, Int.toNat_natCast, decide_eq_true_eq, decide_eq_false_iff_not, Bool.not_true, Bool.not_false, Bool.not_eq_true', Bool.not_eq_false', Bool.or_eq_true, Bool.and_eq_true, Bool.or_eq_false_iff, Bool.and_eq_false_imp, set2_e, ixe, ixr, rgI, rgI2, repL_i, row_map, $xs,*])
def sq (n : Nat) (g : Nat → Nat → PV) : PV := .tup ((List.range n).map fun i => .tup ((List.range n).map (g i)))
def sqi (n : Nat) (f : Nat → Nat → Int) : PV := sq n fun i j => .int (f i j)
theorem ixt_m {n : Nat} {h : Nat → PV} {i : Int} (h1 : 0 ≤ i) (h2 : i < n) : gIx (.tup ((List.range n).map h)) (.int i) = some (h i.toNat) := by
  show atI _ _ = _
  rw [atI_ok h1 (by simpa using h2), List.getElem?_map, List.getElem?_range (by omega)]
  rfl
theorem sq_ix {n : Nat} {g : Nat → Nat → PV} {i : Int} (h1 : 0 ≤ i) (h2 : i < n) : gIx (sq n g) (.int i) = some (.tup ((List.range n).map (g i.toNat))) := ixt_m h1 h2
theorem sq_len {n : Nat} {g : Nat → Nat → PV} : gLen [sq n g] = some (.int n) := by
  show some (PV.int ((List.map _ _).length : Nat)) = _
  rw [List.length_map, List.length_range]
def Smp (p : PV) : Prop := (∃ i, p = .int i) ∨ p = .non ∨ (∃ b, p = .bl b) ∨ (∃ s, p = .str s ∧ PyData.canLay0 (.str s) = true) ∨ ∃ l, p = .tup (iL l)
theorem Smp.sh {p : PV} (h : Smp p) : Sh 1 p := by
  rcases h with ⟨i, rfl⟩ | rfl | ⟨b, rfl⟩ | ⟨s, rfl, h⟩ | ⟨l, rfl⟩
  · exact Sh.int.mono (by omega)
  · exact Sh.non.mono (by omega)
  · exact Sh.bl.mono (by omega)
  · exact (Sh.str h).mono (by omega)
  · exact Sh.tup (k := 0) fun p hp => by
      obtain ⟨i, _, rfl⟩ := List.mem_map.mp hp
      exact Sh.int
/-- a table of distances -/
structure Dist (n : Nat) (f : Nat → Nat → Int) : Prop where
  z : ∀ i, i < n → f i i = 0
  s : ∀ i j, i < n → j < n → f i j = f j i
  p : ∀ i j, i < n → j < n → i ≠ j → 1 ≤ f i j ∧ f i j ≤ 1000
def GoodD (n : Nat) (g : Nat → Nat → PV) : Prop := ∃ f : Nat → Nat → Int, (∀ x y, x < n → y < n → g x y = .int (f x y)) ∧ Dist n f
def pas (g : Nat → Nat → PV) (x y : Nat) : Prop := ∃ i, g x y = .int i ∧ peq (.int i) (g y x) = true ∧ (x = y → i = 0) ∧ (x ≠ y → 1 ≤ i ∧ i ≤ 1000)
theorem good_pas {n : Nat} {g : Nat → Nat → PV} : (∀ x y, x < n → y < n → pas g x y) ↔ GoodD n g := by
  constructor
  · intro h
    let f : Nat → Nat → Int := fun x y => match g x y with | .int i => i | _ => 0
    have e : ∀ x y, x < n → y < n → g x y = .int (f x y) := fun x y hx hy => by
      obtain ⟨i, e, _⟩ := h x y hx hy
      show g x y = .int (match g x y with | .int i => i | _ => 0)
      rw [e]
    refine ⟨f, e, ⟨fun i hi => ?_, fun i j hi hj => ?_, fun i j hi hj hij => ?_⟩⟩
    · obtain ⟨k, e1, _, e2, _⟩ := h i i hi hi
      rw [e i i hi hi] at e1
      cases e1; exact e2 rfl
    · obtain ⟨k, e1, e2, _⟩ := h i j hi hj
      rw [e i j hi hj] at e1
      cases e1
      rw [e j i hj hi, peq_int] at e2
      exact of_decide_eq_true e2
    · obtain ⟨k, e1, _, _, e2⟩ := h i j hi hj
      rw [e i j hi hj] at e1
      cases e1; exact e2 hij
  · rintro ⟨f, e, h⟩ x y hx hy
    refine ⟨f x y, e x y hx hy, ?_, fun q => by subst q; exact h.z x hx, fun q => h.p x y hx hy q⟩
    rw [e y x hy hx, peq_int, h.s x y hx hy]
    exact decide_eq_true rfl
theorem isi_n {p : PV} {c : String} {k : String} (h : tyN p = some k) (hc : kinds.contains c = true) : gIsi [p, .ty c] = some (.bl (isKind k c)) := by
  unfold gIsi; dsimp only; rw [h]; dsimp only; rw [if_pos hc]
theorem isi_tt {ps : List PV} : gIsi [.tup ps, .ty "tuple"] = some (.bl true) := rfl
theorem isi_tl {ps : List PV} : gIsi [.lst ps, .ty "tuple"] = some (.bl false) := rfl
theorem isi_ii {i : Int} : gIsi [.int i, .ty "int"] = some (.bl true) := rfl
theorem isi_in : gIsi [.non, .ty "int"] = some (.bl false) := rfl
theorem isi_ib {b : Bool} : gIsi [.bl b, .ty "int"] = some (.bl true) := rfl
theorem isi_is {b : Str} : gIsi [.str b, .ty "int"] = some (.bl false) := rfl
theorem isi_it {b : List PV} : gIsi [.tup b, .ty "int"] = some (.bl false) := rfl
theorem isi_bi {i : Int} : gIsi [.int i, .ty "bool"] = some (.bl false) := rfl
theorem isi_bn : gIsi [.non, .ty "bool"] = some (.bl false) := rfl
theorem isi_bb {b : Bool} : gIsi [.bl b, .ty "bool"] = some (.bl true) := rfl
theorem isi_bs {b : Str} : gIsi [.str b, .ty "bool"] = some (.bl false) := rfl
theorem isi_bt {b : List PV} : gIsi [.tup b, .ty "bool"] = some (.bl false) := rfl
theorem isi_sq {n : Nat} {g : Nat → Nat → PV} : gIsi [sq n g, .ty "tuple"] = some (.bl true) := rfl
theorem ne_ll : gEq true (.lst []) (.lst []) = some (.bl false) := rfl
theorem rows_all {n : Nat} {g : Nat → Nat → PV} : seqP (sq n g) = some ((List.range n).map fun i => .tup ((List.range n).map (g i))) := rfl
theorem fits_sq {n : Nat} {g : Nat → Nat → PV} {Q : PV × List PV → Prop} {E : Str → List (Str × PV) → Prop} (hn : 1 ≤ n ∧ n ≤ 7) (hg : ∀ x y, x < n → y < n → Smp (g x y))
    (k : ∀ b, (b = true ↔ GoodD n g) → Q (.bl b, [.non])) : (F__law_fits [sq n g]).sat Q E := by
  simp! [F__law_fits, m__law_fits, isi_sq, sq_len, decide_eq_true (show (1 : Int) ≤ n by omega), decide_eq_true (show (n : Int) ≤ 7 by omega), rows_all]
  refine sat_lcM (fun E i a e => a = [] ∧ e = E) ⟨rfl, rfl⟩ (fun i p a e hp ⟨ha, he⟩ => ?_) ?_
  · subst ha; subst he
    have hi : i < n := by have := (List.getElem?_eq_some_iff.mp hp).1; simpa using this
    rw [List.getElem?_map, List.getElem?_range hi] at hp
    cases hp
    have hl : (((List.range n).map (g i)).length : Int) = n := by simp
    simp! [isi_tt, sq_len, hl]
    exact ⟨fun _ => ⟨trivial, trivial⟩, fun h => absurd trivial h⟩
  rintro a e ⟨rfl, rfl⟩
  simp! [ne_ll, sq_len]
  refine sat_forU (fun E x e => e = E ∧ ∀ a b, a < x → b < n → pas g a b) ⟨rfl, fun a b h => by omega⟩ (fun x e hx ⟨he, hp⟩ => ?_) ?_
  · subst he
    simp! [m__law_fits_body2, sq_len]
    refine sat_forU (fun E y e => e = E ∧ ∀ b, b < y → pas g x b) ⟨rfl, fun b h => by omega⟩ (fun y e hy ⟨he, hpy⟩ => ?_) ?_
    · subst he
      have bad : ¬ pas g x y → Q (.bl false, [.non]) := fun z => k false ⟨fun h => absurd h (by decide), fun h => absurd (good_pas.mpr h x y hx hy) z⟩
      have nxt : pas g x y → ∀ b, b < y + 1 → pas g x b := fun z b hb => by
        by_cases e : b < y
        · exact hpy b e
        · have : b = y := by omega
          subst this; exact z
      rcases hg x y hx hy with ⟨i, e⟩ | e | ⟨i, e⟩ | ⟨i, e, _⟩ | ⟨i, e⟩
      · obtain ⟨e1, e2⟩ := eq_sh (p := .int i) (q := g y x) (Sh.int.mono (by omega)) ((hg y x hy hx).sh.mono (by omega))
        simp! [m__law_fits_body1, sq_ix, ixt_m, e, isi_ii, isi_bi, e2]
        refine ⟨fun hp1 => ⟨fun h => bad fun ⟨j, q1, q2, q3, q4⟩ => ?_, fun h => ⟨fun he => ⟨trivial, nxt ⟨i, e, hp1, fun z => h (by omega), fun z => by omega⟩⟩, fun hne => ⟨fun hr => ⟨trivial, nxt ⟨i, e, hp1, fun z => by omega, fun _ => hr⟩⟩, fun hr => bad fun ⟨j, q1, q2, q3, q4⟩ => ?_⟩⟩⟩, fun hp0 => bad fun ⟨j, q1, q2, q3, q4⟩ => ?_⟩
        · rw [e] at q1; cases q1
          exact h.2 (q3 (by omega))
        · rw [e] at q1; cases q1
          have := q4 (by omega)
          exact hr this.1 this.2
        · rw [e] at q1; cases q1
          rw [hp0] at q2; cases q2
      · simp! [m__law_fits_body1, sq_ix, ixt_m, e, isi_in, isi_bn]
        exact bad fun ⟨j, q1, _⟩ => by rw [e] at q1; cases q1
      · simp! [m__law_fits_body1, sq_ix, ixt_m, e, isi_ib, isi_bb]
        exact bad fun ⟨j, q1, _⟩ => by rw [e] at q1; cases q1
      · simp! [m__law_fits_body1, sq_ix, ixt_m, e, isi_is, isi_bs]
        exact bad fun ⟨j, q1, _⟩ => by rw [e] at q1; cases q1
      · simp! [m__law_fits_body1, sq_ix, ixt_m, e, isi_it, isi_bt]
        exact bad fun ⟨j, q1, _⟩ => by rw [e] at q1; cases q1
    · rintro _ ⟨rfl, hpy⟩
      simp! []
      refine ⟨trivial, fun a b ha hb => ?_⟩
      by_cases q : a < x
      · exact hp a b q hb
      · have : a = x := by omega
        subst this; exact hpy b hb
  · rintro _ ⟨rfl, hp⟩
    simp! []
    exact k true ⟨fun _ => good_pas.mp fun x y hx hy => hp x y hx hy, fun _ => rfl⟩
end CqL

/-! text Qc -/
set_option linter.all false
set_option maxRecDepth 100000
/-! plain law: the program's look at a value -/
namespace CqL
open PySem PySem.Spec L2 Cq
local macro_rules
  | `(tactic| simp! [$xs,*]) => `(tactic| simp -implicitDefEqProofs (disch := first | omega | (simp only [List.length_append, List.length_map, List.length_range, List.length_cons, List.length_nil, List.length_set, iL_len, row_l, enc_len, upto_l, from_l]; omega)) only [satK_ap, sat_bind, sat_nx, sat_ok, sat_exc, sat_bad, bind_ok, bind_exc, bind_bad, nx_ok, nx_bad, iteB_t, iteB_f, iteB_n, sat_iteB, iteB_pure, iteB_pure2, iteB_val, iteB_int, iteB_bl, iteB_and, iteB_or, ofO_some, ofO_none, mOfB_some, mVar_ap, mC_ap, andK_ap, mAnd_ap, orK_ap, mOr_ap, notK_ap, mNot_ap, ifK_ap, mIf_ap, andVK2_ap, andVK_ap, mAndV_ap, orVK2_ap, orVK_ap, mOrV_ap, notVK2_ap, notVK_ap, mNotV_ap, unK_ap, mUn_ap, binK2_ap, binK_ap, mBin_ap, truK_ap, mTru_ap, isbK_ap, mIsB_ap, chK2_ap, chK_ap, mChain_ap, chO_b, mNil_ap, consK2_ap, consK_ap, mCons_ap, argsK_ap, mArgs_ap, ownK_ap, mOwnA_ap, callK2_ap, callK_ap, mCall_ap, lenIs_ok, kwK3_ap, kwK2_ap, kwK_ap, mkK3_ap, mkK2_ap, mkK_ap, mMake_ap, mCallK_ap, vwK_ap, mView_ap, vbK_ap, mViewB_ap, voK_ap, mViewO_ap, vwO_ap, nolst_int, nolst_bl, nolst_non, nolst_str, nolst_tup, nolst_nil, nolst_cons, seqK_nx, seqK_rt, seqK_bk, seqK_ct, mSeq_ap, mSkip_ap, mWk_ap, wkO_nx, wkO_rt, wkO_bk, wkO_ct, mBrk_ap, mCnt_ap, dropK_ap, mDrop_ap, retK_ap, mRet_ap, rowO_s, mRetOwn_ap, setK_ap, mSet_ap, parK2_ap, parK_ap, mPar_ap, asgO_s, asgK_ap, mAsg_ap, gN_ap, gsNil_ap, gsCons_ap, obind_s, gSqT_t, gSqT_l, gTupT_t, itO_s, sqK_ap, mSq_ap, rgK_ap, mRg_ap, itK_ap, mIt_ap, seqP_l, seqP_t, forK_ap, mFor_ap, mWhile_ap, lcK2_ap, lcK_ap, mLc_ap, mYes_ap, mDef_ap, outD_rt, outD_nx, pshK_ap, mPush_ap, extK_ap, mExt_ap, clr_un, clr_fz, clr_ow, clr_ow2, clr_nil, fill_n, fill_s, fill_0, back_n, back_s, back_0, wipe_0, wipe_s, rest_0, rest_s, hdE_ap, sat_try, partO_i, partK_ap, mPart_ap, mNoPart_ap, slK3_ap, slK2_ap, slK_ap, mSl_ap, pshO_s, extO_s, stepO_s, fwd_nx, fwd_ct, fwd_bk, fwd_rt, stepM_s, stmK_ap, stmK2_ap, eltK_ap, kElt_ap, kSub_ap, subK_ap, stepE_s, steK_ap, gSetOwn2_ap, gSetOwn_ap, pVar_ap, pC_ap, pBin_ap, pbO_s, add_i, sub_i, mul_r, mul_l, div_i, mod_i, shl_i, shr_i, and_i, or_i, xor_i, lt_i, le_i, gt_i, ge_i, eq_i, ne_i, eq_in, ne_in, eq_b, ne_b, eq_s, ne_s, is_n, isn_n, isNonP_int, isNonP_non, isNonP_tup, isNonP_lst, isNonP_bl, isNonP_str, isNonP_ins, tru_b, tru_i, tru_n, tru_l, tru_t, isBl_b, neg_i, len_l, len_t, len_scr, abs_i, int_i, int_b, max_ii, min_ii, list_l, list_t, tuple_l, tuple_t, tup_0, tup_1, tup_2, tup_3, tup_4, lst_0, lst_1, lst_2, lst_3, lst_4, ixl_0, ixl_1, ixl_2, ixl_3, ixt_0, ixt_1, ixt_2, ixt_3, List.set_cons_zero, List.set_cons_succ, List.getElem?_cons_zero, List.getElem?_cons_succ, List.getD_cons_zero, List.getD_cons_succ, List.take_succ_cons, List.take_zero, List.cons_append, List.nil_append, List.length_cons, List.length_nil, List.replicate_succ, List.replicate_zero, Nat.reduceSub, Nat.reduceAdd, Int.toNat_natCast, decide_eq_true_eq, decide_eq_false_iff_not, Bool.not_true, Bool.not_false, Bool.not_eq_true', Bool.not_eq_false', Bool.or_eq_true, Bool.and_eq_true, Bool.or_eq_false_iff, Bool.and_eq_false_imp, set2_e, ixe, ixr, rgI, rgI2, repL_i, row_map, $xs,*])
def btw (p : PV) (lo hi : Int) : Bool := match p with
  | .int i => decide (lo ≤ i) && decide (i ≤ hi)
  | _ => false
theorem is_between_ok {p : PV} {lo hi : Int} (h : Smp p) : F_is_between [p, .int lo, .int hi] = .ok (.bl (btw p lo hi), [.non, .non, .non]) := by
  apply eq_of
  rcases h with ⟨i, rfl⟩ | rfl | ⟨b, rfl⟩ | ⟨s, rfl, _⟩ | ⟨l, rfl⟩
  · simp! [F_is_between, m_is_between, F_is_integer, m_is_integer, isi_ii, isi_bi, iteB_bl, iteB_and]
    rfl
  · simp! [F_is_between, m_is_between, F_is_integer, m_is_integer, isi_in, isi_bn, iteB_bl, iteB_and]
    rfl
  · simp! [F_is_between, m_is_between, F_is_integer, m_is_integer, isi_ib, isi_bb, iteB_bl, iteB_and]
    rfl
  · simp! [F_is_between, m_is_between, F_is_integer, m_is_integer, isi_is, isi_bs, iteB_bl, iteB_and]
    rfl
  · simp! [F_is_between, m_is_between, F_is_integer, m_is_integer, isi_it, isi_bt, iteB_bl, iteB_and]
    rfl
theorem is_item_ok {p : PV} (h : Smp p) : F_is_item [p, .int 1] = .ok (.bl (btw p 1 1000), [.non, .non]) := by
  have hb := is_between_ok (lo := 1) (hi := 1000) h
  apply eq_of
  rcases h with ⟨i, rfl⟩ | rfl | ⟨b, rfl⟩ | ⟨s, rfl, _⟩ | ⟨l, rfl⟩ <;> simp! [F_is_item, m_is_item, hb]
  rfl
theorem tuple_of_t {ps : List PV} {n : Int} : F_is_tuple_of [.tup ps, .int n] = .ok (.bl (decide ((ps.length : Int) = n)), [.non, .non]) := by
  apply eq_of
  simp! [F_is_tuple_of, m_is_tuple_of, isi_tt]
theorem tuple_of_l {ps : List PV} {n : Int} : F_is_tuple_of [.lst ps, .int n] = .ok (.bl false, [.non, .non]) := by
  apply eq_of
  simp! [F_is_tuple_of, m_is_tuple_of, isi_tl]
theorem all_bs {bs : List Bool} : gAll [.lst (bs.map PV.bl)] = some (.bl (bs.all id)) := by
  have e : ∀ bs : List Bool, toBls (bs.map PV.bl) = some bs := fun bs => by
    induction bs with
    | nil => rfl
    | cons b bs ih => rw [List.map_cons]; unfold toBls; rw [ih]; rfl
  show (toBls _).map _ = _
  rw [e]; rfl
theorem all_rg {n : Nat} {f : Nat → Bool} : gAll [.lst ((List.range n).map fun i => .bl (f i))] = some (.bl ((List.range n).all f)) := by
  have : (List.range n).map (fun i => PV.bl (f i)) = ((List.range n).map f).map PV.bl := by rw [List.map_map]; rfl
  rw [this, all_bs, List.all_map]
  rfl
theorem enum_rg {n : Nat} {h : Nat → PV} : gEnum [.tup ((List.range n).map h)] = some ((List.range n).map fun i => .tup [.int i, h i]) := by
  have key : ∀ (l : List PV) (k : Nat), enumP k l = (List.range l.length).map fun i => .tup [.int ((k + i : Nat) : Int), l.getD i .non] := by
    intro l
    induction l with
    | nil => intro k; rfl
    | cons p l ih =>
      intro k
      rw [List.length_cons, List.range_succ_eq_map, List.map_cons, List.map_map]
      show PV.tup [.int (k : Nat), p] :: enumP (k + 1) l = _
      rw [ih (k + 1)]
      congr 1
      apply List.map_congr_left
      intro i _
      show PV.tup [.int ((k + 1 + i : Nat) : Int), _] = PV.tup [.int ((k + (i + 1) : Nat) : Int), _]
      rw [show k + 1 + i = k + (i + 1) from by omega]
      rfl
  show some (enumP 0 _) = _
  rw [key, List.length_map, List.length_range]
  congr 1
  apply List.map_congr_left
  intro i hi
  have := List.mem_range.mp hi
  rw [List.getD_eq_getElem?_getD, List.getElem?_map, List.getElem?_range this, Nat.zero_add]
  rfl
theorem enum_sq {n : Nat} {g : Nat → Nat → PV} : gEnum [sq n g] = some ((List.range n).map fun i => .tup [.int i, .tup ((List.range n).map (g i))]) := enum_rg
theorem sat_forR {ML : List Md} {Q : Out → Prop} {E : Str → List (Str × PV) → Prop} {g : PV → List PV → Option (List PV)} {s : MS} (Inv : List PV → Nat → List PV → Prop) {n : Nat} {h : Nat → PV} {env : List PV} (h0 : Inv env 0 env)
    (step : ∀ (x : Nat) e, x < n → Inv env x e → (stepO (g (h x) e) s).sat (fwd ML (Inv env (x + 1)) Q) E) (fin : ∀ e, Inv env n e → Q (.nx e)) : (forM ML g s ((List.range n).map h) env).sat Q E :=
  sat_forM Inv h0 (fun x v e hv hi => by
    have hx : x < n := by have := (List.getElem?_eq_some_iff.mp hv).1; simpa using this
    rw [List.getElem?_map, List.getElem?_range hx] at hv
    cases hv
    exact step x e hx hi) (fun e h => fin e (by simpa using h))
theorem sat_lcR {vs : List Nat} {Q : List PV × List PV → Prop} {E : Str → List (Str × PV) → Prop} {g : PV → List PV → Option (List PV)} (f : Nat → PV) {m : MV} {n : Nat} {h : Nat → PV} {env : List PV} (hl : n ≤ 100000) (step : ∀ x : Nat, x < n → (stepE vs (g (h x) env) m).sat (fun z => z = (f x, env)) noX)
    (fin : Q ((List.range n).map f, env)) : (lcM vs g mYes (kElt m) ((List.range n).map h) [] env).sat Q E :=
  sat_lcMap f (by simpa using hl) (fun x v hv => by
    have hx : x < n := by have := (List.getElem?_eq_some_iff.mp hv).1; simpa using this
    rw [List.getElem?_map, List.getElem?_range hx] at hv
    cases hv
    exact step x hx) (by simpa using fin)
def okI (g : Nat → Nat → PV) (x y : Nat) : Prop := btw (g x y) (if x = y then 0 else 1) (if x = y then 0 else 1000) = true
theorem btw_t {p : PV} {lo hi : Int} (h : btw p lo hi = true) : ∃ i, p = .int i ∧ lo ≤ i ∧ i ≤ hi := by
  unfold btw at h
  split at h
  · rename_i i
    rw [Bool.and_eq_true] at h
    exact ⟨i, rfl, of_decide_eq_true h.1, of_decide_eq_true h.2⟩
  · cases h
theorem okI_good {n : Nat} {g : Nat → Nat → PV} (h : GoodD n g) {x y : Nat} (hx : x < n) (hy : y < n) : okI g x y := by
  obtain ⟨f, e, hd⟩ := h
  unfold okI
  rw [e x y hx hy]
  show (decide _ && decide _) = true
  rw [Bool.and_eq_true, decide_eq_true_eq, decide_eq_true_eq]
  by_cases q : x = y
  · subst q; rw [hd.z x hx]; simp
  · rw [if_neg q, if_neg q]; exact hd.p x y hx hy q
theorem okI_all {n : Nat} {g : Nat → Nat → PV} (h : ∀ a b, a < n → b < n → okI g a b) : ∃ f : Nat → Nat → Int, (∀ x y, x < n → y < n → g x y = .int (f x y)) ∧ ∀ x y, x < n → y < n → (if x = y then 0 else 1) ≤ f x y ∧ f x y ≤ if x = y then 0 else 1000 := by
  let f : Nat → Nat → Int := fun x y => match g x y with | .int i => i | _ => 0
  have key : ∀ x y, x < n → y < n → g x y = .int (f x y) ∧ (if x = y then 0 else 1) ≤ f x y ∧ f x y ≤ if x = y then 0 else 1000 := fun x y hx hy => by
    obtain ⟨i, e, h1, h2⟩ := btw_t (h x y hx hy)
    have : f x y = i := by show (match g x y with | .int i => i | _ => 0) = i; rw [e]
    rw [this]; exact ⟨e, h1, h2⟩
  exact ⟨f, fun x y hx hy => (key x y hx hy).1, fun x y hx hy => (key x y hx hy).2⟩
theorem nums_sq {n : Nat} {g : Nat → Nat → PV} {Q : PV × List PV → Prop} {E : Str → List (Str × PV) → Prop} (hn : 1 ≤ n ∧ n ≤ 7) (hg : ∀ x y, x < n → y < n → Smp (g x y))
    (k : ∀ b, (b = true ↔ GoodD n g) → Q (.bl b, [.non, .non])) : (F_are_numbers [sq n g, .int 1]).sat Q E := by
  simp! [F_are_numbers, m_are_numbers, isi_sq, sq_len, decide_eq_true (show (1 : Int) ≤ n by omega), decide_eq_true (show (n : Int) ≤ 7 by omega), rows_all]
  refine sat_lcR (fun _ => .bl true) (by omega) (fun x hx => ?_) ?_
  · simp! [m_are_numbers_elt1, sq_len, tuple_of_t, List.length_map, List.length_range, decide_true]
  simp! [all_rg]
  have ht : (List.range n).all (fun _ => true) = true := by simp
  simp! [ht, enum_sq]
  refine ⟨fun _ => ?_, fun h => by cases h⟩
  refine sat_forR (fun E x e => e = E ∧ ∀ a b, a < x → b < n → okI g a b) ⟨rfl, fun a b h => by omega⟩ (fun x e hx ⟨he, hp⟩ => ?_) ?_
  · subst he
    simp! [m_are_numbers_body3, enum_rg]
    refine sat_forR (fun E y e => e = E ∧ ∀ b, b < y → okI g x b) ⟨rfl, fun b h => by omega⟩ (fun y e hy ⟨he, hpy⟩ => ?_) ?_
    · subst he
      have hs := hg x y hx hy
      simp! [m_are_numbers_body2, is_between_ok hs, is_item_ok hs]
      have bad : ¬ okI g x y → Q (.bl false, [.non, .non]) := fun z => k false ⟨fun h => absurd h (by decide), fun h => absurd (okI_good h hx hy) z⟩
      have nxt : okI g x y → ∀ b, b < y + 1 → okI g x b := fun z b hb => by
        by_cases e : b < y
        · exact hpy b e
        · have : b = y := by omega
          subst this; exact z
      have z1 : x = y → (okI g x y ↔ btw (g x y) 0 0 = true) := fun z => by unfold okI; rw [if_pos z, if_pos z]
      have z2 : ¬ x = y → (okI g x y ↔ btw (g x y) 1 1000 = true) := fun z => by unfold okI; rw [if_neg z, if_neg z]
      refine ⟨fun h => bad fun z => ?_, fun h => ⟨fun he => ⟨trivial, nxt ((z1 (by omega)).mpr (h he))⟩, fun hne => ⟨fun h2 => ⟨trivial, nxt ((z2 (by omega)).mpr h2)⟩, fun h2 => bad fun z => ?_⟩⟩⟩
      · rw [(z1 (by omega)).mp z] at h; cases h.2
      · rw [(z2 (by omega)).mp z] at h2; cases h2
    · rintro _ ⟨rfl, hpy⟩
      simp! []
      refine ⟨trivial, fun a b ha hb => ?_⟩
      by_cases q : a < x
      · exact hp a b q hb
      · have : a = x := by omega
        subst this; exact hpy b hb
  · rintro _ ⟨rfl, hp⟩
    simp! [sq_len]
    obtain ⟨f, ef, hf⟩ := okI_all hp
    refine sat_lcM (fun E i a e => e = E ∧ ∃ bs, a = bs.map PV.bl ∧ bs.length ≤ i * 10 ∧ (bs.all id = true ↔ ∀ a b, a < i → b < a → f a b = f b a)) ⟨rfl, [], rfl, by simp, by simp⟩ (fun x p a e hpx he => ?_) ?_
    · obtain ⟨hx, rfl⟩ := upto_get hpx
      obtain ⟨rfl, bs, rfl, hl, hbs⟩ := he
      simp! []
      refine sat_lcM (fun E i a e => e = E ∧ ∃ bs, a = bs.map PV.bl ∧ bs.length ≤ x * 10 + i ∧ (bs.all id = true ↔ (∀ a b, a < x → b < a → f a b = f b a) ∧ ∀ b, b < i → f x b = f b x)) ⟨rfl, bs, rfl, by omega, by rw [hbs]; simp⟩ (fun y p a e hpy he => ?_) ?_
      · obtain ⟨hy, rfl⟩ := upto_get hpy
        obtain ⟨rfl, bs, rfl, hl, hbs⟩ := he
        simp! [m_are_numbers_elt4, sq_ix, ixt_m, ef]
        refine ⟨trivial, bs ++ [decide (f x y = f y x)], by rw [List.map_append]; rfl, by simp; omega, ?_⟩
        rw [List.all_append, Bool.and_eq_true, hbs]
        simp only [List.all_cons, List.all_nil, Bool.and_true, id, decide_eq_true_eq]
        constructor
        · rintro ⟨⟨h1, h2⟩, h3⟩
          refine ⟨h1, fun b hb => ?_⟩
          by_cases q : b < y
          · exact h2 b q
          · have : b = y := by omega
            subst this; exact h3
        · rintro ⟨h1, h2⟩
          exact ⟨⟨h1, fun b hb => h2 b (by omega)⟩, h2 y (by omega)⟩
      · rintro a e ⟨rfl, bs, rfl, hl, hbs⟩
        rw [upto_len] at hl hbs
        simp! []
        refine ⟨trivial, bs, rfl, by omega, ?_⟩
        rw [hbs]
        constructor
        · rintro ⟨h1, h2⟩ a b ha hb
          by_cases q : a < x
          · exact h1 a b q hb
          · have : a = x := by omega
            subst this; exact h2 b hb
        · intro h
          exact ⟨fun a b ha hb => h a b (by omega) hb, fun b hb => h x b (by omega) hb⟩
    · rintro a e ⟨rfl, bs, rfl, hl, hbs⟩
      rw [upto_len] at hl hbs
      simp! [all_bs]
      refine k _ ?_
      rw [hbs]
      constructor
      · intro h
        refine ⟨f, ef, ⟨fun i hi => ?_, fun i j hi hj => ?_, fun i j hi hj hij => ?_⟩⟩
        · have := hf i i hi hi; rw [if_pos rfl, if_pos rfl] at this; omega
        · rcases Nat.lt_trichotomy i j with q | q | q
          · exact (h j i hj q).symm
          · rw [q]
          · exact h i j hi q
        · have := hf i j hi hj; rw [if_neg hij, if_neg hij] at this; exact this
      · rintro ⟨f', ef', hd⟩ a b ha hb
        have e1 := ef' a b ha (by omega); have e2 := ef' b a (by omega) ha
        rw [ef a b ha (by omega)] at e1; rw [ef b a (by omega) ha] at e2
        injection e1 with e1; injection e2 with e2
        rw [e1, e2]; exact hd.s a b ha (by omega)
end CqL

/-! text Qd -/
set_option linter.all false
set_option maxRecDepth 100000
/-! plain law: values that are no square -/
namespace CqL
open PySem PySem.Spec L2 Cq
local macro_rules
  | `(tactic| simp! [$xs,*]) => `(tactic| simp -implicitDefEqProofs (disch := first | omega | (simp only [List.length_append, List.length_map, List.length_range, List.length_cons, List.length_nil, List.length_set, iL_len, row_l, enc_len, upto_l, from_l]; omega)) only [satK_ap, sat_bind, sat_nx, sat_ok, sat_exc, sat_bad, bind_ok, bind_exc, bind_bad, nx_ok, nx_bad, iteB_t, iteB_f, iteB_n, sat_iteB, iteB_pure, iteB_pure2, iteB_val, iteB_int, iteB_bl, iteB_and, iteB_or, ofO_some, ofO_none, mOfB_some, mVar_ap, mC_ap, andK_ap, mAnd_ap, orK_ap, mOr_ap, notK_ap, mNot_ap, ifK_ap, mIf_ap, andVK2_ap, andVK_ap, mAndV_ap, orVK2_ap, orVK_ap, mOrV_ap, notVK2_ap, notVK_ap, mNotV_ap, unK_ap, mUn_ap, binK2_ap, binK_ap, mBin_ap, truK_ap, mTru_ap, isbK_ap, mIsB_ap, chK2_ap, chK_ap, mChain_ap, chO_b, mNil_ap, consK2_ap, consK_ap, mCons_ap, argsK_ap, mArgs_ap, ownK_ap, mOwnA_ap, callK2_ap, callK_ap, mCall_ap, lenIs_ok, kwK3_ap, kwK2_ap, kwK_ap, mkK3_ap, mkK2_ap, mkK_ap, mMake_ap, mCallK_ap, vwK_ap, mView_ap, vbK_ap, mViewB_ap, voK_ap, mViewO_ap, vwO_ap, nolst_int, nolst_bl, nolst_non, nolst_str, nolst_tup, nolst_nil, nolst_cons, seqK_nx, seqK_rt, seqK_bk, seqK_ct, mSeq_ap, mSkip_ap, mWk_ap, wkO_nx, wkO_rt, wkO_bk, wkO_ct, mBrk_ap, mCnt_ap, dropK_ap, mDrop_ap, retK_ap, mRet_ap, rowO_s, mRetOwn_ap, setK_ap, mSet_ap, parK2_ap, parK_ap, mPar_ap, asgO_s, asgK_ap, mAsg_ap, gN_ap, gsNil_ap, gsCons_ap, obind_s, gSqT_t, gSqT_l, gTupT_t, itO_s, sqK_ap, mSq_ap, rgK_ap, mRg_ap, itK_ap, mIt_ap, seqP_l, seqP_t, forK_ap, mFor_ap, mWhile_ap, lcK2_ap, lcK_ap, mLc_ap, mYes_ap, mDef_ap, outD_rt, outD_nx, pshK_ap, mPush_ap, extK_ap, mExt_ap, clr_un, clr_fz, clr_ow, clr_ow2, clr_nil, fill_n, fill_s, fill_0, back_n, back_s, back_0, wipe_0, wipe_s, rest_0, rest_s, hdE_ap, sat_try, partO_i, partK_ap, mPart_ap, mNoPart_ap, slK3_ap, slK2_ap, slK_ap, mSl_ap, pshO_s, extO_s, stepO_s, fwd_nx, fwd_ct, fwd_bk, fwd_rt, stepM_s, stmK_ap, stmK2_ap, eltK_ap, kElt_ap, kSub_ap, subK_ap, stepE_s, steK_ap, gSetOwn2_ap, gSetOwn_ap, pVar_ap, pC_ap, pBin_ap, pbO_s, add_i, sub_i, mul_r, mul_l, div_i, mod_i, shl_i, shr_i, and_i, or_i, xor_i, lt_i, le_i, gt_i, ge_i, eq_i, ne_i, eq_in, ne_in, eq_b, ne_b, eq_s, ne_s, is_n, isn_n, isNonP_int, isNonP_non, isNonP_tup, isNonP_lst, isNonP_bl, isNonP_str, isNonP_ins, tru_b, tru_i, tru_n, tru_l, tru_t, isBl_b, neg_i, len_l, len_t, len_scr, abs_i, int_i, int_b, max_ii, min_ii, list_l, list_t, tuple_l, tuple_t, tup_0, tup_1, tup_2, tup_3, tup_4, lst_0, lst_1, lst_2, lst_3, lst_4, ixl_0, ixl_1, ixl_2, ixl_3, ixt_0, ixt_1, ixt_2, ixt_3, List.set_cons_zero, List.set_cons_succ, List.getElem?_cons_zero, List.getElem?_cons_succ, List.getD_cons_zero, List.getD_cons_succ, List.take_succ_cons, List.take_zero, List.cons_append, List.nil_append, List.length_cons, List.length_nil, List.replicate_succ, List.replicate_zero, Nat.reduceSub, Nat.reduceAdd, Int.toNat_natCast, decide_eq_true_eq, decide_eq_false_iff_not, Bool.not_true, Bool.not_false, Bool.not_eq_true', Bool.not_eq_false', Bool.or_eq_true, Bool.and_eq_true, Bool.or_eq_false_iff, Bool.and_eq_false_imp, set2_e, ixe, ixr, rgI, rgI2, repL_i, row_map, $xs,*])
def rowOk (n : Nat) (p : PV) : Bool := match p with
  | .tup qs => decide (qs.length = n)
  | _ => false
/-- values that are no square tuples -/
inductive NoSq : PV → Prop
  | a {p : PV} {k : String} (h : tyN p = some k) (h2 : isKind k "tuple" = false) : NoSq p
  | b {ps : List PV} (h : ps.length = 0 ∨ 7 < ps.length) : NoSq (.tup ps)
  | c {ps : List PV} (h1 : 1 ≤ ps.length) (h2 : ps.length ≤ 7) (h3 : ∀ p ∈ ps, Sh 10 p ∧ ((∃ qs, p = .tup qs) ∨ ∃ qs, p = .lst qs)) (h4 : ∃ p ∈ ps, rowOk ps.length p = false) : NoSq (.tup ps)
theorem sl_none {ps : List PV} {env : List PV} {m : MV} : True := trivial
theorem fits_no {p : PV} {Q : PV × List PV → Prop} {E : Str → List (Str × PV) → Prop} (h : NoSq p) (k : Q (.bl false, [.non])) : (F__law_fits [p]).sat Q E := by
  cases h with
  | a h h2 =>
    simp! [F__law_fits, m__law_fits, isi_n h (show kinds.contains "tuple" = true by decide), h2]
    exact k
  | b h =>
    rename_i ps
    rcases h with h | h
    · simp! [F__law_fits, m__law_fits, isi_tt, decide_eq_false (show ¬ (1 : Int) ≤ ps.length by omega)]
      exact k
    · simp! [F__law_fits, m__law_fits, isi_tt, decide_eq_true (show (1 : Int) ≤ ps.length by omega), decide_eq_false (show ¬ (ps.length : Int) ≤ 7 by omega)]
      exact k
  | c h1 h2 h3 h4 =>
    rename_i ps
    simp! [F__law_fits, m__law_fits, isi_tt, decide_eq_true (show (1 : Int) ≤ ps.length by omega), decide_eq_true (show (ps.length : Int) ≤ 7 by omega)]
    refine sat_lcM (fun E i a e => e = E ∧ a.length ≤ i ∧ (∀ p ∈ a, Sh 10 p) ∧ (a = [] → ∀ j p, j < i → ps[j]? = some p → rowOk ps.length p = true)) ⟨rfl, by simp, by simp, fun _ j p h => by omega⟩ (fun i p a e hp he => ?_) ?_
    · obtain ⟨rfl, hl, ha, hn⟩ := he
      have hi := (List.getElem?_eq_some_iff.mp hp).1
      obtain ⟨hs, hk⟩ := h3 p (List.mem_of_getElem? hp)
      have nx : rowOk ps.length p = true → a = [] → ∀ j q, j < i + 1 → ps[j]? = some q → rowOk ps.length q = true := fun z ha j q hj hq => by
        by_cases e : j < i
        · exact hn ha j q e hq
        · have : j = i := by omega
          subst this
          rw [hp] at hq; cases hq; exact z
      have ap : ∀ q ∈ a ++ [p], Sh 10 q := fun q hq => by
        rcases List.mem_append.mp hq with z | z
        · exact ha q z
        · rw [List.mem_singleton.mp z]; exact hs
      have ne : a ++ [p] ≠ [] := by simp
      rcases hk with ⟨qs, rfl⟩ | ⟨qs, rfl⟩
      · simp! [isi_tt]
        refine ⟨fun h => ⟨trivial, by omega, ha, nx (decide_eq_true (by omega))⟩, fun h => ⟨trivial, by simp; omega, ap, fun z => absurd z ne⟩⟩
      · simp! [isi_tl]
        refine ⟨trivial, by simp; omega, ap, fun z => absurd z ne⟩
    · rintro a e ⟨rfl, hl, ha, hn⟩
      have hne : a ≠ [] := fun z => by
        obtain ⟨p, hp, hq⟩ := h4
        obtain ⟨j, hj⟩ := List.mem_iff_getElem?.mp hp
        have := hn z j p (List.getElem?_eq_some_iff.mp hj).1 hj
        rw [hq] at this; cases this
      have e1 := (eq_sh (p := .lst a) (q := .lst []) ((Sh.lst ha).mono (by omega)) ((Sh.lst (k := 0) (ps := []) (by simp)).mono (by omega))).2
      rw [peq_nil (Sh.lst ha)] at e1
      have e2 : a.isEmpty = false := by cases a with | nil => exact absurd rfl hne | cons => rfl
      rw [e2] at e1
      simp! [e1]
      exact k
theorem nums_no {p : PV} {Q : PV × List PV → Prop} {E : Str → List (Str × PV) → Prop} (h : NoSq p) (k : Q (.bl false, [.non, .non])) : (F_are_numbers [p, .int 1]).sat Q E := by
  cases h with
  | a h h2 =>
    simp! [F_are_numbers, m_are_numbers, isi_n h (show kinds.contains "tuple" = true by decide), h2]
    exact k
  | b h =>
    rename_i ps
    rcases h with h | h
    · simp! [F_are_numbers, m_are_numbers, isi_tt, decide_eq_false (show ¬ (1 : Int) ≤ ps.length by omega)]
      exact k
    · simp! [F_are_numbers, m_are_numbers, isi_tt, decide_eq_true (show (1 : Int) ≤ ps.length by omega), decide_eq_false (show ¬ (ps.length : Int) ≤ 7 by omega)]
      exact k
  | c h1 h2 h3 h4 =>
    rename_i ps
    simp! [F_are_numbers, m_are_numbers, isi_tt, decide_eq_true (show (1 : Int) ≤ ps.length by omega), decide_eq_true (show (ps.length : Int) ≤ 7 by omega)]
    refine sat_lcMap (fun i => .bl (rowOk ps.length (ps.getD i .non))) (by omega) (fun i p hp => ?_) ?_
    · obtain ⟨hs, hk⟩ := h3 p (List.mem_of_getElem? hp)
      have e0 : ps.getD i .non = p := by rw [List.getD_eq_getElem?_getD, hp]; rfl
      rcases hk with ⟨qs, rfl⟩ | ⟨qs, rfl⟩
      · simp! [m_are_numbers_elt1, tuple_of_t, e0]
        congr 2
        show decide _ = decide _
        exact decide_eq_decide.mpr (by omega)
      · simp! [m_are_numbers_elt1, tuple_of_l, e0]
        rfl
    · have hf : (List.range ps.length).all (fun i => rowOk ps.length (ps.getD i .non)) = false := by
        obtain ⟨p, hp, hq⟩ := h4
        obtain ⟨j, hj⟩ := List.mem_iff_getElem?.mp hp
        rw [List.all_eq_false]
        refine ⟨j, List.mem_range.mpr (List.getElem?_eq_some_iff.mp hj).1, ?_⟩
        rw [List.getD_eq_getElem?_getD, hj]
        show ¬ rowOk ps.length p = true
        rw [hq]; decide
      simp! [all_rg, hf]
      exact k
end CqL

/-! text Qe -/
set_option linter.all false
set_option maxRecDepth 100000
/-! plain law: shortcuts -/
namespace CqL
open PySem PySem.Spec L2 Cq
local macro_rules
  | `(tactic| simp! [$xs,*]) => `(tactic| simp -implicitDefEqProofs (disch := first | omega | (simp only [List.length_append, List.length_map, List.length_range, List.length_cons, List.length_nil, List.length_set, iL_len, row_l, enc_len, upto_l, from_l]; omega)) only [satK_ap, sat_bind, sat_nx, sat_ok, sat_exc, sat_bad, bind_ok, bind_exc, bind_bad, nx_ok, nx_bad, iteB_t, iteB_f, iteB_n, sat_iteB, iteB_pure, iteB_pure2, iteB_val, iteB_int, iteB_bl, iteB_and, iteB_or, ofO_some, ofO_none, mOfB_some, mVar_ap, mC_ap, andK_ap, mAnd_ap, orK_ap, mOr_ap, notK_ap, mNot_ap, ifK_ap, mIf_ap, andVK2_ap, andVK_ap, mAndV_ap, orVK2_ap, orVK_ap, mOrV_ap, notVK2_ap, notVK_ap, mNotV_ap, unK_ap, mUn_ap, binK2_ap, binK_ap, mBin_ap, truK_ap, mTru_ap, isbK_ap, mIsB_ap, chK2_ap, chK_ap, mChain_ap, chO_b, mNil_ap, consK2_ap, consK_ap, mCons_ap, argsK_ap, mArgs_ap, ownK_ap, mOwnA_ap, callK2_ap, callK_ap, mCall_ap, lenIs_ok, kwK3_ap, kwK2_ap, kwK_ap, mkK3_ap, mkK2_ap, mkK_ap, mMake_ap, mCallK_ap, vwK_ap, mView_ap, vbK_ap, mViewB_ap, voK_ap, mViewO_ap, vwO_ap, nolst_int, nolst_bl, nolst_non, nolst_str, nolst_tup, nolst_nil, nolst_cons, seqK_nx, seqK_rt, seqK_bk, seqK_ct, mSeq_ap, mSkip_ap, mWk_ap, wkO_nx, wkO_rt, wkO_bk, wkO_ct, mBrk_ap, mCnt_ap, dropK_ap, mDrop_ap, retK_ap, mRet_ap, rowO_s, mRetOwn_ap, setK_ap, mSet_ap, parK2_ap, parK_ap, mPar_ap, asgO_s, asgK_ap, mAsg_ap, gN_ap, gsNil_ap, gsCons_ap, obind_s, gSqT_t, gSqT_l, gTupT_t, itO_s, sqK_ap, mSq_ap, rgK_ap, mRg_ap, itK_ap, mIt_ap, seqP_l, seqP_t, forK_ap, mFor_ap, mWhile_ap, lcK2_ap, lcK_ap, mLc_ap, mYes_ap, mDef_ap, outD_rt, outD_nx, pshK_ap, mPush_ap, extK_ap, mExt_ap, clr_un, clr_fz, clr_ow, clr_ow2, clr_nil, fill_n, fill_s, fill_0, back_n, back_s, back_0, wipe_0, wipe_s, rest_0, rest_s, hdE_ap, sat_try, partO_i, partK_ap, mPart_ap, mNoPart_ap, slK3_ap, slK2_ap, slK_ap, mSl_ap, pshO_s, extO_s, stepO_s, fwd_nx, fwd_ct, fwd_bk, fwd_rt, stepM_s, stmK_ap, stmK2_ap, eltK_ap, kElt_ap, kSub_ap, subK_ap, stepE_s, steK_ap, gSetOwn2_ap, gSetOwn_ap, pVar_ap, pC_ap, pBin_ap, pbO_s, add_i, sub_i, mul_r, mul_l, div_i, mod_i, shl_i, shr_i, and_i, or_i, xor_i, lt_i, le_i, gt_i, ge_i, eq_i, ne_i, eq_in, ne_in, eq_b, ne_b, eq_s, ne_s, is_n, isn_n, isNonP_int, isNonP_non, isNonP_tup, isNonP_lst, isNonP_bl, isNonP_str, isNonP_ins, tru_b, tru_i, tru_n, tru_l, tru_t, isBl_b, neg_i, len_l, len_t, len_scr, abs_i, int_i, int_b, max_ii, min_ii, list_l, list_t, tuple_l, tuple_t, tup_0, tup_1, tup_2, tup_3, tup_4, lst_0, lst_1, lst_2, lst_3, lst_4, ixl_0, ixl_1, ixl_2, ixl_3, ixt_0, ixt_1, ixt_2, ixt_3, List.set_cons_zero, List.set_cons_succ, List.getElem?_cons_zero, List.getElem?_cons_succ, List.getD_cons_zero, List.getD_cons_succ, List.take_succ_cons, List.take_zero, List.cons_append, List.nil_append, List.length_cons, List.length_nil, List.replicate_succ, List.replicate_zero, Nat.reduceSub, Nat.reduceAdd, Int.toNat_natCast, decide_eq_true_eq, decide_eq_false_iff_not, Bool.not_true, Bool.not_false, Bool.not_eq_true', Bool.not_eq_false', Bool.or_eq_true, Bool.and_eq_true, Bool.or_eq_false_iff, Bool.and_eq_false_imp, set2_e, ixe, ixr, rgI, rgI2, repL_i, row_map, $xs,*])
theorem strok {s : Str} (h : s.cps.all (· < 0x110000) = true) : PyData.canLay0 (.str s) = true := h
theorem seq_iL {l : List Int} : seqP (.lst (iL l)) = some (iL l) := rfl
def short (f : Nat → Nat → Int) (x y z : Nat) : Prop := f x y + f y z < f x z
structure Fst (n : Nat) (f : Nat → Nat → Int) (x y z : Nat) : Prop where
  hx : x < n
  hy : y < n
  hz : z < n
  s : short f x y z
  m : ∀ a b c, a < n → b < n → c < n → (a < x ∨ (a = x ∧ (b < y ∨ (b = y ∧ c < z)))) → ¬ short f a b c
theorem Fst.uniq {n : Nat} {f : Nat → Nat → Int} {x y z a b c : Nat} (h : Fst n f x y z) (k : Fst n f a b c) : a = x ∧ b = y ∧ c = z := by
  have h1 : ¬ _ := fun q => h.m a b c k.hx k.hy k.hz q k.s
  have h2 : ¬ _ := fun q => k.m x y z h.hx h.hy h.hz q h.s
  omega
theorem sq_eq {n : Nat} {g h : Nat → Nat → PV} (e : ∀ i j, i < n → j < n → g i j = h i j) : sq n g = sq n h := by
  unfold sq
  congr 1
  apply List.map_congr_left
  intro i hi
  congr 1
  apply List.map_congr_left
  intro j hj
  exact e i j (List.mem_range.mp hi) (List.mem_range.mp hj)
theorem sqi_inj {n m : Nat} {f g : Nat → Nat → Int} (h : sqi n f = sqi m g) : n = m ∧ ∀ i j, i < n → j < n → f i j = g i j := by
  unfold sqi sq at h
  injection h with h
  have hn := congrArg List.length h
  simp only [List.length_map, List.length_range] at hn
  subst hn
  refine ⟨rfl, fun i j hi hj => ?_⟩
  have h1 := congrArg (fun l => l[i]?) h
  rw [List.getElem?_map, List.getElem?_map, List.getElem?_range hi] at h1
  injection h1 with h1
  injection h1 with h1
  have h2 := congrArg (fun l => l[j]?) h1
  rw [List.getElem?_map, List.getElem?_map, List.getElem?_range hj] at h2
  injection h2 with h2
  injection h2 with h2
def Good (v : PV) : Prop := ∃ n f, (1 ≤ n ∧ n ≤ 7) ∧ v = sqi n f ∧ Dist n f
theorem good_sq {n : Nat} {g : Nat → Nat → PV} (hn : 1 ≤ n ∧ n ≤ 7) : Good (sq n g) ↔ GoodD n g := by
  constructor
  · rintro ⟨m, f, _, e, h⟩
    unfold sqi sq at e
    injection e with e
    have hn := congrArg List.length e
    simp only [List.length_map, List.length_range] at hn
    subst hn
    refine ⟨f, fun x y hx hy => ?_, h⟩
    have h1 := congrArg (fun l => l[x]?) e
    rw [List.getElem?_map, List.getElem?_map, List.getElem?_range hx] at h1
    injection h1 with h1
    injection h1 with h1
    have h2 := congrArg (fun l => l[y]?) h1
    rw [List.getElem?_map, List.getElem?_map, List.getElem?_range hy] at h2
    injection h2 with h2
  · rintro ⟨f, e, h⟩
    exact ⟨n, f, hn, sq_eq fun i j hi hj => e i j hi hj, h⟩
theorem no_good {v : PV} (h : NoSq v) : ¬ Good v := by
  rintro ⟨n, f, hn, rfl, hd⟩
  unfold sqi sq at h
  cases h with
  | a h h2 =>
    have : "tuple" = _ := Option.some.inj h
    subst this
    exact absurd h2 (by decide)
  | b h => simp at h; omega
  | c h1 h2 h3 h4 =>
    obtain ⟨p, hp, hq⟩ := h4
    obtain ⟨i, hi, rfl⟩ := List.mem_map.mp hp
    unfold rowOk at hq
    simp at hq
/-- what is due for a value -/
inductive Due (v : PV) : PV → Prop
  | rows (h : ¬ Good v) : Due v (.lst [.str "rows", v])
  | shortcut {n f x y z} (hn : 1 ≤ n ∧ n ≤ 7) (hv : v = sqi n f) (hd : Dist n f) (h : Fst n f x y z) : Due v (.lst [.str "shortcut", .int (x : Nat), .int (y : Nat), .int (z : Nat)])
  | told {n f} (hn : 1 ≤ n ∧ n ≤ 7) (hv : v = sqi n f) (hd : Dist n f) (h : ∀ a b c, a < n → b < n → c < n → ¬ short f a b c) : Due v (.lst [.str "told", v, .int (n : Nat)])
theorem short_congr {n : Nat} {f g : Nat → Nat → Int} (e : ∀ i j, i < n → j < n → f i j = g i j) {a b c : Nat} (ha : a < n) (hb : b < n) (hc : c < n) : short f a b c ↔ short g a b c := by
  unfold short
  rw [e a b ha hb, e b c hb hc, e a c ha hc]
theorem Due.uniq {v d e : PV} (h : Due v d) (k : Due v e) : e = d := by
  cases h with
  | rows h =>
    cases k with
    | rows _ => rfl
    | shortcut hn hv hd _ => exact absurd ⟨_, _, hn, hv, hd⟩ h
    | told hn hv hd _ => exact absurd ⟨_, _, hn, hv, hd⟩ h
  | shortcut hn hv hd h =>
    cases k with
    | rows k => exact absurd ⟨_, _, hn, hv, hd⟩ k
    | shortcut hn2 hv2 hd2 h2 =>
      obtain ⟨rfl, e⟩ := sqi_inj (hv.symm.trans hv2)
      have h3 := Fst.mk h2.hx h2.hy h2.hz ((short_congr e h2.hx h2.hy h2.hz).mpr h2.s) fun a b c ha hb hc q z => h2.m a b c ha hb hc q ((short_congr e ha hb hc).mp z)
      obtain ⟨rfl, rfl, rfl⟩ := h.uniq h3
      rfl
    | told hn2 hv2 hd2 h2 =>
      obtain ⟨rfl, e⟩ := sqi_inj (hv.symm.trans hv2)
      exact absurd ((short_congr e h.hx h.hy h.hz).mp h.s) (h2 _ _ _ h.hx h.hy h.hz)
  | told hn hv hd h =>
    cases k with
    | rows k => exact absurd ⟨_, _, hn, hv, hd⟩ k
    | shortcut hn2 hv2 hd2 h2 =>
      obtain ⟨rfl, e⟩ := sqi_inj (hv.symm.trans hv2)
      exact absurd ((short_congr e h2.hx h2.hy h2.hz).mpr h2.s) (h _ _ _ h2.hx h2.hy h2.hz)
    | told hn2 hv2 hd2 h2 =>
      obtain ⟨rfl, e⟩ := sqi_inj (hv.symm.trans hv2)
      rfl
theorem lr1 {j : Int} (h0 : 0 ≤ j) (h1 : j ≤ 10000) : gLr1 [.int j] = some (.lst (iL (upto j.toNat))) := by
  obtain ⟨n, rfl⟩ : ∃ n : Nat, j = n := ⟨j.toNat, by omega⟩
  have r1 : Nat.ble (n : Int).natAbs 16777216 = true := Nat.ble_eq_true_of_le (by omega)
  show (if _ then some (PV.lst (rangeP 0 (n : Int).toNat)) else none) = _
  rw [if_pos r1, Int.toNat_natCast, rangeP_upto]
theorem sqi_ix {n : Nat} {f : Nat → Nat → Int} {i : Int} (h1 : 0 ≤ i) (h2 : i < n) : gIx (sqi n f) (.int i) = some (.tup (iL (row n (f i.toNat)))) := by rw [← row_map]; exact ixt_m h1 h2
theorem ixrt {n : Nat} {g : Nat → Int} {i : Int} (h1 : 0 ≤ i) (h2 : i < n) : gIx (.tup (iL (row n g))) (.int i) = some (.int (g i.toNat)) := by rw [← row_map]; exact ixt_m h1 h2
theorem sqi_len {n : Nat} {f : Nat → Nat → Int} : gLen [sqi n f] = some (.int n) := sq_len
/-- no shortcut, or the first one -/
theorem short_sat {n : Nat} {f : Nat → Nat → Int} {Q : PV × List PV → Prop} {E : Str → List (Str × PV) → Prop} (hn : 1 ≤ n ∧ n ≤ 7)
    (k1 : ∀ x y z, Fst n f x y z → Q (.tup [.int (x : Nat), .int (y : Nat), .int (z : Nat)], [.non])) (k2 : (∀ a b c, a < n → b < n → c < n → ¬ short f a b c) → Q (.non, [.non])) : (F_shortcut_in [sqi n f]).sat Q E := by
  simp! [F_shortcut_in, m_shortcut_in, sqi_len, lr1, seq_iL]
  refine sat_forU (fun E x e => e = E ∧ ∀ a b c, a < x → b < n → c < n → ¬ short f a b c) ⟨rfl, fun a b c h => by omega⟩ (fun x e hx ⟨he, hp⟩ => ?_) ?_
  · subst he
    simp! [m_shortcut_in_body3, seq_iL]
    refine sat_forU (fun E y e => e = E ∧ ∀ b c, b < y → c < n → ¬ short f x b c) ⟨rfl, fun b c h => by omega⟩ (fun y e hy ⟨he, hpy⟩ => ?_) ?_
    · subst he
      simp! [m_shortcut_in_body2, seq_iL]
      refine sat_forU (fun E z e => e = E ∧ ∀ c, c < z → ¬ short f x y c) ⟨rfl, fun c h => by omega⟩ (fun z e hz ⟨he, hpz⟩ => ?_) ?_
      · subst he
        simp! [m_shortcut_in_body1, sqi_ix, ixrt]
        refine ⟨fun h => k1 x y z ⟨hx, hy, hz, h, fun a b c ha hb hc q => ?_⟩, fun h => ⟨trivial, fun c hc => ?_⟩⟩
        · rcases q with q | ⟨rfl, q | ⟨rfl, q⟩⟩
          · exact hp a b c q hb hc
          · exact hpy b c q hc
          · exact hpz c q
        · by_cases e : c < z
          · exact hpz c e
          · have : c = z := by omega
            subst this; exact h
      · rintro _ ⟨rfl, hpz⟩
        simp! []
        refine ⟨trivial, fun b c hb hc => ?_⟩
        by_cases e : b < y
        · exact hpy b c e hc
        · have : b = y := by omega
          subst this; exact hpz c hc
    · rintro _ ⟨rfl, hpy⟩
      simp! []
      refine ⟨trivial, fun a b c ha hb hc => ?_⟩
      by_cases e : a < x
      · exact hp a b c e hb hc
      · have : a = x := by omega
        subst this; exact hpy b c hb hc
  · rintro _ ⟨rfl, hp⟩
    simp! []
    exact k2 fun a b c ha hb hc => hp a b c ha hb hc
def Vl (v : PV) : Prop := NoSq v ∨ ∃ n g, (1 ≤ n ∧ n ≤ 7) ∧ v = sq n g ∧ ∀ x y, x < n → y < n → Smp (g x y)
theorem fits_sat {v : PV} {Q : PV × List PV → Prop} {E : Str → List (Str × PV) → Prop} (hv : Vl v) (k : ∀ b, (b = true ↔ Good v) → Q (.bl b, [.non])) : (F__law_fits [v]).sat Q E := by
  rcases hv with h | ⟨n, g, hn, rfl, hg⟩
  · exact fits_no h (k false ⟨fun z => absurd z (by decide), fun z => absurd z (no_good h)⟩)
  · exact fits_sq hn hg fun b hb => k b (hb.trans (good_sq hn).symm)
theorem nums_sat {v : PV} {Q : PV × List PV → Prop} {E : Str → List (Str × PV) → Prop} (hv : Vl v) (k : ∀ b, (b = true ↔ Good v) → Q (.bl b, [.non, .non])) : (F_are_numbers [v, .int 1]).sat Q E := by
  rcases hv with h | ⟨n, g, hn, rfl, hg⟩
  · exact nums_no h (k false ⟨fun z => absurd z (by decide), fun z => absurd z (no_good h)⟩)
  · exact nums_sq hn hg fun b hb => k b (hb.trans (good_sq hn).symm)
theorem due_sat {v : PV} {Q : PV × List PV → Prop} {E : Str → List (Str × PV) → Prop} (hv : Vl v) (k : ∀ d, Due v d → Q (d, [.non])) : (F__law_due [v]).sat Q E := by
  simp! [F__law_due, m__law_due]
  refine fits_sat hv fun b hb => ?_
  simp! []
  refine ⟨fun h => ?_, fun h => k _ (.rows fun z => by rw [hb.mpr z] at h; cases h)⟩
  obtain ⟨n, f, hn, rfl, hd⟩ := hb.mp h
  simp! [sqi_len]
  refine sat_forU (fun E x e => e = E ∧ ∀ a b c, a < x → b < n → c < n → ¬ short f a b c) ⟨rfl, fun a b c h => by omega⟩ (fun x e hx ⟨he, hp⟩ => ?_) ?_
  · subst he
    simp! [m__law_due_body4]
    refine sat_forU (fun E y e => e = E ∧ ∀ b c, b < y → c < n → ¬ short f x b c) ⟨rfl, fun b c h => by omega⟩ (fun y e hy ⟨he, hpy⟩ => ?_) ?_
    · subst he
      simp! [m__law_due_body3]
      refine sat_forU (fun E z e => e = E ∧ ∀ c, c < z → ¬ short f x y c) ⟨rfl, fun c h => by omega⟩ (fun z e hz ⟨he, hpz⟩ => ?_) ?_
      · subst he
        simp! [m__law_due_body2, m__law_due_th1, sqi_ix, ixrt]
        refine ⟨fun h => k _ (.shortcut hn rfl hd ⟨hx, hy, hz, h, fun a b c ha hb hc q => ?_⟩), fun h => ⟨trivial, fun c hc => ?_⟩⟩
        · rcases q with q | ⟨rfl, q | ⟨rfl, q⟩⟩
          · exact hp a b c q hb hc
          · exact hpy b c q hc
          · exact hpz c q
        · by_cases e : c < z
          · exact hpz c e
          · have : c = z := by omega
            subst this; exact h
      · rintro _ ⟨rfl, hpz⟩
        simp! []
        refine ⟨trivial, fun b c hb hc => ?_⟩
        by_cases e : b < y
        · exact hpy b c e hc
        · have : b = y := by omega
          subst this; exact hpz c hc
    · rintro _ ⟨rfl, hpy⟩
      simp! []
      refine ⟨trivial, fun a b c ha hb hc => ?_⟩
      by_cases e : a < x
      · exact hp a b c e hb hc
      · have : a = x := by omega
        subst this; exact hpy b c hb hc
  · rintro _ ⟨rfl, hp⟩
    simp! []
    exact k _ (.told hn rfl hd fun a b c ha hb hc => hp a b c ha hb hc)
end CqL

/-! text Cq29 -/
set_option Elab.async false
set_option linter.all false
set_option maxRecDepth 100000
/-! Cq, part 29: instances, exceptions, run by rewriting. -/
namespace Cq
open PySem PySem.Spec L2
section
variable {env e : List PV} {p : PV} {C x f : Str} {fs : List (Str × PV)} {m : MV} {s : MS} {mx : MX}
def ibK (m2 : MX) (o : Out) : R (List (Str × PV)) := match o with
  | .nx e => m2 e
  | _ => .bad
theorem ibK_nx : ibK mx (.nx e) = mx e := rfl
theorem mIb_ap : mIb s mx env = (s env).bind (ibK mx) := by
  unfold mIb; exact congrArg _ (funext fun o => by cases o <;> rfl)
theorem mIni_ap {n k : Nat} {ps : List PV} : mIni n k mx ps = mx (.non :: ps ++ List.replicate (k - (n + 1)) .non) := rfl
def fsK (f : Str) (m : MT) (fs : List (Str × PV)) (r : PV × List PV) : R (List (Str × PV)) := m (putP f r.1 fs) r.2
theorem fsK_ap {mt : MT} : fsK f mt fs (p, e) = mt (putP f p fs) e := rfl
theorem mFs_ap {mt : MT} (h : fs.length + 1 < 900) : mFs f m mt fs env = (m env).bind (fsK f mt fs) := by
  unfold mFs; rw [if_pos h]; rfl
theorem putP_0 : putP f p [] = [(f, p)] := rfl
def raiK (x : Str) (ks : List (Str × Nat)) (r : List PV × List PV) : R Out := .exc x (addP (.non :: r.1) ks [])
theorem raiK_ap {ks : List (Str × Nat)} {ps : List PV} : raiK x ks (ps, e) = .exc x (addP (.non :: ps) ks []) := rfl
theorem mRaise_ap {ks : List (Str × Nat)} {a : MA} : mRaise x ks a env = (a env).bind (raiK x ks) := rfl
theorem addP_0 {ps : List PV} : addP ps [] fs = fs := rfl
theorem addP_s {ps : List PV} {k : Str} {i : Nat} {ks : List (Str × Nat)} : addP ps ((k, i) :: ks) fs = addP ps ks ((k, ps.getD i .non) :: fs) := rfl
theorem mFld_ap : mFld fs f env = ofO (fs.lookup f) env := rfl
theorem gP_1 {q : PV} : gP [0] [q] = [q] := rfl
theorem gP_2 {q r : PV} : gP [0, 1] [q, r] = [q, r] := rfl
theorem gP_2r {q r : PV} : gP [1, 0] [q, r] = [r, q] := rfl
theorem lenIs_1 {β : Type} {q : PV} {y : R β} : lenIs 1 [q] y = y := rfl
theorem lenIs_2 {β : Type} {q r : PV} {y : R β} : lenIs 2 [q, r] y = y := rfl
theorem lenIs_3 {β : Type} {q r t : PV} {y : R β} : lenIs 3 [q, r, t] y = y := rfl
theorem fld_ap : gFld C f (.ins C fs) = fs.lookup f := if_pos rfl
end
theorem isNonP_dic {ks : List (Key × PV)} : isNonP (.dic ks) = false := rfl
theorem ty_int_int {i : Int} : gIsi [.int i, .ty "int"] = some (.bl true) := rfl
theorem ty_int_bool {i : Int} : gIsi [.int i, .ty "bool"] = some (.bl false) := rfl
theorem ty_int_str {i : Int} : gIsi [.int i, .ty "str"] = some (.bl false) := rfl
theorem ty_int_list {i : Int} : gIsi [.int i, .ty "list"] = some (.bl false) := rfl
theorem ty_int_tuple {i : Int} : gIsi [.int i, .ty "tuple"] = some (.bl false) := rfl
theorem ty_int_dict {i : Int} : gIsi [.int i, .ty "dict"] = some (.bl false) := rfl
theorem ty2_int {i : Int} : gIsiT ["list", "tuple"] (.int i) = some (.bl false) := rfl
theorem ty_bl_int {b : Bool} : gIsi [.bl b, .ty "int"] = some (.bl true) := rfl
theorem ty_bl_bool {b : Bool} : gIsi [.bl b, .ty "bool"] = some (.bl true) := rfl
theorem ty_bl_str {b : Bool} : gIsi [.bl b, .ty "str"] = some (.bl false) := rfl
theorem ty_bl_list {b : Bool} : gIsi [.bl b, .ty "list"] = some (.bl false) := rfl
theorem ty_bl_tuple {b : Bool} : gIsi [.bl b, .ty "tuple"] = some (.bl false) := rfl
theorem ty_bl_dict {b : Bool} : gIsi [.bl b, .ty "dict"] = some (.bl false) := rfl
theorem ty2_bl {b : Bool} : gIsiT ["list", "tuple"] (.bl b) = some (.bl false) := rfl
theorem ty_non_int  : gIsi [.non, .ty "int"] = some (.bl false) := rfl
theorem ty_non_bool  : gIsi [.non, .ty "bool"] = some (.bl false) := rfl
theorem ty_non_str  : gIsi [.non, .ty "str"] = some (.bl false) := rfl
theorem ty_non_list  : gIsi [.non, .ty "list"] = some (.bl false) := rfl
theorem ty_non_tuple  : gIsi [.non, .ty "tuple"] = some (.bl false) := rfl
theorem ty_non_dict  : gIsi [.non, .ty "dict"] = some (.bl false) := rfl
theorem ty2_non  : gIsiT ["list", "tuple"] (.non) = some (.bl false) := rfl
theorem ty_str_int {z : Str} : gIsi [.str z, .ty "int"] = some (.bl false) := rfl
theorem ty_str_bool {z : Str} : gIsi [.str z, .ty "bool"] = some (.bl false) := rfl
theorem ty_str_str {z : Str} : gIsi [.str z, .ty "str"] = some (.bl true) := rfl
theorem ty_str_list {z : Str} : gIsi [.str z, .ty "list"] = some (.bl false) := rfl
theorem ty_str_tuple {z : Str} : gIsi [.str z, .ty "tuple"] = some (.bl false) := rfl
theorem ty_str_dict {z : Str} : gIsi [.str z, .ty "dict"] = some (.bl false) := rfl
theorem ty2_str {z : Str} : gIsiT ["list", "tuple"] (.str z) = some (.bl false) := rfl
theorem ty_tup_int {ps : List PV} : gIsi [.tup ps, .ty "int"] = some (.bl false) := rfl
theorem ty_tup_bool {ps : List PV} : gIsi [.tup ps, .ty "bool"] = some (.bl false) := rfl
theorem ty_tup_str {ps : List PV} : gIsi [.tup ps, .ty "str"] = some (.bl false) := rfl
theorem ty_tup_list {ps : List PV} : gIsi [.tup ps, .ty "list"] = some (.bl false) := rfl
theorem ty_tup_tuple {ps : List PV} : gIsi [.tup ps, .ty "tuple"] = some (.bl true) := rfl
theorem ty_tup_dict {ps : List PV} : gIsi [.tup ps, .ty "dict"] = some (.bl false) := rfl
theorem ty2_tup {ps : List PV} : gIsiT ["list", "tuple"] (.tup ps) = some (.bl true) := rfl
theorem ty_lst_int {ps : List PV} : gIsi [.lst ps, .ty "int"] = some (.bl false) := rfl
theorem ty_lst_bool {ps : List PV} : gIsi [.lst ps, .ty "bool"] = some (.bl false) := rfl
theorem ty_lst_str {ps : List PV} : gIsi [.lst ps, .ty "str"] = some (.bl false) := rfl
theorem ty_lst_list {ps : List PV} : gIsi [.lst ps, .ty "list"] = some (.bl true) := rfl
theorem ty_lst_tuple {ps : List PV} : gIsi [.lst ps, .ty "tuple"] = some (.bl false) := rfl
theorem ty_lst_dict {ps : List PV} : gIsi [.lst ps, .ty "dict"] = some (.bl false) := rfl
theorem ty2_lst {ps : List PV} : gIsiT ["list", "tuple"] (.lst ps) = some (.bl true) := rfl
theorem ty_dic_int {ks : List (Key × PV)} : gIsi [.dic ks, .ty "int"] = some (.bl false) := rfl
theorem ty_dic_bool {ks : List (Key × PV)} : gIsi [.dic ks, .ty "bool"] = some (.bl false) := rfl
theorem ty_dic_str {ks : List (Key × PV)} : gIsi [.dic ks, .ty "str"] = some (.bl false) := rfl
theorem ty_dic_list {ks : List (Key × PV)} : gIsi [.dic ks, .ty "list"] = some (.bl false) := rfl
theorem ty_dic_tuple {ks : List (Key × PV)} : gIsi [.dic ks, .ty "tuple"] = some (.bl false) := rfl
theorem ty_dic_dict {ks : List (Key × PV)} : gIsi [.dic ks, .ty "dict"] = some (.bl true) := rfl
theorem ty2_dic {ks : List (Key × PV)} : gIsiT ["list", "tuple"] (.dic ks) = some (.bl false) := rfl
theorem items_ap {ks : List (Key × PV)} : gItems (.dic ks) = some (.lst (itemsP ks)) := rfl
theorem itemsP_0 : itemsP [] = [] := rfl
end Cq

/-! text Qf -/
set_option linter.all false
set_option maxRecDepth 100000
/-! plain law: a space is made -/
namespace CqL
open PySem PySem.Spec L2 Cq
local macro_rules
  | `(tactic| simp! [$xs,*]) => `(tactic| simp -implicitDefEqProofs (disch := first | omega | (simp only [List.length_append, List.length_map, List.length_range, List.length_cons, List.length_nil, List.length_set, iL_len, row_l, enc_len, upto_l, from_l]; omega)) only [satK_ap, sat_bind, sat_nx, sat_ok, sat_exc, sat_bad, bind_ok, bind_exc, bind_bad, nx_ok, nx_bad, iteB_t, iteB_f, iteB_n, sat_iteB, iteB_pure, iteB_pure2, iteB_val, iteB_int, iteB_bl, iteB_and, iteB_or, ofO_some, ofO_none, mOfB_some, mVar_ap, mC_ap, andK_ap, mAnd_ap, orK_ap, mOr_ap, notK_ap, mNot_ap, ifK_ap, mIf_ap, andVK2_ap, andVK_ap, mAndV_ap, orVK2_ap, orVK_ap, mOrV_ap, notVK2_ap, notVK_ap, mNotV_ap, unK_ap, mUn_ap, binK2_ap, binK_ap, mBin_ap, truK_ap, mTru_ap, isbK_ap, mIsB_ap, chK2_ap, chK_ap, mChain_ap, chO_b, mNil_ap, consK2_ap, consK_ap, mCons_ap, argsK_ap, mArgs_ap, ownK_ap, mOwnA_ap, callK2_ap, callK_ap, mCall_ap, lenIs_ok, kwK3_ap, kwK2_ap, kwK_ap, mkK3_ap, mkK2_ap, mkK_ap, mMake_ap, mCallK_ap, vwK_ap, mView_ap, vbK_ap, mViewB_ap, voK_ap, mViewO_ap, vwO_ap, nolst_int, nolst_bl, nolst_non, nolst_str, nolst_tup, nolst_nil, nolst_cons, seqK_nx, seqK_rt, seqK_bk, seqK_ct, mSeq_ap, mSkip_ap, mWk_ap, wkO_nx, wkO_rt, wkO_bk, wkO_ct, mBrk_ap, mCnt_ap, dropK_ap, mDrop_ap, retK_ap, mRet_ap, rowO_s, mRetOwn_ap, setK_ap, mSet_ap, parK2_ap, parK_ap, mPar_ap, asgO_s, asgK_ap, mAsg_ap, gN_ap, gsNil_ap, gsCons_ap, obind_s, gSqT_t, gSqT_l, gTupT_t, itO_s, sqK_ap, mSq_ap, rgK_ap, mRg_ap, itK_ap, mIt_ap, seqP_l, seqP_t, forK_ap, mFor_ap, mWhile_ap, lcK2_ap, lcK_ap, mLc_ap, mYes_ap, mDef_ap, outD_rt, outD_nx, pshK_ap, mPush_ap, extK_ap, mExt_ap, clr_un, clr_fz, clr_ow, clr_ow2, clr_nil, fill_n, fill_s, fill_0, back_n, back_s, back_0, wipe_0, wipe_s, rest_0, rest_s, hdE_ap, sat_try, partO_i, partK_ap, mPart_ap, mNoPart_ap, slK3_ap, slK2_ap, slK_ap, mSl_ap, pshO_s, extO_s, stepO_s, fwd_nx, fwd_ct, fwd_bk, fwd_rt, stepM_s, stmK_ap, stmK2_ap, eltK_ap, kElt_ap, kSub_ap, subK_ap, stepE_s, steK_ap, gSetOwn2_ap, gSetOwn_ap, pVar_ap, pC_ap, pBin_ap, pbO_s, add_i, sub_i, mul_r, mul_l, div_i, mod_i, shl_i, shr_i, and_i, or_i, xor_i, lt_i, le_i, gt_i, ge_i, eq_i, ne_i, eq_in, ne_in, eq_b, ne_b, eq_s, ne_s, is_n, isn_n, isNonP_int, isNonP_non, isNonP_tup, isNonP_lst, isNonP_bl, isNonP_str, isNonP_ins, tru_b, tru_i, tru_n, tru_l, tru_t, isBl_b, neg_i, len_l, len_t, len_scr, abs_i, int_i, int_b, max_ii, min_ii, list_l, list_t, tuple_l, tuple_t, tup_0, tup_1, tup_2, tup_3, tup_4, lst_0, lst_1, lst_2, lst_3, lst_4, ixl_0, ixl_1, ixl_2, ixl_3, ixt_0, ixt_1, ixt_2, ixt_3, List.set_cons_zero, List.set_cons_succ, List.getElem?_cons_zero, List.getElem?_cons_succ, List.getD_cons_zero, List.getD_cons_succ, List.take_succ_cons, List.take_zero, List.cons_append, List.nil_append, List.length_cons, List.length_nil, List.replicate_succ, List.replicate_zero, Nat.reduceSub, Nat.reduceAdd, Int.toNat_natCast, decide_eq_true_eq, decide_eq_false_iff_not, Bool.not_true, Bool.not_false, Bool.not_eq_true', Bool.not_eq_false', Bool.or_eq_true, Bool.and_eq_true, Bool.or_eq_false_iff, Bool.and_eq_false_imp, set2_e, ixe, ixr, rgI, rgI2, repL_i, row_map, ibK_nx, mIb_ap, mIni_ap, fsK_ap, mFs_ap, putP_0, raiK_ap, mRaise_ap, addP_0, addP_s, mFld_ap, gP_1, gP_2, gP_2r, lenIs_1, lenIs_2, lenIs_3, fld_ap, isNonP_dic, ty_int_int, ty_int_bool, ty_int_str, ty_int_list, ty_int_tuple, ty_int_dict, ty2_int, ty_bl_int, ty_bl_bool, ty_bl_str, ty_bl_list, ty_bl_tuple, ty_bl_dict, ty2_bl, ty_non_int, ty_non_bool, ty_non_str, ty_non_list, ty_non_tuple, ty_non_dict, ty2_non, ty_str_int, ty_str_bool, ty_str_str, ty_str_list, ty_str_tuple, ty_str_dict, ty2_str, ty_tup_int, ty_tup_bool, ty_tup_str, ty_tup_list, ty_tup_tuple, ty_tup_dict, ty2_tup, ty_lst_int, ty_lst_bool, ty_lst_str, ty_lst_list, ty_lst_tuple, ty_lst_dict, ty2_lst, ty_dic_int, ty_dic_bool, ty_dic_str, ty_dic_list, ty_dic_tuple, ty_dic_dict, ty2_dic, items_ap, itemsP_0, decide_true, decide_false, not_true_eq_false, not_false_eq_true, false_implies, true_implies, and_true, true_and, iteB_val, iteB_bl, $xs,*])
theorem init_sat {v : PV} {Q : List (Str × PV) → Prop} {E : Str → List (Str × PV) → Prop} (hv : Vl v)
    (k1 : ∀ n f, (1 ≤ n ∧ n ≤ 7) → v = sqi n f → Dist n f → (∀ a b c, a < n → b < n → c < n → ¬ short f a b c) → Q [("rows", v), ("size", .int (n : Nat))])
    (k2 : ¬ Good v → E "InvalidRows" [("given", v)])
    (k3 : ∀ n f x y z, (1 ≤ n ∧ n ≤ 7) → v = sqi n f → Dist n f → Fst n f x y z → E "Shortcut" [("z", .int (z : Nat)), ("y", .int (y : Nat)), ("x", .int (x : Nat))]) : (F_Space___init__ [v]).sat Q E := by
  simp! [F_Space___init__, m_Space___init__]
  refine nums_sat hv fun b hb => ?_
  simp! []
  refine ⟨fun h => ?_, fun h => k2 fun z => by rw [hb.mpr z] at h; cases h⟩
  obtain ⟨n, f, hn, rfl, hd⟩ := hb.mp h
  refine short_sat hn (fun x y z h => ?_) fun h => ?_
  · simp! [m_Space___init___th1]
    exact k3 n f x y z hn rfl hd h
  · simp! [sqi_len]
    exact k1 n f hn rfl hd h
theorem init_err {v : PV} {Q : List (Str × PV) → Prop} {E : Str → List (Str × PV) → Prop} {d : PV} (hv : Vl v) (hd : Due v d)
    (k1 : ∀ n f, v = sqi n f → d = .lst [.str "told", v, .int (n : Nat)] → Q [("rows", v), ("size", .int (n : Nat))])
    (k2 : d = .lst [.str "rows", v] → E "InvalidRows" [("given", v)])
    (k3 : ∀ x y z : Nat, d = .lst [.str "shortcut", .int x, .int y, .int z] → E "Shortcut" [("z", .int z), ("y", .int y), ("x", .int x)]) : (F_Space___init__ [v]).sat Q E :=
  init_sat hv (fun n f hn e h1 h2 => k1 n f e (hd.uniq (.told hn e h1 h2)).symm) (fun h => k2 (hd.uniq (.rows h)).symm) fun n f x y z hn e h1 h2 => k3 x y z (hd.uniq (.shortcut hn e h1 h2)).symm
theorem lk_rows {v s : PV} : List.lookup ("rows" : Str) [("rows", v), ("size", s)] = some v := rfl
theorem lk_size {v s : PV} : List.lookup ("size" : Str) [("rows", v), ("size", s)] = some s := rfl
theorem lk_given {v : PV} : List.lookup ("given" : Str) [("given", v)] = some v := rfl
theorem lk_x {x y z : PV} : List.lookup ("x" : Str) [("z", z), ("y", y), ("x", x)] = some x := rfl
theorem lk_y {x y z : PV} : List.lookup ("y" : Str) [("z", z), ("y", y), ("x", x)] = some y := rfl
theorem lk_z {x y z : PV} : List.lookup ("z" : Str) [("z", z), ("y", y), ("x", x)] = some z := rfl
theorem made_h1 {fs : List (Str × PV)} {e : List PV} : mHds [⟨selT [("SpaceError", false), ("InvalidRows", true), ("Shortcut", false)], m__law_made_hd2⟩, ⟨selT [("SpaceError", false), ("InvalidRows", false), ("Shortcut", true)], m__law_made_hd1⟩] "InvalidRows" fs e = (m__law_made_hd2 "InvalidRows" fs e).nx := rfl
theorem made_h2 {fs : List (Str × PV)} {e : List PV} : mHds [⟨selT [("SpaceError", false), ("InvalidRows", true), ("Shortcut", false)], m__law_made_hd2⟩, ⟨selT [("SpaceError", false), ("InvalidRows", false), ("Shortcut", true)], m__law_made_hd1⟩] "Shortcut" fs e = (m__law_made_hd1 "Shortcut" fs e).nx := rfl
theorem made_sat {v : PV} {b : Bool} {Q : PV × List PV → Prop} {E : Str → List (Str × PV) → Prop} {d : PV} (hv : Vl v) (hd : Due v d) (k : Q (d, [.non, .non])) : (F__law_made [v, .bl b]).sat Q E := by
  cases b <;> simp! [F__law_made, m__law_made]
  all_goals
    refine init_err hv hd (fun n f e1 e2 => ?_) (fun e => ?_) fun x y z e => ?_
    · simp! [lk_rows, lk_size]
      rw [← e2]; exact k
    · simp! [made_h1, m__law_made_hd2, lk_given]
      rw [← e]; exact k
    · simp! [made_h2, m__law_made_hd1, lk_x, lk_y, lk_z]
      rw [← e]; exact k
def isTold (d : PV) : Bool := match d with
  | .lst (.str s :: _) => decide (s = "told")
  | _ => false
theorem space_sat {v : PV} {Q : PV × List PV → Prop} {E : Str → List (Str × PV) → Prop} {d : PV} (hv : Vl v) (hd : Due v d) (k : Q (.bl (isTold d), [.non])) : (F_is_space [v]).sat Q E := by
  simp! [F_is_space, m_is_space]
  refine nums_sat hv fun b hb => ?_
  simp! []
  cases hd with
  | rows h =>
    refine ⟨fun z => absurd (hb.mp z) h, fun z => ?_⟩
    rw [z]; exact k
  | shortcut hn hv2 hd2 h =>
    subst hv2
    refine ⟨fun _ => short_sat hn (fun x y z h => ?_) fun h2 => absurd h.s (h2 _ _ _ h.hx h.hy h.hz), fun z => absurd (hb.mpr ⟨_, _, hn, rfl, hd2⟩) (by rw [z]; decide)⟩
    simp! []
    exact k
  | told hn hv2 hd2 h =>
    subst hv2
    refine ⟨fun _ => short_sat hn (fun x y z h2 => absurd h2.s (h _ _ _ h2.hx h2.hy h2.hz)) fun h2 => ?_, fun z => absurd (hb.mpr ⟨_, _, hn, rfl, hd2⟩) (by rw [z]; decide)⟩
    simp! []
    exact k
end CqL

/-! text Qg -/
set_option linter.all false
set_option maxRecDepth 100000
/-! plain law: a thing is the same as itself -/
namespace CqL
open PySem PySem.Spec L2 Cq
local macro_rules
  | `(tactic| simp! [$xs,*]) => `(tactic| simp -implicitDefEqProofs (disch := first | omega | (simp only [List.length_append, List.length_map, List.length_range, List.length_cons, List.length_nil, List.length_set, iL_len, row_l, enc_len, upto_l, from_l]; omega)) only [satK_ap, sat_bind, sat_nx, sat_ok, sat_exc, sat_bad, bind_ok, bind_exc, bind_bad, nx_ok, nx_bad, iteB_t, iteB_f, iteB_n, sat_iteB, iteB_pure, iteB_pure2, iteB_val, iteB_int, iteB_bl, iteB_and, iteB_or, ofO_some, ofO_none, mOfB_some, mVar_ap, mC_ap, andK_ap, mAnd_ap, orK_ap, mOr_ap, notK_ap, mNot_ap, ifK_ap, mIf_ap, andVK2_ap, andVK_ap, mAndV_ap, orVK2_ap, orVK_ap, mOrV_ap, notVK2_ap, notVK_ap, mNotV_ap, unK_ap, mUn_ap, binK2_ap, binK_ap, mBin_ap, truK_ap, mTru_ap, isbK_ap, mIsB_ap, chK2_ap, chK_ap, mChain_ap, chO_b, mNil_ap, consK2_ap, consK_ap, mCons_ap, argsK_ap, mArgs_ap, ownK_ap, mOwnA_ap, callK2_ap, callK_ap, mCall_ap, lenIs_ok, kwK3_ap, kwK2_ap, kwK_ap, mkK3_ap, mkK2_ap, mkK_ap, mMake_ap, mCallK_ap, vwK_ap, mView_ap, vbK_ap, mViewB_ap, voK_ap, mViewO_ap, vwO_ap, nolst_int, nolst_bl, nolst_non, nolst_str, nolst_tup, nolst_nil, nolst_cons, seqK_nx, seqK_rt, seqK_bk, seqK_ct, mSeq_ap, mSkip_ap, mWk_ap, wkO_nx, wkO_rt, wkO_bk, wkO_ct, mBrk_ap, mCnt_ap, dropK_ap, mDrop_ap, retK_ap, mRet_ap, rowO_s, mRetOwn_ap, setK_ap, mSet_ap, parK2_ap, parK_ap, mPar_ap, asgO_s, asgK_ap, mAsg_ap, gN_ap, gsNil_ap, gsCons_ap, obind_s, gSqT_t, gSqT_l, gTupT_t, itO_s, sqK_ap, mSq_ap, rgK_ap, mRg_ap, itK_ap, mIt_ap, seqP_l, seqP_t, forK_ap, mFor_ap, mWhile_ap, lcK2_ap, lcK_ap, mLc_ap, mYes_ap, mDef_ap, outD_rt, outD_nx, pshK_ap, mPush_ap, extK_ap, mExt_ap, clr_un, clr_fz, clr_ow, clr_ow2, clr_nil, fill_n, fill_s, fill_0, back_n, back_s, back_0, wipe_0, wipe_s, rest_0, rest_s, hdE_ap, sat_try, partO_i, partK_ap, mPart_ap, mNoPart_ap, slK3_ap, slK2_ap, slK_ap, mSl_ap, pshO_s, extO_s, stepO_s, fwd_nx, fwd_ct, fwd_bk, fwd_rt, stepM_s, stmK_ap, stmK2_ap, eltK_ap, kElt_ap, kSub_ap, subK_ap, stepE_s, steK_ap, gSetOwn2_ap, gSetOwn_ap, pVar_ap, pC_ap, pBin_ap, pbO_s, add_i, sub_i, mul_r, mul_l, div_i, mod_i, shl_i, shr_i, and_i, or_i, xor_i, lt_i, le_i, gt_i, ge_i, eq_i, ne_i, eq_in, ne_in, eq_b, ne_b, eq_s, ne_s, is_n, isn_n, isNonP_int, isNonP_non, isNonP_tup, isNonP_lst, isNonP_bl, isNonP_str, isNonP_ins, tru_b, tru_i, tru_n, tru_l, tru_t, isBl_b, neg_i, len_l, len_t, len_scr, abs_i, int_i, int_b, max_ii, min_ii, list_l, list_t, tuple_l, tuple_t, tup_0, tup_1, tup_2, tup_3, tup_4, lst_0, lst_1, lst_2, lst_3, lst_4, ixl_0, ixl_1, ixl_2, ixl_3, ixt_0, ixt_1, ixt_2, ixt_3, List.set_cons_zero, List.set_cons_succ, List.getElem?_cons_zero, List.getElem?_cons_succ, List.getD_cons_zero, List.getD_cons_succ, List.take_succ_cons, List.take_zero, List.cons_append, List.nil_append, List.length_cons, List.length_nil, List.replicate_succ, List.replicate_zero, Nat.reduceSub, Nat.reduceAdd, Int.toNat_natCast, decide_eq_true_eq, decide_eq_false_iff_not, Bool.not_true, Bool.not_false, Bool.not_eq_true', Bool.not_eq_false', Bool.or_eq_true, Bool.and_eq_true, Bool.or_eq_false_iff, Bool.and_eq_false_imp, set2_e, ixe, ixr, rgI, rgI2, repL_i, row_map, ibK_nx, mIb_ap, mIni_ap, fsK_ap, mFs_ap, putP_0, raiK_ap, mRaise_ap, addP_0, addP_s, mFld_ap, gP_1, gP_2, gP_2r, lenIs_1, lenIs_2, lenIs_3, fld_ap, isNonP_dic, ty_int_int, ty_int_bool, ty_int_str, ty_int_list, ty_int_tuple, ty_int_dict, ty2_int, ty_bl_int, ty_bl_bool, ty_bl_str, ty_bl_list, ty_bl_tuple, ty_bl_dict, ty2_bl, ty_non_int, ty_non_bool, ty_non_str, ty_non_list, ty_non_tuple, ty_non_dict, ty2_non, ty_str_int, ty_str_bool, ty_str_str, ty_str_list, ty_str_tuple, ty_str_dict, ty2_str, ty_tup_int, ty_tup_bool, ty_tup_str, ty_tup_list, ty_tup_tuple, ty_tup_dict, ty2_tup, ty_lst_int, ty_lst_bool, ty_lst_str, ty_lst_list, ty_lst_tuple, ty_lst_dict, ty2_lst, ty_dic_int, ty_dic_bool, ty_dic_str, ty_dic_list, ty_dic_tuple, ty_dic_dict, ty2_dic, items_ap, itemsP_0, decide_true, decide_false, not_true_eq_false, not_false_eq_true, false_implies, true_implies, and_true, true_and, iteB_val, iteB_bl, $xs,*])
theorem len_s {z : Str} (h : z.length ≤ 1000000) : gLen [.str z] = some (.int z.length) := if_pos (by rw [sizeLine_eq]; omega)
theorem sl_one {z : Str} {k : Int} (h : z.length ≤ 1000000) (h0 : 0 ≤ k) (h1 : k < z.length) : gSl (.str z) (some k) (some (k + 1)) = some (.str ⟨#[z.cps.getD k.toNat 0]⟩) := by
  unfold gSl
  dsimp only
  rw [if_pos (by rw [sizeLine_eq]; omega), beq_iff_eq.mp (PyProof.Rows.slice_one_closes h0 h1)]
theorem ixs_one {z : Str} {k : Int} (h : z.length ≤ 1000000) (h0 : 0 ≤ k) (h1 : k < z.length) : gIx (.str z) (.int k) = some (.str ⟨#[z.cps.getD k.toNat 0]⟩) := by
  unfold gIx
  dsimp only
  have hk : k.toNat < z.cps.size := by have : z.length = z.cps.size := rfl; omega
  rw [if_pos (by rw [sizeLine_eq]; omega), atI_ok h0 (by rw [Array.length_toList]; exact h1)]
  rw [List.getElem?_eq_getElem (by rw [Array.length_toList]; exact hk)]
  simp [Array.getD, hk]
inductive Sv : Nat → PV → Prop
  | non {k} : Sv k .non
  | bl {k b} : Sv k (.bl b)
  | int {k i} : Sv k (.int i)
  | str {k s} (h : s.length ≤ 10000) : Sv k (.str s)
  | lst {k ps} (hl : ps.length ≤ 10000) (h : ∀ p ∈ ps, Sv k p) : Sv (k + 1) (.lst ps)
  | tup {k ps} (hl : ps.length ≤ 10000) (h : ∀ p ∈ ps, Sv k p) : Sv (k + 1) (.tup ps)
  | dic {k} : Sv (k + 1) (.dic [])
theorem ixl_g {ps : List PV} {i : Int} {p : PV} (h : ps[i.toNat]? = some p) (h0 : 0 ≤ i) : gIx (.lst ps) (.int i) = some p := by
  have := (List.getElem?_eq_some_iff.mp h).1
  show atI _ _ = _
  rw [atI_ok h0 (by omega), h]
theorem ixt_g {ps : List PV} {i : Int} {p : PV} (h : ps[i.toNat]? = some p) (h0 : 0 ≤ i) : gIx (.tup ps) (.int i) = some p := by
  have := (List.getElem?_eq_some_iff.mp h).1
  show atI _ _ = _
  rw [atI_ok h0 (by omega), h]
theorem eq_ll : gEq false (.lst []) (.lst []) = some (.bl true) := rfl
abbrev Same1 (Fr : MF) (p : PV) : Prop := Fr [p, p] = .ok (.bl true, [.non, .non])
abbrev mSame (Fr : MF) : MF := mDef 4 [.fz, .fz] .fz (m__law_same Fr)
theorem same_non {Fr : MF} : Same1 (mSame Fr) .non := by
  apply eq_of
  simp! [m__law_same, m__law_same_th1]
theorem same_bl {Fr : MF} {b : Bool} : Same1 (mSame Fr) (.bl b) := by
  apply eq_of
  simp! [m__law_same, m__law_same_th1]
  cases b <;> rfl
theorem same_int {Fr : MF} {i : Int} : Same1 (mSame Fr) (.int i) := by
  apply eq_of
  simp! [m__law_same, m__law_same_th2, Int.sub_self]
theorem same_str {Fr : MF} {z : Str} (h : z.length ≤ 10000) : Same1 (mSame Fr) (.str z) := by
  apply eq_of
  simp! [m__law_same, m__law_same_th3, len_s]
  refine sat_lcM (fun E i a e => a = [] ∧ e = E) ⟨rfl, rfl⟩ (fun i p a e hp ⟨ha, he⟩ => ?_) ?_
  · obtain ⟨hi, rfl⟩ := upto_get hp
    subst ha; subst he
    simp! [sl_one, ixs_one]
  · rintro a e ⟨rfl, rfl⟩
    simp! [eq_ll]
theorem same_lst {Fr : MF} {ps : List PV} (hl : ps.length ≤ 10000) (ih : ∀ p ∈ ps, Same1 Fr p) : Same1 (mSame Fr) (.lst ps) := by
  apply eq_of
  simp! [m__law_same]
  refine sat_lcM (fun E i a e => a = [] ∧ e = E) ⟨rfl, rfl⟩ (fun i p a e hp ⟨ha, he⟩ => ?_) ?_
  · obtain ⟨hi, rfl⟩ := upto_get hp
    subst ha; subst he
    have h1 : ps[i]? = some ps[i] := List.getElem?_eq_getElem hi
    have h2 := ixl_g (i := (i : Int)) (by rw [Int.toNat_natCast]; exact h1) (by omega)
    simp! [h2, ih _ (List.getElem_mem hi)]
  · rintro a e ⟨rfl, rfl⟩
    simp! [eq_ll]
theorem same_tup {Fr : MF} {ps : List PV} (hl : ps.length ≤ 10000) (ih : ∀ p ∈ ps, Same1 Fr p) : Same1 (mSame Fr) (.tup ps) := by
  apply eq_of
  simp! [m__law_same]
  refine sat_lcM (fun E i a e => a = [] ∧ e = E) ⟨rfl, rfl⟩ (fun i p a e hp ⟨ha, he⟩ => ?_) ?_
  · obtain ⟨hi, rfl⟩ := upto_get hp
    subst ha; subst he
    have h1 : ps[i]? = some ps[i] := List.getElem?_eq_getElem hi
    have h2 := ixt_g (i := (i : Int)) (by rw [Int.toNat_natCast]; exact h1) (by omega)
    simp! [h2, ih _ (List.getElem_mem hi)]
  · rintro a e ⟨rfl, rfl⟩
    simp! [eq_ll]
theorem same_dic {Fr : MF} (ih : Same1 Fr (.lst [])) : Same1 (mSame Fr) (.dic []) := by
  apply eq_of
  simp! [m__law_same, m__law_same_th4, ih]
theorem same_refl : ∀ {k : Nat} {p : PV}, Sv k p → Same1 (F__law_same (k + 1)) p
  | k, _, .non => same_non (Fr := F__law_same k)
  | k, _, .bl => same_bl (Fr := F__law_same k)
  | k, _, .int => same_int (Fr := F__law_same k)
  | k, _, .str h => same_str (Fr := F__law_same k) h
  | _, _, .lst (k := k) hl h => same_lst (Fr := F__law_same (k + 1)) hl fun p hp => same_refl (h p hp)
  | _, _, .tup (k := k) hl h => same_tup (Fr := F__law_same (k + 1)) hl fun p hp => same_refl (h p hp)
  | _, _, .dic (k := k) => same_dic (Fr := F__law_same (k + 1)) (same_lst (Fr := F__law_same k) (by simp) (by simp))
end CqL

/-! text Qh -/
set_option linter.all false
set_option maxRecDepth 100000
/-! plain law: a value is judged right -/
namespace CqL
open PySem PySem.Spec L2 Cq
local macro_rules
  | `(tactic| simp! [$xs,*]) => `(tactic| simp -implicitDefEqProofs (disch := first | omega | (simp only [List.length_append, List.length_map, List.length_range, List.length_cons, List.length_nil, List.length_set, iL_len, row_l, enc_len, upto_l, from_l]; omega)) only [satK_ap, sat_bind, sat_nx, sat_ok, sat_exc, sat_bad, bind_ok, bind_exc, bind_bad, nx_ok, nx_bad, iteB_t, iteB_f, iteB_n, sat_iteB, iteB_pure, iteB_pure2, iteB_val, iteB_int, iteB_bl, iteB_and, iteB_or, ofO_some, ofO_none, mOfB_some, mVar_ap, mC_ap, andK_ap, mAnd_ap, orK_ap, mOr_ap, notK_ap, mNot_ap, ifK_ap, mIf_ap, andVK2_ap, andVK_ap, mAndV_ap, orVK2_ap, orVK_ap, mOrV_ap, notVK2_ap, notVK_ap, mNotV_ap, unK_ap, mUn_ap, binK2_ap, binK_ap, mBin_ap, truK_ap, mTru_ap, isbK_ap, mIsB_ap, chK2_ap, chK_ap, mChain_ap, chO_b, mNil_ap, consK2_ap, consK_ap, mCons_ap, argsK_ap, mArgs_ap, ownK_ap, mOwnA_ap, callK2_ap, callK_ap, mCall_ap, lenIs_ok, kwK3_ap, kwK2_ap, kwK_ap, mkK3_ap, mkK2_ap, mkK_ap, mMake_ap, mCallK_ap, vwK_ap, mView_ap, vbK_ap, mViewB_ap, voK_ap, mViewO_ap, vwO_ap, nolst_int, nolst_bl, nolst_non, nolst_str, nolst_tup, nolst_nil, nolst_cons, seqK_nx, seqK_rt, seqK_bk, seqK_ct, mSeq_ap, mSkip_ap, mWk_ap, wkO_nx, wkO_rt, wkO_bk, wkO_ct, mBrk_ap, mCnt_ap, dropK_ap, mDrop_ap, retK_ap, mRet_ap, rowO_s, mRetOwn_ap, setK_ap, mSet_ap, parK2_ap, parK_ap, mPar_ap, asgO_s, asgK_ap, mAsg_ap, gN_ap, gsNil_ap, gsCons_ap, obind_s, gSqT_t, gSqT_l, gTupT_t, itO_s, sqK_ap, mSq_ap, rgK_ap, mRg_ap, itK_ap, mIt_ap, seqP_l, seqP_t, forK_ap, mFor_ap, mWhile_ap, lcK2_ap, lcK_ap, mLc_ap, mYes_ap, mDef_ap, outD_rt, outD_nx, pshK_ap, mPush_ap, extK_ap, mExt_ap, clr_un, clr_fz, clr_ow, clr_ow2, clr_nil, fill_n, fill_s, fill_0, back_n, back_s, back_0, wipe_0, wipe_s, rest_0, rest_s, hdE_ap, sat_try, partO_i, partK_ap, mPart_ap, mNoPart_ap, slK3_ap, slK2_ap, slK_ap, mSl_ap, pshO_s, extO_s, stepO_s, fwd_nx, fwd_ct, fwd_bk, fwd_rt, stepM_s, stmK_ap, stmK2_ap, eltK_ap, kElt_ap, kSub_ap, subK_ap, stepE_s, steK_ap, gSetOwn2_ap, gSetOwn_ap, pVar_ap, pC_ap, pBin_ap, pbO_s, add_i, sub_i, mul_r, mul_l, div_i, mod_i, shl_i, shr_i, and_i, or_i, xor_i, lt_i, le_i, gt_i, ge_i, eq_i, ne_i, eq_in, ne_in, eq_b, ne_b, eq_s, ne_s, is_n, isn_n, isNonP_int, isNonP_non, isNonP_tup, isNonP_lst, isNonP_bl, isNonP_str, isNonP_ins, tru_b, tru_i, tru_n, tru_l, tru_t, isBl_b, neg_i, len_l, len_t, len_scr, abs_i, int_i, int_b, max_ii, min_ii, list_l, list_t, tuple_l, tuple_t, tup_0, tup_1, tup_2, tup_3, tup_4, lst_0, lst_1, lst_2, lst_3, lst_4, ixl_0, ixl_1, ixl_2, ixl_3, ixt_0, ixt_1, ixt_2, ixt_3, List.set_cons_zero, List.set_cons_succ, List.getElem?_cons_zero, List.getElem?_cons_succ, List.getD_cons_zero, List.getD_cons_succ, List.take_succ_cons, List.take_zero, List.cons_append, List.nil_append, List.length_cons, List.length_nil, List.replicate_succ, List.replicate_zero, Nat.reduceSub, Nat.reduceAdd, Int.toNat_natCast, decide_eq_true_eq, decide_eq_false_iff_not, Bool.not_true, Bool.not_false, Bool.not_eq_true', Bool.not_eq_false', Bool.or_eq_true, Bool.and_eq_true, Bool.or_eq_false_iff, Bool.and_eq_false_imp, set2_e, ixe, ixr, rgI, rgI2, repL_i, row_map, ibK_nx, mIb_ap, mIni_ap, fsK_ap, mFs_ap, putP_0, raiK_ap, mRaise_ap, addP_0, addP_s, mFld_ap, gP_1, gP_2, gP_2r, lenIs_1, lenIs_2, lenIs_3, fld_ap, isNonP_dic, ty_int_int, ty_int_bool, ty_int_str, ty_int_list, ty_int_tuple, ty_int_dict, ty2_int, ty_bl_int, ty_bl_bool, ty_bl_str, ty_bl_list, ty_bl_tuple, ty_bl_dict, ty2_bl, ty_non_int, ty_non_bool, ty_non_str, ty_non_list, ty_non_tuple, ty_non_dict, ty2_non, ty_str_int, ty_str_bool, ty_str_str, ty_str_list, ty_str_tuple, ty_str_dict, ty2_str, ty_tup_int, ty_tup_bool, ty_tup_str, ty_tup_list, ty_tup_tuple, ty_tup_dict, ty2_tup, ty_lst_int, ty_lst_bool, ty_lst_str, ty_lst_list, ty_lst_tuple, ty_lst_dict, ty2_lst, ty_dic_int, ty_dic_bool, ty_dic_str, ty_dic_list, ty_dic_tuple, ty_dic_dict, ty2_dic, items_ap, itemsP_0, decide_true, decide_false, not_true_eq_false, not_false_eq_true, false_implies, true_implies, and_true, true_and, iteB_val, iteB_bl, $xs,*])
theorem Sv.mono {k l : Nat} {p : PV} (h : Sv k p) (q : k ≤ l) : Sv l p := by
  induction h generalizing l with
  | non => exact .non
  | bl => exact .bl
  | int => exact .int
  | str h => exact .str h
  | lst hl h ih =>
    obtain ⟨m, rfl⟩ : ∃ m, l = m + 1 := ⟨l - 1, by omega⟩
    exact .lst hl fun p hp => ih p hp (by omega)
  | tup hl h ih =>
    obtain ⟨m, rfl⟩ : ∃ m, l = m + 1 := ⟨l - 1, by omega⟩
    exact .tup hl fun p hp => ih p hp (by omega)
  | dic =>
    obtain ⟨m, rfl⟩ : ∃ m, l = m + 1 := ⟨l - 1, by omega⟩
    exact .dic
theorem due_sv {v d : PV} (h : Due v d) (hs : Sv 8 v) : Sv 9 d := by
  cases h with
  | rows h =>
      refine .lst (by simp) fun p hp => ?_
      simp only [List.mem_cons, List.not_mem_nil, or_false] at hp
      rcases hp with rfl | rfl
      · exact .str (by decide +kernel)
      · exact hs
  | shortcut =>
      refine .lst (by simp) fun p hp => ?_
      simp only [List.mem_cons, List.not_mem_nil, or_false] at hp
      rcases hp with rfl | rfl | rfl | rfl
      · exact .str (by decide +kernel)
      · exact .int
      · exact .int
      · exact .int
  | told =>
      refine .lst (by simp) fun p hp => ?_
      simp only [List.mem_cons, List.not_mem_nil, or_false] at hp
      rcases hp with rfl | rfl | rfl
      · exact .str (by decide +kernel)
      · exact hs
      · exact .int
theorem due_0 {v d : PV} (h : Due v d) : ∃ s, gIx d (.int 0) = some (.str s) ∧ isTold d = decide (s = "told") := by
  cases h <;> exact ⟨_, ixl_0, by unfold isTold; rfl⟩
theorem right_sat {d : Int} {bx v : PV} {Q : PV × List PV → Prop} {E : Str → List (Str × PV) → Prop} (hb : Bx d bx) (hd : d < 1000000) (hv : Vl v) (hs : Sv 8 v) (k : ∀ b', Bx (d + 1) b' → Q (.bl true, [b', .non])) : (F__law_value_right [bx, v]).sat Q E := by
  simp! [F__law_value_right, m__law_value_right]
  generalize hFS : F__law_same 12 = FS
  refine due_sat hv fun du hdu => ?_
  simp! []
  refine take_sat hb (by omega) (by omega) (by omega) fun r b1 hr hb1 => ?_
  simp! []
  refine made_sat hv hdu ?_
  simp! []
  refine made_sat hv hdu ?_
  have hsd := due_sv hdu hs
  have e1 : FS [.lst [du, du], .lst [du, du]] = .ok (.bl true, [.non, .non]) := hFS ▸ same_refl (k := 11) (.lst (k := 10) (by simp) fun p hp => by
    simp only [List.mem_cons, List.not_mem_nil, or_false] at hp
    rcases hp with rfl | rfl <;> exact hsd.mono (by omega))
  have e2 : FS [.bl (isTold du), .bl (isTold du)] = .ok (.bl true, [.non, .non]) := hFS ▸ same_refl (k := 11) .bl
  obtain ⟨s, e3, e4⟩ := due_0 hdu
  rw [e4] at e2
  simp! [e1]
  refine ⟨fun _ => ?_, fun _ => ?_⟩ <;> refine space_sat hv hdu ?_ <;> simp! [e3, e4, e2] <;> exact k b1 hb1
end CqL

/-! text Qi -/
set_option linter.all false
set_option maxRecDepth 100000
/-! plain law: rows near those of a space -/
namespace CqL
open PySem PySem.Spec L2 Cq
local macro_rules
  | `(tactic| simp! [$xs,*]) => `(tactic| simp -implicitDefEqProofs (disch := first | omega | (simp only [List.length_append, List.length_map, List.length_range, List.length_cons, List.length_nil, List.length_set, iL_len, row_l, enc_len, upto_l, from_l]; omega)) only [satK_ap, sat_bind, sat_nx, sat_ok, sat_exc, sat_bad, bind_ok, bind_exc, bind_bad, nx_ok, nx_bad, iteB_t, iteB_f, iteB_n, sat_iteB, iteB_pure, iteB_pure2, iteB_val, iteB_int, iteB_bl, iteB_and, iteB_or, ofO_some, ofO_none, mOfB_some, mVar_ap, mC_ap, andK_ap, mAnd_ap, orK_ap, mOr_ap, notK_ap, mNot_ap, ifK_ap, mIf_ap, andVK2_ap, andVK_ap, mAndV_ap, orVK2_ap, orVK_ap, mOrV_ap, notVK2_ap, notVK_ap, mNotV_ap, unK_ap, mUn_ap, binK2_ap, binK_ap, mBin_ap, truK_ap, mTru_ap, isbK_ap, mIsB_ap, chK2_ap, chK_ap, mChain_ap, chO_b, mNil_ap, consK2_ap, consK_ap, mCons_ap, argsK_ap, mArgs_ap, ownK_ap, mOwnA_ap, callK2_ap, callK_ap, mCall_ap, lenIs_ok, kwK3_ap, kwK2_ap, kwK_ap, mkK3_ap, mkK2_ap, mkK_ap, mMake_ap, mCallK_ap, vwK_ap, mView_ap, vbK_ap, mViewB_ap, voK_ap, mViewO_ap, vwO_ap, nolst_int, nolst_bl, nolst_non, nolst_str, nolst_tup, nolst_nil, nolst_cons, seqK_nx, seqK_rt, seqK_bk, seqK_ct, mSeq_ap, mSkip_ap, mWk_ap, wkO_nx, wkO_rt, wkO_bk, wkO_ct, mBrk_ap, mCnt_ap, dropK_ap, mDrop_ap, retK_ap, mRet_ap, rowO_s, mRetOwn_ap, setK_ap, mSet_ap, parK2_ap, parK_ap, mPar_ap, asgO_s, asgK_ap, mAsg_ap, gN_ap, gsNil_ap, gsCons_ap, obind_s, gSqT_t, gSqT_l, gTupT_t, itO_s, sqK_ap, mSq_ap, rgK_ap, mRg_ap, itK_ap, mIt_ap, seqP_l, seqP_t, forK_ap, mFor_ap, mWhile_ap, lcK2_ap, lcK_ap, mLc_ap, mYes_ap, mDef_ap, outD_rt, outD_nx, pshK_ap, mPush_ap, extK_ap, mExt_ap, clr_un, clr_fz, clr_ow, clr_ow2, clr_nil, fill_n, fill_s, fill_0, back_n, back_s, back_0, wipe_0, wipe_s, rest_0, rest_s, hdE_ap, sat_try, partO_i, partK_ap, mPart_ap, mNoPart_ap, slK3_ap, slK2_ap, slK_ap, mSl_ap, pshO_s, extO_s, stepO_s, fwd_nx, fwd_ct, fwd_bk, fwd_rt, stepM_s, stmK_ap, stmK2_ap, eltK_ap, kElt_ap, kSub_ap, subK_ap, stepE_s, steK_ap, gSetOwn2_ap, gSetOwn_ap, pVar_ap, pC_ap, pBin_ap, pbO_s, add_i, sub_i, mul_r, mul_l, div_i, mod_i, shl_i, shr_i, and_i, or_i, xor_i, lt_i, le_i, gt_i, ge_i, eq_i, ne_i, eq_in, ne_in, eq_b, ne_b, eq_s, ne_s, is_n, isn_n, isNonP_int, isNonP_non, isNonP_tup, isNonP_lst, isNonP_bl, isNonP_str, isNonP_ins, tru_b, tru_i, tru_n, tru_l, tru_t, isBl_b, neg_i, len_l, len_t, len_scr, abs_i, int_i, int_b, max_ii, min_ii, list_l, list_t, tuple_l, tuple_t, tup_0, tup_1, tup_2, tup_3, tup_4, lst_0, lst_1, lst_2, lst_3, lst_4, ixl_0, ixl_1, ixl_2, ixl_3, ixt_0, ixt_1, ixt_2, ixt_3, List.set_cons_zero, List.set_cons_succ, List.getElem?_cons_zero, List.getElem?_cons_succ, List.getD_cons_zero, List.getD_cons_succ, List.take_succ_cons, List.take_zero, List.cons_append, List.nil_append, List.length_cons, List.length_nil, List.replicate_succ, List.replicate_zero, Nat.reduceSub, Nat.reduceAdd, Int.toNat_natCast, decide_eq_true_eq, decide_eq_false_iff_not, Bool.not_true, Bool.not_false, Bool.not_eq_true', Bool.not_eq_false', Bool.or_eq_true, Bool.and_eq_true, Bool.or_eq_false_iff, Bool.and_eq_false_imp, set2_e, ixe, ixr, rgI, rgI2, repL_i, row_map, ibK_nx, mIb_ap, mIni_ap, fsK_ap, mFs_ap, putP_0, raiK_ap, mRaise_ap, addP_0, addP_s, mFld_ap, gP_1, gP_2, gP_2r, lenIs_1, lenIs_2, lenIs_3, fld_ap, isNonP_dic, ty_int_int, ty_int_bool, ty_int_str, ty_int_list, ty_int_tuple, ty_int_dict, ty2_int, ty_bl_int, ty_bl_bool, ty_bl_str, ty_bl_list, ty_bl_tuple, ty_bl_dict, ty2_bl, ty_non_int, ty_non_bool, ty_non_str, ty_non_list, ty_non_tuple, ty_non_dict, ty2_non, ty_str_int, ty_str_bool, ty_str_str, ty_str_list, ty_str_tuple, ty_str_dict, ty2_str, ty_tup_int, ty_tup_bool, ty_tup_str, ty_tup_list, ty_tup_tuple, ty_tup_dict, ty2_tup, ty_lst_int, ty_lst_bool, ty_lst_str, ty_lst_list, ty_lst_tuple, ty_lst_dict, ty2_lst, ty_dic_int, ty_dic_bool, ty_dic_str, ty_dic_list, ty_dic_tuple, ty_dic_dict, ty2_dic, items_ap, itemsP_0, decide_true, decide_false, not_true_eq_false, not_false_eq_true, false_implies, true_implies, and_true, true_and, iteB_val, iteB_bl, $xs,*])
theorem tuple_sat {p : PV} {ps : List PV} {f : Nat → PV} {Q : PV × List PV → Prop} {E : Str → List (Str × PV) → Prop} (hp : seqP p = some ps) (hl : ps.length ≤ 1000) (h : ∀ i q, ps[i]? = some q → gTuple [q] = some (f i)) (k : Q (.tup ((List.range ps.length).map f), [.non])) : (F__law_tuple [p]).sat Q E := by
  simp! [F__law_tuple, m__law_tuple, hp]
  refine sat_lcMap f (by omega) (fun i q hq => ?_) ?_
  · simp! [h i q hq]
  · simp! []
    exact k
theorem rg_get {n i : Nat} {f : Nat → PV} {q : PV} (h : ((List.range n).map f)[i]? = some q) : i < n ∧ q = f i := by
  have hi : i < n := by have := (List.getElem?_eq_some_iff.mp h).1; simpa using this
  rw [List.getElem?_map, List.getElem?_range hi] at h
  cases h
  exact ⟨hi, rfl⟩
theorem rg_l {n : Nat} {f : Nat → PV} : ((List.range n).map f).length = n := by simp
theorem tuple_enc {n : Nat} {f : Nat → Nat → Int} {Q : PV × List PV → Prop} {E : Str → List (Str × PV) → Prop} (hn : n ≤ 1000) (k : Q (sqi n f, [.non])) : (F__law_tuple [.lst (enc n f)]).sat Q E := by
  refine tuple_sat (f := fun i => .tup ((List.range n).map fun j => .int (f i j))) rfl (by rw [enc_len]; omega) (fun i q hq => ?_) ?_
  · obtain ⟨hi, rfl⟩ := rg_get hq
    rw [← row_map]
    rfl
  · rw [enc_len]; exact k
theorem tuple_sq {n : Nat} {g : Nat → Nat → PV} {Q : PV × List PV → Prop} {E : Str → List (Str × PV) → Prop} (hn : n ≤ 1000) (k : Q (sq n g, [.non])) : (F__law_tuple [sq n g]).sat Q E := by
  refine tuple_sat (f := fun i => .tup ((List.range n).map (g i))) rfl (by rw [rg_l]; omega) (fun i q hq => ?_) ?_
  · obtain ⟨hi, rfl⟩ := rg_get hq
    rfl
  · rw [rg_l]; exact k
/-- a table of any things -/
def encP (n : Nat) (g : Nat → Nat → PV) : List PV := (List.range n).map fun i => .lst ((List.range n).map (g i))
theorem tuple_encP {n : Nat} {g : Nat → Nat → PV} {Q : PV × List PV → Prop} {E : Str → List (Str × PV) → Prop} (hn : n ≤ 1000) (k : Q (sq n g, [.non])) : (F__law_tuple [.lst (encP n g)]).sat Q E := by
  refine tuple_sat (f := fun i => .tup ((List.range n).map (g i))) rfl (by unfold encP; rw [rg_l]; omega) (fun i q hq => ?_) ?_
  · obtain ⟨hi, rfl⟩ := rg_get hq
    rfl
  · unfold encP; rw [rg_l]; exact k
def putP2 (g : Nat → Nat → PV) (x y : Nat) (v : PV) : Nat → Nat → PV := fun a b => if a = x ∧ b = y then v else g a b
theorem rg_set {n i : Nat} {f : Nat → PV} {p : PV} (hi : i < n) : ((List.range n).map f).set i p = (List.range n).map fun k => if k = i then p else f k := by
  apply List.ext_getElem?
  intro a
  by_cases ha : a < n
  · by_cases e : i = a
    · subst e
      rw [List.getElem?_set_self (by simp [ha]), List.getElem?_map, List.getElem?_range ha]
      simp
    · rw [List.getElem?_set_ne e, List.getElem?_map, List.getElem?_map, List.getElem?_range ha]
      simp [Ne.symm e]
  · rw [List.getElem?_eq_none (by simp; omega), List.getElem?_eq_none (by simp; omega)]
theorem set2_p {n i : Nat} {a b : Int} {p : PV} {g : Nat → Nat → PV} {env : List PV} (ha : 0 ≤ a) (ha2 : a < n) (hb : 0 ≤ b) (hb2 : b < n) :
    set2O i p env (some (.lst (encP n g))) (some (.int a)) (some (.int b)) = some (env.set i (.lst (encP n (putP2 g a.toNat b.toNat p)))) := by
  obtain ⟨x, rfl⟩ : ∃ x : Nat, a = x := ⟨a.toNat, by omega⟩
  obtain ⟨y, rfl⟩ : ∃ y : Nat, b = y := ⟨b.toNat, by omega⟩
  have hx : x < n := by omega
  have hy : y < n := by omega
  have e1 : ixN (encP n g).length (x : Int) = some x := by rw [ixN_of (by omega) (by unfold encP; rw [rg_l]; omega)]; simp
  have e2 : ixN ((List.range n).map (g x)).length (y : Int) = some y := by rw [ixN_of (by omega) (by rw [rg_l]; omega)]; simp
  have e3 : (encP n g)[x]? = some (.lst ((List.range n).map (g x))) := by unfold encP; rw [List.getElem?_map, List.getElem?_range hx]; rfl
  unfold set2O
  dsimp only
  rw [e1]
  dsimp only
  rw [e3]
  dsimp only
  rw [e2]
  dsimp only
  have e4 : (encP n g).set x (.lst (((List.range n).map (g x)).set y p)) = encP n (putP2 g x y p) := by
    unfold encP
    rw [rg_set hx, rg_set hy]
    apply List.map_congr_left
    intro k _
    by_cases e : k = x
    · subst e
      rw [if_pos rfl]
      congr 1
      apply List.map_congr_left
      intro l _
      unfold putP2
      by_cases e : l = y
      · rw [if_pos e, if_pos ⟨rfl, e⟩]
      · rw [if_neg e, if_neg (fun z => e z.2)]
    · rw [if_neg e]
      congr 1
      apply List.map_congr_left
      intro l _
      unfold putP2
      rw [if_neg (fun z => e z.1)]
  rw [e4, Int.toNat_natCast, Int.toNat_natCast]
theorem with_sat {n : Nat} {g : Nat → Nat → PV} {x y : Nat} {p q : PV} {Q : PV × List PV → Prop} {E : Str → List (Str × PV) → Prop} (hn : n ≤ 100) (hx : x < n) (hy : y < n) (k : Q (sq n (putP2 (putP2 g x y p) y x q), [.non, .non, .non, .non, .non])) :
    (F__law_with [sq n g, .int x, .int y, p, q]).sat Q E := by
  simp! [F__law_with, m__law_with, rows_all]
  refine sat_lcR (fun i => .lst ((List.range n).map (g i))) (by omega) (fun i hi => ?_) ?_
  · simp! []
  have e : (List.range n).map (fun i => PV.lst ((List.range n).map (g i))) = encP n g := rfl
  simp! [e, gSqT_t, set2_p, gsCons_ap, obind_s]
  refine tuple_encP (by omega) ?_
  simp! []
  exact k
theorem catT {a b : List PV} (h : a.length + b.length ≤ 1000000) : gCatT (.tup a) (.tup b) = some (.tup (a ++ b)) := if_pos (by rw [sizeLine_eq]; omega)
theorem cat_ll {a b : List PV} (h : a.length + b.length ≤ 1000000) : gCatL (.lst a) (.lst b) = some (.lst (a ++ b)) := if_pos (by rw [sizeLine_eq]; omega)
theorem add_tt {a b : List PV} (h : a.length + b.length ≤ 1000000) : gAdd (.tup a) (.tup b) = some (.tup (a ++ b)) := by
  show (match gCatT (.tup a) (.tup b) with | some c => some c | none => _) = _
  rw [catT h]
theorem add_ll {a b : List PV} (h : a.length + b.length ≤ 1000000) : gAdd (.lst a) (.lst b) = some (.lst (a ++ b)) := by
  show (match gCatL (.lst a) (.lst b) with | some c => some c | none => _) = _
  rw [cat_ll h]
theorem sl_tt {ps : List PV} {i : Int} (h0 : 0 ≤ i) (h1 : i ≤ ps.length) : gSl (.tup ps) none (some i) = some (.tup (ps.take i.toNat)) := by
  obtain ⟨k, rfl⟩ : ∃ k : Nat, i = k := ⟨i.toNat, by omega⟩
  unfold gSl cutP
  dsimp only
  rw [HT.sIx_none, HT.sIx_nat, Int.toNat_natCast, Nat.min_eq_left (by omega)]
  rfl
theorem sl_lt {ps : List PV} {i : Int} (h0 : 0 ≤ i) (h1 : i ≤ ps.length) : gSl (.lst ps) none (some i) = some (.lst (ps.take i.toNat)) := by
  obtain ⟨k, rfl⟩ : ∃ k : Nat, i = k := ⟨i.toNat, by omega⟩
  unfold gSl cutP
  dsimp only
  rw [HT.sIx_none, HT.sIx_nat, Int.toNat_natCast, Nat.min_eq_left (by omega)]
  rfl
theorem sl_td {ps : List PV} {i : Int} (h0 : 0 ≤ i) (h1 : i ≤ ps.length) : gSl (.tup ps) (some i) none = some (.tup (ps.drop i.toNat)) := by
  obtain ⟨k, rfl⟩ : ∃ k : Nat, i = k := ⟨i.toNat, by omega⟩
  unfold gSl cutP
  dsimp only
  rw [HT.sIx_none, HT.sIx_nat, Int.toNat_natCast, Nat.min_eq_left (by omega)]
  rw [List.take_of_length_le (by simp)]
theorem rep_t {p : PV} {k : Int} (h0 : 2 ≤ k) (h1 : k ≤ 1000) : gMul (.tup [p]) (.int k) = some (.tup (List.replicate k.toNat p)) := by
  have e : (List.replicate k.toNat [p]).flatten = List.replicate k.toNat p := by
    generalize k.toNat = m
    induction m with
    | zero => rfl
    | succ m ih => rw [List.replicate_succ, List.flatten_cons, ih, List.replicate_succ]; rfl
  show (match (gRepL (.tup [p]) (.int k)) with | some c => some c | none => gRepT (.tup [p]) (.int k)) = _
  show gRepT (.tup [p]) (.int k) = _
  unfold gRepT
  dsimp only
  rw [if_pos ⟨by simp, h0, h1, by simp⟩, e]
/-- what is judged -/
def VS (v : PV) : Prop := Vl v ∧ Sv 8 v
def Smp2 (p : PV) : Prop := Smp p ∧ Sv 4 p
theorem vs_sq {n : Nat} {g : Nat → Nat → PV} (hn : 1 ≤ n ∧ n ≤ 7) (h : ∀ x y, x < n → y < n → Smp2 (g x y)) : VS (sq n g) :=
  ⟨.inr ⟨n, g, hn, rfl, fun x y hx hy => (h x y hx hy).1⟩, .tup (k := 7) (by rw [rg_l]; omega) fun p hp => by
    obtain ⟨i, hi, rfl⟩ := List.mem_map.mp hp
    exact .tup (k := 6) (by rw [rg_l]; omega) fun q hq => by
      obtain ⟨j, hj, rfl⟩ := List.mem_map.mp hq
      exact (h i j (List.mem_range.mp hi) (List.mem_range.mp hj)).2.mono (by omega)⟩
theorem smp_i {i : Int} : Smp2 (.int i) := ⟨.inl ⟨i, rfl⟩, .int⟩
theorem smp_n : Smp2 .non := ⟨.inr (.inl rfl), .non⟩
theorem smp_b {b : Bool} : Smp2 (.bl b) := ⟨.inr (.inr (.inl ⟨b, rfl⟩)), .bl⟩
theorem smp_s : Smp2 (.str "1") := ⟨.inr (.inr (.inr (.inl ⟨_, rfl, by decide +kernel⟩))), .str (by decide +kernel)⟩
theorem smp_t : Smp2 (.tup [.int 1, .int 1]) := ⟨.inr (.inr (.inr (.inr ⟨[1, 1], rfl⟩))), .tup (by simp) fun p hp => by
  simp only [List.mem_cons, List.not_mem_nil, or_false] at hp
  rcases hp with rfl | rfl <;> exact .int⟩
theorem vs_sqi {n : Nat} {f : Nat → Nat → Int} (hn : 1 ≤ n ∧ n ≤ 7) : VS (sqi n f) := vs_sq hn fun _ _ _ _ => smp_i
end CqL

/-! text Qj -/
set_option linter.all false
set_option maxRecDepth 100000
/-! plain law: the values that are judged -/
namespace CqL
open PySem PySem.Spec L2 Cq
local macro_rules
  | `(tactic| simp! [$xs,*]) => `(tactic| simp -implicitDefEqProofs (disch := first | omega | (simp only [List.length_append, List.length_map, List.length_range, List.length_cons, List.length_nil, List.length_set, List.length_take, List.length_drop, List.length_replicate, iL_len, row_l, enc_len, upto_l, from_l]; omega)) only [satK_ap, sat_bind, sat_nx, sat_ok, sat_exc, sat_bad, bind_ok, bind_exc, bind_bad, nx_ok, nx_bad, iteB_t, iteB_f, iteB_n, sat_iteB, iteB_pure, iteB_pure2, iteB_val, iteB_int, iteB_bl, iteB_and, iteB_or, ofO_some, ofO_none, mOfB_some, mVar_ap, mC_ap, andK_ap, mAnd_ap, orK_ap, mOr_ap, notK_ap, mNot_ap, ifK_ap, mIf_ap, andVK2_ap, andVK_ap, mAndV_ap, orVK2_ap, orVK_ap, mOrV_ap, notVK2_ap, notVK_ap, mNotV_ap, unK_ap, mUn_ap, binK2_ap, binK_ap, mBin_ap, truK_ap, mTru_ap, isbK_ap, mIsB_ap, chK2_ap, chK_ap, mChain_ap, chO_b, mNil_ap, consK2_ap, consK_ap, mCons_ap, argsK_ap, mArgs_ap, ownK_ap, mOwnA_ap, callK2_ap, callK_ap, mCall_ap, lenIs_ok, kwK3_ap, kwK2_ap, kwK_ap, mkK3_ap, mkK2_ap, mkK_ap, mMake_ap, mCallK_ap, vwK_ap, mView_ap, vbK_ap, mViewB_ap, voK_ap, mViewO_ap, vwO_ap, nolst_int, nolst_bl, nolst_non, nolst_str, nolst_tup, nolst_nil, nolst_cons, seqK_nx, seqK_rt, seqK_bk, seqK_ct, mSeq_ap, mSkip_ap, mWk_ap, wkO_nx, wkO_rt, wkO_bk, wkO_ct, mBrk_ap, mCnt_ap, dropK_ap, mDrop_ap, retK_ap, mRet_ap, rowO_s, mRetOwn_ap, setK_ap, mSet_ap, parK2_ap, parK_ap, mPar_ap, asgO_s, asgK_ap, mAsg_ap, gN_ap, gsNil_ap, gsCons_ap, obind_s, gSqT_t, gSqT_l, gTupT_t, itO_s, sqK_ap, mSq_ap, rgK_ap, mRg_ap, itK_ap, mIt_ap, seqP_l, seqP_t, forK_ap, mFor_ap, mWhile_ap, lcK2_ap, lcK_ap, mLc_ap, mYes_ap, mDef_ap, outD_rt, outD_nx, pshK_ap, mPush_ap, extK_ap, mExt_ap, clr_un, clr_fz, clr_ow, clr_ow2, clr_nil, fill_n, fill_s, fill_0, back_n, back_s, back_0, wipe_0, wipe_s, rest_0, rest_s, hdE_ap, sat_try, partO_i, partK_ap, mPart_ap, mNoPart_ap, slK3_ap, slK2_ap, slK_ap, mSl_ap, pshO_s, extO_s, stepO_s, fwd_nx, fwd_ct, fwd_bk, fwd_rt, stepM_s, stmK_ap, stmK2_ap, eltK_ap, kElt_ap, kSub_ap, subK_ap, stepE_s, steK_ap, gSetOwn2_ap, gSetOwn_ap, pVar_ap, pC_ap, pBin_ap, pbO_s, add_i, sub_i, mul_r, mul_l, div_i, mod_i, shl_i, shr_i, and_i, or_i, xor_i, lt_i, le_i, gt_i, ge_i, eq_i, ne_i, eq_in, ne_in, eq_b, ne_b, eq_s, ne_s, is_n, isn_n, isNonP_int, isNonP_non, isNonP_tup, isNonP_lst, isNonP_bl, isNonP_str, isNonP_ins, tru_b, tru_i, tru_n, tru_l, tru_t, isBl_b, neg_i, len_l, len_t, len_scr, abs_i, int_i, int_b, max_ii, min_ii, list_l, list_t, tuple_l, tuple_t, tup_0, tup_1, tup_2, tup_3, tup_4, lst_0, lst_1, lst_2, lst_3, lst_4, ixl_0, ixl_1, ixl_2, ixl_3, ixt_0, ixt_1, ixt_2, ixt_3, List.set_cons_zero, List.set_cons_succ, List.getElem?_cons_zero, List.getElem?_cons_succ, List.getD_cons_zero, List.getD_cons_succ, List.take_succ_cons, List.take_zero, List.cons_append, List.nil_append, List.length_cons, List.length_nil, List.replicate_succ, List.replicate_zero, Nat.reduceSub, Nat.reduceAdd, Int.toNat_natCast, decide_eq_true_eq, decide_eq_false_iff_not, Bool.not_true, Bool.not_false, Bool.not_eq_true', Bool.not_eq_false', Bool.or_eq_true, Bool.and_eq_true, Bool.or_eq_false_iff, Bool.and_eq_false_imp, set2_e, ixe, ixr, rgI, rgI2, repL_i, row_map, ibK_nx, mIb_ap, mIni_ap, fsK_ap, mFs_ap, putP_0, raiK_ap, mRaise_ap, addP_0, addP_s, mFld_ap, gP_1, gP_2, gP_2r, lenIs_1, lenIs_2, lenIs_3, fld_ap, isNonP_dic, ty_int_int, ty_int_bool, ty_int_str, ty_int_list, ty_int_tuple, ty_int_dict, ty2_int, ty_bl_int, ty_bl_bool, ty_bl_str, ty_bl_list, ty_bl_tuple, ty_bl_dict, ty2_bl, ty_non_int, ty_non_bool, ty_non_str, ty_non_list, ty_non_tuple, ty_non_dict, ty2_non, ty_str_int, ty_str_bool, ty_str_str, ty_str_list, ty_str_tuple, ty_str_dict, ty2_str, ty_tup_int, ty_tup_bool, ty_tup_str, ty_tup_list, ty_tup_tuple, ty_tup_dict, ty2_tup, ty_lst_int, ty_lst_bool, ty_lst_str, ty_lst_list, ty_lst_tuple, ty_lst_dict, ty2_lst, ty_dic_int, ty_dic_bool, ty_dic_str, ty_dic_list, ty_dic_tuple, ty_dic_dict, ty2_dic, items_ap, itemsP_0, decide_true, decide_false, not_true_eq_false, not_false_eq_true, false_implies, true_implies, and_true, true_and, iteB_val, iteB_bl, $xs,*])
theorem sqi_tup {n : Nat} {f : Nat → Nat → Int} : sqi n f = .tup ((List.range n).map fun i => .tup (iL (row n (f i)))) := by
  unfold sqi sq
  congr 1
  apply List.map_congr_left
  intro i _
  rw [row_map]
structure Rows (n : Nat) (f : Nat → Nat → Int) (R : List PV) : Prop where
  e : sqi n f = .tup R
  l : R.length = n
  g : ∀ i, i < n → R[i]? = some (.tup (iL (row n (f i))))
theorem rows_of (n : Nat) (f : Nat → Nat → Int) : ∃ R, Rows n f R := ⟨_, sqi_tup, by simp, fun i hi => by rw [List.getElem?_map, List.getElem?_range hi]; rfl⟩
theorem Rows.m {n : Nat} {f : Nat → Nat → Int} {R : List PV} (h : Rows n f R) {p : PV} (hp : p ∈ R) : ∃ i, p = .tup (iL (row n (f i))) := by
  obtain ⟨i, hi⟩ := List.mem_iff_getElem?.mp hp
  have hl := (List.getElem?_eq_some_iff.mp hi).1
  rw [h.g i (by rw [← h.l]; exact hl)] at hi
  cases hi
  exact ⟨i, rfl⟩
theorem sv_iL {l : List Int} (h : l.length ≤ 1000) : Sv 1 (.tup (iL l)) ∧ Sv 1 (.lst (iL l)) := by
  have : ∀ p ∈ iL l, Sv 0 p := fun p hp => by
    obtain ⟨i, _, rfl⟩ := List.mem_map.mp hp
    exact .int
  exact ⟨.tup (by rw [iL_len]; omega) this, .lst (by rw [iL_len]; omega) this⟩
theorem sh_iL {l : List Int} : Sh 10 (.tup (iL l)) ∧ Sh 10 (.lst (iL l)) := by
  have : ∀ p ∈ iL l, Sh 0 p := fun p hp => by
    obtain ⟨i, _, rfl⟩ := List.mem_map.mp hp
    exact .int
  exact ⟨(Sh.tup this).mono (by omega), (Sh.lst this).mono (by omega)⟩
/-- rows of one table, in another number -/
theorem vs_rows {n : Nat} {f : Nat → Nat → Int} {ps : List PV} (hn : 1 ≤ n ∧ n ≤ 7) (h : ∀ p ∈ ps, ∃ i, p = .tup (iL (row n (f i))) ∨ p = .lst (iL (row n (f i)))) (hl : ps.length ≤ 20) (hb : ps.length = 0 ∨ 7 < ps.length ∨ ∃ p ∈ ps, rowOk ps.length p = false) : VS (.tup ps) := by
  refine ⟨.inl ?_, .tup (k := 7) (by omega) fun p hp => ?_⟩
  · by_cases h0 : ps.length = 0
    · exact .b (.inl h0)
    by_cases h7 : 7 < ps.length
    · exact .b (.inr h7)
    rcases hb with hb | hb | hb
    · exact absurd hb h0
    · exact absurd hb h7
    refine .c (by omega) (by omega) (fun p hp => ?_) hb
    obtain ⟨i, rfl | rfl⟩ := h p hp
    · exact ⟨sh_iL.1, .inl ⟨_, rfl⟩⟩
    · exact ⟨sh_iL.2, .inr ⟨_, rfl⟩⟩
  · obtain ⟨i, rfl | rfl⟩ := h p hp
    · exact (sv_iL (by rw [row_l]; omega)).1.mono (by omega)
    · exact (sv_iL (by rw [row_l]; omega)).2.mono (by omega)
def z8 : PV := .tup (List.replicate 8 (.int 0))
def z88 : PV := .tup (List.replicate 8 z8)
theorem mz1 : gMul (.tup [.int 0]) (.int 8) = some z8 := rep_t (by omega) (by omega)
theorem mz2 : gMul (.tup [z8]) (.int 8) = some z88 := rep_t (by omega) (by omega)
theorem vs_base {n : Nat} {f : Nat → Nat → Int} {R : List PV} (hn : 1 ≤ n ∧ n ≤ 7) (h : Rows n f R) :
    ∀ v ∈ [PV.lst R, .tup (R.take (n - 1) ++ [.lst (iL (row n (f (n - 1))))]), .tup (R ++ R.take 1), .tup (R.drop 1), .tup [], .tup [.tup []], .non, .int 7, .str "0", .dic [], .bl true, z88, .tup [.tup [.int 1]], .tup [.tup [.bl false]], .tup [.tup [.non]]], VS v := by
  have hR : ∀ p ∈ R, ∃ i, p = .tup (iL (row n (f i))) ∨ p = .lst (iL (row n (f i))) := fun p hp => by
    obtain ⟨i, rfl⟩ := h.m hp
    exact ⟨i, .inl rfl⟩
  have bad : ∀ m i, m ≠ n → rowOk m (.tup (iL (row n (f i)))) = false := fun m i hm => by
    show decide _ = false
    exact decide_eq_false (by rw [iL_len, row_l]; omega)
  have r0 : R[0]? = some (.tup (iL (row n (f 0)))) := h.g 0 (by omega)
  intro v hv
  simp only [List.mem_cons, List.not_mem_nil, or_false] at hv
  rcases hv with rfl | rfl | rfl | rfl | rfl | rfl | rfl | rfl | rfl | rfl | rfl | rfl | rfl | rfl | rfl
  · refine ⟨.inl (.a (k := "list") rfl rfl), .lst (k := 7) (by rw [h.l]; omega) fun p hp => ?_⟩
    obtain ⟨i, rfl⟩ := h.m hp
    exact (sv_iL (by rw [row_l]; omega)).1.mono (by omega)
  · refine vs_rows (f := f) hn (fun p hp => ?_) (by simp [h.l]; omega) (.inr (.inr ⟨.lst (iL (row n (f (n - 1)))), by simp, rfl⟩))
    rcases List.mem_append.mp hp with q | q
    · exact hR p (List.mem_of_mem_take q)
    · rw [List.mem_singleton.mp q]; exact ⟨_, .inr rfl⟩
  · refine vs_rows (f := f) hn (fun p hp => ?_) (by simp [h.l]; omega) (.inr (.inr ⟨_, List.mem_append_left _ (List.mem_of_getElem? r0), bad _ _ (by simp [h.l]; omega)⟩))
    rcases List.mem_append.mp hp with q | q
    · exact hR p q
    · exact hR p (List.mem_of_mem_take q)
  · refine vs_rows (f := f) hn (fun p hp => hR p (List.mem_of_mem_drop hp)) (by simp [h.l]; omega) ?_
    by_cases h1 : n = 1
    · exact .inl (by simp [h.l]; omega)
    · have r1 : (R.drop 1)[0]? = some (.tup (iL (row n (f 1)))) := by rw [List.getElem?_drop]; exact h.g 1 (by omega)
      exact .inr (.inr ⟨_, List.mem_of_getElem? r1, bad _ _ (by simp [h.l]; omega)⟩)
  · exact ⟨.inl (.b (.inl rfl)), .tup (k := 7) (by simp) (by simp)⟩
  · refine ⟨.inl (.c (by simp) (by simp) (fun p hp => ?_) ⟨.tup [], by simp, rfl⟩), .tup (k := 7) (by simp) fun p hp => ?_⟩
    · rw [List.mem_singleton.mp hp]; exact ⟨(Sh.tup (k := 0) (ps := []) (by simp)).mono (by omega), .inl ⟨_, rfl⟩⟩
    · rw [List.mem_singleton.mp hp]; exact .tup (k := 6) (by simp) (by simp)
  · exact ⟨.inl (.a (k := "NoneType") rfl rfl), .non⟩
  · exact ⟨.inl (.a (k := "int") rfl rfl), .int⟩
  · exact ⟨.inl (.a (k := "str") rfl rfl), .str (by decide +kernel)⟩
  · exact ⟨.inl (.a (k := "dict") rfl rfl), .dic (k := 7)⟩
  · exact ⟨.inl (.a (k := "bool") rfl rfl), .bl⟩
  · unfold z88 z8
    refine ⟨.inl (.b (.inr (by simp))), .tup (k := 7) (by simp) fun p hp => ?_⟩
    rw [(List.mem_replicate.mp hp).2]
    exact .tup (k := 6) (by simp) fun q hq => by rw [(List.mem_replicate.mp hq).2]; exact .int
  · exact vs_sq (n := 1) (g := fun _ _ => .int 1) (by omega) fun _ _ _ _ => smp_i
  · exact vs_sq (n := 1) (g := fun _ _ => .bl false) (by omega) fun _ _ _ _ => smp_b
  · exact vs_sq (n := 1) (g := fun _ _ => .non) (by omega) fun _ _ _ _ => smp_n
theorem pairs_smp (t u v w z : Int) : ∀ p ∈ [PV.tup [.int 0, .int 0], .tup [.int 1001, .int 1001], .tup [.int 1000, .int 1000], .tup [.int 1, .int 1], .tup [.int t, .int t], .tup [.int u, .int u], .tup [.int v, .int v], .tup [.int w, .int z], .tup [.non, .non], .tup [.bl true, .bl true],
    .tup [.str "1", .str "1"], .tup [.int (-1), .int (-1)], .tup [.tup [.int 1, .int 1], .tup [.int 1, .int 1]]], ∃ a b, p = .tup [a, b] ∧ Smp2 a ∧ Smp2 b := by
  intro p hp
  simp only [List.mem_cons, List.not_mem_nil, or_false] at hp
  rcases hp with rfl | rfl | rfl | rfl | rfl | rfl | rfl | rfl | rfl | rfl | rfl | rfl | rfl
  · exact ⟨_, _, rfl, smp_i, smp_i⟩
  · exact ⟨_, _, rfl, smp_i, smp_i⟩
  · exact ⟨_, _, rfl, smp_i, smp_i⟩
  · exact ⟨_, _, rfl, smp_i, smp_i⟩
  · exact ⟨_, _, rfl, smp_i, smp_i⟩
  · exact ⟨_, _, rfl, smp_i, smp_i⟩
  · exact ⟨_, _, rfl, smp_i, smp_i⟩
  · exact ⟨_, _, rfl, smp_i, smp_i⟩
  · exact ⟨_, _, rfl, smp_n, smp_n⟩
  · exact ⟨_, _, rfl, smp_b, smp_b⟩
  · exact ⟨_, _, rfl, smp_s, smp_s⟩
  · exact ⟨_, _, rfl, smp_i, smp_i⟩
  · exact ⟨_, _, rfl, smp_t, smp_t⟩
theorem th4_sat {d : Int} {bx : PV} {n : Nat} {f : Nat → Nat → Int} {R L0 : List PV} (hb : Bx d bx) (hd : d < 1000000) (hn : 2 ≤ n ∧ n ≤ 7) (hR : Rows n f R) (h0 : ∀ v ∈ L0, VS v) (hl0 : L0.length ≤ 20) :
    (m__law_spoilt_th4 [bx, .tup R, .int n, .lst L0, .non, .non, .non, .non, .non, .non]).sat (fun o => ∃ L b', o = .nx [b', .tup R, .int n, .lst L, .non, .non, .non, .non, .non, .non] ∧ (∀ v ∈ L, VS v) ∧ L.length ≤ 60 ∧ Bx (d + n) b') noX := by
  simp! [m__law_spoilt_th4]
  refine mixed_sat hb (by omega) (by omega) (by omega) fun o b1 ho hb1 => ?_
  rw [Int.toNat_natCast] at ho ⊢
  have hx := ho.lt 0 (by omega)
  have hy := ho.lt 1 (by omega)
  obtain ⟨x, rx⟩ : ∃ x, x = o 0 := ⟨_, rfl⟩
  obtain ⟨y, ry⟩ : ∃ y, y = o 1 := ⟨_, rfl⟩
  rw [← rx] at hx; rw [← ry] at hy
  have et : (iL (row n fun a => (o a : Nat))).take (2 : Int).toNat = [.int x, .int y] := by
    obtain ⟨m, rfl⟩ : ∃ m, n = m + 2 := ⟨n - 2, by omega⟩
    unfold iL row
    rw [List.range_succ_eq_map, List.range_succ_eq_map, rx, ry]
    rfl
  have hl := hR.l
  have g1 : gIx (.tup R) (.int (x : Int)) = some (.tup (iL (row n (f x)))) := ixt_g (by rw [Int.toNat_natCast]; exact hR.g x hx) (by omega)
  simp! [sl_lt, et, gSqT_l, g1, ixrt, lst_n, mul_l, neg_i, add_ll]
  have hP := pairs_smp (f x y + 1) (if f x y - 1 > 1 then f x y - 1 else 1) (2 * f x y) (f x y) (f x y + 1)
  refine sat_lcM (fun E i a e => e = E ∧ a.length = i ∧ ∀ v ∈ a, VS v) ⟨rfl, rfl, by simp⟩ (fun i p a e hp he => ?_) ?_
  · obtain ⟨rfl, hl, ha⟩ := he
    have hi := (List.getElem?_eq_some_iff.mp hp).1
    simp only [List.length_cons, List.length_nil] at hi
    obtain ⟨p1, p2, rfl, s1, s2⟩ := hP p (List.mem_of_getElem? hp)
    simp! [m__law_spoilt_elt1]
    rw [← hR.e]
    refine with_sat (by omega) hx hy ?_
    simp! []
    refine ⟨by simp [hl], fun v hv => ?_⟩
    rcases List.mem_append.mp hv with q | q
    · exact ha v q
    · rw [List.mem_singleton.mp q]
      refine vs_sq (by omega) fun a b _ _ => ?_
      unfold putP2
      split
      · exact s2
      · split
        · exact s1
        · exact smp_i
  · rintro a e ⟨rfl, hl, ha⟩
    simp only [List.length_cons, List.length_nil] at hl
    simp! [cat_ll]
    let g : Nat → Nat → Int := fun a b => iteB (decide ((a : Int) = b) && decide ((b : Int) = x)) (f x y) (f a b)
    refine sat_lcU (fun a => .lst (iL (row n (g a)))) (by omega) (fun a ha => ?_) ?_
    · simp! [m__law_spoilt_elt3]
      refine sat_lcU (fun b => .int (g a b)) (by omega) (fun b hb => ?_) ?_
      · have g2 : gIx (.tup R) (.int (a : Int)) = some (.tup (iL (row n (f a)))) := ixt_g (by rw [Int.toNat_natCast]; exact hR.g a ha) (by omega)
        simp! [m__law_spoilt_elt2, g2, ixrt, iteB_and, iteB_int]
        rfl
      · simp! []
    simp! [enc_lc (f := g) fun _ _ => rfl]
    refine tuple_enc (by omega) ?_
    simp! []
    refine ⟨_, b1, rfl, fun v hv => ?_, by simp; omega, hb1⟩
    rcases List.mem_append.mp hv with q | q
    · rcases List.mem_append.mp q with q | q
      · exact h0 v q
      · exact ha v q
    · rw [List.mem_singleton.mp q]
      exact vs_sqi (by omega)
theorem spoilt_sat {d : Int} {bx : PV} {n : Nat} {f : Nat → Nat → Int} {Q : PV × List PV → Prop} {E : Str → List (Str × PV) → Prop} (hb : Bx d bx) (hd : d < 1000000) (hn : 1 ≤ n ∧ n ≤ 7)
    (k : ∀ l b', (∀ v ∈ l, VS v) → l.length ≤ 100 → Bx (d + 100) b' → Q (.lst l, [b', .non])) : (F__law_spoilt [bx, sqi n f]).sat Q E := by
  obtain ⟨R, hR⟩ := rows_of n f
  have hl := hR.l
  have gl := hR.g (n - 1) (by omega)
  have il : gIx (.tup R) (.int ((n : Int) - 1)) = some (.tup (iL (row n (f (n - 1))))) := ixt_g (by rw [show ((n : Int) - 1).toNat = n - 1 from by omega]; exact gl) (by omega)
  have eN : ((n : Int) - 1).toNat = n - 1 := by omega
  have e1 : (1 : Int).toNat = 1 := rfl
  have ht : ∀ {Q : PV × List PV → Prop} {E : Str → List (Str × PV) → Prop}, Q (.tup R, [.non]) → (F__law_tuple [.tup R]).sat Q E := fun h => by
    rw [← hR.e]
    exact tuple_sq (by omega) (by rw [← hR.e] at h; exact h)
  rw [hR.e]
  simp! [F__law_spoilt, m__law_spoilt]
  refine ht ?_
  have base := vs_base hn hR
  simp! [hl, sl_tt, sl_td, add_tt, il, mz1, mz2, lst_n, eN, e1]
  refine ⟨fun h => ?_, fun h => k _ bx base (by simp) (hb.mono (by omega))⟩
  refine use_sat (th4_sat hb hd (by omega) hR base (by simp)) ?_
  rintro _ ⟨L, b', rfl, h1, h2, h3⟩
  simp! []
  exact k L b' h1 (by omega) (h3.mono (by omega))
end CqL

/-! text Qk -/
set_option linter.all false
set_option maxRecDepth 100000
/-! plain law: the law's own run -/
namespace CqL
open PySem PySem.Spec L2 Cq
local macro_rules
  | `(tactic| simp! [$xs,*]) => `(tactic| simp -implicitDefEqProofs (disch := first | omega | (simp only [List.length_append, List.length_map, List.length_range, List.length_cons, List.length_nil, List.length_set, List.length_take, List.length_drop, List.length_replicate, iL_len, row_l, enc_len, upto_l, from_l]; omega)) only [satK_ap, sat_bind, sat_nx, sat_ok, sat_exc, sat_bad, bind_ok, bind_exc, bind_bad, nx_ok, nx_bad, iteB_t, iteB_f, iteB_n, sat_iteB, iteB_pure, iteB_pure2, iteB_val, iteB_int, iteB_bl, iteB_and, iteB_or, ofO_some, ofO_none, mOfB_some, mVar_ap, mC_ap, andK_ap, mAnd_ap, orK_ap, mOr_ap, notK_ap, mNot_ap, ifK_ap, mIf_ap, andVK2_ap, andVK_ap, mAndV_ap, orVK2_ap, orVK_ap, mOrV_ap, notVK2_ap, notVK_ap, mNotV_ap, unK_ap, mUn_ap, binK2_ap, binK_ap, mBin_ap, truK_ap, mTru_ap, isbK_ap, mIsB_ap, chK2_ap, chK_ap, mChain_ap, chO_b, mNil_ap, consK2_ap, consK_ap, mCons_ap, argsK_ap, mArgs_ap, ownK_ap, mOwnA_ap, callK2_ap, callK_ap, mCall_ap, lenIs_ok, kwK3_ap, kwK2_ap, kwK_ap, mkK3_ap, mkK2_ap, mkK_ap, mMake_ap, mCallK_ap, vwK_ap, mView_ap, vbK_ap, mViewB_ap, voK_ap, mViewO_ap, vwO_ap, nolst_int, nolst_bl, nolst_non, nolst_str, nolst_tup, nolst_nil, nolst_cons, seqK_nx, seqK_rt, seqK_bk, seqK_ct, mSeq_ap, mSkip_ap, mWk_ap, wkO_nx, wkO_rt, wkO_bk, wkO_ct, mBrk_ap, mCnt_ap, dropK_ap, mDrop_ap, retK_ap, mRet_ap, rowO_s, mRetOwn_ap, setK_ap, mSet_ap, parK2_ap, parK_ap, mPar_ap, asgO_s, asgK_ap, mAsg_ap, gN_ap, gsNil_ap, gsCons_ap, obind_s, gSqT_t, gSqT_l, gTupT_t, itO_s, sqK_ap, mSq_ap, rgK_ap, mRg_ap, itK_ap, mIt_ap, seqP_l, seqP_t, forK_ap, mFor_ap, mWhile_ap, lcK2_ap, lcK_ap, mLc_ap, mYes_ap, mDef_ap, outD_rt, outD_nx, pshK_ap, mPush_ap, extK_ap, mExt_ap, clr_un, clr_fz, clr_ow, clr_ow2, clr_nil, fill_n, fill_s, fill_0, back_n, back_s, back_0, wipe_0, wipe_s, rest_0, rest_s, hdE_ap, sat_try, partO_i, partK_ap, mPart_ap, mNoPart_ap, slK3_ap, slK2_ap, slK_ap, mSl_ap, pshO_s, extO_s, stepO_s, fwd_nx, fwd_ct, fwd_bk, fwd_rt, stepM_s, stmK_ap, stmK2_ap, eltK_ap, kElt_ap, kSub_ap, subK_ap, stepE_s, steK_ap, gSetOwn2_ap, gSetOwn_ap, pVar_ap, pC_ap, pBin_ap, pbO_s, add_i, sub_i, mul_r, mul_l, div_i, mod_i, shl_i, shr_i, and_i, or_i, xor_i, lt_i, le_i, gt_i, ge_i, eq_i, ne_i, eq_in, ne_in, eq_b, ne_b, eq_s, ne_s, is_n, isn_n, isNonP_int, isNonP_non, isNonP_tup, isNonP_lst, isNonP_bl, isNonP_str, isNonP_ins, tru_b, tru_i, tru_n, tru_l, tru_t, isBl_b, neg_i, len_l, len_t, len_scr, abs_i, int_i, int_b, max_ii, min_ii, list_l, list_t, tuple_l, tuple_t, tup_0, tup_1, tup_2, tup_3, tup_4, lst_0, lst_1, lst_2, lst_3, lst_4, ixl_0, ixl_1, ixl_2, ixl_3, ixt_0, ixt_1, ixt_2, ixt_3, List.set_cons_zero, List.set_cons_succ, List.getElem?_cons_zero, List.getElem?_cons_succ, List.getD_cons_zero, List.getD_cons_succ, List.take_succ_cons, List.take_zero, List.cons_append, List.nil_append, List.length_cons, List.length_nil, List.replicate_succ, List.replicate_zero, Nat.reduceSub, Nat.reduceAdd, Int.toNat_natCast, decide_eq_true_eq, decide_eq_false_iff_not, Bool.not_true, Bool.not_false, Bool.not_eq_true', Bool.not_eq_false', Bool.or_eq_true, Bool.and_eq_true, Bool.or_eq_false_iff, Bool.and_eq_false_imp, set2_e, ixe, ixr, rgI, rgI2, repL_i, row_map, ibK_nx, mIb_ap, mIni_ap, fsK_ap, mFs_ap, putP_0, raiK_ap, mRaise_ap, addP_0, addP_s, mFld_ap, gP_1, gP_2, gP_2r, lenIs_1, lenIs_2, lenIs_3, fld_ap, isNonP_dic, ty_int_int, ty_int_bool, ty_int_str, ty_int_list, ty_int_tuple, ty_int_dict, ty2_int, ty_bl_int, ty_bl_bool, ty_bl_str, ty_bl_list, ty_bl_tuple, ty_bl_dict, ty2_bl, ty_non_int, ty_non_bool, ty_non_str, ty_non_list, ty_non_tuple, ty_non_dict, ty2_non, ty_str_int, ty_str_bool, ty_str_str, ty_str_list, ty_str_tuple, ty_str_dict, ty2_str, ty_tup_int, ty_tup_bool, ty_tup_str, ty_tup_list, ty_tup_tuple, ty_tup_dict, ty2_tup, ty_lst_int, ty_lst_bool, ty_lst_str, ty_lst_list, ty_lst_tuple, ty_lst_dict, ty2_lst, ty_dic_int, ty_dic_bool, ty_dic_str, ty_dic_list, ty_dic_tuple, ty_dic_dict, ty2_dic, items_ap, itemsP_0, decide_true, decide_false, not_true_eq_false, not_false_eq_true, false_implies, true_implies, and_true, true_and, iteB_val, iteB_bl, $xs,*])
theorem pow_18 : oPow (.int 10) (.int 18) = some (.int 1000000000000000000) := by
  unfold oPow intOpC
  dsimp only
  rw [if_pos (cpow_i (by omega) (by omega) (by omega) (by omega))]
  rfl
theorem box_ok {g : Int} : ∃ b, F__law_box [.int g] = .ok (b, [.non]) ∧ Bx 0 b := by
  refine ⟨.lst [.int (if g < 0 then -g else g), .bl (decide ((1000000000000000000 : Int) ≤ if g < 0 then -g else g)), .int ((if g < 0 then -g else g) % 2147483629), .int 0], ?_, ?_⟩
  · apply eq_of
    simp! [F__law_box, m__law_box, pow_18]
  · refine ⟨_, _, _, _, rfl, by split <;> omega, Int.emod_nonneg _ (by omega), Int.emod_lt_of_pos _ (by omega), by omega, by omega⟩
theorem cell_ok {ns : List Int} {k : Nat} (hn : ns.length ≤ 63) (hk : k ≤ 100) : ∃ g, F__law_cell [.scr ns, .int k] = .ok (.int g, [.non, .non]) := by
  by_cases h : k < ns.length
  · have e : gIx (.scr ns) (.int (k : Int)) = some (.int ns[k]) := by
      show (atI ns (k : Int)).map PV.int = _
      rw [atI_ok (by omega) (by omega), Int.toNat_natCast, List.getElem?_eq_getElem h]
      rfl
    refine ⟨ns[k], eq_of ?_⟩
    simp! [F__law_cell, m__law_cell, e, decide_eq_true (show (k : Int) < ns.length by omega)]
  · have e : ∃ s, gSl (.scr ns) none (some 1) = some (.lst (iL s)) := ⟨_, rfl⟩
    obtain ⟨s, e⟩ := e
    have e2 : gSum [.lst (iL s)] = some (.int s.sum) := by
      have : intsOf [.lst (iL s)] = some s := toInts_map s
      unfold gSum
      rw [this]
    refine ⟨6949 * k + s.sum % 1000033, eq_of ?_⟩
    simp! [F__law_cell, m__law_cell, e, e2, decide_eq_false (show ¬ (k : Int) < ns.length by omega)]
theorem mt_dist {n : Nat} {f : Nat → Nat → Int} (h : Mt n 1000 f) : Dist n f := ⟨h.z, h.s, h.p⟩
theorem mt_short {n : Nat} {f : Nat → Nat → Int} (h : Mt n 1000 f) {a b c : Nat} (ha : a < n) (hb : b < n) (hc : c < n) : ¬ short f a b c := by
  have := h.t a c b ha hc hb
  unfold short; omega
theorem init_mt {n : Nat} {f : Nat → Nat → Int} (hn : 1 ≤ n ∧ n ≤ 7) (h : Mt n 1000 f) : F_Space___init__ [sqi n f] = .ok [("rows", sqi n f), ("size", .int (n : Nat))] := by
  apply eq_of
  refine init_sat (vs_sqi hn).1 (fun m g hm e hd hs => ?_) (fun z => absurd ⟨n, f, hn, rfl, mt_dist h⟩ z) fun m g x y z hm e hd hs => ?_
  · obtain ⟨rfl, _⟩ := sqi_inj e
    rfl
  · obtain ⟨rfl, e2⟩ := sqi_inj e
    exact absurd ((short_congr e2 hs.hx hs.hy hs.hz).mpr hs.s) (mt_short h hs.hx hs.hy hs.hz)
theorem sh_sqi {n : Nat} {f : Nat → Nat → Int} : Sh 64 (sqi n f) := by
  refine (Sh.tup (k := 1) fun p hp => ?_).mono (by omega)
  obtain ⟨i, _, rfl⟩ := List.mem_map.mp hp
  refine Sh.tup (k := 0) fun q hq => ?_
  obtain ⟨j, _, rfl⟩ := List.mem_map.mp hq
  exact Sh.int
theorem isic {fs : List (Str × PV)} : gIsiC "Space" (.ins "Space" fs) = some (.bl true) := by
  unfold gIsiC; dsimp only; rw [if_pos rfl]
theorem eq_space {v w s t : PV} (hv : Sh 64 v) (hw : Sh 64 w) : F_Space___eq__ [.ins "Space" [("rows", v), ("size", s)], .ins "Space" [("rows", w), ("size", t)]] = .ok (.bl (peq v w), [.non, .non]) := by
  apply eq_of
  simp! [F_Space___eq__, m_Space___eq__, isic, lk_rows, (eq_sh hv hw).1]
theorem own_eq {x : Str} {F : MF} {fs gs : List (Str × PV)} {t neg : Bool} {rs : List PV} (h : F [.ins x fs, .ins x gs] = .ok (.bl t, rs)) : gOwn x F neg (.ins x fs) (.ins x gs) = some (.bl (t != neg)) := by
  unfold gOwn
  dsimp only
  rw [if_pos ⟨rfl, rfl⟩, h]
theorem size_sat {d : Int} {bx : PV} {Q : PV × List PV → Prop} {E : Str → List (Str × PV) → Prop} (hb : Bx d bx) (hd : d < 1000000) (k : ∀ (n : Nat) b', 1 ≤ n ∧ n ≤ 7 → Bx (d + 3) b' → Q (.int n, [b'])) : (F__law_size [bx]).sat Q E := by
  obtain ⟨n, b, e, h1, h2, hb2⟩ := size_ok hb (by omega)
  exact use_ok e (k n b ⟨h1, h2⟩ hb2)
theorem threes {r : Nat} (h : (r : Int) < 3) : ∃ u : Int, gIx (.lst [.int 3, .int 4, .int 6]) (.int r) = some (.int u) ∧ 1 ≤ u ∧ u ≤ 6 := by
  have h : r < 3 := by omega
  match r, h with
  | 0, _ => exact ⟨3, rfl, by omega, by omega⟩
  | 1, _ => exact ⟨4, rfl, by omega, by omega⟩
  | 2, _ => exact ⟨6, rfl, by omega, by omega⟩
theorem body4_ok {ns : List Int} {k : Nat} (hn : ns.length ≤ 63) (hk : k ≤ 100) : (m_law_body4 [.scr ns, .int k, .non, .non, .non, .non, .non, .non, .non, .non, .non, .non, .non, .non]).sat (fun o => o = .nx (.scr ns :: List.replicate 13 .non)) noX := by
  obtain ⟨g, hg⟩ := cell_ok (k := k) hn hk
  obtain ⟨b0, hb0, hB0⟩ := box_ok (g := g)
  simp! [m_law_body4, hg, hb0]
  refine size_sat hB0 (by omega) fun n b1 hn1 hB1 => ?_
  simp! []
  refine drawn_sat hB1 (by omega) (by omega) (by omega) fun f b2 hf hB2 => ?_
  rw [Int.toNat_natCast] at hf ⊢
  simp! []
  refine tuple_enc (by omega) ?_
  simp! []
  refine size_sat hB2 (by omega) fun n' b3 hn2 hB3 => ?_
  simp! []
  refine drawn_sat hB3 (by omega) (by omega) (by omega) fun f' b4 hf' hB4 => ?_
  rw [Int.toNat_natCast] at hf' ⊢
  simp! []
  refine tuple_enc (by omega) ?_
  simp! []
  refine spoilt_sat hB4 (by omega) hn1 fun l b5 hl1 hl2 hB5 => ?_
  simp! [add_ll]
  have hl3 : ∀ v ∈ [sqi n f, sqi n' f'] ++ l, VS v := fun v hv => by
    rcases List.mem_append.mp hv with q | q
    · simp only [List.mem_cons, List.not_mem_nil, or_false] at q
      rcases q with rfl | rfl
      · exact vs_sqi hn1
      · exact vs_sqi hn2
    · exact hl1 v q
  refine sat_forM (fun E i e => ∃ b, e = E.set 2 b ∧ Bx (30000 + i) b) ⟨b5, rfl, hB5.mono (by omega)⟩ (fun i v e hv he => ?_) ?_
  · obtain ⟨b, rfl, hb⟩ := he
    have hi := (List.getElem?_eq_some_iff.mp hv).1
    simp only [List.length_cons] at hi
    have hvs := hl3 v (List.mem_of_getElem? hv)
    simp! [m_law_body1]
    refine right_sat hb (by omega) hvs.1 hvs.2 fun b' hb' => ?_
    simp! []
    exact ⟨b', rfl, hb'.mono (by omega)⟩
  · rintro e ⟨b6, rfl, hB6⟩
    simp only [List.length_cons] at hB6
    simp! []
    refine take_sat hB6 (by omega) (by omega) (by omega) fun r b7 hr hB7 => ?_
    simp! []
    obtain ⟨m, hm⟩ : ∃ m : Nat, m = 3 + r := ⟨_, rfl⟩
    have em : (3 : Int) + r = m := by omega
    simp! [em]
    refine sat_lcU (fun _ => .lst (iL (row m fun _ => 0))) (by omega) (fun x hx => ?_) ?_
    · simp! [m_law_elt2]
    simp! [enc_lc (f := fun _ _ => 0) fun _ _ => rfl]
    refine pairs_sat (by omega) (by omega) ?_
    simp! []
    have hpl : (pairsTo m m).length ≤ 49 := by
      have := pairsTo_len (n := m) m
      have h2 : m * m ≤ 7 * 7 := Nat.mul_le_mul (by omega) (by omega)
      omega
    refine sat_forM (fun E i e => ∃ f b, e = (E.set 2 b).set 7 (.lst (enc m f)) ∧ Bx (40000 + 2 * i) b) ⟨_, b7, rfl, hB7.mono (by omega)⟩ (fun i v e hv he => ?_) ?_
    · obtain ⟨t, b, rfl, hb⟩ := he
      have hi := (List.getElem?_eq_some_iff.mp hv).1
      obtain ⟨x, y, hx, hxy, hy, rfl⟩ := pairsTo_mem.mp (List.mem_of_getElem? hv)
      simp! [m_law_body3]
      refine take_sat hb (by omega) (by omega) (by omega) fun r1 c1 hr1 hc1 => ?_
      obtain ⟨u, hu, hu1, hu2⟩ := threes hr1
      simp! [hu]
      refine take_sat hc1 (by omega) (by omega) (by omega) fun r2 c2 hr2 hc2 => ?_
      simp! [gSqT_t, gsCons_ap, obind_s]
      exact ⟨_, c2, rfl, hc2.mono (by omega)⟩
    · rintro e ⟨t, b8, rfl, hB8⟩
      simp! []
      refine tuple_enc (by omega) ?_
      simp! []
      refine right_sat hB8 (by omega) (vs_sqi (by omega)).1 (vs_sqi (by omega)).2 fun b9 hB9 => ?_
      have es := eq_space (s := .int (n : Nat)) (t := .int (n' : Nat)) (sh_sqi (n := n) (f := f)) (sh_sqi (n := n') (f := f'))
      have er := eq_space (s := .int (n : Nat)) (t := .int (n : Nat)) (sh_sqi (n := n) (f := f)) (sh_sqi (n := n) (f := f))
      rw [peq_refl sh_sqi] at er
      simp! [init_mt hn1 hf, init_mt hn2 hf', own_eq es, (eq_sh (sh_sqi (n := n) (f := f)) (sh_sqi (n := n') (f := f'))).1]
      refine ⟨fun _ => ?_, fun h => absurd (by cases peq (sqi n f) (sqi n' f') <;> rfl) h⟩
      have e1 : seqP (sqi n f) = some ((List.range n).map fun i => .tup (iL (row n (f i)))) := by rw [sqi_tup]; rfl
      simp! [e1]
      refine sat_lcR (fun i => .lst (iL (row n (f i)))) (by omega) (fun i hi => ?_) ?_
      · simp! []
      simp! [enc_lc (f := f) fun _ _ => rfl]
      refine tuple_enc (by omega) ?_
      have e2 : (true != true) = false := rfl
      simp! [init_mt hn1 hf, own_eq er, e2]
theorem law_ok {ns : List Int} (hn : ns.length ≤ 63) : (F_law [.scr ns]).sat (fun z => ∃ rs, z = (.bl true, rs)) noX := by
  simp! [F_law, m_law]
  refine sat_forU (fun E x e => e = E) rfl (fun x e hx he => ?_) ?_
  · subst he
    have hx2 : x ≤ 100 := by
      have : (if (if (ns.length : Int) < 6 then (ns.length : Int) else 6) > 3 then if (ns.length : Int) < 6 then (ns.length : Int) else 6 else 3).toNat ≤ 6 := by split <;> split <;> omega
      omega
    simp! []
    refine use_sat (body4_ok hn hx2) ?_
    rintro _ rfl
    simp! []
  · rintro _ rfl
    simp! []
    exact ⟨_, rfl⟩
end CqL

/-! text Pk00 -/
namespace CqL
open PySem PySem.Spec L2 Cq
theorem law_true (ns : List Int) (h : ns.length ≤ 63) : ∃ rs, F_law [.scr ns] = .ok (.bl true, rs) := by
  obtain ⟨z, e, rs, rfl⟩ := ok_of (law_ok h)
  exact ⟨rs, e⟩
end CqL

/-! text Hk00 -/
set_option Elab.async false
set_option linter.all false
set_option maxRecDepth 100000
set_option maxHeartbeats 0
namespace CqL
open PySem PySem.Spec L2 Cq
def fn : List He.DefD := [
  ⟨("Space", some "__eq__"), "__eq__", "Space.__eq__", defArgs s_Space___eq__, defBody s_Space___eq__, defScope s_Space___eq__, [], []⟩,
  ⟨("_law_box", none), "_law_box", "_law_box", defArgs s__law_box, defBody s__law_box, defScope s__law_box, [], []⟩,
  ⟨("_law_cell", none), "_law_cell", "_law_cell", defArgs s__law_cell, defBody s__law_cell, defScope s__law_cell, [], []⟩,
  ⟨("_law_closed", none), "_law_closed", "_law_closed", defArgs s__law_closed, defBody s__law_closed, defScope s__law_closed, [], []⟩,
  ⟨("_law_take", none), "_law_take", "_law_take", defArgs s__law_take, defBody s__law_take, defScope s__law_take, [], []⟩,
  ⟨("_law_mixed", none), "_law_mixed", "_law_mixed", defArgs s__law_mixed, defBody s__law_mixed, defScope s__law_mixed, [], []⟩,
  ⟨("_law_pairs_in", none), "_law_pairs_in", "_law_pairs_in", defArgs s__law_pairs_in, defBody s__law_pairs_in, defScope s__law_pairs_in, [], []⟩,
  ⟨("_law_tree_rows", none), "_law_tree_rows", "_law_tree_rows", defArgs s__law_tree_rows, defBody s__law_tree_rows, defScope s__law_tree_rows, [], []⟩,
  ⟨("_law_drawn", none), "_law_drawn", "_law_drawn", defArgs s__law_drawn, defBody s__law_drawn, defScope s__law_drawn, [], []⟩,
  ⟨("_law_size", none), "_law_size", "_law_size", defArgs s__law_size, defBody s__law_size, defScope s__law_size, [], []⟩,
  ⟨("_law_tuple", none), "_law_tuple", "_law_tuple", defArgs s__law_tuple, defBody s__law_tuple, defScope s__law_tuple, [], []⟩,
  ⟨("_law_with", none), "_law_with", "_law_with", defArgs s__law_with, defBody s__law_with, defScope s__law_with, [], []⟩,
  ⟨("_law_spoilt", none), "_law_spoilt", "_law_spoilt", defArgs s__law_spoilt, defBody s__law_spoilt, defScope s__law_spoilt, [], []⟩,
  ⟨("_law_fits", none), "_law_fits", "_law_fits", defArgs s__law_fits, defBody s__law_fits, defScope s__law_fits, [], []⟩,
  ⟨("_law_due", none), "_law_due", "_law_due", defArgs s__law_due, defBody s__law_due, defScope s__law_due, [], []⟩,
  ⟨("is_integer", none), "is_integer", "is_integer", defArgs s_is_integer, defBody s_is_integer, defScope s_is_integer, [], []⟩,
  ⟨("is_between", none), "is_between", "is_between", defArgs s_is_between, defBody s_is_between, defScope s_is_between, [], []⟩,
  ⟨("is_item", none), "is_item", "is_item", defArgs s_is_item, defBody s_is_item, defScope s_is_item, [], []⟩,
  ⟨("is_tuple_of", none), "is_tuple_of", "is_tuple_of", defArgs s_is_tuple_of, defBody s_is_tuple_of, defScope s_is_tuple_of, [], []⟩,
  ⟨("are_numbers", none), "are_numbers", "are_numbers", defArgs s_are_numbers, defBody s_are_numbers, defScope s_are_numbers, [], []⟩,
  ⟨("shortcut_in", none), "shortcut_in", "shortcut_in", defArgs s_shortcut_in, defBody s_shortcut_in, defScope s_shortcut_in, [], []⟩,
  ⟨("InvalidRows", some "__init__"), "__init__", "InvalidRows.__init__", defArgs s_InvalidRows___init__, defBody s_InvalidRows___init__, defScope s_InvalidRows___init__, [], []⟩,
  ⟨("Shortcut", some "__init__"), "__init__", "Shortcut.__init__", defArgs s_Shortcut___init__, defBody s_Shortcut___init__, defScope s_Shortcut___init__, [], []⟩,
  ⟨("Space", some "__init__"), "__init__", "Space.__init__", defArgs s_Space___init__, defBody s_Space___init__, defScope s_Space___init__, [], []⟩,
  ⟨("_law_made", none), "_law_made", "_law_made", defArgs s__law_made, defBody s__law_made, defScope s__law_made, [], []⟩,
  ⟨("_law_same", none), "_law_same", "_law_same", defArgs s__law_same, defBody s__law_same, defScope s__law_same, [], []⟩,
  ⟨("is_space", none), "is_space", "is_space", defArgs s_is_space, defBody s_is_space, defScope s_is_space, [], []⟩,
  ⟨("_law_value_right", none), "_law_value_right", "_law_value_right", defArgs s__law_value_right, defBody s__law_value_right, defScope s__law_value_right, [], []⟩,
  ⟨("law", none), "law", "law", defArgs s_law, defBody s_law, defScope s_law, [], []⟩]
def fa_0 : List He.Fa := [.free "abs", .free "all", .free "bool", .free "dict", .free "enumerate", .free "int", .free "isinstance", .free "len", .free "list", .free "max", .free "min", .free "range", .free "str", .free "sum", .free "tuple", .int "MOST_POINTS" 7, .int "MOST_DISTANCE" 1000, .glo "InvalidRows", .glo "Shortcut", .glo "Space", .cls "Space", .noat "Space" "rows", .noat "Space" "size", .glo "SpaceError", .exm "InvalidRows" "InvalidRows" true, .exm "InvalidRows" "Shortcut" false, .exm "Shortcut" "InvalidRows" false, .exm "Shortcut" "Shortcut" true, .exm "SpaceError" "InvalidRows" false, .exm "SpaceError" "Shortcut" false]
def fa_1 : List He.Fa := [.glo "_law_box", .glo "_law_cell", .glo "_law_closed", .glo "_law_take", .glo "_law_mixed", .glo "_law_pairs_in", .glo "_law_tree_rows", .glo "_law_drawn", .glo "_law_size", .glo "_law_tuple", .glo "_law_with", .glo "_law_spoilt", .glo "_law_fits", .glo "_law_due", .glo "is_integer", .glo "is_between", .glo "is_item", .glo "is_tuple_of", .glo "are_numbers", .glo "shortcut_in", .mkr "Space", .glo "_law_made", .glo "_law_same", .glo "is_space", .glo "_law_value_right", .glo "law"]
def fa : List He.Fa := fa_0 ++ fa_1
def fx_0 : List Fx := [.isc "Space", .xf "InvalidRows", .xf "Shortcut", .noat "InvalidRows" "given", .noat "Shortcut" "x", .noat "Shortcut" "y", .noat "Shortcut" "z", .eqc "Space", .oex "InvalidRows", .oex "Shortcut"]
def fx : List Fx := fx_0
def loose_0 : List Str := ["SpaceError", "InvalidRows", "Shortcut", "is_integer", "is_between", "is_tuple_of", "MOST_POINTS", "MOST_DISTANCE", "are_numbers", "is_item", "shortcut_in", "Space", "is_space", "_law_cell", "_law_box", "_law_take", "_law_same", "_law_mixed", "_law_closed", "_law_pairs_in", "_law_tree_rows", "_law_drawn", "_law_size", "_law_tuple", "_law_made", "_law_fits", "_law_due", "_law_value_right", "_law_with", "_law_spoilt"]
def loose : List Str := loose_0
def ex (K : PySem.W.Frag) : Bool := fx.all fun f => f.ok K
abbrev RR : PySem.W.OpenRow := PySem.W.OpenLaw.row PySem.Challenge.rw_metricbench_k00_spaces
abbrev hk : PySem.W.Hook := He.hookX 6 fa fn [] [] ex
def ob (s : PySem.W.SharedT) : He.AlX := He.obsX 6 fa fn [] [] ex (HandSHeadRun.getT s)
theorem ob_eq (s : PySem.W.SharedT) : ob s = hk.obs s.abs := He.obsX_eq (HandSHeadRun.getT_eq s)
theorem run (w : World) : HandSHeadRun.RunEq RR (PySem.W.view RR.prog [34]) hk ob 4000 loose w := by
  intro os
  kernel_rfl
theorem gg {K : PySem.W.Frag} {mg : Str → Option Value} {h : Heap} (X : K.In h) (Gm : h.Ns mainGlobals mg) (cd : He.SaysD fa fn K) (cx : ex K = true) : Gg K mg where
  b_abs := He.free_ok X Gm (cd.fact 0 (f := .free "abs") rfl)
  b_all := He.free_ok X Gm (cd.fact 1 (f := .free "all") rfl)
  b_bool := He.free_ok X Gm (cd.fact 2 (f := .free "bool") rfl)
  b_dict := He.free_ok X Gm (cd.fact 3 (f := .free "dict") rfl)
  b_enumerate := He.free_ok X Gm (cd.fact 4 (f := .free "enumerate") rfl)
  b_int := He.free_ok X Gm (cd.fact 5 (f := .free "int") rfl)
  b_isinstance := He.free_ok X Gm (cd.fact 6 (f := .free "isinstance") rfl)
  b_len := He.free_ok X Gm (cd.fact 7 (f := .free "len") rfl)
  b_list := He.free_ok X Gm (cd.fact 8 (f := .free "list") rfl)
  b_max := He.free_ok X Gm (cd.fact 9 (f := .free "max") rfl)
  b_min := He.free_ok X Gm (cd.fact 10 (f := .free "min") rfl)
  b_range := He.free_ok X Gm (cd.fact 11 (f := .free "range") rfl)
  b_str := He.free_ok X Gm (cd.fact 12 (f := .free "str") rfl)
  b_sum := He.free_ok X Gm (cd.fact 13 (f := .free "sum") rfl)
  b_tuple := He.free_ok X Gm (cd.fact 14 (f := .free "tuple") rfl)
  c_MOST_POINTS := He.int_ok X Gm (cd.fact 15 (f := .int "MOST_POINTS" 7) rfl)
  c_MOST_DISTANCE := He.int_ok X Gm (cd.fact 16 (f := .int "MOST_DISTANCE" 1000) rfl)
  k_InvalidRows := He.glo_ok X Gm (cd.fact 17 (f := .glo "InvalidRows") rfl)
  k_Shortcut := He.glo_ok X Gm (cd.fact 18 (f := .glo "Shortcut") rfl)
  k_Space := He.glo_ok X Gm (cd.fact 19 (f := .glo "Space") rfl)
  cl_Space := He.cls_ok (cd.fact 20 (f := .cls "Space") rfl)
  no_Space_rows := He.noat_ok (cd.fact 21 (f := .noat "Space" "rows") rfl)
  no_Space_size := He.noat_ok (cd.fact 22 (f := .noat "Space" "size") rfl)
  k_SpaceError := He.glo_ok X Gm (cd.fact 23 (f := .glo "SpaceError") rfl)
  is_Space := isc_ok (fxAt cx 0 (f := .isc "Space") rfl)
  xm_InvalidRows_InvalidRows := He.exm_ok (cd.fact 24 (f := .exm "InvalidRows" "InvalidRows" true) rfl)
  xm_InvalidRows_Shortcut := He.exm_ok (cd.fact 25 (f := .exm "InvalidRows" "Shortcut" false) rfl)
  xm_Shortcut_InvalidRows := He.exm_ok (cd.fact 26 (f := .exm "Shortcut" "InvalidRows" false) rfl)
  xm_Shortcut_Shortcut := He.exm_ok (cd.fact 27 (f := .exm "Shortcut" "Shortcut" true) rfl)
  xm_SpaceError_InvalidRows := He.exm_ok (cd.fact 28 (f := .exm "SpaceError" "InvalidRows" false) rfl)
  xm_SpaceError_Shortcut := He.exm_ok (cd.fact 29 (f := .exm "SpaceError" "Shortcut" false) rfl)
  xf_InvalidRows := xf_ok (fxAt cx 1 (f := .xf "InvalidRows") rfl)
  xf_Shortcut := xf_ok (fxAt cx 2 (f := .xf "Shortcut") rfl)
  xn_InvalidRows_given := noat_okx (fxAt cx 3 (f := .noat "InvalidRows" "given") rfl)
  xn_Shortcut_x := noat_okx (fxAt cx 4 (f := .noat "Shortcut" "x") rfl)
  xn_Shortcut_y := noat_okx (fxAt cx 5 (f := .noat "Shortcut" "y") rfl)
  xn_Shortcut_z := noat_okx (fxAt cx 6 (f := .noat "Shortcut" "z") rfl)
  eq_Space := eqc_ok (fxAt cx 7 (f := .eqc "Space") rfl)
  k__law_box := He.glo_ok X Gm (cd.fact 30 (f := .glo "_law_box") rfl)
  k__law_cell := He.glo_ok X Gm (cd.fact 31 (f := .glo "_law_cell") rfl)
  k__law_closed := He.glo_ok X Gm (cd.fact 32 (f := .glo "_law_closed") rfl)
  k__law_take := He.glo_ok X Gm (cd.fact 33 (f := .glo "_law_take") rfl)
  k__law_mixed := He.glo_ok X Gm (cd.fact 34 (f := .glo "_law_mixed") rfl)
  k__law_pairs_in := He.glo_ok X Gm (cd.fact 35 (f := .glo "_law_pairs_in") rfl)
  k__law_tree_rows := He.glo_ok X Gm (cd.fact 36 (f := .glo "_law_tree_rows") rfl)
  k__law_drawn := He.glo_ok X Gm (cd.fact 37 (f := .glo "_law_drawn") rfl)
  k__law_size := He.glo_ok X Gm (cd.fact 38 (f := .glo "_law_size") rfl)
  k__law_tuple := He.glo_ok X Gm (cd.fact 39 (f := .glo "_law_tuple") rfl)
  k__law_with := He.glo_ok X Gm (cd.fact 40 (f := .glo "_law_with") rfl)
  k__law_spoilt := He.glo_ok X Gm (cd.fact 41 (f := .glo "_law_spoilt") rfl)
  k__law_fits := He.glo_ok X Gm (cd.fact 42 (f := .glo "_law_fits") rfl)
  k__law_due := He.glo_ok X Gm (cd.fact 43 (f := .glo "_law_due") rfl)
  k_is_integer := He.glo_ok X Gm (cd.fact 44 (f := .glo "is_integer") rfl)
  k_is_between := He.glo_ok X Gm (cd.fact 45 (f := .glo "is_between") rfl)
  k_is_item := He.glo_ok X Gm (cd.fact 46 (f := .glo "is_item") rfl)
  k_is_tuple_of := He.glo_ok X Gm (cd.fact 47 (f := .glo "is_tuple_of") rfl)
  k_are_numbers := He.glo_ok X Gm (cd.fact 48 (f := .glo "are_numbers") rfl)
  k_shortcut_in := He.glo_ok X Gm (cd.fact 49 (f := .glo "shortcut_in") rfl)
  ox_InvalidRows := oex_ok (fxAt cx 8 (f := .oex "InvalidRows") rfl)
  ox_Shortcut := oex_ok (fxAt cx 9 (f := .oex "Shortcut") rfl)
  mk_Space := He.mkr_ok (cd.fact 50 (f := .mkr "Space") rfl)
  k__law_made := He.glo_ok X Gm (cd.fact 51 (f := .glo "_law_made") rfl)
  k__law_same := He.glo_ok X Gm (cd.fact 52 (f := .glo "_law_same") rfl)
  k_is_space := He.glo_ok X Gm (cd.fact 53 (f := .glo "is_space") rfl)
  k__law_value_right := He.glo_ok X Gm (cd.fact 54 (f := .glo "_law_value_right") rfl)
  k_law := He.glo_ok X Gm (cd.fact 55 (f := .glo "law") rfl)
theorem facts {P : Program} {w : World} {K : PySem.W.Frag} {mg : Str → Option Value} {h : Heap} {f : Addr} (X : K.In h) (Gm : h.Ns mainGlobals mg) (hfa : mg ("law" : Str) = some (.ref f)) (cd : He.SaysD fa fn K) (cx : ex K = true) :
    ∃ fd : FuncData, (∀ (s : Shared) (v : Value), BindsTo s fd ⟨[v], []⟩ [("script", v)]) ∧ ∀ base : Heap, K.In base → base.Ns mainGlobals mg → FnOk P w K mg base (L2.CX P w) 15 f fd ["script"] (SpF K mg [.fz] .fz F_law) := by
  have G := gg X Gm cd cx
  obtain ⟨fd0, D0⟩ := cd.def_ 0 rfl
  obtain ⟨fd1, D1⟩ := cd.def_ 1 rfl
  obtain ⟨fd2, D2⟩ := cd.def_ 2 rfl
  obtain ⟨fd3, D3⟩ := cd.def_ 3 rfl
  obtain ⟨fd4, D4⟩ := cd.def_ 4 rfl
  obtain ⟨fd5, D5⟩ := cd.def_ 5 rfl
  obtain ⟨fd6, D6⟩ := cd.def_ 6 rfl
  obtain ⟨fd7, D7⟩ := cd.def_ 7 rfl
  obtain ⟨fd8, D8⟩ := cd.def_ 8 rfl
  obtain ⟨fd9, D9⟩ := cd.def_ 9 rfl
  obtain ⟨fd10, D10⟩ := cd.def_ 10 rfl
  obtain ⟨fd11, D11⟩ := cd.def_ 11 rfl
  obtain ⟨fd12, D12⟩ := cd.def_ 12 rfl
  obtain ⟨fd13, D13⟩ := cd.def_ 13 rfl
  obtain ⟨fd14, D14⟩ := cd.def_ 14 rfl
  obtain ⟨fd15, D15⟩ := cd.def_ 15 rfl
  obtain ⟨fd16, D16⟩ := cd.def_ 16 rfl
  obtain ⟨fd17, D17⟩ := cd.def_ 17 rfl
  obtain ⟨fd18, D18⟩ := cd.def_ 18 rfl
  obtain ⟨fd19, D19⟩ := cd.def_ 19 rfl
  obtain ⟨fd20, D20⟩ := cd.def_ 20 rfl
  obtain ⟨fd21, D21⟩ := cd.def_ 21 rfl
  obtain ⟨fd22, D22⟩ := cd.def_ 22 rfl
  obtain ⟨fd23, D23⟩ := cd.def_ 23 rfl
  obtain ⟨fd24, D24⟩ := cd.def_ 24 rfl
  obtain ⟨fd25, D25⟩ := cd.def_ 25 rfl
  obtain ⟨fd26, D26⟩ := cd.def_ 26 rfl
  obtain ⟨fd27, D27⟩ := cd.def_ 27 rfl
  obtain ⟨fd28, D28⟩ := cd.def_ 28 rfl
  have e := hfa.symm.trans G.k_law
  cases e
  have b := FunD.bindsA (ps := ["script"]) D28 fun _ _ _ _ _ _ us hl => match us, hl with | [_], _ => rfl
  refine ⟨fd28, fun s v => b s [v] rfl, fun base hK hG => ?_⟩
  have q_Space := k_Space___eq__ (P := P) (w := w) (base := base) G  ⟨_, D0⟩
  have d__law_box := k__law_box (P := P) (w := w) (base := base) G  ⟨_, D1⟩
  have d__law_cell := k__law_cell (P := P) (w := w) (base := base) G  ⟨_, D2⟩
  have d__law_closed := k__law_closed (P := P) (w := w) (base := base) G  ⟨_, D3⟩
  have d__law_take := k__law_take (P := P) (w := w) (base := base) G  ⟨_, D4⟩
  have d__law_mixed := k__law_mixed (P := P) (w := w) (base := base) G d__law_take ⟨_, D5⟩
  have d__law_pairs_in := k__law_pairs_in (P := P) (w := w) (base := base) G  ⟨_, D6⟩
  have d__law_tree_rows := k__law_tree_rows (P := P) (w := w) (base := base) G d__law_mixed d__law_take ⟨_, D7⟩
  have d__law_drawn := k__law_drawn (P := P) (w := w) (base := base) G d__law_closed d__law_mixed d__law_pairs_in d__law_take d__law_tree_rows ⟨_, D8⟩
  have d__law_size := k__law_size (P := P) (w := w) (base := base) G d__law_take ⟨_, D9⟩
  have d__law_tuple := k__law_tuple (P := P) (w := w) (base := base) G  ⟨_, D10⟩
  have d__law_with := k__law_with (P := P) (w := w) (base := base) G d__law_tuple ⟨_, D11⟩
  have d__law_spoilt := k__law_spoilt (P := P) (w := w) (base := base) G d__law_mixed d__law_tuple d__law_with ⟨_, D12⟩
  have d__law_fits := k__law_fits (P := P) (w := w) (base := base) G  ⟨_, D13⟩
  have d__law_due := k__law_due (P := P) (w := w) (base := base) G d__law_fits ⟨_, D14⟩
  have d_is_integer := k_is_integer (P := P) (w := w) (base := base) G  ⟨_, D15⟩
  have d_is_between := k_is_between (P := P) (w := w) (base := base) G d_is_integer ⟨_, D16⟩
  have d_is_item := k_is_item (P := P) (w := w) (base := base) G d_is_between ⟨_, D17⟩
  have d_is_tuple_of := k_is_tuple_of (P := P) (w := w) (base := base) G  ⟨_, D18⟩
  have d_are_numbers := k_are_numbers (P := P) (w := w) (base := base) G d_is_between d_is_item d_is_tuple_of ⟨_, D19⟩
  have d_shortcut_in := k_shortcut_in (P := P) (w := w) (base := base) G  ⟨_, D20⟩
  have x_InvalidRows := k_InvalidRows___init__ (P := P) (w := w) (base := base) G ⟨_, D21⟩
  have x_Shortcut := k_Shortcut___init__ (P := P) (w := w) (base := base) G ⟨_, D22⟩
  have v_Space_0_rows := v_Space_0_rows_k (P := P) (w := w) (base := base) G d_are_numbers d_shortcut_in x_InvalidRows x_Shortcut ⟨_, D23⟩
  have v_Space_1_ := v_Space_1__k (P := P) (w := w) (base := base) G d_are_numbers d_shortcut_in x_InvalidRows x_Shortcut ⟨_, D23⟩
  have d__law_made := k__law_made (P := P) (w := w) (base := base) G v_Space_0_rows v_Space_1_ ⟨_, D24⟩
  have d__law_same := k__law_same (P := P) (w := w) (base := base) G  ⟨_, D25⟩
  have d_is_space := k_is_space (P := P) (w := w) (base := base) G d_are_numbers d_shortcut_in ⟨_, D26⟩
  have w_is_space_0_value := w_is_space_0_value_k (P := P) (w := w) (base := base) G d_are_numbers d_shortcut_in ⟨_, D26⟩
  have d__law_value_right := k__law_value_right (P := P) (w := w) (base := base) G d__law_due d__law_made d__law_same d__law_take d_is_space w_is_space_0_value ⟨_, D27⟩
  exact Cq.fn_ok D28 S_law rfl (by rfl) (by decide) (fun cdv A outer sh H E hr => t_law G q_Space d__law_box d__law_cell d__law_drawn d__law_pairs_in d__law_size d__law_spoilt d__law_take d__law_tuple d__law_value_right v_Space_1_ hr)
end CqL
open PySem PySem.W PySem.Calls PyProof.Rows
theorem PySem.Challenge.cw_metricbench_k00_spaces_holds : PySem.Challenge.rw_metricbench_k00_spaces.Holds := by
  w_on; o_law
  refine HandSHeadRun.head_any (r := OpenLaw.row PySem.Challenge.rw_metricbench_k00_spaces) (q := view (OpenLaw.row PySem.Challenge.rw_metricbench_k00_spaces).prog [34]) (H := CqL.hk) (ob := CqL.ob) (M := 4000) (loose := CqL.loose) (d := HandSHeadRun.topDef (OpenLaw.row PySem.Challenge.rw_metricbench_k00_spaces).prog 34) (kwd := []) CqL.ob_eq
    (by kernel_rfl) (fun s => by kernel_rfl) CqL.run (by kernel_rfl) (by kernel_rfl) (by kernel_rfl) (by rfl) (by first | assumption | decide +kernel) (by decide +kernel) ⟨rfl, rfl, rfl, rfl, rfl, by decide +kernel⟩ ?hw ?hc
  case hw => w_witness2
  case hc =>
    refine Cq.walk_cq (l := PySem.Challenge.rw_metricbench_k00_spaces) (n := 63) (k := 15) (x := "script") rfl (by decide) (by kernel_rfl) ⟨rfl, by decide, by decide⟩ ?F
    intro w mg fad h Y Gm hmg0
    obtain ⟨K, KX, c⟩ := Y
    have hmg : mg ("law" : PySem.Str) = some (.ref fad) := by
      have e : (HandSHeadRun.topDef (OpenLaw.row PySem.Challenge.rw_metricbench_k00_spaces).prog 34).name = ("law" : PySem.Str) := by kernel_rfl
      rw [← e]
      exact hmg0
    obtain ⟨fd, hb, hF⟩ := CqL.facts (P := (PySem.Challenge.rw_metricbench_k00_spaces).prog) (w := w) KX Gm hmg (Cq.saysD c) c.more
    exact ⟨K, fd, _, KX, hb, fun H a ns hl hS => by
      obtain ⟨rs, e⟩ := CqL.law_true ns hl
      exact Cq.spF_top hS e fun _ => rfl, hF⟩
