import PyProof.Rows.All
import HandS.ForMost
import HandS.ForExc
import HandS.CallSlots
import HandS.TryMany
import HandS.IsInst
import HandS.TupAny
import HandS.TupMul
import HandS.Deep
import HandS.Zip
import HandS.Conv
import HandS.SortInts
import HandS.SortRule
import HandS.TupSets
import HandS.Wide
import HandS.Flow
import KE.GoesEnum
import HandS.WordsExc
import HandS.Small
import HandS.Comp
import KE.SortData
import KE.DataMinMax
import KE.DatumOrd
import HandS.SetFor
import HandS.Strs
import HandS.ExcIs
import HandS.ExcBuiltin
import PySem.Challenge.RW_roadalgebras_k01_whole_rounds
set_option Elab.async false
set_option linter.all false
set_option maxRecDepth 100000
/-! DA: data D, its relation to values, the state of a frame, computations over it, and how they are told as readings of the hand layer. -/
namespace DL
open PySem PySem.Spec PyProof.Rows L2

/-- data, without the heap -/
inductive D where
  | non | bl (b : Bool) | int (i : Int) | str (x : Str) | tup (xs : List D) | lst (xs : List D) | fn (a : Addr) | scr (xs : List D) | dct (ks vs : List D)

/-- a slot: without a value, a value that is not changed any more, a list of the frame's own (io: a parameter's, that the caller gets back) -/
inductive Sl where
  | no | sh (d : D) | ow (io : Bool) (d : D)
abbrev Sg := List Sl
/-- what an expression gives: a value, the value of a slot, a new list that nobody else has -/
inductive Rv where
  | v (d : D) | ln (i : Nat) | fr (d : D)
inductive Res (α : Type) where
  | ok (a : α) (σ : Sg) | exc (c : Str) (ps : List D) | bad
abbrev M (α : Type) := Sg → Res α
@[inline] def M.pure {α : Type} (a : α) : M α := fun σ => .ok a σ
@[inline] def M.bind {α β : Type} (m : M α) (f : α → M β) : M β := fun σ => match m σ with
  | .ok a σ' => f a σ'
  | .exc c ps => .exc c ps
  | .bad => .bad
def M.bad {α : Type} : M α := fun _ => .bad
instance : Monad M where
  pure := M.pure
  bind := M.bind
theorem bind_eq {α β : Type} (m : M α) (f : α → M β) (σ : Sg) : (m >>= f) σ = match m σ with
  | .ok a σ' => f a σ'
  | .exc c ps => .exc c ps
  | .bad => .bad := rfl
theorem pure_eq {α : Type} (a : α) (σ : Sg) : (pure a : M α) σ = .ok a σ := rfl
theorem M.assoc {α β γ : Type} (m : M α) (f : α → M β) (g : β → M γ) : (m >>= f) >>= g = m >>= fun x => f x >>= g := by
  funext σ
  show (match (match m σ with | .ok a σ' => f a σ' | .exc c ps => .exc c ps | .bad => .bad) with | .ok a σ' => g a σ' | .exc c ps => .exc c ps | .bad => .bad) = (match m σ with | .ok a σ' => (match f a σ' with | .ok a σ' => g a σ' | .exc c ps => .exc c ps | .bad => .bad) | .exc c ps => .exc c ps | .bad => .bad)
  cases m σ <;> rfl
theorem M.pureb {α β : Type} (a : α) (f : α → M β) : (pure a : M α) >>= f = f a := rfl
theorem M.bpure {α : Type} (m : M α) : (m >>= fun x => pure x) = m := by
  funext σ
  show (match m σ with | .ok a σ' => Res.ok a σ' | .exc c ps => .exc c ps | .bad => .bad) = m σ
  cases m σ <;> rfl
theorem bad_eq {α : Type} (σ : Sg) : (M.bad : M α) σ = .bad := rfl

/-! ### data and values -/
mutual
inductive R (K : PySem.W.Frag) (H : Hp) : D → V → Prop
  | non : R K H .non .non
  | bl (b : Bool) : R K H (.bl b) (.bl b)
  | int (i : Int) : R K H (.int i) (.int i)
  | str (x : Str) : R K H (.str x) (.str x)
  | tup {a : Addr} {xs : List D} {vs : List V} : SqT K H a vs → Rs K H xs vs → R K H (.tup xs) (.ref a)
  | lst {a : Addr} {xs : List D} {vs : List V} : H a = some (.lst vs) → Rs K H xs vs → R K H (.lst xs) (.ref a)
  | scr {a : Addr} {xs : List D} {vs : List V} : SqL K H a vs → Rs K H xs vs → R K H (.scr xs) (.ref a)
  | fn (a : Addr) : R K H (.fn a) (.ref a)
inductive Rs (K : PySem.W.Frag) (H : Hp) : List D → List V → Prop
  | nil : Rs K H [] []
  | cons {d : D} {v : V} {ds : List D} {vs : List V} : R K H d v → Rs K H ds vs → Rs K H (d :: ds) (v :: vs)
end
theorem SqT.sm {K : PySem.W.Frag} {H H' : Hp} {a : Addr} {xs : List V} (e : Same H H') (h : SqT K H a xs) : SqT K H' a xs := by
  rcases h with (h | ⟨o, h⟩) | h
  · exact .inl (.inl (e _ _ h))
  · exact .inl (.inr ⟨o, e _ _ h⟩)
  · exact .inr h
section
variable {K : PySem.W.Frag} {H H' : Hp}
mutual
theorem R.mono (s : Same H H') : ∀ {d : D} {v : V}, R K H d v → R K H' d v
  | _, _, .non => .non
  | _, _, .bl b => .bl b
  | _, _, .int i => .int i
  | _, _, .str x => .str x
  | _, _, .tup h r => .tup (SqT.sm s h) (Rs.mono s r)
  | _, _, .lst h r => .lst (s _ _ h) (Rs.mono s r)
  | _, _, .scr h r => .scr (s.seq h) (Rs.mono s r)
  | _, _, .fn a => .fn a
theorem Rs.mono (s : Same H H') : ∀ {ds : List D} {vs : List V}, Rs K H ds vs → Rs K H' ds vs
  | _, _, .nil => .nil
  | _, _, .cons h t => .cons (R.mono s h) (Rs.mono s t)
end
theorem Rs.length : ∀ {ds : List D} {vs : List V}, Rs K H ds vs → ds.length = vs.length
  | _, _, .nil => rfl
  | _, _, .cons _ t => congrArg (· + 1) t.length
theorem Rs.get : ∀ {ds : List D} {vs : List V} {i : Nat} {d : D}, Rs K H ds vs → ds[i]? = some d → ∃ v, vs[i]? = some v ∧ R K H d v
  | _, _, _, _, .nil, e => by simp at e
  | _, _, 0, _, .cons h _, e => by simp at e; subst e; exact ⟨_, rfl, h⟩
  | _, _, i + 1, d, .cons _ t, e => by
    obtain ⟨v, h1, h2⟩ := Rs.get (i := i) (d := d) t (by simpa using e)
    exact ⟨v, by simpa using h1, h2⟩
theorem Rs.append : ∀ {ds es : List D} {vs ws : List V}, Rs K H ds vs → Rs K H es ws → Rs K H (ds ++ es) (vs ++ ws)
  | _, _, _, _, .nil, s => s
  | _, _, _, _, .cons h t, s => .cons h (Rs.append t s)
theorem Rs.take : ∀ {ds : List D} {vs : List V} (n : Nat), Rs K H ds vs → Rs K H (ds.take n) (vs.take n)
  | _, _, 0, _ => .nil
  | _, _, _ + 1, .nil => .nil
  | _, _, n + 1, .cons h t => .cons h (Rs.take n t)
theorem Rs.drop : ∀ {ds : List D} {vs : List V} (n : Nat), Rs K H ds vs → Rs K H (ds.drop n) (vs.drop n)
  | _, _, 0, r => r
  | _, _, _ + 1, .nil => .nil
  | _, _, n + 1, .cons _ t => Rs.drop n t
theorem Rs.set {d : D} {v : V} (r : R K H d v) : ∀ {ds : List D} {vs : List V} (i : Nat), Rs K H ds vs → Rs K H (ds.set i d) (vs.set i v)
  | _, _, _, .nil => .nil
  | _, _, 0, .cons _ t => .cons r t
  | _, _, i + 1, .cons q t => .cons q (Rs.set r i t)
theorem Rs.dropLast : ∀ {ds : List D} {vs : List V}, Rs K H ds vs → Rs K H ds.dropLast vs.dropLast := fun {ds vs} r => by
  rw [List.dropLast_eq_take, List.dropLast_eq_take, r.length]
  exact r.take _
theorem Rs.of_get : ∀ {ds : List D} {vs : List V}, ds.length = vs.length → (∀ (i : Nat) (d : D) (v : V), ds[i]? = some d → vs[i]? = some v → R K H d v) → Rs K H ds vs
  | [], [], _, _ => .nil
  | d :: ds, v :: vs, hl, h => .cons (h 0 d v rfl rfl) (Rs.of_get (by simpa using hl) fun i e w h1 h2 => h (i + 1) e w (by simpa using h1) (by simpa using h2))
  | [], _ :: _, hl, _ => by simp at hl
  | _ :: _, [], hl, _ => by simp at hl
end

/-! ### what is hidden -/
open Classical in
noncomputable def hid (A : Addr → Prop) (H : Hp) : Hp := fun b => if A b then none else H b
theorem hid_some {A : Addr → Prop} {H : Hp} {b : Addr} {o : HO} : hid A H b = some o ↔ ¬ A b ∧ H b = some o := by
  unfold hid
  by_cases h : A b
  · simp [h]
  · simp [h]
theorem hid_sub {A : Addr → Prop} {H : Hp} : Same (hid A H) H := fun b o h => (hid_some.mp h).2
theorem hid_mono {A A' : Addr → Prop} {H H' : Hp} (s : ∀ b o, H b = some o → ¬ A b → H' b = some o ∧ ¬ A' b) : Same (hid A H) (hid A' H') := fun b o h => by
  obtain ⟨h1, h2⟩ := hid_some.mp h
  obtain ⟨q1, q2⟩ := s b o h2 h1
  exact hid_some.mpr ⟨q2, q1⟩

/-! ### the state of a frame -/
def Owns (σV : L2.St) (σ : Sg) (a : Addr) : Prop := ∃ (i : Nat) (b : Bool) (d : D), σ[i]? = some (Sl.ow b d) ∧ σV[i]? = some (some (V.ref a))
def Hd (A : Addr → Prop) (σV : L2.St) (σ : Sg) : Addr → Prop := fun a => A a ∨ Owns σV σ a
/-- an own list at a; h: what its items may use -/
def OwR (K : PySem.W.Frag) (h H : Hp) (d : D) (a : Addr) : Prop := match d with
  | .lst xs => ∃ vs, H a = some (.lst vs) ∧ Rs K h xs vs
  | _ => False
/-- what is reserved by others; where own parameters' lists are -/
structure Cn where
  A : Addr → Prop
  pin : Nat → Option Addr
abbrev Cn.and (C : Cn) (a : Addr) : Cn := ⟨fun b => C.A b ∨ b = a, C.pin⟩
structure SR (K : PySem.W.Frag) (C : Cn) (H : Hp) (σV : L2.St) (σ : Sg) : Prop where
  len : σ.length = σV.length
  al : ∀ a, C.A a → H a ≠ none
  nA : ∀ a, C.A a → ¬ Owns σV σ a
  sh : ∀ (i : Nat) (d : D), σ[i]? = some (Sl.sh d) → ∃ v, σV[i]? = some (some v) ∧ R K (hid (Hd C.A σV σ) H) d v
  ow : ∀ (i : Nat) (b : Bool) (d : D), σ[i]? = some (Sl.ow b d) → ∃ a, σV[i]? = some (some (.ref a)) ∧ OwR K (hid (Hd C.A σV σ) H) H d a ∧ (b = true → C.pin i = some a)
  inj : ∀ (i j : Nat) (b c : Bool) (d e : D) (a : Addr), σ[i]? = some (Sl.ow b d) → σ[j]? = some (Sl.ow c e) → σV[i]? = some (some (V.ref a)) → σV[j]? = some (some (V.ref a)) → i = j
def Keep (O : Addr → Prop) (H : Hp) (O' : Addr → Prop) (H' : Hp) : Prop := ∀ b o, H b = some o → ¬ O b → H' b = some o ∧ ¬ O' b
theorem Keep.refl (O : Addr → Prop) (H : Hp) : Keep O H O H := fun _ _ h n => ⟨h, n⟩
theorem Keep.trans {O O1 O2 : Addr → Prop} {H H1 H2 : Hp} (a : Keep O H O1 H1) (b : Keep O1 H1 O2 H2) : Keep O H O2 H2 := fun c o h n =>
  let ⟨h1, n1⟩ := a c o h n
  b c o h1 n1
section
variable {K : PySem.W.Frag} {A : Addr → Prop} {C C' : Cn} {H H' : Hp} {σV : L2.St} {σ σ' : Sg}
theorem Keep.hid (k : Keep (Owns σV σ) H (Owns σV σ') H') : Same (hid (Hd A σV σ) H) (hid (Hd A σV σ') H') := hid_mono fun b o h n => by
  obtain ⟨h1, n1⟩ := k b o h fun q => n (.inr q)
  exact ⟨h1, fun q => q.elim (fun q => n (.inl q)) n1⟩
theorem OwR.mono {h h' : Hp} (s : Same h h') {d : D} {a : Addr} (e : H a = H' a) (r : OwR K h H d a) : OwR K h' H' d a := by
  cases d <;> first | exact r.elim | skip
  obtain ⟨vs, h1, h2⟩ := r
  exact ⟨vs, by rw [← e]; exact h1, h2.mono s⟩
theorem OwR.there {h : Hp} {d : D} {a : Addr} (r : OwR K h H d a) : H a ≠ none := by
  cases d <;> first | exact r.elim | skip
  obtain ⟨vs, h1, _⟩ := r
  rw [h1]
  exact fun z => nomatch z
theorem SR.owned (s : SR K C H σV σ) {a : Addr} (o : Owns σV σ a) : H a ≠ none := by
  obtain ⟨i, b, d, e1, e2⟩ := o
  obtain ⟨a', e3, r, _⟩ := s.ow i b d e1
  rw [e2] at e3
  cases e3
  exact r.there
/-- fewer reserved -/
theorem SR.less (s : SR K C' H σV σ) (h : ∀ b, C.A b → C'.A b) (hp : C.pin = C'.pin) : SR K C H σV σ := by
  have q : Same (hid (Hd C'.A σV σ) H) (hid (Hd C.A σV σ) H) := hid_mono fun b o h1 n => ⟨h1, fun z => n (z.elim (fun z => .inl (h b z)) .inr)⟩
  refine ⟨s.len, fun a z => s.al a (h a z), fun a z => s.nA a (h a z), fun i d e => ?_, fun i b d e => ?_, s.inj⟩
  · obtain ⟨v, h1, h2⟩ := s.sh i d e
    exact ⟨v, h1, h2.mono q⟩
  · obtain ⟨a, h1, h2, h3⟩ := s.ow i b d e
    exact ⟨a, h1, h2.mono q rfl, fun z => by rw [hp]; exact h3 z⟩
theorem SR.un {a : Addr} (s : SR K (C.and a) H σV σ) : SR K C H σV σ := s.less (fun _ z => .inl z) rfl
/-- the heap grows -/
theorem SR.heap (s : SR K C H σV σ) (k : Same H H') : SR K C H' σV σ := by
  have q : Same (hid (Hd C.A σV σ) H) (hid (Hd C.A σV σ) H') := hid_mono fun b o h1 n => ⟨k b o h1, n⟩
  refine ⟨s.len, fun a z e => ?_, s.nA, fun i d e => ?_, fun i b d e => ?_, s.inj⟩
  · cases h : H a with
    | none => exact s.al a z h
    | some o => rw [k a o h] at e; cases e
  · obtain ⟨v, h1, h2⟩ := s.sh i d e
    exact ⟨v, h1, h2.mono q⟩
  · obtain ⟨a, h1, h2, h3⟩ := s.ow i b d e
    refine ⟨a, h1, h2.mono q ?_, h3⟩
    cases h : H a with
    | none => exact absurd h h2.there
    | some o => rw [k a o h]
/-- one more reserved, that nothing here knows -/
theorem SR.more {a : Addr} (s : SR K C H σV σ) (hn : H a = none) (k : Same H H') (ha : H' a ≠ none) : SR K (C.and a) H' σV σ := by
  have no : ¬ Owns σV σ a := fun o => s.owned o hn
  have q : Same (hid (Hd C.A σV σ) H) (hid (Hd (C.and a).A σV σ) H') := hid_mono fun b o h1 n => ⟨k b o h1, fun z => by
    rcases z with (z | z) | z
    · exact n (.inl z)
    · rw [z, hn] at h1; cases h1
    · exact n (.inr z)⟩
  have s' := s.heap k
  refine ⟨s.len, fun b z => ?_, fun b z => ?_, fun i d e => ?_, fun i b d e => ?_, s.inj⟩
  · rcases z with z | z
    · exact s'.al b z
    · rw [z]; exact ha
  · rcases z with z | z
    · exact s.nA b z
    · rw [z]; exact no
  · obtain ⟨v, h1, h2⟩ := s.sh i d e
    exact ⟨v, h1, h2.mono q⟩
  · obtain ⟨a', h1, h2, h3⟩ := s.ow i b d e
    refine ⟨a', h1, h2.mono q ?_, h3⟩
    cases h : H a' with
    | none => exact absurd h h2.there
    | some o => rw [k a' o h]
end

/-! ### what an expression's value is -/
/-- a value that is held (its freshness forgotten) -/
def RvR (K : PySem.W.Frag) (C : Cn) (H : Hp) (σV : L2.St) (σ : Sg) : Rv → V → Prop
  | .v d, v => R K (hid (Hd C.A σV σ) H) d v
  | .fr d, v => R K (hid (Hd C.A σV σ) H) d v
  | .ln i, v => σV[i]? = some (some v)
/-- .. just told -/
def PostR (K : PySem.W.Frag) (C : Cn) (H : Hp) (σV : L2.St) (σ : Sg) : Rv → V → Prop
  | .v d, v => SR K C H σV σ ∧ R K (hid (Hd C.A σV σ) H) d v
  | .ln i, v => SR K C H σV σ ∧ σV[i]? = some (some v)
  | .fr d, v => ∃ a, v = .ref a ∧ ¬ C.A a ∧ SR K (C.and a) H σV σ ∧ OwR K (hid (Hd (C.and a).A σV σ) H) H d a
/-- the value of a slot, as it stands -/
def rdv (σ : Sg) : Rv → Option D
  | .v d => some d
  | .fr d => some d
  | .ln i => match σ[i]? with
    | some (.sh d) => some d
    | some (.ow _ d) => some d
    | _ => none
/-- what can be read: wholly, or an own list with its items -/
def RT (K : PySem.W.Frag) (h H : Hp) (d : D) (v : V) : Prop := R K h d v ∨ ∃ a, v = .ref a ∧ OwR K h H d a
section
variable {K : PySem.W.Frag} {C : Cn} {H H' : Hp} {σV : L2.St} {σ σ' : Sg}
theorem OwR.toR {h : Hp} {d : D} {a : Addr} {B : Addr → Prop} (r : OwR K h H d a) (s : Same h (hid B H)) (nb : ¬ B a) : R K (hid B H) d (.ref a) := by
  cases d <;> first | exact r.elim | skip
  obtain ⟨vs, h1, h2⟩ := r
  exact .lst (hid_some.mpr ⟨nb, h1⟩) (h2.mono s)
theorem PostR.weak {r : Rv} {v : V} (p : PostR K C H σV σ r v) : SR K C H σV σ ∧ RvR K C H σV σ r v := by
  cases r with
  | v d => exact p
  | ln i => exact p
  | fr d =>
    obtain ⟨a, e, na, s, o⟩ := p
    subst e
    exact ⟨s.un, o.toR (hid_mono fun b o h n => ⟨h, fun z => n (z.elim (fun z => .inl (.inl z)) .inr)⟩) fun z => z.elim na (s.nA a (.inr rfl))⟩
theorem RvR.keep {r : Rv} {v : V} (p : RvR K C H σV σ r v) (k : Keep (Owns σV σ) H (Owns σV σ') H') : RvR K C H' σV σ' r v := by
  cases r with
  | v d => exact R.mono k.hid p
  | fr d => exact R.mono k.hid p
  | ln i => exact p
theorem RvR.read {r : Rv} {v : V} {d : D} (p : RvR K C H σV σ r v) (s : SR K C H σV σ) (e : rdv σ r = some d) : RT K (hid (Hd C.A σV σ) H) H d v := by
  cases r with
  | v d' => cases e; exact .inl p
  | fr d' => cases e; exact .inl p
  | ln i =>
    unfold rdv at e
    cases q : σ[i]? with
    | none => simp [q] at e
    | some t =>
      cases t with
      | no => simp [q] at e
      | sh d' =>
        simp [q] at e; subst e
        obtain ⟨v', h1, h2⟩ := s.sh i _ q
        have p' : σV[i]? = some (some v) := p
        rw [h1] at p'; cases p'
        exact .inl h2
      | ow b d' =>
        simp [q] at e; subst e
        obtain ⟨a, h1, h2, _⟩ := s.ow i b _ q
        have p' : σV[i]? = some (some v) := p
        rw [h1] at p'; cases p'
        exact .inr ⟨a, rfl, h2⟩
theorem RT.int {h : Hp} {i : Int} {v : V} (r : RT K h H (.int i) v) : v = .int i := by
  rcases r with r | ⟨a, _, r⟩
  · cases r; rfl
  · exact r.elim
theorem RT.bl {h : Hp} {b : Bool} {v : V} (r : RT K h H (.bl b) v) : v = .bl b := by
  rcases r with r | ⟨a, _, r⟩
  · cases r; rfl
  · exact r.elim
theorem RT.str {h : Hp} {x : Str} {v : V} (r : RT K h H (.str x) v) : v = .str x := by
  rcases r with r | ⟨a, _, r⟩
  · cases r; rfl
  · exact r.elim
theorem RT.non {h : Hp} {v : V} (r : RT K h H .non v) : v = .non := by
  rcases r with r | ⟨a, _, r⟩
  · cases r; rfl
  · exact r.elim
theorem RT.lst {h : Hp} {xs : List D} {v : V} (r : RT K h H (.lst xs) v) (s : Same h H) : ∃ a vs, v = .ref a ∧ H a = some (.lst vs) ∧ Rs K h xs vs := by
  rcases r with r | ⟨a, e, vs, h1, h2⟩
  · cases r with
    | lst h1 h2 => exact ⟨_, _, rfl, s _ _ h1, h2⟩
  · exact ⟨a, vs, e, h1, h2⟩
theorem RT.scr {h : Hp} {xs : List D} {v : V} (r : RT K h H (.scr xs) v) (s : Same h H) : ∃ a vs, v = .ref a ∧ SqL K H a vs ∧ Rs K h xs vs := by
  rcases r with r | ⟨a, e, r⟩
  · cases r with
    | scr h1 h2 => exact ⟨_, _, rfl, s.seq h1, h2⟩
  · exact r.elim
theorem RT.tup {h : Hp} {xs : List D} {v : V} (r : RT K h H (.tup xs) v) (s : Same h H) : ∃ a vs, v = .ref a ∧ SqT K H a vs ∧ Rs K h xs vs := by
  rcases r with r | ⟨a, e, r⟩
  · cases r with
    | tup h1 h2 => exact ⟨_, _, rfl, SqT.sm s h1, h2⟩
  · exact r.elim
theorem same_upd {p : Addr} {o : HO} (h : H p = none) : Same H (upd H p o) := fun b x e => by
  rw [upd_ne (ne_of_none e h)]
  exact e
end
end DL

set_option Elab.async false
set_option linter.all false
set_option maxRecDepth 100000
/-! DB: computations told as readings; expressions. -/
namespace DL
open PySem PySem.Spec PyProof.Rows L2

/-- an exception as it lies there -/
def ExcR (mg : PySem.Str → Option Value) (c : PySem.Str) (ps : List D) (cl : Value) (d : Option Addr) : Prop := ∃ a, mg c = some (.ref a) ∧ cl = .ref a ∧ ps = [] ∧ d = none
def XP (mg : PySem.Str → Option Value) (W : WX) (σV : L2.St) (H : Hp) (σ : Sg) (c : PySem.Str) (ps : List D) : Prop :=
  ∀ H' cl d, (∀ b o, H b = some o → ¬ Owns σV σ b → H' b = some o) → ExcR mg c ps cl d → W cl d σV H'
/-- how a result lies there; what it owns -/
structure RelS (α β : Type) where
  rel : Cn → Hp → Sg → α → β → Prop
  ex : α → β → Addr → Prop
section
variable {α β : Type}
def FinG (Rel : RelS α β) (mg : PySem.Str → Option Value) (W : WX) (C : Cn) (σV : L2.St) (H : Hp) (σ : Sg) (m : M α) (Q : β → Hp → Prop) : Prop :=
  match m σ with
  | .ok a σ' => ∀ b H', Rel.rel C H' σ' a b → Keep (Owns σV σ) H (fun c => Owns σV σ' c ∨ Rel.ex a b c) H' → Q b H'
  | .exc c ps => XP mg W σV H σ c ps
  | .bad => False
theorem FinG.imp {Rel : RelS α β} {mg : PySem.Str → Option Value} {W : WX} {C : Cn} {σV : L2.St} {H : Hp} {σ : Sg} {m : M α} {Q Q' : β → Hp → Prop} (h : FinG Rel mg W C σV H σ m Q) (q : ∀ b H, Q b H → Q' b H) : FinG Rel mg W C σV H σ m Q' := by
  unfold FinG at h ⊢
  split
  · rename_i e; rw [e] at h; exact fun b H' r k => q b H' (h b H' r k)
  · rename_i e; rw [e] at h; exact h
  · rename_i e; rw [e] at h; exact h
end
def exE : Rv → V → Addr → Prop
  | .fr _, v, c => v = .ref c
  | _, _, _ => False
abbrev RelE (K : PySem.W.Frag) (σV : L2.St) : RelS Rv V := ⟨fun C H σ r v => PostR K C H σV σ r v, exE⟩
abbrev RelB (K : PySem.W.Frag) (σV : L2.St) : RelS Bool Bool := ⟨fun C H σ r v => r = v ∧ SR K C H σV σ, fun _ _ _ => False⟩
/-- argument values -/
inductive RvRs (K : PySem.W.Frag) (C : Cn) (H : Hp) (σV : L2.St) (σ : Sg) : List Rv → List V → Prop
  | nil : RvRs K C H σV σ [] []
  | cons {r : Rv} {v : V} {rs : List Rv} {vs : List V} : RvR K C H σV σ r v → RvRs K C H σV σ rs vs → RvRs K C H σV σ (r :: rs) (v :: vs)
theorem RvRs.keep {K : PySem.W.Frag} {C : Cn} {H H' : Hp} {σV : L2.St} {σ σ' : Sg} : ∀ {rs : List Rv} {vs : List V}, RvRs K C H σV σ rs vs → Keep (Owns σV σ) H (Owns σV σ') H' → RvRs K C H' σV σ' rs vs
  | _, _, .nil, _ => .nil
  | _, _, .cons h t, k => .cons (h.keep k) (t.keep k)
abbrev RelA (K : PySem.W.Frag) (σV : L2.St) : RelS (List Rv) (List V) := ⟨fun C H σ r v => SR K C H σV σ ∧ RvRs K C H σV σ r v, fun _ _ _ => False⟩

def tE (K : PySem.W.Frag) (mg : PySem.Str → Option Value) (W : WX) (m : M Rv) : TE := fun σV H Q => ∃ C σ, SR K C H σV σ ∧ FinG (RelE K σV) mg W C σV H σ m Q
def tT (K : PySem.W.Frag) (mg : PySem.Str → Option Value) (W : WX) (m : M Bool) : TT := fun σV H Q => ∃ C σ, SR K C H σV σ ∧ FinG (RelB K σV) mg W C σV H σ m Q
def tA (K : PySem.W.Frag) (mg : PySem.Str → Option Value) (W : WX) (m : M (List Rv)) : TA := fun σV H Q => ∃ C σ, SR K C H σV σ ∧ FinG (RelA K σV) mg W C σV H σ m Q
structure EV (X : Cx) (W : WX) (e : Expr) (m : M Rv) : Prop where
  pe : PE X e (tE X.K X.mg W m)
structure TV (X : Cx) (W : WX) (e : Expr) (m : M Bool) : Prop where
  pt : PT X e (tT X.K X.mg W m)
structure AV (X : Cx) (W : WX) (es : List Expr) (m : M (List Rv)) : Prop where
  pa : PA X es (tA X.K X.mg W m)

theorem PE.imp {X : Cx} {e : Expr} {t t' : TE} (h : PE X e t) (i : ∀ σ H Q, t' σ H Q → t σ H Q) : PE X e t' := ⟨fun pins s σ H Q I q => h.run pins s σ H Q I (i σ H Q q)⟩
theorem PT.imp {X : Cx} {e : Expr} {t t' : TT} (h : PT X e t) (i : ∀ σ H Q, t' σ H Q → t σ H Q) : PT X e t' := ⟨fun pins s σ H Q I q => h.run pins s σ H Q I (i σ H Q q)⟩
theorem PA.imp {X : Cx} {e : List Expr} {t t' : TA} (h : PA X e t) (i : ∀ σ H Q, t' σ H Q → t σ H Q) : PA X e t' := ⟨fun pos pins s σ H Q I q => h.run pos pins s σ H Q I (i σ H Q q)⟩

section
variable {K : PySem.W.Frag} {mg : PySem.Str → Option Value} {W : WX} {C : Cn} {σV : L2.St} {H : Hp} {σ : Sg} {α β : Type}
theorem Keep.inl {O P O1 : Addr → Prop} {H H1 : Hp} (k : Keep O H (fun c => O1 c ∨ P c) H1) : Keep O H O1 H1 := fun b o h n => let ⟨h1, n1⟩ := k b o h n; ⟨h1, fun z => n1 (.inl z)⟩
theorem Keep.inr {O O1 : Addr → Prop} {H H1 : Hp} (k : Keep O H O1 H1) : Keep O H (fun c => O1 c ∨ False) H1 := fun b o h n => let ⟨h1, n1⟩ := k b o h n; ⟨h1, fun z => z.elim n1 id⟩
theorem XP.step {H1 : Hp} {σ1 : Sg} {c : PySem.Str} {ps : List D} (x : XP mg W σV H σ c ps) (k : Keep (Owns σV σ) H (Owns σV σ1) H1) : XP mg W σV H1 σ1 c ps := fun H' cl d f e =>
  x H' cl d (fun b o h n => let ⟨h1, n1⟩ := k b o h n; f b o h1 n1) e
theorem FinG.step {Rel : RelS α β} {H1 : Hp} {σ1 : Sg} {m : M α} {f : Sg → Res α} {Q : β → Hp → Prop} (hm : m σ1 = f σ1) (k : Keep (Owns σV σ) H (Owns σV σ1) H1)
    (h : match f σ1 with
      | .ok a σ' => ∀ b H', Rel.rel C H' σ' a b → Keep (Owns σV σ) H (fun c => Owns σV σ' c ∨ Rel.ex a b c) H' → Q b H'
      | .exc c ps => XP mg W σV H σ c ps
      | .bad => False) : FinG Rel mg W C σV H1 σ1 m Q := by
  unfold FinG
  rw [hm]
  cases e : f σ1 with
  | ok a σ' => rw [e] at h; exact fun b H' r k' => h b H' r (k.trans k')
  | exc c ps => rw [e] at h; exact h.step k
  | bad => rw [e] at h; exact h
/-- an expression, then the rest -/
theorem fin_e {Rel : RelS α β} {ma : M Rv} {f : Rv → M α} {Q : β → Hp → Prop} (h : FinG Rel mg W C σV H σ (ma >>= f) Q) :
    FinG (RelE K σV) mg W C σV H σ ma fun v H1 => ∃ σ1 r, SR K C H1 σV σ1 ∧ RvR K C H1 σV σ1 r v ∧ Keep (Owns σV σ) H (Owns σV σ1) H1 ∧ FinG Rel mg W C σV H1 σ1 (f r) Q := by
  unfold FinG at h ⊢
  rw [bind_eq] at h
  cases e : ma σ with
  | ok r σ1 =>
    rw [e] at h
    intro v H1 p k
    obtain ⟨s1, r1⟩ := p.weak
    exact ⟨σ1, r, s1, r1, k.inl, FinG.step (f := f r) rfl k.inl h⟩
  | exc c ps => rw [e] at h; exact h
  | bad => rw [e] at h; exact h
theorem fin_b {Rel : RelS α β} {ma : M Bool} {f : Bool → M α} {Q : β → Hp → Prop} (h : FinG Rel mg W C σV H σ (ma >>= f) Q) :
    FinG (RelB K σV) mg W C σV H σ ma fun v H1 => ∃ σ1, SR K C H1 σV σ1 ∧ Keep (Owns σV σ) H (Owns σV σ1) H1 ∧ FinG Rel mg W C σV H1 σ1 (f v) Q := by
  unfold FinG at h ⊢
  rw [bind_eq] at h
  cases e : ma σ with
  | ok r σ1 =>
    rw [e] at h
    intro v H1 p k
    obtain ⟨rfl, s1⟩ := p
    exact ⟨σ1, s1, k.inl, FinG.step (f := f r) rfl k.inl h⟩
  | exc c ps => rw [e] at h; exact h
  | bad => rw [e] at h; exact h
theorem fin_a {Rel : RelS α β} {ma : M (List Rv)} {f : List Rv → M α} {Q : β → Hp → Prop} (h : FinG Rel mg W C σV H σ (ma >>= f) Q) :
    FinG (RelA K σV) mg W C σV H σ ma fun v H1 => ∃ σ1 r, SR K C H1 σV σ1 ∧ RvRs K C H1 σV σ1 r v ∧ Keep (Owns σV σ) H (Owns σV σ1) H1 ∧ FinG Rel mg W C σV H1 σ1 (f r) Q := by
  unfold FinG at h ⊢
  rw [bind_eq] at h
  cases e : ma σ with
  | ok r σ1 =>
    rw [e] at h
    intro v H1 p k
    exact ⟨σ1, r, p.1, p.2, k.inl, FinG.step (f := f r) rfl k.inl h⟩
  | exc c ps => rw [e] at h; exact h
  | bad => rw [e] at h; exact h
/-- the same computation told otherwise -/
theorem FinG.eq {Rel : RelS α β} {m m' : M α} {Q : β → Hp → Prop} (h : FinG Rel mg W C σV H σ m Q) (e : m σ = m' σ) : FinG Rel mg W C σV H σ m' Q := by
  unfold FinG at h ⊢
  rw [← e]
  exact h
/-- the end: a scalar, anything that stands -/
theorem fin_v {d : D} {v : V} {Q : VK} (h : FinG (RelE K σV) mg W C σV H σ (pure (.v d)) Q) (s : SR K C H σV σ) (r : R K (hid (Hd C.A σV σ) H) d v) : Q v H :=
  h v H ⟨s, r⟩ (Keep.refl _ _).inr
theorem keep_grow {H' : Hp} (k : Same H H') : Keep (Owns σV σ) H (Owns σV σ) H' := fun b o h n => ⟨k b o h, n⟩
theorem fin_tup {xs : List D} {vs : List V} {Q : VK} {p : Addr} (h : FinG (RelE K σV) mg W C σV H σ (pure (.v (.tup xs))) Q) (s : SR K C H σV σ) (r : Rs K (hid (Hd C.A σV σ) H) xs vs) (hp : H p = none) : Q (.ref p) (upd H p (.tup vs)) := by
  have k := same_upd (o := .tup vs) hp
  have np : ¬ Hd C.A σV σ p := fun z => z.elim (fun z => s.al p z hp) fun z => s.owned z hp
  refine h _ _ ⟨s.heap k, .tup (a := p) (vs := vs) (.inl (.inl (hid_some.mpr ⟨np, upd_same⟩))) ?_⟩ (keep_grow k).inr
  exact r.mono (hid_mono fun b o h1 n => ⟨k b o h1, n⟩)
theorem fin_fr {xs : List D} {vs : List V} {Q : VK} {p : Addr} (h : FinG (RelE K σV) mg W C σV H σ (pure (.fr (.lst xs))) Q) (s : SR K C H σV σ) (r : Rs K (hid (Hd C.A σV σ) H) xs vs) (hp : H p = none) : Q (.ref p) (upd H p (.lst vs)) := by
  have k := same_upd (o := .lst vs) hp
  have np : ¬ C.A p := fun z => s.al p z hp
  refine h _ _ ⟨p, rfl, np, s.more hp k (by rw [upd_same]; exact fun z => nomatch z), vs, upd_same, ?_⟩ fun b o h1 n => ⟨k b o h1, fun z => z.elim n fun z => by cases (show V.ref p = V.ref b from z); rw [hp] at h1; cases h1⟩
  refine r.mono (hid_mono fun b o h1 n => ⟨k b o h1, fun z => ?_⟩)
  rcases z with (z | z) | z
  · exact n (.inl z)
  · rw [z, hp] at h1; cases h1
  · exact n (.inr z)
end
/-- a value told from values that can be read -/
def op1 (f : D → Option Rv) (a : Rv) : M Rv := fun σ => match rdv σ a with
  | some x => match f x with
    | some r => .ok r σ
    | none => .bad
  | none => .bad
def op2 (f : D → D → Option Rv) (a b : Rv) : M Rv := fun σ => match rdv σ a, rdv σ b with
  | some x, some y => match f x y with
    | some r => .ok r σ
    | none => .bad
  | _, _ => .bad
def ops (f : List D → Option Rv) (as : List Rv) : M Rv := fun σ => match as.mapM (rdv σ) with
  | some xs => match f xs with
    | some r => .ok r σ
    | none => .bad
  | none => .bad
def tst (f : D → Option Bool) (a : Rv) : M Bool := fun σ => match rdv σ a with
  | some x => match f x with
    | some r => .ok r σ
    | none => .bad
  | none => .bad
section
variable {K : PySem.W.Frag} {mg : PySem.Str → Option Value} {W : WX} {C : Cn} {σV : L2.St} {H : Hp} {σ : Sg} {α β : Type}
theorem fin_op1 {Rel : RelS Rv β} {f : D → Option Rv} {a : Rv} {x : V} {Q : β → Hp → Prop} (h : FinG Rel mg W C σV H σ (op1 f a) Q) (s : SR K C H σV σ) (ra : RvR K C H σV σ a x) :
    ∃ dx r, RT K (hid (Hd C.A σV σ) H) H dx x ∧ f dx = some r ∧ FinG Rel mg W C σV H σ (pure r) Q := by
  unfold FinG op1 at h
  cases e : rdv σ a with
  | none => rw [e] at h; exact h.elim
  | some dx =>
    rw [e] at h
    cases e2 : f dx with
    | none => simp only [e2] at h
    | some r => simp only [e2] at h; exact ⟨dx, r, ra.read s e, e2, h⟩
theorem fin_op2 {Rel : RelS Rv β} {f : D → D → Option Rv} {a b : Rv} {x y : V} {Q : β → Hp → Prop} (h : FinG Rel mg W C σV H σ (op2 f a b) Q) (s : SR K C H σV σ) (ra : RvR K C H σV σ a x) (rb : RvR K C H σV σ b y) :
    ∃ dx dy r, RT K (hid (Hd C.A σV σ) H) H dx x ∧ RT K (hid (Hd C.A σV σ) H) H dy y ∧ f dx dy = some r ∧ FinG Rel mg W C σV H σ (pure r) Q := by
  unfold FinG op2 at h
  cases e : rdv σ a with
  | none => simp only [e] at h
  | some dx =>
    cases e1 : rdv σ b with
    | none => simp only [e, e1] at h
    | some dy =>
      cases e2 : f dx dy with
      | none => simp only [e, e1, e2] at h
      | some r => simp only [e, e1, e2] at h; exact ⟨dx, dy, r, ra.read s e, rb.read s e1, e2, h⟩
theorem fin_tst {f : D → Option Bool} {a : Rv} {x : V} {Rel : RelS Bool β} {Q : β → Hp → Prop} (h : FinG Rel mg W C σV H σ (tst f a) Q) (s : SR K C H σV σ) (ra : RvR K C H σV σ a x) :
    ∃ dx r, RT K (hid (Hd C.A σV σ) H) H dx x ∧ f dx = some r ∧ FinG Rel mg W C σV H σ (pure r) Q := by
  unfold FinG tst at h
  cases e : rdv σ a with
  | none => rw [e] at h; exact h.elim
  | some dx =>
    rw [e] at h
    cases e2 : f dx with
    | none => simp only [e2] at h
    | some r => simp only [e2] at h; exact ⟨dx, r, ra.read s e, e2, h⟩
inductive RTs (K : PySem.W.Frag) (h H : Hp) : List D → List V → Prop
  | nil : RTs K h H [] []
  | cons {d : D} {v : V} {ds : List D} {vs : List V} : RT K h H d v → RTs K h H ds vs → RTs K h H (d :: ds) (v :: vs)
theorem RvRs.read (s : SR K C H σV σ) : ∀ {rs : List Rv} {vs : List V} {ds : List D}, RvRs K C H σV σ rs vs → rs.mapM (rdv σ) = some ds → RTs K (hid (Hd C.A σV σ) H) H ds vs
  | [], [], ds, _, e => by
    simp at e; subst e; exact .nil
  | r :: rs, v :: vs, ds, .cons h t, e => by
    rw [List.mapM_cons] at e
    cases e1 : rdv σ r with
    | none => simp [e1] at e
    | some d =>
      cases e2 : rs.mapM (rdv σ) with
      | none => simp [e1, e2] at e
      | some ds' =>
        simp [e1, e2] at e; subst e
        exact .cons (h.read s e1) (RvRs.read s t e2)
theorem fin_ops {Rel : RelS Rv β} {f : List D → Option Rv} {as : List Rv} {xs : List V} {Q : β → Hp → Prop} (h : FinG Rel mg W C σV H σ (ops f as) Q) (s : SR K C H σV σ) (ra : RvRs K C H σV σ as xs) :
    ∃ ds r, RTs K (hid (Hd C.A σV σ) H) H ds xs ∧ f ds = some r ∧ FinG Rel mg W C σV H σ (pure r) Q := by
  unfold FinG ops at h
  cases e : as.mapM (rdv σ) with
  | none => rw [e] at h; exact h.elim
  | some dx =>
    rw [e] at h
    cases e2 : f dx with
    | none => simp only [e2] at h
    | some r => simp only [e2] at h; exact ⟨dx, r, RvRs.read s ra e, e2, h⟩
end

/-! ### names, constants -/
section
variable {X : Cx} {W : WX} {e a b c : Expr} {pos : Pos}
def mVar (i : Nat) : M Rv := fun σ => match rdv σ (.ln i) with
  | some _ => .ok (.ln i) σ
  | none => .bad
theorem EV.of {e : Expr} {t : TE} {m : M Rv} (h : PE X e t) (i : ∀ σ H Q, tE X.K X.mg W m σ H Q → t σ H Q) : EV X W e m := ⟨PE.imp h i⟩
theorem ev_var {i : Nat} {x : PySem.Str} (h : PE X (.Name x pos) (tVar i)) : EV X W (.Name x pos) (mVar i) := by
  refine .of h fun σV H Q ⟨C, σ, s, h⟩ => ?_
  unfold FinG mVar rdv at h
  cases q : σ[i]? with
  | none => simp [q] at h
  | some t =>
    cases t with
    | no => simp [q] at h
    | sh d =>
      obtain ⟨v, h1, h2⟩ := s.sh i d q
      simp [q] at h
      exact ⟨v, h1, h v H ⟨s, h1⟩ (Keep.refl _ _).inr⟩
    | ow io d =>
      obtain ⟨a, h1, h2⟩ := s.ow i io d q
      simp [q] at h
      exact ⟨_, h1, h _ H ⟨s, h1⟩ (Keep.refl _ _).inr⟩
theorem ev_const {d : D} {v : V} (h : PE X e (tC v)) (r : ∀ H : Hp, R X.K H d v) : EV X W e (pure (.v d)) := by
  refine .of h fun σV H Q ⟨C, σ, s, h⟩ => ?_
  exact fin_v h s (r _)
theorem ev_int {i : Int} {j : Nat} : EV X W (.Constant (.int i) j pos) (pure (.v (.int i))) := ev_const pe_int fun _ => .int i
theorem ev_bl {b : Bool} {j : Nat} : EV X W (.Constant (.bool b) j pos) (pure (.v (.bl b))) := ev_const pe_bl fun _ => .bl b
theorem ev_non {j : Nat} : EV X W (.Constant .none j pos) (pure (.v .non)) := ev_const pe_non fun _ => .non
theorem ev_str {x : PySem.Str} {j : Nat} : EV X W (.Constant (.str x) j pos) (pure (.v (.str x))) := ev_const pe_str fun _ => .str x
/-- a constant of the module: a number, a def -/
theorem ev_glob {x : PySem.Str} {u : Value} {d : D} {v : V} (hg : Gl X x) (hm : X.mg x = some u) (r : RelV v u) (rd : ∀ H : Hp, R X.K H d v) (hd : (x == ("__debug__" : PySem.Str)) = false := by decide) : EV X W (.Name x pos) (pure (.v d)) :=
  ev_const (pe_glob hg hm r hd) rd

/-! ### operators -/
theorem ev_op2 {op : Operator} {r : R2} {f : D → D → Option Rv} {ma mb : M Rv} (ho : OpR X (binaryOp op) r)
    (hr : ∀ C σV H σ x y dx dy rr (Q : VK), SR X.K C H σV σ → RT X.K (hid (Hd C.A σV σ) H) H dx x → RT X.K (hid (Hd C.A σV σ) H) H dy y → f dx dy = some rr → FinG (RelE X.K σV) X.mg W C σV H σ (pure rr) Q → r x y H Q)
    (ha : EV X W a ma) (hb : EV X W b mb) : EV X W (.BinOp a op b pos) (do let x ← ma; let y ← mb; op2 f x y) := by
  refine .of (pe_op ho ha.pe hb.pe) fun σV H Q ⟨C, σ, s, h⟩ => ⟨C, σ, s, (fin_e h).imp fun x H1 ⟨σ1, r1, s1, v1, k1, h1⟩ => ⟨C, σ1, s1, (fin_e h1).imp fun y H2 ⟨σ2, r2, s2, v2, k2, h2⟩ => ?_⟩⟩
  obtain ⟨dx, dy, rr, q1, q2, e, h3⟩ := fin_op2 h2 s2 (v1.keep k2) v2
  exact hr C σV H2 σ2 x y dx dy rr Q s2 q1 q2 e h3
theorem ev_cmp {op : CmpOp} {r : R2} {f : D → D → Option Rv} {ma mb : M Rv} (ho : OpR X (compareOp op) r)
    (hr : ∀ C σV H σ x y dx dy rr (Q : VK), SR X.K C H σV σ → RT X.K (hid (Hd C.A σV σ) H) H dx x → RT X.K (hid (Hd C.A σV σ) H) H dy y → f dx dy = some rr → FinG (RelE X.K σV) X.mg W C σV H σ (pure rr) Q → r x y H Q)
    (ha : EV X W a ma) (hb : EV X W b mb) (hm : behindInMarks op b = false) : EV X W (.Compare a [op] [b] pos) (do let x ← ma; let y ← mb; op2 f x y) := by
  refine .of (pe_cmpR ho ha.pe hb.pe hm) fun σV H Q ⟨C, σ, s, h⟩ => ⟨C, σ, s, (fin_e h).imp fun x H1 ⟨σ1, r1, s1, v1, k1, h1⟩ => ⟨C, σ1, s1, (fin_e h1).imp fun y H2 ⟨σ2, r2, s2, v2, k2, h2⟩ => ?_⟩⟩
  obtain ⟨dx, dy, rr, q1, q2, e, h3⟩ := fin_op2 h2 s2 (v1.keep k2) v2
  exact hr C σV H2 σ2 x y dx dy rr Q s2 q1 q2 e h3
theorem ev_un {op : UnaryOp} {r : V → Hp → VK → Prop} {f : D → Option Rv} {ma : M Rv} (ho : UnR X (unaryOp op) r)
    (hr : ∀ C σV H σ x dx rr (Q : VK), SR X.K C H σV σ → RT X.K (hid (Hd C.A σV σ) H) H dx x → f dx = some rr → FinG (RelE X.K σV) X.mg W C σV H σ (pure rr) Q → r x H Q)
    (ha : EV X W a ma) : EV X W (.UnaryOp op a pos) (do let x ← ma; op1 f x) := by
  refine .of (pe_un ho ha.pe) fun σV H Q ⟨C, σ, s, h⟩ => ⟨C, σ, s, (fin_e h).imp fun x H1 ⟨σ1, r1, s1, v1, k1, h1⟩ => ?_⟩
  obtain ⟨dx, rr, q1, e, h3⟩ := fin_op1 h1 s1 v1
  exact hr C σV H1 σ1 x dx rr Q s1 q1 e h3
end
end DL

set_option Elab.async false
set_option linter.all false
set_option maxRecDepth 100000
/-! DC: operators, comparisons, tests. -/
namespace DL
open PySem PySem.Spec PyProof.Rows L2

abbrev lim : Nat := 16777216
theorem lim_eq : sizeLine = lim := sizeLine_eq

/-! ### + - * // % ** -/
def dAdd : D → D → Option Rv
  | .int i, .int j => some (.v (.int (i + j)))
  | .tup xs, .tup ys => if xs.length + ys.length ≤ lim then some (.v (.tup (xs ++ ys))) else none
  | .lst xs, .lst ys => if xs.length + ys.length ≤ lim then some (.fr (.lst (xs ++ ys))) else none
  | .str x, .str y => if x.length + y.length ≤ lim then some (.v (.str (x ++ y))) else none
  | _, _ => none
def dSub : D → D → Option Rv
  | .int i, .int j => some (.v (.int (i - j)))
  | _, _ => none
def dMul : D → D → Option Rv
  | .int i, .int j => if (-(2 ^ 64) < i ∧ i < 2 ^ 64) ∨ (-(2 ^ 64) < j ∧ j < 2 ^ 64) then some (.v (.int (i * j))) else none
  | .lst xs, .int k => if -(2 ^ 63) ≤ k ∧ k < 2 ^ 63 ∧ xs.length * k.toNat ≤ lim then some (.fr (.lst (List.replicate k.toNat xs).flatten)) else none
  | .tup xs, .int k => if xs ≠ [] ∧ 2 ≤ k ∧ k ≤ 1000 ∧ xs.length ≤ 1000 then some (.v (.tup (List.replicate k.toNat xs).flatten)) else none
  | _, _ => none
def dDiv : D → D → Option Rv
  | .int i, .int j => if 0 < j ∧ j < 1073741824 then some (.v (.int (i / j))) else none
  | _, _ => none
def dMod : D → D → Option Rv
  | .int i, .int j => if 0 < j then some (.v (.int (i % j))) else none
  | _, _ => none
def dPow : D → D → Option Rv
  | .int i, .int j => if 0 ≤ j ∧ j ≤ 1000000 ∧ i.natAbs < 2 ^ 64 then some (.v (.int (i ^ j.toNat))) else none
  | _, _ => none
def dNeg : D → Option Rv
  | .int i => some (.v (.int (-i)))
  | _ => none
section
variable {K : PySem.W.Frag} {h : Hp}
theorem Rs.rep {ds : List D} {vs : List V} (r : Rs K h ds vs) : ∀ n : Nat, Rs K h (List.replicate n ds).flatten (List.replicate n vs).flatten
  | 0 => .nil
  | n + 1 => by
    rw [List.replicate_succ, List.replicate_succ, List.flatten_cons, List.flatten_cons]
    exact r.append (Rs.rep r n)
theorem Rs.nil_iff {ds : List D} {vs : List V} (r : Rs K h ds vs) : ds = [] ↔ vs = [] := by
  cases r <;> simp
end
section
variable {X : Cx} {W : WX} {a b c : Expr} {pos : Pos} {ma mb mc : M Rv}
theorem RT.tupR {K : PySem.W.Frag} {h H : Hp} {xs : List D} {v : V} (r : RT K h H (.tup xs) v) : R K h (.tup xs) v := by
  rcases r with r | ⟨a, e, r⟩
  · exact r
  · exact r.elim
theorem ev_add (ha : EV X W a ma) (hb : EV X W b mb) : EV X W (.BinOp a .Add b pos) (do let x ← ma; let y ← mb; op2 dAdd x y) := by
  refine ev_op2 (op_add.or (op_catA.or (op_cat.or op_add_str))) (fun C σV H σ x y dx dy rr Q s rx ry e q => ?_) ha hb
  unfold dAdd at e
  split at e
  · cases e
    exact .inl ⟨_, _, rx.int, ry.int, fin_v q s (.int _)⟩
  · rename_i xs ys
    split at e
    · rename_i hl
      cases e
      have rX := rx.tupR
      have rY := ry.tupR
      obtain ⟨p, vs, rfl, h1, r1⟩ := rx.tup hid_sub
      obtain ⟨p', vs', rfl, h2, r2⟩ := ry.tup hid_sub
      refine .inr (.inl ⟨p, p', vs, vs', rfl, rfl, h1, h2, by rw [← r1.length, ← r2.length, lim_eq]; exact hl, fun z => ?_, fun z z2 => ?_, fun _ _ p hp => ?_⟩)
      · have z' := r1.nil_iff.mpr z
        subst z'
        exact fin_v q s (by rw [List.nil_append]; exact rY)
      · have z' := r2.nil_iff.mpr z2
        subst z'
        exact fin_v q s (by rw [List.append_nil]; exact rX)
      · exact fin_tup q s (r1.append r2) hp
    · cases e
  · rename_i xs ys
    split at e
    · rename_i hl
      cases e
      obtain ⟨p, vs, rfl, h1, r1⟩ := rx.lst hid_sub
      obtain ⟨p', vs', rfl, h2, r2⟩ := ry.lst hid_sub
      exact .inr (.inr (.inl ⟨p, p', vs, vs', rfl, rfl, h1, h2, by rw [← r1.length, ← r2.length, lim_eq]; exact hl, fun p hp => fin_fr q s (r1.append r2) hp⟩))
    · cases e
  · split at e
    · rename_i hl
      cases e
      exact .inr (.inr (.inr ⟨_, _, rx.str, ry.str, by rw [lim_eq]; exact hl, fin_v q s (.str _)⟩))
    · cases e
  · cases e
theorem ev_sub (ha : EV X W a ma) (hb : EV X W b mb) : EV X W (.BinOp a .Sub b pos) (do let x ← ma; let y ← mb; op2 dSub x y) := by
  refine ev_op2 op_sub (fun C σV H σ x y dx dy rr Q s rx ry e q => ?_) ha hb
  unfold dSub at e
  split at e
  · cases e
    exact ⟨_, _, rx.int, ry.int, fin_v q s (.int _)⟩
  · cases e
theorem ev_mul (ha : EV X W a ma) (hb : EV X W b mb) : EV X W (.BinOp a .Mult b pos) (do let x ← ma; let y ← mb; op2 dMul x y) := by
  refine ev_op2 (op_mul.or (op_rep.or op_repT)) (fun C σV H σ x y dx dy rr Q s rx ry e q => ?_) ha hb
  unfold dMul at e
  split at e
  · split at e
    · rename_i hl
      cases e
      exact .inl ⟨_, _, rx.int, ry.int, hl, fin_v q s (.int _)⟩
    · cases e
  · split at e
    · rename_i hl
      cases e
      obtain ⟨p, vs, rfl, h1, r1⟩ := rx.lst hid_sub
      exact .inr (.inl ⟨p, _, vs, rfl, ry.int, h1, hl.1, hl.2.1, by rw [← r1.length, lim_eq]; exact hl.2.2, fun p hp => fin_fr q s (r1.rep _) hp⟩)
    · cases e
  · split at e
    · rename_i hl
      cases e
      obtain ⟨p, vs, rfl, h1, r1⟩ := rx.tup hid_sub
      exact .inr (.inr ⟨p, _, vs, rfl, ry.int, h1, fun z => hl.1 (r1.nil_iff.mpr z), hl.2.1, hl.2.2.1, by rw [← r1.length]; exact hl.2.2.2, fun p hp => fin_tup q s (r1.rep _) hp⟩)
    · cases e
  · cases e
theorem ev_div (ha : EV X W a ma) (hb : EV X W b mb) : EV X W (.BinOp a .FloorDiv b pos) (do let x ← ma; let y ← mb; op2 dDiv x y) := by
  refine ev_op2 op_fdiv (fun C σV H σ x y dx dy rr Q s rx ry e q => ?_) ha hb
  unfold dDiv at e
  split at e
  · split at e
    · rename_i hl
      cases e
      exact ⟨_, _, rx.int, ry.int, hl, fin_v q s (.int _)⟩
    · cases e
  · cases e
theorem ev_mod (ha : EV X W a ma) (hb : EV X W b mb) : EV X W (.BinOp a .Mod b pos) (do let x ← ma; let y ← mb; op2 dMod x y) := by
  refine ev_op2 op_mod (fun C σV H σ x y dx dy rr Q s rx ry e q => ?_) ha hb
  unfold dMod at e
  split at e
  · split at e
    · rename_i hl
      cases e
      exact ⟨_, _, rx.int, ry.int, hl, fin_v q s (.int _)⟩
    · cases e
  · cases e
theorem ev_pow (ha : EV X W a ma) (hb : EV X W b mb) : EV X W (.BinOp a .Pow b pos) (do let x ← ma; let y ← mb; op2 dPow x y) := by
  refine ev_op2 op_pow (fun C σV H σ x y dx dy rr Q s rx ry e q => ?_) ha hb
  unfold dPow at e
  split at e
  · split at e
    · rename_i hl
      cases e
      exact ⟨_, _, rx.int, ry.int, hl, fin_v q s (.int _)⟩
    · cases e
  · cases e
theorem ev_neg (ha : EV X W a ma) : EV X W (.UnaryOp .USub a pos) (do let x ← ma; op1 dNeg x) := by
  refine ev_un un_neg (fun C σV H σ x dx rr Q s rx e q => ?_) ha
  unfold dNeg at e
  split at e
  · cases e
    exact ⟨_, rx.int, fin_v q s (.int _)⟩
  · cases e
end

/-! ### comparisons -/
def b2 (f : D → D → Option Bool) (x y : D) : Option Rv := (f x y).map fun k => .v (.bl k)
def tst2 (f : D → D → Option Bool) (a b : Rv) : M Bool := fun σ => match rdv σ a, rdv σ b with
  | some x, some y => match f x y with
    | some r => .ok r σ
    | none => .bad
  | _, _ => .bad
/-- a rule for a comparison: what it asks -/
def CmpR (X : Cx) (op : CmpOp) (f : D → D → Option Bool) : Prop := ∃ r : R2, OpR X (compareOp op) r ∧
  ∀ (A : Addr → Prop) (H : Hp) (x y : V) (dx dy : D) (k : Bool) (Q : VK), RT X.K (hid A H) H dx x → RT X.K (hid A H) H dy y → f dx dy = some k → Q (.bl k) H → r x y H Q
section
variable {K : PySem.W.Frag} {mg : PySem.Str → Option Value} {W : WX} {C : Cn} {σV : L2.St} {H : Hp} {σ : Sg} {β : Type}
theorem fin_tst2 {Rel : RelS Bool β} {f : D → D → Option Bool} {a b : Rv} {x y : V} {Q : β → Hp → Prop} (h : FinG Rel mg W C σV H σ (tst2 f a b) Q) (s : SR K C H σV σ) (ra : RvR K C H σV σ a x) (rb : RvR K C H σV σ b y) :
    ∃ dx dy r, RT K (hid (Hd C.A σV σ) H) H dx x ∧ RT K (hid (Hd C.A σV σ) H) H dy y ∧ f dx dy = some r ∧ FinG Rel mg W C σV H σ (pure r) Q := by
  unfold FinG tst2 at h
  cases e : rdv σ a with
  | none => simp only [e] at h
  | some dx =>
    cases e1 : rdv σ b with
    | none => simp only [e, e1] at h
    | some dy =>
      cases e2 : f dx dy with
      | none => simp only [e, e1, e2] at h
      | some r => simp only [e, e1, e2] at h; exact ⟨dx, dy, r, ra.read s e, rb.read s e1, e2, h⟩
theorem fin_bool {k : Bool} {Q : Bool → Hp → Prop} (h : FinG (RelB K σV) mg W C σV H σ (pure k) Q) (s : SR K C H σV σ) : Q k H := h k H ⟨rfl, s⟩ (Keep.refl _ _).inr
end
section
variable {X : Cx} {W : WX} {a b c : Expr} {pos : Pos} {ma mb mc : M Rv}
theorem ev_cp {op : CmpOp} {f : D → D → Option Bool} (ho : CmpR X op f) (ha : EV X W a ma) (hb : EV X W b mb) (hm : behindInMarks op b = false := by first | exact nomark _ | rfl) :
    EV X W (.Compare a [op] [b] pos) (do let x ← ma; let y ← mb; op2 (b2 f) x y) := by
  obtain ⟨r, ho, hr⟩ := ho
  refine ev_cmp ho (fun C σV H σ x y dx dy rr Q s rx ry e q => ?_) ha hb hm
  unfold b2 at e
  cases e2 : f dx dy with
  | none => rw [e2] at e; cases e
  | some k =>
    rw [e2] at e
    cases e
    exact hr _ H x y dx dy k Q rx ry e2 (fin_v q s (.bl k))
theorem tv_cp {op : CmpOp} {f : D → D → Option Bool} (ho : CmpR X op f) (ha : EV X W a ma) (hb : EV X W b mb) (hm : behindInMarks op b = false := by first | exact nomark _ | rfl) :
    TV X W (.Compare a [op] [b] pos) (do let x ← ma; let y ← mb; tst2 f x y) := by
  obtain ⟨r, ho, hr⟩ := ho
  refine ⟨PT.imp (pt_cmpR ho ha.pe hb.pe hm) fun σV H Q ⟨C, σ, s, h⟩ => ⟨C, σ, s, (fin_e h).imp fun x H1 ⟨σ1, r1, s1, v1, k1, h1⟩ => ⟨C, σ1, s1, (fin_e h1).imp fun y H2 ⟨σ2, r2, s2, v2, k2, h2⟩ => ?_⟩⟩⟩
  obtain ⟨dx, dy, rr, q1, q2, e, h3⟩ := fin_tst2 h2 s2 (v1.keep k2) v2
  exact hr _ H2 x y dx dy rr _ q1 q2 e ⟨rr, rfl, fin_bool h3 s2⟩
/-- two comparisons in a row -/
def mChain (f g : D → D → Option Bool) (ma mb mc : M Rv) : M Bool := do
  let x ← ma
  let y ← mb
  let k ← tst2 f x y
  if k then do let z ← mc; tst2 g y z
  else pure false
theorem fin_tst2' {K : PySem.W.Frag} {mg : PySem.Str → Option Value} {C : Cn} {σV : L2.St} {H : Hp} {σ : Sg} {α β : Type} {Rel : RelS α β} {f : D → D → Option Bool} {u w : Rv} {x y : V} {g : Bool → M α} {Q : β → Hp → Prop} (h : FinG Rel mg W C σV H σ (tst2 f u w >>= g) Q) (s : SR K C H σV σ) (ra : RvR K C H σV σ u x) (rb : RvR K C H σV σ w y) :
    ∃ dx dy k, RT K (hid (Hd C.A σV σ) H) H dx x ∧ RT K (hid (Hd C.A σV σ) H) H dy y ∧ f dx dy = some k ∧ FinG Rel mg W C σV H σ (g k) Q := by
  unfold FinG at h
  rw [bind_eq] at h
  unfold tst2 at h
  cases e : rdv σ u with
  | none => simp only [e] at h
  | some dx =>
    cases e1 : rdv σ w with
    | none => simp only [e, e1] at h
    | some dy =>
      cases e2 : f dx dy with
      | none => simp only [e, e1, e2] at h
      | some k => simp only [e, e1, e2] at h; exact ⟨dx, dy, k, ra.read s e, rb.read s e1, e2, h⟩
theorem tv_chain {op op' : CmpOp} {f g : D → D → Option Bool} (ho : CmpR X op f) (ho' : CmpR X op' g) (ha : EV X W a ma) (hb : EV X W b mb) (hc : EV X W c mc) (hm : lastMarks [op, op'] [b, c] = false := by with_unfolding_all rfl) :
    TV X W (.Compare a [op, op'] [b, c] pos) (mChain f g ma mb mc) := by
  obtain ⟨r, ho, hr⟩ := ho
  obtain ⟨r', ho', hr'⟩ := ho'
  refine ⟨PT.imp (pt_chain ho ho' ha.pe hb.pe hc.pe hm) fun σV H Q ⟨C, σ, s, h⟩ => ⟨C, σ, s, (fin_e h).imp fun x H1 ⟨σ1, r1, s1, v1, k1, h1⟩ => ⟨C, σ1, s1, (fin_e h1).imp fun y H2 ⟨σ2, r2, s2, v2, k2, h2⟩ => ?_⟩⟩⟩
  obtain ⟨dx, dy, k, q1, q2, e, h3⟩ := fin_tst2' h2 s2 (v1.keep k2) v2
  refine hr _ H2 x y dx dy k _ q1 q2 e ⟨k, rfl, ?_⟩
  cases k with
  | false => exact iteF ⟨false, rfl, fin_bool h3 s2⟩
  | true =>
    refine iteT ⟨C, σ2, s2, (fin_e h3).imp fun z H4 ⟨σ4, r4, s4, v4, k4, h4⟩ => ?_⟩
    obtain ⟨dy', dz, k', p1, p2, e', h5⟩ := fin_tst2 h4 s4 (v2.keep k4) v4
    exact hr' _ H4 y z dy' dz k' _ p1 p2 e' ⟨k', rfl, fin_bool h5 s4⟩
theorem ev_chain {op op' : CmpOp} {f g : D → D → Option Bool} (ho : CmpR X op f) (ho' : CmpR X op' g) (ha : EV X W a ma) (hb : EV X W b mb) (hc : EV X W c mc) (hm : lastMarks [op, op'] [b, c] = false := by with_unfolding_all rfl) :
    EV X W (.Compare a [op, op'] [b, c] pos) (do let k ← mChain f g ma mb mc; pure (.v (.bl k))) := by
  obtain ⟨r, ho, hr⟩ := ho
  obtain ⟨r', ho', hr'⟩ := ho'
  refine .of (pe_chain ho ho' ha.pe hb.pe hc.pe hm) fun σV H Q ⟨C, σ, s, h⟩ => ?_
  have h : FinG (RelE X.K σV) X.mg W C σV H σ (do let x ← ma; let y ← mb; let k ← tst2 f x y; if k then do let z ← mc; let k' ← tst2 g y z; pure (.v (.bl k')) else pure (.v (.bl false))) Q := by
    refine h.eq ?_
    unfold mChain
    simp only [bind_eq]
    cases ma σ with
    | exc => rfl
    | bad => rfl
    | ok x σ1 =>
      simp only []
      cases mb σ1 with
      | exc => rfl
      | bad => rfl
      | ok y σ2 =>
        simp only []
        cases tst2 f x y σ2 with
        | exc => rfl
        | bad => rfl
        | ok k σ3 => cases k with
          | false => rfl
          | true =>
            show ((mc >>= fun z => tst2 g y z) >>= fun k => (pure (.v (.bl k)) : M Rv)) σ3 = (mc >>= fun z => tst2 g y z >>= fun k => (pure (.v (.bl k)) : M Rv)) σ3
            rw [M.assoc]
  refine ⟨C, σ, s, (fin_e h).imp fun x H1 ⟨σ1, r1, s1, v1, k1, h1⟩ => ⟨C, σ1, s1, (fin_e h1).imp fun y H2 ⟨σ2, r2, s2, v2, k2, h2⟩ => ?_⟩⟩
  obtain ⟨dx, dy, k, q1, q2, e, h3⟩ := fin_tst2' h2 s2 (v1.keep k2) v2
  refine hr _ H2 x y dx dy k _ q1 q2 e ⟨k, rfl, ?_⟩
  cases k with
  | false => exact iteF (fin_v h3 s2 (.bl false))
  | true =>
    refine iteT ⟨C, σ2, s2, (fin_e h3).imp fun z H4 ⟨σ4, r4, s4, v4, k4, h4⟩ => ?_⟩
    obtain ⟨dy', dz, k', p1, p2, e', h5⟩ := fin_tst2' h4 s4 (v2.keep k4) v4
    exact hr' _ H4 y z dy' dz k' _ p1 p2 e' (fin_v h5 s4 (.bl k'))

def dLt : D → D → Option Bool
  | .int i, .int j => some (decide (i < j))
  | _, _ => none
def dLe : D → D → Option Bool
  | .int i, .int j => some (decide (i ≤ j))
  | _, _ => none
def dGt : D → D → Option Bool
  | .int i, .int j => some (decide (j < i))
  | _, _ => none
def dGe : D → D → Option Bool
  | .int i, .int j => some (decide (j ≤ i))
  | _, _ => none
theorem c_lt : CmpR X .Lt dLt := ⟨_, op_lt, fun A H x y dx dy k Q rx ry e q => by
  unfold dLt at e
  split at e
  · cases e; exact ⟨_, _, rx.int, ry.int, q⟩
  · cases e⟩
theorem c_le : CmpR X .LtE dLe := ⟨_, op_le, fun A H x y dx dy k Q rx ry e q => by
  unfold dLe at e
  split at e
  · cases e; exact ⟨_, _, rx.int, ry.int, q⟩
  · cases e⟩
theorem c_gt : CmpR X .Gt dGt := ⟨_, op_gt, fun A H x y dx dy k Q rx ry e q => by
  unfold dGt at e
  split at e
  · cases e; exact ⟨_, _, rx.int, ry.int, q⟩
  · cases e⟩
theorem c_ge : CmpR X .GtE dGe := ⟨_, op_ge, fun A H x y dx dy k Q rx ry e q => by
  unfold dGe at e
  split at e
  · cases e; exact ⟨_, _, rx.int, ry.int, q⟩
  · cases e⟩
/-- x is None, None written -/
def isNon : D → Bool
  | .non => true
  | _ => false
def dIs : D → D → Option Bool
  | x, .non => some (isNon x)
  | _, _ => none
def dIsNot : D → D → Option Bool
  | x, .non => some (!isNon x)
  | _, _ => none
theorem RT.isNon {K : PySem.W.Frag} {h H : Hp} {d : D} {v : V} (r : RT K h H d v) : decide (v = .non) = isNon d := by
  rcases r with r | ⟨a, e, r⟩
  · cases r <;> simp [DL.isNon]
  · subst e
    cases d <;> first | exact r.elim | simp [DL.isNon]
theorem c_is : CmpR X .Is dIs := ⟨_, op_isN, fun A H x y dx dy k Q rx ry e q => by
  unfold dIs at e
  split at e
  · refine ⟨ry.non, ?_⟩
    rw [rx.isNon, Option.some.inj e]
    exact q
  · cases e⟩
theorem c_isnot : CmpR X .IsNot dIsNot := ⟨_, op_notN, fun A H x y dx dy k Q rx ry e q => by
  unfold dIsNot at e
  split at e
  · refine ⟨ry.non, ?_⟩
    rw [rx.isNon, Option.some.inj e]
    exact q
  · cases e⟩
end

/-! ### == of data -/
mutual
def D.toP : D → PyData
  | .non => .none
  | .bl b => .bool b
  | .int i => .int i
  | .str x => .str x
  | .tup xs => .tuple (toPs xs)
  | .lst xs => .list (toPs xs)
  | .fn _ => .dict []
  | .scr _ => .dict []
  | .dct _ _ => .dict []
def toPs : List D → List PyData
  | [] => []
  | d :: ds => d.toP :: toPs ds
end
theorem toPs_map : ∀ ds : List D, toPs ds = ds.map D.toP
  | [] => rfl
  | d :: ds => congrArg (d.toP :: ·) (toPs_map ds)
section
variable {K : PySem.W.Frag} {H : Hp}
mutual
theorem R.dp : ∀ {d : D} {v : V}, R K H d v → d.toP.canLay0 = true → Dp K H v d.toP
  | _, _, .non, _ => .non
  | _, _, .bl b, _ => .bl b
  | _, _, .int i, _ => .int i
  | _, _, .str x, _ => .str x
  | _, _, .tup h r, c => .tup h (Rs.dp r (by simpa [D.toP, PyData.canLay0] using c))
  | _, _, .lst h r, c => .lst (.inl (.inl h)) (Rs.dp r (by simpa [D.toP, PyData.canLay0] using c))
  | _, _, .scr _ _, c => by simp [D.toP, PyData.canLay0] at c
  | _, _, .fn _, c => by simp [D.toP, PyData.canLay0] at c
theorem Rs.dp : ∀ {ds : List D} {vs : List V}, Rs K H ds vs → PyData.canLayAll0 (toPs ds) = true → DpAll K H vs (toPs ds)
  | _, _, .nil, _ => .nil
  | _, _, .cons (d := d) (ds := ds) h t, c => by
    have c' : d.toP.canLay0 = true ∧ PyData.canLayAll0 (toPs ds) = true := by simpa [toPs, PyData.canLayAll0] using c
    exact .cons (R.dp h c'.1) (Rs.dp t c'.2)
end
theorem RT.dp {h : Hp} {d : D} {v : V} (r : RT K h H d v) (s : Same h H) (c : d.toP.canLay0 = true) : Dp K H v d.toP := by
  rcases r with r | ⟨a, e, r⟩
  · exact (r.mono s).dp c
  · subst e
    cases d <;> first | exact r.elim | skip
    obtain ⟨vs, h1, h2⟩ := r
    exact .lst (.inl (.inl h1)) ((h2.mono s).dp (by simpa [D.toP, PyData.canLay0] using c))
end
def dEq (x y : D) : Option Bool := if SeqAt.shaped x.toP = true ∧ SeqAt.shaped y.toP = true then some (PyData.eqv x.toP y.toP) else none
def dNe (x y : D) : Option Bool := if SeqAt.shaped x.toP = true ∧ SeqAt.shaped y.toP = true then some (!PyData.eqv x.toP y.toP) else none
section
variable {X : Cx} {k : Nat}
theorem c_eq (hr : Room k X.A) : CmpR X .Eq dEq := ⟨_, op_eqD hr.units, fun A H x y dx dy b Q rx ry e q => by
  unfold dEq at e
  split at e
  · rename_i h
    cases e
    exact ⟨_, _, rx.dp hid_sub (SeqAt.canLay_of_shaped h.1), ry.dp hid_sub (SeqAt.canLay_of_shaped h.2), h.1, h.2, q⟩
  · cases e⟩
theorem c_ne (hr : Room k X.A) : CmpR X .NotEq dNe := ⟨_, op_neD hr.units, fun A H x y dx dy b Q rx ry e q => by
  unfold dNe at e
  split at e
  · rename_i h
    cases e
    exact ⟨_, _, rx.dp hid_sub (SeqAt.canLay_of_shaped h.1), ry.dp hid_sub (SeqAt.canLay_of_shaped h.2), h.1, h.2, q⟩
  · cases e⟩
/-! ### in -/
def dFlat : D → Bool
  | .non => true
  | .bl _ => true
  | .int _ => true
  | .str _ => true
  | _ => false
def dIn (neg : Bool) (x y : D) : Option Bool := match y with
  | .lst ys => if SeqAt.shaped x.toP = true ∧ SeqAt.shaped (D.lst ys).toP = true then some (neg ^^ ys.any fun z => PyData.eqv z.toP x.toP) else none
  | .tup ys => if dFlat x = true ∧ ys.all dFlat = true then some (neg ^^ ys.any fun z => PyData.eqv z.toP x.toP) else none
  | .str z => match x with
    | .str t => some (neg ^^ !(Builtin.Str.occurrences z t 0 z.length 1).isEmpty)
    | _ => none
  | _ => none
theorem flat_R {K : PySem.W.Frag} {h H : Hp} {d : D} {v : V} (r : RT K h H d v) (f : dFlat d = true) : flatV v = true := by
  rcases r with r | ⟨a, e, r⟩
  · cases r <;> first | rfl | exact absurd f Bool.false_ne_true
  · cases d <;> first | exact r.elim | exact absurd f Bool.false_ne_true
theorem flat_eq {K : PySem.W.Frag} {h : Hp} {d e : D} {v u : V} (r : R K h d v) (r' : R K h e u) (f : dFlat d = true) (f' : dFlat e = true) : eqV v u = PyData.eqv d.toP e.toP := by
  cases r <;> first | exact absurd f Bool.false_ne_true | skip
  all_goals (cases r' <;> first | exact absurd f' Bool.false_ne_true | skip)
  all_goals (first | rfl | (simp [eqV, D.toP, PyData.eqv]))
theorem flats_R {K : PySem.W.Frag} {h H : Hp} : ∀ {ds : List D} {vs : List V}, Rs K h ds vs → ds.all dFlat = true → vs.all flatV = true
  | _, _, .nil, _ => rfl
  | _, _, .cons r t, f => by
    rw [List.all_cons, Bool.and_eq_true] at f ⊢
    exact ⟨flat_R (H := h) (.inl r) f.1, flats_R (H := H) t f.2⟩
theorem flats_any {K : PySem.W.Frag} {h : Hp} {d : D} {v : V} (r : R K h d v) (f : dFlat d = true) : ∀ {ds : List D} {vs : List V}, Rs K h ds vs → ds.all dFlat = true → inV v vs = ds.any fun z => PyData.eqv z.toP d.toP
  | _, _, .nil, _ => rfl
  | _, _, .cons r' t, f' => by
    rw [List.all_cons, Bool.and_eq_true] at f'
    have ih := flats_any r f t f'.2
    unfold inV at ih ⊢
    rw [List.any_cons, List.any_cons, ih, flat_eq r' r f'.1 f]
theorem RT.flat {K : PySem.W.Frag} {h H : Hp} {d : D} {v : V} (r : RT K h H d v) (f : dFlat d = true) : R K h d v := by
  rcases r with r | ⟨a, e, r⟩
  · exact r
  · cases d <;> first | exact r.elim | exact absurd f Bool.false_ne_true
theorem any_map {ys : List D} {p : PyData → Bool} : (toPs ys).any p = ys.any fun z => p z.toP := by
  rw [toPs_map, List.any_map]
  rfl
theorem c_in {X : Cx} {k : Nat} (hr : Room (k + 1) X.A) : CmpR X .In (dIn false) := ⟨_, (op_inD (by have := hr.un; omega)).or (op_in_seq.or op_in_str), fun A H x y dx dy b Q rx ry e q => by
  unfold dIn at e
  split at e
  · rename_i ys
    split at e
    · rename_i h
      cases e
      refine .inl ⟨_, _, rx.dp hid_sub (SeqAt.canLay_of_shaped h.1), ry.dp hid_sub (SeqAt.canLay_of_shaped h.2), h.1, h.2, ?_⟩
      rw [any_map]
      simpa using q
    · cases e
  · split at e
    · rename_i h
      cases e
      obtain ⟨p, vs, rfl, h1, r1⟩ := ry.tup hid_sub
      refine .inr (.inl ⟨p, vs, rfl, .inr h1, flat_R rx h.1, flats_R (H := H) r1 h.2, ?_⟩)
      rw [flats_any (rx.flat h.1) h.1 r1 h.2]
      simpa using q
    · cases e
  · split at e
    · cases e
      exact .inr (.inr ⟨_, _, rx.str, ry.str, by simpa using q⟩)
    · cases e
  · cases e⟩
theorem c_notin {X : Cx} {k : Nat} (hr : Room (k + 1) X.A) : CmpR X .NotIn (dIn true) := ⟨_, (op_notInD (by have := hr.un; omega)).or (op_notIn_seq.or op_notin_str), fun A H x y dx dy b Q rx ry e q => by
  unfold dIn at e
  split at e
  · rename_i ys
    split at e
    · rename_i h
      cases e
      refine .inl ⟨_, _, rx.dp hid_sub (SeqAt.canLay_of_shaped h.1), ry.dp hid_sub (SeqAt.canLay_of_shaped h.2), h.1, h.2, ?_⟩
      rw [any_map]
      simpa using q
    · cases e
  · split at e
    · rename_i h
      cases e
      obtain ⟨p, vs, rfl, h1, r1⟩ := ry.tup hid_sub
      refine .inr (.inl ⟨p, vs, rfl, .inr h1, flat_R rx h.1, flats_R (H := H) r1 h.2, ?_⟩)
      rw [flats_any (rx.flat h.1) h.1 r1 h.2]
      simpa using q
    · cases e
  · split at e
    · cases e
      exact .inr (.inr ⟨_, _, rx.str, ry.str, by simpa using q⟩)
    · cases e
  · cases e⟩
end

/-! ### truth, and, or, not, if -/
def dTru : D → Option Bool
  | .non => some false
  | .bl b => some b
  | .int i => some (i != 0)
  | .str x => if x.length ≤ lim then some ((x.length : Int) != 0) else none
  | .lst xs => some (!xs.isEmpty)
  | .tup xs => some (!xs.isEmpty)
  | .scr xs => some (!xs.isEmpty)
  | _ => none
theorem Rs.empty {K : PySem.W.Frag} {h : Hp} {ds : List D} {vs : List V} (r : Rs K h ds vs) : (!ds.isEmpty) = !vs.isEmpty := by cases r <;> rfl
theorem RT.tru {K : PySem.W.Frag} {h H : Hp} {d : D} {v : V} {k : Bool} (r : RT K h H d v) (s : Same h H) (e : dTru d = some k) : TruV K v H k := by
  unfold dTru at e
  split at e
  · cases e; rw [r.non]; exact rfl
  · cases e; rw [r.bl]; exact rfl
  · cases e; rw [r.int]; exact rfl
  · split at e
    · rename_i hl; cases e; rw [r.str]; exact ⟨by rw [lim_eq]; exact hl, rfl⟩
    · cases e
  · cases e
    obtain ⟨a, vs, rfl, h1, r1⟩ := r.lst s
    exact .inl ⟨vs, .inl (.inl h1), r1.empty⟩
  · cases e
    obtain ⟨a, vs, rfl, h1, r1⟩ := r.tup s
    exact .inr (.inl ⟨vs, h1, r1.empty⟩)
  · cases e
    obtain ⟨a, vs, rfl, h1, r1⟩ := r.scr s
    exact .inl ⟨vs, h1, r1.empty⟩
  · cases e
section
variable {X : Cx} {W : WX} {a b c : Expr} {pos : Pos} {ma mb mc : M Rv} {rest : List Expr} {ta tb : M Bool}
theorem tv_tru (ha : EV X W a ma) (he : ∀ whole, isTrue a X.env whole = (do let v ← whole; standAt a.pos; holding [v] (truthy v)) := by intro _; rfl) : TV X W a (do let x ← ma; tst dTru x) := by
  refine ⟨PT.imp (pt_truth ha.pe he) fun σV H Q ⟨C, σ, s, h⟩ => ⟨C, σ, s, (fin_e h).imp fun x H1 ⟨σ1, r1, s1, v1, k1, h1⟩ => ?_⟩⟩
  obtain ⟨dx, k, q1, e, h2⟩ := fin_tst h1 s1 v1
  exact ⟨k, q1.tru hid_sub e, fin_bool h2 s1⟩
theorem tv_not (ha : TV X W a ta) : TV X W (.UnaryOp .Not a pos) (do let k ← ta; pure (!k)) := by
  refine ⟨PT.imp (pt_not ha.pt) fun σV H Q ⟨C, σ, s, h⟩ => ⟨C, σ, s, (fin_b h).imp fun k H1 ⟨σ1, s1, k1, h1⟩ => fin_bool h1 s1⟩⟩
/-- and, or in a row, as a test -/
structure WV (X : Cx) (W : WX) (e : Expr) (m : M Bool) : Prop where
  pw : PW X e (tT X.K X.mg W m)
theorem PW.imp {X : Cx} {e : Expr} {t t' : TT} (h : PW X e t) (i : ∀ σ H Q, t' σ H Q → t σ H Q) : PW X e t' := ⟨fun wh pins s σ H Q I q => h.run wh pins s σ H Q I (i σ H Q q)⟩
def mAnd (ta tb : M Bool) : M Bool := do let k ← ta; if k then tb else pure false
def mOr (ta tb : M Bool) : M Bool := do let k ← ta; if k then pure true else tb
theorem wv_and1 (ha : TV X W a ta) : WV X W (.BoolOp .And [a] pos) ta := ⟨pw_and1 ha.pt⟩
theorem wv_or1 (ha : TV X W a ta) : WV X W (.BoolOp .Or [a] pos) ta := ⟨pw_or1 ha.pt⟩
theorem wv_and (ha : TV X W a ta) (hb : WV X W (.BoolOp .And (b :: rest) pos) tb) : WV X W (.BoolOp .And (a :: b :: rest) pos) (mAnd ta tb) := by
  refine ⟨PW.imp (pw_and ha.pt hb.pw) fun σV H Q ⟨C, σ, s, h⟩ => ⟨C, σ, s, (fin_b h).imp fun k H1 ⟨σ1, s1, k1, h1⟩ => ?_⟩⟩
  cases k with
  | true => exact iteT ⟨C, σ1, s1, h1⟩
  | false => exact iteF (fin_bool h1 s1)
theorem wv_or (ha : TV X W a ta) (hb : WV X W (.BoolOp .Or (b :: rest) pos) tb) : WV X W (.BoolOp .Or (a :: b :: rest) pos) (mOr ta tb) := by
  refine ⟨PW.imp (pw_or ha.pt hb.pw) fun σV H Q ⟨C, σ, s, h⟩ => ⟨C, σ, s, (fin_b h).imp fun k H1 ⟨σ1, s1, k1, h1⟩ => ?_⟩⟩
  cases k with
  | true => exact iteT (fin_bool h1 s1)
  | false => exact iteF ⟨C, σ1, s1, h1⟩
theorem WV.tv (h : WV X W a ta) : TV X W a ta := ⟨h.pw.pt⟩
/-- a if t else b -/
def mIf {α : Type} (t : M Bool) (x y : M α) : M α := do let k ← t; if k then x else y
theorem ev_if (hc : TV X W c ta) (ha : EV X W a ma) (hb : EV X W b mb) : EV X W (.IfExp c a b pos) (mIf ta ma mb) := by
  refine .of (pe_ifExp hc.pt ha.pe hb.pe) fun σV H Q ⟨C, σ, s, h⟩ => ⟨C, σ, s, (fin_b h).imp fun k H1 ⟨σ1, s1, k1, h1⟩ => ?_⟩
  cases k with
  | true => exact iteT ⟨C, σ1, s1, h1⟩
  | false => exact iteF ⟨C, σ1, s1, h1⟩
/-! .. as values -/
theorem ev_and1 {op} (h : EV X W a ma) : EV X W (.BoolOp op [a] pos) ma := ⟨pe_one h.pe⟩
/-- an expression's value, whatever it owns, behind its truth -/
theorem fin_e' {K : PySem.W.Frag} {mg : PySem.Str → Option Value} {C : Cn} {σV : L2.St} {H : Hp} {σ : Sg} {f : D → Option Bool} {m : M Rv} {g : Rv → Bool → M Rv} {Q : VK} (hg : ∀ r, g r true = pure r)
    (h : FinG (RelE K σV) mg W C σV H σ (do let r ← m; let k ← tst f r; g r k) Q) :
    FinG (RelE K σV) mg W C σV H σ m fun v H1 => ∃ σ1 r d k, SR K C H1 σV σ1 ∧ RT K (hid (Hd C.A σV σ1) H1) H1 d v ∧ f d = some k ∧ (k = true → Q v H1) ∧ (k = false → FinG (RelE K σV) mg W C σV H1 σ1 (g r false) Q) := by
  unfold FinG at h ⊢
  rw [bind_eq] at h
  cases e : m σ with
  | exc c ps => rw [e] at h; exact h
  | bad => rw [e] at h; exact h
  | ok r σ1 =>
    rw [e] at h
    intro v H1 p k
    obtain ⟨s1, r1⟩ := p.weak
    simp only [bind_eq] at h
    unfold tst at h
    cases e1 : rdv σ1 r with
    | none => simp only [e1] at h
    | some d =>
      simp only [e1] at h
      cases e2 : f d with
      | none => simp only [e2] at h
      | some kk =>
        simp only [e2] at h
        refine ⟨σ1, r, d, kk, s1, r1.read s1 e1, e2, fun z => ?_, fun z => ?_⟩
        · subst z
          rw [hg] at h
          exact h v H1 p k
        · subst z
          exact FinG.step (f := g r false) rfl k.inl h
def mOrV (ma mb : M Rv) : M Rv := do let r ← ma; let k ← tst dTru r; if k then pure r else mb
theorem ev_or (ha : EV X W a ma) (hb : EV X W (.BoolOp .Or (b :: rest) pos) mb) : EV X W (.BoolOp .Or (a :: b :: rest) pos) (mOrV ma mb) := by
  refine .of (pe_orT ha.pe hb.pe) fun σV H Q ⟨C, σ, s, h⟩ => ⟨C, σ, s, (fin_e' (g := fun r k => if k then pure r else mb) (fun r => rfl) h).imp fun x H1 ⟨σ1, r, d, k, s1, rt, e, h1, h2⟩ => ⟨k, rt.tru hid_sub e, ?_⟩⟩
  cases k with
  | true => exact iteT (h1 rfl)
  | false => exact iteF ⟨C, σ1, s1, h2 rfl⟩
def mAndV (ma mb : M Rv) : M Rv := do let r ← ma; let k ← tst (fun d => (dTru d).map (!·)) r; if k then pure r else mb
theorem ev_and (ha : EV X W a ma) (hb : EV X W (.BoolOp .And (b :: rest) pos) mb) : EV X W (.BoolOp .And (a :: b :: rest) pos) (mAndV ma mb) := by
  refine .of (pe_andT ha.pe hb.pe) fun σV H Q ⟨C, σ, s, h⟩ => ⟨C, σ, s, (fin_e' (g := fun r k => if k then pure r else mb) (fun r => rfl) h).imp fun x H1 ⟨σ1, r, d, k, s1, rt, e, h1, h2⟩ => ⟨!k, rt.tru hid_sub ?_, ?_⟩⟩
  · cases e2 : dTru d with
    | none => rw [e2] at e; cases e
    | some k' => rw [e2] at e; cases e; simp
  · cases k with
    | true => exact iteF (h1 rfl)
    | false => exact iteT ⟨C, σ1, s1, h2 rfl⟩
theorem ev_not (ha : EV X W a ma) : EV X W (.UnaryOp .Not a pos) (do let r ← ma; let k ← tst dTru r; pure (.v (.bl (!k)))) := by
  refine .of (pe_notT ha.pe) fun σV H Q ⟨C, σ, s, h⟩ => ⟨C, σ, s, (fin_e h).imp fun x H1 ⟨σ1, r1, s1, v1, k1, h1⟩ => ?_⟩
  unfold FinG at h1
  simp only [bind_eq] at h1
  unfold tst at h1
  cases e1 : rdv σ1 r1 with
  | none => simp only [e1] at h1
  | some d =>
    simp only [e1] at h1
    cases e2 : dTru d with
    | none => simp only [e2] at h1
    | some k =>
      simp only [e2] at h1
      exact ⟨k, (v1.read s1 e1).tru hid_sub e2, h1 _ _ ⟨s1, .bl (!k)⟩ (Keep.refl _ _).inr⟩
end
end DL

set_option Elab.async false
set_option linter.all false
set_option maxRecDepth 100000
/-! DD: argument lists, displays, subscripts, slices, built-ins. -/
namespace DL
open PySem PySem.Spec PyProof.Rows L2

/-! ### what goes into another object stays as it is -/
def settle (r : Rv) : M D := fun σ => match r with
  | .v d => .ok d σ
  | .fr d => .ok d σ
  | .ln i => match σ[i]? with
    | some (.sh d) => .ok d σ
    | some (.ow false d) => .ok d (σ.set i (.sh d))
    | _ => .bad
def settles : List Rv → M (List D)
  | [] => pure []
  | r :: rs => do let d ← settle r; let ds ← settles rs; pure (d :: ds)
section
variable {K : PySem.W.Frag} {C : Cn} {H : Hp} {σV : L2.St} {σ σ' : Sg}
theorem owns_share {i : Nat} {d : D} (e : σ[i]? = some (.ow false d)) {b : Addr} (o : Owns σV (σ.set i (.sh d)) b) : Owns σV σ b := by
  obtain ⟨j, bb, d', e1, e2⟩ := o
  by_cases hj : i = j
  · subst hj
    have hi : i < σ.length := (List.getElem?_eq_some_iff.mp e).1
    rw [List.getElem?_set_self hi] at e1
    cases e1
  · rw [List.getElem?_set_ne hj] at e1
    exact ⟨j, bb, d', e1, e2⟩
theorem SR.share (s : SR K C H σV σ) {i : Nat} {d : D} (e : σ[i]? = some (.ow false d)) : SR K C H σV (σ.set i (.sh d)) := by
  have hi : i < σ.length := (List.getElem?_eq_some_iff.mp e).1
  obtain ⟨a, ea, ra, _⟩ := s.ow i false d e
  have q : Same (hid (Hd C.A σV σ) H) (hid (Hd C.A σV (σ.set i (.sh d))) H) := hid_mono fun b o h n => ⟨h, fun z => n (z.elim .inl fun z => .inr (owns_share e z))⟩
  have na : ¬ Hd C.A σV (σ.set i (.sh d)) a := fun z => z.elim (fun z => s.nA a z ⟨i, false, d, e, ea⟩) fun ⟨j, bb, d', e1, e2⟩ => by
    by_cases hj : i = j
    · subst hj
      rw [List.getElem?_set_self hi] at e1
      cases e1
    · rw [List.getElem?_set_ne hj] at e1
      exact hj (s.inj i j _ _ _ _ a e e1 ea e2)
  refine ⟨by rw [List.length_set]; exact s.len, s.al, fun b z o => s.nA b z (owns_share e o), fun j d' e1 => ?_, fun j bb d' e1 => ?_, fun j k b c d1 d2 a' e1 e2 e3 e4 => ?_⟩
  · by_cases hj : i = j
    · subst hj
      rw [List.getElem?_set_self hi] at e1
      cases e1
      exact ⟨_, ea, ra.toR q na⟩
    · rw [List.getElem?_set_ne hj] at e1
      obtain ⟨v, h1, h2⟩ := s.sh j d' e1
      exact ⟨v, h1, h2.mono q⟩
  · by_cases hj : i = j
    · subst hj
      rw [List.getElem?_set_self hi] at e1
      cases e1
    · rw [List.getElem?_set_ne hj] at e1
      obtain ⟨a', h1, h2, h3⟩ := s.ow j bb d' e1
      exact ⟨a', h1, h2.mono q rfl, h3⟩
  · by_cases hj : i = j
    · subst hj
      rw [List.getElem?_set_self hi] at e1
      cases e1
    · by_cases hk : i = k
      · subst hk
        rw [List.getElem?_set_self hi] at e2
        cases e2
      · rw [List.getElem?_set_ne hj] at e1
        rw [List.getElem?_set_ne hk] at e2
        exact s.inj j k _ _ _ _ a' e1 e2 e3 e4
theorem settle_ok {r : Rv} {v : V} {d : D} (s : SR K C H σV σ) (p : RvR K C H σV σ r v) (e : settle r σ = .ok d σ') :
    SR K C H σV σ' ∧ R K (hid (Hd C.A σV σ') H) d v ∧ Keep (Owns σV σ) H (Owns σV σ') H := by
  unfold settle at e
  cases r with
  | v d' => cases e; exact ⟨s, p, Keep.refl _ _⟩
  | fr d' => cases e; exact ⟨s, p, Keep.refl _ _⟩
  | ln i =>
    have p' : σV[i]? = some (some v) := p
    cases q : σ[i]? with
    | none => simp [q] at e
    | some t =>
      cases t with
      | no => simp [q] at e
      | sh d' =>
        simp only [q] at e
        cases e
        obtain ⟨v', h1, h2⟩ := s.sh i _ q
        rw [h1] at p'; cases p'
        exact ⟨s, h2, Keep.refl _ _⟩
      | ow b d' =>
        cases b with
        | true => simp [q] at e
        | false =>
          simp only [q] at e
          cases e
          have s' := s.share q
          have hi : i < σ.length := (List.getElem?_eq_some_iff.mp q).1
          obtain ⟨v', h1, h2⟩ := s'.sh i d (List.getElem?_set_self hi)
          rw [h1] at p'; cases p'
          exact ⟨s', h2, fun b o h n => ⟨h, fun z => n (owns_share q z)⟩⟩
theorem settles_ok : ∀ {rs : List Rv} {vs : List V} {ds : List D} {σ σ' : Sg}, SR K C H σV σ → RvRs K C H σV σ rs vs → settles rs σ = .ok ds σ' →
    SR K C H σV σ' ∧ Rs K (hid (Hd C.A σV σ') H) ds vs ∧ Keep (Owns σV σ) H (Owns σV σ') H
  | _, _, ds, σ, σ', s, .nil, e => by
    have e' : (Res.ok ([] : List D) σ) = .ok ds σ' := e
    cases e'
    exact ⟨s, .nil, Keep.refl _ _⟩
  | r :: rs, v :: vs, ds, σ, σ', s, .cons h t, e => by
    unfold settles at e
    rw [bind_eq] at e
    cases e1 : settle r σ with
    | exc c ps => rw [e1] at e; cases e
    | bad => rw [e1] at e; cases e
    | ok d σ1 =>
      rw [e1] at e
      simp only [bind_eq] at e
      obtain ⟨s1, r1, k1⟩ := settle_ok s h e1
      cases e2 : settles rs σ1 with
      | exc c ps => rw [e2] at e; cases e
      | bad => rw [e2] at e; cases e
      | ok ds' σ2 =>
        rw [e2] at e
        simp only [pure_eq] at e
        cases e
        obtain ⟨s2, r2, k2⟩ := settles_ok s1 (t.keep k1) e2
        exact ⟨s2, .cons (r1.mono k2.hid) r2, k1.trans k2⟩
theorem settle_noexc {r : Rv} {c : PySem.Str} {ps : List D} : settle r σ ≠ .exc c ps := fun e => by
  unfold settle at e
  cases r with
  | v d => cases e
  | fr d => cases e
  | ln i =>
    cases q : σ[i]? with
    | none => simp [q] at e
    | some t =>
      cases t with
      | no => simp [q] at e
      | sh d => simp [q] at e
      | ow b d => cases b <;> simp [q] at e
theorem settles_noexc : ∀ {rs : List Rv} {c : PySem.Str} {ps : List D} {σ : Sg}, settles rs σ ≠ .exc c ps
  | [], _, _, _, e => by
    have e' : (Res.ok ([] : List D) _) = .exc _ _ := e
    cases e'
  | r :: rs, c, ps, σ, e => by
    unfold settles at e
    rw [bind_eq] at e
    cases e1 : settle r σ with
    | exc c ps => exact settle_noexc e1
    | bad => rw [e1] at e; cases e
    | ok d σ1 =>
      rw [e1] at e
      simp only [bind_eq] at e
      cases e2 : settles rs σ1 with
      | exc c ps => exact settles_noexc e2
      | bad => rw [e2] at e; cases e
      | ok ds' σ2 => rw [e2] at e; cases e
/-- a value is settled, then the rest -/
theorem fin_settle {mg : PySem.Str → Option Value} {W : WX} {α β : Type} {Rel : RelS α β} {r : Rv} {v : V} {f : D → M α} {Q : β → Hp → Prop} (h : FinG Rel mg W C σV H σ (settle r >>= f) Q) (s : SR K C H σV σ) (p : RvR K C H σV σ r v) :
    ∃ σ1 d, SR K C H σV σ1 ∧ R K (hid (Hd C.A σV σ1) H) d v ∧ Keep (Owns σV σ) H (Owns σV σ1) H ∧ FinG Rel mg W C σV H σ1 (f d) Q := by
  unfold FinG at h
  rw [bind_eq] at h
  cases e1 : settle r σ with
  | exc c ps => exact (settle_noexc e1).elim
  | bad => rw [e1] at h; exact h.elim
  | ok d σ1 =>
    rw [e1] at h
    obtain ⟨s1, r1, k1⟩ := settle_ok s p e1
    exact ⟨σ1, d, s1, r1, k1, FinG.step (f := f d) rfl k1 h⟩
theorem fin_settles {mg : PySem.Str → Option Value} {W : WX} {α β : Type} {Rel : RelS α β} {rs : List Rv} {vs : List V} {f : List D → M α} {Q : β → Hp → Prop} (h : FinG Rel mg W C σV H σ (settles rs >>= f) Q) (s : SR K C H σV σ) (p : RvRs K C H σV σ rs vs) :
    ∃ σ1 ds, SR K C H σV σ1 ∧ Rs K (hid (Hd C.A σV σ1) H) ds vs ∧ Keep (Owns σV σ) H (Owns σV σ1) H ∧ FinG Rel mg W C σV H σ1 (f ds) Q := by
  unfold FinG at h
  rw [bind_eq] at h
  cases e1 : settles rs σ with
  | exc c ps => exact (settles_noexc e1).elim
  | bad => rw [e1] at h; exact h.elim
  | ok d σ1 =>
    rw [e1] at h
    obtain ⟨s1, r1, k1⟩ := settles_ok s p e1
    exact ⟨σ1, d, s1, r1, k1, FinG.step (f := f d) rfl k1 h⟩
end

/-! ### argument lists, displays -/
def guardL {α : Type} (b : Bool) (m : M α) : M α := if b then m else M.bad
theorem fin_guard {mg : PySem.Str → Option Value} {W : WX} {α β : Type} {Rel : RelS α β} {C : Cn} {H : Hp} {σV : L2.St} {σ : Sg} {b : Bool} {m : M α} {Q : β → Hp → Prop} (h : FinG Rel mg W C σV H σ (guardL b m) Q) : b = true ∧ FinG Rel mg W C σV H σ m Q := by
  cases b with
  | true => exact ⟨rfl, h⟩
  | false => exact h.elim
def mTup (m : M (List Rv)) : M Rv := do let rs ← m; let ds ← settles rs; guardL (decide (ds.length ≤ lim)) (pure (.v (.tup ds)))
def mLst (m : M (List Rv)) : M Rv := do let rs ← m; let ds ← settles rs; guardL (decide (ds.length ≤ lim)) (pure (.fr (.lst ds)))
section
variable {X : Cx} {W : WX} {a b c e : Expr} {es : List Expr} {pos p : Pos} {ma mb mc : M Rv} {ms : M (List Rv)}
theorem av_nil : AV X W [] (pure []) := ⟨PA.imp pa_nil fun σV H Q ⟨C, σ, s, h⟩ => h [] H ⟨s, .nil⟩ (Keep.refl _ _).inr⟩
theorem av_cons (ha : EV X W e ma) (hr : AV X W es ms) (hs : starEach (e :: es) X.env = (false, eval e X.env) :: starEach es X.env := by rfl) : AV X W (e :: es) (do let x ← ma; let xs ← ms; pure (x :: xs)) := by
  refine ⟨PA.imp (pa_cons ha.pe hr.pa hs) fun σV H Q ⟨C, σ, s, h⟩ => ⟨C, σ, s, (fin_e h).imp fun x H1 ⟨σ1, r1, s1, v1, k1, h1⟩ => ⟨C, σ1, s1, (fin_a h1).imp fun xs H2 ⟨σ2, r2, s2, v2, k2, h2⟩ => ?_⟩⟩⟩
  exact h2 _ _ ⟨s2, .cons (v1.keep k2) v2⟩ (Keep.refl _ _).inr
theorem ev_tup {x1} (h : AV X W es ms) : EV X W (.Tuple es x1 pos) (mTup ms) := by
  refine .of (pe_tup h.pa) fun σV H Q ⟨C, σ, s, h⟩ => ⟨C, σ, s, (fin_a h).imp fun xs H1 ⟨σ1, r1, s1, v1, k1, h1⟩ => ?_⟩
  obtain ⟨σ2, ds, s2, r2, k2, h2⟩ := fin_settles h1 s1 v1
  obtain ⟨g, h3⟩ := fin_guard h2
  exact ⟨by rw [← r2.length, lim_eq]; exact of_decide_eq_true g, fun p hp => fin_tup h3 s2 r2 hp⟩
theorem ev_lst (h : AV X W es ms) : EV X W (.List es pos) (mLst ms) := by
  refine .of (pe_lst h.pa) fun σV H Q ⟨C, σ, s, h⟩ => ⟨C, σ, s, (fin_a h).imp fun xs H1 ⟨σ1, r1, s1, v1, k1, h1⟩ => ?_⟩
  obtain ⟨σ2, ds, s2, r2, k2, h2⟩ := fin_settles h1 s1 v1
  obtain ⟨g, h3⟩ := fin_guard h2
  exact ⟨by rw [← r2.length, lim_eq]; exact of_decide_eq_true g, fun p hp => fin_fr h3 s2 r2 hp⟩

/-! ### subscripts, slices -/
def dIx : D → D → Option Rv
  | .lst xs, .int i => (atI xs i).map .v
  | .tup xs, .int i => (atI xs i).map .v
  | .scr xs, .int i => (atI xs i).map .v
  | .str z, .int i => if z.length ≤ lim then (atI z.cps.toList i).map fun c => .v (.str ⟨#[c]⟩) else none
  | _, _ => none
theorem at_R {K : PySem.W.Frag} {h : Hp} {xs : List D} {vs : List V} {i : Int} {d : D} (r : Rs K h xs vs) (e : atI xs i = some d) : ∃ v, atI vs i = some v ∧ R K h d v := by
  unfold atI at e ⊢
  rw [← r.length]
  cases q : ixN xs.length i with
  | none => rw [q] at e; cases e
  | some j =>
    rw [q] at e
    obtain ⟨v, h1, h2⟩ := r.get (i := j) (d := d) e
    exact ⟨v, h1, h2⟩
theorem ev_ix (ha : EV X W a ma) (hb : EV X W b mb) (hs : PlainIx b := by intro _ _; rfl) : EV X W (.Subscript a b pos) (do let x ← ma; let y ← mb; op2 dIx x y) := by
  refine .of (pe_ix ix_seq ha.pe hb.pe hs) fun σV H Q ⟨C, σ, s, h⟩ => ⟨C, σ, s, (fin_e h).imp fun x H1 ⟨σ1, r1, s1, v1, k1, h1⟩ => ⟨C, σ1, s1, (fin_e h1).imp fun y H2 ⟨σ2, r2, s2, v2, k2, h2⟩ => ?_⟩⟩
  obtain ⟨dx, dy, rr, q1, q2, e, h3⟩ := fin_op2 h2 s2 (v1.keep k2) v2
  unfold dIx at e
  split at e
  · rename_i xs i
    cases e1 : atI xs i with
    | none => rw [e1] at e; cases e
    | some d =>
      rw [e1] at e; cases e
      obtain ⟨p, vs, rfl, h4, r4⟩ := q1.lst hid_sub
      obtain ⟨v, h5, r5⟩ := at_R r4 e1
      exact .inl ⟨p, vs, i, v, rfl, q2.int, .inl (.inl h4), h5, fin_v h3 s2 r5⟩
  · rename_i xs i
    cases e1 : atI xs i with
    | none => rw [e1] at e; cases e
    | some d =>
      rw [e1] at e; cases e
      obtain ⟨p, vs, rfl, h4, r4⟩ := q1.tup hid_sub
      obtain ⟨v, h5, r5⟩ := at_R r4 e1
      exact .inr (.inl ⟨p, vs, i, v, rfl, q2.int, h4, h5, fin_v h3 s2 r5⟩)
  · rename_i xs i
    cases e1 : atI xs i with
    | none => rw [e1] at e; cases e
    | some d =>
      rw [e1] at e; cases e
      obtain ⟨p, vs, rfl, h4, r4⟩ := q1.scr hid_sub
      obtain ⟨v, h5, r5⟩ := at_R r4 e1
      exact .inl ⟨p, vs, i, v, rfl, q2.int, h4, h5, fin_v h3 s2 r5⟩
  · rename_i z i
    split at e
    · rename_i hl
      cases e1 : atI z.cps.toList i with
      | none => rw [e1] at e; cases e
      | some c =>
        rw [e1] at e; cases e
        exact .inr (.inr ⟨z, i, c, q1.str, q2.int, by rw [lim_eq]; exact hl, e1, fin_v h3 s2 (.str _)⟩)
    · cases e
  · cases e

/-- a part of a slice -/
structure OV (X : Cx) (W : WX) (e : Option Expr) (m : M (Option Int)) : Prop where
  po : PO X e fun σV H Q => ∃ C σ, SR X.K C H σV σ ∧ FinG (⟨fun C H σ (r v : Option Int) => r = v ∧ SR X.K C H σV σ, fun _ _ _ => False⟩) X.mg W C σV H σ m Q
theorem PO.imp {e : Option Expr} {t t' : L2.St → Hp → (Option Int → Hp → Prop) → Prop} (h : PO X e t) (i : ∀ σ H Q, t' σ H Q → t σ H Q) : PO X e t' := ⟨fun pins s σ H Q I q => h.run pins s σ H Q I (i σ H Q q)⟩
def part (r : Rv) : M (Option Int) := fun σ => match rdv σ r with
  | some (.int i) => .ok (some i) σ
  | _ => .bad
theorem ov_none : OV X W none (pure none) := ⟨PO.imp po_none fun σV H Q ⟨C, σ, s, h⟩ => h none H ⟨rfl, s⟩ (Keep.refl _ _).inr⟩
theorem ov_some (ha : EV X W a ma) : OV X W (some a) (do let x ← ma; part x) := by
  refine ⟨PO.imp (po_some ha.pe) fun σV H Q ⟨C, σ, s, h⟩ => ⟨C, σ, s, (fin_e h).imp fun x H1 ⟨σ1, r1, s1, v1, k1, h1⟩ => ?_⟩⟩
  unfold FinG part at h1
  cases e : rdv σ1 r1 with
  | none => simp only [e] at h1
  | some d =>
    cases d <;> simp only [e] at h1
    exact ⟨_, (v1.read s1 e).int, h1 _ _ ⟨rfl, s1⟩ (Keep.refl _ _).inr⟩
def cutD {α : Type} (xs : List α) (lo hi : Option Int) : List α := (xs.drop (HT.sIx xs.length 0 lo)).take (HT.sIx xs.length xs.length hi - HT.sIx xs.length 0 lo)
def dSl (x : D) (lo hi : Option Int) : Option Rv := match x with
  | .lst xs => some (.fr (.lst (cutD xs lo hi)))
  | .scr xs => some (.fr (.lst (cutD xs lo hi)))
  | .tup xs => some (.v (.tup (cutD xs lo hi)))
  | _ => none
theorem cut_R {K : PySem.W.Frag} {h : Hp} {xs : List D} {vs : List V} (r : Rs K h xs vs) (lo hi : Option Int) : Rs K h (cutD xs lo hi) (cutV vs lo hi) := by
  unfold cutD cutV
  rw [r.length]
  exact (r.drop _).take _
theorem cut_all {α : Type} {xs : List α} {lo hi : Option Int} (h : HT.sIx xs.length 0 lo = 0 ∧ HT.sIx xs.length xs.length hi = xs.length) : cutD xs lo hi = xs := by
  unfold cutD
  rw [h.1, h.2]
  simp
def mSlice (ma : M Rv) (ml mh : M (Option Int)) : M Rv := do
  let x ← ma
  let lo ← ml
  let hi ← mh
  op1 (fun d => dSl d lo hi) x
theorem fin_o {mg : PySem.Str → Option Value} {α β : Type} {K : PySem.W.Frag} {C : Cn} {H : Hp} {σV : L2.St} {σ : Sg} {Rel : RelS α β} {mo : M (Option Int)} {f : Option Int → M α} {Q : β → Hp → Prop} (h : FinG Rel mg W C σV H σ (mo >>= f) Q) :
    FinG (⟨fun C H σ (r v : Option Int) => r = v ∧ SR K C H σV σ, fun _ _ _ => False⟩) mg W C σV H σ mo fun v H1 => ∃ σ1, SR K C H1 σV σ1 ∧ Keep (Owns σV σ) H (Owns σV σ1) H1 ∧ FinG Rel mg W C σV H1 σ1 (f v) Q := by
  unfold FinG at h ⊢
  rw [bind_eq] at h
  cases e : mo σ with
  | ok r σ1 =>
    rw [e] at h
    intro v H1 p k
    obtain ⟨rfl, s1⟩ := p
    exact ⟨σ1, s1, k.inl, FinG.step (f := f r) rfl k.inl h⟩
  | exc c ps => rw [e] at h; exact h
  | bad => rw [e] at h; exact h
theorem ev_slice {lo hi : Option Expr} {p2 : Pos} {ml mh : M (Option Int)} (ha : EV X W a ma) (hl : OV X W lo ml) (hh : OV X W hi mh) : EV X W (.Subscript a (.Slice lo hi none p2) pos) (mSlice ma ml mh) := by
  refine .of (pe_slice (sl_list.or sl_tupA) ha.pe hl.po hh.po) fun σV H Q ⟨C, σ, s, h⟩ => ⟨C, σ, s, (fin_e h).imp fun x H1 ⟨σ1, r1, s1, v1, k1, h1⟩ => ⟨C, σ1, s1, (fin_o h1).imp fun l H2 ⟨σ2, s2, k2, h2⟩ => ⟨C, σ2, s2, (fin_o h2).imp fun u H3 ⟨σ3, s3, k3, h3⟩ => ?_⟩⟩⟩
  obtain ⟨dx, rr, q1, e, h4⟩ := fin_op1 h3 s3 ((v1.keep k2).keep k3)
  unfold dSl at e
  split at e
  · cases e
    obtain ⟨p, vs, rfl, h5, r5⟩ := q1.lst hid_sub
    exact .inl ⟨p, vs, rfl, .inl (.inl h5), fun p hp => fin_fr h4 s3 (cut_R r5 l u) hp⟩
  · cases e
    obtain ⟨p, vs, rfl, h5, r5⟩ := q1.scr hid_sub
    exact .inl ⟨p, vs, rfl, h5, fun p hp => fin_fr h4 s3 (cut_R r5 l u) hp⟩
  · rename_i xs
    cases e
    have q1' := q1.tupR
    obtain ⟨p, vs, rfl, h5, r5⟩ := q1.tup hid_sub
    refine .inr ⟨p, vs, rfl, h5, fun hw => ?_, fun _ p hp => fin_tup h4 s3 (cut_R r5 l u) hp⟩
    rw [← r5.length] at hw
    rw [cut_all hw] at h4
    exact fin_v h4 s3 q1'
  · cases e

/-! ### built-ins by name -/
def FunR (X : Cx) (r : List V → Hp → VK → Prop) (f : List D → Option Rv) : Prop :=
  ∀ (mg : PySem.Str → Option Value) (W : WX) (C : Cn) (σV : L2.St) (H : Hp) (σ : Sg) (xs : List V) (ds : List D) (rr : Rv) (Q : VK), SR X.K C H σV σ → RTs X.K (hid (Hd C.A σV σ) H) H ds xs → f ds = some rr → FinG (RelE X.K σV) mg W C σV H σ (pure rr) Q → r xs H Q
theorem ev_bi {id : String} {r : List V → Hp → VK → Prop} {f : List D → Option Rv} {x : PySem.Str} (hc : CallR X (.builtin id) r) (hr : FunR X r f) (hg : Gl X x) (hm : X.mg x = none) (hv : bootBuiltins x = some (.builtin id)) (ha : AV X W (e :: es) ms) (hn : x ≠ "__name__" := by decide) (hdb : (x == ("__debug__" : PySem.Str)) = false := by decide)
    (he : starEach (e :: es) X.env = (false, eval e X.env) :: starEach es X.env := by rfl) (hpl : (backTo pos (starEach es X.env)).any (·.1) = false := by rfl) : EV X W (.Call (.Name x p) (e :: es) [] pos) (do let as ← ms; ops f as) := by
  refine .of (pe_callB hc hg hm hv ha.pa hn hdb he hpl) fun σV H Q ⟨C, σ, s, h⟩ => ⟨C, σ, s, (fin_a h).imp fun xs H1 ⟨σ1, r1, s1, v1, k1, h1⟩ => ?_⟩
  obtain ⟨ds, rr, q1, e1, h2⟩ := fin_ops h1 s1 v1
  exact hr _ _ C σV H1 σ1 xs ds rr Q s1 q1 e1 h2
theorem ev_ty {T : String} {r : List V → Hp → VK → Prop} {f : List D → Option Rv} {x : PySem.Str} (hc : CallR X (.type T) r) (hr : FunR X r f) (hg : Gl X x) (hm : X.mg x = none) (hv : bootBuiltins x = some (.type T)) (ha : AV X W (e :: es) ms) (hn : x ≠ "__name__" := by decide) (hdb : (x == ("__debug__" : PySem.Str)) = false := by decide)
    (he : starEach (e :: es) X.env = (false, eval e X.env) :: starEach es X.env := by rfl) (hpl : (backTo pos (starEach es X.env)).any (·.1) = false := by rfl) : EV X W (.Call (.Name x p) (e :: es) [] pos) (do let as ← ms; ops f as) := by
  refine .of (pe_callTy hc hg hm hv ha.pa hn hdb he hpl) fun σV H Q ⟨C, σ, s, h⟩ => ⟨C, σ, s, (fin_a h).imp fun xs H1 ⟨σ1, r1, s1, v1, k1, h1⟩ => ?_⟩
  obtain ⟨ds, rr, q1, e1, h2⟩ := fin_ops h1 s1 v1
  exact hr _ _ C σV H1 σ1 xs ds rr Q s1 q1 e1 h2
theorem RTs.one {K : PySem.W.Frag} {h H : Hp} {d : D} {xs : List V} (r : RTs K h H [d] xs) : ∃ x, xs = [x] ∧ RT K h H d x := by
  cases r with
  | cons a t => cases t; exact ⟨_, rfl, a⟩
theorem RTs.two {K : PySem.W.Frag} {h H : Hp} {d e : D} {xs : List V} (r : RTs K h H [d, e] xs) : ∃ x y, xs = [x, y] ∧ RT K h H d x ∧ RT K h H e y := by
  cases r with
  | cons a t => cases t with
    | cons b t => cases t; exact ⟨_, _, rfl, a, b⟩
def dLen : List D → Option Rv
  | [.lst xs] => some (.v (.int xs.length))
  | [.tup xs] => some (.v (.int xs.length))
  | [.scr xs] => some (.v (.int xs.length))
  | [.str x] => if x.length ≤ lim then some (.v (.int x.length)) else none
  | _ => none
theorem f_len : FunR X (fun xs H Q => ∃ x n, xs = [x] ∧ LenV X.K x H n ∧ Q (.int n) H) dLen := by
  intro mg W C σV H σ xs ds rr Q s r e q
  unfold dLen at e
  split at e
  · cases e
    obtain ⟨x, rfl, rx⟩ := r.one
    obtain ⟨p, vs, rfl, h5, r5⟩ := rx.lst hid_sub
    exact ⟨_, _, rfl, .inl ⟨vs, .inl (.inl h5), r5.length⟩, fin_v q s (.int _)⟩
  · cases e
    obtain ⟨x, rfl, rx⟩ := r.one
    obtain ⟨p, vs, rfl, h5, r5⟩ := rx.tup hid_sub
    exact ⟨_, _, rfl, .inr ⟨vs, h5, r5.length⟩, fin_v q s (.int _)⟩
  · cases e
    obtain ⟨x, rfl, rx⟩ := r.one
    obtain ⟨p, vs, rfl, h5, r5⟩ := rx.scr hid_sub
    exact ⟨_, _, rfl, .inl ⟨vs, h5, r5.length⟩, fin_v q s (.int _)⟩
  · split at e
    · rename_i hl
      cases e
      obtain ⟨x, rfl, rx⟩ := r.one
      exact ⟨_, _, rfl, by rw [rx.str]; exact ⟨by rw [lim_eq]; exact hl, rfl⟩, fin_v q s (.int _)⟩
    · cases e
  · cases e
def dAbs : List D → Option Rv
  | [.int i] => some (.v (.int (if i < 0 then -i else i)))
  | _ => none
theorem f_abs : FunR X (fun xs H Q => ∃ i, xs = [.int i] ∧ Q (.int (if i < 0 then -i else i)) H) dAbs := by
  intro mg W C σV H σ xs ds rr Q s r e q
  unfold dAbs at e
  split at e
  · cases e
    obtain ⟨x, rfl, rx⟩ := r.one
    exact ⟨_, by rw [rx.int], fin_v q s (.int _)⟩
  · cases e
def dInt : List D → Option Rv
  | [.int i] => some (.v (.int i))
  | [.bl k] => some (.v (.int (if k then 1 else 0)))
  | _ => none
theorem f_int : FunR X (fun xs H Q => (∃ i, xs = [.int i] ∧ Q (.int i) H) ∨ ∃ k, xs = [.bl k] ∧ Q (.int (if k then 1 else 0)) H) dInt := by
  intro mg W C σV H σ xs ds rr Q s r e q
  unfold dInt at e
  split at e
  · cases e
    obtain ⟨x, rfl, rx⟩ := r.one
    exact .inl ⟨_, by rw [rx.int], fin_v q s (.int _)⟩
  · cases e
    obtain ⟨x, rfl, rx⟩ := r.one
    exact .inr ⟨_, by rw [rx.bl], fin_v q s (.int _)⟩
  · cases e
def dMax2 : List D → Option Rv
  | [.int i, .int j] => some (.v (.int (if j > i then j else i)))
  | _ => none
def dMin2 : List D → Option Rv
  | [.int i, .int j] => some (.v (.int (if j < i then j else i)))
  | _ => none
theorem f_max2 : FunR X (fun xs H Q => ∃ i j, xs = [.int i, .int j] ∧ Q (.int (if j > i then j else i)) H) dMax2 := by
  intro mg W C σV H σ xs ds rr Q s r e q
  unfold dMax2 at e
  split at e
  · cases e
    obtain ⟨x, y, rfl, rx, ry⟩ := r.two
    exact ⟨_, _, by rw [rx.int, ry.int], fin_v q s (.int _)⟩
  · cases e
theorem f_min2 : FunR X (fun xs H Q => ∃ i j, xs = [.int i, .int j] ∧ Q (.int (if j < i then j else i)) H) dMin2 := by
  intro mg W C σV H σ xs ds rr Q s r e q
  unfold dMin2 at e
  split at e
  · cases e
    obtain ⟨x, y, rfl, rx, ry⟩ := r.two
    exact ⟨_, _, by rw [rx.int, ry.int], fin_v q s (.int _)⟩
  · cases e
def dListOf : List D → Option Rv
  | [.lst xs] => some (.fr (.lst xs))
  | [.tup xs] => some (.fr (.lst xs))
  | [.scr xs] => some (.fr (.lst xs))
  | _ => none
theorem f_list : FunR X (fun xs H Q => ∃ p ys, xs = [.ref p] ∧ (SqL X.K H p ys ∨ SqT X.K H p ys) ∧ ∀ l, H l = none → Q (.ref l) (upd H l (.lst ys))) dListOf := by
  intro mg W C σV H σ xs ds rr Q s r e q
  unfold dListOf at e
  split at e
  · cases e
    obtain ⟨x, rfl, rx⟩ := r.one
    obtain ⟨p, vs, rfl, h5, r5⟩ := rx.lst hid_sub
    exact ⟨_, _, rfl, .inl (.inl (.inl h5)), fun l hl => fin_fr q s r5 hl⟩
  · cases e
    obtain ⟨x, rfl, rx⟩ := r.one
    obtain ⟨p, vs, rfl, h5, r5⟩ := rx.tup hid_sub
    exact ⟨_, _, rfl, .inr h5, fun l hl => fin_fr q s r5 hl⟩
  · cases e
    obtain ⟨x, rfl, rx⟩ := r.one
    obtain ⟨p, vs, rfl, h5, r5⟩ := rx.scr hid_sub
    exact ⟨_, _, rfl, .inl h5, fun l hl => fin_fr q s r5 hl⟩
  · cases e
def dTupleOf : List D → Option Rv
  | [.lst xs] => some (.v (.tup xs))
  | [.tup xs] => some (.v (.tup xs))
  | [.scr xs] => some (.v (.tup xs))
  | _ => none
theorem f_tuple : FunR X (fun xs H Q => ∃ p ys, xs = [.ref p] ∧ ((SqL X.K H p ys ∧ ∀ l, H l = none → Q (.ref l) (upd H l (.tup ys))) ∨ (SqT X.K H p ys ∧ Q (.ref p) H))) dTupleOf := by
  intro mg W C σV H σ xs ds rr Q s r e q
  unfold dTupleOf at e
  split at e
  · cases e
    obtain ⟨x, rfl, rx⟩ := r.one
    obtain ⟨p, vs, rfl, h5, r5⟩ := rx.lst hid_sub
    exact ⟨_, _, rfl, .inl ⟨.inl (.inl h5), fun l hl => fin_tup q s r5 hl⟩⟩
  · cases e
    obtain ⟨x, rfl, rx⟩ := r.one
    have rx' := rx.tupR
    obtain ⟨p, vs, rfl, h5, r5⟩ := rx.tup hid_sub
    exact ⟨_, _, rfl, .inr ⟨h5, fin_v q s rx'⟩⟩
  · cases e
    obtain ⟨x, rfl, rx⟩ := r.one
    obtain ⟨p, vs, rfl, h5, r5⟩ := rx.scr hid_sub
    exact ⟨_, _, rfl, .inl ⟨h5, fun l hl => fin_tup q s r5 hl⟩⟩
  · cases e
def dInts : List D → Option (List Int)
  | [] => some []
  | .int i :: r => (dInts r).map (i :: ·)
  | _ => none
def dBls : List D → Option (List Bool)
  | [] => some []
  | .bl i :: r => (dBls r).map (i :: ·)
  | _ => none
theorem ints_R {K : PySem.W.Frag} {h : Hp} : ∀ {ds : List D} {vs : List V} {ns : List Int}, Rs K h ds vs → dInts ds = some ns → vs = ns.map V.int
  | _, _, ns, .nil, e => by cases e; rfl
  | _, _, ns, .cons (ds := ds) r t, e => by
    cases r <;> first | (cases e; done) | skip
    have e : (dInts ds).map _ = some ns := e
    cases q : dInts ds with
    | none => rw [q] at e; cases e
    | some ms =>
      rw [q] at e; cases e
      rw [ints_R t q]; rfl
theorem bls_R {K : PySem.W.Frag} {h : Hp} : ∀ {ds : List D} {vs : List V} {ns : List Bool}, Rs K h ds vs → dBls ds = some ns → vs = ns.map V.bl
  | _, _, ns, .nil, e => by cases e; rfl
  | _, _, ns, .cons (ds := ds) r t, e => by
    cases r <;> first | (cases e; done) | skip
    have e : (dBls ds).map _ = some ns := e
    cases q : dBls ds with
    | none => rw [q] at e; cases e
    | some ms =>
      rw [q] at e; cases e
      rw [bls_R t q]; rfl
def dSum : List D → Option Rv
  | [.lst xs] => (dInts xs).map fun ns => .v (.int ns.sum)
  | _ => none
theorem f_sum : FunR X (rSum X.K) dSum := by
  intro mg W C σV H σ xs ds rr Q s r e q
  unfold dSum at e
  split at e
  · rename_i l
    cases e1 : dInts l with
    | none => rw [e1] at e; cases e
    | some ns =>
      rw [e1] at e; cases e
      obtain ⟨x, rfl, rx⟩ := r.one
      obtain ⟨p, vs, rfl, h5, r5⟩ := rx.lst hid_sub
      have ev := ints_R r5 e1
      subst ev
      exact ⟨p, ns, rfl, .inl (.inl h5), fin_v q s (.int _)⟩
  · cases e
def dAll : List D → Option Rv
  | [.lst xs] => (dBls xs).map fun ns => .v (.bl (ns.all id))
  | _ => none
def dAny : List D → Option Rv
  | [.lst xs] => (dBls xs).map fun ns => .v (.bl (ns.any id))
  | _ => none
theorem f_all : FunR X (rAll X.K) dAll := by
  intro mg W C σV H σ xs ds rr Q s r e q
  unfold dAll at e
  split at e
  · rename_i l
    cases e1 : dBls l with
    | none => rw [e1] at e; cases e
    | some ns =>
      rw [e1] at e; cases e
      obtain ⟨x, rfl, rx⟩ := r.one
      obtain ⟨p, vs, rfl, h5, r5⟩ := rx.lst hid_sub
      have ev := bls_R r5 e1
      subst ev
      exact ⟨p, ns, rfl, .inl (.inl h5), fin_v q s (.bl _)⟩
  · cases e
theorem f_any : FunR X (rAny X.K) dAny := by
  intro mg W C σV H σ xs ds rr Q s r e q
  unfold dAny at e
  split at e
  · rename_i l
    cases e1 : dBls l with
    | none => rw [e1] at e; cases e
    | some ns =>
      rw [e1] at e; cases e
      obtain ⟨x, rfl, rx⟩ := r.one
      obtain ⟨p, vs, rfl, h5, r5⟩ := rx.lst hid_sub
      have ev := bls_R r5 e1
      subst ev
      exact ⟨p, ns, rfl, .inl (.inl h5), fin_v q s (.bl _)⟩
  · cases e
end
end DL

set_option Elab.async false
set_option linter.all false
set_option maxRecDepth 100000
/-! DE: enumerate of a tuple. -/
namespace DL
open PySem PySem.Spec PyProof.Rows L2

section
variable {prog : Program} {w : World} {A : Around} {E : Value → Shared → Prop} {s : Shared}
/-- enumerate(t), t a tuple: the two records made -/
abbrev enT (h : Heap) (t : Addr) : Heap := h.push { cls := .type "tuple_iterator", data := .fields #[.ref t, .int 0 0] }
abbrev enO (h : Heap) : Obj := { cls := .type "enumerate", data := .fields #[.none, .bool false, .ref h.objs.size, rawInt 0, .none, .none] }
set_option maxHeartbeats 1000000 in
theorem enum_meets (t : Addr) (its : Array Value) :
    Meets (Builtin.«enumerate.__new__» ⟨[.type "enumerate", .ref t], []⟩) fun _ R s =>
      s.heap.IsTuple t its ∧ R (.ok (.ret (.ref (enT s.heap t).objs.size))) { s with heap := (enT s.heap t).push (enO s.heap) } :=
  .of_wp fun prog w A R s hh => by
    obtain ⟨hp, g, d, tk, os⟩ := s
    obtain ⟨ht, h⟩ := hh
    have hsub := sub_enumerate
    have it : ∀ {A' : Around} {E : Value → Shared → Prop} {Q : Value → Shared → Prop}, Q (.ref hp.objs.size) ⟨enT hp t, g, d, tk, os⟩ →
        wpAny (model prog w) A' (pyIter (.ref t)) Q E ⟨hp, g, d, tk, os⟩ := fun q => wpAny_pyIter_tuple ht q
    wp_walk using it
    refine wpAny_stack_any fun st => wpAny_pure ?_
    split
    · rename_i c _ _ _ _ _
      cases (c == Value.type "enumerate") <;> (wp_walk using it; exact ⟨_, rfl, h⟩)
    · wp_walk using it
      exact ⟨_, rfl, h⟩
theorem enum_call {t : Addr} {its : Array Value} {Q : Value → Shared → Prop} (ht : s.heap.IsTuple t its)
    (h : ∀ h', IsEnum h' (s.heap.objs.size + 1) s.heap.objs.size 0 .none → h'.IsTupleIter s.heap.objs.size t 0 →
      (∀ b o, s.heap.get? b = some o → h'.get? b = some o) → Q (.ref (s.heap.objs.size + 1)) { s with heap := h' }) :
    wpAny (model prog w) A (call (.type "enumerate") [.ref t]) Q E s := by
  refine callType_new F.called_enumerate (by decide) (F.typeCall_enumerate_1 _) (F.newCall_enumerate_1 _) (fun obj => F.args_object_init_2 obj _)
    F.entry_enumerate_new (enum_meets t its) ⟨ht, ?_⟩
  have hz : (enT s.heap t).objs.size = s.heap.objs.size + 1 := Heap.size_push ..
  have he : IsEnum ((enT s.heap t).push (enO s.heap)) (s.heap.objs.size + 1) s.heap.objs.size 0 .none := by
    have q := Heap.get?_push_size (enT s.heap t) (o := enO s.heap) rfl
    rw [hz] at q
    exact q
  show _ ∧ _
  rw [hz]
  exact ⟨⟨_, he, rfl⟩, h _ he ⟨_, Heap.get?_push_of_some _ (Heap.get?_push_size _ rfl), rfl, rfl⟩ fun b o x => Heap.get?_push_of_some _ (Heap.get?_push_of_some _ x)⟩
end

/-- the tuple at a, each item in a new pair -/
def IteT (K : PySem.W.Frag) (a : Addr) : It where
  go := fun i H => ∃ (xs : List V) (x : V), SqT K H a xs ∧ xs[i]? = some x
  yld := fun i H v H' => ∃ T x, v = .ref T ∧ H T = none ∧ H' = upd H T (.tup [.int (i : Nat), x]) ∧ ∀ xs, SqT K H a xs → xs[i]? = some x
  stop := fun i H => ∃ xs : List V, SqT K H a xs ∧ xs.length = i
theorem turn_enT {P : Program} {w : World} {K : PySem.W.Frag} {elts : List Expr} {kk : Nat} {tpos : Pos} (a e it : Addr) (hai : a ≠ it) :
    Turn P w K (.Tuple elts kk tpos) (IteT K a) [e, it] e fun i h => (∃ old, IsEnum h e it (i : Nat) old) ∧ h.IsTupleIter it a i ∧ e ≠ it ∧ e ≠ a where
  mem := List.mem_cons_self
  obj := by
    rintro i h ⟨⟨old, he⟩, ⟨o, ho, hc, hd⟩, _⟩ b hb
    rcases List.mem_cons.mp hb with z | z
    · subst z
      exact ⟨_, he, fun v q => nomatch q⟩
    · rw [List.mem_singleton.mp z]
      exact ⟨o, ho, fun v q => by rw [hd] at q; cases q⟩
  keep := by
    rintro i h h' ⟨⟨old, he⟩, hi, hne⟩ k
    exact ⟨⟨old, k e List.mem_cons_self _ he⟩, hi.at fun o q => k it (List.mem_cons_of_mem _ List.mem_cons_self) o q, hne⟩
  item := by
    intro X hP hw hK hc i pins s σ H E I hf st hg
    subst hP hw hK
    obtain ⟨⟨old, he⟩, hit, hne, hea⟩ := st
    obtain ⟨xs, x, hq, hx⟩ := hg
    obtain ⟨its, rv, p, hz⟩ := I.tuple hq
    obtain ⟨u, hu, ru⟩ := rv.get hx
    have hta : s.heap.IsTuple a its.toArray := p
    have hlt : i < its.toArray.size := by
      have := (List.getElem?_eq_some_iff.mp hu).1
      simpa using this
    have hel : e < s.heap.objs.size := Heap.lt_size he
    have hil : it < s.heap.objs.size := by
      obtain ⟨_, q, _⟩ := hit
      exact Heap.lt_size q
    have ine : ∀ b, b ∉ [e, it] → b ≠ e ∧ b ≠ it := fun b hb => ⟨fun z => hb (by simp [z]), fun z => hb (by simp [z])⟩
    refine wpAny_pyNext_enum_itemC (Draws.tuple (A := X.A.in1) (I.ok.hd hc) it a hai its.toArray) he ⟨hit, hta⟩ hlt hne (by simp [hne, hea]) fun y h' tk hy ho hst hT hsz hk => ?_
    have ey : y = u := by
      have hu' : its.toArray[i]? = some u := by simpa using hu
      rw [hu'] at hy
      exact (Option.some.inj hy).symm
    subst ey
    refine ⟨_, rfl, wpAny_letOwnedTupleGo_enum (s := { s with heap := h', toks := tk + 1 }) ho fun h2 he2 sb => ?_⟩
    have hT2 : h2.get? s.heap.objs.size = some { cls := .type "tuple", data := .seq #[.int i tk, y] } := (sb.2 _ (Nat.ne_of_gt hel)).trans hT
    have new : ObjOk X.prog X.w (upd H s.heap.objs.size (.tup [.int (i : Nat), x])) h2 s.heap.objs.size (.tup [.int (i : Nat), x]) :=
      ⟨by show 2 ≤ sizeLine; decide, [.int i tk, y], .cons ⟨_, rfl⟩ (.cons ru .nil), ⟨_, hT2, rfl, _, rfl⟩⟩
    have I1 := I.turnedNew (t' := tk + 1) (ch := [e, it]) (h' := h2) (fun b ob hb q => (sb.2 b (ine b hb).1).trans (hk b ob (ine b hb).1 (ine b hb).2 q)) hf (Nat.le_refl _) new
    refine ⟨.ref s.heap.objs.size, _, I1, rfl, ⟨_, x, rfl, I.hok.fresh (Nat.le_refl _), rfl, fun ys hy => by rw [I.tuple_inj hy hq]; exact hx⟩, ⟨⟨y, ?_⟩, hst.1.at fun o q => (sb.2 it (Ne.symm hne)).trans q, hne, hea⟩, fun b hb => ?_⟩
    · rw [show ((i + 1 : Nat) : Int) = (i : Int) + 1 from by omega]
      exact he2
    · have hb' : b < s.heap.objs.size := by
        rcases List.mem_cons.mp hb with z | z
        · rw [z]; exact hel
        · rw [List.mem_singleton.mp z]; exact hil
      rw [upd_ne (Nat.ne_of_lt hb')]
      exact (hf b hb).1
  done := by
    intro X hP hw hK hc i pins s σ H E I hf st hg
    subst hP hw hK
    obtain ⟨⟨old, he⟩, hit, hne, hea⟩ := st
    obtain ⟨xs, hq, hx⟩ := hg
    obtain ⟨its, rv, p, hz⟩ := I.tuple hq
    obtain ⟨f0, f1, f2, f3, f4, f5⟩ := hf it (by simp)
    have hl := rv.length
    have hta : s.heap.IsTuple a its.toArray := p
    have ei : i = its.toArray.size := by simp; omega
    refine wpAny_pyNext_enum_endD (Draws.tuple (A := X.A.in1) (I.ok.hd hc) it a hai its.toArray) he ⟨ei ▸ hit, hta⟩ fun h' eb => ⟨rfl, ?_⟩
    exact I.turned (t' := s.toks) (fun b o hb q => eb b o hb q) f0 f1 f3 f4 f5
  self := fun A i s Q E st h => wpAny_pyIter_enum st.1.choose_spec h
def iEnumT (K : PySem.W.Frag) (ta : TA) : TI := fun σ H R => ta σ H fun vs H1 => ∃ a xs, vs = [.ref a] ∧ SqT K H1 a xs ∧ R (IteT K a) H1
theorem pi_enT {X : Cx} {e : Expr} {ta : TA} {p pos tpos : Pos} {elts : List Expr} {kk : Nat} (hg : Gl X "enumerate") (hm : X.mg "enumerate" = none) (ha : PA X [e] ta)
    (hs : starEach [e] X.env = [(false, eval e X.env)] := by rfl) : PI X (.Tuple elts kk tpos) (.Call (.Name "enumerate" p) [e] [] pos) (iEnumT X.K ta) := by
  refine ⟨fun pins s σ H R I h => ?_⟩
  have arg := ha.run pos pins s σ H _ I h
  refine Call_ (ld_blt I hg hm boot_enumerate (PyProof.Rows.callWith_type1 (thn arg fun us s1 hh => ?_) hs rfl))
  obtain ⟨vs, H1, I1, r1, a, xs, rfl, hq, q⟩ := hh
  obtain ⟨u, rfl, ru⟩ := vals1 r1
  cases (show u = Value.ref a from ru)
  obtain ⟨its, rv, p', hz⟩ := I1.tuple hq
  have hal : a < s1.heap.objs.size := by obtain ⟨o, ho, _⟩ := p'; exact Heap.lt_size ho
  refine enum_call (t := a) (its := its.toArray) p' fun h' he hit hk => wpAny_pyIter_enum he ?_
  have I2 : Inv X pins σ H1 { s1 with heap := h' } := I1.kept (t' := s1.toks) hk
  have T := turn_enT (P := X.prog) (w := X.w) (K := X.K) (elts := elts) (kk := kk) (tpos := tpos) a (s1.heap.objs.size + 1) s1.heap.objs.size (Nat.ne_of_lt hal)
  refine ⟨s1.heap.objs.size + 1, [s1.heap.objs.size + 1, s1.heap.objs.size], _, _, H1, rfl, I2, T, ⟨⟨.none, he⟩, hit, Nat.succ_ne_self _, Nat.ne_of_gt (Nat.lt_succ_of_lt hal)⟩, fun b hb => ?_, q⟩
  have hle : s1.heap.objs.size ≤ b := by
    rcases List.mem_cons.mp hb with z | z
    · rw [z]; exact Nat.le_succ _
    · rw [List.mem_singleton.mp z]; exact Nat.le_refl _
  exact I1.fpOk hle (I1.hok.fresh hle)
end DL

set_option Elab.async false
set_option linter.all false
set_option maxRecDepth 100000
/-! DF: what is walked; statements; loops. -/
namespace DL
open PySem PySem.Spec PyProof.Rows L2

/-! ### what is walked -/
/-- ds are the items of J from the heap H1 on, in any heap that keeps what is not O's -/
def ItOk (K : PySem.W.Frag) (A O : Addr → Prop) (J : It) (H1 : Hp) (ds : List D) : Prop :=
  ∀ (O2 : Addr → Prop) (H2 : Hp), Keep (fun b => A b ∨ O b) H1 (fun b => A b ∨ O2 b) H2 → (∀ b, A b ∨ O2 b → H2 b ≠ none) →
    (∀ i d, ds[i]? = some d → J.go i H2 ∧ ∀ x H3, J.yld i H2 x H3 → Same H2 H3 ∧ R K (hid (fun b => A b ∨ O2 b) H3) d x) ∧ J.stop ds.length H2
abbrev RelI (K : PySem.W.Frag) (σV : L2.St) : RelS (List D) It := ⟨fun C H σ ds J => SR K C H σV σ ∧ ItOk K C.A (Owns σV σ) J H ds, fun _ _ _ => False⟩
structure IV (X : Cx) (W : WX) (tg e : Expr) (m : M (List D)) : Prop where
  pi : PI X tg e fun σV H Q => ∃ C σ, SR X.K C H σV σ ∧ FinG (RelI X.K σV) X.mg W C σV H σ m Q
theorem PI.imp {X : Cx} {tg e : Expr} {t t' : TI} (h : PI X tg e t) (i : ∀ σ H Q, t' σ H Q → t σ H Q) : PI X tg e t' := ⟨fun pins s σ H Q I q => h.run pins s σ H Q I (i σ H Q q)⟩
/-- the items of a list, a tuple -/
def items (d : D) : M (List D) := match d with
  | .lst xs => pure xs
  | .tup xs => pure xs
  | .scr xs => pure xs
  | _ => M.bad
def isT : D → Bool
  | .tup _ => true
  | _ => false
section
variable {K : PySem.W.Frag} {A O : Addr → Prop} {H : Hp}
theorem keep_hid {O2 : Addr → Prop} {H2 : Hp} (k : Keep O H O2 H2) : Same (hid (fun b => A b ∨ O b) H) (hid (fun b => A b ∨ O2 b) H2) := hid_mono fun b o h n => by
  obtain ⟨h1, n1⟩ := k b o h fun z => n (.inr z)
  exact ⟨h1, fun z => z.elim (fun z => n (.inl z)) n1⟩
theorem keep_hidA {O2 : Addr → Prop} {H2 : Hp} (k : Keep (fun b => A b ∨ O b) H (fun b => A b ∨ O2 b) H2) : Same (hid (fun b => A b ∨ O b) H) (hid (fun b => A b ∨ O2 b) H2) := hid_mono k
theorem Keep.orA {O2 : Addr → Prop} {H2 : Hp} (k : Keep O H O2 H2) : Keep (fun b => A b ∨ O b) H (fun b => A b ∨ O2 b) H2 := fun b o h n => by
  obtain ⟨h1, n1⟩ := k b o h fun z => n (.inr z)
  exact ⟨h1, fun z => z.elim (fun z => n (.inl z)) n1⟩
/-- a fact of a heap that an iterator reads by its one item -/
theorem get_vs {xs : List D} {vs : List V} {h : Hp} {i : Nat} {d : D} {x : V} (r : Rs K h xs vs) (e : xs[i]? = some d) (e' : vs[i]? = some x) : R K h d x := by
  obtain ⟨v, h1, h2⟩ := r.get e
  rw [e'] at h1
  cases h1
  exact h2
theorem it_list {a : Addr} {xs : List D} {vs : List V} (h : SqL K (hid (fun b => A b ∨ O b) H) a vs) (r : Rs K (hid (fun b => A b ∨ O b) H) xs vs) : ItOk K A O (Itl K a) H xs := by
  intro O2 H2 k ne
  have s := keep_hidA k
  have h2 : SqL K H2 a vs := hid_sub.seq (s.seq h)
  refine ⟨fun i d e => ?_, vs, h2, Nat.le_of_eq r.length.symm⟩
  obtain ⟨v, e1, r1⟩ := r.get e
  refine ⟨⟨vs, v, h2, e1⟩, fun x H3 y => ?_⟩
  obtain ⟨rfl, y⟩ := y
  have e2 := y vs h2
  rw [e1] at e2; cases e2
  exact ⟨Same.refl _, r1.mono s⟩
theorem it_tup {a : Addr} {xs : List D} {vs : List V} (h : SqT K (hid (fun b => A b ∨ O b) H) a vs) (r : Rs K (hid (fun b => A b ∨ O b) H) xs vs) : ItOk K A O (Itt K a) H xs := by
  intro O2 H2 k ne
  have s := keep_hidA k
  have h2 : SqT K H2 a vs := SqT.sm hid_sub (SqT.sm s h)
  refine ⟨fun i d e => ?_, vs, h2, Nat.le_of_eq r.length.symm⟩
  obtain ⟨v, e1, r1⟩ := r.get e
  refine ⟨⟨vs, v, h2, e1⟩, fun x H3 y => ?_⟩
  obtain ⟨rfl, y⟩ := y
  have e2 := y vs h2
  rw [e1] at e2; cases e2
  exact ⟨Same.refl _, r1.mono s⟩
/-- a new pair of items -/
theorem new_pair {T : Addr} {H2 : Hp} {O2 : Addr → Prop} {d e : D} {v u : V} (hT : H2 T = none) (ne : ∀ b, A b ∨ O2 b → H2 b ≠ none) (rd : R K (hid (fun b => A b ∨ O2 b) H2) d v) (re : R K (hid (fun b => A b ∨ O2 b) H2) e u) :
    Same H2 (upd H2 T (.tup [v, u])) ∧ R K (hid (fun b => A b ∨ O2 b) (upd H2 T (.tup [v, u]))) (.tup [d, e]) (.ref T) := by
  have k := same_upd (o := .tup [v, u]) hT
  have q : Same (hid (fun b => A b ∨ O2 b) H2) (hid (fun b => A b ∨ O2 b) (upd H2 T (.tup [v, u]))) := hid_mono fun b o h n => ⟨k b o h, n⟩
  exact ⟨k, .tup (.inl (.inl (hid_some.mpr ⟨fun z => ne T z hT, upd_same⟩))) (.cons (rd.mono q) (.cons (re.mono q) .nil))⟩
theorem it_enum {a : Addr} {xs : List D} {vs : List V} (h : SqL K (hid (fun b => A b ∨ O b) H) a vs) (r : Rs K (hid (fun b => A b ∨ O b) H) xs vs) : ItOk K A O (Ite K a) H (xs.zipIdx.map fun p => .tup [.int (p.2 : Nat), p.1]) := by
  intro O2 H2 k ne
  have s := keep_hidA k
  have h2 : SqL K H2 a vs := hid_sub.seq (s.seq h)
  refine ⟨fun i d e => ?_, vs, h2, by rw [List.length_map, List.length_zipIdx, r.length]; exact Nat.le_refl _⟩
  rw [List.getElem?_map, List.getElem?_zipIdx] at e
  cases e0 : xs[i]? with
  | none => rw [e0] at e; cases e
  | some d0 =>
    rw [e0] at e; cases e
    obtain ⟨v, e1, r1⟩ := r.get e0
    refine ⟨⟨vs, v, h2, e1⟩, fun x H3 y => ?_⟩
    obtain ⟨T, x', rfl, hT, rfl, y⟩ := y
    have e2 := y vs h2
    rw [e1] at e2; cases e2
    have := new_pair (K := K) hT ne (.int (i : Nat)) (r1.mono s)
    simpa using this
theorem it_enT {a : Addr} {xs : List D} {vs : List V} (h : SqT K (hid (fun b => A b ∨ O b) H) a vs) (r : Rs K (hid (fun b => A b ∨ O b) H) xs vs) : ItOk K A O (IteT K a) H (xs.zipIdx.map fun p => .tup [.int (p.2 : Nat), p.1]) := by
  intro O2 H2 k ne
  have s := keep_hidA k
  have h2 : SqT K H2 a vs := SqT.sm hid_sub (SqT.sm s h)
  refine ⟨fun i d e => ?_, vs, h2, by rw [List.length_map, List.length_zipIdx, r.length]⟩
  rw [List.getElem?_map, List.getElem?_zipIdx] at e
  cases e0 : xs[i]? with
  | none => rw [e0] at e; cases e
  | some d0 =>
    rw [e0] at e; cases e
    obtain ⟨v, e1, r1⟩ := r.get e0
    refine ⟨⟨vs, v, h2, e1⟩, fun x H3 y => ?_⟩
    obtain ⟨T, x', rfl, hT, rfl, y⟩ := y
    have e2 := y vs h2
    rw [e1] at e2; cases e2
    have := new_pair (K := K) hT ne (.int (i : Nat)) (r1.mono s)
    simpa using this
theorem it_range {lo : Int} {n : Nat} : ItOk K A O (Itr lo n) H ((List.range n).map fun i => .int (lo + (i : Nat))) := by
  intro O2 H2 k ne
  refine ⟨fun i d e => ?_, by simp [Itr]⟩
  rw [List.getElem?_map] at e
  by_cases hi : i < n
  · rw [List.getElem?_range hi] at e
    cases e
    exact ⟨hi, fun x H3 y => by obtain ⟨rfl, rfl⟩ := y; exact ⟨Same.refl _, .int _⟩⟩
  · rw [List.getElem?_eq_none (by simpa using hi)] at e
    cases e
theorem zip_get {xs ys : List D} {i : Nat} {d : D} (e : ((xs.zip ys).map fun p => D.tup [p.1, p.2])[i]? = some d) : ∃ u v, xs[i]? = some u ∧ ys[i]? = some v ∧ d = .tup [u, v] := by
  rw [List.getElem?_map] at e
  cases q : (xs.zip ys)[i]? with
  | none => rw [q] at e; cases e
  | some p =>
    rw [q] at e; cases e
    have q' := List.getElem?_zip_eq_some.mp q
    exact ⟨p.1, p.2, q'.1, q'.2, rfl⟩
theorem it_zipL {a b : Addr} {xs ys : List D} {vs us : List V} (h : SqL K (hid (fun b => A b ∨ O b) H) a vs) (r : Rs K (hid (fun b => A b ∨ O b) H) xs vs) (h' : SqL K (hid (fun b => A b ∨ O b) H) b us) (r' : Rs K (hid (fun b => A b ∨ O b) H) ys us) :
    ItOk K A O (Itz K a b) H ((xs.zip ys).map fun p => .tup [p.1, p.2]) := by
  intro O2 H2 k ne
  have s := keep_hidA k
  have h2 : SqL K H2 a vs := hid_sub.seq (s.seq h)
  have h3 : SqL K H2 b us := hid_sub.seq (s.seq h')
  refine ⟨fun i d e => ?_, vs, us, h2, h3, ?_⟩
  · obtain ⟨u, v, e0, e0', rfl⟩ := zip_get e
    obtain ⟨x1, e1, r1⟩ := r.get e0
    obtain ⟨x2, e2, r2⟩ := r'.get e0'
    refine ⟨⟨vs, us, x1, x2, h2, h3, e1, e2⟩, fun x H3 y => ?_⟩
    obtain ⟨T, z1, z2, rfl, hT, rfl, y1, y2⟩ := y
    have e3 := y1 vs h2
    rw [e1] at e3; cases e3
    have e4 := y2 us h3
    rw [e2] at e4; cases e4
    exact new_pair hT ne (r1.mono s) (r2.mono s)
  · rw [List.length_map, List.length_zip, r.length, r'.length]
    omega
theorem it_zipT {a b : Addr} {xs ys : List D} {vs us : List V} (h : SqT K (hid (fun b => A b ∨ O b) H) a vs) (r : Rs K (hid (fun b => A b ∨ O b) H) xs vs) (h' : SqT K (hid (fun b => A b ∨ O b) H) b us) (r' : Rs K (hid (fun b => A b ∨ O b) H) ys us) :
    ItOk K A O (RZ.ItzT K a b) H ((xs.zip ys).map fun p => .tup [p.1, p.2]) := by
  intro O2 H2 k ne
  have s := keep_hidA k
  have h2 : SqT K H2 a vs := SqT.sm hid_sub (SqT.sm s h)
  have h3 : SqT K H2 b us := SqT.sm hid_sub (SqT.sm s h')
  refine ⟨fun i d e => ?_, vs, us, h2, h3, ?_⟩
  · obtain ⟨u, v, e0, e0', rfl⟩ := zip_get e
    obtain ⟨x1, e1, r1⟩ := r.get e0
    obtain ⟨x2, e2, r2⟩ := r'.get e0'
    refine ⟨⟨vs, us, x1, x2, h2, h3, e1, e2⟩, fun x H3 y => ?_⟩
    obtain ⟨T, z1, z2, rfl, hT, rfl, y1, y2⟩ := y
    have e3 := y1 vs h2
    rw [e1] at e3; cases e3
    have e4 := y2 us h3
    rw [e2] at e4; cases e4
    exact new_pair hT ne (r1.mono s) (r2.mono s)
  · rw [List.length_map, List.length_zip, r.length, r'.length]
    omega
end
section
variable {X : Cx} {W : WX} {tg e e2 : Expr} {pos p tpos : Pos} {ma mb : M Rv} {elts : List Expr} {kk : Nat}
def mSeqI (ma : M Rv) : M (List D) := do let r ← ma; let d ← settle r; items d
/-- what a settled value that is walked turns out to be is known ahead -/
theorem seq_kind {K : PySem.W.Frag} {mg : PySem.Str → Option Value} {α β : Type} {Rel : RelS α β} {C : Cn} {σV : L2.St} {H : Hp} {σ : Sg} {m : M Rv} {f : D → M α} {Q : β → Hp → Prop} (P : D → Bool) (h : FinG Rel mg W C σV H σ (do let r ← m; let d ← settle r; f d) Q) :
    (∀ σ1 σ2 r d, m σ = .ok r σ1 → settle r σ1 = .ok d σ2 → P d = true) ∨ ∀ σ1 σ2 r d, m σ = .ok r σ1 → settle r σ1 = .ok d σ2 → P d = false := by
  cases e : m σ with
  | exc c ps => exact .inl fun σ1 σ2 r d e1 => by cases e1
  | bad => exact .inl fun σ1 σ2 r d e1 => by cases e1
  | ok r σ1 =>
    cases e2 : settle r σ1 with
    | exc c ps => exact .inl fun σ1 σ2 r d e1 e3 => by cases e1; rw [e2] at e3; cases e3
    | bad => exact .inl fun σ1 σ2 r d e1 e3 => by cases e1; rw [e2] at e3; cases e3
    | ok d σ2 =>
      cases q : P d with
      | true => exact .inl fun σ1 σ2 r d e1 e3 => by cases e1; rw [e2] at e3; cases e3; exact q
      | false => exact .inr fun σ1 σ2 r d e1 e3 => by cases e1; rw [e2] at e3; cases e3; exact q
/-- as fin_e, with the run told -/
theorem fin_er {K : PySem.W.Frag} {mg : PySem.Str → Option Value} {C : Cn} {σV : L2.St} {H : Hp} {σ : Sg} {α β : Type} {Rel : RelS α β} {ma : M Rv} {f : Rv → M α} {Q : β → Hp → Prop} (h : FinG Rel mg W C σV H σ (ma >>= f) Q) :
    FinG (RelE K σV) mg W C σV H σ ma fun v H1 => ∃ σ1 r, ma σ = .ok r σ1 ∧ SR K C H1 σV σ1 ∧ RvR K C H1 σV σ1 r v ∧ Keep (Owns σV σ) H (Owns σV σ1) H1 ∧ FinG Rel mg W C σV H1 σ1 (f r) Q := by
  unfold FinG at h ⊢
  rw [bind_eq] at h
  cases e : ma σ with
  | ok r σ1 =>
    rw [e] at h
    intro v H1 p k
    obtain ⟨s1, r1⟩ := p.weak
    exact ⟨σ1, r, rfl, s1, r1, k.inl, FinG.step (f := f r) rfl k.inl h⟩
  | exc c ps => rw [e] at h; exact h
  | bad => rw [e] at h; exact h
theorem fin_settler {K : PySem.W.Frag} {mg : PySem.Str → Option Value} {C : Cn} {H : Hp} {σV : L2.St} {σ : Sg} {α β : Type} {Rel : RelS α β} {r : Rv} {v : V} {f : D → M α} {Q : β → Hp → Prop} (h : FinG Rel mg W C σV H σ (settle r >>= f) Q) (s : SR K C H σV σ) (p : RvR K C H σV σ r v) :
    ∃ σ1 d, settle r σ = .ok d σ1 ∧ SR K C H σV σ1 ∧ R K (hid (Hd C.A σV σ1) H) d v ∧ Keep (Owns σV σ) H (Owns σV σ1) H ∧ FinG Rel mg W C σV H σ1 (f d) Q := by
  unfold FinG at h
  rw [bind_eq] at h
  cases e1 : settle r σ with
  | exc c ps => exact (settle_noexc e1).elim
  | bad => rw [e1] at h; exact h.elim
  | ok d σ1 =>
    rw [e1] at h
    obtain ⟨s1, r1, k1⟩ := settle_ok s p e1
    exact ⟨σ1, d, rfl, s1, r1, k1, FinG.step (f := f d) rfl k1 h⟩
theorem iv_seq (ha : EV X W e ma) : IV X W tg e (mSeqI ma) := by
  refine ⟨⟨fun pins s0 σV H Q I hh => ?_⟩⟩
  obtain ⟨C, σ, s, h⟩ := hh
  rcases seq_kind (K := X.K) isT h with hk | hk
  · refine (pi_tup ha.pe).run pins s0 σV H Q I ⟨C, σ, s, (fin_er h).imp fun x H1 ⟨σ1, r, e1, s1, v1, k1, h1⟩ => ?_⟩
    obtain ⟨σ2, d, e2, s2, r2, k2, h2⟩ := fin_settler h1 s1 v1
    have q := hk _ _ _ _ e1 e2
    cases d <;> first | exact absurd q Bool.false_ne_true | skip
    cases r2 with
    | tup h3 r3 => exact ⟨_, rfl, ⟨_, SqT.sm hid_sub h3⟩, h2 _ _ ⟨s2, it_tup h3 r3⟩ (Keep.refl _ _).inr⟩
  · refine (pi_list ha.pe).run pins s0 σV H Q I ⟨C, σ, s, (fin_er h).imp fun x H1 ⟨σ1, r, e1, s1, v1, k1, h1⟩ => ?_⟩
    obtain ⟨σ2, d, e2, s2, r2, k2, h2⟩ := fin_settler h1 s1 v1
    have q := hk _ _ _ _ e1 e2
    cases d <;> first | exact absurd q.symm Bool.false_ne_true | exact h2.elim | skip
    · cases r2 with
      | lst h3 r3 => exact ⟨_, rfl, ⟨_, .inl (.inl (hid_sub _ _ h3))⟩, h2 _ _ ⟨s2, it_list (.inl (.inl h3)) r3⟩ (Keep.refl _ _).inr⟩
    · cases r2 with
      | scr h3 r3 => exact ⟨_, rfl, ⟨_, hid_sub.seq h3⟩, h2 _ _ ⟨s2, it_list h3 r3⟩ (Keep.refl _ _).inr⟩
def mEnum (ma : M Rv) : M (List D) := do let r ← ma; let d ← settle r; let xs ← items d; pure (xs.zipIdx.map fun p => .tup [.int (p.2 : Nat), p.1])
theorem iv_enum (hg : Gl X "enumerate") (hm : X.mg "enumerate" = none) (ha : EV X W e ma) (hs : starEach [e] X.env = [(false, eval e X.env)] := by rfl) : IV X W (.Tuple elts kk tpos) (.Call (.Name "enumerate" p) [e] [] pos) (mEnum ma) := by
  have pa : PA X [e] (tCons (tE X.K X.mg W ma) tNil) := pa_cons ha.pe pa_nil hs
  refine ⟨⟨fun pins s0 σV H Q I hh => ?_⟩⟩
  obtain ⟨C, σ, s, h⟩ := hh
  rcases seq_kind (K := X.K) isT h with hk | hk
  · refine (pi_enT hg hm pa hs).run pins s0 σV H Q I ⟨C, σ, s, (fin_er h).imp fun x H1 ⟨σ1, r, e1, s1, v1, k1, h1⟩ => ?_⟩
    obtain ⟨σ2, d, e2, s2, r2, k2, h2⟩ := fin_settler h1 s1 v1
    have q := hk _ _ _ _ e1 e2
    cases d <;> first | exact absurd q Bool.false_ne_true | skip
    cases r2 with
    | tup h3 r3 => exact ⟨_, _, rfl, SqT.sm hid_sub h3, h2 _ _ ⟨s2, it_enT h3 r3⟩ (Keep.refl _ _).inr⟩
  · refine (pi_enum hg hm pa hs).run pins s0 σV H Q I ⟨C, σ, s, (fin_er h).imp fun x H1 ⟨σ1, r, e1, s1, v1, k1, h1⟩ => ?_⟩
    obtain ⟨σ2, d, e2, s2, r2, k2, h2⟩ := fin_settler h1 s1 v1
    have q := hk _ _ _ _ e1 e2
    cases d <;> first | exact absurd q.symm Bool.false_ne_true | exact h2.elim | skip
    · cases r2 with
      | lst h3 r3 => exact ⟨_, _, rfl, .inl (.inl (hid_sub _ _ h3)), h2 _ _ ⟨s2, it_enum (.inl (.inl h3)) r3⟩ (Keep.refl _ _).inr⟩
    · cases r2 with
      | scr h3 r3 => exact ⟨_, _, rfl, hid_sub.seq h3, h2 _ _ ⟨s2, it_enum h3 r3⟩ (Keep.refl _ _).inr⟩
def asInt (r : Rv) : M Int := fun σ => match rdv σ r with
  | some (.int i) => if -(2 ^ 62) ≤ i ∧ i < 2 ^ 62 then .ok i σ else .bad
  | _ => .bad
theorem fin_int {K : PySem.W.Frag} {mg : PySem.Str → Option Value} {C : Cn} {H : Hp} {σV : L2.St} {σ : Sg} {α β : Type} {Rel : RelS α β} {r : Rv} {v : V} {f : Int → M α} {Q : β → Hp → Prop} (h : FinG Rel mg W C σV H σ (asInt r >>= f) Q) (s : SR K C H σV σ) (p : RvR K C H σV σ r v) :
    ∃ i, v = .int i ∧ (-(2 ^ 62) ≤ i ∧ i < 2 ^ 62) ∧ FinG Rel mg W C σV H σ (f i) Q := by
  unfold FinG asInt at h
  rw [bind_eq] at h
  cases e : rdv σ r with
  | none => simp only [e] at h
  | some d =>
    cases d <;> simp only [e] at h
    rename_i i
    by_cases hi : -(2 ^ 62) ≤ i ∧ i < 2 ^ 62
    · rw [if_pos hi] at h
      exact ⟨i, (p.read s e).int, hi, h⟩
    · rw [if_neg hi] at h
      exact h.elim
def mRange1 (ma : M Rv) : M (List D) := do let r ← ma; let j ← asInt r; pure ((List.range j.toNat).map fun i => .int (0 + (i : Nat)))
def mRange2 (ma mb : M Rv) : M (List D) := do let r ← ma; let r' ← mb; let i ← asInt r; let j ← asInt r'; pure ((List.range (j - i).toNat).map fun k => .int (i + (k : Nat)))
theorem iv_range1 (hg : Gl X "range") (hm : X.mg "range" = none) (ha : EV X W e ma) (hs : starEach [e] X.env = [(false, eval e X.env)] := by rfl) : IV X W tg (.Call (.Name "range" p) [e] [] pos) (mRange1 ma) := by
  have pa : PA X [e] (tCons (tE X.K X.mg W ma) tNil) := pa_cons ha.pe pa_nil hs
  refine ⟨PI.imp (pi_range1 hg hm pa hs) fun σV H Q ⟨C, σ, s, h⟩ => ⟨C, σ, s, (fin_e h).imp fun x H1 ⟨σ1, r, s1, v1, k1, h1⟩ => ?_⟩⟩
  obtain ⟨j, rfl, hj, h2⟩ := fin_int h1 s1 v1
  exact ⟨j, rfl, hj.1, hj.2, h2 _ _ ⟨s1, it_range⟩ (Keep.refl _ _).inr⟩
theorem iv_range2 (hg : Gl X "range") (hm : X.mg "range" = none) (ha : EV X W e ma) (hb : EV X W e2 mb) (hs : starEach [e, e2] X.env = [(false, eval e X.env), (false, eval e2 X.env)] := by rfl) (hs2 : starEach [e2] X.env = [(false, eval e2 X.env)] := by rfl) :
    IV X W tg (.Call (.Name "range" p) [e, e2] [] pos) (mRange2 ma mb) := by
  have pa : PA X [e, e2] (tCons (tE X.K X.mg W ma) (tCons (tE X.K X.mg W mb) tNil)) := pa_cons ha.pe (pa_cons hb.pe pa_nil hs2) (by rw [hs, hs2])
  refine ⟨PI.imp (pi_range2 hg hm pa hs hs2) fun σV H Q ⟨C, σ, s, h⟩ => ⟨C, σ, s, (fin_e h).imp fun x H1 ⟨σ1, r, s1, v1, k1, h1⟩ => ⟨C, σ1, s1, (fin_e h1).imp fun y H2 ⟨σ2, r2, s2, v2, k2, h2⟩ => ?_⟩⟩⟩
  obtain ⟨i, rfl, hi, h3⟩ := fin_int h2 s2 (v1.keep k2)
  obtain ⟨j, rfl, hj, h4⟩ := fin_int h3 s2 v2
  exact ⟨i, j, rfl, ⟨hi.1, hi.2, hj.1, hj.2⟩, h4 _ _ ⟨s2, it_range⟩ (Keep.refl _ _).inr⟩
def mZip (ma mb : M Rv) : M (List D) := do
  let r ← ma
  let r' ← mb
  let d ← settle r
  let d' ← settle r'
  match d, d' with
  | .lst xs, .lst ys => pure ((xs.zip ys).map fun p => .tup [p.1, p.2])
  | .tup xs, .tup ys => pure ((xs.zip ys).map fun p => .tup [p.1, p.2])
  | _, _ => M.bad
theorem iv_zip (hg : Gl X "zip") (hm : X.mg "zip" = none) (ha : EV X W e ma) (hb : EV X W e2 mb) (hs : starEach [e, e2] X.env = (false, eval e X.env) :: starEach [e2] X.env := by rfl) (hpl : (backTo pos (starEach [e2] X.env)).any (·.1) = false := by rfl) (hs2 : starEach [e2] X.env = (false, eval e2 X.env) :: starEach [] X.env := by rfl) :
    IV X W (.Tuple elts kk tpos) (.Call (.Name "zip" p) [e, e2] [] pos) (mZip ma mb) := by
  have pa : PA X [e, e2] (tCons (tE X.K X.mg W ma) (tCons (tE X.K X.mg W mb) tNil)) := pa_cons ha.pe (pa_cons hb.pe pa_nil hs2) hs
  refine ⟨PI.imp (RZ.pi_zipA hg hm pa hs hpl) fun σV H Q ⟨C, σ, s, h⟩ => ⟨C, σ, s, (fin_e h).imp fun x H1 ⟨σ1, r, s1, v1, k1, h1⟩ => ⟨C, σ1, s1, (fin_e h1).imp fun y H2 ⟨σ2, r2, s2, v2, k2, h2⟩ => ?_⟩⟩⟩
  obtain ⟨σ3, d, s3, r3, k3, h3⟩ := fin_settle h2 s2 (v1.keep k2)
  obtain ⟨σ4, d', s4, r4, k4, h4⟩ := fin_settle h3 s3 (v2.keep k3)
  have r3' := r3.mono k4.hid
  cases d <;> cases d' <;> first | exact h4.elim | skip
  · cases r3' with
    | tup p1 q1 => cases r4 with
      | tup p2 q2 => exact ⟨_, _, _, _, rfl, .inr ⟨SqT.sm hid_sub p1, SqT.sm hid_sub p2, h4 _ _ ⟨s4, it_zipT p1 q1 p2 q2⟩ (Keep.refl _ _).inr⟩⟩
  · cases r3' with
    | lst p1 q1 => cases r4 with
      | lst p2 q2 => exact ⟨_, _, _, _, rfl, .inl ⟨.inl (.inl (hid_sub _ _ p1)), .inl (.inl (hid_sub _ _ p2)), h4 _ _ ⟨s4, it_zipL (.inl (.inl p1)) q1 (.inl (.inl p2)) q2⟩ (Keep.refl _ _).inr⟩⟩
end
end DL

set_option Elab.async false
set_option linter.all false
set_option maxRecDepth 100000
/-! DG: stores, targets, statements. -/
namespace DL
open PySem PySem.Spec PyProof.Rows L2

/-! ### a slot is stored -/
section
variable {K : PySem.W.Frag} {C : Cn} {H H' : Hp} {σV : L2.St} {σ σ' : Sg}
theorem get_set {α : Type} {l : List α} {i j : Nat} {x y : α} (e : (l.set i x)[j]? = some y) : (i = j ∧ y = x ∧ i < l.length) ∨ (i ≠ j ∧ l[j]? = some y) := by
  by_cases h : i = j
  · subst h
    by_cases hi : i < l.length
    · rw [List.getElem?_set_self hi] at e
      exact .inl ⟨rfl, (Option.some.inj e).symm, hi⟩
    · rw [List.getElem?_eq_none (by simpa using hi)] at e
      cases e
  · rw [List.getElem?_set_ne h] at e
    exact .inr ⟨h, e⟩
theorem owns_set_sh {i : Nat} {d : D} {v : V} {b : Addr} (o : Owns (σV.set i (some v)) (σ.set i (.sh d)) b) : Owns σV σ b := by
  obtain ⟨j, bb, d', e1, e2⟩ := o
  rcases get_set e1 with ⟨_, e, _⟩ | ⟨hj, e1⟩
  · cases e
  · rw [List.getElem?_set_ne hj] at e2
    exact ⟨j, bb, d', e1, e2⟩
theorem SR.setSh (s : SR K C H σV σ) {i : Nat} {d : D} {v : V} (hi : i < σ.length) (r : R K (hid (Hd C.A σV σ) H) d v) : SR K C H (σV.set i (some v)) (σ.set i (.sh d)) := by
  have q : Same (hid (Hd C.A σV σ) H) (hid (Hd C.A (σV.set i (some v)) (σ.set i (.sh d))) H) := hid_mono fun b o h n => ⟨h, fun z => n (z.elim .inl fun z => .inr (owns_set_sh z))⟩
  refine ⟨by rw [List.length_set, List.length_set]; exact s.len, s.al, fun b z o => s.nA b z (owns_set_sh o), fun j d' e1 => ?_, fun j bb d' e1 => ?_, fun j k b c d1 d2 a e1 e2 e3 e4 => ?_⟩
  · rcases get_set e1 with ⟨rfl, e, _⟩ | ⟨hj, e1⟩
    · cases e
      exact ⟨v, List.getElem?_set_self (by rw [← s.len]; exact hi), r.mono q⟩
    · obtain ⟨v', h1, h2⟩ := s.sh j d' e1
      exact ⟨v', by rw [List.getElem?_set_ne hj]; exact h1, h2.mono q⟩
  · rcases get_set e1 with ⟨_, e, _⟩ | ⟨hj, e1⟩
    · cases e
    · obtain ⟨a', h1, h2, h3⟩ := s.ow j bb d' e1
      exact ⟨a', by rw [List.getElem?_set_ne hj]; exact h1, h2.mono q rfl, h3⟩
  · rcases get_set e1 with ⟨_, e, _⟩ | ⟨hj, e1⟩
    · cases e
    · rcases get_set e2 with ⟨_, e, _⟩ | ⟨hk, e2⟩
      · cases e
      · rw [List.getElem?_set_ne hj] at e3
        rw [List.getElem?_set_ne hk] at e4
        exact s.inj j k _ _ _ _ a e1 e2 e3 e4
theorem owns_set_ow {i : Nat} {bb : Bool} {d : D} {a b : Addr} (o : Owns (σV.set i (some (.ref a))) (σ.set i (.ow bb d)) b) : Owns σV σ b ∨ b = a := by
  obtain ⟨j, b', d', e1, e2⟩ := o
  rcases get_set e1 with ⟨rfl, e, _⟩ | ⟨hj, e1⟩
  · cases e
    rcases get_set e2 with ⟨_, e, _⟩ | ⟨hk, _⟩
    · cases e; exact .inr rfl
    · exact (hk rfl).elim
  · rw [List.getElem?_set_ne hj] at e2
    exact .inl ⟨j, b', d', e1, e2⟩
theorem SR.setOw {a : Addr} (s : SR K (C.and a) H σV σ) (na : ¬ C.A a) {i : Nat} {d : D} (hi : i < σ.length) (r : OwR K (hid (Hd (C.and a).A σV σ) H) H d a) : SR K C H (σV.set i (some (.ref a))) (σ.set i (.ow false d)) := by
  have q : Same (hid (Hd (C.and a).A σV σ) H) (hid (Hd C.A (σV.set i (some (.ref a))) (σ.set i (.ow false d))) H) := hid_mono fun b o h n => ⟨h, fun z => n (z.elim (fun z => .inl (.inl z)) fun z => (owns_set_ow z).elim .inr fun z => .inl (.inr z))⟩
  have no : ¬ Owns σV σ a := s.nA a (.inr rfl)
  refine ⟨by rw [List.length_set, List.length_set]; exact s.len, fun b z => s.al b (.inl z), fun b z o => ?_, fun j d' e1 => ?_, fun j bb d' e1 => ?_, fun j k b c d1 d2 a' e1 e2 e3 e4 => ?_⟩
  · rcases owns_set_ow o with o | o
    · exact s.nA b (.inl z) o
    · rw [o] at z; exact na z
  · rcases get_set e1 with ⟨_, e, _⟩ | ⟨hj, e1⟩
    · cases e
    · obtain ⟨v', h1, h2⟩ := s.sh j d' e1
      exact ⟨v', by rw [List.getElem?_set_ne hj]; exact h1, h2.mono q⟩
  · rcases get_set e1 with ⟨rfl, e, _⟩ | ⟨hj, e1⟩
    · cases e
      exact ⟨a, List.getElem?_set_self (by rw [← s.len]; exact hi), r.mono q rfl, fun z => absurd z Bool.false_ne_true⟩
    · obtain ⟨a', h1, h2, h3⟩ := s.ow j bb d' e1
      exact ⟨a', by rw [List.getElem?_set_ne hj]; exact h1, h2.mono q rfl, h3⟩
  · rcases get_set e1 with ⟨rfl, e, _⟩ | ⟨hj, e1⟩
    · rcases get_set e2 with ⟨e', _, _⟩ | ⟨hk, e2⟩
      · exact e'
      · rcases get_set e3 with ⟨_, e, _⟩ | ⟨z, _⟩
        · cases e
          rw [List.getElem?_set_ne hk] at e4
          exact (no ⟨k, c, d2, e2, e4⟩).elim
        · exact (z rfl).elim
    · rcases get_set e2 with ⟨rfl, e, _⟩ | ⟨hk, e2⟩
      · rcases get_set e4 with ⟨_, e, _⟩ | ⟨z, _⟩
        · cases e
          rw [List.getElem?_set_ne hj] at e3
          exact (no ⟨j, b, d1, e1, e3⟩).elim
        · exact (z rfl).elim
      · rw [List.getElem?_set_ne hj] at e3
        rw [List.getElem?_set_ne hk] at e4
        exact s.inj j k _ _ _ _ a' e1 e2 e3 e4
/-- an own list is written -/
theorem SR.write (s : SR K C H σV σ) {i : Nat} {b : Bool} {xs ys : List D} {a : Addr} {us : List V} (e : σ[i]? = some (.ow b (.lst xs))) (ea : σV[i]? = some (some (.ref a)))
    (r : Rs K (hid (Hd C.A σV σ) H) ys us) : SR K C (upd H a (.lst us)) σV (σ.set i (.ow b (.lst ys))) ∧ Keep (Owns σV σ) H (Owns σV (σ.set i (.ow b (.lst ys)))) (upd H a (.lst us)) := by
  have hi : i < σ.length := (List.getElem?_eq_some_iff.mp e).1
  have oa : Owns σV σ a := ⟨i, b, _, e, ea⟩
  have oo : ∀ c, Owns σV (σ.set i (.ow b (.lst ys))) c → Owns σV σ c := fun c ⟨j, b', d', e1, e2⟩ => by
    rcases get_set e1 with ⟨rfl, e', _⟩ | ⟨hj, e1⟩
    · cases e'; exact ⟨_, _, _, e, e2⟩
    · exact ⟨j, b', d', e1, e2⟩
  have k : Keep (Owns σV σ) H (Owns σV (σ.set i (.ow b (.lst ys)))) (upd H a (.lst us)) := fun c o h n => by
    have hc : c ≠ a := fun z => n (z ▸ oa)
    exact ⟨by rw [upd_ne hc]; exact h, fun z => n (oo c z)⟩
  have q := k.hid (A := C.A)
  refine ⟨⟨by rw [List.length_set]; exact s.len, fun c z => ?_, fun c z o => s.nA c z (oo c o), fun j d' e1 => ?_, fun j bb d' e1 => ?_, fun j l b1 b2 d1 d2 a' e1 e2 e3 e4 => ?_⟩, k⟩
  · by_cases hc : c = a
    · rw [hc, upd_same]; exact fun z => nomatch z
    · rw [upd_ne hc]; exact s.al c z
  · rcases get_set e1 with ⟨_, e', _⟩ | ⟨hj, e1⟩
    · cases e'
    · obtain ⟨v', h1, h2⟩ := s.sh j d' e1
      exact ⟨v', h1, h2.mono q⟩
  · rcases get_set e1 with ⟨rfl, e', _⟩ | ⟨hj, e1⟩
    · cases e'
      obtain ⟨a', h1, _, h3⟩ := s.ow _ _ _ e
      rw [ea] at h1; cases h1
      exact ⟨a, ea, ⟨us, upd_same, r.mono q⟩, h3⟩
    · obtain ⟨a', h1, h2, h3⟩ := s.ow j bb d' e1
      have hc : a' ≠ a := fun z => by
        subst z
        exact hj (s.inj i j _ _ _ _ _ e e1 ea h1)
      exact ⟨a', h1, h2.mono q (by rw [upd_ne hc]), h3⟩
  · rcases get_set e1 with ⟨rfl, e', _⟩ | ⟨hj, e1⟩
    · rcases get_set e2 with ⟨z, _, _⟩ | ⟨hl, e2⟩
      · exact z
      · exact s.inj _ l _ _ _ _ a' e e2 e3 e4
    · rcases get_set e2 with ⟨rfl, _, _⟩ | ⟨hl, e2⟩
      · exact s.inj j _ _ _ _ _ a' e1 e e3 e4
      · exact s.inj j l _ _ _ _ a' e1 e2 e3 e4
end
def free (σ : Sg) (i : Nat) : Bool := match σ[i]? with
  | some (.ow true _) => false
  | some _ => true
  | none => false
theorem free_lt {σ : Sg} {i : Nat} (h : free σ i = true) : i < σ.length := by
  unfold free at h
  cases e : σ[i]? with
  | none => rw [e] at h; exact absurd h Bool.false_ne_true
  | some t => exact (List.getElem?_eq_some_iff.mp e).1
def store (i : Nat) (r : Rv) : M Unit := fun σ => match r with
  | .v d => if free σ i then .ok () (σ.set i (.sh d)) else .bad
  | .fr d => if free σ i then .ok () (σ.set i (.ow false d)) else .bad
  | .ln j => match settle (.ln j) σ with
    | .ok d σ' => if free σ' i then .ok () (σ'.set i (.sh d)) else .bad
    | _ => .bad
section
variable {K : PySem.W.Frag} {C : Cn} {H H0 : Hp} {σV : L2.St} {σ σ' : Sg} {O : Addr → Prop}
theorem store_ok {i : Nat} {r : Rv} {v : V} (p : PostR K C H σV σ r v) (k : Keep O H0 (fun c => Owns σV σ c ∨ exE r v c) H) (e : store i r σ = .ok () σ') :
    SR K C H (σV.set i (some v)) σ' ∧ Keep O H0 (Owns (σV.set i (some v)) σ') H := by
  unfold store at e
  cases r with
  | v d =>
    simp only at e
    split at e
    · rename_i hf
      cases e
      exact ⟨p.1.setSh (free_lt hf) p.2, fun b o h n => let ⟨h1, n1⟩ := k b o h n; ⟨h1, fun z => n1 (.inl (owns_set_sh z))⟩⟩
    · cases e
  | fr d =>
    simp only at e
    split at e
    · rename_i hf
      cases e
      obtain ⟨a, rfl, na, s, r⟩ := p
      exact ⟨s.setOw na (free_lt hf) r, fun b o h n => let ⟨h1, n1⟩ := k b o h n; ⟨h1, fun z => (owns_set_ow z).elim (fun z => n1 (.inl z)) fun z => n1 (.inr (by rw [z]; exact rfl))⟩⟩
    · cases e
  | ln j =>
    simp only at e
    cases q : settle (.ln j) σ with
    | exc c ps => simp only [q] at e; cases e
    | bad => simp only [q] at e; cases e
    | ok d σ1 =>
      simp only [q] at e
      split at e
      · rename_i hf
        cases e
        obtain ⟨s1, r1, k1⟩ := settle_ok p.1 (show RvR K C H σV σ (.ln j) v from p.2) q
        exact ⟨s1.setSh (free_lt hf) r1, fun b o h n => let ⟨h1, n1⟩ := k b o h n; let ⟨_, n2⟩ := k1 b o h1 fun z => n1 (.inl z); ⟨h1, fun z => n2 (owns_set_sh z)⟩⟩
      · cases e
theorem store_noexc {i : Nat} {r : Rv} {c : PySem.Str} {ps : List D} : store i r σ ≠ .exc c ps := fun e => by
  unfold store at e
  cases r with
  | v d => simp only at e; split at e <;> cases e
  | fr d => simp only at e; split at e <;> cases e
  | ln j =>
    simp only at e
    cases q : settle (.ln j) σ with
    | exc c ps => simp only [q] at e; cases e
    | bad => simp only [q] at e; cases e
    | ok d σ1 => simp only [q] at e; split at e <;> cases e
end

/-! ### statements -/
inductive Fl where
  | nx | br | ct | rt (r : Rv)
def EndS (K : PySem.W.Frag) (mg : PySem.Str → Option Value) (W : WX) (C : Cn) (σV : L2.St) (H : Hp) (σ : Sg) (E : Ends) : Res Fl → Prop
  | .ok .nx σ' => ∀ σV' H', SR K C H' σV' σ' → Keep (Owns σV σ) H (Owns σV' σ') H' → E.nx σV' H'
  | .ok .br σ' => ∀ σV' H', SR K C H' σV' σ' → Keep (Owns σV σ) H (Owns σV' σ') H' → E.bk σV' H'
  | .ok .ct σ' => ∀ σV' H', SR K C H' σV' σ' → Keep (Owns σV σ) H (Owns σV' σ') H' → E.ct σV' H'
  | .ok (.rt r) σ' => ∀ σV' v H', PostR K C H' σV' σ' r v → Keep (Owns σV σ) H (fun c => Owns σV' σ' c ∨ exE r v c) H' → E.rt v H'
  | .exc c ps => XP mg W σV H σ c ps
  | .bad => False
def FinS (K : PySem.W.Frag) (mg : PySem.Str → Option Value) (W : WX) (C : Cn) (σV : L2.St) (H : Hp) (σ : Sg) (m : M Fl) (E : Ends) : Prop := EndS K mg W C σV H σ E (m σ)
def tS (K : PySem.W.Frag) (mg : PySem.Str → Option Value) (W : WX) (m : M Fl) : TS := fun E σV H => ∃ C σ, SR K C H σV σ ∧ FinS K mg W C σV H σ m E
structure SV (X : Cx) (W : WX) (st : Stmt) (m : M Fl) : Prop where
  ps : PS X st (tS X.K X.mg W m)
structure BV (X : Cx) (W : WX) (st : List Stmt) (m : M Fl) : Prop where
  pss : PSs X st (tS X.K X.mg W m)
theorem PS.imp {X : Cx} {st : Stmt} {t t' : TS} (h : PS X st t) (i : ∀ E σ H, t' E σ H → t E σ H) : PS X st t' := ⟨fun pins s σ H E I q => h.run pins s σ H E I (i E σ H q)⟩
theorem PSs.imp {X : Cx} {st : List Stmt} {t t' : TS} (h : PSs X st t) (i : ∀ E σ H, t' E σ H → t E σ H) : PSs X st t' := ⟨fun pins s σ H E I q => h.run pins s σ H E I (i E σ H q)⟩
/-- the wish about exceptions doesn't look at slots -/
def Wi (W : WX) : Prop := ∀ c d σ σ' H, W c d σ H → W c d σ' H
def mSeq (m1 m2 : M Fl) : M Fl := do
  let f ← m1
  match f with
  | .nx => m2
  | f => pure f
section
variable {K : PySem.W.Frag} {mg : PySem.Str → Option Value} {W : WX} {C : Cn} {σV σV1 : L2.St} {H H1 : Hp} {σ σ1 : Sg} {α : Type}
theorem XP.stepS (hw : Wi W) {c : PySem.Str} {ps : List D} (x : XP mg W σV H σ c ps) (k : Keep (Owns σV σ) H (Owns σV1 σ1) H1) : XP mg W σV1 H1 σ1 c ps := fun H' cl d f e =>
  hw _ _ _ _ _ (x H' cl d (fun b o h n => let ⟨h1, n1⟩ := k b o h n; f b o h1 n1) e)
theorem FinS.step (hw : Wi W) {m : M Fl} {E : Ends} (k : Keep (Owns σV σ) H (Owns σV1 σ1) H1) (h : EndS K mg W C σV H σ E (m σ1)) : FinS K mg W C σV1 H1 σ1 m E := by
  unfold FinS
  cases e : m σ1 with
  | bad => rw [e] at h; exact h
  | exc c ps => rw [e] at h; exact XP.stepS hw h k
  | ok f σ' =>
    rw [e] at h
    cases f with
    | nx => exact fun σV' H' s k' => h σV' H' s (k.trans k')
    | br => exact fun σV' H' s k' => h σV' H' s (k.trans k')
    | ct => exact fun σV' H' s k' => h σV' H' s (k.trans k')
    | rt r => exact fun σV' v H' s k' => h σV' v H' s (k.trans k')
/-- an expression, then the statement's rest; its value with what it owns -/
theorem finS_e {ma : M Rv} {f : Rv → M Fl} {E : Ends} (h : FinS K mg W C σV H σ (ma >>= f) E) :
    FinG (RelE K σV) mg W C σV H σ ma fun v H1 => ∃ σ1 r, PostR K C H1 σV σ1 r v ∧ Keep (Owns σV σ) H (fun c => Owns σV σ1 c ∨ exE r v c) H1 ∧ EndS K mg W C σV H σ E (f r σ1) := by
  unfold FinS at h
  unfold FinG
  rw [bind_eq] at h
  cases e : ma σ with
  | ok r σ1 =>
    rw [e] at h
    exact fun v H1 p k => ⟨σ1, r, p, k, h⟩
  | exc c ps => rw [e] at h; exact h
  | bad => rw [e] at h; exact h
theorem finS_b {ta : M Bool} {f : Bool → M Fl} {E : Ends} (hw : Wi W) (h : FinS K mg W C σV H σ (ta >>= f) E) :
    FinG (RelB K σV) mg W C σV H σ ta fun v H1 => ∃ σ1, SR K C H1 σV σ1 ∧ Keep (Owns σV σ) H (Owns σV σ1) H1 ∧ FinS K mg W C σV H1 σ1 (f v) E := by
  unfold FinS at h
  unfold FinG
  rw [bind_eq] at h
  cases e : ta σ with
  | ok r σ1 =>
    rw [e] at h
    intro v H1 p k
    obtain ⟨rfl, s1⟩ := p
    exact ⟨σ1, s1, k.inl, FinS.step hw k.inl h⟩
  | exc c ps => rw [e] at h; exact h
  | bad => rw [e] at h; exact h
end
section
variable {X : Cx} {W : WX} {st : Stmt} {rest a b : List Stmt} {e c : Expr} {pos : Pos} {m1 m2 : M Fl} {ma : M Rv} {ta : M Bool}
theorem bv_nil : BV X W [] (pure .nx) := ⟨PSs.imp pss_nil fun E σV H ⟨C, σ, s, h⟩ => h σV H s (Keep.refl _ _)⟩
theorem bv_one (h : SV X W st m1) : BV X W [st] m1 := ⟨pss_one h.ps⟩
theorem bv_cons (hw : Wi W) (h1 : SV X W st m1) (h2 : BV X W rest m2) : BV X W (st :: rest) (mSeq m1 m2) := by
  refine ⟨PSs.imp (pss_cons h1.ps h2.pss) fun E σV H ⟨C, σ, s, h⟩ => ⟨C, σ, s, ?_⟩⟩
  unfold FinS mSeq at h
  rw [bind_eq] at h
  unfold FinS
  cases e1 : m1 σ with
  | bad => rw [e1] at h; exact h
  | exc c ps => rw [e1] at h; exact h
  | ok f σ1 =>
    rw [e1] at h
    cases f with
    | nx => exact fun σV1 H1 s1 k1 => ⟨C, σ1, s1, FinS.step hw k1 h⟩
    | br => exact h
    | ct => exact h
    | rt r => exact h
theorem sv_pass : SV X W (.Pass pos) (pure .nx) := ⟨PS.imp ps_pass fun E σV H ⟨C, σ, s, h⟩ => h σV H s (Keep.refl _ _)⟩
theorem sv_break : SV X W (.Break pos) (pure .br) := ⟨PS.imp ps_break fun E σV H ⟨C, σ, s, h⟩ => h σV H s (Keep.refl _ _)⟩
theorem sv_cont : SV X W (.Continue pos) (pure .ct) := ⟨PS.imp ps_continue fun E σV H ⟨C, σ, s, h⟩ => h σV H s (Keep.refl _ _)⟩
def mDrop (ma : M Rv) : M Fl := do let _ ← ma; pure .nx
theorem sv_expr (ha : EV X W e ma) (hs : swapsWith e none pos.line X.env = pure false := by rfl) : SV X W (.Expr e pos) (mDrop ma) := by
  refine ⟨PS.imp (ps_expr ha.pe hs) fun E σV H ⟨C, σ, s, h⟩ => ⟨C, σ, s, (finS_e h).imp fun v H1 ⟨σ1, r, p, k, h1⟩ => ?_⟩⟩
  exact h1 σV H1 p.weak.1 k.inl
/-- a slot's own list, handed back, is the caller's -/
def handed (r : Rv) : M Fl := fun σ => match r with
  | .ln i => match σ[i]? with
    | some (.sh d) => .ok (.rt (.v d)) σ
    | some (.ow false d) => .ok (.rt (.fr d)) (σ.set i .no)
    | _ => .bad
  | r => .ok (.rt r) σ
theorem post_handed {K : PySem.W.Frag} {C : Cn} {σV : L2.St} {H H0 : Hp} {σ : Sg} {O : Addr → Prop} {i : Nat} {d : D} {v : V} (s : SR K C H σV σ) (ev : σV[i]? = some (some v)) (e : σ[i]? = some (.ow false d)) (k : Keep O H0 (Owns σV σ) H) :
    PostR K C H σV (σ.set i .no) (.fr d) v ∧ Keep O H0 (fun c => Owns σV (σ.set i .no) c ∨ exE (.fr d) v c) H := by
  obtain ⟨a, ea, ra, _⟩ := s.ow i false d e
  rw [ev] at ea; cases ea
  have hi : i < σ.length := (List.getElem?_eq_some_iff.mp e).1
  have oa : Owns σV σ a := ⟨i, false, d, e, ev⟩
  have oo : ∀ c, Owns σV (σ.set i .no) c → Owns σV σ c ∧ c ≠ a := fun c ⟨j, b', d', e1, e2⟩ => by
    rcases get_set e1 with ⟨_, e', _⟩ | ⟨hj, e1⟩
    · cases e'
    · exact ⟨⟨j, b', d', e1, e2⟩, fun z => hj (s.inj i j _ _ _ _ a e e1 ev (by rw [← z]; exact e2))⟩
  have q : Same (hid (Hd C.A σV σ) H) (hid (Hd (C.and a).A σV (σ.set i .no)) H) := hid_mono fun b o h n => ⟨h, fun z => by
    rcases z with (z | z) | z
    · exact n (.inl z)
    · exact n (.inr (z ▸ oa))
    · exact n (.inr (oo b z).1)⟩
  refine ⟨⟨a, rfl, fun z => s.nA a z oa, ⟨by rw [List.length_set]; exact s.len, fun b z => ?_, fun b z o => ?_, fun j d' e1 => ?_, fun j bb d' e1 => ?_, fun j l b1 b2 d1 d2 a' e1 e2 e3 e4 => ?_⟩, ra.mono q rfl⟩, fun b o h n => ?_⟩
  · rcases z with z | z
    · exact s.al b z
    · rw [z]; exact s.owned oa
  · rcases z with z | z
    · exact s.nA b z (oo b o).1
    · exact (oo b o).2 z
  · rcases get_set e1 with ⟨_, e', _⟩ | ⟨hj, e1⟩
    · cases e'
    · obtain ⟨v', h1, h2⟩ := s.sh j d' e1
      exact ⟨v', h1, h2.mono q⟩
  · rcases get_set e1 with ⟨_, e', _⟩ | ⟨hj, e1⟩
    · cases e'
    · obtain ⟨a', h1, h2, h3⟩ := s.ow j bb d' e1
      exact ⟨a', h1, h2.mono q rfl, h3⟩
  · rcases get_set e1 with ⟨_, e', _⟩ | ⟨hj, e1⟩
    · cases e'
    · rcases get_set e2 with ⟨_, e', _⟩ | ⟨hl, e2⟩
      · cases e'
      · exact s.inj j l _ _ _ _ a' e1 e2 e3 e4
  · obtain ⟨h1, n1⟩ := k b o h n
    exact ⟨h1, fun z => z.elim (fun z => n1 (oo b z).1) fun z => by cases (show V.ref a = V.ref b from z); exact n1 oa⟩
theorem sv_ret (ha : EV X W e ma) : SV X W (.Return (some e) pos) (do let r ← ma; handed r) := by
  refine ⟨PS.imp (ps_ret ha.pe) fun E σV H ⟨C, σ, s, h⟩ => ⟨C, σ, s, (finS_e h).imp fun v H1 ⟨σ1, r, p, k, h1⟩ => ?_⟩⟩
  unfold handed at h1
  cases r with
  | v d => exact h1 σV v H1 p k
  | fr d => exact h1 σV v H1 p k
  | ln i =>
    obtain ⟨s1, ev⟩ := p
    cases q : σ1[i]? with
    | none => simp only [q] at h1; exact h1.elim
    | some t =>
      cases t with
      | no => simp only [q] at h1; exact h1.elim
      | sh d =>
        simp only [q] at h1
        obtain ⟨v', e1, r1⟩ := s1.sh i d q
        rw [ev] at e1; cases e1
        exact h1 σV v H1 ⟨s1, r1⟩ k
      | ow b d =>
        cases b with
        | true => simp only [q] at h1; exact h1.elim
        | false =>
          simp only [q] at h1
          obtain ⟨p2, k2⟩ := post_handed s1 ev q k.inl
          exact h1 σV v H1 p2 k2
theorem sv_retN : SV X W (.Return none pos) (pure (.rt (.v .non))) := ⟨PS.imp ps_retN fun E σV H ⟨C, σ, s, h⟩ => h σV .non H ⟨s, .non⟩ (Keep.refl _ _).inr⟩
theorem sv_if (hw : Wi W) (hc : TV X W c ta) (ha : BV X W a m1) (hb : BV X W b m2) : SV X W (.If c a b pos) (mIf ta m1 m2) := by
  refine ⟨PS.imp (ps_if hc.pt ha.pss hb.pss) fun E σV H ⟨C, σ, s, h⟩ => ⟨C, σ, s, (finS_b hw h).imp fun k H1 ⟨σ1, s1, k1, h1⟩ => ?_⟩⟩
  cases k with
  | true => exact iteT ⟨C, σ1, s1, h1⟩
  | false => exact iteF ⟨C, σ1, s1, h1⟩
def mSet (i : Nat) (ma : M Rv) : M Fl := do let r ← ma; let _ ← store i r; pure .nx
theorem after_store {K : PySem.W.Frag} {mg : PySem.Str → Option Value} {C : Cn} {σV σV0 : L2.St} {H H0 : Hp} {σ σ0 : Sg} {i : Nat} {r : Rv} {v : V} {E : Ends} (p : PostR K C H σV σ r v) (k : Keep (Owns σV0 σ0) H0 (fun c => Owns σV σ c ∨ exE r v c) H)
    (h : EndS K mg W C σV0 H0 σ0 E ((do let _ ← store i r; pure .nx : M Fl) σ)) : E.nx (σV.set i (some v)) H := by
  rw [bind_eq] at h
  cases q : store i r σ with
  | bad => rw [q] at h; exact h.elim
  | exc c ps => exact (store_noexc q).elim
  | ok u σ' =>
    rw [q] at h
    obtain ⟨s1, k1⟩ := store_ok p k q
    exact h _ _ s1 k1
theorem sv_set {i : Nat} {x : PySem.Str} {pos' : Pos} (hN : X.N.Nodup) (hi : X.N[i]? = some x) (hx : Loc X.env.scope x) (ha : EV X W e ma) (hs : swapsWith e (some (.Name x pos')) pos.line X.env = pure false := by rfl) (hf : X.fn x = true ∨ X.env.scope.names.lookup x = some .local := by first | exact .inl rfl | exact .inr rfl | assumption) :
    SV X W (.Assign [.Name x pos'] e pos) (mSet i ma) := by
  refine ⟨PS.imp (ps_set hN hi hx ha.pe hs hf) fun E σV H ⟨C, σ, s, h⟩ => ⟨C, σ, s, (finS_e h).imp fun v H1 ⟨σ1, r, p, k, h1⟩ => ?_⟩⟩
  exact after_store p k h1
end
end DL

set_option Elab.async false
set_option linter.all false
set_option maxRecDepth 100000
/-! DH: targets, loops, stores into lists, methods of lists. -/
namespace DL
open PySem PySem.Spec PyProof.Rows L2

/-! ### targets -/
/-- the same but for the slots is -/
def Only (is : List Nat) (a b : L2.St) : Prop := a.length = b.length ∧ ∀ j, j ∉ is → a[j]? = b[j]?
def FinT (K : PySem.W.Frag) (C : Cn) (is : List Nat) (σV : L2.St) (H : Hp) (σ : Sg) (m : M Unit) (Q : L2.St → Hp → Prop) : Prop := match m σ with
  | .ok _ σ' => ∀ σV', SR K C H σV' σ' → Keep (Owns σV σ) H (Owns σV' σ') H → Only is σV σV' → Q σV' H
  | _ => False
structure GV (X : Cx) (tg : Expr) (is : List Nat) (g : D → M Unit) : Prop where
  pg : PG X tg fun v σV H Q => ∃ C σ d, SR X.K C H σV σ ∧ R X.K (hid (Hd C.A σV σ) H) d v ∧ FinT X.K C is σV H σ (g d) Q
structure GVs (X : Cx) (ts : List Expr) (is : List Nat) (g : List D → M Unit) : Prop where
  pgs : PGs X ts fun vs σV H Q => ∃ C σ ds, SR X.K C H σV σ ∧ Rs X.K (hid (Hd C.A σV σ) H) ds vs ∧ FinT X.K C is σV H σ (g ds) Q
theorem PG.imp {X : Cx} {tg : Expr} {t t' : TG} (h : PG X tg t) (i : ∀ v σ H Q, t' v σ H Q → t v σ H Q) : PG X tg t' := ⟨fun pins s σ H v u Q I r q => h.run pins s σ H v u Q I r (i v σ H Q q)⟩
theorem PGs.imp {X : Cx} {ts : List Expr} {t t' : TGs} (h : PGs X ts t) (i : ∀ v σ H Q, t' v σ H Q → t v σ H Q) : PGs X ts t' := ⟨fun pins s σ H v u Q I r q => h.run pins s σ H v u Q I r (i v σ H Q q)⟩
def gSet (i : Nat) (d : D) : M Unit := store i (.v d)
def gsNil (ds : List D) : M Unit := match ds with
  | [] => pure ()
  | _ => M.bad
def gsCons (g : D → M Unit) (gs : List D → M Unit) (ds : List D) : M Unit := match ds with
  | d :: r => do let _ ← g d; gs r
  | _ => M.bad
def gUnp (n : Nat) (gs : List D → M Unit) (d : D) : M Unit := match d with
  | .tup xs => if xs.length = n then gs xs else M.bad
  | _ => M.bad
section
variable {X : Cx} {W : WX} {pos : Pos}
theorem gv_name {i : Nat} {x : PySem.Str} (hN : X.N.Nodup) (hi : X.N[i]? = some x) (hx : Loc X.env.scope x) (hf : X.fn x = true ∨ X.env.scope.names.lookup x = some .local := by first | exact .inl rfl | exact .inr rfl | assumption) : GV X (.Name x pos) [i] (gSet i) := by
  refine ⟨PG.imp (pg_name hN hi hx hf) fun v σV H Q ⟨C, σ, d, s, r, h⟩ => ?_⟩
  show Q (σV.set i (some v)) H
  unfold FinT gSet at h
  cases q : store i (.v d) σ with
  | bad => rw [q] at h; exact h.elim
  | exc c ps => rw [q] at h; exact h.elim
  | ok u σ' =>
    rw [q] at h
    obtain ⟨s1, k1⟩ := store_ok (r := .v d) (O := Owns σV σ) (H0 := H) ⟨s, r⟩ (Keep.refl _ _).inr q
    exact h _ s1 k1 ⟨by rw [List.length_set], fun j hj => by rw [List.getElem?_set_ne fun e => hj (by rw [e]; exact List.mem_cons_self)]⟩
theorem gvs_nil : GVs X [] [] gsNil := by
  refine ⟨PGs.imp pgs_nil fun vs σV H Q ⟨C, σ, ds, s, r, h⟩ => ?_⟩
  cases r with
  | nil => exact ⟨rfl, h _ s (Keep.refl _ _) ⟨rfl, fun _ _ => rfl⟩⟩
  | cons _ _ => exact h.elim
theorem gvs_cons {e : Expr} {es : List Expr} {g : D → M Unit} {gs : List D → M Unit} {is js : List Nat} (h1 : GV X e is g) (h2 : GVs X es js gs)
    (hs : (assignEach (e :: es) X.env).map (·.2) = assign e X.env :: (assignEach es X.env).map (·.2) := by rfl) : GVs X (e :: es) (is ++ js) (gsCons g gs) := by
  refine ⟨PGs.imp (pgs_cons h1.pg h2.pgs hs) fun vs σV H Q ⟨C, σ, ds, s, r, h⟩ => ?_⟩
  cases r with
  | nil => exact h.elim
  | @cons d v dr vr r rr =>
    refine ⟨v, vr, rfl, C, σ, d, s, r, ?_⟩
    unfold FinT at h
    rw [show gsCons g gs (d :: dr) = (do let _ ← g d; gs dr) from rfl, bind_eq] at h
    unfold FinT
    cases q : g d σ with
    | bad => rw [q] at h; exact h.elim
    | exc c ps => rw [q] at h; exact h.elim
    | ok u σ1 =>
      rw [q] at h
      intro σV1 s1 k1 o1
      refine ⟨C, σ1, dr, s1, rr.mono (keep_hid (A := C.A) k1), ?_⟩
      cases q2 : gs dr σ1 with
      | bad => simp only [q2] at h
      | exc c ps => simp only [q2] at h
      | ok u2 σ2 =>
        simp only [q2] at h
        exact fun σV2 s2 k2 o2 => h σV2 s2 (k1.trans k2) ⟨o1.1.trans o2.1, fun j hj => (o1.2 j fun z => hj (List.mem_append_left _ z)).trans (o2.2 j fun z => hj (List.mem_append_right _ z))⟩
theorem gv_tup {es : List Expr} {k : Nat} {gs : List D → M Unit} {n : Nat} {is : List Nat} (hc : X.calm = true) (h : GVs X es is gs)
    (hn : (assignEach es X.env).length = n := by rfl) (hst : (assignEach es X.env).findIdx? (·.1) = none := by rfl) : GV X (.Tuple es k pos) is (gUnp n gs) := by
  refine ⟨PG.imp (pg_tup hc h.pgs hn hst) fun v σV H Q ⟨C, σ, d, s, r, h⟩ => ?_⟩
  unfold FinT at h
  cases d <;> first | exact h.elim | skip
  rename_i xs
  unfold gUnp at h
  by_cases hl : xs.length = n
  · simp only [hl, if_true] at h
    cases r with
    | tup h1 h2 => exact ⟨_, _, rfl, SqT.sm hid_sub h1, h2.length ▸ hl, C, σ, xs, s, h2, h⟩
  · simp only [hl, if_false] at h
    exact h.elim
end

/-! ### target = value -/
def mAsg (g : D → M Unit) (ma : M Rv) : M Fl := do let r ← ma; let d ← settle r; let _ ← g d; pure .nx
section
variable {K : PySem.W.Frag} {mg : PySem.Str → Option Value} {W : WX} {C : Cn} {σV σV0 σV1 : L2.St} {H H0 H1 : Hp} {σ σ0 σ1 : Sg} {α : Type}
/-- settling, told to a statement's end -/
theorem endS_settle {r : Rv} {v : V} {f : D → M Fl} {E : Ends} (h : EndS K mg W C σV0 H0 σ0 E ((settle r >>= f) σ)) (s : SR K C H σV σ) (p : RvR K C H σV σ r v) :
    ∃ σ1 d, settle r σ = .ok d σ1 ∧ SR K C H σV σ1 ∧ R K (hid (Hd C.A σV σ1) H) d v ∧ Keep (Owns σV σ) H (Owns σV σ1) H ∧ EndS K mg W C σV0 H0 σ0 E (f d σ1) := by
  rw [bind_eq] at h
  cases e1 : settle r σ with
  | exc c ps => exact (settle_noexc e1).elim
  | bad => rw [e1] at h; exact h.elim
  | ok d σ1 =>
    rw [e1] at h
    obtain ⟨s1, r1, k1⟩ := settle_ok s p e1
    exact ⟨σ1, d, rfl, s1, r1, k1, h⟩
/-- a target's store, told to a statement's end -/
theorem endS_T {m : M Unit} {f : M Fl} {E : Ends} {is : List Nat} (h : EndS K mg W C σV0 H0 σ0 E ((do let _ ← m; f : M Fl) σ)) {Q : L2.St → Hp → Prop}
    (q : ∀ σ' σV', SR K C H σV' σ' → Keep (Owns σV σ) H (Owns σV' σ') H → EndS K mg W C σV0 H0 σ0 E (f σ') → Q σV' H) (ne : ∀ c ps, m σ ≠ .exc c ps) : FinT K C is σV H σ m Q := by
  rw [bind_eq] at h
  unfold FinT
  cases e : m σ with
  | bad => rw [e] at h; exact h.elim
  | exc c ps => exact (ne c ps e).elim
  | ok u σ' =>
    rw [e] at h
    exact fun σV' s' k' _ => q σ' σV' s' k' h
/-- targets don't raise -/
def NoEx (m : M Unit) : Prop := ∀ σ c ps, m σ ≠ .exc c ps
theorem noEx_set (i : Nat) (d : D) : NoEx (gSet i d) := fun σ c ps => store_noexc
theorem noEx_nil (ds : List D) : NoEx (gsNil ds) := fun σ c ps e => by cases ds <;> cases e
theorem noEx_cons {g : D → M Unit} {gs : List D → M Unit} (h1 : ∀ d, NoEx (g d)) (h2 : ∀ ds, NoEx (gs ds)) (ds : List D) : NoEx (gsCons g gs ds) := fun σ c ps e => by
  cases ds with
  | nil => cases e
  | cons d r =>
    rw [show gsCons g gs (d :: r) = (do let _ ← g d; gs r) from rfl, bind_eq] at e
    cases q : g d σ with
    | bad => rw [q] at e; cases e
    | exc c' ps' => exact h1 d σ c' ps' q
    | ok u σ' => rw [q] at e; exact h2 r σ' c ps e
theorem noEx_unp {n : Nat} {gs : List D → M Unit} (h : ∀ ds, NoEx (gs ds)) (d : D) : NoEx (gUnp n gs d) := fun σ c ps e => by
  cases d <;> first | cases e | skip
  rename_i xs
  unfold gUnp at e
  by_cases hl : xs.length = n
  · simp only [hl, if_true] at e; exact h xs σ c ps e
  · simp only [hl, if_false] at e; cases e
end
section
variable {X : Cx} {W : WX} {st : Stmt} {rest a b : List Stmt} {e c tg : Expr} {pos : Pos} {m1 m2 : M Fl} {ma mb : M Rv} {ta : M Bool} {g : D → M Unit}
theorem sv_asg (ha : EV X W e ma) {is : List Nat} (hg : GV X tg is g) (ng : ∀ d, NoEx (g d)) (hs : swapsWithSole [tg] e pos.line X.env = pure false := by rfl) (hw : swappedStores [tg] e X.env = pure none := by rfl)
    (h1 : (assignEach [tg] X.env).map (·.2) = [assign tg X.env] := by rfl) : SV X W (.Assign [tg] e pos) (mAsg g ma) := by
  refine ⟨PS.imp (ps_asg ha.pe hg.pg hs hw h1) fun E σV H ⟨C, σ, s, h⟩ => ⟨C, σ, s, (finS_e h).imp fun v H1 ⟨σ1, r, p, k, h1⟩ => ?_⟩⟩
  obtain ⟨σ2, d, _, s2, r2, k2, h2⟩ := endS_settle h1 p.weak.1 p.weak.2
  exact ⟨C, σ2, d, s2, r2, endS_T h2 (fun σ' σV' s' k' h' => h' σV' H1 s' ((k.inl.trans k2).trans k')) (ng d σ2)⟩
end

/-! ### for -/
def forL (f : D → M Fl) : List D → M Fl
  | [] => pure .nx
  | d :: r => do
    let x ← f d
    match x with
    | .nx => forL f r
    | .ct => forL f r
    | .br => pure .nx
    | .rt v => pure (.rt v)
def mTurn (g : D → M Unit) (mb : M Fl) (d : D) : M Fl := do let _ ← g d; mb
def mFor (mi : M (List D)) (g : D → M Unit) (mb : M Fl) : M Fl := do let ds ← mi; forL (mTurn g mb) ds
section
variable {K : PySem.W.Frag} {mg : PySem.Str → Option Value} {W : WX} {C : Cn} {σV σV0 σV1 : L2.St} {H H0 H1 : Hp} {σ σ0 σ1 : Sg} {α : Type}
theorem finS_i {mi : M (List D)} {f : List D → M Fl} {E : Ends} (h : FinS K mg W C σV H σ (mi >>= f) E) :
    FinG (RelI K σV) mg W C σV H σ mi fun J H1 => ∃ σ1 ds, SR K C H1 σV σ1 ∧ ItOk K C.A (Owns σV σ1) J H1 ds ∧ Keep (Owns σV σ) H (Owns σV σ1) H1 ∧ EndS K mg W C σV H σ E (f ds σ1) := by
  unfold FinS at h
  unfold FinG
  rw [bind_eq] at h
  cases e : mi σ with
  | ok r σ1 =>
    rw [e] at h
    exact fun v H1 p k => ⟨σ1, r, p.1, p.2, k.inl, h⟩
  | exc c ps => rw [e] at h; exact h
  | bad => rw [e] at h; exact h
/-- a body's ends in a loop -/
theorem loop_body (hw : Wi W) {m : M Fl} {E : Ends} {N : L2.St → Hp → Prop} {go : M Fl} (k : Keep (Owns σV0 σ0) H0 (Owns σV σ) H)
    (h : EndS K mg W C σV0 H0 σ0 E ((do let x ← m; match x with
      | .nx => go
      | .ct => go
      | .br => pure .nx
      | .rt v => pure (.rt v) : M Fl) σ))
    (hn : ∀ σ' σV' H', SR K C H' σV' σ' → Keep (Owns σV σ) H (Owns σV' σ') H' → EndS K mg W C σV0 H0 σ0 E (go σ') → N σV' H') : FinS K mg W C σV H σ m { E with nx := N, ct := N, bk := E.nx } := by
  rw [bind_eq] at h
  unfold FinS
  cases e : m σ with
  | bad => rw [e] at h; exact h.elim
  | exc c ps => rw [e] at h; exact XP.stepS hw h k
  | ok x σ' =>
    rw [e] at h
    cases x with
    | nx => exact fun σV' H' s' k' => hn σ' σV' H' s' k' h
    | ct => exact fun σV' H' s' k' => hn σ' σV' H' s' k' h
    | br => exact fun σV' H' s' k' => h σV' H' s' (k.trans k')
    | rt v => exact fun σV' u H' s' k' => h σV' u H' s' (k.trans k')
end
section
variable {X : Cx} {W : WX} {st : Stmt} {rest a b body : List Stmt} {e c tg iter : Expr} {pos : Pos} {m1 m2 mbd : M Fl} {ma mb : M Rv} {ta : M Bool} {g : D → M Unit} {mi : M (List D)}
theorem sv_for (hw : Wi W) (hp : PassesOwn (model X.prog X.w) X.A X.env X.xe) (hc : X.calm = true) (hi : IV X W tg iter mi) {is : List Nat} (hg : GV X tg is g) (ng : ∀ d, NoEx (g d)) (hb : BV X W body mbd)
    (hs : ∀ x, foldedSetIterable iter X.env x = pure x := by intro _; rfl) : SV X W (.For tg iter body [] pos) (mFor mi g mbd) := by
  refine ⟨PS.imp (ps_for hp hc hi.pi hg.pg hb.pss hs) fun E σV H ⟨C, σ, s, h⟩ => ⟨C, σ, s, (finS_i h).imp fun J H1 ⟨σ1, ds, s1, ok, k1, h1⟩ => ?_⟩⟩
  refine ⟨fun i m σV' H' => m = ds.length - i ∧ i ≤ ds.length ∧ ∃ σ', SR X.K C H' σV' σ' ∧ Keep (Owns σV σ1) H1 (Owns σV' σ') H' ∧ EndS X.K X.mg W C σV H σ E (forL (mTurn g mbd) (ds.drop i) σ'), ⟨_, rfl, Nat.zero_le _, σ1, s1, Keep.refl _ _, h1⟩, ?_⟩
  rintro i m σV' H' ⟨rfl, hi, σ', s', k', h'⟩
  have ne : ∀ b, C.A b ∨ Owns σV' σ' b → H' b ≠ none := fun b z => z.elim (s'.al b) s'.owned
  obtain ⟨go, stop⟩ := ok _ _ k'.orA ne
  by_cases hl : i = ds.length
  · left
    subst hl
    rw [List.drop_length] at h'
    exact ⟨stop, h' _ _ s' (k1.trans k')⟩
  · right
    have hi' : i < ds.length := by omega
    obtain ⟨g1, g2⟩ := go i _ (List.getElem?_eq_getElem hi')
    refine ⟨g1, fun σV'' H'' => (ds.length - (i + 1) < ds.length - i) ∧ (i + 1 ≤ ds.length ∧ ∃ σ', SR X.K C H'' σV'' σ' ∧ Keep (Owns σV σ1) H1 (Owns σV'' σ') H'' ∧ EndS X.K X.mg W C σV H σ E (forL (mTurn g mbd) (ds.drop (i + 1)) σ')), fun σV'' H'' ⟨z1, z2⟩ => ⟨_, z1, rfl, z2⟩, fun x H3 y => ?_⟩
    obtain ⟨sm, rx⟩ := g2 x H3 y
    have s3 := s'.heap sm
    have k3 : Keep (Owns σV' σ') H' (Owns σV' σ') H3 := keep_grow sm
    rw [List.drop_eq_getElem_cons hi'] at h'
    have h3 : EndS X.K X.mg W C σV H σ E ((do let _ ← g ds[i]; (do let x ← mbd; match x with
      | .nx => forL (mTurn g mbd) (ds.drop (i + 1))
      | .ct => forL (mTurn g mbd) (ds.drop (i + 1))
      | .br => pure .nx
      | .rt v => pure (.rt v) : M Fl) : M Fl) σ') := by
      have e : (forL (mTurn g mbd) (ds[i] :: ds.drop (i + 1))) = (do let _ ← g ds[i]; (do let x ← mbd; match x with
        | .nx => forL (mTurn g mbd) (ds.drop (i + 1))
        | .ct => forL (mTurn g mbd) (ds.drop (i + 1))
        | .br => pure .nx
        | .rt v => pure (.rt v) : M Fl) : M Fl) := by
        conv => lhs; unfold forL
        unfold mTurn
        rw [M.assoc]
      rw [← e]; exact h'
    refine ⟨C, σ', ds[i], s3, rx, endS_T h3 (fun σ4 σV4 s4 k4 h4 => ⟨C, σ4, s4, ?_⟩) (ng _ σ')⟩
    exact loop_body hw ((k1.trans (k'.trans k3)).trans k4) h4 fun σ5 σV5 H5 s5 k5 h5 => ⟨by omega, hi', σ5, s5, ((k'.trans k3).trans k4).trans k5, h5⟩
end
end DL

set_option Elab.async false
set_option linter.all false
set_option maxRecDepth 100000
/-! DI: functions and their calls. -/
namespace DL
open PySem PySem.Spec PyProof.Rows L2

/-- what a function tells: a value (new: a list of its own), what its own parameter holds then; an exception -/
inductive FRes where
  | ok (r : D) (fresh : Bool) (out : D) | exc (c : PySem.Str) (ps : List D) | bad
abbrev FD := List D → FRes
def initS (n : Nat) (io : Option Nat) (ds : List D) : Sg := (ds.zipIdx.map fun p => if io = some p.2 then Sl.ow true p.1 else Sl.sh p.1) ++ List.replicate (n - ds.length) Sl.no
def outD (io : Option Nat) (σ : Sg) : Option D := match io with
  | none => some .non
  | some i => match σ[i]? with
    | some (.ow true d) => some d
    | _ => none
def runF (n : Nat) (io : Option Nat) (mb : M Fl) : FD := fun ds => match mb (initS n io ds) with
  | .ok (.rt (.v d)) σ' => match outD io σ' with
    | some o => .ok d false o
    | none => .bad
  | .ok (.rt (.fr d)) σ' => match outD io σ' with
    | some o => .ok d true o
    | none => .bad
  | .ok .nx σ' => match outD io σ' with
    | some o => .ok .non false o
    | none => .bad
  | .exc c ps => .exc c ps
  | _ => .bad
def IO (io : Option Nat) (vs : List V) (b : Addr) : Prop := ∃ j, io = some j ∧ vs[j]? = some (.ref b)
def IOh (A : Addr → Prop) (io : Option Nat) (vs : List V) (b : Addr) : Prop := A b ∨ IO io vs b
structure PR (K : PySem.W.Frag) (A : Addr → Prop) (H : Hp) (io : Option Nat) (ds : List D) (vs : List V) : Prop where
  len : ds.length = vs.length
  al : ∀ b, A b → H b ≠ none
  sh : ∀ (j : Nat) (d : D) (v : V), ds[j]? = some d → vs[j]? = some v → io ≠ some j → R K (hid (IOh A io vs) H) d v
  ow : ∀ (j : Nat) (d : D), io = some j → ds[j]? = some d → ∃ a, vs[j]? = some (.ref a) ∧ ¬ A a ∧ OwR K (hid (IOh A io vs) H) H d a
  has : ∀ j, io = some j → j < ds.length
def ResR (K : PySem.W.Frag) (B : Addr → Prop) (H H' : Hp) (r : D) (fresh : Bool) (v : V) : Prop := match fresh with
  | true => ∃ a, v = .ref a ∧ H a = none ∧ OwR K (hid (fun b => B b ∨ b = a) H') H' r a
  | false => R K (hid B H') r v
def PoR (K : PySem.W.Frag) (mg : PySem.Str → Option Value) (A : Addr → Prop) (H : Hp) (io : Option Nat) (vs : List V) (Q : VK) (E : XK) : FRes → Prop
  | .ok r fresh out => ∀ v H', (∀ b o, H b = some o → ¬ IO io vs b → H' b = some o) → (∀ a, IO io vs a → OwR K (hid (fun b => IOh A io vs b ∨ (fresh = true ∧ v = .ref b)) H') H' out a) → ResR K (IOh A io vs) H H' r fresh v → Q v H'
  | .exc c ps => ∀ H' cl d, (∀ b o, H b = some o → ¬ IO io vs b → H' b = some o) → ExcR mg c ps cl d → E cl d H'
  | .bad => False
def spD (K : PySem.W.Frag) (mg : PySem.Str → Option Value) (n : Nat) (io : Option Nat) (F : FD) : Sp := fun vs H Q E => vs.length = n ∧ ∃ A ds, PR K A H io ds vs ∧ PoR K mg A H io vs Q E (F ds)

/-! ### a body is entered -/
section
variable {K : PySem.W.Frag} {mg : PySem.Str → Option Value} {A : Addr → Prop} {H : Hp} {io : Option Nat} {ds : List D} {vs : List V} {N : List PySem.Str}
theorem init_get {n j : Nat} {t : Sl} (e : (initS n io ds)[j]? = some t) : (∃ d, ds[j]? = some d ∧ t = if io = some j then .ow true d else .sh d) ∨ t = .no := by
  unfold initS at e
  by_cases hj : j < ds.length
  · rw [List.getElem?_append_left (by simpa using hj), List.getElem?_map, List.getElem?_zipIdx, List.getElem?_eq_getElem hj] at e
    simp at e
    exact .inl ⟨_, List.getElem?_eq_getElem hj, e.symm⟩
  · rw [List.getElem?_append_right (by simpa using hj)] at e
    have := List.mem_of_getElem? e
    exact .inr (List.eq_of_mem_replicate this)
theorem init_get_lt {n j : Nat} {d : D} (e : ds[j]? = some d) : (initS n io ds)[j]? = some (if io = some j then .ow true d else .sh d) := by
  have hj : j < ds.length := (List.getElem?_eq_some_iff.mp e).1
  unfold initS
  rw [List.getElem?_append_left (by simpa using hj), List.getElem?_map, List.getElem?_zipIdx, e]
  simp
theorem start_get {j : Nat} {v : V} (e : vs[j]? = some v) : (L2.start N vs)[j]? = some (some v) := by
  have hj : j < vs.length := (List.getElem?_eq_some_iff.mp e).1
  unfold L2.start
  rw [List.getElem?_append_left (by simpa using hj), List.getElem?_map, e] <;> rfl
theorem owns_init {n : Nat} (hl : ds.length = vs.length) (b : Addr) : Owns (L2.start N vs) (initS n io ds) b ↔ IO io vs b ∧ (∃ j, io = some j ∧ j < ds.length) := by
  constructor
  · rintro ⟨j, bb, d, e1, e2⟩
    rcases init_get e1 with ⟨d', e3, e4⟩ | e4
    · by_cases hj : io = some j
      · have hlt : j < ds.length := (List.getElem?_eq_some_iff.mp e3).1
        refine ⟨⟨j, hj, ?_⟩, j, hj, hlt⟩
        have hv : vs[j]? = some vs[j] := List.getElem?_eq_getElem (by omega)
        have := start_get (N := N) hv
        rw [e2] at this
        rw [hv]
        exact (Option.some.inj this).symm
      · rw [if_neg hj] at e4; cases e4
    · cases e4
  · rintro ⟨⟨j, hj, e⟩, _, _, _⟩
    have hlt : j < ds.length := by rw [hl]; exact (List.getElem?_eq_some_iff.mp e).1
    refine ⟨j, true, ds[j], ?_, start_get e⟩
    rw [init_get_lt (List.getElem?_eq_getElem hlt), if_pos hj]
def cnOf (A : Addr → Prop) (io : Option Nat) (vs : List V) : Cn := ⟨A, fun j => match vs[j]? with
  | some (.ref a) => some a
  | _ => none⟩
theorem sr_init (p : PR K A H io ds vs) (hN : vs.length ≤ N.length) : SR K (cnOf A io vs) H (L2.start N vs) (initS N.length io ds) := by
  have hO : ∀ b, Owns (L2.start N vs) (initS N.length io ds) b → IO io vs b := fun b o => ((owns_init p.len b).mp o).1
  have hO' : ∀ b, IO io vs b → Owns (L2.start N vs) (initS N.length io ds) b := fun b o => (owns_init p.len b).mpr ⟨o, by obtain ⟨j, h1, h2⟩ := o; exact ⟨j, h1, p.has j h1⟩⟩
  have q : Same (hid (IOh A io vs) H) (hid (Hd (cnOf A io vs).A (L2.start N vs) (initS N.length io ds)) H) := hid_mono fun b o h n => ⟨h, fun z => n (z.elim .inl fun z => .inr (hO b z))⟩
  refine ⟨?_, p.al, fun b z o => ?_, fun j d e => ?_, fun j b d e => ?_, fun i j b c d e a e1 e2 _ _ => ?_⟩
  · unfold initS L2.start
    rw [List.length_append, List.length_append, List.length_map, List.length_map, List.length_zipIdx, List.length_replicate, List.length_replicate, p.len]
  · obtain ⟨j, h1, h2⟩ := hO b o
    have hlt := p.has j h1
    obtain ⟨a, h3, h4, _⟩ := p.ow j _ h1 (List.getElem?_eq_getElem hlt)
    rw [h2] at h3
    cases h3
    exact h4 z
  · rcases init_get e with ⟨d', e3, e4⟩ | e4
    · by_cases hj : io = some j
      · rw [if_pos hj] at e4; cases e4
      · rw [if_neg hj] at e4; cases e4
        have hlt : j < ds.length := (List.getElem?_eq_some_iff.mp e3).1
        have hv : vs[j]? = some (vs[j]'(by rw [← p.len]; exact hlt)) := List.getElem?_eq_getElem _
        exact ⟨_, start_get hv, (p.sh j d _ e3 hv hj).mono q⟩
    · cases e4
  · rcases init_get e with ⟨d', e3, e4⟩ | e4
    · by_cases hj : io = some j
      · rw [if_pos hj] at e4; cases e4
        obtain ⟨a, h1, h2, h3⟩ := p.ow j _ hj e3
        exact ⟨a, start_get h1, h3.mono q rfl, fun _ => by show (match vs[j]? with | some (.ref a) => some a | _ => none) = some a; rw [h1]⟩
      · rw [if_neg hj] at e4; cases e4
    · cases e4
  · rcases init_get e1 with ⟨d', e3, e4⟩ | e4
    · by_cases hi : io = some i
      · rcases init_get e2 with ⟨d'', e5, e6⟩ | e6
        · by_cases hj : io = some j
          · rw [hi] at hj; exact Option.some.inj hj
          · rw [if_neg hj] at e6; cases e6
        · cases e6
      · rw [if_neg hi] at e4; cases e4
    · cases e4
/-- how a body's end is the caller's -/
theorem end_init {Q : VK} {E : XK} {m : M Fl} (p : PR K A H io ds vs) (hN : vs.length ≤ N.length) (h : PoR K mg A H io vs Q E (runF N.length io m ds)) :
    tS K mg (fun cl d _ H' => E cl d H') m { nx := fun _ H' => Q .non H', rt := Q } (L2.start N vs) H := by
  have s0 := sr_init p hN
  have hO : ∀ b, Owns (L2.start N vs) (initS N.length io ds) b → IO io vs b := fun b o => ((owns_init p.len b).mp o).1
  refine ⟨cnOf A io vs, _, s0, ?_⟩
  unfold FinS
  unfold runF at h
  -- the own parameter, at the end
  have own : ∀ {σ' : Sg} {o : D} {σV' : L2.St} {H' : Hp}, outD io σ' = some o → SR K (cnOf A io vs) H' σV' σ' → ∀ a, IO io vs a → Owns σV' σ' a ∧ OwR K (hid (Hd A σV' σ') H') H' o a := by
    rintro σ' o σV' H' ho s' a ⟨j, hj, ea⟩
    subst hj
    unfold outD at ho
    simp only at ho
    split at ho
    · rename_i d' e1
      cases ho
      obtain ⟨a', h1, h2, h3⟩ := s'.ow j true _ e1
      have := h3 rfl
      change (match vs[j]? with | some (.ref a) => some a | _ => none) = some a' at this
      rw [ea] at this
      cases this
      exact ⟨⟨j, true, _, e1, h1⟩, h2⟩
    · cases ho
  have keep : ∀ {σ' : Sg} {σV' : L2.St} {H' : Hp} {P : Addr → Prop}, Keep (Owns (L2.start N vs) (initS N.length io ds)) H (fun c => Owns σV' σ' c ∨ P c) H' → ∀ b o, H b = some o → ¬ IO io vs b → H' b = some o ∧ ¬ Owns σV' σ' b ∧ ¬ P b := fun k b o e n => by
    obtain ⟨h1, h2⟩ := k b o e fun z => n (hO b z)
    exact ⟨h1, fun z => h2 (.inl z), fun z => h2 (.inr z)⟩
  -- what is hidden in the callee at the end was hidden, is its own parameter, or is new
  have hidden : ∀ {σ' : Sg} {o : D} {σV' : L2.St} {H' : Hp} {B : Addr → Prop}, outD io σ' = some o → SR K (cnOf A io vs) H' σV' σ' → Same (hid (fun b => Hd A σV' σ' b ∨ B b) H') (hid (fun b => IOh A io vs b ∨ B b) H') := fun ho s' => hid_mono fun b x e n => ⟨e, fun z => by
    rcases z with (z | z) | z
    · exact n (.inl (.inl z))
    · exact n (.inl (.inr (own ho s' b z).1))
    · exact n (.inr z)⟩
  have hid0 : ∀ {σ' : Sg} {o : D} {σV' : L2.St} {H' : Hp}, outD io σ' = some o → SR K (cnOf A io vs) H' σV' σ' → Same (hid (Hd A σV' σ') H') (hid (IOh A io vs) H') := fun ho s' => hid_mono fun b x e n => ⟨e, fun z => by
    rcases z with z | z
    · exact n (.inl z)
    · exact n (.inr (own ho s' b z).1)⟩
  have hid1 : ∀ {σ' : Sg} {o : D} {σV' : L2.St} {H' : Hp} {v : V}, outD io σ' = some o → SR K (cnOf A io vs) H' σV' σ' → Same (hid (Hd A σV' σ') H') (hid (fun b => IOh A io vs b ∨ (false = true ∧ v = .ref b)) H') := fun ho s' => hid_mono fun b x e n => ⟨e, fun z => by
    rcases z with (z | z) | z
    · exact n (.inl z)
    · exact n (.inr (own ho s' b z).1)
    · cases z.1⟩
  cases e : m (initS N.length io ds) with
  | bad => rw [e] at h; exact h
  | exc c ps =>
    rw [e] at h
    exact fun H' cl d k x => h H' cl d (fun b o e n => k b o e fun z => n (hO b z)) x
  | ok f σ' =>
    rw [e] at h
    cases f with
    | br => exact h.elim
    | ct => exact h.elim
    | nx =>
      simp only at h
      cases ho : outD io σ' with
      | none => rw [ho] at h; exact h.elim
      | some o =>
        rw [ho] at h
        exact fun σV' H' s' k => h .non H' (fun b x e n => (keep k.inr b x e n).1) (fun a ia => (own ho s' a ia).2.mono (hid1 ho s') rfl) .non
    | rt r =>
      cases r with
      | ln i => exact h.elim
      | v d =>
        simp only at h
        cases ho : outD io σ' with
        | none => rw [ho] at h; exact h.elim
        | some o =>
          rw [ho] at h
          intro σV' v H' p' k
          obtain ⟨s', r'⟩ := p'
          exact h v H' (fun b x e n => (keep k b x e n).1) (fun a ia => (own ho s' a ia).2.mono (hid1 ho s') rfl) (r'.mono (hid0 ho s'))
      | fr d =>
        simp only at h
        cases ho : outD io σ' with
        | none => rw [ho] at h; exact h.elim
        | some o =>
          rw [ho] at h
          intro σV' v H' p' k
          obtain ⟨a, rfl, na, s', r'⟩ := p'
          have s1 : SR K (cnOf A io vs) H' σV' σ' := s'.un
          have own2 : ∀ a', IO io vs a' → OwR K (hid (Hd ((cnOf A io vs).and a).A σV' σ') H') H' o a' := by
            rintro a' ⟨j, hj, ea⟩
            subst hj
            unfold outD at ho
            simp only at ho
            split at ho
            · rename_i d' e1
              cases ho
              obtain ⟨a'', h1, h2, h3⟩ := s'.ow j true _ e1
              have := h3 rfl
              change (match vs[j]? with | some (.ref a) => some a | _ => none) = some a'' at this
              rw [ea] at this
              cases this
              exact h2
            · cases ho
          refine h _ H' (fun b x e n => (keep k b x e n).1) (fun a ia => (own2 a ia).mono (hid_mono fun b x e n => ⟨e, fun z => ?_⟩) rfl) ⟨a, rfl, ?_, r'.mono ?_ rfl⟩
          · rcases z with (z | z) | z
            · exact n (.inl (.inl z))
            · exact n (.inr (own ho s1 b z).1)
            · exact n (.inl (.inr (by cases z.2; rfl)))
          · cases hx : H a with
            | none => rfl
            | some o' =>
              by_cases ia : IO io vs a
              · exact (s'.nA a (.inr rfl) (own ho s1 a ia).1).elim
              · exact ((keep k a o' hx ia).2.2 rfl).elim
          · refine hid_mono fun b x e n => ⟨e, fun z => ?_⟩
            rcases z with (z | z) | z
            · exact n (.inl (.inl z))
            · exact n (.inr (own ho s1 b z).1)
            · exact n (.inl (.inr z))
end
end DL

set_option Elab.async false
set_option linter.all false
set_option maxRecDepth 100000
/-! DJ: calls of functions; promises. -/
namespace DL
open PySem PySem.Spec PyProof.Rows L2

/-! ### data without lists in it -/
mutual
def noL : D → Bool
  | .tup xs => noLs xs
  | .lst _ => false
  | .scr _ => false
  | .dct _ _ => false
  | _ => true
def noLs : List D → Bool
  | [] => true
  | d :: r => noL d && noLs r
end
def noLi : D → Bool
  | .lst xs => noLs xs
  | d => noL d
section
variable {K : PySem.W.Frag} {B B' : Addr → Prop} {H : Hp}
mutual
theorem R.wide (hb : ∀ b, B' b → B b ∨ ∃ us, H b = some (.lst us)) : ∀ {d : D} {v : V}, R K (hid B H) d v → noL d = true → R K (hid B' H) d v
  | _, _, .non, _ => .non
  | _, _, .bl b, _ => .bl b
  | _, _, .int i, _ => .int i
  | _, _, .str x, _ => .str x
  | _, _, .fn a, _ => .fn a
  | _, _, .lst _ _, e => absurd e Bool.false_ne_true
  | _, _, .scr _ _, e => absurd e Bool.false_ne_true
  | _, _, .tup h r, e => by
    refine .tup ?_ (Rs.wide hb r e)
    have key : ∀ {o : HO}, (∀ us, o ≠ .lst us) → ∀ {a : Addr}, hid B H a = some o → hid B' H a = some o := by
      intro o no a h
      obtain ⟨h1, h2⟩ := hid_some.mp h
      refine hid_some.mpr ⟨fun z => ?_, h2⟩
      rcases hb _ z with z | ⟨us, z⟩
      · exact h1 z
      · rw [h2] at z; exact no us (Option.some.inj z)
    rcases h with (h | ⟨o, h⟩) | h
    · exact .inl (.inl (key (by intro us z; cases z) h))
    · exact .inl (.inr ⟨o, key (by intro us z; cases z) h⟩)
    · exact .inr h
theorem Rs.wide (hb : ∀ b, B' b → B b ∨ ∃ us, H b = some (.lst us)) : ∀ {ds : List D} {vs : List V}, Rs K (hid B H) ds vs → noLs ds = true → Rs K (hid B' H) ds vs
  | _, _, .nil, _ => .nil
  | _, _, .cons h t, e => .cons (R.wide hb h (Bool.and_eq_true_iff.mp e).1) (Rs.wide hb t (Bool.and_eq_true_iff.mp e).2)
end
theorem OwR.wide (hb : ∀ b, B' b → B b ∨ ∃ us, H b = some (.lst us)) {d : D} {a : Addr} (r : OwR K (hid B H) H d a) (e : noLi d = true) : OwR K (hid B' H) H d a := by
  cases d <;> first | exact r.elim | skip
  obtain ⟨vs, h1, h2⟩ := r
  exact ⟨vs, h1, h2.wide hb e⟩
end

/-! ### the state behind a call -/
section
variable {K : PySem.W.Frag} {C : Cn} {A2 : Addr → Prop} {H H' : Hp} {σV : L2.St} {σ : Sg}
theorem SR.grow (s : SR K C H σV σ) (k : Same H H') (ha : ∀ b, A2 b → C.A b ∨ (H b = none ∧ H' b ≠ none)) : SR K ⟨A2, C.pin⟩ H' σV σ := by
  have q : Same (hid (Hd C.A σV σ) H) (hid (Hd A2 σV σ) H') := hid_mono fun b o h1 n => ⟨k b o h1, fun z => by
    rcases z with z | z
    · rcases ha b z with z | ⟨z, _⟩
      · exact n (.inl z)
      · rw [z] at h1; cases h1
    · exact n (.inr z)⟩
  have s' := s.heap k
  refine ⟨s.len, fun b z => ?_, fun b z o => ?_, fun i d e => ?_, fun i b d e => ?_, s.inj⟩
  · rcases ha b z with z | ⟨_, z⟩
    · exact s'.al b z
    · exact z
  · rcases ha b z with z | ⟨z, _⟩
    · exact s.nA b z o
    · exact s.owned o z
  · obtain ⟨v, h1, h2⟩ := s.sh i d e
    exact ⟨v, h1, h2.mono q⟩
  · obtain ⟨a', h1, h2, h3⟩ := s.ow i b d e
    refine ⟨a', h1, h2.mono q ?_, h3⟩
    cases h : H a' with
    | none => exact absurd h h2.there
    | some o => rw [k a' o h]
theorem owns_swap {i : Nat} {b : Bool} {d o : D} (e : σ[i]? = some (.ow b d)) (c : Addr) : Owns σV (σ.set i (.ow b o)) c ↔ Owns σV σ c := by
  constructor
  · rintro ⟨j, b', d', e1, e2⟩
    rcases get_set e1 with ⟨rfl, e', _⟩ | ⟨hj, e1⟩
    · cases e'; exact ⟨_, _, _, e, e2⟩
    · exact ⟨j, b', d', e1, e2⟩
  · rintro ⟨j, b', d', e1, e2⟩
    by_cases hj : i = j
    · subst hj
      exact ⟨i, b, o, List.getElem?_set_self (List.getElem?_eq_some_iff.mp e).1, e2⟩
    · exact ⟨j, b', d', by rw [List.getElem?_set_ne hj]; exact e1, e2⟩
theorem SR.swap (s : SR K C H σV σ) {i : Nat} {b : Bool} {d o : D} {a : Addr} (e : σ[i]? = some (.ow b d)) (ea : σV[i]? = some (some (.ref a))) (k : ∀ c x, H c = some x → c ≠ a → H' c = some x)
    (ha : ∀ c, A2 c → C.A c ∨ (H c = none ∧ H' c ≠ none)) (r : OwR K (hid (Hd A2 σV σ) H') H' o a) : SR K ⟨A2, C.pin⟩ H' σV (σ.set i (.ow b o)) := by
  have oa : Owns σV σ a := ⟨i, b, d, e, ea⟩
  have q : Same (hid (Hd C.A σV σ) H) (hid (Hd A2 σV (σ.set i (.ow b o))) H') := hid_mono fun c x h1 n => ⟨k c x h1 fun z => n (.inr (z ▸ oa)), fun z => by
    rcases z with z | z
    · rcases ha c z with z | ⟨z, _⟩
      · exact n (.inl z)
      · rw [z] at h1; cases h1
    · exact n (.inr ((owns_swap e c).mp z))⟩
  have hl : i < σ.length := (List.getElem?_eq_some_iff.mp e).1
  obtain ⟨a0, e0, _, hp⟩ := s.ow i b d e
  rw [ea] at e0; cases e0
  refine ⟨by rw [List.length_set]; exact s.len, fun c z => ?_, fun c z x => ?_, fun j d' e1 => ?_, fun j b' d' e1 => ?_, fun j l b1 b2 d1 d2 a' e1 e2 e3 e4 => ?_⟩
  · rcases ha c z with z | ⟨_, z⟩
    · have n : c ≠ a := fun w => s.nA c z (w ▸ oa)
      cases h : H c with
      | none => exact absurd h (s.al c z)
      | some x => rw [k c x h n]; exact fun w => nomatch w
    · exact z
  · have x' := (owns_swap e c).mp x
    rcases ha c z with z | ⟨z, _⟩
    · exact s.nA c z x'
    · exact s.owned x' z
  · rcases get_set e1 with ⟨_, e', _⟩ | ⟨hj, e1⟩
    · cases e'
    · obtain ⟨v, h1, h2⟩ := s.sh j d' e1
      exact ⟨v, h1, h2.mono q⟩
  · rcases get_set e1 with ⟨rfl, e', _⟩ | ⟨hj, e1⟩
    · cases e'
      refine ⟨a, ea, r.mono (hid_mono fun c x h n => ⟨h, fun z => n (z.elim .inl fun z => .inr ((owns_swap e c).mp z))⟩) rfl, hp⟩
    · obtain ⟨a', h1, h2, h3⟩ := s.ow j b' d' e1
      have n : a' ≠ a := fun z => hj (s.inj i j _ _ _ _ a e e1 ea (z ▸ h1))
      refine ⟨a', h1, h2.mono q ?_, h3⟩
      cases h : H a' with
      | none => exact absurd h h2.there
      | some x => rw [k a' x h n]
  · rcases get_set e1 with ⟨rfl, e', _⟩ | ⟨hj, e1⟩
    · rcases get_set e2 with ⟨z, _, _⟩ | ⟨hl, e2⟩
      · exact z
      · exact s.inj _ l _ _ _ _ a' e e2 e3 e4
    · rcases get_set e2 with ⟨rfl, _, _⟩ | ⟨hl, e2⟩
      · exact s.inj j _ _ _ _ _ a' e1 e e3 e4
      · exact s.inj j l _ _ _ _ a' e1 e2 e3 e4
end

/-! ### a call -/
def ownAt (σ : Sg) : Rv → Bool
  | .ln i => match σ[i]? with
    | some (.ow _ _) => true
    | _ => false
  | _ => false
def isLn (i : Nat) : Rv → Bool
  | .ln j => j == i
  | _ => false
/-- is an own list lent (at a place other than io) -/
def lent (σ : Sg) (io : Option Nat) (rs : List Rv) : Bool := rs.zipIdx.any fun p => ownAt σ p.1 && decide (io ≠ some p.2)
/-- is slot i given just at place k -/
def just (i k : Nat) (rs : List Rv) : Bool := rs.zipIdx.all fun p => !isLn i p.1 || p.2 == k
def okRet (r : D) : Bool → Bool
  | true => noLi r
  | false => noL r
def retRv (r : D) : Bool → Rv
  | true => .fr r
  | false => .v r
def callAt (io : Option Nat) (F : FD) (rs : List Rv) : M Rv := fun σ => match rs.mapM (rdv σ) with
  | none => .bad
  | some ds => match io with
    | none => match F ds with
      | .ok r fresh _ => if lent σ none rs && !okRet r fresh then .bad else .ok (retRv r fresh) σ
      | .exc c ps => .exc c ps
      | .bad => .bad
    | some k => match rs[k]? with
      | some (.ln i) => match σ[i]? with
        | some (.ow b _) => if just i k rs then (match F ds with
          | .ok r fresh out => if lent σ (some k) rs && !(okRet r fresh && noLi out) then .bad else .ok (retRv r fresh) (σ.set i (.ow b out))
          | .exc c ps => .exc c ps
          | .bad => .bad) else .bad
        | _ => .bad
      | _ => .bad
section
variable {K : PySem.W.Frag} {mg : PySem.Str → Option Value} {W : WX} {C : Cn} {H : Hp} {σV : L2.St} {σ : Sg}
theorem RvRs.get : ∀ {rs : List Rv} {vs : List V}, RvRs K C H σV σ rs vs → ∀ {j : Nat} {v : V}, vs[j]? = some v → ∃ r, rs[j]? = some r ∧ RvR K C H σV σ r v
  | _, _, .nil, j, v, e => by simp at e
  | _, _, .cons h _, 0, v, e => by simp at e; subst e; exact ⟨_, rfl, h⟩
  | _, _, .cons _ t, j + 1, v, e => by
    obtain ⟨r, h1, h2⟩ := RvRs.get t (j := j) (v := v) (by simpa using e)
    exact ⟨r, by simpa using h1, h2⟩
theorem RvRs.get' : ∀ {rs : List Rv} {vs : List V}, RvRs K C H σV σ rs vs → ∀ {j : Nat} {r : Rv}, rs[j]? = some r → ∃ v, vs[j]? = some v ∧ RvR K C H σV σ r v
  | _, _, .nil, j, v, e => by simp at e
  | _, _, .cons h _, 0, v, e => by simp at e; subst e; exact ⟨_, rfl, h⟩
  | _, _, .cons _ t, j + 1, v, e => by
    obtain ⟨r, h1, h2⟩ := RvRs.get' t (j := j) (r := v) (by simpa using e)
    exact ⟨r, by simpa using h1, h2⟩
theorem RvRs.length : ∀ {rs : List Rv} {vs : List V}, RvRs K C H σV σ rs vs → rs.length = vs.length
  | _, _, .nil => rfl
  | _, _, .cons _ t => congrArg (· + 1) t.length
theorem mapM_get {α β : Type} {f : α → Option β} : ∀ {l : List α} {r : List β}, l.mapM f = some r → l.length = r.length ∧ ∀ {j : Nat} {x : α}, l[j]? = some x → ∃ y, r[j]? = some y ∧ f x = some y
  | [], r, e => by simp at e; subst e; exact ⟨rfl, fun h => by simp at h⟩
  | a :: l, r, e => by
    rw [List.mapM_cons] at e
    cases ea : f a with
    | none => rw [ea] at e; simp at e
    | some b =>
      cases el : l.mapM f with
      | none => rw [ea, el] at e; simp at e
      | some bs =>
        rw [ea, el] at e
        simp at e
        subst e
        obtain ⟨h1, h2⟩ := mapM_get el
        refine ⟨by simp [h1], fun {j x} h => ?_⟩
        cases j with
        | zero => simp at h; subst h; exact ⟨b, rfl, ea⟩
        | succ j => simpa using h2 (j := j) (x := x) (by simpa using h)
theorem mem_zipIdx {α : Type} {l : List α} {j : Nat} {x : α} (e : l[j]? = some x) : (x, j) ∈ l.zipIdx := by
  rw [List.mem_zipIdx_iff_getElem?]
  exact e
theorem lent_no {io : Option Nat} {rs : List Rv} (h : lent σ io rs = false) {j : Nat} {r : Rv} (e : rs[j]? = some r) (hj : io ≠ some j) : ownAt σ r = false := by
  unfold lent at h
  rw [List.any_eq_false] at h
  have := h (r, j) (mem_zipIdx e)
  simp only [Bool.and_eq_true, decide_eq_true_eq, not_and] at this
  cases q : ownAt σ r with
  | false => rfl
  | true => exact (this q hj).elim
theorem just_no {i k : Nat} {rs : List Rv} (h : just i k rs = true) {j : Nat} (e : rs[j]? = some (.ln i)) : j = k := by
  unfold just at h
  rw [List.all_eq_true] at h
  have := h (.ln i, j) (mem_zipIdx e)
  simpa [isLn] using this
/-- a call's promise, from what the caller wants -/
theorem call_sp {n : Nat} {io : Option Nat} {F : FD} {rs : List Rv} {vs : List V} {Q : VK} (s : SR K C H σV σ) (rv : RvRs K C H σV σ rs vs) (hn : vs.length = n) (h : FinG (RelE K σV) mg W C σV H σ (callAt io F rs) Q) : spD K mg n io F vs H Q (WE W σV) := by
  refine ⟨hn, ?_⟩
  unfold FinG at h
  -- the lent ones
  let Ln : Addr → Prop := fun b => ∃ j i bb d, io ≠ some j ∧ rs[j]? = some (.ln i) ∧ σ[i]? = some (.ow bb d) ∧ σV[i]? = some (some (.ref b))
  let A' : Addr → Prop := fun b => Hd C.A σV σ b ∧ ¬ Ln b ∧ ¬ IO io vs b
  cases em : rs.mapM (rdv σ) with
  | none => unfold callAt at h; simp only [em] at h
  | some ds =>
    obtain ⟨hlen, hget⟩ := mapM_get em
    have hlv : rs.length = vs.length := rv.length
    -- what is told of the own parameter
    have base : (∀ k, io = some k → ∃ i b d a, rs[k]? = some (.ln i) ∧ σ[i]? = some (.ow b d) ∧ σV[i]? = some (some (.ref a)) ∧ just i k rs = true ∧ vs[k]? = some (.ref a) ∧ ds[k]? = some d) := by
      rintro k rfl
      unfold callAt at h
      simp only [em] at h
      cases e1 : rs[k]? with
      | none => simp only [e1] at h
      | some r =>
        cases r with
        | v d => simp only [e1] at h
        | fr d => simp only [e1] at h
        | ln i =>
          cases e2 : σ[i]? with
          | none => simp only [e1, e2] at h
          | some t =>
            cases t with
            | no => simp only [e1, e2] at h
            | sh d => simp only [e1, e2] at h
            | ow b d =>
              simp only [e1, e2] at h
              cases e3 : just i k rs with
              | false => simp only [e3] at h; exact h.elim
              | true =>
                obtain ⟨a, h1, _, _⟩ := s.ow i b d e2
                obtain ⟨v, h2, h3⟩ := rv.get' e1
                have h3' : σV[i]? = some (some v) := h3
                rw [h1] at h3'; cases h3'
                obtain ⟨y, h4, h5⟩ := hget e1
                have : y = d := by
                  unfold rdv at h5
                  simp only [e2] at h5
                  exact (Option.some.inj h5).symm
                subst this
                exact ⟨i, b, _, a, rfl, e2, h1, e3, h2, h4⟩
    have ioO : ∀ b, IO io vs b → Owns σV σ b := by
      rintro b ⟨k, hk, e⟩
      obtain ⟨i, bb, d, a, _, e2, e3, _, e5, _⟩ := base k hk
      rw [e] at e5; cases e5
      exact ⟨i, bb, d, e2, e3⟩
    have lnO : ∀ b, Ln b → Owns σV σ b := fun b ⟨j, i, bb, d, _, _, e2, e3⟩ => ⟨i, bb, d, e2, e3⟩
    have lnIO : ∀ b, Ln b → ¬ IO io vs b := by
      rintro b ⟨j, i, bb, d, hj, e1, e2, e3⟩ ⟨k, hk, e⟩
      obtain ⟨i', bb', d', a, f1, f2, f3, f4, f5, _⟩ := base k hk
      rw [e] at f5; cases f5
      have := s.inj i i' _ _ _ _ b e2 f2 e3 f3
      subst this
      exact hj (by rw [hk, just_no f4 e1])
    have q0 : Same (hid (Hd C.A σV σ) H) (hid (IOh A' io vs) H) := hid_mono fun b o e nn => ⟨e, fun z => z.elim (fun z => nn z.1) fun z => nn (.inr (ioO b z))⟩
    have pr : PR K A' H io ds vs := by
      refine ⟨hlen.symm.trans hlv, fun b z => z.1.elim (s.al b) s.owned, fun j d v e1 e2 hj => ?_, fun j d hj e1 => ?_, fun k hk => ?_⟩
      · obtain ⟨r, h1, h2⟩ := rv.get e2
        obtain ⟨y, h3, h4⟩ := hget h1
        rw [e1] at h3; cases h3
        have rt := h2.read s h4
        rcases rt with rt | ⟨a, rfl, rt⟩
        · exact rt.mono q0
        · cases r with
          | v d' => exact R.mono q0 (by cases h4; exact h2)
          | fr d' => exact R.mono q0 (by cases h4; exact h2)
          | ln i =>
            have ev : σV[i]? = some (some (.ref a)) := h2
            cases e3 : σ[i]? with
            | none => unfold rdv at h4; simp [e3] at h4
            | some t =>
              cases t with
              | no => unfold rdv at h4; simp [e3] at h4
              | sh d' =>
                obtain ⟨v', g1, g2⟩ := s.sh i d' e3
                rw [ev] at g1; cases g1
                unfold rdv at h4; simp [e3] at h4
                subst h4
                exact g2.mono q0
              | ow bb d' =>
                have ln : Ln a := ⟨j, i, bb, d', hj, h1, e3, ev⟩
                exact rt.toR q0 fun z => z.elim (fun z => z.2.1 ln) (lnIO a ln)
      · obtain ⟨i, b, d', a, f1, f2, f3, f4, f5, f6⟩ := base j hj
        rw [e1] at f6; cases f6
        obtain ⟨a', g1, g2, _⟩ := s.ow i b d f2
        rw [f3] at g1; cases g1
        exact ⟨a, f5, fun z => z.2.2 ⟨j, hj, f5⟩, g2.mono q0 rfl⟩
      · obtain ⟨i, b, d', a, f1, _⟩ := base k hk
        rw [← hlen]
        exact (List.getElem?_eq_some_iff.mp f1).1
    refine ⟨A', ds, pr, ?_⟩
    -- hidden here behind the call: hidden there, or lent and a list still
    have wide : ∀ {H' : Hp}, (∀ b o, H b = some o → ¬ IO io vs b → H' b = some o) → ∀ b, Hd C.A σV σ b → IOh A' io vs b ∨ ∃ us, H' b = some (.lst us) := fun kp b z => by
      by_cases hi : IO io vs b
      · exact .inl (.inr hi)
      · by_cases hl : Ln b
        · right
          obtain ⟨j, i, bb, d, hj, e1, e2, e3⟩ := hl
          obtain ⟨a, g1, g2, _⟩ := s.ow i bb d e2
          rw [e3] at g1; cases g1
          cases d <;> first | exact g2.elim | skip
          obtain ⟨us, g3, _⟩ := g2
          exact ⟨us, kp b _ g3 hi⟩
        · exact .inl (.inl ⟨z, hl, hi⟩)
    have noLn : lent σ io rs = false → ∀ b, ¬ Ln b := fun hl b ⟨j, i, bb, d, hj, e1, e2, e3⟩ => by
      have := lent_no hl e1 hj
      unfold ownAt at this
      simp [e2] at this
    have eqH : lent σ io rs = false → ∀ b, Hd C.A σV σ b → IOh A' io vs b := fun hl b z => by
      by_cases hi : IO io vs b
      · exact .inr hi
      · exact .inl ⟨z, noLn hl b, hi⟩
    -- the result, as it stands here
    have res0 : ∀ {H' : Hp} {r : D} {v : V} {O' : Addr → Prop}, (∀ b o, H b = some o → ¬ IO io vs b → H' b = some o) → (lent σ io rs = false ∨ noL r = true) → (∀ b, O' b → Owns σV σ b) → R K (hid (IOh A' io vs) H') r v → R K (hid (fun b => C.A b ∨ O' b) H') r v := fun kp ok sub x => by
      rcases ok with ok | ok
      · exact x.mono (hid_mono fun b o e n => ⟨e, fun z => n (eqH ok b (z.elim .inl fun z => .inr (sub b z)))⟩)
      · exact x.wide (fun b z => wide kp b (z.elim .inl fun z => .inr (sub b z))) ok
    have res1 : ∀ {H' : Hp} {r : D} {a : Addr} {P O' : Addr → Prop}, (∀ b o, H b = some o → ¬ IO io vs b → H' b = some o) → (lent σ io rs = false ∨ noLi r = true) → (∀ b, O' b → Owns σV σ b) → OwR K (hid (fun b => IOh A' io vs b ∨ P b) H') H' r a → OwR K (hid (fun b => (C.A b ∨ P b) ∨ O' b) H') H' r a := fun kp ok sub x => by
      rcases ok with ok | ok
      · exact x.mono (hid_mono fun b o e n => ⟨e, fun z => n (z.elim (fun z => z.elim (fun z => .inl (eqH ok b (.inl z))) .inr) fun z => .inl (eqH ok b (.inr (sub b z))))⟩) rfl
      · refine x.wide (fun b z => ?_) ok
        rcases z with (z | z) | z
        · rcases wide kp b (.inl z) with w | w
          · exact .inl (.inl w)
          · exact .inr w
        · exact .inl (.inr z)
        · rcases wide kp b (.inr (sub b z)) with w | w
          · exact .inl (.inl w)
          · exact .inr w
    cases io with
    | none =>
      have ce : callAt none F rs σ = match F ds with
        | .ok r fresh _ => if lent σ none rs && !okRet r fresh then .bad else .ok (retRv r fresh) σ
        | .exc c ps => .exc c ps
        | .bad => .bad := by unfold callAt; simp only [em]
      rw [ce] at h
      cases hF : F ds with
      | bad => rw [hF] at h; exact h
      | exc c ps => rw [hF] at h; exact fun H' cl d k x => h H' cl d (fun b o e n => k b o e fun ⟨_, z, _⟩ => nomatch z) x
      | ok r fresh out =>
        rw [hF] at h
        simp only at h
        by_cases hb : (lent σ none rs && !okRet r fresh) = true
        · rw [if_pos hb] at h; exact h.elim
        rw [if_neg hb] at h
        have hb' : lent σ none rs = false ∨ okRet r fresh = true := by
          cases h1 : lent σ none rs <;> cases h2 : okRet r fresh <;> simp [h1, h2] at hb ⊢
        intro v H' kp ow res
        have km : Same H H' := fun b o e => kp b o e fun ⟨_, z, _⟩ => nomatch z
        cases fresh with
        | false => exact h v H' ⟨s.grow km fun b z => .inl z, res0 kp hb' (fun _ z => z) res⟩ (keep_grow km).inr
        | true =>
          obtain ⟨a, rfl, ha, ro⟩ := res
          refine h _ H' ⟨a, rfl, fun z => s.al a z ha, s.grow km fun b z => z.elim .inl fun z => .inr ⟨z ▸ ha, z ▸ ro.there⟩, ?_⟩ fun b o e n => ⟨km b o e, fun z => z.elim n fun z => ?_⟩
          · exact res1 (P := fun b => b = a) (O' := Owns σV σ) kp hb' (fun _ z => z) ro
          · cases (show V.ref a = V.ref b from z)
            rw [ha] at e; cases e
    | some k =>
      obtain ⟨i, bb, d0, a0, f1, f2, f3, f4, f5, f6⟩ := base k rfl
      have ce : callAt (some k) F rs σ = match F ds with
        | .ok r fresh out => if lent σ (some k) rs && !(okRet r fresh && noLi out) then .bad else .ok (retRv r fresh) (σ.set i (.ow bb out))
        | .exc c ps => .exc c ps
        | .bad => .bad := by
        unfold callAt
        simp only [em, f1, f2, f4, if_true]
      rw [ce] at h
      have ioa : IO (some k) vs a0 := ⟨k, rfl, f5⟩
      have oa0 : Owns σV σ a0 := ioO a0 ioa
      have ioq : ∀ b, IO (some k) vs b → b = a0 := fun b ⟨k', h1, h2⟩ => by
        cases h1
        rw [f5] at h2; cases h2; rfl
      cases hF : F ds with
      | bad => rw [hF] at h; exact h
      | exc c ps => rw [hF] at h; exact fun H' cl d k x => h H' cl d (fun b o e n => k b o e fun z => n (ioO b z)) x
      | ok r fresh out =>
        rw [hF] at h
        simp only at h
        by_cases hb : (lent σ (some k) rs && !(okRet r fresh && noLi out)) = true
        · rw [if_pos hb] at h; exact h.elim
        rw [if_neg hb] at h
        have hb' : (lent σ (some k) rs = false ∨ okRet r fresh = true) ∧ (lent σ (some k) rs = false ∨ noLi out = true) := by
          cases h1 : lent σ (some k) rs <;> cases h2 : okRet r fresh <;> cases h3 : noLi out <;> simp [h1, h2, h3] at hb ⊢
        intro v H' kp ow res
        have ow0 := ow a0 ioa
        have sub : ∀ b, Owns σV (σ.set i (.ow bb out)) b → Owns σV σ b := fun b z => (owns_swap f2 b).mp z
        have k0 : ∀ c x, H c = some x → c ≠ a0 → H' c = some x := fun c x e n => kp c x e fun z => n (ioq c z)
        cases fresh with
        | false =>
          refine h v H' ⟨s.swap f2 f3 k0 (fun b z => .inl z) ?_, res0 kp hb'.1 sub res⟩ fun b o e n => ⟨kp b o e fun z => n (ioO b z), fun z => z.elim (fun z => n (sub b z)) id⟩
          have := res1 (P := fun _ => False) (O' := Owns σV σ) kp hb'.2 (fun _ z => z) (ow0.mono (hid_mono fun b o e n => ⟨e, fun z => n (z.elim .inl False.elim)⟩) rfl)
          exact this.mono (hid_mono fun b o e n => ⟨e, fun z => n (z.elim (fun z => .inl (.inl z)) .inr)⟩) rfl
        | true =>
          obtain ⟨a, rfl, ha, ro⟩ := res
          have hne : ∀ b, Owns σV σ b → b ≠ a := fun b z e => s.owned z (e ▸ ha)
          refine h _ H' ⟨a, rfl, fun z => s.al a z ha, s.swap f2 f3 k0 (fun b z => z.elim .inl fun z => .inr ⟨z ▸ ha, z ▸ ro.there⟩) ?_, ?_⟩ fun b o e n => ⟨kp b o e fun z => n (ioO b z), fun z => z.elim (fun z => n (sub b z)) fun z => ?_⟩
          · have := res1 (P := fun b => b = a) (O' := Owns σV σ) kp hb'.2 (fun _ z => z) (ow0.mono (hid_mono fun b o e n => ⟨e, fun z => n (z.elim .inl fun z => .inr ⟨rfl, by rw [z]⟩)⟩) rfl)
            exact this
          · exact res1 (P := fun b => b = a) (O' := Owns σV (σ.set i (.ow bb out))) kp hb'.1 sub ro
          · cases (show V.ref a = V.ref b from z)
            rw [ha] at e; cases e
end
end DL

set_option Elab.async false
set_option linter.all false
set_option maxRecDepth 100000
/-! DK: defs' promises, calls; own lists written; while; parallel stores; sums in place. -/
namespace DL
open PySem PySem.Spec PyProof.Rows L2

section
variable {P : Program} {w : World} {K : PySem.W.Frag} {mg : PySem.Str → Option Value} {base : Heap}
/-- the context of a def's body -/
abbrev cxD (P : Program) (w : World) (K : PySem.W.Frag) (mg : PySem.Str → Option Value) (base : Heap) (N : List PySem.Str) (qual : PySem.Str) (st : Stmt) (f : Addr) (cdv : Value) (A : Around) (outer : List Env) (s : Shared) (H : Hp) (E : XK) : Cx :=
  cxOf (L2.CX P w) P w K mg base N qual (defScope st) f cdv A outer s H E
abbrev wD (E : XK) : WX := fun cl d _ H' => E cl d H'
theorem wi_D (E : XK) : Wi (wD E) := fun _ _ _ _ _ h => h
theorem fnP {x qual : PySem.Str} {st : Stmt} {f : Addr} {fd : FuncData} {N ps : List PySem.Str} {k : Nat} {io : Option Nat} {mb : M Fl} (F : Fun K x qual st f fd) (S : FnScope N ps (defScope st)) (hN : ps.length ≤ N.length)
    (body : ∀ (cdv : Value) (A : Around) (outer : List Env) (s : Shared) (H : Hp) (E : XK), Room k (A.deeper (envOfC qual (defScope st) s.heap.objs.size f cdv)) → BV (cxD P w K mg base N qual st f cdv A outer s H E) (wD E) (defBody st) mb) :
    FnOk P w K mg base (L2.CX P w) (k + 1) f fd ps (spD K mg ps.length io (runF N.length io mb)) := by
  refine F.okX S (fun vs H Q E h => h.1) (fun cdv A outer s H vs Q E hr h => ⟨_, (body cdv A outer s H E hr).pss, ?_⟩)
  obtain ⟨hl, A', ds, p, q⟩ := h
  exact end_init p (by rw [hl]; exact hN) q
end
def mCall (n : Nat) (io : Option Nat) (F : FD) (m : M (List Rv)) : M Rv := do
  let rs ← m
  if rs.length = n then callAt io F rs else M.bad
section
variable {X : Cx} {W : WX} {k n : Nat} {f : Addr} {fd : FuncData} {ps : List PySem.Str} {x : PySem.Str} {p pos : Pos} {e : Expr} {es : List Expr} {m : M (List Rv)} {io : Option Nat} {F : FD}
theorem ev_call (G : FnOk X.prog X.w X.K X.mg X.base (L2.CX X.prog X.w) k f fd ps (spD X.K X.mg n io F)) (hr : Room k X.A) (hg : Gl X x) (hm : X.mg x = some (.ref f)) (hk : PySem.W.keepIn X.K (.ref f) = true) (hb : Binds X.K fd ps []) (tk : Takes X W)
    (ha : AV X W (e :: es) m) (hdb : (x == ("__debug__" : PySem.Str)) = false := by decide) (he : starEach (e :: es) X.env = (false, eval e X.env) :: starEach es X.env := by rfl) (hpl : (backTo pos (starEach es X.env)).any (·.1) = false := by rfl) :
    EV X W (.Call (.Name x p) (e :: es) [] pos) (mCall n io F m) := by
  refine EV.of (pe_callS (E := fun σ => WE W σ) G hr hg hm hk hb (fun σ => passAt tk σ) ha.pa hdb he hpl) fun σV H Q ⟨C, σ, s, h⟩ => ⟨C, σ, s, (fin_a h).imp fun vs H1 ⟨σ1, rs, s1, rv, k1, h1⟩ => ?_⟩
  by_cases hl : rs.length = n
  · rw [if_pos hl] at h1
    exact call_sp s1 rv (by rw [← rv.length]; exact hl) h1
  · rw [if_neg hl] at h1
    exact h1.elim
end

/-! ### own lists -/
def ownL (i : Nat) : M (List D) := fun σ => match σ[i]? with
  | some (.ow _ (.lst xs)) => .ok xs σ
  | _ => .bad
def wrL (i : Nat) (ys : List D) : M Unit := fun σ => match σ[i]? with
  | some (.ow b (.lst _)) => .ok () (σ.set i (.ow b (.lst ys)))
  | _ => .bad
section
variable {K : PySem.W.Frag} {mg : PySem.Str → Option Value} {W : WX} {C : Cn} {σV : L2.St} {H : Hp} {σ : Sg} {α β : Type} {Rel : RelS α β}
theorem fin_ownL {i : Nat} {f : List D → M α} {Q : β → Hp → Prop} (h : FinG Rel mg W C σV H σ (ownL i >>= f) Q) (s : SR K C H σV σ) :
    ∃ b xs a us, σ[i]? = some (.ow b (.lst xs)) ∧ σV[i]? = some (some (.ref a)) ∧ H a = some (.lst us) ∧ Rs K (hid (Hd C.A σV σ) H) xs us ∧ FinG Rel mg W C σV H σ (f xs) Q := by
  unfold FinG ownL at h
  rw [bind_eq] at h
  cases e : σ[i]? with
  | none => simp only [e] at h
  | some t =>
    cases t with
    | no => simp only [e] at h
    | sh d => simp only [e] at h
    | ow b d =>
      cases d <;> simp only [e] at h
      rename_i xs
      obtain ⟨a, h1, ⟨us, h2, h3⟩, _⟩ := s.ow i b _ e
      exact ⟨b, xs, a, us, rfl, h1, h2, h3, h⟩
theorem fin_wrL {i : Nat} {b : Bool} {xs ys : List D} {a : Addr} {us : List V} {f : Unit → M α} {Q : β → Hp → Prop} (h : FinG Rel mg W C σV H σ (wrL i ys >>= f) Q) (s : SR K C H σV σ) (e : σ[i]? = some (.ow b (.lst xs))) (ea : σV[i]? = some (some (.ref a)))
    (r : Rs K (hid (Hd C.A σV σ) H) ys us) : SR K C (upd H a (.lst us)) σV (σ.set i (.ow b (.lst ys))) ∧ Keep (Owns σV σ) H (Owns σV (σ.set i (.ow b (.lst ys)))) (upd H a (.lst us)) ∧ FinG Rel mg W C σV (upd H a (.lst us)) (σ.set i (.ow b (.lst ys))) (f ()) Q := by
  obtain ⟨s1, k1⟩ := s.write e ea r
  refine ⟨s1, k1, ?_⟩
  unfold FinG wrL at h
  rw [bind_eq] at h
  simp only [e] at h
  exact FinG.step (f := f ()) rfl k1 h
end
theorem lim_size {n : Nat} (h : n < lim) : n < sizeLine := by rw [lim_eq]; exact h
section
variable {X : Cx} {W : WX} {e e2 : Expr} {apos cpos npos pos : Pos} {x : PySem.Str} {i : Nat} {ma mb mk : M Rv}
/-- x.append(e) -/
def mApp (i : Nat) (ma : M Rv) : M Rv := do
  let _ ← ownL i
  let r ← ma
  let d ← settle r
  let xs ← ownL i
  if xs.length < lim then (do
    let _ ← wrL i (xs ++ [d])
    pure (.v .non)) else M.bad
theorem ev_app (ho : PE X (.Name x npos) (tVar i)) (ha : EV X W e ma)
    (hbase : attributeBase (.Name x npos) "append" X.env (eval (.Name x npos) X.env) = eval (.Name x npos) X.env := by rfl)
    (hfew : ((backTo cpos (starEach (e :: []) X.env)).all (fun x => !x.1) && (backToKw cpos (keywordEach [] X.env)).all (fun x => x.1.isSome)
      && decide ((e :: []).length + ([] : List Keyword).length + (if ([] : List Keyword).isEmpty then 0 else 1) < 30)) = true := by rfl)
    (hline : (apos.endLine == cpos.line) = true := by rfl) (hs : starEach (e :: []) X.env = (false, eval e X.env) :: starEach [] X.env := by rfl) (hplain : (backTo cpos (starEach [] X.env)).any (·.1) = false := by rfl) :
    EV X W (.Call (.Attribute (.Name x npos) "append" apos) [e] [] cpos) (mApp i ma) := by
  refine EV.of (pe_bm PySem.F.plainAttrs_list PySem.F.slot_list_append PySem.F.type_list_append mt_append ho (pa_cons ha.pe pa_nil hs) hbase hfew hline hs hplain) fun σV H Q ⟨C, σ, s, h⟩ => ?_
  obtain ⟨b, xs, a, us, h1, h2, h3, h4, h5⟩ := fin_ownL h s
  refine ⟨_, h2, .inl ⟨rfl, us, .inl (.inl h3)⟩, C, σ, s, (fin_e h5).imp fun v H1 ⟨σ1, r, s1, v1, k1, q1⟩ => ?_⟩
  obtain ⟨σ2, d, s2, r2, k2, q2⟩ := fin_settle q1 s1 v1
  obtain ⟨b', xs', a', us', g1, g2, g3, g4, q3⟩ := fin_ownL q2 s2
  rw [h2] at g2; cases g2
  by_cases hl : xs'.length < lim
  · rw [if_pos hl] at q3
    refine ⟨a, us', v, rfl, rfl, g3, by rw [← g4.length]; exact lim_size hl, ?_⟩
    obtain ⟨s3, k3, q4⟩ := fin_wrL q3 s2 g1 h2 (g4.append (.cons r2 .nil))
    exact fin_v q4 s3 .non
  · rw [if_neg hl] at q3
    exact q3.elim
/-- x.extend(e) with a list, own or not -/
def mExt (i : Nat) (ma : M Rv) : M Rv := do
  let _ ← ownL i
  let r ← ma
  let d ← settle r
  let xs ← ownL i
  match d with
  | .lst ys => if xs.length + ys.length ≤ lim then (do
      let _ ← wrL i (xs ++ ys)
      pure (.v .non)) else M.bad
  | _ => M.bad
theorem ev_ext (ho : PE X (.Name x npos) (tVar i)) (ha : EV X W e ma)
    (hbase : attributeBase (.Name x npos) "extend" X.env (eval (.Name x npos) X.env) = eval (.Name x npos) X.env := by rfl)
    (hfew : ((backTo cpos (starEach (e :: []) X.env)).all (fun x => !x.1) && (backToKw cpos (keywordEach [] X.env)).all (fun x => x.1.isSome)
      && decide ((e :: []).length + ([] : List Keyword).length + (if ([] : List Keyword).isEmpty then 0 else 1) < 30)) = true := by rfl)
    (hline : (apos.endLine == cpos.line) = true := by rfl) (hs : starEach (e :: []) X.env = (false, eval e X.env) :: starEach [] X.env := by rfl) (hplain : (backTo cpos (starEach [] X.env)).any (·.1) = false := by rfl) :
    EV X W (.Call (.Attribute (.Name x npos) "extend" apos) [e] [] cpos) (mExt i ma) := by
  refine EV.of (pe_bm PySem.F.plainAttrs_list PySem.F.slot_list_extend PySem.F.type_list_extend mt_extend ho (pa_cons ha.pe pa_nil hs) hbase hfew hline hs hplain) fun σV H Q ⟨C, σ, s, h⟩ => ?_
  obtain ⟨b, xs, a, us, h1, h2, h3, h4, h5⟩ := fin_ownL h s
  refine ⟨_, h2, .inl ⟨rfl, us, .inl (.inl h3)⟩, C, σ, s, (fin_e h5).imp fun v H1 ⟨σ1, r, s1, v1, k1, q1⟩ => ?_⟩
  obtain ⟨σ2, d, s2, r2, k2, q2⟩ := fin_settle q1 s1 v1
  obtain ⟨b', xs', a', us', g1, g2, g3, g4, q3⟩ := fin_ownL q2 s2
  rw [h2] at g2; cases g2
  cases d <;> first | exact q3.elim | skip
  rename_i ys
  simp only at q3
  cases r2 with
  | lst h6 r6 =>
    by_cases hl : xs'.length + ys.length ≤ lim
    · rw [if_pos hl] at q3
      refine ⟨a, _, us', _, rfl, rfl, g3, hid_sub _ _ h6, by rw [← g4.length, ← r6.length, lim_eq]; exact hl, ?_⟩
      obtain ⟨s3, k3, q4⟩ := fin_wrL q3 s2 g1 h2 (g4.append r6)
      exact fin_v q4 s3 .non
    · rw [if_neg hl] at q3
      exact q3.elim
/-- x.pop() -/
def mPop (i : Nat) : M Rv := do
  let xs ← ownL i
  match xs.getLast? with
  | some d => (do
    let _ ← wrL i xs.dropLast
    pure (.v d))
  | none => M.bad
theorem ev_pop (ho : PE X (.Name x npos) (tVar i))
    (hbase : attributeBase (.Name x npos) "pop" X.env (eval (.Name x npos) X.env) = eval (.Name x npos) X.env := by rfl) (hline : (apos.endLine == cpos.line) = true := by rfl) :
    EV X W (.Call (.Attribute (.Name x npos) "pop" apos) [] [] cpos) (mPop i) := by
  refine EV.of (pe_bm0 PySem.F.plainAttrs_list PySem.F.slot_list_pop PySem.F.type_list_pop mt_pop ho hbase hline) fun σV H Q ⟨C, σ, s, h⟩ => ?_
  obtain ⟨b, xs, a, us, h1, h2, h3, h4, h5⟩ := fin_ownL h s
  cases e : xs.getLast? with
  | none => rw [e] at h5; exact h5.elim
  | some d =>
    rw [e] at h5
    rw [List.getLast?_eq_getElem?] at e
    obtain ⟨v, e1, r1⟩ := h4.get e
    refine ⟨_, h2, .inl ⟨rfl, us, .inl (.inl h3)⟩, a, us, v, rfl, rfl, h3, by rw [← h4.length]; exact e1, ?_⟩
    obtain ⟨s3, k3, q4⟩ := fin_wrL h5 s h1 h2 h4.dropLast
    exact fin_v q4 s3 (r1.mono k3.hid)
end
end DL

set_option Elab.async false
set_option linter.all false
set_option maxRecDepth 100000
/-! DM: isinstance, more methods, stores at places, while, parallel stores, raise. -/
namespace DL
open PySem PySem.Spec PyProof.Rows L2

/-! ### isinstance -/
inductive Ty where
  | non | bl | int | str | tup | lst
  deriving DecidableEq
def Ty.nm : Ty → String
  | .non => "NoneType"
  | .bl => "bool"
  | .int => "int"
  | .str => "str"
  | .tup => "tuple"
  | .lst => "list"
def tyLe (a b : Ty) : Bool := decide (a = b) || (decide (a = .bl) && decide (b = .int))
theorem kit_le : ∀ (a b : Ty), b ≠ .non → kitB a.nm b.nm = some (tyLe a b) := by
  intro a b h
  cases b <;> first | exact absurd rfl h | skip
  all_goals cases a <;> decide +kernel
def tyD : D → Option Ty
  | .non => some .non
  | .bl _ => some .bl
  | .int _ => some .int
  | .str _ => some .str
  | .tup _ => some .tup
  | .lst _ => some .lst
  | _ => none
theorem SqT.tyx {K : PySem.W.Frag} {H : Hp} {a : Addr} {vs : List V} (h : SqT K H a vs) : TyX K H (.ref a) (.type "tuple") := by
  rcases h with (h | ⟨o, h⟩) | ⟨o, its, n, h1, h2, _⟩
  · exact .base (.tup h)
  · exact .fTuple h
  · exact .kTuple h1 h2
theorem ty_of {K : PySem.W.Frag} {h H : Hp} {d : D} {v : V} {t : Ty} (r : RT K h H d v) (s : Same h H) (e : tyD d = some t) : TyX K H v (.type t.nm) := by
  cases d <;> first | cases e | skip
  · cases r.non; exact .base .non
  · cases r.bl; exact .base (.bl _)
  · cases r.int; exact .base (.int _)
  · cases r.str; exact .base (.str _)
  · obtain ⟨a, vs, rfl, h1, _⟩ := r.tup s; exact SqT.tyx h1
  · obtain ⟨a, vs, rfl, h1, _⟩ := r.lst s; exact .base (.lst h1)
def dIsi (Ts : List Ty) (d : D) : Option Bool := (tyD d).map fun t => Ts.any (tyLe t)
def mIsi (Ts : List Ty) (ma : M Rv) : M Bool := do let r ← ma; tst (dIsi Ts) r
def asV (m : M Bool) : M Rv := do let b ← m; pure (.v (.bl b))
theorem kit_any {K : PySem.W.Frag} {a : Ty} : ∀ {Ts : List Ty}, (∀ b ∈ Ts, b ≠ .non) → PySem.W.kitAny K (.type a.nm) (Ts.map fun t => Value.type t.nm) = some (Ts.any (tyLe a))
  | [], _ => rfl
  | b :: r, h => by
    show PySem.W.kitAny K _ (Value.type b.nm :: r.map fun t => Value.type t.nm) = _
    have h1 := kit_ty (K := K) (kit_le a b (h b List.mem_cons_self))
    refine kitAny_cons h1 (fun e => ?_) fun e => ?_
    · rw [List.any_cons, e, Bool.false_or]
      exact kit_any fun c hc => h c (List.mem_cons_of_mem _ hc)
    · rw [List.any_cons, e, Bool.true_or]
/-- the name of a built-in type stands for it -/
structure TyN (X : Cx) (x : PySem.Str) (T : Ty) : Prop where
  g : Gl X x
  m : X.mg x = none
  b : bootBuiltins x = some (.type T.nm)
  nn : x ≠ "__name__"
  nd : (x == ("__debug__" : PySem.Str)) = false
  no : T ≠ .non
theorem fin_tstB {K : PySem.W.Frag} {mg : PySem.Str → Option Value} {W : WX} {C : Cn} {H : Hp} {σV : L2.St} {σ : Sg} {α β : Type} {Rel : RelS α β} {f : D → Option Bool} {a : Rv} {x : V} {g : Bool → M α} {Q : β → Hp → Prop}
    (h : FinG Rel mg W C σV H σ (tst f a >>= g) Q) (s : SR K C H σV σ) (ra : RvR K C H σV σ a x) :
    ∃ d b, RT K (hid (Hd C.A σV σ) H) H d x ∧ f d = some b ∧ FinG Rel mg W C σV H σ (g b) Q := by
  unfold FinG tst at h
  rw [bind_eq] at h
  cases e : rdv σ a with
  | none => simp only [e] at h
  | some d =>
    cases e2 : f d with
    | none => simp only [e, e2] at h
    | some b =>
      simp only [e, e2] at h
      exact ⟨d, b, ra.read s e, e2, h⟩
section
variable {X : Cx} {W : WX} {e e2 : Expr} {p pos tpos tp : Pos} {x : PySem.Str} {T : Ty} {ma : M Rv} {m : M Bool}
theorem TyN.pe (t : TyN X x T) : PE X (.Name x tp) (tC (.ty T.nm)) := pe_bltn t.g t.m t.b rfl t.nn t.nd
/-- a test told as a value, from its reading as one -/
theorem ev_isi (ha : EV X W e ma) (t : TyN X x T) (hg : Gl X "isinstance") (hm : X.mg "isinstance" = none)
    (hs : starEach [e, .Name x tp] X.env = (false, eval e X.env) :: starEach [.Name x tp] X.env := by rfl) (hs2 : starEach [.Name x tp] X.env = (false, eval (.Name x tp) X.env) :: starEach [] X.env := by rfl)
    (hpl : (backTo pos (starEach [.Name x tp] X.env)).any (·.1) = false := by rfl) : EV X W (.Call (.Name "isinstance" p) [e, .Name x tp] [] pos) (asV (mIsi [T] ma)) := by
  refine .of (pe_callB call_isi hg hm PyProof.Rows.boot_isinstance (pa_cons ha.pe (pa_cons t.pe pa_nil hs2) hs) (by decide) (by decide) hs hpl) fun σV H Q ⟨C, σ, s, h⟩ => ⟨C, σ, s, ?_⟩
  unfold asV mIsi at h
  rw [M.assoc] at h
  refine (fin_e h).imp fun v H1 ⟨σ1, r, s1, v1, k1, h1⟩ => ?_
  obtain ⟨d, b, q1, e1, h2⟩ := fin_tstB h1 s1 v1
  unfold dIsi at e1
  cases et : tyD d with
  | none => rw [et] at e1; cases e1
  | some ty =>
    rw [et] at e1
    cases e1
    refine ⟨v, .ty T.nm, .type ty.nm, .type T.nm, _, rfl, .ty _, ty_of q1 hid_sub et, kit_ty (kit_le ty T t.no), ?_⟩
    have := fin_v h2 s1 (.bl _)
    simpa using this
theorem paired_ty : ∀ (Ts : List Ty), Paired ClsV (Ts.map fun t => V.ty t.nm) (Ts.map fun t => Value.type t.nm)
  | [] => .nil
  | t :: r => .cons (.ty t.nm) (paired_ty r)
/-- isinstance(e, (T, ..)) -/
theorem ev_isiT {ts : List Expr} {kk : Nat} {Ts : List Ty} {tt : TA} (ha : EV X W e ma) (ht : PA X ts tt) (htt : ∀ σ H Q, Q (Ts.map fun t => V.ty t.nm) H → tt σ H Q) (hno : ∀ b ∈ Ts, b ≠ .non) (hl : Ts.length ≤ 1000) (hg : Gl X "isinstance") (hm : X.mg "isinstance" = none)
    (hs : starEach [e, .Tuple ts kk tp] X.env = (false, eval e X.env) :: starEach [.Tuple ts kk tp] X.env := by rfl) (hs2 : starEach [.Tuple ts kk tp] X.env = (false, eval (.Tuple ts kk tp) X.env) :: starEach [] X.env := by rfl)
    (hpl : (backTo pos (starEach [.Tuple ts kk tp] X.env)).any (·.1) = false := by rfl) : EV X W (.Call (.Name "isinstance" p) [e, .Tuple ts kk tp] [] pos) (asV (mIsi Ts ma)) := by
  refine .of (pe_callB call_isiT hg hm PyProof.Rows.boot_isinstance (pa_cons ha.pe (pa_cons (pe_tup ht) pa_nil hs2) hs) (by decide) (by decide) hs hpl) fun σV H Q ⟨C, σ, s, h⟩ => ⟨C, σ, s, ?_⟩
  unfold asV mIsi at h
  rw [M.assoc] at h
  refine (fin_e h).imp fun v H1 ⟨σ1, r, s1, v1, k1, h1⟩ => ?_
  obtain ⟨d, b, q1, e1, h2⟩ := fin_tstB h1 s1 v1
  unfold dIsi at e1
  cases et : tyD d with
  | none => rw [et] at e1; cases e1
  | some ty =>
    rw [et] at e1
    cases e1
    refine htt _ _ _ ⟨by rw [List.length_map]; exact Nat.le_of_lt (small1000 hl), fun q hq => ?_⟩
    have k := same_upd (o := .tup (Ts.map fun t => V.ty t.nm)) hq
    refine ⟨v, q, _, .type ty.nm, _, _, rfl, upd_same, paired_ty Ts, ?_, kit_any hno, ?_⟩
    · have q2 : RT X.K (hid (Hd C.A σV σ1) (upd H1 q (.tup (Ts.map fun t => V.ty t.nm)))) (upd H1 q (.tup (Ts.map fun t => V.ty t.nm))) d v := by
        rcases q1 with q1 | ⟨a, rfl, q1⟩
        · exact .inl (q1.mono (keep_grow k).hid)
        · refine .inr ⟨a, rfl, q1.mono (keep_grow k).hid ?_⟩
          cases z : H1 a with
          | none => exact absurd z q1.there
          | some o => exact (k a o z).symm
      exact ty_of q2 hid_sub et
    · have := fin_v (W := W) (mg := X.mg) (H := upd H1 q (.tup (Ts.map fun t => V.ty t.nm))) (FinG.step (f := (pure (Rv.v (.bl (Ts.any (tyLe ty)))) : M Rv)) rfl (keep_grow k) h2) (s1.heap k) (.bl _)
      simpa using this
theorem tC_two {a b : V} {t : TA} (σ : L2.St) (H : Hp) (Q : List V → Hp → Prop) (h : Q [a, b] H) : tCons (tC a) (tCons (tC b) tNil) σ H Q := h
/-- .. as a test -/
theorem asV_tru (t : M Bool) : (do let x ← asV t; tst dTru x : M Bool) = t := by
  funext σ
  unfold asV
  rw [M.assoc, bind_eq]
  cases t σ with
  | ok b σ' => rfl
  | exc c ps => rfl
  | bad => rfl
theorem tv_asV {t : M Bool} (h : EV X W e (asV t)) (he : ∀ whole, isTrue e X.env whole = (do let v ← whole; standAt e.pos; holding [v] (truthy v)) := by intro _; rfl) : TV X W e t := by
  have := tv_tru h he
  rw [asV_tru] at this
  exact this

end

/-! ### stores at places, sums in place -/
def asK (r : Rv) : M Int := fun σ => match rdv σ r with
  | some (.int k) => .ok k σ
  | _ => .bad
theorem fin_K {K : PySem.W.Frag} {mg : PySem.Str → Option Value} {W : WX} {C : Cn} {H : Hp} {σV : L2.St} {σ : Sg} {α β : Type} {Rel : RelS α β} {r : Rv} {v : V} {f : Int → M α} {Q : β → Hp → Prop} (h : FinG Rel mg W C σV H σ (asK r >>= f) Q) (s : SR K C H σV σ) (p : RvR K C H σV σ r v) :
    ∃ i, v = .int i ∧ FinG Rel mg W C σV H σ (f i) Q := by
  unfold FinG asK at h
  rw [bind_eq] at h
  cases e : rdv σ r with
  | none => simp only [e] at h
  | some d =>
    cases d <;> simp only [e] at h
    rename_i i
    exact ⟨i, (p.read s e).int, h⟩
theorem endS_K {K : PySem.W.Frag} {mg : PySem.Str → Option Value} {W : WX} {C : Cn} {H H0 : Hp} {σV σV0 : L2.St} {σ σ0 : Sg} {r : Rv} {v : V} {f : Int → M Fl} {E : Ends} (h : EndS K mg W C σV0 H0 σ0 E ((asK r >>= f) σ)) (s : SR K C H σV σ) (p : RvR K C H σV σ r v) :
    ∃ i, v = .int i ∧ EndS K mg W C σV0 H0 σ0 E (f i σ) := by
  unfold asK at h
  rw [bind_eq] at h
  cases e : rdv σ r with
  | none => simp only [e] at h; exact h.elim
  | some d =>
    cases d <;> simp only [e] at h <;> first | exact h.elim | skip
    rename_i i
    exact ⟨i, (p.read s e).int, h⟩
/-- x[i] = e: e, x, i -/
def mSetAt (o : Nat) (ma mk : M Rv) : M Rv := do
  let r ← ma
  let d ← settle r
  let _ ← ownL o
  let rk ← mk
  let k ← asK rk
  let xs ← ownL o
  match ixN xs.length k with
  | some j => (do
    let _ ← wrL o (xs.set j d)
    pure (.v .non))
  | none => M.bad
section
variable {X : Cx} {W : WX} {e ie : Expr} {npos spos pos : Pos} {x : PySem.Str} {o : Nat} {ma mk mb : M Rv}
theorem sv_setAt (ho : PE X (.Name x npos) (tVar o)) (hi : EV X W ie mk) (ha : EV X W e ma)
    (hsub : ∀ v, assign (.Subscript (.Name x npos) ie spos) X.env v = (do
      let ov ← holding [v] (eval (.Name x npos) X.env)
      let iv ← holding [v, ov] (eval ie X.env)
      standAt spos
      holding [v, ov, iv] (setItem ov iv v)
      release [v, ov, iv] []) := by intro _; rfl)
    (hs : swapsWithSole [.Subscript (.Name x npos) ie spos] e pos.line X.env = pure false := by rfl) (hw : swappedStores [.Subscript (.Name x npos) ie spos] e X.env = pure none := by rfl)
    (h1 : (assignEach [.Subscript (.Name x npos) ie spos] X.env).map (·.2) = [assign (.Subscript (.Name x npos) ie spos) X.env] := by rfl) :
    SV X W (.Assign [.Subscript (.Name x npos) ie spos] e pos) (mDrop (mSetAt o ma mk)) := by
  refine ⟨PS.imp (ps_asg ha.pe (pg_sub ho hi.pe set_list hsub) hs hw h1) fun E σV H ⟨C, σ, s, h⟩ => ?_⟩
  have h' : FinG (RelE X.K σV) X.mg W C σV H σ (mSetAt o ma mk) fun v H1 => E.nx σV H1 := (finS_e h).imp fun v H1 ⟨σ1, r, p, k, q⟩ => q σV H1 p.weak.1 k.inl
  refine ⟨C, σ, s, (fin_e h').imp fun v H1 ⟨σ1, r, s1, v1, k1, q1⟩ => ?_⟩
  obtain ⟨σ2, d, s2, r2, k2, q2⟩ := fin_settle q1 s1 v1
  obtain ⟨b, xs, a, us, g1, g2, g3, g4, q3⟩ := fin_ownL q2 s2
  refine ⟨_, g2, C, σ2, s2, (fin_e q3).imp fun w H2 ⟨σ3, rk, s3, v3, k3, q4⟩ => ?_⟩
  obtain ⟨k, rfl, q5⟩ := fin_K q4 s3 v3
  obtain ⟨b', xs', a', us', f1, f2, f3, f4, q6⟩ := fin_ownL q5 s3
  rw [g2] at f2; cases f2
  cases ej : ixN xs'.length k with
  | none => rw [ej] at q6; exact q6.elim
  | some j =>
    rw [ej] at q6
    refine ⟨a, us', k, j, rfl, rfl, f3, by rw [← f4.length]; exact ej, ?_⟩
    obtain ⟨s4, k4, q7⟩ := fin_wrL q6 s3 f1 g2 (Rs.set (r2.mono k3.hid) j f4)
    exact fin_v q7 s4 .non
/-- x += e of numbers; f: the sum -/
def mAug (i : Nat) (f : Int → Int → Int) (ma : M Rv) : M Fl := do
  let _ ← mVar i
  let r ← ma
  let y ← asK r
  let x ← asK (.ln i)
  let _ ← store i (.v (.int (f x y)))
  pure .nx
theorem sv_aug {i : Nat} {op : Operator} {f : Int → Int → Int} {pos' : Pos} (hN : X.N.Nodup) (hi : X.N[i]? = some x) (hx : Loc X.env.scope x) (ha : EV X W e ma) (hop : PIp X op (ipI f)) (hf : X.fn x = true ∨ X.env.scope.names.lookup x = some .local := by first | exact .inl rfl | exact .inr rfl | assumption) :
    SV X W (.AugAssign (.Name x pos') op e pos) (mAug i f ma) := by
  refine ⟨PS.imp (ps_aug hN hi hx ha.pe hop hf) fun E σV H ⟨C, σ, s, h⟩ => ?_⟩
  unfold mAug FinS at h
  rw [bind_eq] at h
  cases e0 : mVar i σ with
  | bad => rw [e0] at h; exact h.elim
  | exc c ps => unfold mVar at e0; cases q : rdv σ (.ln i) <;> rw [q] at e0 <;> cases e0
  | ok r0 σ0 =>
    rw [e0] at h
    obtain ⟨v0, ev0, rfl⟩ : ∃ v, σV[i]? = some (some v) ∧ σ0 = σ := by
      unfold mVar at e0
      cases q : rdv σ (.ln i) with
      | none => rw [q] at e0; cases e0
      | some d =>
        rw [q] at e0
        cases e0
        unfold rdv at q
        cases z : σ[i]? with
        | none => simp [z] at q
        | some t =>
          cases t with
          | no => simp [z] at q
          | sh d' => obtain ⟨v, h1, _⟩ := s.sh i d' z; exact ⟨v, h1, rfl⟩
          | ow b d' => obtain ⟨a, h1, _⟩ := s.ow i b d' z; exact ⟨_, h1, rfl⟩
    refine ⟨v0, ev0, C, σ0, s, (finS_e (f := fun r => do
      let y ← asK r
      let x ← asK (.ln i)
      let _ ← store i (.v (.int (f x y)))
      pure .nx) h).imp fun v H1 ⟨σ1, r, p, k, h1⟩ => ?_⟩
    obtain ⟨s1, v1⟩ := p.weak
    obtain ⟨y, rfl, h2⟩ := endS_K h1 s1 v1
    obtain ⟨x', e1, h3⟩ := endS_K h2 s1 (show RvR X.K C H1 σV σ1 (.ln i) v0 from ev0)
    exact ⟨x', y, e1, rfl, after_store (r := .v (.int (f x' y))) ⟨s1, .int _⟩ k.inl.inr h3⟩
/-- x[i] += e -/
def mAugAt (o : Nat) (f : Int → Int → Int) (mk ma : M Rv) : M Rv := do
  let _ ← ownL o
  let rk ← mk
  let k ← asK rk
  let xs ← ownL o
  match ixN xs.length k with
  | none => M.bad
  | some j => match xs[j]? with
    | some (.int z) => (do
      let r ← ma
      let y ← asK r
      let ys ← ownL o
      if ys.length = xs.length then (do
        let _ ← wrL o (ys.set j (.int (f z y)))
        pure (.v .non)) else M.bad)
    | _ => M.bad
/-- a, b = x, y -/
def settleL : Rv → M Rv
  | .ln i => do let d ← settle (.ln i); pure (.v d)
  | r => pure r
def mPar (i j : Nat) (ma mb : M Rv) : M Fl := do
  let r ← ma
  let r ← settleL r
  let r' ← mb
  let r' ← settleL r'
  let _ ← store j r'
  let _ ← store i r
  pure .nx
end

/-! ### while -/
def whL (t : M Bool) (b : M Fl) : Nat → M Fl
  | 0 => M.bad
  | n + 1 => do
    let c ← t
    if c then (do
      let x ← b
      match x with
      | .nx => whL t b n
      | .ct => whL t b n
      | .br => pure .nx
      | .rt v => pure (.rt v)) else pure .nx
section
variable {K : PySem.W.Frag} {mg : PySem.Str → Option Value} {W : WX} {C : Cn} {H H0 : Hp} {σV σV0 : L2.St} {σ σ0 : Sg}
theorem endS_b (hw : Wi W) {ta : M Bool} {f : Bool → M Fl} {E : Ends} (k : Keep (Owns σV0 σ0) H0 (Owns σV σ) H) (h : EndS K mg W C σV0 H0 σ0 E ((ta >>= f) σ)) :
    FinG (RelB K σV) mg W C σV H σ ta fun v H1 => ∃ σ1, SR K C H1 σV σ1 ∧ Keep (Owns σV σ) H (Owns σV σ1) H1 ∧ EndS K mg W C σV0 H0 σ0 E (f v σ1) := by
  unfold FinG
  rw [bind_eq] at h
  cases e : ta σ with
  | ok r σ1 =>
    rw [e] at h
    intro v H1 p k
    obtain ⟨rfl, s1⟩ := p
    exact ⟨σ1, s1, k.inl, h⟩
  | exc c ps => rw [e] at h; exact XP.stepS hw h k
  | bad => rw [e] at h; exact h
theorem sv_while {X : Cx} {W : WX} {c : Expr} {body : List Stmt} {pos : Pos} {ta : M Bool} {mb : M Fl} (n : Nat) (hw : Wi W) (hp : PassesOwn (model X.prog X.w) X.A X.env X.xe) (hc : TV X W c ta) (hb : BV X W body mb) : SV X W (.While c body [] pos) (whL ta mb n) := by
  refine ⟨PS.imp (ps_while hp hc.pt hb.pss) fun E σV H ⟨C, σ, s, h⟩ => ?_⟩
  refine ⟨fun m σV' H' => ∃ σ', SR X.K C H' σV' σ' ∧ Keep (Owns σV σ) H (Owns σV' σ') H' ∧ EndS X.K X.mg W C σV H σ E (whL ta mb m σ'), ⟨n, σ, s, Keep.refl _ _, h⟩, ?_⟩
  rintro m σV' H' ⟨σ', s', k', h'⟩
  cases m with
  | zero => exact h'.elim
  | succ m =>
    refine ⟨C, σ', s', (endS_b hw k' (f := fun c => if c then (do
      let x ← mb
      match x with
      | .nx => whL ta mb m
      | .ct => whL ta mb m
      | .br => pure .nx
      | .rt v => pure (.rt v)) else pure .nx) h').imp fun v H1 ⟨σ1, s1, k1, h1⟩ => ?_⟩
    cases v with
    | true =>
      refine iteT ⟨fun σV2 H2 => ∃ σ', SR X.K C H2 σV2 σ' ∧ Keep (Owns σV σ) H (Owns σV2 σ') H2 ∧ EndS X.K X.mg W C σV H σ E (whL ta mb m σ'), fun σV2 H2 z => ⟨m, Nat.lt_succ_self m, z⟩, C, σ1, s1, ?_⟩
      exact loop_body hw (k'.trans k1) h1 fun σ5 σV5 H5 s5 k5 h5 => ⟨σ5, s5, (k'.trans k1).trans k5, h5⟩
    | false => exact iteF (h1 σV' H1 s1 (k'.trans k1))
end

/-! ### raise of an own exception without arguments -/
/-- what stands behind the top of such a class -/
structure ExcN (K : PySem.W.Frag) (mg : PySem.Str → Option Value) (c : PySem.Str) : Prop where
  ex : ∃ (a : Addr) (bmB : List Value) (B newId initId : String), ExcBaseFacts B newId initId bmB ∧ PySem.W.excIn K a bmB newId = true ∧ mg c = some (.ref a) ∧ PySem.W.keepIn K (.ref a) = true ∧
    PySem.W.subIn K (.ref a) (.type "BaseException") = some true ∧ PySem.W.typeIn K (.ref a) = some (.type "type")
def mRaise (c : PySem.Str) : M Fl := fun _ => .exc c []
theorem pmk_own0 {X : Cx} {C : Addr} {bmB : List Value} {B newId initId : String} {x : PySem.Str} {p pos : Pos} (F : ExcBaseFacts B newId initId bmB) (q : PySem.W.excIn X.K C bmB newId = true) (gC : X.mg x = some (.ref C)) (kC : PySem.W.keepIn X.K (.ref C) = true) (r : Raises X (.ref C)) (hg : Gl X x)
    (hdb : (x == ("__debug__" : PySem.Str)) = false) : PMk X (.Call (.Name x p) [] [] pos) (fun _ H Q => Q (.ref C) none H) := by
  intro pins s σ H Q I h
  refine wpAny_Call_Name_kw (ld_glob I hg gC ?_ hdb)
  refine PySem.W.callWith_K0 I.kIn kC ?_
  show wpAny _ _ (call (.ref C) []) _ _ _
  obtain ⟨bm, N, nm, qn, bs, hdct, sn, sub, ab, col, dd, k0, k1, k2, k3, k5, mN, hC, hN, hni, T⟩ := exc_obj I.kIn q
  refine wpAny_call_exc_subT F T hC hN hni (fun h' e hm => ?_) (by show 0 ≤ sizeLine; exact Nat.zero_le _)
  exact mk_of I hm r h (I.hok.gone hm.new)
theorem sv_raise {X : Cx} {W : WX} {c : PySem.Str} {p pos pos2 : Pos} (hc : X.calm = true) (tk : Takes X W) (T : ExcN X.K X.mg c) (hg : Gl X c) (hdb : (c == ("__debug__" : PySem.Str)) = false := by decide) : SV X W (.Raise (some (.Call (.Name c p) [] [] pos)) none pos2) (mRaise c) := by
  obtain ⟨a, bmB, B, newId, initId, F, q, gC, kC, h1, h2⟩ := T.ex
  exact ⟨PS.imp (ps_raise hc tk (pmk_own0 F q gC kC (raises_own h1 h2) hg hdb)) fun E σV H ⟨C, σ, s, h⟩ => h H _ _ (fun b o e n => e) ⟨a, gC, rfl, rfl, rfl⟩⟩
end DL

set_option Elab.async false
set_option linter.all false
set_option maxRecDepth 100000
/-! DN: parallel stores, sums in place at places, pop(i), comprehensions. -/
namespace DL
open PySem PySem.Spec PyProof.Rows L2
section
variable {K : PySem.W.Frag} {mg : PySem.Str → Option Value} {W : WX} {C C2 : Cn} {H H0 H1 : Hp} {σV σV0 : L2.St} {σ σ0 σ1 : Sg}
theorem endS_e (hw : Wi W) {ma : M Rv} {f : Rv → M Fl} {E : Ends} (k : Keep (Owns σV0 σ0) H0 (Owns σV σ) H) (h : EndS K mg W C σV0 H0 σ0 E ((ma >>= f) σ)) :
    FinG (RelE K σV) mg W C2 σV H σ ma fun v H1 => ∃ σ1 r, PostR K C2 H1 σV σ1 r v ∧ Keep (Owns σV σ) H (fun c => Owns σV σ1 c ∨ exE r v c) H1 ∧ EndS K mg W C σV0 H0 σ0 E (f r σ1) := by
  unfold FinG
  rw [bind_eq] at h
  cases e : ma σ with
  | ok r σ1 =>
    rw [e] at h
    exact fun v H1 p k => ⟨σ1, r, p, k, h⟩
  | exc c ps => rw [e] at h; exact XP.stepS hw h k
  | bad => rw [e] at h; exact h
/-- a value that isn't a slot's any more -/
def notLn : Rv → Prop
  | .ln _ => False
  | _ => True
theorem endS_L {r : Rv} {v : V} {f : Rv → M Fl} {E : Ends} (h : EndS K mg W C σV0 H0 σ0 E ((settleL r >>= f) σ1)) (p : PostR K C2 H1 σV σ1 r v) (k : Keep (Owns σV σ) H (fun c => Owns σV σ1 c ∨ exE r v c) H1) :
    ∃ σ2 r', notLn r' ∧ PostR K C2 H1 σV σ2 r' v ∧ Keep (Owns σV σ) H (fun c => Owns σV σ2 c ∨ exE r' v c) H1 ∧ EndS K mg W C σV0 H0 σ0 E (f r' σ2) := by
  cases r with
  | v d => exact ⟨σ1, .v d, trivial, p, k, h⟩
  | fr d => exact ⟨σ1, .fr d, trivial, p, k, h⟩
  | ln i =>
    unfold settleL at h
    rw [M.assoc] at h
    rw [bind_eq] at h
    cases e1 : settle (.ln i) σ1 with
    | exc c ps => exact (settle_noexc e1).elim
    | bad => rw [e1] at h; exact h.elim
    | ok d σ2 =>
      rw [e1] at h
      obtain ⟨s2, r2, k2⟩ := settle_ok p.1 (show RvR K C2 H1 σV σ1 (.ln i) v from p.2) e1
      exact ⟨σ2, .v d, trivial, ⟨s2, r2⟩, (k.inl.trans k2).inr, h⟩
theorem sv_par {X : Cx} {W : WX} {i j : Nat} {x y : PySem.Str} {a b : Expr} {ma mb : M Rv} {px py pt pos : Pos} {kt k2 pt2} (hw : Wi W) (hc : X.calm = true) (hN : X.N.Nodup) (hi : X.N[i]? = some x) (hj : X.N[j]? = some y) (hij : i ≠ j)
    (hx : X.env.scope.names.lookup x = some .local) (hy : X.env.scope.names.lookup y = some .local) (ha : EV X W a ma) (hb : EV X W b mb)
    (hsw : swappedStores [.Tuple [.Name x px, .Name y py] kt pt] (.Tuple [a, b] k2 pt2) X.env = pure (some [x, y])) (hl : starEach (a :: [b]) X.env = (false, eval a X.env) :: starEach [b] X.env := by rfl) (hl2 : starEach (b :: []) X.env = (false, eval b X.env) :: starEach [] X.env := by rfl)
    (hs : swapsWithSole [.Tuple [.Name x px, .Name y py] kt pt] (.Tuple [a, b] k2 pt2) pos.line X.env = pure false := by rfl) :
    SV X W (.Assign [.Tuple [.Name x px, .Name y py] kt pt] (.Tuple [a, b] k2 pt2) pos) (mPar i j ma mb) := by
  refine ⟨PS.imp (ps_par hc hN hi hj hij hx hy (pa_cons ha.pe (pa_cons hb.pe pa_nil hl2) hl) hsw hs) fun E σV H ⟨C, σ, s, h⟩ => ⟨C, σ, s, (finS_e h).imp fun v H1 ⟨σ1, r, p, k, h1⟩ => ?_⟩⟩
  obtain ⟨σ2, r1, n1, p1, k1, h2⟩ := endS_L h1 p k
  -- the second one's context: the first one's new list is left alone
  obtain ⟨C2, c1, c2, c3⟩ : ∃ C2 : Cn, SR X.K C2 H1 σV σ2 ∧ (∀ d, r1 = .v d → C2 = C) ∧ (∀ d, r1 = .fr d → ∃ a, v = .ref a ∧ C2 = C.and a ∧ ¬ C.A a ∧ OwR X.K (hid (Hd (C.and a).A σV σ2) H1) H1 d a) := by
    cases r1 with
    | ln i => exact n1.elim
    | v d => exact ⟨C, p1.1, fun _ _ => rfl, fun _ e => by cases e⟩
    | fr d =>
      obtain ⟨a, e, na, s', o⟩ := p1
      exact ⟨C.and a, s', fun _ e => (by cases e), fun d' e => by cases e; exact ⟨a, by assumption, rfl, na, o⟩⟩
  refine ⟨C2, σ2, c1, (endS_e hw k1.inl h2).imp fun w H2 ⟨σ3, r', p', k', h3⟩ => ?_⟩
  obtain ⟨σ4, r2, n2, p2, k2', h4⟩ := endS_L h3 p' k'
  rw [bind_eq] at h4
  cases e5 : store j r2 σ4 with
  | bad => rw [e5] at h4; exact h4.elim
  | exc c ps => exact (store_noexc e5).elim
  | ok u σ5 =>
    rw [e5] at h4
    obtain ⟨s5, k5⟩ := store_ok p2 k2' e5
    have q5 : ∀ {A : Addr → Prop}, Same (hid (Hd A σV σ2) H1) (hid (Hd A (σV.set j (some w)) σ5) H2) := fun {A} => keep_hid (A := A) k5
    have pp : PostR X.K C H2 (σV.set j (some w)) σ5 r1 v := by
      cases r1 with
      | ln i => exact n1.elim
      | v d =>
        have e := c2 d rfl
        subst e
        exact ⟨s5, p1.2.mono q5⟩
      | fr d =>
        obtain ⟨a, ev, e, na, o⟩ := c3 d rfl
        subst e
        refine ⟨a, ev, na, s5, o.mono q5 ?_⟩
        cases z : H1 a with
        | none => exact absurd z o.there
        | some ho => exact ((k5 a ho z (c1.nA a (.inr rfl))).1).symm
    have kk : Keep (Owns σV σ) H (fun c => Owns (σV.set j (some w)) σ5 c ∨ exE r1 v c) H2 := fun b o e n => by
      obtain ⟨g1, g2⟩ := k1 b o e n
      obtain ⟨g3, g4⟩ := k5 b o g1 fun z => g2 (.inl z)
      exact ⟨g3, fun z => z.elim g4 fun z => g2 (.inr z)⟩
    refine ⟨v, w, rfl, ?_⟩
    rw [← List.set_comm _ _ (Ne.symm hij)]
    exact after_store pp kk h4
end
end DL

set_option Elab.async false
set_option linter.all false
set_option maxRecDepth 100000
/-! DO: list comprehensions. -/
namespace DL
open PySem PySem.Spec PyProof.Rows L2

/-! ### slots forgotten, and put back -/
def wipeS (σ : Sg) : List Nat → Sg
  | [] => σ
  | v :: vs => (wipeS σ vs).set v .no
def putS (σ σ0 : Sg) : List Nat → Sg
  | [] => σ
  | v :: vs => (putS σ σ0 vs).set v (σ0.getD v .no)
def noOw (σ : Sg) (vs : List Nat) : Bool := vs.all fun v => match σ[v]? with
  | some (.ow _ _) => false
  | _ => true
theorem wipeS_length (σ : Sg) : ∀ vs : List Nat, (wipeS σ vs).length = σ.length
  | [] => rfl
  | v :: vs => by unfold wipeS; rw [List.length_set, wipeS_length σ vs]
theorem putS_length (σ σ0 : Sg) : ∀ vs : List Nat, (putS σ σ0 vs).length = σ.length
  | [] => rfl
  | v :: vs => by unfold putS; rw [List.length_set, putS_length σ σ0 vs]
theorem wipe_out {σ : L2.St} {j : Nat} : ∀ {vs : List Nat}, j ∉ vs → (wipe σ vs)[j]? = σ[j]?
  | [], _ => rfl
  | v :: vs, h => by
    unfold wipe
    rw [List.getElem?_set_ne fun e => h (by rw [e]; exact List.mem_cons_self), wipe_out fun z => h (List.mem_cons_of_mem _ z)]
theorem wipeS_get {σ : Sg} {j : Nat} {t : Sl} : ∀ {vs : List Nat}, (wipeS σ vs)[j]? = some t → t ≠ .no → j ∉ vs ∧ σ[j]? = some t
  | [], h, _ => ⟨by simp, h⟩
  | v :: vs, h, hn => by
    unfold wipeS at h
    rcases get_set h with ⟨_, e, _⟩ | ⟨hj, h⟩
    · exact (hn e).elim
    · obtain ⟨h1, h2⟩ := wipeS_get h hn
      exact ⟨fun z => by
        rcases List.mem_cons.mp z with z | z
        · exact hj z.symm
        · exact h1 z, h2⟩
theorem wipeS_out {σ : Sg} {j : Nat} : ∀ {vs : List Nat}, j ∉ vs → (wipeS σ vs)[j]? = σ[j]?
  | [], _ => rfl
  | v :: vs, h => by
    unfold wipeS
    rw [List.getElem?_set_ne fun e => h (by rw [e]; exact List.mem_cons_self), wipeS_out fun z => h (List.mem_cons_of_mem _ z)]
theorem putS_get {σ σ0 : Sg} {j : Nat} {t : Sl} : ∀ {vs : List Nat}, (putS σ σ0 vs)[j]? = some t → t ≠ .no → (j ∈ vs ∧ σ0[j]? = some t) ∨ (j ∉ vs ∧ σ[j]? = some t)
  | [], h, _ => .inr ⟨by simp, h⟩
  | v :: vs, h, hn => by
    unfold putS at h
    rcases get_set h with ⟨e0, e, _⟩ | ⟨hj, h⟩
    · subst e0
      left
      refine ⟨List.mem_cons_self, ?_⟩
      rw [List.getD_eq_getElem?_getD] at e
      cases z : σ0[v]? with
      | none => rw [z] at e; exact (hn e).elim
      | some u => rw [z] at e; rw [e]; rfl
    · rcases putS_get h hn with ⟨h1, h2⟩ | ⟨h1, h2⟩
      · exact .inl ⟨List.mem_cons_of_mem _ h1, h2⟩
      · exact .inr ⟨fun z => by
          rcases List.mem_cons.mp z with z | z
          · exact hj z.symm
          · exact h1 z, h2⟩
theorem noOw_at {σ : Sg} {vs : List Nat} (h : noOw σ vs = true) {j : Nat} (hj : j ∈ vs) {b : Bool} {d : D} (e : σ[j]? = some (.ow b d)) : False := by
  unfold noOw at h
  rw [List.all_eq_true] at h
  have := h j hj
  simp [e] at this
theorem only_wipe {is vs : List Nat} {a b : L2.St} (o : Only is a b) (h : ∀ i ∈ is, i ∈ vs) : wipe b vs = wipe a vs := by
  refine List.ext_getElem? fun j => ?_
  by_cases hj : j ∈ vs
  · have key : ∀ {σ : L2.St} {vs : List Nat}, j ∈ vs → (wipe σ vs)[j]? = if j < σ.length then some none else none := by
      intro σ vs hv
      induction vs with
      | nil => cases hv
      | cons v vs ih =>
        unfold wipe
        by_cases e : v = j
        · subst e
          by_cases hl : v < σ.length
          · rw [List.getElem?_set_self (by rw [wipe_length]; exact hl), if_pos hl]
          · rw [if_neg hl, List.getElem?_eq_none (by rw [List.length_set, wipe_length]; omega)]
        · rw [List.getElem?_set_ne e]
          exact ih ((List.mem_cons.mp hv).resolve_left fun z => e z.symm)
    rw [key hj, key hj, o.1]
  · rw [wipe_out hj, wipe_out hj]
    exact (o.2 j fun z => hj (h j z)).symm
theorem only_refl (is : List Nat) (a : L2.St) : Only is a a := ⟨rfl, fun _ _ => rfl⟩
theorem only_wiped (a : L2.St) (vs : List Nat) : Only vs (wipe a vs) a := ⟨wipe_length a vs, fun j hj => wipe_out hj⟩
theorem wipe_wipe (a : L2.St) {vs ws : List Nat} (h : ∀ i ∈ ws, i ∈ vs) : wipe (wipe a ws) vs = wipe a vs := (only_wipe (only_wiped a ws) h).symm
section
variable {K : PySem.W.Frag} {C : Cn} {H H' H1 : Hp} {σV : L2.St} {σ σ1 : Sg}
theorem owns_wipe {vs : List Nat} (n : noOw σ vs = true) (c : Addr) : Owns (wipe σV vs) (wipeS σ vs) c ↔ Owns σV σ c := by
  constructor
  · rintro ⟨j, b, d, e1, e2⟩
    obtain ⟨h1, h2⟩ := wipeS_get e1 (fun z => nomatch z)
    rw [wipe_out h1] at e2
    exact ⟨j, b, d, h2, e2⟩
  · rintro ⟨j, b, d, e1, e2⟩
    have h1 : j ∉ vs := fun z => noOw_at n z e1
    exact ⟨j, b, d, by rw [wipeS_out h1]; exact e1, by rw [wipe_out h1]; exact e2⟩
theorem SR.wiped {vs : List Nat} (s : SR K C H σV σ) (n : noOw σ vs = true) : SR K C H (wipe σV vs) (wipeS σ vs) := by
  have q : Same (hid (Hd C.A σV σ) H) (hid (Hd C.A (wipe σV vs) (wipeS σ vs)) H) := hid_mono fun b o h m => ⟨h, fun z => m (z.elim .inl fun z => .inr ((owns_wipe n b).mp z))⟩
  refine ⟨by rw [wipeS_length, wipe_length]; exact s.len, s.al, fun a z o => s.nA a z ((owns_wipe n a).mp o), fun j d e => ?_, fun j b d e => ?_, fun i j b c d e a e1 e2 e3 e4 => ?_⟩
  · obtain ⟨h1, h2⟩ := wipeS_get e (fun z => nomatch z)
    obtain ⟨v, h3, h4⟩ := s.sh j d h2
    exact ⟨v, by rw [wipe_out h1]; exact h3, h4.mono q⟩
  · obtain ⟨h1, h2⟩ := wipeS_get e (fun z => nomatch z)
    obtain ⟨a, h3, h4, h5⟩ := s.ow j b d h2
    exact ⟨a, by rw [wipe_out h1]; exact h3, h4.mono q rfl, h5⟩
  · obtain ⟨h1, h2⟩ := wipeS_get e1 (fun z => nomatch z)
    obtain ⟨h3, h4⟩ := wipeS_get e2 (fun z => nomatch z)
    rw [wipe_out h1] at e3
    rw [wipe_out h3] at e4
    exact s.inj i j _ _ _ _ a h2 h4 e3 e4
/-- a reserved object is written -/
theorem SR.updD {a : Addr} {o : HO} (s : SR K C H σV σ) (ha : C.A a) : SR K C (upd H a o) σV σ ∧ Same (hid (Hd C.A σV σ) H) (hid (Hd C.A σV σ) (upd H a o)) := by
  have q : Same (hid (Hd C.A σV σ) H) (hid (Hd C.A σV σ) (upd H a o)) := hid_mono fun b x h n => ⟨by rw [upd_ne fun e => n (by rw [e]; exact .inl ha)]; exact h, n⟩
  refine ⟨⟨s.len, fun b z => ?_, s.nA, fun i d e => ?_, fun i b d e => ?_, s.inj⟩, q⟩
  · by_cases e : b = a
    · rw [e, upd_same]; exact fun z => nomatch z
    · rw [upd_ne e]; exact s.al b z
  · obtain ⟨v, h1, h2⟩ := s.sh i d e
    exact ⟨v, h1, h2.mono q⟩
  · obtain ⟨a', h1, h2, h3⟩ := s.ow i b d e
    have n : a' ≠ a := fun z => s.nA a ha ⟨i, b, d, e, z ▸ h1⟩
    exact ⟨a', h1, h2.mono q (by rw [upd_ne n]), h3⟩
theorem owns_put {vs : List Nat} (n : noOw σ1 vs = true) {c : Addr} (o : Owns σV (putS σ σ1 vs) c) : Owns (wipe σV vs) σ c := by
  obtain ⟨j, b, d, e1, e2⟩ := o
  rcases putS_get e1 (fun z => nomatch z) with ⟨h1, h2⟩ | ⟨h1, h2⟩
  · exact (noOw_at n h1 h2).elim
  · exact ⟨j, b, d, h2, by rw [wipe_out h1]; exact e2⟩
/-- behind a block: what was put away is there again -/
theorem SR.put {vs : List Nat} {D : Addr} (s1 : SR K C H1 σV σ1) (n : noOw σ1 vs = true) (s : SR K (C.and D) H (wipe σV vs) σ) (k : Keep (Owns σV σ1) H1 (fun c => Owns (wipe σV vs) σ c ∨ c = D) H) : SR K (C.and D) H σV (putS σ σ1 vs) := by
  have q1 : Same (hid (Hd C.A σV σ1) H1) (hid (Hd (C.and D).A σV (putS σ σ1 vs)) H) := hid_mono fun b o h m => by
    obtain ⟨g1, g2⟩ := k b o h fun z => m (.inr z)
    exact ⟨g1, fun z => z.elim (fun z => z.elim (fun z => m (.inl z)) fun z => g2 (.inr z)) fun z => g2 (.inl (owns_put n z))⟩
  have q2 : Same (hid (Hd (C.and D).A (wipe σV vs) σ) H) (hid (Hd (C.and D).A σV (putS σ σ1 vs)) H) := hid_mono fun b o h m => ⟨h, fun z => m (z.elim .inl fun z => .inr (owns_put n z))⟩
  refine ⟨by rw [putS_length, s.len, wipe_length], s.al, fun a z o => s.nA a z (owns_put n o), fun j d e => ?_, fun j b d e => ?_, fun i j b c d e a e1 e2 e3 e4 => ?_⟩
  · rcases putS_get e (fun z => nomatch z) with ⟨h1, h2⟩ | ⟨h1, h2⟩
    · obtain ⟨v, h3, h4⟩ := s1.sh j d h2
      exact ⟨v, h3, h4.mono q1⟩
    · obtain ⟨v, h3, h4⟩ := s.sh j d h2
      rw [wipe_out h1] at h3
      exact ⟨v, h3, h4.mono q2⟩
  · rcases putS_get e (fun z => nomatch z) with ⟨h1, h2⟩ | ⟨h1, h2⟩
    · exact (noOw_at n h1 h2).elim
    · obtain ⟨a, h3, h4, h5⟩ := s.ow j b d h2
      rw [wipe_out h1] at h3
      exact ⟨a, h3, h4.mono q2 rfl, h5⟩
  · rcases putS_get e1 (fun z => nomatch z) with ⟨h1, h2⟩ | ⟨h1, h2⟩
    · exact (noOw_at n h1 h2).elim
    · rcases putS_get e2 (fun z => nomatch z) with ⟨h3, h4⟩ | ⟨h3, h4⟩
      · exact (noOw_at n h3 h4).elim
      · exact s.inj i j _ _ _ _ a h2 h4 (by rw [wipe_out h1]; exact e3) (by rw [wipe_out h3]; exact e4)
end

/-! ### a run that tells a value -/
def Fin0 {α : Type} (m : M α) (σ : Sg) (J : α → Sg → Prop) : Prop := match m σ with
  | .ok r σ' => J r σ'
  | _ => False
theorem fin0_bind {α β : Type} {m : M α} {f : α → M β} {σ : Sg} {J : β → Sg → Prop} (h : Fin0 (m >>= f) σ J) : ∃ r σ', m σ = .ok r σ' ∧ Fin0 (f r) σ' J := by
  unfold Fin0 at h
  rw [bind_eq] at h
  cases e : m σ with
  | ok r σ' => rw [e] at h; exact ⟨r, σ', rfl, h⟩
  | exc c ps => rw [e] at h; exact h.elim
  | bad => rw [e] at h; exact h.elim
def WF : WX := fun _ _ _ _ => False
section
variable {K : PySem.W.Frag} {mg : PySem.Str → Option Value} {W : WX} {C : Cn} {H : Hp} {σV : L2.St} {σ : Sg} {α β : Type}
theorem fin0_e {ma : M Rv} {f : Rv → M α} {J : α → Sg → Prop} (h : Fin0 (ma >>= f) σ J) : FinG (RelE K σV) mg W C σV H σ ma fun v H1 => ∃ σ1 r, SR K C H1 σV σ1 ∧ RvR K C H1 σV σ1 r v ∧ Keep (Owns σV σ) H (Owns σV σ1) H1 ∧ Fin0 (f r) σ1 J := by
  obtain ⟨r, σ1, e, h1⟩ := fin0_bind h
  unfold FinG
  rw [e]
  exact fun v H1 p k => ⟨σ1, r, p.weak.1, p.weak.2, k.inl, h1⟩
theorem fin0_b {ta : M Bool} {f : Bool → M α} {J : α → Sg → Prop} (h : Fin0 (ta >>= f) σ J) : FinG (RelB K σV) mg W C σV H σ ta fun v H1 => ∃ σ1, SR K C H1 σV σ1 ∧ Keep (Owns σV σ) H (Owns σV σ1) H1 ∧ Fin0 (f v) σ1 J := by
  obtain ⟨r, σ1, e, h1⟩ := fin0_bind h
  unfold FinG
  rw [e]
  intro v H1 p k
  obtain ⟨rfl, s1⟩ := p
  exact ⟨σ1, s1, k.inl, h1⟩
theorem fin0_i {mi : M (List D)} {f : List D → M α} {J : α → Sg → Prop} (h : Fin0 (mi >>= f) σ J) :
    FinG (RelI K σV) mg W C σV H σ mi fun It H1 => ∃ σ1 ds, SR K C H1 σV σ1 ∧ ItOk K C.A (Owns σV σ1) It H1 ds ∧ Keep (Owns σV σ) H (Owns σV σ1) H1 ∧ Fin0 (f ds) σ1 J := by
  obtain ⟨r, σ1, e, h1⟩ := fin0_bind h
  unfold FinG
  rw [e]
  exact fun v H1 p k => ⟨σ1, r, p.1, p.2, k.inl, h1⟩
theorem fin0_T {m : M Unit} {f : M α} {is : List Nat} {J : α → Sg → Prop} {Q : L2.St → Hp → Prop} (h : Fin0 (do let _ ← m; f) σ J)
    (q : ∀ σ' σV', SR K C H σV' σ' → Keep (Owns σV σ) H (Owns σV' σ') H → Only is σV σV' → Fin0 f σ' J → Q σV' H) : FinT K C is σV H σ m Q := by
  obtain ⟨r, σ1, e, h1⟩ := fin0_bind h
  unfold FinT
  rw [e]
  exact fun σV' s' k' o' => q σ1 σV' s' k' o' h1
theorem fin0_settle {r : Rv} {v : V} {f : D → M α} {J : α → Sg → Prop} (h : Fin0 (settle r >>= f) σ J) (s : SR K C H σV σ) (p : RvR K C H σV σ r v) :
    ∃ σ1 d, SR K C H σV σ1 ∧ R K (hid (Hd C.A σV σ1) H) d v ∧ Keep (Owns σV σ) H (Owns σV σ1) H ∧ Fin0 (f d) σ1 J := by
  obtain ⟨d, σ1, e, h1⟩ := fin0_bind h
  obtain ⟨s1, r1, k1⟩ := settle_ok s p e
  exact ⟨σ1, d, s1, r1, k1, h1⟩
end
def wipeM (vs : List Nat) : M Unit := fun σ => if noOw σ vs then .ok () (wipeS σ vs) else .bad
theorem fin0_wipe {α : Type} {vs : List Nat} {f : M α} {σ : Sg} {J : α → Sg → Prop} (h : Fin0 (do let _ ← wipeM vs; f) σ J) : noOw σ vs = true ∧ Fin0 f (wipeS σ vs) J := by
  obtain ⟨r, σ1, e, h1⟩ := fin0_bind h
  unfold wipeM at e
  split at e
  · rename_i hn
    cases e
    exact ⟨hn, h1⟩
  · cases e
/-! ### the mirror -/
def lcL (f : D → M (List D)) : List D → M (List D)
  | [] => pure []
  | d :: r => do
    let ys ← f d
    let zs ← lcL f r
    pure (ys ++ zs)
def lcEnd (vs : List Nat) (σ0 : Sg) (ys : List D) : M Rv := fun σ => if ys.length ≤ lim then .ok (.fr (.lst ys)) (putS σ σ0 vs) else .bad
def turn1 (vs : List Nat) (g : D → M Unit) (t : M Bool) (me : M Rv) (d : D) : M (List D) := do
  let _ ← g d
  let k ← t
  if k then (do
    let r ← me
    let y ← settle r
    let _ ← wipeM vs
    pure [y]) else (do
    let _ ← wipeM vs
    pure [])
def noX {α : Type} (m : M α) : M α := fun σ => match m σ with
  | .exc _ _ => .bad
  | r => r
def lcK (vs : List Nat) (f : D → M (List D)) (ds : List D) : M Rv := fun σ1 => if noOw σ1 vs then noX (do let zs ← lcL f ds; lcEnd vs σ1 zs) (wipeS σ1 vs) else .bad
def mLc (vs : List Nat) (mi : M (List D)) (f : D → M (List D)) : M Rv := do
  let ds ← mi
  lcK vs f ds
theorem lcEnd_le {vs : List Nat} {σ0 σ : Sg} {pre : List D} {m : M (List D)} {J : Rv → Sg → Prop} (h : Fin0 (do let zs ← m; lcEnd vs σ0 (pre ++ zs)) σ J) : pre.length ≤ lim := by
  obtain ⟨zs, σ1, e, h1⟩ := fin0_bind h
  unfold Fin0 lcEnd at h1
  by_cases hl : (pre ++ zs).length ≤ lim
  · rw [List.length_append] at hl; omega
  · rw [if_neg hl] at h1; exact h1.elim
theorem lcL_cons {f : D → M (List D)} {d : D} {r pre : List D} {fin : List D → M Rv} : (do let zs ← lcL f (d :: r); fin (pre ++ zs)) = (do let ys ← f d; (do let zs ← lcL f r; fin ((pre ++ ys) ++ zs))) := by
  conv => lhs; unfold lcL
  rw [M.assoc]
  congr 1
  funext ys
  rw [M.assoc]
  congr 1
  funext zs
  show fin (pre ++ (ys ++ zs)) = fin ((pre ++ ys) ++ zs)
  rw [List.append_assoc]
structure CV (X : Cx) (ifs : List Expr) (t : M Bool) : Prop where
  pts : PTs X ifs (tT X.K X.mg WF t)
theorem cv_nil {X : Cx} : CV X [] (pure true) := ⟨⟨fun pins s σV H Q I h => pts_nil.run pins s σV H Q I (by
  obtain ⟨C, σ, s1, h⟩ := h
  exact h true H ⟨rfl, s1⟩ (Keep.refl _ _).inr)⟩⟩
theorem cv_one {X : Cx} {c : Expr} {t : M Bool} (h : TV X WF c t) : CV X [c] t := ⟨pts_one h.pt⟩
theorem fin_i {K : PySem.W.Frag} {mg : PySem.Str → Option Value} {W : WX} {C : Cn} {H : Hp} {σV : L2.St} {σ : Sg} {α β : Type} {Rel : RelS α β} {mi : M (List D)} {f : List D → M α} {Q : β → Hp → Prop} (h : FinG Rel mg W C σV H σ (mi >>= f) Q) :
    FinG (RelI K σV) mg W C σV H σ mi fun J H1 => ∃ σ1 ds, SR K C H1 σV σ1 ∧ ItOk K C.A (Owns σV σ1) J H1 ds ∧ Keep (Owns σV σ) H (Owns σV σ1) H1 ∧ FinG Rel mg W C σV H1 σ1 (f ds) Q := by
  unfold FinG at h ⊢
  rw [bind_eq] at h
  cases e : mi σ with
  | ok r σ1 =>
    rw [e] at h
    exact fun v H1 p k => ⟨σ1, r, p.1, p.2, k.inl, FinG.step (f := f r) rfl k.inl h⟩
  | exc c ps => rw [e] at h; exact h
  | bad => rw [e] at h; exact h
theorem Keep.andD {O P P2 : Addr → Prop} {H H1 H2 : Hp} {D : Addr} (a : Keep O H (fun c => P c ∨ c = D) H1) (b : Keep P H1 P2 H2) : Keep O H (fun c => P2 c ∨ c = D) H2 := fun c o e n => by
  obtain ⟨h1, h2⟩ := a c o e n
  obtain ⟨h3, h4⟩ := b c o h1 fun z => h2 (.inl z)
  exact ⟨h3, fun z => z.elim h4 fun z => h2 (.inr z)⟩
section
variable {K : PySem.W.Frag} {mg : PySem.Str → Option Value} {W : WX} {C : Cn} {H H1 : Hp} {σV : L2.St} {σ σ1 : Sg}
/-- within a block: the new list so far -/
structure Blk (K : PySem.W.Frag) (C : Cn) (σV : L2.St) (σ1 : Sg) (H1 : Hp) (D : Addr) (σW : L2.St) (σ : Sg) (H : Hp) (done : List DL.D) : Prop where
  s : SR K (C.and D) H σW σ
  k : Keep (Owns σV σ1) H1 (fun c => Owns σW σ c ∨ c = D) H
  l : ∃ acc, H D = some (.lst acc) ∧ Rs K (hid (Hd (C.and D).A σW σ) H) done acc
theorem Blk.step {D : Addr} {σW σW' : L2.St} {σ' : Sg} {H' : Hp} {done : List DL.D} (b : Blk K C σV σ1 H1 D σW σ H done) (s : SR K (C.and D) H' σW' σ') (k : Keep (Owns σW σ) H (Owns σW' σ') H') : Blk K C σV σ1 H1 D σW' σ' H' done := by
  obtain ⟨acc, h1, h2⟩ := b.l
  exact ⟨s, b.k.andD k, acc, (k D _ h1 (b.s.nA D (.inr rfl))).1, h2.mono (keep_hid (A := (C.and D).A) k)⟩
theorem Blk.wiped {D : Addr} {σW : L2.St} {done : List DL.D} {vs : List Nat} (b : Blk K C σV σ1 H1 D σW σ H done) (n : noOw σ vs = true) : Blk K C σV σ1 H1 D (wipe σW vs) (wipeS σ vs) H done :=
  b.step (b.s.wiped n) fun c o e m => ⟨e, fun z => m ((owns_wipe n c).mp z)⟩
theorem Blk.push {D : Addr} {σW : L2.St} {done : List DL.D} {y : DL.D} {v : V} (b : Blk K C σV σ1 H1 D σW σ H done) (r : R K (hid (Hd (C.and D).A σW σ) H) y v) :
    ∃ acc, H D = some (.lst acc) ∧ acc.length = done.length ∧ Blk K C σV σ1 H1 D σW σ (upd H D (.lst (acc ++ [v]))) (done ++ [y]) := by
  obtain ⟨acc, h1, h2⟩ := b.l
  obtain ⟨s', q⟩ := b.s.updD (o := .lst (acc ++ [v])) (show (C.and D).A D from .inr rfl)
  refine ⟨acc, h1, h2.length.symm, s', fun c o e n => ?_, acc ++ [v], upd_same, (h2.append (.cons r .nil)).mono q⟩
  obtain ⟨g1, g2⟩ := b.k c o e n
  exact ⟨by rw [upd_ne fun z => g2 (.inr z)]; exact g1, g2⟩
theorem Blk.start {D : Addr} {vs : List Nat} (s1 : SR K C H1 σV σ1) (n : noOw σ1 vs = true) (hD : H1 D = none) : Blk K C σV σ1 H1 D (wipe σV vs) (wipeS σ1 vs) (upd H1 D (.lst [])) [] := by
  refine ⟨(s1.wiped n).more hD (same_upd hD) (by rw [upd_same]; exact fun z => nomatch z), fun c o e m => ⟨same_upd hD c o e, fun z => z.elim (fun z => m ((owns_wipe n c).mp z)) fun z => ?_⟩, [], upd_same, .nil⟩
  rw [z, hD] at e; cases e
theorem Blk.it {D : Addr} {σW : L2.St} {done : List DL.D} (b : Blk K C σV σ1 H1 D σW σ H done) : ∀ c, C.A c ∨ (Owns σW σ c ∨ c = D) → H c ≠ none := fun c z => by
  rcases z with z | z | z
  · exact b.s.al c (.inl z)
  · exact b.s.owned z
  · exact b.s.al c (.inr z)
theorem hd_swap {D : Addr} {σW : L2.St} : Same (hid (fun c => C.A c ∨ (Owns σW σ c ∨ c = D)) H) (hid (Hd (C.and D).A σW σ) H) := hid_mono fun c o e n => ⟨e, fun z => n (by
  rcases z with (z | z) | z
  · exact .inl z
  · exact .inr (.inr z)
  · exact .inr (.inl z))⟩
/-- a block's end -/
theorem Blk.fin {D : Addr} {vs : List Nat} {done : List DL.D} (s1 : SR K C H1 σV σ1) (n : noOw σ1 vs = true) (hD : H1 D = none) (b : Blk K C σV σ1 H1 D (wipe σV vs) σ H done) :
    PostR K C H σV (putS σ σ1 vs) (.fr (.lst done)) (.ref D) ∧ Keep (Owns σV σ1) H1 (fun c => Owns σV (putS σ σ1 vs) c ∨ exE (.fr (.lst done)) (.ref D) c) H := by
  obtain ⟨acc, h1, h2⟩ := b.l
  refine ⟨⟨D, rfl, fun z => s1.al D z hD, s1.put n b.s b.k, acc, h1, h2.mono (hid_mono fun c o e m => ⟨e, fun z => m (z.elim .inl fun z => .inr (owns_put n z))⟩)⟩, fun c o e m => ?_⟩
  obtain ⟨g1, g2⟩ := b.k c o e m
  exact ⟨g1, fun z => z.elim (fun z => g2 (.inl (owns_put n z))) fun z => g2 (.inr (by cases (show V.ref D = V.ref c from z); rfl))⟩
end
/-- a target's reading -/
abbrev tGV (K : PySem.W.Frag) (is : List Nat) (g : D → M Unit) : TG := fun v σV H Q => ∃ C σ d, SR K C H σV σ ∧ R K (hid (Hd C.A σV σ) H) d v ∧ FinT K C is σV H σ (g d) Q
section
variable {X : Cx} {W : WX} {elt tg iter tg1 iter1 : Expr} {ifs ifs1 : List Expr} {scope : Scope} {own : List (PySem.Str × Nat)} {is is1 vs vs1 : List Nat} {pos : Pos} {mi mi1 : M (List D)} {g g1 : D → M Unit} {t t1 : M Bool} {me : M Rv}
abbrev bX (X : Cx) (scope : Scope) (s : Shared) (H : Hp) (C : Addr) (cl : List (PySem.Str × Addr)) (fp : List Addr) : Cx := X.blk s H scope (compEnvC scope cl C X.env) fp
/-- the reading of a comprehension, from its mirror -/
theorem lc_reads {σV : L2.St} {H : Hp} {Q : VK} (his : ∀ i ∈ is, i ∈ vs) (ng : ∀ d, NoEx (g d)) {wi : TI} (hwi : ∀ {σV H R}, (∃ C σ, SR X.K C H σV σ ∧ FinG (RelI X.K σV) X.mg W C σV H σ mi R) → wi σV H R) (h : ∃ C σ, SR X.K C H σV σ ∧ FinG (RelE X.K σV) X.mg W C σV H σ (mLc vs mi (turn1 vs g t me)) Q) :
    tLc wi (fun v σV H Q => ∃ C σ d, SR X.K C H σV σ ∧ R X.K (hid (Hd C.A σV σ) H) d v ∧ FinT X.K C is σV H σ (g d) Q) (tT X.K X.mg WF t) (tE X.K X.mg WF me) vs σV H Q := by
  obtain ⟨C, σ, s, h⟩ := h
  refine hwi ⟨C, σ, s, (fin_i h).imp fun J H1 ⟨σ1, ds, s1, ok, k1, h1⟩ => ?_⟩
  intro D hD
  unfold FinG lcK at h1
  by_cases hn : noOw σ1 vs = true
  · rw [if_pos hn] at h1
    -- what is told at the end
    have h2 : Fin0 (do let zs ← lcL (turn1 vs g t me) ds; lcEnd vs σ1 ([] ++ zs)) (wipeS σ1 vs) fun r σ' => ∀ b H', PostR X.K C H' σV σ' r b → Keep (Owns σV σ1) H1 (fun c => Owns σV σ' c ∨ exE r b c) H' → Q b H' := by
      unfold Fin0
      simp only [List.nil_append]
      unfold noX at h1
      cases e : (do let zs ← lcL (turn1 vs g t me) ds; lcEnd vs σ1 zs : M Rv) (wipeS σ1 vs) with
      | ok r σ' => simp only [e] at h1; exact h1
      | exc c ps => simp only [e] at h1
      | bad => simp only [e] at h1
    generalize hJ : (fun (r : Rv) (σ' : Sg) => ∀ b H', PostR X.K C H' σV σ' r b → Keep (Owns σV σ1) H1 (fun c => Owns σV σ' c ∨ exE r b c) H' → Q b H') = Jf at h2
    refine ⟨fun i m H' => m = ds.length - i ∧ i ≤ ds.length ∧ ∃ σ' done, Blk X.K C σV σ1 H1 D (wipe σV vs) σ' H' done ∧ Fin0 (do let zs ← lcL (turn1 vs g t me) (ds.drop i); lcEnd vs σ1 (done ++ zs)) σ' Jf, ⟨_, rfl, Nat.zero_le _, _, [], Blk.start s1 hn hD, h2⟩, ?_⟩
    rintro i m H' ⟨rfl, hi, σ', done, b, hf⟩
    obtain ⟨go, stop⟩ := ok _ _ b.k.orA b.it
    by_cases hl : i = ds.length
    · left
      subst hl
      rw [List.drop_length] at hf
      refine ⟨stop, ?_⟩
      obtain ⟨zs, σ2, e, h3⟩ := fin0_bind hf
      cases e
      unfold Fin0 lcEnd at h3
      split at h3
      · rename_i e4
        split at e4
        · cases e4
          rw [← hJ, List.append_nil] at h3
          obtain ⟨p1, p2⟩ := b.fin s1 hn hD
          exact h3 _ H' p1 p2
        · cases e4
      · exact h3.elim
    · right
      have hi' : i < ds.length := by omega
      obtain ⟨g1, g2⟩ := go i _ (List.getElem?_eq_getElem hi')
      refine ⟨g1, fun H'' => i + 1 ≤ ds.length ∧ ∃ σ' done, Blk X.K C σV σ1 H1 D (wipe σV vs) σ' H'' done ∧ Fin0 (do let zs ← lcL (turn1 vs g t me) (ds.drop (i + 1)); lcEnd vs σ1 (done ++ zs)) σ' Jf, fun H'' z => ⟨ds.length - (i + 1), by omega, rfl, z⟩, fun x H3 y => ?_⟩
      obtain ⟨sm, rx⟩ := g2 x H3 y
      have b3 := b.step (b.s.heap sm) (keep_grow sm)
      rw [List.drop_eq_getElem_cons hi', lcL_cons] at hf
      unfold turn1 at hf
      rw [M.assoc] at hf
      refine ⟨C.and D, σ', ds[i], b3.s, rx.mono hd_swap, fin0_T hf fun σ4 σV4 s4 k4 o4 h4 => ?_⟩
      have b4 := b3.step s4 k4
      have ew : wipe σV4 vs = wipe σV vs := by rw [only_wipe o4 his, wipe_wipe _ fun _ z => z]
      refine ⟨ew, C.and D, σ4, s4, ?_⟩
      rw [M.assoc] at h4
      refine (fin0_b h4).imp fun k H5 ⟨σ5, s5, k5, h5⟩ => ?_
      have b5 := b4.step s5 k5
      cases k with
      | true =>
        refine iteT ⟨C.and D, σ5, s5, ?_⟩
        simp only [if_true] at h5
        rw [M.assoc] at h5
        refine (fin0_e h5).imp fun v H6 ⟨σ6, r, s6, v6, k6, h6⟩ => ?_
        have b6 := b5.step s6 k6
        rw [M.assoc] at h6
        obtain ⟨σ7, y, s7, r7, k7, h7⟩ := fin0_settle h6 s6 v6
        have b7 := b6.step s7 k7
        rw [M.assoc] at h7
        obtain ⟨n8, h8⟩ := fin0_wipe h7
        have b8 := b7.wiped n8
        have r8 := r7.mono (hid_mono (A' := Hd (C.and D).A (wipe σV4 vs) (wipeS σ7 vs)) fun c o e m => ⟨e, fun z => m (z.elim .inl fun z => .inr ((owns_wipe n8 c).mp z))⟩)
        obtain ⟨acc, a1, a2, b9⟩ := b8.push r8
        rw [ew] at b9
        have h9 : Fin0 (do let zs ← lcL (turn1 vs g t me) (ds.drop (i + 1)); lcEnd vs σ1 ((done ++ [y]) ++ zs)) (wipeS σ7 vs) Jf := h8
        refine ⟨acc, a1, ?_, hi', _, _, b9, h9⟩
        have := lcEnd_le h9
        rw [List.length_append, List.length_singleton] at this
        rw [a2]
        exact lim_size (by omega)
      | false =>
        refine iteF ?_
        simp only [Bool.false_eq_true, if_false] at h5
        rw [M.assoc] at h5
        obtain ⟨n8, h8⟩ := fin0_wipe h5
        have b8 := b5.wiped n8
        rw [ew] at b8
        have h9 : Fin0 (do let zs ← lcL (turn1 vs g t me) (ds.drop (i + 1)); lcEnd vs σ1 ((done ++ []) ++ zs)) (wipeS σ5 vs) Jf := h8
        rw [List.append_nil] at h9
        exact ⟨hi', _, _, b8, h9⟩
  · rw [if_neg hn] at h1
    exact h1.elim
def turn2 (vs vs1 : List Nat) (g : D → M Unit) (t : M Bool) (mi1 : M (List D)) (g1 : D → M Unit) (t1 : M Bool) (me : M Rv) (d : D) : M (List D) := do
  let _ ← g d
  let k ← t
  if k then (do
    let ds1 ← mi1
    let _ ← wipeM vs1
    let ys ← lcL (turn1 vs1 g1 t1 me) ds1
    let _ ← wipeM vs
    pure ys) else (do
    let _ ← wipeM vs
    pure [])
theorem lcL_end {f : D → M (List D)} {ds : List D} {pre : List D} {k : List D → M Rv} : (do let ys ← lcL f ds; k (pre ++ ys)) = (do let zs ← lcL f ds; k (pre ++ zs)) := rfl
theorem lc2_reads {σV : L2.St} {H : Hp} {Q : VK} (his : ∀ i ∈ is, i ∈ vs) (ng : ∀ d, NoEx (g d)) (his1 : ∀ i ∈ is1, i ∈ vs1) (hvs : ∀ i ∈ vs1, i ∈ vs) {wi wi1 : TI} (hwi : ∀ {σV H R}, (∃ C σ, SR X.K C H σV σ ∧ FinG (RelI X.K σV) X.mg W C σV H σ mi R) → wi σV H R)
    (hwi1 : ∀ {σV H R}, (∃ C σ, SR X.K C H σV σ ∧ FinG (RelI X.K σV) X.mg WF C σV H σ mi1 R) → wi1 σV H R) (h : ∃ C σ, SR X.K C H σV σ ∧ FinG (RelE X.K σV) X.mg W C σV H σ (mLc vs mi (turn2 vs vs1 g t mi1 g1 t1 me)) Q) :
    tLc2 wi (fun v σV H Q => ∃ C σ d, SR X.K C H σV σ ∧ R X.K (hid (Hd C.A σV σ) H) d v ∧ FinT X.K C is σV H σ (g d) Q) (tT X.K X.mg WF t) wi1 (fun v σV H Q => ∃ C σ d, SR X.K C H σV σ ∧ R X.K (hid (Hd C.A σV σ) H) d v ∧ FinT X.K C is1 σV H σ (g1 d) Q) (tT X.K X.mg WF t1) (tE X.K X.mg WF me) vs vs1 σV H Q := by
  obtain ⟨C, σ, s, h⟩ := h
  refine hwi ⟨C, σ, s, (fin_i h).imp fun J H1 ⟨σ1, ds, s1, ok, k1, h1⟩ => ?_⟩
  intro D hD
  unfold FinG lcK at h1
  by_cases hn : noOw σ1 vs = true
  · rw [if_pos hn] at h1
    have h2 : Fin0 (do let zs ← lcL (turn2 vs vs1 g t mi1 g1 t1 me) ds; lcEnd vs σ1 ([] ++ zs)) (wipeS σ1 vs) fun r σ' => ∀ b H', PostR X.K C H' σV σ' r b → Keep (Owns σV σ1) H1 (fun c => Owns σV σ' c ∨ exE r b c) H' → Q b H' := by
      unfold Fin0
      simp only [List.nil_append]
      unfold noX at h1
      cases e : (do let zs ← lcL (turn2 vs vs1 g t mi1 g1 t1 me) ds; lcEnd vs σ1 zs : M Rv) (wipeS σ1 vs) with
      | ok r σ' => simp only [e] at h1; exact h1
      | exc c ps => simp only [e] at h1
      | bad => simp only [e] at h1
    generalize hJ : (fun (r : Rv) (σ' : Sg) => ∀ b H', PostR X.K C H' σV σ' r b → Keep (Owns σV σ1) H1 (fun c => Owns σV σ' c ∨ exE r b c) H' → Q b H') = Jf at h2
    refine ⟨fun i m H' => m = ds.length - i ∧ i ≤ ds.length ∧ ∃ σ' done, Blk X.K C σV σ1 H1 D (wipe σV vs) σ' H' done ∧ Fin0 (do let zs ← lcL (turn2 vs vs1 g t mi1 g1 t1 me) (ds.drop i); lcEnd vs σ1 (done ++ zs)) σ' Jf, ⟨_, rfl, Nat.zero_le _, _, [], Blk.start s1 hn hD, h2⟩, ?_⟩
    rintro i m H' ⟨rfl, hi, σ', done, b, hf⟩
    obtain ⟨go, stop⟩ := ok _ _ b.k.orA b.it
    by_cases hl : i = ds.length
    · left
      subst hl
      rw [List.drop_length] at hf
      refine ⟨stop, ?_⟩
      obtain ⟨zs, σ2, e, h3⟩ := fin0_bind hf
      cases e
      unfold Fin0 lcEnd at h3
      split at h3
      · rename_i e4
        split at e4
        · cases e4
          rw [← hJ, List.append_nil] at h3
          obtain ⟨p1, p2⟩ := b.fin s1 hn hD
          exact h3 _ H' p1 p2
        · cases e4
      · exact h3.elim
    · right
      have hi' : i < ds.length := by omega
      obtain ⟨g1', g2'⟩ := go i _ (List.getElem?_eq_getElem hi')
      refine ⟨g1', fun H'' => i + 1 ≤ ds.length ∧ ∃ σ' done, Blk X.K C σV σ1 H1 D (wipe σV vs) σ' H'' done ∧ Fin0 (do let zs ← lcL (turn2 vs vs1 g t mi1 g1 t1 me) (ds.drop (i + 1)); lcEnd vs σ1 (done ++ zs)) σ' Jf, fun H'' z => ⟨ds.length - (i + 1), by omega, rfl, z⟩, fun x H3 y => ?_⟩
      obtain ⟨sm, rx⟩ := g2' x H3 y
      have b3 := b.step (b.s.heap sm) (keep_grow sm)
      rw [List.drop_eq_getElem_cons hi', lcL_cons] at hf
      unfold turn2 at hf
      rw [M.assoc] at hf
      refine ⟨C.and D, σ', ds[i], b3.s, rx.mono hd_swap, fin0_T hf fun σ4 σV4 s4 k4 o4 h4 => ?_⟩
      have b4 := b3.step s4 k4
      have ew : wipe σV4 vs = wipe σV vs := by rw [only_wipe o4 his, wipe_wipe _ fun _ z => z]
      refine ⟨ew, C.and D, σ4, s4, ?_⟩
      rw [M.assoc] at h4
      refine (fin0_b h4).imp fun k H5 ⟨σ5, s5, k5, h5⟩ => ?_
      have b5 := b4.step s5 k5
      cases k with
      | true =>
        refine iteT (hwi1 ⟨C.and D, σ5, s5, ?_⟩)
        simp only [if_true] at h5
        rw [M.assoc] at h5
        refine (fin0_i h5).imp fun J1 H6 ⟨σ6, ds1, s6, ok1, k6, h6⟩ => ?_
        have b6 := b5.step s6 k6
        rw [M.assoc] at h6
        obtain ⟨n7, h7⟩ := fin0_wipe h6
        have b7 := b6.wiped n7
        rw [M.assoc] at h7
        -- the rest behind the inner walk
        let KK : List DL.D → M Rv := fun ys => do
          let _ ← wipeM vs
          let zs ← lcL (turn2 vs vs1 g t mi1 g1 t1 me) (ds.drop (i + 1))
          lcEnd vs σ1 ((done ++ ys) ++ zs)
        have h8 : Fin0 (do let zs ← lcL (turn1 vs1 g1 t1 me) ds1; KK ([] ++ zs)) (wipeS σ6 vs1) Jf := by
          have e : (do let zs ← lcL (turn1 vs1 g1 t1 me) ds1; KK ([] ++ zs)) = (do
            let ys ← lcL (turn1 vs1 g1 t1 me) ds1
            let x ← (do let _ ← wipeM vs; pure ys : M (List DL.D))
            let zs ← lcL (turn2 vs vs1 g t mi1 g1 t1 me) (ds.drop (i + 1))
            lcEnd vs σ1 ((done ++ x) ++ zs)) := by
            congr 1
            funext ys
            rw [M.assoc]
            rfl
          rw [e]
          exact h7
        have kk0 : Keep (fun c => (C.and D).A c ∨ Owns σV4 σ6 c) H6 (fun c => (C.and D).A c ∨ Owns (wipe σV4 vs1) (wipeS σ6 vs1) c) H6 := fun c o e n => ⟨e, fun z => n (z.elim .inl fun z => .inr ((owns_wipe n7 c).mp z))⟩
        have kkLe : ∀ {pre : List DL.D} {r1 : List DL.D} {σ' : Sg}, Fin0 (do let zs ← lcL (turn1 vs1 g1 t1 me) r1; KK (pre ++ zs)) σ' Jf → (done ++ pre).length ≤ lim := fun {pre r1 σ'} hf => by
          obtain ⟨zs, σ2, _, hf⟩ := fin0_bind hf
          obtain ⟨_, hf⟩ := fin0_wipe hf
          have := lcEnd_le hf
          rw [List.length_append, List.length_append] at this
          rw [List.length_append]
          omega
        refine ⟨fun j k H' => k = ds1.length - j ∧ j ≤ ds1.length ∧ ∃ σ' pre, Blk X.K C σV σ1 H1 D (wipe σV4 vs1) σ' H' (done ++ pre) ∧ Keep (fun c => (C.and D).A c ∨ Owns σV4 σ6 c) H6 (fun c => (C.and D).A c ∨ Owns (wipe σV4 vs1) σ' c) H' ∧
          Fin0 (do let zs ← lcL (turn1 vs1 g1 t1 me) (ds1.drop j); KK (pre ++ zs)) σ' Jf, ⟨_, rfl, Nat.zero_le _, _, [], by rw [List.append_nil]; exact b7, kk0, h8⟩, ?_⟩
        rintro j k H7 ⟨rfl, hj, σ7, pre, b8, kk, hf1⟩
        obtain ⟨go1, stop1⟩ := ok1 _ _ kk fun c z => z.elim (b8.s.al c) b8.s.owned
        by_cases hl1 : j = ds1.length
        · left
          subst hl1
          rw [List.drop_length] at hf1
          refine ⟨stop1, hi', ?_⟩
          obtain ⟨zs, σ8, e, h9⟩ := fin0_bind hf1
          cases e
          rw [List.append_nil] at h9
          obtain ⟨n9, h10⟩ := fin0_wipe h9
          have b9 := b8.wiped n9
          rw [wipe_wipe _ hvs, ew] at b9
          exact ⟨_, _, b9, h10⟩
        · right
          have hj' : j < ds1.length := by omega
          obtain ⟨g3, g4⟩ := go1 j _ (List.getElem?_eq_getElem hj')
          refine ⟨g3, fun H'' => j + 1 ≤ ds1.length ∧ ∃ σ' pre, Blk X.K C σV σ1 H1 D (wipe σV4 vs1) σ' H'' (done ++ pre) ∧ Keep (fun c => (C.and D).A c ∨ Owns σV4 σ6 c) H6 (fun c => (C.and D).A c ∨ Owns (wipe σV4 vs1) σ' c) H'' ∧
            Fin0 (do let zs ← lcL (turn1 vs1 g1 t1 me) (ds1.drop (j + 1)); KK (pre ++ zs)) σ' Jf, fun H'' z => ⟨ds1.length - (j + 1), by omega, rfl, z⟩, fun x1 H8 y1 => ?_⟩
          obtain ⟨sm1, rx1⟩ := g4 x1 H8 y1
          have b9 := b8.step (b8.s.heap sm1) (keep_grow sm1)
          have kk9 := kk.trans (Keep.orA (A := (C.and D).A) (keep_grow (σV := wipe σV4 vs1) (σ := σ7) sm1))
          rw [List.drop_eq_getElem_cons hj', lcL_cons] at hf1
          unfold turn1 at hf1
          rw [M.assoc] at hf1
          refine ⟨C.and D, σ7, ds1[j], b9.s, rx1, fin0_T hf1 fun σ10 σV10 s10 k10 o10 h10 => ?_⟩
          have b10 := b9.step s10 k10
          have kk10 := kk9.trans (Keep.orA (A := (C.and D).A) k10)
          have ew1 : wipe σV10 vs1 = wipe σV4 vs1 := by rw [only_wipe o10 his1, wipe_wipe _ fun _ z => z]
          refine ⟨ew1, C.and D, σ10, s10, ?_⟩
          rw [M.assoc] at h10
          refine (fin0_b h10).imp fun k H11 ⟨σ11, s11, k11, h11⟩ => ?_
          have b11 := b10.step s11 k11
          have kk11 := kk10.trans (Keep.orA (A := (C.and D).A) k11)
          cases k with
          | true =>
            refine iteT ⟨C.and D, σ11, s11, ?_⟩
            simp only [if_true] at h11
            rw [M.assoc] at h11
            refine (fin0_e h11).imp fun v H12 ⟨σ12, r, s12, v12, k12, h12⟩ => ?_
            have b12 := b11.step s12 k12
            have kk12 := kk11.trans (Keep.orA (A := (C.and D).A) k12)
            rw [M.assoc] at h12
            obtain ⟨σ13, y, s13, r13, k13, h13⟩ := fin0_settle h12 s12 v12
            have b13 := b12.step s13 k13
            have kk13 := kk12.trans (Keep.orA (A := (C.and D).A) k13)
            rw [M.assoc] at h13
            obtain ⟨n14, h14⟩ := fin0_wipe h13
            have b14 := b13.wiped n14
            have kw : Keep (Owns σV10 σ13) H12 (Owns (wipe σV10 vs1) (wipeS σ13 vs1)) H12 := fun c o e m => ⟨e, fun z => m ((owns_wipe n14 c).mp z)⟩
            have kk14 := kk13.trans (Keep.orA (A := (C.and D).A) kw)
            have r14 := r13.mono (keep_hid (A := (C.and D).A) kw)
            obtain ⟨acc, a1, a2, b15⟩ := b14.push r14
            rw [ew1] at b15 kk14
            have h15 : Fin0 (do let zs ← lcL (turn1 vs1 g1 t1 me) (ds1.drop (j + 1)); KK ((pre ++ [y]) ++ zs)) (wipeS σ13 vs1) Jf := h14
            refine ⟨acc, a1, ?_, hj', _, pre ++ [y], by rw [← List.append_assoc]; exact b15, fun c o e n => ?_, h15⟩
            · have := kkLe h15
              rw [List.length_append, List.length_append, List.length_singleton] at this
              rw [a2, List.length_append]
              exact lim_size (by omega)
            · obtain ⟨q1, q2⟩ := kk14 c o e n
              refine ⟨by rw [upd_ne fun z => n (.inl (.inr z))]; exact q1, q2⟩
          | false =>
            refine iteF ?_
            simp only [Bool.false_eq_true, if_false] at h11
            rw [M.assoc] at h11
            obtain ⟨n14, h14⟩ := fin0_wipe h11
            have b14 := b11.wiped n14
            have kw : Keep (Owns σV10 σ11) H11 (Owns (wipe σV10 vs1) (wipeS σ11 vs1)) H11 := fun c o e m => ⟨e, fun z => m ((owns_wipe n14 c).mp z)⟩
            have kk14 := kk11.trans (Keep.orA (A := (C.and D).A) kw)
            rw [ew1] at b14 kk14
            have h15 : Fin0 (do let zs ← lcL (turn1 vs1 g1 t1 me) (ds1.drop (j + 1)); KK ((pre ++ []) ++ zs)) (wipeS σ11 vs1) Jf := h14
            rw [List.append_nil] at h15
            exact ⟨hj', _, _, b14, kk14, h15⟩
      | false =>
        refine iteF ?_
        simp only [Bool.false_eq_true, if_false] at h5
        rw [M.assoc] at h5
        obtain ⟨n8, h8⟩ := fin0_wipe h5
        have b8 := b5.wiped n8
        rw [ew] at b8
        have h9 : Fin0 (do let zs ← lcL (turn2 vs vs1 g t mi1 g1 t1 me) (ds.drop (i + 1)); lcEnd vs σ1 ((done ++ []) ++ zs)) (wipeS σ5 vs) Jf := h8
        rw [List.append_nil] at h9
        exact ⟨hi', _, _, b8, h9⟩
  · rw [if_neg hn] at h1
    exact h1.elim
theorem ev_lc (hc : X.calm = true) (hN : X.N.Nodup) (hi : IV X W tg iter mi) (ok : BlkOk X.N X.env.scope scope own) (hv : own.map (·.2) = vs) (hg : ∀ (s : Shared) (H : Hp) (C : Addr) (cl : List (PySem.Str × Addr)) (fp : List Addr), GV (bX X scope s H C cl fp) tg is g)
    (his : ∀ i ∈ is, i ∈ vs) (ng : ∀ d, NoEx (g d)) (ht : ∀ (s : Shared) (H : Hp) (C : Addr) (cl : List (PySem.Str × Addr)) (fp : List Addr), CV (bX X scope s H C cl fp) ifs t)
    (he : ∀ (s : Shared) (H : Hp) (C : Addr) (cl : List (PySem.Str × Addr)) (fp : List Addr), EV (bX X scope s H C cl fp) WF elt me) (hs : ∀ x, foldedSetIterable iter X.env x = pure x := by intro _; rfl) :
    EV X W (.ListComp elt [⟨tg, iter, ifs, 0⟩] scope pos) (mLc vs mi (turn1 vs g t me)) := by
  subst hv
  exact .of (pe_lc hc hN hi.pi ok (fun s H C cl fp => (hg s H C cl fp).pg) (fun s H C cl fp => (ht s H C cl fp).pts) (fun s H C cl fp => (he s H C cl fp).pe) hs) fun σV H Q h => lc_reads his ng (fun z => z) h
theorem ev_lc2 (hc : X.calm = true) (hN : X.N.Nodup) (hi : IV X W tg iter mi) (ok : BlkOk X.N X.env.scope scope own) (hv : own.map (·.2) = vs) (hvs : ∀ i ∈ vs1, i ∈ vs) (hg : ∀ (s : Shared) (H : Hp) (C : Addr) (cl : List (PySem.Str × Addr)) (fp : List Addr), GV (bX X scope s H C cl fp) tg is g)
    (his : ∀ i ∈ is, i ∈ vs) (ng : ∀ d, NoEx (g d)) (ht : ∀ (s : Shared) (H : Hp) (C : Addr) (cl : List (PySem.Str × Addr)) (fp : List Addr), CV (bX X scope s H C cl fp) ifs t)
    (hi1 : ∀ (s : Shared) (H : Hp) (C : Addr) (cl : List (PySem.Str × Addr)) (fp : List Addr), IV (bX X scope s H C cl fp) WF tg1 iter1 mi1) (hg1 : ∀ (s : Shared) (H : Hp) (C : Addr) (cl : List (PySem.Str × Addr)) (fp : List Addr), GV (bX X scope s H C cl fp) tg1 is1 g1)
    (his1 : ∀ i ∈ is1, i ∈ vs1) (ht1 : ∀ (s : Shared) (H : Hp) (C : Addr) (cl : List (PySem.Str × Addr)) (fp : List Addr), CV (bX X scope s H C cl fp) ifs1 t1)
    (he : ∀ (s : Shared) (H : Hp) (C : Addr) (cl : List (PySem.Str × Addr)) (fp : List Addr), EV (bX X scope s H C cl fp) WF elt me) (hs : ∀ x, foldedSetIterable iter X.env x = pure x := by intro _; rfl) (hs1 : ∀ env x, foldedSetIterable iter1 env x = pure x := by intro _ _; rfl) :
    EV X W (.ListComp elt [⟨tg, iter, ifs, 0⟩, ⟨tg1, iter1, ifs1, 0⟩] scope pos) (mLc vs mi (turn2 vs vs1 g t mi1 g1 t1 me)) := by
  subst hv
  exact .of (pe_lc2 hc hN hi.pi ok hvs (fun s H C cl fp => (hg s H C cl fp).pg) (fun s H C cl fp => (ht s H C cl fp).pts) (fun s H C cl fp => (hi1 s H C cl fp).pi) (fun s H C cl fp => (hg1 s H C cl fp).pg) (fun s H C cl fp => (ht1 s H C cl fp).pts) (fun s H C cl fp => (he s H C cl fp).pe) hs hs1)
    fun σV H Q h => lc2_reads his ng his1 hvs (fun z => z) (fun z => z) h
/-- name = [..], the name bound as the list is made -/
theorem sv_setLc {i : Nat} {y : PySem.Str} {py spos : Pos} (hc : X.calm = true) (hN : X.N.Nodup) (hy : X.N[i]? = some y) (hyl : X.env.scope.names.lookup y = some .local) (hsw : swapsWith (.ListComp elt [⟨tg, iter, ifs, 0⟩] scope pos) (some (.Name y py)) spos.line X.env = pure true)
    (hi : IV X W tg iter mi) (ok : BlkOk X.N X.env.scope scope own) (hv : own.map (·.2) = vs) (hg : ∀ (s : Shared) (H : Hp) (C : Addr) (cl : List (PySem.Str × Addr)) (fp : List Addr), GV (bX X scope s H C cl fp) tg is g)
    (his : ∀ i ∈ is, i ∈ vs) (ng : ∀ d, NoEx (g d)) (ht : ∀ (s : Shared) (H : Hp) (C : Addr) (cl : List (PySem.Str × Addr)) (fp : List Addr), CV (bX X scope s H C cl fp) ifs t)
    (he : ∀ (s : Shared) (H : Hp) (C : Addr) (cl : List (PySem.Str × Addr)) (fp : List Addr), EV (bX X scope s H C cl fp) WF elt me) (hs : ∀ x, foldedSetIterable iter X.env x = pure x := by intro _; rfl) :
    SV X W (.Assign [.Name y py] (.ListComp elt [⟨tg, iter, ifs, 0⟩] scope pos) spos) (mSet i (mLc vs mi (turn1 vs g t me))) := by
  subst hv
  refine ⟨PS.imp (ps_setLc (g := tGV X.K is g) (te := tE X.K X.mg WF me) (tt := tT X.K X.mg WF t) hc hN hy hyl hsw hi.pi ok (fun s H C cl fp => (hg s H C cl fp).pg) (fun s H C cl fp => (ht s H C cl fp).pts) (fun s H C cl fp => (he s H C cl fp).pe) hs) fun E σV H ⟨C, σ, s, h⟩ => ?_⟩
  exact lc_reads (Q := fun v H1 => E.nx (σV.set i (some v)) H1) his ng (fun z => z) ⟨C, σ, s, (finS_e h).imp fun v H1 ⟨σ1, r, p, k, h1⟩ => after_store p k h1⟩
theorem sv_setLc2 {i : Nat} {y : PySem.Str} {py spos : Pos} (hc : X.calm = true) (hN : X.N.Nodup) (hy : X.N[i]? = some y) (hyl : X.env.scope.names.lookup y = some .local) (hsw : swapsWith (.ListComp elt [⟨tg, iter, ifs, 0⟩, ⟨tg1, iter1, ifs1, 0⟩] scope pos) (some (.Name y py)) spos.line X.env = pure true)
    (hi : IV X W tg iter mi) (ok : BlkOk X.N X.env.scope scope own) (hv : own.map (·.2) = vs) (hvs : ∀ i ∈ vs1, i ∈ vs) (hg : ∀ (s : Shared) (H : Hp) (C : Addr) (cl : List (PySem.Str × Addr)) (fp : List Addr), GV (bX X scope s H C cl fp) tg is g)
    (his : ∀ i ∈ is, i ∈ vs) (ng : ∀ d, NoEx (g d)) (ht : ∀ (s : Shared) (H : Hp) (C : Addr) (cl : List (PySem.Str × Addr)) (fp : List Addr), CV (bX X scope s H C cl fp) ifs t)
    (hi1 : ∀ (s : Shared) (H : Hp) (C : Addr) (cl : List (PySem.Str × Addr)) (fp : List Addr), IV (bX X scope s H C cl fp) WF tg1 iter1 mi1) (hg1 : ∀ (s : Shared) (H : Hp) (C : Addr) (cl : List (PySem.Str × Addr)) (fp : List Addr), GV (bX X scope s H C cl fp) tg1 is1 g1)
    (his1 : ∀ i ∈ is1, i ∈ vs1) (ht1 : ∀ (s : Shared) (H : Hp) (C : Addr) (cl : List (PySem.Str × Addr)) (fp : List Addr), CV (bX X scope s H C cl fp) ifs1 t1)
    (he : ∀ (s : Shared) (H : Hp) (C : Addr) (cl : List (PySem.Str × Addr)) (fp : List Addr), EV (bX X scope s H C cl fp) WF elt me) (hs : ∀ x, foldedSetIterable iter X.env x = pure x := by intro _; rfl) (hs1 : ∀ env x, foldedSetIterable iter1 env x = pure x := by intro _ _; rfl) :
    SV X W (.Assign [.Name y py] (.ListComp elt [⟨tg, iter, ifs, 0⟩, ⟨tg1, iter1, ifs1, 0⟩] scope pos) spos) (mSet i (mLc vs mi (turn2 vs vs1 g t mi1 g1 t1 me))) := by
  subst hv
  refine ⟨PS.imp (ps_setLc2 (wi1 := fun σV H Q => ∃ C σ, SR X.K C H σV σ ∧ FinG (RelI X.K σV) X.mg WF C σV H σ mi1 Q) (g := tGV X.K is g) (g1 := tGV X.K is1 g1) (te := tE X.K X.mg WF me) (tt := tT X.K X.mg WF t) (tt1 := tT X.K X.mg WF t1) hc hN hy hyl hsw hi.pi ok hvs (fun s H C cl fp => (hg s H C cl fp).pg) (fun s H C cl fp => (ht s H C cl fp).pts) (fun s H C cl fp => (hi1 s H C cl fp).pi) (fun s H C cl fp => (hg1 s H C cl fp).pg) (fun s H C cl fp => (ht1 s H C cl fp).pts) (fun s H C cl fp => (he s H C cl fp).pe) hs hs1) fun E σV H ⟨C, σ, s, h⟩ => ?_⟩
  exact lc2_reads (Q := fun v H1 => E.nx (σV.set i (some v)) H1) his ng his1 hvs (fun z => z) (fun z => z) ⟨C, σ, s, (finS_e h).imp fun v H1 ⟨σ1, r, p, k, h1⟩ => after_store p k h1⟩
end
end DL

set_option Elab.async false
set_option linter.all false
set_option maxRecDepth 100000
/-! DP: order of data; sorted. -/
namespace DL
open PySem PySem.Spec PyProof.Rows L2

/-! ### == and < of data, to be computed -/
mutual
def D.eqb : D → D → Bool
  | .non, y => match y with
    | .non => true
    | _ => false
  | .bl a, y => match y with
    | .bl b => a == b
    | .int j => (if a then 1 else 0) == j
    | _ => false
  | .int i, y => match y with
    | .bl b => i == (if b then 1 else 0)
    | .int j => i == j
    | _ => false
  | .str x, y => match y with
    | .str z => x == z
    | _ => false
  | .tup xs, y => match y with
    | .tup ys => eqbs xs ys
    | _ => false
  | .lst xs, y => match y with
    | .lst ys => eqbs xs ys
    | _ => false
  | .fn _, _ => false
  | .scr _, _ => false
  | .dct _ _, _ => false
def eqbs : List D → List D → Bool
  | [], ys => match ys with
    | [] => true
    | _ :: _ => false
  | x :: xs, ys => match ys with
    | [] => false
    | y :: ys => D.eqb x y && eqbs xs ys
end
mutual
theorem eqb_eqv : ∀ x y : D, D.eqb x y = PyData.eqv x.toP y.toP
  | .non, y => by cases y <;> simp [D.eqb, D.toP, PyData.eqv]
  | .bl a, y => by cases y <;> simp [D.eqb, D.toP, PyData.eqv]
  | .int i, y => by cases y <;> simp [D.eqb, D.toP, PyData.eqv]
  | .str x, y => by cases y <;> simp [D.eqb, D.toP, PyData.eqv]
  | .tup xs, y => by
    cases y <;> simp [D.eqb, D.toP, PyData.eqv]
    exact eqbs_eqv xs _
  | .lst xs, y => by
    cases y <;> simp [D.eqb, D.toP, PyData.eqv]
    exact eqbs_eqv xs _
  | .fn _, y => by cases y <;> simp [D.eqb, D.toP, PyData.eqv]
  | .scr _, y => by cases y <;> simp [D.eqb, D.toP, PyData.eqv]
  | .dct _ _, y => by cases y <;> simp [D.eqb, D.toP, PyData.eqv]
theorem eqbs_eqv : ∀ xs ys : List D, eqbs xs ys = PyData.eqvAll (toPs xs) (toPs ys)
  | [], ys => by cases ys <;> simp [eqbs, toPs, PyData.eqvAll]
  | x :: xs, ys => by
    cases ys with
    | nil => simp [eqbs, toPs, PyData.eqvAll]
    | cons y ys =>
      simp only [eqbs, toPs, PyData.eqvAll]
      rw [eqb_eqv x y, eqbs_eqv xs ys]
end
mutual
/-- they can be compared, place by place -/
def alk : D → D → Bool
  | .non, y => match y with
    | .non => true
    | _ => false
  | .bl _, y => match y with
    | .bl _ => true
    | _ => false
  | .int _, y => match y with
    | .int _ => true
    | _ => false
  | .str _, y => match y with
    | .str _ => true
    | _ => false
  | .tup xs, y => match y with
    | .tup ys => alks xs ys
    | _ => false
  | .lst xs, y => match y with
    | .lst ys => alks xs ys
    | _ => false
  | .fn _, _ => false
  | .scr _, _ => false
  | .dct _ _, _ => false
def alks : List D → List D → Bool
  | [], _ => true
  | x :: xs, ys => match ys with
    | [] => true
    | y :: ys => alk x y && alks xs ys
end
mutual
theorem alk_alike : ∀ x y : D, alk x y = true → PySem.W.alike x.toP y.toP = true
  | .non, y, h => by cases y <;> first | exact absurd h Bool.false_ne_true | simp [D.toP, PySem.W.alike]
  | .bl a, y, h => by cases y <;> first | exact absurd h Bool.false_ne_true | simp [D.toP, PySem.W.alike]
  | .int i, y, h => by cases y <;> first | exact absurd h Bool.false_ne_true | simp [D.toP, PySem.W.alike]
  | .str x, y, h => by cases y <;> first | exact absurd h Bool.false_ne_true | simp [D.toP, PySem.W.alike]
  | .tup xs, y, h => by
    cases y <;> first | exact absurd h Bool.false_ne_true | skip
    simp only [D.toP, PySem.W.alike]
    exact alks_alike xs _ h
  | .lst xs, y, h => by
    cases y <;> first | exact absurd h Bool.false_ne_true | skip
    simp only [D.toP, PySem.W.alike]
    exact alks_alike xs _ h
  | .fn _, _, h => absurd h Bool.false_ne_true
  | .scr _, _, h => absurd h Bool.false_ne_true
  | .dct _ _, _, h => absurd h Bool.false_ne_true
theorem alks_alike : ∀ xs ys : List D, alks xs ys = true → PySem.W.alikeAll (toPs xs) (toPs ys) = true
  | [], ys, _ => by simp [toPs, PySem.W.alikeAll]
  | x :: xs, [], _ => by simp [toPs, PySem.W.alikeAll]
  | x :: xs, y :: ys, h => by
    simp only [toPs, PySem.W.alikeAll]
    have h' : (alk x y && alks xs ys) = true := h
    rw [Bool.and_eq_true] at h' ⊢
    exact ⟨alk_alike x y h'.1, alks_alike xs ys h'.2⟩
end
mutual
def D.lt : D → D → Bool
  | .bl a, y => match y with
    | .bl b => !a && b
    | _ => false
  | .int i, y => match y with
    | .int j => decide (i < j)
    | _ => false
  | .str x, y => match y with
    | .str z => decide (x.cps.toList < z.cps.toList)
    | _ => false
  | .tup xs, y => match y with
    | .tup ys => lts xs ys
    | _ => false
  | .lst xs, y => match y with
    | .lst ys => lts xs ys
    | _ => false
  | .non, _ => false
  | .fn _, _ => false
  | .scr _, _ => false
  | .dct _ _, _ => false
def lts : List D → List D → Bool
  | [], ys => match ys with
    | [] => false
    | _ :: _ => true
  | x :: xs, ys => match ys with
    | [] => false
    | y :: ys => if D.eqb x y then lts xs ys else D.lt x y
end
mutual
theorem lt_data : ∀ x y : D, alk x y = true → D.lt x y = PySem.W.dataLt x.toP y.toP
  | .non, y, h => by
    cases y <;> first | exact absurd h Bool.false_ne_true | skip
    exact (PySem.W.dataLt_self _).symm
  | .bl a, y, h => by
    cases y <;> first | exact absurd h Bool.false_ne_true | skip
    simp only [D.lt, D.toP]
    rw [PySem.W.dataLt_bool]
    rename_i b
    cases a <;> cases b <;> rfl
  | .int i, y, h => by
    cases y <;> first | exact absurd h Bool.false_ne_true | skip
    simp only [D.lt, D.toP]
    rw [PySem.W.dataLt_int]
  | .str x, y, h => by
    cases y <;> first | exact absurd h Bool.false_ne_true | skip
    simp only [D.lt, D.toP]
    rw [PySem.W.dataLt_str]
  | .tup xs, y, h => by
    cases y <;> first | exact absurd h Bool.false_ne_true | skip
    simp only [D.lt, D.toP]
    rw [PySem.W.dataLt_tuple]
    exact lts_data xs _ h
  | .lst xs, y, h => by
    cases y <;> first | exact absurd h Bool.false_ne_true | skip
    simp only [D.lt, D.toP]
    rw [PySem.W.dataLt_list]
    exact lts_data xs _ h
  | .fn _, _, h => absurd h Bool.false_ne_true
  | .scr _, _, h => absurd h Bool.false_ne_true
  | .dct _ _, _, h => absurd h Bool.false_ne_true
theorem lts_data : ∀ xs ys : List D, alks xs ys = true → lts xs ys = PyProof.Rows.lexLt itemOrd (PySem.W.keyToksAll (toPs xs)) (PySem.W.keyToksAll (toPs ys))
  | [], [], _ => (lex_irrefl _).symm
  | [], y :: ys, _ => by
    show _ = PyProof.Rows.lexLt itemOrd (PySem.W.keyToksAll []) (PySem.W.keyToksAll (y.toP :: toPs ys))
    rw [PySem.W.toks_all_cons]
    simp only [PySem.W.keyToksAll]
    rw [lex_diff (O := itemOrd) (by simp)]
    rfl
  | x :: xs, [], _ => by
    show _ = PyProof.Rows.lexLt itemOrd (PySem.W.keyToksAll (x.toP :: toPs xs)) (PySem.W.keyToksAll [])
    rw [PySem.W.toks_all_cons]
    simp only [PySem.W.keyToksAll]
    rw [lex_diff (O := itemOrd) (by simp)]
    rfl
  | x :: xs, y :: ys, h => by
    have h' : (alk x y && alks xs ys) = true := h
    rw [Bool.and_eq_true] at h'
    show (if D.eqb x y then lts xs ys else D.lt x y) = PyProof.Rows.lexLt itemOrd (PySem.W.keyToksAll (x.toP :: toPs xs)) (PySem.W.keyToksAll (y.toP :: toPs ys))
    cases e : D.eqb x y with
    | true =>
      rw [if_pos rfl, PySem.W.dataLt_all_yes (alk_alike x y h'.1) (by rw [← eqb_eqv]; exact e)]
      exact lts_data xs ys h'.2
    | false =>
      rw [if_neg Bool.false_ne_true, PySem.W.dataLt_all_no (alk_alike x y h'.1) (by rw [← eqb_eqv]; exact e)]
      exact lt_data x y h'.1
end
/-! ### sorting, to be computed -/
def ins (x : D) : List D → List D
  | [] => [x]
  | y :: r => if D.lt y x then y :: ins x r else x :: y :: r
def isort : List D → List D
  | [] => []
  | x :: r => ins x (isort r)
end DL
namespace PySem.W
open PySem PySem.SeqAt PySem.Calls PyProof.Rows
section
variable {prog : Program} {w : World} {A : Around} {E : Value → Shared → Prop} {s : Shared}
/-- the call of tuple's own __lt__, as sorting makes it -/
theorem call_tuple_lt {Q : Value → Shared → Prop} {l b : Addr} {items items2 : Array Value} {e r : Nat → Bool} (hl : s.heap.IsTuple l items) (hb : s.heap.IsTuple b items2)
    (he : ∀ j (h1 : j < items.size) (h2 : j < items2.size), EqAt A.in1 s items[j] items2[j] (e j)) (hr : ∀ j (h1 : j < items.size) (h2 : j < items2.size), e j = false → RcLt A.in1 s items[j] items2[j] (r j))
    (h : Q (.bool (firstLt e r (decide (items.size < items2.size)) (List.range (min items.size items2.size)))) s) : wpAny (model prog w) A (call (.builtin "tuple.__lt__") [.ref l, .ref b]) Q E s := by
  obtain ⟨⟨cls, dd, data, sl⟩, ho, hc, n, hd⟩ := id hl
  obtain ⟨⟨cls2, dd2, data2, sl2⟩, ho2, hc2, n2, hd2⟩ := id hb
  simp only at hc hd hc2 hd2
  subst hc hd hc2 hd2
  exact call_meets F.slot_tuple_lt ⟨_, ho, rfl⟩ F.entry_tuple_lt (F.args_tuple_lt_2 _ _) (tuple_ltAt l b items items2 n n2 dd dd2 sl sl2 e r) ⟨ho, ho2, he, hr, h⟩
theorem oneLt_tup {xs ys : List PyData} {a b : Value} {as bs : List Addr} {Q : Bool → Shared → Prop} (ra : Reads s.heap a (.tuple xs) as) (rb : Reads s.heap b (.tuple ys) bs) (h : alike (.tuple xs) (.tuple ys) = true)
    (hu : A.units + min (PyData.tuple xs).depth (PyData.tuple ys).depth < cLine) (hq : Q (dataLt (.tuple xs) (.tuple ys)) s) : wpAny (model prog w) A (oneLt' true a b) Q E s := by
  have hal : alikeAll xs ys = true := by simpa [alike] using h
  cases ra with
  | @tuple l o vs n _ as₁ h1 h2 h3 h4 =>
    cases rb with
    | @tuple l' o' vs' n' _ bs₁ k1 k2 k3 k4 =>
      have n1 : vs.size = xs.length := by simpa using ReadsAll.length _ _ _ h4
      have n2 : vs'.size = ys.length := by simpa using ReadsAll.length _ _ _ k4
      rw [dataLt_tuple, ← firstLt_toks xs ys hal, ← n1, ← n2] at hq
      rw [oneLt'_eq]
      simp only [if_true]
      refine wpAny_bind (wpAny_cRoomFor (room_here hu) ?_)
      refine wpAny_bind (wpAny_callSpecialIfBound?_slot (T := "tuple") ⟨_, h1, h2⟩ F.slot_tuple_lt (call_tuple_lt (e := pairEq xs ys) (r := fun j => dataLt (xs.getD j .none) (ys.getD j .none)) ⟨_, h1, h2, _, h3⟩ ⟨_, k1, k2, _, k3⟩ (fun j j1 j2 => ?_) (fun j j1 j2 hj => ?_) ?_))
      · have := eqAt_alikeAll xs ys A.in1 s vs.toList vs'.toList _ _ h4 k4 hal (room_in hu) j (by simpa using j1) (by simpa using j2)
        simpa using this
      · have := rcLt_alikeAll xs ys A.in1 s vs.toList vs'.toList _ _ h4 k4 hal (room_in hu) j (by simpa using j1) (by simpa using j2) hj
        simpa using this
      · exact wpAny_truthy_bool hq
def neT : PyData → Bool
  | .tuple (_ :: _) => true
  | _ => false
/-- the first items of tuples, none of an empty one -/
theorem firsts_tups : ∀ {vs : List Value} {ds : List PyData}, EachIs (fun v d => ∃ as, Reads s.heap v d as) vs ds → (∀ d, d ∈ ds → ∃ xs, d = .tuple xs) →
    ∃ os : List (Option Value), os.map (·.isSome) = ds.map neT ∧ ∀ {Q : List (Option Value) → Shared → Prop}, Q os s → wpAny (model prog w) A (vs.mapM firstOfTuple') Q E s
  | _, _, .nil, _ => ⟨[], rfl, fun h => by rw [List.mapM_nil]; exact wpAny_pure h⟩
  | _, _, .cons (a := v) (b := d) ⟨as, r⟩ t, ht => by
    obtain ⟨os, h1, h2⟩ := firsts_tups t fun d hd => ht d (List.mem_cons_of_mem _ hd)
    obtain ⟨xs, rfl⟩ := ht d List.mem_cons_self
    cases r with
    | @tuple a o vs' n _ _ ho hc hd hr =>
      refine ⟨vs'[0]? :: os, ?_, fun {Q} h => ?_⟩
      · rw [List.map_cons, List.map_cons, h1]
        congr 1
        have hl : vs'.size = xs.length := by simpa using ReadsAll.length _ _ _ hr
        cases xs with
        | nil =>
          have : vs'[0]? = none := by
            rw [Array.getElem?_eq_none]
            rw [hl]; exact Nat.zero_le _
          rw [this] <;> rfl
        | cons x xs =>
          have : 0 < vs'.size := by rw [hl]; exact Nat.succ_pos _
          rw [Array.getElem?_eq_getElem this] <;> rfl
      · rw [List.mapM_cons]
        refine wpAny_bind ?_
        rw [kas_first_eq]
        refine wpAny_bind (Looks.here (show Looks (model prog w) s.heap (typeOf (.ref a)) o.cls from (Looks.ld ho).andThen .now) ?_)
        rw [hc, if_neg (by first | decide | simp)]
        refine wpAny_bind (listItems_at ho hd (wpAny_pure ?_))
        exact wpAny_bind (h2 (Q := fun bs s' => wpAny (model prog w) A (pure (vs'[0]? :: bs)) Q E s') (wpAny_pure h))
/-- alike values, none of them None, can be sorted -/
theorem SortsAt.any {vs : List Value} {ds : List PyData} (e : EachIs (fun v d => ∃ as, Reads s.heap v d as) vs ds) (hal : AllAlike ds) (hn : ∀ d, d ∈ ds → d ≠ .none) (hu : ∀ d, d ∈ ds → A.units + d.depth < cLine) : SortsAt prog w A s (dataKind s.heap ds) vs := by
  by_cases h1 : ∀ d, d ∈ ds → ∃ x r, d = .tuple (x :: r)
  · exact SortsAt.data e hal (.inl h1) hu
  by_cases h2 : ∀ d, d ∈ ds → ∀ xs, d ≠ .tuple xs
  · exact SortsAt.data e hal (.inr fun d hd => ⟨hn d hd, h2 d hd⟩) hu
  have ht : ∀ d, d ∈ ds → ∃ xs, d = .tuple xs := by
    simp only [Classical.not_forall, Classical.not_not] at h2
    obtain ⟨d0, hd0, xs0, rfl⟩ := h2
    intro d hd
    have := hal _ hd _ hd0
    cases d <;> first | exact ⟨_, rfl⟩ | exact absurd this (by simp [alike])
  have room : ∀ {d d' : PyData}, d ∈ ds → A.units + min d.depth d'.depth < cLine := fun {d d'} hd => Nat.lt_of_le_of_lt (Nat.add_le_add_left (Nat.min_le_left _ _) _) (hu d hd)
  refine ⟨fun v hv => ?_, ?_⟩
  · obtain ⟨d, hd, as, r⟩ := e.left v hv
    exact ⟨_, dataKind_some hal hd r⟩
  · have gen : H.LtAt prog w A s (dataKind s.heap ds) general' := by
      intro E x y a b Q ha hb hq
      obtain ⟨d, as, hd, ra, rfl⟩ := dataKind_inv ha
      obtain ⟨d', as', hd', rb, rfl⟩ := dataKind_inv hb
      show wpAny _ _ (oneLt' false x y) _ _ _
      exact oneLt_alike (fun z => absurd z Bool.false_ne_true) ra rb (hal d hd d' hd') (hn d hd) (room hd) hq
    have one : H.LtAt prog w A s (dataKind s.heap ds) oneType' := by
      intro E x y a b Q ha hb hq
      obtain ⟨d, as, hd, ra, rfl⟩ := dataKind_inv ha
      obtain ⟨d', as', hd', rb, rfl⟩ := dataKind_inv hb
      rw [keyLt'_oneType]
      obtain ⟨xs, rfl⟩ := ht d hd
      obtain ⟨ys, rfl⟩ := ht d' hd'
      exact oneLt_tup ra rb (hal _ hd _ hd') (room hd) hq
    -- not all have a first item
    have key : ∀ os : List (Option Value), os.map (·.isSome) = ds.map neT → os.toArray.all (fun x => x.isSome) = false := by
      intro os ho
      rw [List.all_toArray, ← Bool.not_eq_true]
      intro hall
      refine h1 fun d hd => ?_
      have hm : neT d ∈ os.map (·.isSome) := by rw [ho]; exact List.mem_map.mpr ⟨d, hd, rfl⟩
      obtain ⟨o, ho1, ho2⟩ := List.mem_map.mp hm
      rw [List.all_eq_true] at hall
      rw [hall o ho1] at ho2
      obtain ⟨xs, rfl⟩ := ht d hd
      cases xs with
      | nil => cases ho2
      | cons x r => exact ⟨x, r, rfl⟩
    have allT : ∀ v, v ∈ vs → Looks (model prog w) s.heap (typeOf v) (.type "tuple") := by
      intro v hv
      obtain ⟨d, hd, as, r⟩ := e.left v hv
      obtain ⟨xs, rfl⟩ := ht d hd
      exact looks_reads r
    by_cases hf : ∃ x r ds', ds = .tuple (x :: r) :: ds'
    · refine ⟨general', gen, fun hl2 E Q hq => ?_⟩
      obtain ⟨os, ho1, ho2⟩ := firsts_tups (prog := prog) (w := w) (A := A) (E := E) e ht
      rw [keyKind'_eq, List.mapM_toArray, map_eq_pure_bind]
      refine wpAny_bind (wpAny_bind (ho2 (wpAny_pure ?_)))
      rw [if_neg (by rw [key os ho1]; exact Bool.false_ne_true)]
      obtain ⟨x, r, ds', rfl⟩ := hf
      cases os with
      | nil => simp at ho1
      | cons o os =>
        have ho3 : o.isSome = true := (List.cons.inj (show o.isSome :: os.map (·.isSome) = true :: _ from ho1)).1
        rw [if_pos (by simpa using ho3)]
        exact wpAny_pure hq
    · refine ⟨oneType', one, fun hl2 E Q hq => ?_⟩
      obtain ⟨os, ho1, ho2⟩ := firsts_tups (prog := prog) (w := w) (A := A) (E := E) e ht
      rw [keyKind'_eq, List.mapM_toArray, map_eq_pure_bind]
      refine wpAny_bind (wpAny_bind (ho2 (wpAny_pure ?_)))
      rw [if_neg (by rw [key os ho1]; exact Bool.false_ne_true)]
      have hl := e.length
      cases ds with
      | nil => rw [hl] at hl2; simp at hl2
      | cons d ds =>
        cases os with
        | nil => simp at ho1
        | cons o os =>
          have ho3 : o.isSome = false := by
            have := (List.cons.inj (show o.isSome :: os.map (·.isSome) = _ :: _ from ho1)).1
            rw [this]
            obtain ⟨xs, rfl⟩ := ht d List.mem_cons_self
            cases xs with
            | nil => rfl
            | cons x r => exact (hf ⟨x, r, ds, rfl⟩).elim
          rw [if_neg (by simpa using ho3)]
          rw [oneTypeOnly'_eq, List.mapM_toArray, map_eq_pure_bind]
          refine wpAny_bind (wpAny_bind (wpAny_bind (kas_mapM (r := .type "tuple") _ (fun v hv Q' hq => (allT v hv).here hq) (wpAny_pure ?_))))
          cases vs with
          | nil => simp at hl
          | cons v vs =>
            have hall : ((List.map (fun _ => Value.type "tuple") (v :: vs)).toArray.all fun x => x == Value.type "tuple") = true := by
              simp only [List.all_toArray, List.all_map, List.all_eq_true]
              intro _ _
              exact beq_self_eq_true _
            have h0 : (List.map (fun _ => Value.type "tuple") (v :: vs)).toArray[0]? = some (Value.type "tuple") := by simp
            rw [h0]
            simp only [hall, if_true]
            first
              | exact wpAny_pure (wpAny_pure hq)
              | exact wpAny_pure hq
end
end PySem.W

set_option Elab.async false
set_option linter.all false
set_option maxRecDepth 100000
/-! DQ: sorted(xs); computed ==, in. -/
namespace DL
open PySem PySem.Spec PyProof.Rows L2

theorem le_lt {x y : D} (h : alk y x = true) : PySem.W.dataLe false D.toP x y = !D.lt y x := by
  rw [lt_data y x h]
  rfl
theorem ins_eq {a : D} : ∀ {l₁ l₂ : List D}, (∀ b ∈ l₁, D.lt b a = true) → (∀ b ∈ l₂.head?, D.lt b a = false) → ins a (l₁ ++ l₂) = l₁ ++ a :: l₂
  | [], [], _, _ => rfl
  | [], b :: l₂, _, h => by
    show (if D.lt b a then b :: ins a l₂ else a :: b :: l₂) = a :: b :: l₂
    rw [h b (by simp)]
    rfl
  | b :: l₁, l₂, h1, h2 => by
    show (if D.lt b a then b :: ins a (l₁ ++ l₂) else a :: b :: (l₁ ++ l₂)) = b :: (l₁ ++ a :: l₂)
    rw [h1 b List.mem_cons_self, if_pos rfl, ins_eq (fun c hc => h1 c (List.mem_cons_of_mem _ hc)) h2]
theorem merge_isort : ∀ {l : List D}, (∀ x ∈ l, ∀ y ∈ l, alk x y = true) → l.mergeSort (PySem.W.dataLe false D.toP) = isort l
  | [], _ => by rw [List.mergeSort_nil]; rfl
  | a :: l, h => by
    have T := PySem.W.sortLe_total (listOrd itemOrd) false fun b : D => PySem.W.keyToks b.toP
    obtain ⟨l₁, l₂, e1, e2, e3⟩ := List.mergeSort_cons (le := PySem.W.dataLe false D.toP) T.trans (fun a b => by
      rcases T.total a b with q | q
      · rw [show PySem.W.dataLe false D.toP a b = true from q]; rfl
      · rw [show PySem.W.dataLe false D.toP b a = true from q, Bool.or_true]) a l
    have ih := merge_isort (l := l) fun x hx y hy => h x (List.mem_cons_of_mem _ hx) y (List.mem_cons_of_mem _ hy)
    rw [e1]
    show _ = ins a (isort l)
    rw [← ih, e2]
    have mem : ∀ b ∈ l₁ ++ l₂, b ∈ l := fun b hb => by
      rw [← e2] at hb
      exact List.mem_mergeSort.mp hb
    refine (ins_eq (fun b hb => ?_) fun b hb => ?_).symm
    · have := e3 b hb
      rw [le_lt (h b (List.mem_cons_of_mem _ (mem b (List.mem_append_left _ hb))) a List.mem_cons_self)] at this
      simpa using this
    · have hs : List.Pairwise (fun x y => PySem.W.dataLe false D.toP x y = true) (l₁ ++ a :: l₂) := by
        rw [← e1]
        exact List.pairwise_mergeSort (le := PySem.W.dataLe false D.toP) T.trans (fun a b => by
          rcases T.total a b with q | q
          · rw [show PySem.W.dataLe false D.toP a b = true from q]; rfl
          · rw [show PySem.W.dataLe false D.toP b a = true from q, Bool.or_true]) _
      have hm : b ∈ l₂ := by
        cases l₂ with
        | nil => simp at hb
        | cons c r => simp at hb; subst hb; exact List.mem_cons_self
      have q := (List.pairwise_cons.mp (List.pairwise_append.mp hs).2.1).1 b hm
      rw [le_lt (h b (List.mem_cons_of_mem _ (mem b (List.mem_append_right _ hm))) a List.mem_cons_self)] at q
      simpa using q
/-- what can be sorted -/
def okS (ds : List D) : Bool := ds.all fun x => SeqAt.shaped x.toP && (match x with | .non => false | _ => true) && ds.all fun y => alk x y
def rSrtD (K : PySem.W.Frag) : List V → Hp → VK → Prop := fun vs H Q => ∃ (a : Addr) (us : List V) (ds : List D) (h : Hp), vs = [.ref a] ∧ SqL K H a us ∧ Same h H ∧ Rs K h ds us ∧ okS ds = true ∧ ∀ p ys, H p = none → Rs K h (isort ds) ys → Q (.ref p) (upd H p (.lst ys))
section
variable {K : PySem.W.Frag} {h : Hp}
theorem each_R : ∀ {ds : List D} {vs : List V} {its : List Value}, Rs K h ds vs → Vals vs its → PySem.W.EachIs (fun u d => ∃ v, RelV v u ∧ R K h d v) its ds
  | _, _, _, .nil, .nil => .nil
  | _, _, _, .cons r t, .cons q s => .cons ⟨_, q, r⟩ (each_R t s)
theorem R_each : ∀ {ds : List D} {its : List Value}, PySem.W.EachIs (fun u d => ∃ v, RelV v u ∧ R K h d v) its ds → ∃ vs, Vals vs its ∧ Rs K h ds vs
  | _, _, .nil => ⟨[], .nil, .nil⟩
  | _, _, .cons ⟨v, q, r⟩ t => by
    obtain ⟨vs, h1, h2⟩ := R_each t
    exact ⟨v :: vs, .cons q h1, .cons r h2⟩
theorem isort_len : ∀ l : List D, (isort l).length = l.length
  | [] => rfl
  | x :: r => by
    have : ∀ (x : D) (l : List D), (ins x l).length = l.length + 1 := fun x l => by
      induction l with
      | nil => rfl
      | cons y r ih =>
        unfold ins
        split
        · rw [List.length_cons, ih, List.length_cons]
        · rfl
    show (ins x (isort r)).length = _
    rw [this, isort_len r, List.length_cons]
end
theorem cr_sortedD {X : Cx} (hu : X.A.units + 66 < cLine) : CallR X (.builtin "sorted") (rSrtD X.K) := by
  intro pins s σ H vs us Q I r h
  obtain ⟨a, us', ds, h0, rfl, hs, hS, hR, ok, q⟩ := h
  obtain ⟨its, rv, hl, hz⟩ := I.list hs
  rw [Vals.ref1 r]
  unfold okS at ok
  rw [List.all_eq_true] at ok
  have ok1 : ∀ x ∈ ds, SeqAt.shaped x.toP = true := fun x hx => by
    have := ok x hx
    simp only [Bool.and_eq_true] at this
    exact this.1.1
  have ok2 : ∀ x ∈ ds, ∀ y ∈ ds, alk x y = true := fun x hx y hy => by
    have := ok x hx
    simp only [Bool.and_eq_true, List.all_eq_true] at this
    exact this.2 y hy
  have ok3 : ∀ x ∈ ds, x.toP ≠ .none := fun x hx => by
    have := ok x hx
    cases x <;> first | (intro z; cases z; done) | simp at this
  have e := each_R hR rv
  have er : PySem.W.EachIs (fun v b => ∃ as, Reads s.heap v (D.toP b) as) its ds := (PySem.W.each_mem e).mono fun u d ⟨⟨v, q1, q2⟩, hd⟩ => Dp.reads I d.toP v u ((q2.mono hS).dp (SeqAt.canLay_of_shaped (ok1 d hd))) q1
  have hal : PySem.W.AllAlike (ds.map D.toP) := by
    intro x hx y hy
    obtain ⟨a, ha, rfl⟩ := List.mem_map.mp hx
    obtain ⟨b, hb, rfl⟩ := List.mem_map.mp hy
    exact alk_alike a b (ok2 a ha b hb)
  have er' : PySem.W.EachIs (fun v b => ∃ as, Reads (PySem.W.sortingHeap (PySem.W.copyHeap s.heap its) (s.heap.objs.size + 1) its) v (D.toP b) as) its ds := er.mono fun _ _ ⟨as, r⟩ => ⟨as, PyProof.Rows.Reads.keeps (fun _ _ => PySem.W.sorting_copy_old) r⟩
  have em : PySem.W.EachIs (fun v d => ∃ as, Reads (PySem.W.sortingHeap (PySem.W.copyHeap s.heap its) (s.heap.objs.size + 1) its) v d as) its (ds.map D.toP) := PySem.W.each_map (R := fun v d => ∃ as, Reads (PySem.W.sortingHeap (PySem.W.copyHeap s.heap its) (s.heap.objs.size + 1) its) v d as) D.toP er'
  have hzL : its.length ≤ sizeLine := by rw [← rv.length]; exact hz
  refine PySem.W.sorted_vals hl.isList (PySem.W.SortsAt.any (s := { s with heap := PySem.W.sortingHeap (PySem.W.copyHeap s.heap its) (s.heap.objs.size + 1) its }) em hal (fun d hd => ?_) fun d hd => ?_) hzL ?_
  · obtain ⟨b, hb, rfl⟩ := List.mem_map.mp hd
    exact ok3 b hb
  · obtain ⟨b, hb, rfl⟩ := List.mem_map.mp hd
    have := SeqAt.depth_of_shaped (ok1 b hb)
    show X.A.units + 1 + 1 + b.toP.depth < cLine
    omega
  · have out := PySem.W.sortVals_data false e er' hal
    rw [merge_isort ok2] at out
    obtain ⟨ys, y1, y2⟩ := R_each out
    have hlen : ys.length ≤ sizeLine := by
      rw [← y2.length, isort_len, hR.length, rv.length]
      exact hzL
    obtain ⟨ep, he'⟩ := PyProof.Rows.sortedAll_at s.heap its (PySem.W.sortVals (PySem.W.dataKind (PySem.W.sortingHeap (PySem.W.copyHeap s.heap its) (s.heap.objs.size + 1) its) (ds.map D.toP)) false its its).toArray
    exact ⟨.ref _, upd H (s.heap.objs.size + 1) (.lst ys), I.laid (t' := s.toks) (fun _ _ => PyProof.Rows.sortedAll_old) (Nat.le_succ _) ⟨hlen, _, ep, y1, he'⟩, rfl, q _ _ (I.hok.fresh (Nat.le_succ _)) y2⟩
def dSorted : List D → Option Rv
  | [.lst xs] => if okS xs then some (.fr (.lst (isort xs))) else none
  | _ => none
theorem f_sorted {X : Cx} : FunR X (rSrtD X.K) dSorted := by
  intro mg W C σV H σ xs ds rr Q s r e h
  unfold dSorted at e
  split at e
  · rename_i xs'
    split at e
    · rename_i ok
      cases e
      obtain ⟨v, rfl, r1⟩ := r.one
      obtain ⟨a, vs, rfl, h1, h2⟩ := r1.lst hid_sub
      exact ⟨a, vs, xs', _, rfl, .inl (.inl h1), hid_sub, h2, ok, fun p ys hp r2 => fin_fr h s r2 hp⟩
    · cases e
  · cases e

/-! ### == and in, computed -/
def dEqC (x y : D) : Option Bool := if SeqAt.shaped x.toP = true ∧ SeqAt.shaped y.toP = true then some (D.eqb x y) else none
def dNeC (x y : D) : Option Bool := if SeqAt.shaped x.toP = true ∧ SeqAt.shaped y.toP = true then some (!D.eqb x y) else none
def dInC (neg : Bool) (x y : D) : Option Bool := match y with
  | .lst ys => if SeqAt.shaped x.toP = true ∧ SeqAt.shaped (D.lst ys).toP = true then some (neg ^^ ys.any fun z => D.eqb z x) else none
  | .tup ys => if dFlat x = true ∧ ys.all dFlat = true then some (neg ^^ ys.any fun z => D.eqb z x) else none
  | .str z => match x with
    | .str t => some (neg ^^ !(Builtin.Str.occurrences z t 0 z.length 1).isEmpty)
    | _ => none
  | _ => none
theorem dEqC_eq : dEqC = dEq := by
  funext x y
  unfold dEqC dEq
  rw [eqb_eqv]
theorem dNeC_eq : dNeC = dNe := by
  funext x y
  unfold dNeC dNe
  rw [eqb_eqv]
theorem dInC_eq (neg : Bool) : dInC neg = dIn neg := by
  funext x y
  unfold dInC dIn
  cases y <;> first | rfl | (simp only [eqb_eqv])
section
variable {X : Cx} {k : Nat}
theorem c_eqC (hr : Room k X.A) : CmpR X .Eq dEqC := dEqC_eq ▸ c_eq hr
theorem c_neC (hr : Room k X.A) : CmpR X .NotEq dNeC := dNeC_eq ▸ c_ne hr
theorem c_inC (hr : Room (k + 1) X.A) : CmpR X .In (dInC false) := dInC_eq false ▸ c_in hr
theorem c_notinC (hr : Room (k + 1) X.A) : CmpR X .NotIn (dInC true) := dInC_eq true ▸ c_notin hr
end
end DL

set_option Elab.async false
set_option linter.all false
set_option maxRecDepth 100000
/-! DR: set(list of ints), sorted(set). -/
namespace DL
open PySem PySem.Spec PyProof.Rows L2
/-- an empty set, just made -/
abbrev oSet (w : World) : Obj := { cls := .type "set", dict := none, data := .set #[] 0 (.fresh 0 0 (!w.params.followText "set-order")) }
/-- what set(l) leaves -/
def SetMade (w : World) (s : Shared) (ns : List Int) (r : Value) (s₂ : Shared) : Prop := r = .none ∧ ∃ h' tk c, s₂ = { s with heap := h', toks := tk } ∧ SetR w h' s.heap.objs.size (fun j => decide (j ∈ ns)) c ∧ c ≤ ns.length ∧ ∀ b o, s.heap.get? b = some o → h'.get? b = some o
section
variable {P : Program} {w : World} {A : Around} {E : Value → Shared → Prop} {s : Shared}
set_option maxHeartbeats 3200000 in
theorem call_set_ints {l : Addr} {items : Array Value} (ns : List Int) {Q : Value → Shared → Prop} (hand : A.handled = none) (isl : s.heap.IsList l items) (inn : IntsAre items.toList ns) (few : ns.length + 1 < scanBound)
    (out : ∀ (h' : Heap) (tk c : Nat), SetR w h' s.heap.objs.size (fun j => decide (j ∈ ns)) c → c ≤ ns.length → (∀ b o, s.heap.get? b = some o → h'.get? b = some o) → Q (.ref s.heap.objs.size) { s with heap := h', toks := tk }) :
    wpAny (model P w) A (call (.type "set") [.ref l]) Q E s := by
  have len : items.size = ns.length := by
    have := IntsAre.length inn
    rwa [Array.length_toList] at this
  obtain ⟨cM, tM, mroS⟩ := F.called_set.mro
  have madeS := F.called_set.made
  have subS := F.called_set.sub
  refine wpAny_call (codeAny_of_tree (show wpAny _ _ (callAny (.type "set") _) _ _ _ from ?_))
  refine wpAny_pure ⟨Code.quiet_builtin _ (by decide +kernel), codeAny_builtin F.entry_type_call ?_⟩
  rw [Around.under_plain (weight_type_call_type "set" [.ref l] []) rfl]
  have noT := F.called_set.notType
  have can := F.called_set.canCreate
  have tcS := F.typeCall_set_1 (.ref l)
  repeat (any_goals (first | assumption | wp_step))
  refine codeAny_mono (code_set_led1 (.ref l) (E := E) (Q₁ := fun ob s₁ => ob = .ref s.heap.objs.size ∧ s₁ = { s with heap := s.heap.push (oSet w) }) ⟨rfl, rfl⟩) fun fin s₁ hf => ?_
  cases fin with
  | error e => exact hf
  | ok fl =>
    cases fl with
    | ret ob =>
      obtain ⟨rfl, rfl⟩ := hf
      have atS : (s.heap.push (oSet w)).get? s.heap.objs.size = some (oSet w) := Heap.get?_push_size _ rfl
      have tyS : Shared.TypeIs { s with heap := s.heap.push (oSet w) } (.ref s.heap.objs.size) "set" := ⟨_, atS, rfl⟩
      have lookI := F.called_set.init.lookup
      have bindI := F.called_set.init.bind (.ref s.heap.objs.size)
      repeat (any_goals (first | assumption | wp_step))
      refine codeAny_mono (codeAny_call_builtin (R := wants (SetMade w s ns) E) F.called_set.init.plain F.entry_set_init (check_set_init_1 tyS ?_)) fun r₂ s₂ h₂ => ?_
      · obtain ⟨⟨cl, dd, da, sl⟩, at0, e1, n0, e2⟩ := isl
        simp only at e1 e2
        subst e1 e2
        have atL : (s.heap.push (oSet w)).get? l = some { cls := .type "list", dict := dd, data := .seq items n0, slots := sl } := Heap.get?_push_of_some _ at0
        have subA := F.sub_list_set
        have subB := F.sub_list_frozenset
        have noD : (Value.type "list" == Value.type "dict") = false := by decide
        have isL : (s.heap.push (oSet w)).IsList l items := ⟨_, atL, rfl, n0, rfl⟩
        unfold Builtin.«set.__init__» noKeywords Builtin.Frozenset.updateFrom
        generalize hIter : pyIter = PI
        wp_walk
        subst hIter
        refine wpAny_pyIter_list isL (wpAny_bind (wpAny_runValue ?_))
        have lt0 : l < s.heap.objs.size := Heap.lt_size at0
        have hand3 : A.in1.in1.in1.handled = none := by simp [hand]
        have ne0 : l ≠ (s.heap.push (oSet w)).objs.size := by rw [Heap.size_push]; exact Nat.ne_of_lt (Nat.lt_succ_of_lt lt0)
        have out0 : s.heap.objs.size ∉ [(s.heap.push (oSet w)).objs.size, l] := by
          rw [Heap.size_push]
          simp only [List.mem_cons, List.mem_singleton, List.not_mem_nil, or_false, not_or]
          exact ⟨Nat.ne_of_lt (Nat.lt_succ_self _), Nat.ne_of_gt lt0⟩
        have vals : ∀ (i : Nat) (v : Value), items[i]? = some v → ∃ k t, ns[i]? = some k ∧ v = .int k t := fun i v hv => by
          have lt : i < ns.length := by rw [← len]; exact (Array.getElem?_eq_some_iff.mp hv).1
          obtain ⟨t, e⟩ := PyProof.Rows.IntsAre.int_at inn i v (by rw [Array.getElem?_toList]; exact hv)
          refine ⟨ns[i], t, List.getElem?_eq_getElem lt, ?_⟩
          rw [e, List.getD_eq_getElem?_getD, List.getElem?_eq_getElem lt] <;> rfl
        refine set_update_ints ((Walks.list hand3 _ l ne0 items).toS) s.heap.objs.size out0 ns len few vals _ 0 _ rfl (Nat.zero_le _) ⟨⟨_, Heap.get?_push_size _ rfl, rfl, rfl⟩, isL.push _⟩
          ⟨0, Nat.le_refl 0, setR_new_at (Heap.get?_push_of_some _ atS)⟩ fun s' c' mv c1 sR => ?_
        obtain ⟨h', g', d', tk', os'⟩ := s'
        obtain rfl : g' = s.gens := mv.gens
        obtain rfl : d' = s.drawn := mv.drawn
        obtain rfl : os' = s.os := mv.os
        rw [len] at c1
        refine wpAny_pure (show wpAny _ _ (ret Value.none) _ _ _ from wpAny_pure ⟨rfl, h', tk', c', rfl, sR, c1, fun b o e => ?_⟩)
        have lt1 : b < s.heap.objs.size := Heap.lt_size e
        refine mv.heap b o ?_ (Heap.get?_push_of_some _ (Heap.get?_push_of_some _ e))
        simp only [List.mem_cons, List.mem_singleton, List.not_mem_nil, or_false, not_or]
        exact ⟨Nat.ne_of_lt lt1, by rw [Heap.size_push]; exact Nat.ne_of_lt (Nat.lt_succ_of_lt lt1)⟩
      · cases r₂ with
        | error e => exact h₂
        | ok fl₂ =>
          cases fl₂ with
          | ret r =>
            obtain ⟨rfl, h', tk', c', rfl, sR, c1, kp⟩ := h₂
            repeat (any_goals (first | assumption | wp_step))
            exact out _ _ _ sR c1 kp
          | _ => exact h₂.elim
    | _ => exact hf.elim
end
end DL

set_option Elab.async false
set_option linter.all false
set_option maxRecDepth 100000
/-! DS: sorted(set(xs)) of ints; pop(i), index, count. -/
namespace DL
open PySem PySem.Spec PyProof.Rows L2

/-! ### sorted(set(xs)) -/
def usIns (x : Int) : List Int → List Int
  | [] => [x]
  | y :: r => if x < y then x :: y :: r else if x = y then y :: r else y :: usIns x r
def usort : List Int → List Int
  | [] => []
  | x :: r => usIns x (usort r)
theorem usIns_mem {x k : Int} : ∀ {l : List Int}, k ∈ usIns x l ↔ k = x ∨ k ∈ l
  | [] => by simp [usIns]
  | y :: r => by
    unfold usIns
    split
    · simp
    · split
      · rename_i h
        subst h
        simp
      · rw [List.mem_cons, usIns_mem (l := r), List.mem_cons]
        constructor
        · rintro (h | h | h)
          · exact .inr (.inl h)
          · exact .inl h
          · exact .inr (.inr h)
        · rintro (h | h | h)
          · exact .inr (.inl h)
          · exact .inl h
          · exact .inr (.inr h)
theorem usort_mem {k : Int} : ∀ {l : List Int}, k ∈ usort l ↔ k ∈ l
  | [] => Iff.rfl
  | x :: r => by
    show k ∈ usIns x (usort r) ↔ _
    rw [usIns_mem, usort_mem (l := r), List.mem_cons]
theorem usIns_srt {x : Int} : ∀ {l : List Int}, l.Pairwise (· < ·) → (usIns x l).Pairwise (· < ·)
  | [], _ => List.pairwise_singleton _ _
  | y :: r, h => by
    obtain ⟨h1, h2⟩ := List.pairwise_cons.mp h
    unfold usIns
    split
    · rename_i hlt
      refine List.pairwise_cons.mpr ⟨fun z hz => ?_, h⟩
      rcases List.mem_cons.mp hz with e | e
      · rw [e]; exact hlt
      · have := h1 z e; omega
    · split
      · exact h
      · refine List.pairwise_cons.mpr ⟨fun z hz => ?_, usIns_srt h2⟩
        rcases usIns_mem.mp hz with e | e
        · omega
        · exact h1 z e
theorem usort_srt : ∀ l : List Int, (usort l).Pairwise (· < ·)
  | [] => List.Pairwise.nil
  | _ :: r => usIns_srt (usort_srt r)
theorem srt_uniq : ∀ {l m : List Int}, l.Pairwise (· < ·) → m.Pairwise (· < ·) → (∀ k, k ∈ l ↔ k ∈ m) → l = m
  | [], [], _, _, _ => rfl
  | [], y :: m, _, _, h => absurd ((h y).mpr List.mem_cons_self) (by simp)
  | x :: l, [], _, _, h => absurd ((h x).mp List.mem_cons_self) (by simp)
  | x :: l, y :: m, h1, h2, h => by
    obtain ⟨a1, a2⟩ := List.pairwise_cons.mp h1
    obtain ⟨b1, b2⟩ := List.pairwise_cons.mp h2
    have e : x = y := by
      rcases List.mem_cons.mp ((h x).mp List.mem_cons_self) with e | e
      · exact e
      · rcases List.mem_cons.mp ((h y).mpr List.mem_cons_self) with e' | e'
        · exact e'.symm
        · have := b1 x e; have := a1 y e'; omega
    subst e
    rw [srt_uniq a2 b2 fun k => ?_]
    constructor
    · intro hk
      rcases List.mem_cons.mp ((h k).mp (List.mem_cons_of_mem _ hk)) with e | e
      · have := a1 k hk; omega
      · exact e
    · intro hk
      rcases List.mem_cons.mp ((h k).mpr (List.mem_cons_of_mem _ hk)) with e | e
      · have := b1 k hk; omega
      · exact e
def rSetL (K : PySem.W.Frag) (w : World) : List V → Hp → VK → Prop := fun vs H Q => ∃ (a : Addr) (ns : List Int), vs = [.ref a] ∧ SqL K H a (ns.map V.int) ∧ ns.length < 64 ∧ ∀ p c, H p = none → c ≤ ns.length → Q (.ref p) (upd H p (SetO w p (fun j => decide (j ∈ ns)) c))
theorem cr_setL {X : Cx} (hc : X.calm = true) : CallR X (.type "set") (rSetL X.K X.w) := by
  intro pins s σ H vs us Q I r h
  obtain ⟨a, ns, rfl, hs, hl, q⟩ := h
  obtain ⟨its, rv, pl, hz⟩ := I.list hs
  rw [Vals.ref1 r]
  refine call_set_ints ns (I.ok.hd hc) pl.isList rv.ints (by unfold scanBound; omega) fun h' tk c sR hcl kp => ?_
  exact ⟨.ref _, upd H s.heap.objs.size (SetO X.w s.heap.objs.size (fun j => decide (j ∈ ns)) c), I.laid (t' := tk) kp (Nat.le_refl _) (setO_new sR), rfl, q _ _ (I.hok.fresh (Nat.le_refl _)) hcl⟩
def dSortSet : D → Option Rv
  | .lst xs => match dInts xs with
    | some ns => if ns.length < 64 then some (.fr (.lst ((usort ns).map .int))) else none
    | none => none
  | _ => none
section
variable {X : Cx} {W : WX} {e : Expr} {p p2 pos q : Pos} {ma : M Rv}
theorem ints_Rs {K : PySem.W.Frag} {h : Hp} : ∀ ns : List Int, Rs K h (ns.map D.int) (ns.map V.int)
  | [] => .nil
  | n :: r => .cons (.int n) (ints_Rs r)
theorem ev_sortSet (hc : X.calm = true) (hg : Gl X "sorted") (hm : X.mg "sorted" = none) (hg2 : Gl X "set") (hm2 : X.mg "set" = none) (ha : EV X W e ma)
    (hs : starEach [e] X.env = (false, eval e X.env) :: starEach [] X.env := by rfl) (hs2 : starEach [.Call (.Name "set" p2) [e] [] q] X.env = (false, eval (.Call (.Name "set" p2) [e] [] q) X.env) :: starEach [] X.env := by rfl) :
    EV X W (.Call (.Name "sorted" p) [.Call (.Name "set" p2) [e] [] q] [] pos) (do let r ← ma; op1 dSortSet r) := by
  have ps : PE X (.Call (.Name "set" p2) [e] [] q) (tCB (rSetL X.K X.w) (tCons (tE X.K X.mg W ma) tNil)) := pe_callTy (cr_setL hc) hg2 hm2 PyProof.Rows.boot_set (pa_cons ha.pe pa_nil hs) (by decide) (by decide) hs rfl
  refine .of (pe_callB (cr_sortedSet hc) hg hm PyProof.Rows.boot_sorted (pa_cons ps pa_nil hs2) (by decide) (by decide) hs2 rfl) fun σV H Q ⟨C, σ, s, h⟩ => ⟨C, σ, s, (fin_e h).imp fun v H1 ⟨σ1, r, s1, v1, k1, h1⟩ => ?_⟩
  obtain ⟨d, rr, q1, e1, h2⟩ := fin_op1 h1 s1 v1
  unfold dSortSet at e1
  cases d <;> first | cases e1 | skip
  rename_i xs
  simp only at e1
  cases ei : dInts xs with
  | none => rw [ei] at e1; cases e1
  | some ns =>
    rw [ei] at e1
    simp only at e1
    split at e1
    · rename_i hl
      cases e1
      obtain ⟨a, vs, rfl, g1, g2⟩ := q1.lst hid_sub
      have ev := ints_R g2 ei
      subst ev
      refine ⟨a, ns, rfl, .inl (.inl g1), hl, fun b c hb hcl => ⟨b, _, c, rfl, upd_same, Nat.lt_of_le_of_lt hcl hl, fun ms t srt mem ml ht => ?_⟩⟩
      have em : ms = usort ns := srt_uniq srt (usort_srt ns) fun k => by rw [mem k, usort_mem]; exact decide_eq_true_iff
      subst em
      have kb := same_upd (o := SetO X.w b (fun j => decide (j ∈ ns)) c) hb
      exact fin_fr (W := W) (mg := X.mg) (FinG.step (f := (pure (Rv.fr (.lst ((usort ns).map .int))) : M Rv)) rfl (keep_grow kb) h2) (s1.heap kb) (ints_Rs _) ht
    · cases e1
end

/-! ### x.pop(i), xs.index(e), xs.count(e) -/
def mPopAt (i : Nat) (mk : M Rv) : M Rv := do
  let _ ← ownL i
  let r ← mk
  let k ← asK r
  let xs ← ownL i
  if -(2 ^ 63) ≤ k ∧ k < 2 ^ 63 then (match seqIndex? k xs.length with
    | some j => match xs[j]? with
      | some d => (do
        let _ ← wrL i (xs.eraseIdx j)
        pure (.v d))
      | none => M.bad
    | none => M.bad) else M.bad
theorem Rs.eraseIdx {K : PySem.W.Frag} {H : Hp} : ∀ {ds : List D} {vs : List V} (j : Nat), Rs K H ds vs → Rs K H (ds.eraseIdx j) (vs.eraseIdx j)
  | _, _, _, .nil => .nil
  | _, _, 0, .cons _ t => t
  | _, _, j + 1, .cons h t => .cons h (Rs.eraseIdx j t)
section
variable {X : Cx} {W : WX} {e o : Expr} {apos cpos npos pos : Pos} {x : PySem.Str} {i : Nat} {ma mb mk : M Rv}
theorem ev_popAt (ho : PE X (.Name x npos) (tVar i)) (ha : EV X W e mk)
    (hbase : attributeBase (.Name x npos) "pop" X.env (eval (.Name x npos) X.env) = eval (.Name x npos) X.env := by rfl)
    (hfew : ((backTo cpos (starEach (e :: []) X.env)).all (fun x => !x.1) && (backToKw cpos (keywordEach [] X.env)).all (fun x => x.1.isSome)
      && decide ((e :: []).length + ([] : List Keyword).length + (if ([] : List Keyword).isEmpty then 0 else 1) < 30)) = true := by rfl)
    (hline : (apos.endLine == cpos.line) = true := by rfl) (hs : starEach (e :: []) X.env = (false, eval e X.env) :: starEach [] X.env := by rfl) (hplain : (backTo cpos (starEach [] X.env)).any (·.1) = false := by rfl) :
    EV X W (.Call (.Attribute (.Name x npos) "pop" apos) [e] [] cpos) (mPopAt i mk) := by
  refine EV.of (pe_bm PySem.F.plainAttrs_list PySem.F.slot_list_pop PySem.F.type_list_pop mt_popAt ho (pa_cons ha.pe pa_nil hs) hbase hfew hline hs hplain) fun σV H Q ⟨C, σ, s, h⟩ => ?_
  obtain ⟨b, xs, a, us, h1, h2, h3, h4, h5⟩ := fin_ownL h s
  refine ⟨_, h2, .inl ⟨rfl, us, .inl (.inl h3)⟩, C, σ, s, (fin_e h5).imp fun v H1 ⟨σ1, r, s1, v1, k1, q1⟩ => ?_⟩
  obtain ⟨k, rfl, q2⟩ := fin_K q1 s1 v1
  obtain ⟨b', xs', a', us', g1, g2, g3, g4, q3⟩ := fin_ownL q2 s1
  rw [h2] at g2; cases g2
  by_cases hk : -(2 ^ 63) ≤ k ∧ k < 2 ^ 63
  · rw [if_pos hk] at q3
    cases ej : seqIndex? k xs'.length with
    | none => rw [ej] at q3; exact q3.elim
    | some j =>
      rw [ej] at q3
      cases ed : xs'[j]? with
      | none => simp only [ed] at q3; exact q3.elim
      | some d =>
        simp only [ed] at q3
        obtain ⟨y, hy, ry⟩ := g4.get ed
        refine ⟨a, us', k, j, y, rfl, rfl, g3, hk.1, hk.2, by rw [← g4.length]; exact ej, hy, ?_⟩
        obtain ⟨s4, k4, q4⟩ := fin_wrL q3 s1 g1 h2 (g4.eraseIdx j)
        exact fin_v q4 s4 (ry.mono k4.hid)
  · rw [if_neg hk] at q3
    exact q3.elim
def dCount (x y : D) : Option Rv := match x, y with
  | .lst xs, .int k => (dInts xs).map fun ns => .v (.int (ns.count k : Nat))
  | _, _ => none
def mOp2 (f : D → D → Option Rv) (ma mb : M Rv) : M Rv := do let a ← ma; let b ← mb; op2 f a b
/-- a method that reads its list: the list is one at once, own or not -/
def isLst (σ : Sg) (r : Rv) : Bool := match rdv σ r with
  | some (.lst _) => true
  | _ => false
def mMeth (f : D → D → Option Rv) (ma mb : M Rv) : M Rv := do
  let a ← ma
  let _ ← tst (fun d => match d with
    | .lst _ => some true
    | _ => none) a
  let b ← mb
  op2 f a b
theorem meth_reads {r : V → List V → Hp → VK → Prop} {f : D → D → Option Rv} {σV : L2.St} {H : Hp} {Q : VK}
    (hr : ∀ {C : Cn} {σV : L2.St} {H : Hp} {σ : Sg} {x y : V} {dx dy : D} {rr : Rv} {Q : VK}, SR X.K C H σV σ → RT X.K (hid (Hd C.A σV σ) H) H dx x → RT X.K (hid (Hd C.A σV σ) H) H dy y → f dx dy = some rr → FinG (RelE X.K σV) X.mg W C σV H σ (pure rr) Q → r x [y] H Q)
    (h : tE X.K X.mg W (mMeth f ma mb) σV H Q) : tBM X.K "list" r (tE X.K X.mg W ma) (tCons (tE X.K X.mg W mb) tNil) σV H Q := by
  obtain ⟨C, σ, s, h⟩ := h
  refine ⟨C, σ, s, (fin_e h).imp fun v H1 ⟨σ1, r1, s1, v1, k1, h1⟩ => ?_⟩
  obtain ⟨d, b, q1, e1, h2⟩ := fin_tstB h1 s1 v1
  have ty : tyV X.K "list" v H1 := by
    cases d <;> first | cases e1 | skip
    obtain ⟨a, vs, rfl, g1, g2⟩ := q1.lst hid_sub
    exact .inl ⟨rfl, vs, .inl (.inl g1)⟩
  refine ⟨ty, C, σ1, s1, (fin_e h2).imp fun y H2 ⟨σ2, r2, s2, v2, k2, h3⟩ => ?_⟩
  obtain ⟨dx, dy, rr, q3, q4, e3, h4⟩ := fin_op2 h3 s2 (v1.keep k2) v2
  exact hr s2 q3 q4 e3 h4
theorem ev_count (ho : EV X W o ma) (ha : EV X W e mb) (hbase : attributeBase o "count" X.env (eval o X.env) = eval o X.env := by rfl)
    (hfew : ((backTo cpos (starEach (e :: []) X.env)).all (fun x => !x.1) && (backToKw cpos (keywordEach [] X.env)).all (fun x => x.1.isSome)
      && decide ((e :: []).length + ([] : List Keyword).length + (if ([] : List Keyword).isEmpty then 0 else 1) < 30)) = true := by rfl)
    (hline : (apos.endLine == cpos.line) = true := by rfl) (hs : starEach (e :: []) X.env = (false, eval e X.env) :: starEach [] X.env := by rfl) (hplain : (backTo cpos (starEach [] X.env)).any (·.1) = false := by rfl) :
    EV X W (.Call (.Attribute o "count" apos) [e] [] cpos) (mMeth dCount ma mb) := by
  refine EV.of (pe_bm PySem.F.plainAttrs_list PySem.F.slot_list_count PySem.F.type_list_count mt_lcount ho.pe (pa_cons ha.pe pa_nil hs) hbase hfew hline hs hplain) fun σV H Q h => ?_
  refine meth_reads (fun {C σV H σ x y dx dy rr Q} s q1 q2 e1 h => ?_) h
  unfold dCount at e1
  split at e1
  · rename_i xs k
    cases ei : dInts xs with
    | none => rw [ei] at e1; cases e1
    | some ns =>
      rw [ei] at e1
      cases e1
      obtain ⟨a, vs, rfl, g1, g2⟩ := q1.lst hid_sub
      have ev := ints_R g2 ei
      subst ev
      cases q2.int
      exact ⟨a, ns, k, rfl, rfl, .inl (.inl g1), fin_v h s (.int _)⟩
  · cases e1
end
end DL

set_option Elab.async false
set_option linter.all false
set_option maxRecDepth 100000
/-! DT: calls by names; calls with a new list that nobody else has. -/
namespace DL
open PySem PySem.Spec PyProof.Rows L2

/-! ### f(k = v, ..) -/
/-- what stands at these places -/
def pick {α : Type} (perm : List Nat) (xs : List α) : Option (List α) := perm.mapM fun i => xs[i]?
/-- how names bind -/
def KB (K : PySem.W.Frag) (fd : FuncData) (ps ks : List PySem.Str) (perm : List Nat) : Prop :=
  ∀ (s : Shared) (ws us : List Value), K.In s.heap → ws.length = ks.length → pick perm ws = some us → BindsTo s fd ⟨[], ks.zip ws⟩ (ps.zip us)
structure KV (X : Cx) (W : WX) (kws : List Keyword) (m : M (List Rv)) : Prop where
  pk : PK X kws (tA X.K X.mg W m)
theorem PK.imp {X : Cx} {kws : List Keyword} {t t' : TA} (h : PK X kws t) (i : ∀ σ H Q, t' σ H Q → t σ H Q) : PK X kws t' := ⟨fun pos pins s σ H Q I q => h.run pos pins s σ H Q I (i σ H Q q)⟩
theorem RvRs.at {K : PySem.W.Frag} {C : Cn} {H : Hp} {σV : L2.St} {σ : Sg} {rs : List Rv} {vs : List V} (r : RvRs K C H σV σ rs vs) : ∀ {perm : List Nat} {rs' : List Rv}, pick perm rs = some rs' → ∃ vs', pick perm vs = some vs' ∧ RvRs K C H σV σ rs' vs'
  | [], rs', e => by
    cases e
    exact ⟨[], rfl, .nil⟩
  | i :: perm, rs', e => by
    unfold pick at e
    rw [List.mapM_cons] at e
    cases e1 : rs[i]? with
    | none => rw [e1] at e; cases e
    | some x =>
      rw [e1] at e
      cases e2 : pick perm rs with
      | none =>
        unfold pick at e2
        rw [e2] at e; cases e
      | some xs =>
        have e2' := e2
        unfold pick at e2
        rw [e2] at e
        cases e
        obtain ⟨v, h1, h2⟩ := r.get' e1
        obtain ⟨vs', h3, h4⟩ := RvRs.at r e2'
        refine ⟨v :: vs', ?_, .cons h2 h4⟩
        unfold pick at h3 ⊢
        rw [List.mapM_cons, h1, h3] <;> rfl
theorem vals_at {vs : List V} {us : List Value} (r : Vals vs us) : ∀ {perm : List Nat} {vs' : List V}, pick perm vs = some vs' → ∃ us', pick perm us = some us' ∧ Vals vs' us'
  | [], _, e => by
    cases e
    exact ⟨[], rfl, .nil⟩
  | i :: perm, _, e => by
    unfold pick at e
    rw [List.mapM_cons] at e
    cases e1 : vs[i]? with
    | none => rw [e1] at e; cases e
    | some x =>
      rw [e1] at e
      cases e2 : pick perm vs with
      | none =>
        unfold pick at e2
        rw [e2] at e; cases e
      | some xs =>
        have e2' := e2
        unfold pick at e2
        rw [e2] at e
        cases e
        obtain ⟨v, h1, h2⟩ := r.get e1
        obtain ⟨us', h3, h4⟩ := vals_at r e2'
        refine ⟨v :: us', ?_, .cons h2 h4⟩
        unfold pick at h3 ⊢
        rw [List.mapM_cons, h1, h3] <;> rfl
def kArgs (n nk : Nat) (perm : List Nat) (rs : List Rv) : Option (List Rv) := if rs.length = nk then (match pick perm rs with
  | some rs' => if rs'.length = n then some rs' else none
  | none => none) else none
def mCallK (n nk : Nat) (io : Option Nat) (F : FD) (perm : List Nat) (m : M (List Rv)) : M Rv := do
  let rs ← m
  match kArgs n nk perm rs with
  | some rs' => callAt io F rs'
  | none => M.bad
section
variable {X : Cx} {W : WX} {k n : Nat} {f : Addr} {fd : FuncData} {ps ks : List PySem.Str} {x : PySem.Str} {p pos kpos : Pos} {e : Expr} {es : List Expr} {kws : List Keyword} {m : M (List Rv)} {ma : M Rv} {io : Option Nat} {F : FD} {perm : List Nat} {nm : Option PySem.Str}
theorem kv_nil : KV X W [] (pure []) := ⟨PK.imp pk_nil fun σV H Q ⟨C, σ, s, h⟩ => h [] H ⟨s, .nil⟩ (Keep.refl _ _).inr⟩
theorem kv_cons (ha : EV X W e ma) (hr : KV X W kws m) : KV X W (⟨nm, e, kpos⟩ :: kws) (do let r ← ma; let rs ← m; pure (r :: rs)) := by
  refine ⟨PK.imp (pk_cons ha.pe hr.pk) fun σV H Q ⟨C, σ, s, h⟩ => ⟨C, σ, s, (fin_e h).imp fun v H1 ⟨σ1, r, s1, v1, k1, h1⟩ => ⟨C, σ1, s1, (fin_a h1).imp fun vs H2 ⟨σ2, rs, s2, v2, k2, h2⟩ => ?_⟩⟩⟩
  exact h2 _ _ ⟨s2, .cons (v1.keep k2) v2⟩ (Keep.refl _ _).inr
theorem vals_len : ∀ {vs : List V} {us : List Value}, Vals vs us → vs.length = us.length := fun r => r.length
theorem ev_callK (G : FnOk X.prog X.w X.K X.mg X.base (L2.CX X.prog X.w) k f fd ps (spD X.K X.mg n io F)) (hr : Room k X.A) (hg : Gl X x) (hm : X.mg x = some (.ref f)) (hk : PySem.W.keepIn X.K (.ref f) = true) (hb : KB X.K fd ps ks perm) (hn : ps.length = n) (tk : Takes X W)
    (ha : KV X W kws m) (hdb : (x == ("__debug__" : PySem.Str)) = false := by decide) (hall : (backToKw pos (keywordEach kws X.env)).all (·.1.isSome) = true := by rfl) (hks : (backToKw pos (keywordEach kws X.env)).filterMap (·.1) = ks := by rfl)
    (hpl : ((backTo pos (starEach [] X.env)).any (·.1) || (backToKw pos (keywordEach kws X.env)).any (·.1.isNone)) = false := by rfl) :
    EV X W (.Call (.Name x p) [] kws pos) (mCallK n ks.length io F perm m) := by
  refine ⟨⟨fun pins s0 σV H Q I h => ?_⟩⟩
  obtain ⟨C, σ, s, h⟩ := h
  refine wpAny_Call_Name_kw (ld_glob I hg hm ?_ hdb)
  refine PySem.W.callWith_KW0 (h₀ := X.base) I.ok.mod.kin hk hall (thn (ha.pk.run pos pins s0 σV H (fun zs H1 => ∃ σ1 rs, SR X.K C H1 σV σ1 ∧ RvRs X.K C H1 σV σ1 rs zs ∧ FinG (RelE X.K σV) X.mg W C σV H1 σ1 (match kArgs n ks.length perm rs with
    | some rs' => callAt io F rs'
    | none => M.bad) Q) I ⟨C, σ, s, (fin_a h).imp fun vs H1 ⟨σ1, rs, s1, v1, k1, h1⟩ => ⟨σ1, rs, s1, v1, h1⟩⟩) fun ws s2 ⟨zs, H2, I2, rz, σ1, rs, s1, v1, h1⟩ => ⟨I2.kIn, ?_⟩) hpl
  rw [hks]
  cases e0 : kArgs n ks.length perm rs with
  | none => rw [e0] at h1; exact h1.elim
  | some rs' =>
    rw [e0] at h1
    simp only at h1
    unfold kArgs at e0
    split at e0
    · rename_i hlr
      cases e1 : pick perm rs with
      | none => rw [e1] at e0; cases e0
      | some rs2 =>
        rw [e1] at e0
        simp only at e0
        split at e0
        · rename_i hl
          cases e0
          obtain ⟨vs', g1, g2⟩ := v1.at e1
          obtain ⟨us', g3, g4⟩ := vals_at rz g1
          have sp := call_sp (n := n) s1 g2 (by rw [← g2.length]; exact hl) h1
          have hlw : ws.length = ks.length := by rw [← rz.length, ← v1.length]; exact hlr
          refine wpAny_call (codeAny_mono (G.run X.A X.stack s2 H2 ⟨[], ks.zip ws⟩ us' vs' Q (WE W σV) hr I2.env0 (hb s2 ws us' I2.kIn hlw g3) g4 sp) fun r s' hq => ?_)
          cases r with
          | error e => exact passAt tk σV pins H2 s2 e s' I2 hq
          | ok fl =>
            cases fl with
            | ret u => exact I2.after hq
            | next => exact False.elim hq
            | brk => exact False.elim hq
            | cont => exact False.elim hq
        · cases e0
    · cases e0
end
/-! ### f(e) with a new list as f's own parameter -/
def mCallFr (F : FD) (ma : M Rv) : M Rv := do
  let r ← ma
  match r with
  | .fr d => (fun σ => match F [d] with
    | .ok r fresh _ => .ok (retRv r fresh) σ
    | _ => .bad)
  | _ => M.bad
end DL

set_option Elab.async false
set_option linter.all false
set_option maxRecDepth 100000
/-! DU: try with one clause; promises in short; the rules under one form each. -/
namespace DL
open PySem PySem.Spec PyProof.Rows L2

/-! ### try: .., except c as n: return [w, isinstance(n, ValueError)] -/
/-- what an except clause and isinstance ask of an own exception class -/
structure ExcT (K : PySem.W.Frag) (mg : PySem.Str → Option Value) (c : PySem.Str) : Prop where
  ex : ∃ a : Addr, mg c = some (.ref a) ∧ PySem.W.exmOne K (.ref a) (.ref a) = some true ∧ ExcC K a ∧ PySem.W.kitOne K (.ref a) (.type "ValueError") = some true
def noOwn (σ : Sg) : Bool := σ.all fun t => match t with
  | .ow _ _ => false
  | _ => true
theorem noOwn_at {σ : Sg} (h : noOwn σ = true) {σV : L2.St} {b : Addr} : ¬ Owns σV σ b := by
  rintro ⟨j, bb, d, e1, _⟩
  unfold noOwn at h
  rw [List.all_eq_true] at h
  have := h _ (List.mem_of_getElem? e1)
  simp at this
def mTryR (i : Nat) (c w : PySem.Str) (mb : M Fl) : M Fl := fun σ => match mb σ with
  | .exc c' ps => if c' = c ∧ noOwn σ = true ∧ i < σ.length then .ok (.rt (.fr (.lst [.str w, .bl true]))) σ else .bad
  | r => r
section
variable {X : Cx} {W : WX} {c n w : PySem.Str} {i j : Nat} {body : List Stmt} {np lp1 lp2 ip cp np2 vp rp hp pos : Pos} {mb : M Fl}
/-- the suite -/
def tSuR (c w : PySem.Str) (mg : PySem.Str → Option Value) (i : Nat) (a : Addr) (cls : Value) (d : Option Addr) : TS := fun D σ H => (∃ C : Addr, mg c = some (.ref C) ∧ cls = .ref C ∧ d = none) ∧ σ[i]? = some (some (.ref a)) ∧ ∀ p, H p = none → D.rt (.ref p) (upd H p (.lst [.str w, .bl true]))
theorem suite_ret (T : ExcT X.K X.mg c) (hi : X.N[i]? = some n) (hv : Vis X.env.scope n) (hd : (n == ("__debug__" : PySem.Str)) = false) (hcd : (n == ("__classdict__" : PySem.Str)) = false) (hg : Gl X "isinstance") (hm : X.mg "isinstance" = none) (hg2 : Gl X "ValueError") (hm2 : X.mg "ValueError" = none)
    (a : Addr) (oe : Obj) (cls : Value) (d : Option Addr) (pn : List (Addr × Obj)) (hz : Zc cls d oe) (hf : ∃ vs, oe.data = .fields vs)
    (hl1 : starEach [.Constant (.str w) j lp1, .Call (.Name "isinstance" ip) [.Name n np2, .Name "ValueError" vp] [] cp] X.env = (false, eval (.Constant (.str w) j lp1) X.env) :: starEach [.Call (.Name "isinstance" ip) [.Name n np2, .Name "ValueError" vp] [] cp] X.env)
    (hl2 : starEach [.Call (.Name "isinstance" ip) [.Name n np2, .Name "ValueError" vp] [] cp] X.env = (false, eval (.Call (.Name "isinstance" ip) [.Name n np2, .Name "ValueError" vp] [] cp) X.env) :: starEach [] X.env)
    (hl3 : starEach [.Name n np2, .Name "ValueError" vp] X.env = (false, eval (.Name n np2) X.env) :: starEach [.Name "ValueError" vp] X.env) (hl4 : starEach [.Name "ValueError" vp] X.env = (false, eval (.Name "ValueError" vp) X.env) :: starEach [] X.env)
    (hpl : (backTo cp (starEach [.Name "ValueError" vp] X.env)).any (·.1) = false) :
    PSs (X.suite a ((a, oe) :: pn)) [.Return (some (.List [.Constant (.str w) j lp1, .Call (.Name "isinstance" ip) [.Name n np2, .Name "ValueError" vp] [] cp] lp2)) rp] (tSuR c w X.mg i a cls d) := by
  refine ⟨fun pins s σ H D I h => ?_⟩
  obtain ⟨⟨C, gC, rfl, rfl⟩, e1, q⟩ := h
  obtain ⟨C', g', _, xc, kt⟩ := T.ex
  rw [gC] at g'; cases g'
  have pI := pe_callB (X := X.suite a ((a, oe) :: pn)) (call_isE xc hz hf) hg hm PyProof.Rows.boot_isinstance (pos := cp) (p := ip) (pa_cons (pe_var (i := i) (pos := np2) hi hv hd hcd) (pa_cons (pe_bltn (v := .ty "ValueError") (pos := vp) hg2 hm2 boot_ValueError rfl) pa_nil hl4) hl3) (by decide) (by decide) hl3 hpl
  refine (pss_one (ps_ret (pe_lst (pa_cons pe_str (pa_cons pI pa_nil hl2) hl1)))).run pins s σ H D I ?_
  exact ⟨.ref a, e1, .ty "ValueError", .type "ValueError", true, rfl, fun u r => r, kt, show 2 ≤ sizeLine by decide, q⟩
theorem sv_tryR (hs : X.stack = X.env :: X.outer) (hfm : X.env.frame = some X.env.locals) (hN : X.N.Nodup) (hi : X.N[i]? = some n) (hln : X.env.kindOf n = some .local) (hgc : Gl X c) (hdc : (c == ("__debug__" : PySem.Str)) = false) (tk : Takes X W)
    (T : ExcT X.K X.mg c) (hv : Vis X.env.scope n) (hd : (n == ("__debug__" : PySem.Str)) = false) (hcd : (n == ("__classdict__" : PySem.Str)) = false) (hg : Gl X "isinstance") (hm : X.mg "isinstance" = none) (hg2 : Gl X "ValueError") (hm2 : X.mg "ValueError" = none)
    (hb : ∀ (W : WX) (pn : List (Addr × Obj)) (xe : Value → Shared → Prop), Takes (X.tr pn xe) W → PassesOwn (model X.prog X.w) X.A X.env xe → BV (X.tr pn xe) W body mb)
    (hl1 : starEach [.Constant (.str w) j lp1, .Call (.Name "isinstance" ip) [.Name n np2, .Name "ValueError" vp] [] cp] X.env = (false, eval (.Constant (.str w) j lp1) X.env) :: starEach [.Call (.Name "isinstance" ip) [.Name n np2, .Name "ValueError" vp] [] cp] X.env := by rfl)
    (hl2 : starEach [.Call (.Name "isinstance" ip) [.Name n np2, .Name "ValueError" vp] [] cp] X.env = (false, eval (.Call (.Name "isinstance" ip) [.Name n np2, .Name "ValueError" vp] [] cp) X.env) :: starEach [] X.env := by rfl)
    (hl3 : starEach [.Name n np2, .Name "ValueError" vp] X.env = (false, eval (.Name n np2) X.env) :: starEach [.Name "ValueError" vp] X.env := by rfl) (hl4 : starEach [.Name "ValueError" vp] X.env = (false, eval (.Name "ValueError" vp) X.env) :: starEach [] X.env := by rfl)
    (hpl : (backTo cp (starEach [.Name "ValueError" vp] X.env)).any (·.1) = false := by rfl) :
    SV X W (.Try body [.ExceptHandler (some (.Name c np)) (some n) [.Return (some (.List [.Constant (.str w) j lp1, .Call (.Name "isinstance" ip) [.Name n np2, .Name "ValueError" vp] [] cp] lp2)) rp] hp] [] [] pos) (mTryR i c w mb) := by
  obtain ⟨C0, gC, exm, xc, kt⟩ := id T.ex
  refine ⟨PS.imp (ps_try_as (tb := fun W => tS X.K X.mg W mb) (ts := tSuR c w X.mg i) (Wout := W) hs hfm hN hi hln ⟨hgc, hdc, .inl gC⟩ tk (fun W' pn xe t p => (hb W' pn xe t p).pss) fun a oe cls d pn hz hf => suite_ret T hi hv hd hcd hg hm hg2 hm2 a oe cls d pn hz hf hl1 hl2 hl3 hl4 hpl) fun E σV H ⟨C, σ, s, h⟩ => ⟨C, σ, s, ?_⟩⟩
  unfold FinS mTryR at h
  unfold FinS
  cases e : mb σ with
  | bad => rw [e] at h; exact h
  | ok f σ' => rw [e] at h; cases f <;> exact h
  | exc c' ps =>
    rw [e] at h
    simp only at h
    by_cases hcc : c' = c ∧ noOwn σ = true ∧ i < σ.length
    · rw [if_pos hcc] at h
      obtain ⟨rfl, no, hlen⟩ := hcc
      intro H' cl d kp x
      obtain ⟨a', g', rfl, _, rfl⟩ := x
      rw [gC] at g'; cases g'
      have km : Same H H' := fun b o e => kp b o e (noOwn_at no)
      refine ⟨true, exm, fun _ a ha => ⟨⟨C0, gC, rfl, rfl⟩, ?_, fun p hp => ?_⟩, fun z => nomatch z⟩
      · exact List.getElem?_set_self (by rw [← s.len]; exact hlen)
      · have s' := s.heap km
        have sm := s'.more (a := p) hp (same_upd (o := .lst [.str w, .bl true]) hp) (by rw [upd_same]; exact fun z => nomatch z)
        have na : ¬ C.A p := fun z => s'.al p z hp
        refine h σV (.ref p) _ ⟨p, rfl, na, sm, _, upd_same, .cons (.str w) (.cons (.bl true) .nil)⟩ fun b o e n => ⟨same_upd hp b o (km b o e), fun z => ?_⟩
        rcases z with z | z
        · exact n z
        · cases (show V.ref p = V.ref b from z)
          rw [km p o e] at hp; cases hp
    · rw [if_neg hcc] at h
      exact h.elim
end
end DL

set_option Elab.async false
set_option linter.all false
set_option maxRecDepth 100000
/-! DV: promises in short; one form of each rule, for printed derivations. -/
namespace DL
open PySem PySem.Spec PyProof.Rows L2

/-! ### promises -/
/-- the def x keeps its promise -/
structure Ok (P : Program) (w : World) (K : PySem.W.Frag) (mg : PySem.Str → Option Value) (base : Heap) (x : PySem.Str) (st : Stmt) (lvl : Nat) (ps : List PySem.Str) (io : Option Nat) (F : FD) : Prop where
  ex : ∃ (f : Addr) (fd : FuncData), FnOk P w K mg base (L2.CX P w) lvl f fd ps (spD K mg ps.length io F) ∧ mg x = some (.ref f) ∧ Fun K x x st f fd ∧ Binds K fd ps []
/-- a def as it stands behind the top -/
structure Df (K : PySem.W.Frag) (mg : PySem.Str → Option Value) (x : PySem.Str) (st : Stmt) (ps : List PySem.Str) : Prop where
  ex : ∃ (f : Addr) (fd : FuncData), mg x = some (.ref f) ∧ Fun K x x st f fd ∧ Binds K fd ps []
section
variable {P : Program} {w : World} {K : PySem.W.Frag} {mg : PySem.Str → Option Value} {base : Heap} {x : PySem.Str} {st : Stmt} {k lvl n : Nat} {ps N : List PySem.Str} {io : Option Nat} {F : FD} {mb : M Fl}
theorem ok_of (T : Df K mg x st ps) (S : FnScope N ps (defScope st)) (hn : N.length = n) (hN : ps.length ≤ N.length)
    (body : ∀ (f : Addr) (cdv : Value) (A : Around) (outer : List Env) (s : Shared) (H : Hp) (E : XK), Room k (A.deeper (envOfC x (defScope st) s.heap.objs.size f cdv)) → BV (cxD P w K mg base N x st f cdv A outer s H E) (wD E) (defBody st) mb) :
    Ok P w K mg base x st (k + 1) ps io (runF n io mb) := by
  subst hn
  obtain ⟨f, fd, gm, F, b⟩ := T.ex
  exact ⟨f, fd, fnP F S hN (body f), gm, F, b⟩
/-- nothing is promised -/
theorem ok_bad (T : Df K mg x st ps) : Ok P w K mg base x st lvl ps io (fun _ => .bad) := by
  obtain ⟨f, fd, gm, F, b⟩ := T.ex
  refine ⟨f, fd, ⟨fun vs H Q E h => h.1, fun A outer s H args us vs Q E hr e0 hb r h => ?_⟩, gm, F, b⟩
  obtain ⟨_, _, _, _, h⟩ := h
  exact h.elim
theorem Ok.up (O : Ok P w K mg base x st k ps io F) (h : k ≤ lvl) : Ok P w K mg base x st lvl ps io F := by
  obtain ⟨f, fd, G, gm, F, b⟩ := O.ex
  exact ⟨f, fd, G.mono h, gm, F, b⟩
end
section
variable {X : Cx} {W : WX} {k n lvl : Nat} {ps ks : List PySem.Str} {st : Stmt} {x : PySem.Str} {p pos kpos : Pos} {e : Expr} {es : List Expr} {kws : List Keyword} {m : M (List Rv)} {ma : M Rv} {io : Option Nat} {F : FD} {perm : List Nat}
theorem e_call (O : Ok X.prog X.w X.K X.mg X.base x st lvl ps io F) (hn : ps.length = n) (hr : Room k X.A) (hk : lvl ≤ k) (hg : Gl X x) (tk : Takes X W) (ha : AV X W (e :: es) m) (hdb : (x == ("__debug__" : PySem.Str)) = false) (he : starEach (e :: es) X.env = (false, eval e X.env) :: starEach es X.env) (hpl : (backTo pos (starEach es X.env)).any (·.1) = false) :
    EV X W (.Call (.Name x p) (e :: es) [] pos) (mCall n io F m) := by
  subst hn
  obtain ⟨f, fd, G, gm, Fn, b⟩ := O.ex
  exact ev_call G (hr.mono hk) hg gm Fn.kp b tk ha hdb he hpl
/-- how a def's names bind, whatever its data are -/
def KB' (st : Stmt) (x : PySem.Str) (ps ks : List PySem.Str) (perm : List Nat) : Prop := ∀ (kV doc pm : Value) (an : Option Addr) (cdv ct : Value) (ws us : List Value), ws.length = ks.length → pick perm ws = some us →
  bindArgs (PySem.W.fnOf x x (defArgs st) (defBody st) (defScope st) .none kV doc pm an cdv ct) ⟨[], ks.zip ws⟩ = pure (ps.zip us)
theorem e_callK {nk : Nat} (O : Ok X.prog X.w X.K X.mg X.base x st lvl ps io F) (hn : ps.length = n) (hnk : ks.length = nk) (hr : Room k X.A) (hk : lvl ≤ k) (hg : Gl X x) (tk : Takes X W) (hb : KB' st x ps ks perm) (ha : KV X W kws m) (hdb : (x == ("__debug__" : PySem.Str)) = false) (hall : (backToKw pos (keywordEach kws X.env)).all (·.1.isSome) = true) (hks : (backToKw pos (keywordEach kws X.env)).filterMap (·.1) = ks)
    (hpl : ((backTo pos (starEach [] X.env)).any (·.1) || (backToKw pos (keywordEach kws X.env)).any (·.1.isNone)) = false) :
    EV X W (.Call (.Name x p) [] kws pos) (mCallK n nk io F perm m) := by
  subst hn hnk
  obtain ⟨f, fd, G, gm, Fn, b⟩ := O.ex
  refine ev_callK G (hr.mono hk) hg gm Fn.kp ?_ rfl tk ha hdb hall hks hpl
  obtain ⟨oc, od, kV, doc, pm, an, cdv, ct, osl, rfl, lk, hcd⟩ := Fn.ex
  exact fun s ws us _ hl hp => .of_eq (hb kV doc pm an cdv ct ws us hl hp)
end

/-! ### f(e) with a new list as f's own parameter -/
section
variable {K : PySem.W.Frag} {mg : PySem.Str → Option Value} {W : WX} {C : Cn} {A2 : Addr → Prop} {H H' : Hp} {σV : L2.St} {σ : Sg}
theorem SR.but {a : Addr} (s : SR K (C.and a) H σV σ) (k : ∀ b o, H b = some o → b ≠ a → H' b = some o) (ha : ∀ b, A2 b → (C.A b ∧ b ≠ a) ∨ (H b = none ∧ H' b ≠ none)) : SR K ⟨A2, C.pin⟩ H' σV σ := by
  have q : Same (hid (Hd (C.and a).A σV σ) H) (hid (Hd A2 σV σ) H') := hid_mono fun b o e n => ⟨k b o e fun z => n (.inl (.inr z)), fun z => by
    rcases z with z | z
    · rcases ha b z with z | ⟨z, _⟩
      · exact n (.inl (.inl z.1))
      · rw [z] at e; cases e
    · exact n (.inr z)⟩
  refine ⟨s.len, fun b z => ?_, fun b z o => ?_, fun i d e => ?_, fun i b d e => ?_, s.inj⟩
  · rcases ha b z with z | ⟨_, z⟩
    · cases h : H b with
      | none => exact absurd h (s.al b (.inl z.1))
      | some o => rw [k b o h z.2]; exact fun z => nomatch z
    · exact z
  · rcases ha b z with z | ⟨z, _⟩
    · exact s.nA b (.inl z.1) o
    · exact s.owned o z
  · obtain ⟨v, h1, h2⟩ := s.sh i d e
    exact ⟨v, h1, h2.mono q⟩
  · obtain ⟨a', h1, h2, h3⟩ := s.ow i b d e
    refine ⟨a', h1, h2.mono q ?_, h3⟩
    have n : a' ≠ a := fun z => s.nA a (.inr rfl) ⟨i, b, d, e, z ▸ h1⟩
    cases h : H a' with
    | none => exact absurd h h2.there
    | some o => rw [k a' o h n]
/-- a value with what it owns, then the rest, told from the start -/
theorem fin_eB {β : Type} {Rel : RelS Rv β} {ma : M Rv} {f : Rv → M Rv} {Q : β → Hp → Prop} (h : FinG Rel mg W C σV H σ (ma >>= f) Q) :
    FinG (RelE K σV) mg W C σV H σ ma fun v H1 => ∃ σ1 r, PostR K C H1 σV σ1 r v ∧ Keep (Owns σV σ) H (fun c => Owns σV σ1 c ∨ exE r v c) H1 ∧ (∀ r2, f r σ1 = .ok r2 σ1 → ∀ b H', Rel.rel C H' σ1 r2 b → Keep (Owns σV σ) H (fun c => Owns σV σ1 c ∨ Rel.ex r2 b c) H' → Q b H') ∧ f r σ1 ≠ .bad := by
  unfold FinG at h ⊢
  rw [bind_eq] at h
  cases e : ma σ with
  | ok r σ1 =>
    rw [e] at h
    refine fun v H1 p k => ⟨σ1, r, p, k, fun r2 e2 => ?_, fun e2 => ?_⟩
    · simp only [e2] at h; exact h
    · simp only [e2] at h
  | exc c ps => rw [e] at h; exact h
  | bad => rw [e] at h; exact h
end
section
variable {X : Cx} {W : WX} {k lvl : Nat} {ps : List PySem.Str} {st : Stmt} {x : PySem.Str} {p pos : Pos} {e : Expr} {ma : M Rv} {F : FD}
theorem e_callFr (O : Ok X.prog X.w X.K X.mg X.base x st lvl ps (some 0) F) (h1 : ps.length = 1) (hr : Room k X.A) (hk : lvl ≤ k) (hg : Gl X x) (tk : Takes X W) (ha : EV X W e ma) (hdb : (x == ("__debug__" : PySem.Str)) = false) (he : starEach [e] X.env = (false, eval e X.env) :: starEach [] X.env) (hpl : (backTo pos (starEach [] X.env)).any (·.1) = false) :
    EV X W (.Call (.Name x p) [e] [] pos) (mCallFr F ma) := by
  obtain ⟨f, fd, G, gm, Fn, b⟩ := O.ex
  refine .of (pe_callS (E := fun σ => WE W σ) G (hr.mono hk) hg gm Fn.kp b (fun σ => passAt tk σ) (pa_cons ha.pe pa_nil he) hdb he hpl) fun σV H Q ⟨C, σ, s, h⟩ => ⟨C, σ, s, (fin_eB h).imp fun v H1 ⟨σ1, r, p, kp, q, nb⟩ => ?_⟩
  cases r with
  | v d => exact (nb rfl).elim
  | ln i => exact (nb rfl).elim
  | fr d =>
    obtain ⟨a, rfl, na, s1, ow⟩ := p
    refine ⟨h1.symm, Hd C.A σV σ1, [d], ⟨rfl, fun b z => z.elim (fun z => s1.al b (.inl z)) s1.owned, fun j d' v' e1 e2 hj => ?_, fun j d' hj e1 => ?_, fun j hj => ?_⟩, ?_⟩
    · cases j with
      | zero => exact (hj rfl).elim
      | succ j => simp at e1
    · cases hj
      cases e1
      refine ⟨a, rfl, fun z => z.elim na (s1.nA a (.inr rfl)), ow.mono (hid_mono fun b o e n => ⟨e, fun z => ?_⟩) rfl⟩
      rcases z with (z | z) | ⟨j, hj, z⟩
      · exact n (.inl (.inl z))
      · exact n (.inr z)
      · cases hj
        cases z
        exact n (.inl (.inr rfl))
    · cases hj; exact Nat.one_pos
    · have io : ∀ b, IO (some 0) [V.ref a] b ↔ b = a := fun b => ⟨fun ⟨j, hj, z⟩ => by cases hj; cases z; rfl, fun z => ⟨0, rfl, by rw [z]; rfl⟩⟩
      cases hF : F [d] with
      | bad => exact (nb (by simp only [hF])).elim
      | exc c ps => exact (nb (by simp only [hF])).elim
      | ok r fresh out =>
        have q2 := q (retRv r fresh) (by simp only [hF])
        intro v H' kk oo res
        have k0 : ∀ b o, H1 b = some o → b ≠ a → H' b = some o := fun b o e n => kk b o e fun z => n ((io b).mp z)
        have base : ∀ b o, H b = some o → ¬ Owns σV σ b → H' b = some o ∧ ¬ Owns σV σ1 b := fun b o e n => by
          obtain ⟨g1, g2⟩ := kp b o e n
          exact ⟨k0 b o g1 fun z => g2 (.inr (by rw [z]; exact rfl)), fun z => g2 (.inl z)⟩
        have hsub : Same (hid (IOh (Hd C.A σV σ1) (some 0) [V.ref a]) H') (hid (Hd C.A σV σ1) H') := hid_mono fun b o e n => ⟨e, fun z => n (.inl z)⟩
        cases fresh with
        | false => exact q2 v H' ⟨s1.but k0 fun b z => .inl ⟨z, fun e => na (e ▸ z)⟩, res.mono hsub⟩ fun b o e n => ⟨(base b o e n).1, fun z => z.elim (base b o e n).2 id⟩
        | true =>
          obtain ⟨t, rfl, ht, ro⟩ := res
          have nt : ∀ b, C.A b → b ≠ t := fun b z e => s1.al b (.inl z) (e ▸ ht)
          refine q2 _ H' ⟨t, rfl, fun z => nt t z rfl, s1.but k0 fun b z => z.elim (fun z => .inl ⟨z, fun e => na (e ▸ z)⟩) fun z => .inr ⟨z ▸ ht, z ▸ ro.there⟩, ro.mono (hid_mono fun b o e n => ⟨e, fun z => ?_⟩) rfl⟩ fun b o e n => ⟨(base b o e n).1, fun z => z.elim (base b o e n).2 fun z => ?_⟩
          · rcases z with (z | z) | z
            · exact n (.inl (.inl (.inl z)))
            · exact n (.inr z)
            · exact n (.inl (.inl (.inr z)))
          · cases (show V.ref t = V.ref b from z)
            obtain ⟨g1, _⟩ := kp t o e n
            rw [ht] at g1; cases g1
end
end DL

set_option Elab.async false
set_option linter.all false
set_option maxRecDepth 100000
/-! DW: one short rule a construct, for printed derivations. -/
namespace DL
open PySem PySem.Spec PyProof.Rows L2
abbrev mB (f : D → D → Option Rv) (ma mb : M Rv) : M Rv := do let x ← ma; let y ← mb; op2 f x y
abbrev mU (f : D → Option Rv) (ma : M Rv) : M Rv := do let x ← ma; op1 f x
abbrev mT2 (f : D → D → Option Bool) (ma mb : M Rv) : M Bool := do let x ← ma; let y ← mb; tst2 f x y
abbrev mTru (ma : M Rv) : M Bool := do let x ← ma; tst dTru x
abbrev mNotT (t : M Bool) : M Bool := do let k ← t; pure (!k)
abbrev mNotV (ma : M Rv) : M Rv := do let r ← ma; let k ← tst dTru r; pure (.v (.bl (!k)))
abbrev mOps (f : List D → Option Rv) (m : M (List Rv)) : M Rv := do let as ← m; ops f as
abbrev mNil : M (List Rv) := pure []
abbrev mCons (ma : M Rv) (m : M (List Rv)) : M (List Rv) := do let x ← ma; let xs ← m; pure (x :: xs)
abbrev mInt (i : Int) : M Rv := pure (.v (.int i))
abbrev mStr (x : PySem.Str) : M Rv := pure (.v (.str x))
abbrev mBl (b : Bool) : M Rv := pure (.v (.bl b))
abbrev mNon : M Rv := pure (.v .non)
abbrev mOpt (ma : M Rv) : M (Option Int) := do let x ← ma; part x
abbrev mNone : M (Option Int) := pure none
abbrev mRet (ma : M Rv) : M Fl := do let r ← ma; handed r
abbrev mRetN : M Fl := pure (.rt (.v .non))
abbrev mNx : M Fl := pure .nx
abbrev mBr : M Fl := pure .br
abbrev mCt : M Fl := pure .ct
abbrev mYes : M Bool := pure true
section
variable {P : Program} {w : World} {K : PySem.W.Frag} {mg : PySem.Str → Option Value} {base : Heap} {N : List PySem.Str} {x : PySem.Str} {st : Stmt} {f : Addr} {cdv : Value} {A : Around} {outer : List Env} {s : Shared} {H : Hp} {E : XK}
theorem tkD : Takes (cxD P w K mg base N x st f cdv A outer s H E) (wD E) := takes_of rfl rfl rfl rfl
theorem ppD : PassesOwn (model (cxD P w K mg base N x st f cdv A outer s H E).prog (cxD P w K mg base N x st f cdv A outer s H E).w) (cxD P w K mg base N x st f cdv A outer s H E).A (cxD P w K mg base N x st f cdv A outer s H E).env (cxD P w K mg base N x st f cdv A outer s H E).xe := passes_of rfl
end
theorem e_var {X : Cx} {W : WX} {i : Nat} {x : PySem.Str} {pos : Pos} (hN : X.N[i]? = some x) (hv : Vis X.env.scope x) (hd : (x == ("__debug__" : PySem.Str)) = false) (hcd : (x == ("__classdict__" : PySem.Str)) = false) : EV X W (.Name x pos) (mVar i) := ev_var (pe_var hN hv hd hcd)
theorem tkF {X : Cx} : Takes X WF := takes0
section
variable {X : Cx} {W : WX} {k : Nat} {x : PySem.Str} {p pos : Pos} {e : Expr} {es : List Expr} {m : M (List Rv)} {ma mb : M Rv} {i : Int}
theorem e_const (hg : Gl X x) (h : ∃ t, X.mg x = some (.int i t)) (hd : (x == ("__debug__" : PySem.Str)) = false) : EV X W (.Name x p) (mInt i) := by
  obtain ⟨t, h⟩ := h
  exact ev_glob hg h (v := .int i) ⟨t, rfl⟩ (fun _ => .int i) hd
variable (he : starEach (e :: es) X.env = (false, eval e X.env) :: starEach es X.env) (hpl : (backTo pos (starEach es X.env)).any (·.1) = false)
include he hpl
theorem e_len (hg : Gl X "len") (hm : X.mg "len" = none) (ha : AV X W (e :: es) m) : EV X W (.Call (.Name "len" p) (e :: es) [] pos) (mOps dLen m) := ev_bi call_len f_len hg hm PySem.boot_len ha (by decide) (by decide) he hpl
theorem e_abs (hg : Gl X "abs") (hm : X.mg "abs" = none) (ha : AV X W (e :: es) m) : EV X W (.Call (.Name "abs" p) (e :: es) [] pos) (mOps dAbs m) := ev_bi call_abs f_abs hg hm (by decide +kernel) ha (by decide) (by decide) he hpl
theorem e_int (hg : Gl X "int") (hm : X.mg "int" = none) (ha : AV X W (e :: es) m) : EV X W (.Call (.Name "int" p) (e :: es) [] pos) (mOps dInt m) := ev_ty call_int1 f_int hg hm PyProof.Rows.boot_int ha (by decide) (by decide) he hpl
theorem e_max2 (hc : X.calm = true) (hg : Gl X "max") (hm : X.mg "max" = none) (ha : AV X W (e :: es) m) : EV X W (.Call (.Name "max" p) (e :: es) [] pos) (mOps dMax2 m) := ev_bi (call_max2 hc) f_max2 hg hm PyProof.Rows.boot_max ha (by decide) (by decide) he hpl
theorem e_min2 (hc : X.calm = true) (hg : Gl X "min") (hm : X.mg "min" = none) (ha : AV X W (e :: es) m) : EV X W (.Call (.Name "min" p) (e :: es) [] pos) (mOps dMin2 m) := ev_bi (call_min2 hc) f_min2 hg hm PyProof.Rows.boot_min ha (by decide) (by decide) he hpl
theorem e_list (hg : Gl X "list") (hm : X.mg "list" = none) (ha : AV X W (e :: es) m) : EV X W (.Call (.Name "list" p) (e :: es) [] pos) (mOps dListOf m) := ev_ty call_list_of f_list hg hm PyProof.Rows.boot_list ha (by decide) (by decide) he hpl
theorem e_tuple (hg : Gl X "tuple") (hm : X.mg "tuple" = none) (ha : AV X W (e :: es) m) : EV X W (.Call (.Name "tuple" p) (e :: es) [] pos) (mOps dTupleOf m) := ev_ty call_tuple_of f_tuple hg hm PyProof.Rows.boot_tuple ha (by decide) (by decide) he hpl
theorem e_sum (hc : X.calm = true) (hg : Gl X "sum") (hm : X.mg "sum" = none) (ha : AV X W (e :: es) m) : EV X W (.Call (.Name "sum" p) (e :: es) [] pos) (mOps dSum m) := ev_bi (cr_sum hc) f_sum hg hm PyProof.Rows.boot_sum ha (by decide) (by decide) he hpl
theorem e_all (hc : X.calm = true) (hg : Gl X "all") (hm : X.mg "all" = none) (ha : AV X W (e :: es) m) : EV X W (.Call (.Name "all" p) (e :: es) [] pos) (mOps dAll m) := ev_bi (cr_all hc) f_all hg hm (by decide +kernel) ha (by decide) (by decide) he hpl
theorem e_any (hc : X.calm = true) (hg : Gl X "any") (hm : X.mg "any" = none) (ha : AV X W (e :: es) m) : EV X W (.Call (.Name "any" p) (e :: es) [] pos) (mOps dAny m) := ev_bi (cr_any hc) f_any hg hm (by decide +kernel) ha (by decide) (by decide) he hpl
theorem e_sorted (hr : Room k X.A) (hg : Gl X "sorted") (hm : X.mg "sorted" = none) (ha : AV X W (e :: es) m) : EV X W (.Call (.Name "sorted" p) (e :: es) [] pos) (mOps dSorted m) := ev_bi (cr_sortedD (by have := hr.un; omega)) f_sorted hg hm PyProof.Rows.boot_sorted ha (by decide) (by decide) he hpl
end
section
variable {X : Cx}
theorem ty_int (hg : Gl X "int") (hm : X.mg "int" = none) : TyN X "int" .int := ⟨hg, hm, PyProof.Rows.boot_int, by decide, by decide, by decide⟩
theorem ty_bool (hg : Gl X "bool") (hm : X.mg "bool" = none) : TyN X "bool" .bl := ⟨hg, hm, PyProof.Rows.boot_bool, by decide, by decide, by decide⟩
theorem ty_str (hg : Gl X "str") (hm : X.mg "str" = none) : TyN X "str" .str := ⟨hg, hm, PyProof.Rows.boot_str, by decide, by decide, by decide⟩
theorem ty_list (hg : Gl X "list") (hm : X.mg "list" = none) : TyN X "list" .lst := ⟨hg, hm, PyProof.Rows.boot_list, by decide, by decide, by decide⟩
theorem ty_tuple (hg : Gl X "tuple") (hm : X.mg "tuple" = none) : TyN X "tuple" .tup := ⟨hg, hm, PyProof.Rows.boot_tuple, by decide, by decide, by decide⟩
/-- isinstance(e, (T, U)) -/
theorem e_isi2 {W : WX} {e : Expr} {ma : M Rv} {x y : PySem.Str} {T U : Ty} {p tp up pp pos : Pos} {kk : Nat} (ha : EV X W e ma) (t : TyN X x T) (u : TyN X y U) (hg : Gl X "isinstance") (hm : X.mg "isinstance" = none)
    (hl : starEach [.Name x tp, .Name y up] X.env = (false, eval (.Name x tp) X.env) :: starEach [.Name y up] X.env) (hl2 : starEach [.Name y up] X.env = (false, eval (.Name y up) X.env) :: starEach [] X.env)
    (hs : starEach [e, .Tuple [.Name x tp, .Name y up] kk pp] X.env = (false, eval e X.env) :: starEach [.Tuple [.Name x tp, .Name y up] kk pp] X.env) (hs2 : starEach [.Tuple [.Name x tp, .Name y up] kk pp] X.env = (false, eval (.Tuple [.Name x tp, .Name y up] kk pp) X.env) :: starEach [] X.env)
    (hpl : (backTo pos (starEach [.Tuple [.Name x tp, .Name y up] kk pp] X.env)).any (·.1) = false) : EV X W (.Call (.Name "isinstance" p) [e, .Tuple [.Name x tp, .Name y up] kk pp] [] pos) (asV (mIsi [T, U] ma)) :=
  ev_isiT (Ts := [T, U]) ha (pa_cons t.pe (pa_cons u.pe pa_nil hl2) hl) (fun _ _ _ h => h) (by
    intro b hb
    simp only [List.mem_cons, List.not_mem_nil, or_false] at hb
    rcases hb with rfl | rfl
    · exact t.no
    · exact u.no) (show 2 ≤ 1000 by decide) hg hm hs hs2 hpl
end
end DL

set_option Elab.async false
set_option linter.all false
set_option maxRecDepth 100000
/-! DX: the law's end. -/
namespace DL
open PySem PySem.Spec PyProof.Rows L2
theorem kit_ve {K : PySem.W.Frag} {C : Addr} {b : Bool} (h : PySem.W.subIn K (.ref C) (.type "ValueError") = some b) : PySem.W.kitOne K (.ref C) (.type "ValueError") = some b := by
  unfold PySem.W.kitOne
  rw [if_neg (show ¬ ((Value.ref C == Value.type "ValueError") = true) from fun z => by cases (eq_of_beq z))]
  show (if PySem.W.kitMeta "ValueError" = true then PySem.W.subIn K (.ref C) (.type "ValueError") else none) = some b
  rw [if_pos (by decide +kernel)]
  exact h
/-- what a law promises -/
def spLaw (K : PySem.W.Frag) : Sp := fun vs H Q _ => ∃ (a : Addr) (ns : List Int), vs = [.ref a] ∧ SqL K H a (ns.map V.int) ∧ ns.length ≤ 63 ∧ ∀ H', Q (.bl true) H'
/-- the mirror of the law says True -/
def Plain (F : FD) : Prop := ∀ ns : List Int, ns.length ≤ 63 → ∃ out, F [.scr (ns.map D.int)] = .ok (.bl true) false out
theorem law_end {P : Program} {w : World} {K : PySem.W.Frag} {mg : PySem.Str → Option Value} {fa f : Addr} {fd : FuncData} {st : Stmt} {lvl : Nat} {F : FD} (plain : Plain F) (O : ∀ base : Heap, Ok P w K mg base "law" st lvl ["script"] none F)
    (e1 : mg "law" = some (.ref f)) (e2 : mg "law" = some (.ref fa)) (Fn : Fun K "law" "law" st f fd) (b : ∀ (s : Shared) (v : Value), BindsTo s fd ⟨[v], []⟩ [("script", v)]) :
    ∃ fd : FuncData, (∀ (s : Shared) (v : Value), BindsTo s fd ⟨[v], []⟩ [("script", v)]) ∧ ∀ base : Heap, K.In base → base.Ns mainGlobals mg → FnOk P w K mg base (L2.CX P w) lvl fa fd ["script"] (spLaw K) := by
  rw [e2] at e1
  cases e1
  refine ⟨fd, b, fun base _ _ => ?_⟩
  obtain ⟨f', fd', G, gm, F', b'⟩ := (O base).ex
  rw [e2] at gm; cases gm
  have : fd' = fd := by
    obtain ⟨oc, od, kV, doc, pm, an, cdv, ct, osl, q1, q2, q3⟩ := Fn.ex
    obtain ⟨oc', od', kV', doc', pm', an', cdv', ct', osl', r1, r2, r3⟩ := F'.ex
    rw [q2] at r2
    cases r2
    rfl
  subst this
  refine G.imp fun vs H Q E ⟨a, ns, ev, hs, hl, q⟩ => ?_
  subst ev
  obtain ⟨out, hF⟩ := plain ns hl
  refine ⟨rfl, fun _ => False, [.scr (ns.map D.int)], ⟨rfl, fun _ z => z.elim, fun j d v e1 e2 _ => ?_, fun j d hj _ => (by cases hj), fun j hj => (by cases hj)⟩, ?_⟩
  · cases j with
    | zero =>
      cases e1; cases e2
      have : Same H (hid (IOh (fun _ => False) none [V.ref a]) H) := fun b o e => hid_some.mpr ⟨fun z => z.elim id (fun ⟨_, z, _⟩ => nomatch z), e⟩
      exact .scr (this.seq hs) (ints_Rs ns)
    | succ j => simp at e1
  · rw [hF]
    intro v H' _ _ r
    cases (show R K _ (.bl true) v from r)
    exact q H'
end DL

set_option Elab.async false
set_option linter.all false
set_option maxRecDepth 100000
/-! DY: len(set(e)) of a list of ints, min of a tuple of ints. -/
namespace DL
open PySem PySem.Spec PyProof.Rows L2
/-! ### len of a set -/
def rSetLen (w : World) : List V → Hp → VK → Prop := fun vs H Q => ∃ (a : Addr) (S : Int → Bool) (n : Nat), vs = [.ref a] ∧ H a = some (SetO w a S n) ∧ ∀ ks : List Int, ks.Nodup → (∀ k, k ∈ ks ↔ S k = true) → Q (.int ks.length) H
theorem cr_lenSet {X : Cx} : CallR X (.builtin "len") (rSetLen X.w) := by
  intro pins s σ H vs us Q I r h
  obtain ⟨a, S, n, rfl, ha, q⟩ := h
  have R := setO_get I ha
  rw [Vals.ref1 r]
  obtain ⟨o, es, ep, t, ho, hex, hd, _, hnd, hS, hlt, hf, hn, _⟩ := R
  have hb : (es.size : Int) < 2 ^ 63 := by
    unfold scanBound at hlt
    omega
  have e : (es.toList.map keyOf).length = es.size := by rw [List.length_map, Array.length_toList]
  refine call_len_set ho hex hd hf hb ⟨.int (es.toList.map keyOf).length, H, I.tok _, ⟨_, by rw [e]⟩, q _ hnd fun k => (hS k).symm⟩
def dLenSet : D → Option Rv
  | .lst xs => match dInts xs with
    | some ns => if ns.length < 64 then some (.v (.int (usort ns).length)) else none
    | none => none
  | _ => none
theorem mem_len : ∀ {l m : List Int}, l.Nodup → (∀ x ∈ l, x ∈ m) → l.length ≤ m.length
  | [], _, _, _ => Nat.zero_le _
  | a :: l, m, hn, hs => by
    obtain ⟨h1, h2⟩ := List.nodup_cons.mp hn
    have ha := hs a List.mem_cons_self
    have := mem_len (l := l) (m := m.erase a) h2 fun x hx => (List.mem_erase_of_ne (show x ≠ a from fun e => h1 (e ▸ hx))).mpr (hs x (List.mem_cons_of_mem _ hx))
    rw [List.length_erase_of_mem ha] at this
    have : 0 < m.length := List.length_pos_of_mem ha
    simp only [List.length_cons]
    omega
section
variable {X : Cx} {W : WX} {e : Expr} {p p2 pos q : Pos} {ma : M Rv}
theorem ev_lenSet (hc : X.calm = true) (hg : Gl X "len") (hm : X.mg "len" = none) (hg2 : Gl X "set") (hm2 : X.mg "set" = none) (ha : EV X W e ma)
    (hs : starEach [e] X.env = (false, eval e X.env) :: starEach [] X.env := by rfl) (hs2 : starEach [.Call (.Name "set" p2) [e] [] q] X.env = (false, eval (.Call (.Name "set" p2) [e] [] q) X.env) :: starEach [] X.env := by rfl) :
    EV X W (.Call (.Name "len" p) [.Call (.Name "set" p2) [e] [] q] [] pos) (mU dLenSet ma) := by
  have ps : PE X (.Call (.Name "set" p2) [e] [] q) (tCB (rSetL X.K X.w) (tCons (tE X.K X.mg W ma) tNil)) := pe_callTy (cr_setL hc) hg2 hm2 PyProof.Rows.boot_set (pa_cons ha.pe pa_nil hs) (by decide) (by decide) hs rfl
  refine .of (pe_callB cr_lenSet hg hm PySem.boot_len (pa_cons ps pa_nil hs2) (by decide) (by decide) hs2 rfl) fun σV H Q ⟨C, σ, s, h⟩ => ⟨C, σ, s, (fin_e h).imp fun v H1 ⟨σ1, r, s1, v1, k1, h1⟩ => ?_⟩
  obtain ⟨d, rr, q1, e1, h2⟩ := fin_op1 h1 s1 v1
  unfold dLenSet at e1
  cases d <;> first | cases e1 | skip
  rename_i xs
  simp only at e1
  cases ei : dInts xs with
  | none => rw [ei] at e1; cases e1
  | some ns =>
    rw [ei] at e1
    simp only at e1
    split at e1
    · rename_i hl
      cases e1
      obtain ⟨a, vs, rfl, g1, g2⟩ := q1.lst hid_sub
      have ev := ints_R g2 ei
      subst ev
      refine ⟨a, ns, rfl, .inl (.inl g1), hl, fun b c hb hcl => ⟨b, _, c, rfl, upd_same, fun ks nd mem => ?_⟩⟩
      have m1 : ∀ k, k ∈ ks ↔ k ∈ usort ns := fun k => by rw [mem k, usort_mem]; exact decide_eq_true_iff
      have l1 := mem_len nd fun k hk => (m1 k).mp hk
      have l2 := mem_len ((usort_srt ns).imp fun {a b} h => Int.ne_of_lt h) fun k hk => (m1 k).mpr hk
      have em : ks.length = (usort ns).length := Nat.le_antisymm l1 l2
      rw [em]
      have kb := same_upd (o := SetO X.w b (fun j => decide (j ∈ ns)) c) hb
      exact fin_v (W := W) (mg := X.mg) (FinG.step (f := (pure (Rv.v (.int ((usort ns).length : Nat))) : M Rv)) rfl (keep_grow kb) h2) (s1.heap kb) (.int _)
    · cases e1
end
/-! ### min of a tuple of ints -/
section
variable {prog : Program} {w : World} {A : Around} {E : Value → Shared → Prop} {s : Shared} {Q : Value → Shared → Prop}
theorem min_rawT {l : Addr} {its : List Value} {ns : List Int} (hh : A.handled = none) (hl : s.heap.IsTuple l its.toArray) (hi : IntsAre its ns) (hne : 0 < ns.length)
    (h : ∀ h' tk M t', (∀ b o, s.heap.get? b = some o → h'.get? b = some o) → M ∈ ns → (∀ a, a ∈ ns → M ≤ a) → Q (.int M t') { s with heap := h', toks := tk }) : wpAny (model prog w) A (call (.builtin "min") [.ref l]) Q E s := by
  obtain ⟨xs, e⟩ := hi.allInts.items
  have hn : numsOf (intItems xs).toList = ns := by rw [← e]; exact hi.numsOf
  rw [nums_intItems] at hn
  subst hn
  rw [e] at hl
  have hsz : 0 < xs.size := by simpa using hne
  have hlt : l < s.heap.objs.size := by obtain ⟨_, e, _⟩ := hl; exact Heap.lt_size e
  have hl' : s.heap.IsTuple l (intItems xs) := by simpa using hl
  refine call_min_walk (wpAny_pyIter_tuple hl' ?_)
  refine ⟨_, [_, l], [_], _, _, _, _, rfl, Walks.tuple (A := A.in1) hh _ l (Nat.ne_of_lt hlt) (intItems xs), ⟨⟨_, Heap.get?_push_size _ rfl, rfl, rfl⟩, hl'.push _⟩, fun c hc => ?_, by simpa [intItems] using hsz, CmpOf.ints_lt (numAt xs) (fun _ _ => intItems_at), fun v h' tk hP hk => ?_⟩
  · show c < (s.heap.push _).objs.size
    rw [Heap.size_push]
    rcases List.mem_cons.mp hc with rfl | hc
    · exact Nat.lt_succ_self _
    · rcases List.mem_cons.mp hc with rfl | hc
      · exact Nat.lt_succ_of_lt hlt
      · cases hc
  · have hold : ∀ c o, s.heap.get? c = some o → h'.get? c = some o := fun c o e => by
      refine hk c o (fun hm => ?_) (Heap.get?_push_of_some _ e)
      rcases List.mem_cons.mp hm with e1 | hm
      · have := Heap.lt_size e; rw [e1] at this; exact Nat.lt_irrefl _ this
      · cases hm
    have hP' : (intItems xs)[argBest (fun i j => decide (numAt xs i < numAt xs j)) (xs.size - 1)]? = some v := by simpa [intItems] using hP
    obtain ⟨t, rfl⟩ := intItems_at hP'
    obtain ⟨h1, h2⟩ := argBest_lt (numAt xs) (xs.size - 1)
    refine h h' tk _ t hold ?_ fun a ha => ?_
    · rw [numAt_eq]; exact PySem.getD_mem (by rw [List.length_map, Array.length_toList]; omega)
    · obtain ⟨j, hj, rfl⟩ := mem_getD ha
      rw [List.length_map, Array.length_toList] at hj
      rw [← numAt_eq]; exact h2 j (by omega)
end
def rMinT (K : PySem.W.Frag) : List V → Hp → VK → Prop := fun vs H Q => ∃ (a : Addr) (ns : List Int), vs = [V.ref a] ∧ SqT K H a (ns.map V.int) ∧ 0 < ns.length ∧ ∀ m, m ∈ ns → (∀ y, y ∈ ns → m ≤ y) → Q (.int m) H
theorem cr_minT {X : Cx} (hc : X.calm = true) : CallR X (.builtin "min") (rMinT X.K) := by
  intro pins s σ H vs us Q I r h
  obtain ⟨a, ns, rfl, hs, hne, q⟩ := h
  obtain ⟨its, rv, hl, _⟩ := I.tuple hs
  rw [Vals.ref1 r]
  exact min_rawT (I.ok.hd hc) hl rv.ints hne fun h' tk m t' hk h1 h2 => ⟨.int _, H, I.kept hk, ⟨_, rfl⟩, q m h1 h2⟩
/-- the least of ints -/
def least : List Int → Option Int
  | [] => none
  | x :: r => match least r with
    | none => some x
    | some m => some (if x ≤ m then x else m)
theorem least_uniq : ∀ {l : List Int} {m : Int}, m ∈ l → (∀ y ∈ l, m ≤ y) → least l = some m
  | x :: r, m, hm, h => by
    unfold least
    cases e : least r with
    | none =>
      cases r with
      | nil => simp at hm; subst hm; rfl
      | cons y r => unfold least at e; split at e <;> cases e
    | some k =>
      have hk : k ∈ r ∧ ∀ y ∈ r, k ≤ y := by
        clear hm h
        induction r generalizing k with
        | nil => cases e
        | cons y r ih =>
          unfold least at e
          cases e2 : least r with
          | none =>
            rw [e2] at e
            cases e
            cases r with
            | nil => exact ⟨List.mem_cons_self, fun z hz => by simp at hz; subst hz; exact Int.le_refl _⟩
            | cons z r => unfold least at e2; split at e2 <;> cases e2
          | some j =>
            rw [e2] at e
            obtain ⟨h1, h2⟩ := ih j e2
            by_cases q : y ≤ j
            · have e' : some y = some k := by rw [← e]; simp [q]
              cases e'
              refine ⟨List.mem_cons_self, fun z hz => ?_⟩
              rcases List.mem_cons.mp hz with rfl | hz
              · exact Int.le_refl _
              · have := h2 z hz; omega
            · have e' : some j = some k := by rw [← e]; simp [q]
              cases e'
              refine ⟨List.mem_cons_of_mem _ h1, fun z hz => ?_⟩
              rcases List.mem_cons.mp hz with rfl | hz
              · omega
              · exact h2 z hz
      simp only
      rcases List.mem_cons.mp hm with rfl | hm
      · rw [if_pos (h k (List.mem_cons_of_mem _ hk.1))]
      · have a := hk.2 m hm
        have b := h k (List.mem_cons_of_mem _ hk.1)
        have c := h x List.mem_cons_self
        by_cases q : x ≤ k
        · rw [if_pos q]; congr 1; omega
        · rw [if_neg q]; congr 1; omega
def dMin1 : List D → Option Rv
  | [.tup xs] => match dInts xs with
    | some ns => (least ns).map fun m => .v (.int m)
    | none => none
  | _ => none
theorem f_minT {X : Cx} : FunR X (rMinT X.K) dMin1 := by
  intro mg W C σV H σ xs ds rr Q s r e q
  unfold dMin1 at e
  split at e
  · rename_i l
    cases e1 : dInts l with
    | none => rw [e1] at e; cases e
    | some ns =>
      rw [e1] at e
      simp only at e
      cases e2 : least ns with
      | none => rw [e2] at e; cases e
      | some m =>
        rw [e2] at e; cases e
        obtain ⟨x, rfl, rx⟩ := r.one
        obtain ⟨p, vs, rfl, h5, r5⟩ := rx.tup hid_sub
        have ev := ints_R r5 e1
        subst ev
        refine ⟨p, ns, rfl, h5, ?_, fun k hk hle => ?_⟩
        · cases ns with
          | nil => cases e2
          | cons a l => simp
        · have := least_uniq hk hle
          rw [e2] at this
          cases this
          exact fin_v q s (.int _)
  · cases e
section
variable {X : Cx} {W : WX} {e : Expr} {es : List Expr} {p pos : Pos} {m : M (List Rv)}
theorem e_minT (he : starEach (e :: es) X.env = (false, eval e X.env) :: starEach es X.env) (hpl : (backTo pos (starEach es X.env)).any (·.1) = false) (hc : X.calm = true) (hg : Gl X "min") (hm : X.mg "min" = none) (ha : AV X W (e :: es) m) : EV X W (.Call (.Name "min" p) (e :: es) [] pos) (mOps dMin1 m) := ev_bi (cr_minT hc) f_minT hg hm PyProof.Rows.boot_min ha (by decide) (by decide) he hpl
end
end DL

set_option Elab.async false
set_option linter.all false
set_option maxRecDepth 100000
/-! PL: plain reasoning about mirrors: loops, comprehensions. -/
namespace DL
theorem ok_bind {α β : Type} {m : M α} {f : α → M β} {σ σ' : Sg} {a : α} (h : m σ = .ok a σ') : (m >>= f) σ = f a σ' := by rw [bind_eq, h]
theorem put_wipe (σ : Sg) : ∀ vs : List Nat, putS (wipeS σ vs) σ vs = σ := fun vs => by
  refine List.ext_getElem? fun j => ?_
  have len1 : (putS (wipeS σ vs) σ vs).length = σ.length := by rw [putS_length, wipeS_length]
  by_cases hj : j < σ.length
  · have key : ∀ (ws : List Nat), (∀ i ∈ ws, i ∈ vs) → (j ∈ ws → (putS (wipeS σ vs) σ ws)[j]? = σ[j]?) ∧ (j ∉ ws → (putS (wipeS σ vs) σ ws)[j]? = (wipeS σ vs)[j]?) := by
      intro ws
      induction ws with
      | nil => intro _; exact ⟨fun h => (by cases h), fun _ => rfl⟩
      | cons w ws ih =>
        intro hw
        obtain ⟨i1, i2⟩ := ih fun i hi => hw i (List.mem_cons_of_mem _ hi)
        have hl : (putS (wipeS σ vs) σ ws).length = σ.length := by rw [putS_length, wipeS_length]
        unfold putS
        by_cases e : w = j
        · subst e
          refine ⟨fun _ => ?_, fun h => absurd List.mem_cons_self h⟩
          rw [List.getElem?_set_self (by rw [hl]; exact hj), List.getD_eq_getElem?_getD, List.getElem?_eq_getElem hj]
          rfl
        · rw [List.getElem?_set_ne e]
          refine ⟨fun h => i1 ?_, fun h => i2 fun z => h (List.mem_cons_of_mem _ z)⟩
          rcases List.mem_cons.mp h with z | z
          · exact absurd z.symm e
          · exact z
    obtain ⟨k1, k2⟩ := key vs fun _ h => h
    by_cases hm : j ∈ vs
    · exact k1 hm
    · rw [k2 hm, wipeS_out hm]
  · rw [List.getElem?_eq_none (by omega), List.getElem?_eq_none (by omega)]
theorem flatMap_one {α β : Type} (f : α → β) : ∀ l : List α, (l.flatMap fun d => [f d]) = l.map f
  | [] => rfl
  | a :: l => by rw [List.flatMap_cons, flatMap_one f l]; rfl
theorem flatMap_filter {α β : Type} (p : α → Bool) (f : α → β) : ∀ l : List α, (l.flatMap fun d => if p d then [f d] else []) = (l.filter p).map f
  | [] => rfl
  | a :: l => by
    rw [List.flatMap_cons, flatMap_filter p f l, List.filter_cons]
    cases p a <;> rfl
/-- a comprehension that leaves the slots as they are -/
theorem lcL_pure {f : D → M (List D)} {h : D → List D} {σ : Sg} : ∀ {ds : List D}, (∀ d ∈ ds, f d σ = .ok (h d) σ) → lcL f ds σ = .ok (ds.flatMap h) σ
  | [], _ => rfl
  | d :: r, hf => by
    unfold lcL
    rw [ok_bind (hf d List.mem_cons_self), ok_bind (lcL_pure fun x hx => hf x (List.mem_cons_of_mem _ hx))]
    rfl
theorem lc_pure {vs : List Nat} {mi : M (List D)} {f : D → M (List D)} {h : D → List D} {σ σ1 : Sg} {ds : List D} (hi : mi σ = .ok ds σ1) (hn : noOw σ1 vs = true) (hf : ∀ d ∈ ds, f d (wipeS σ1 vs) = .ok (h d) (wipeS σ1 vs)) (hl : (ds.flatMap h).length ≤ lim) :
    mLc vs mi f σ = .ok (.fr (.lst (ds.flatMap h))) σ1 := by
  unfold mLc
  rw [ok_bind hi]
  unfold lcK
  rw [if_pos hn]
  unfold noX
  rw [ok_bind (lcL_pure hf)]
  unfold lcEnd
  rw [if_pos hl, put_wipe]
theorem lcL_map {α : Type} {g : α → D} {f : D → M (List D)} {h : α → List D} {σ : Sg} : ∀ {xs : List α}, (∀ x ∈ xs, f (g x) σ = .ok (h x) σ) → lcL f (xs.map g) σ = .ok (xs.flatMap h) σ
  | [], _ => rfl
  | d :: r, hf => by
    show lcL f (g d :: r.map g) σ = _
    unfold lcL
    rw [ok_bind (hf d List.mem_cons_self), ok_bind (lcL_map fun x hx => hf x (List.mem_cons_of_mem _ hx))]
    rfl
/-- .. over a list told by another -/
theorem lc_map {α : Type} {g : α → D} {vs : List Nat} {mi : M (List D)} {f : D → M (List D)} {h : α → List D} {σ σ1 : Sg} {xs : List α} (hi : mi σ = .ok (xs.map g) σ1) (hn : noOw σ1 vs = true) (hf : ∀ x ∈ xs, f (g x) (wipeS σ1 vs) = .ok (h x) (wipeS σ1 vs)) (hl : (xs.flatMap h).length ≤ lim) :
    mLc vs mi f σ = .ok (.fr (.lst (xs.flatMap h))) σ1 := by
  unfold mLc
  rw [ok_bind hi]
  unfold lcK
  rw [if_pos hn]
  unfold noX
  rw [ok_bind (lcL_map hf)]
  unfold lcEnd
  rw [if_pos hl, put_wipe]
/-- .. one answer an item -/
theorem lc_each {α : Type} {g v : α → D} {vs : List Nat} {mi : M (List D)} {f : D → M (List D)} {σ σ1 : Sg} {xs : List α} (hi : mi σ = .ok (xs.map g) σ1) (hn : noOw σ1 vs = true) (hf : ∀ x ∈ xs, f (g x) (wipeS σ1 vs) = .ok [v x] (wipeS σ1 vs)) (hl : xs.length ≤ lim) :
    mLc vs mi f σ = .ok (.fr (.lst (xs.map v))) σ1 := by
  have := lc_map (h := fun x => [v x]) hi hn hf (by rw [flatMap_one, List.length_map]; exact hl)
  rwa [flatMap_one] at this
/-- .. an answer for each item of a kind -/
theorem lc_filt {α : Type} {g v : α → D} {p : α → Bool} {vs : List Nat} {mi : M (List D)} {f : D → M (List D)} {σ σ1 : Sg} {xs : List α} (hi : mi σ = .ok (xs.map g) σ1) (hn : noOw σ1 vs = true) (hf : ∀ x ∈ xs, f (g x) (wipeS σ1 vs) = .ok (if p x then [v x] else []) (wipeS σ1 vs)) (hl : xs.length ≤ lim) :
    mLc vs mi f σ = .ok (.fr (.lst ((xs.filter p).map v))) σ1 := by
  have := lc_map (h := fun x => if p x then [v x] else []) hi hn hf (by
    rw [flatMap_filter, List.length_map]
    exact Nat.le_trans (List.length_filter_le ..) hl)
  rwa [flatMap_filter] at this
inductive All2 {α β : Type} (P : α → β → Prop) : List α → List β → Prop
  | nil : All2 P [] []
  | cons {a : α} {b : β} {as : List α} {bs : List β} : P a b → All2 P as bs → All2 P (a :: as) (b :: bs)
/-- .. with the slots going from state to state: S x the slots, a the turn's answer, b the next x -/
theorem lcL_run {α : Type} {f : D → M (List D)} {S : α → Sg} {I : α → Prop} {Pd : D → List D → Prop} : ∀ {ds : List D} {x : α}, I x → (∀ d ∈ ds, ∀ x, I x → ∃ ys x', f d (S x) = .ok ys (S x') ∧ I x' ∧ Pd d ys) →
    ∃ (yss : List (List D)) (x' : α), lcL f ds (S x) = .ok yss.flatten (S x') ∧ I x' ∧ All2 Pd ds yss
  | [], x, hx, _ => ⟨[], x, rfl, hx, .nil⟩
  | d :: r, x, hx, hf => by
    obtain ⟨ys, x1, e1, h1, p1⟩ := hf d List.mem_cons_self x hx
    obtain ⟨yss, x2, e2, h2, p2⟩ := lcL_run h1 fun e he => hf e (List.mem_cons_of_mem _ he)
    refine ⟨ys :: yss, x2, ?_, h2, .cons p1 p2⟩
    unfold lcL
    rw [ok_bind e1, ok_bind e2]
    rfl
/-- a for loop that goes on to its end: S x the slots, step what a turn does -/
theorem forL_fold {α : Type} {f : D → M Fl} {S : α → Sg} {step : α → D → α} : ∀ {ds : List D} {x : α}, (∀ d ∈ ds, ∀ x, f d (S x) = .ok .nx (S (step x d)) ∨ f d (S x) = .ok .ct (S (step x d))) → forL f ds (S x) = .ok .nx (S (ds.foldl step x))
  | [], _, _ => rfl
  | d :: r, x, hf => by
    have ih := forL_fold (ds := r) (x := step x d) fun e he => hf e (List.mem_cons_of_mem _ he)
    unfold forL
    rcases hf d List.mem_cons_self x with e | e
    · rw [ok_bind e]; exact ih
    · rw [ok_bind e]; exact ih
/-- .. under an invariant -/
theorem forL_inv {α : Type} {f : D → M Fl} {S : α → Sg} {I : List D → α → Prop} : ∀ {ds done : List D} {x : α}, I done x → (∀ done d r x, done ++ d :: r = done ++ d :: r → d ∈ ds → I done x → ∃ x', (f d (S x) = .ok .nx (S x') ∨ f d (S x) = .ok .ct (S x')) ∧ I (done ++ [d]) x') →
    ∃ x', forL f ds (S x) = .ok .nx (S x') ∧ I (done ++ ds) x'
  | [], done, x, hx, _ => ⟨x, rfl, by rw [List.append_nil]; exact hx⟩
  | d :: r, done, x, hx, hf => by
    obtain ⟨x1, e1, h1⟩ := hf done d r x rfl List.mem_cons_self hx
    obtain ⟨x2, e2, h2⟩ := forL_inv (ds := r) h1 fun dn e rr y z he hy => hf dn e rr y z (List.mem_cons_of_mem _ he) hy
    refine ⟨x2, ?_, by rw [List.append_assoc] at h2; exact h2⟩
    unfold forL
    rcases e1 with e | e
    · rw [ok_bind e]; exact e2
    · rw [ok_bind e]; exact e2
end DL

set_option Elab.async false
set_option linter.all false
set_option maxRecDepth 100000
set_option maxHeartbeats 4000000
/-! printed by gen.py: the mirrors of the defs and that they keep them. -/
namespace K01
open PySem PySem.Spec PyProof.Rows L2 DL

def topS (i : Nat) : Stmt := PySem.Challenge.pw_roadalgebras_k01_whole_rounds.main.body.getD i (.Pass ⟨0, 0, 0, 0⟩)
abbrev s_is_number : Stmt := topS 4
abbrev s_is_within : Stmt := topS 5
abbrev s_sure_within : Stmt := topS 6
abbrev s_is_long : Stmt := topS 7
abbrev s_tupled : Stmt := topS 8
abbrev s_is_web : Stmt := topS 12
abbrev s_sure_web : Stmt := topS 13
abbrev s_sure_place : Stmt := topS 14
abbrev s_out_of : Stmt := topS 15
abbrev s_are_roads : Stmt := topS 16
abbrev s_reached_in : Stmt := topS 17
abbrev s_is_round_in : Stmt := topS 20
abbrev s_rounds_in : Stmt := topS 21
abbrev s_is_round : Stmt := topS 22
abbrev s_rounds : Stmt := topS 23
abbrev s_exits_in : Stmt := topS 24
abbrev s_exits : Stmt := topS 25
abbrev s_lone_in : Stmt := topS 26
abbrev s_lone_rounds : Stmt := topS 27
abbrev s_on_round : Stmt := topS 28
abbrev s_leads_to_round : Stmt := topS 29
abbrev s_has_rounds_in : Stmt := topS 30
abbrev s_has_rounds : Stmt := topS 31
abbrev s__law_box : Stmt := topS 33
abbrev s__law_take : Stmt := topS 34
abbrev s__law_cells : Stmt := topS 35
abbrev s__law_of : Stmt := topS 36
abbrev s__law_mixed : Stmt := topS 37
abbrev s__law_same : Stmt := topS 38
abbrev s__law_web : Stmt := topS 39
abbrev s__law_some_web : Stmt := topS 40
abbrev s__law_outs : Stmt := topS 41
abbrev s__law_lead : Stmt := topS 42
abbrev s__law_walk : Stmt := topS 43
abbrev s__law_walks : Stmt := topS 44
abbrev s__law_reached : Stmt := topS 45
abbrev s__law_has_rounds : Stmt := topS 46
abbrev s__law_is_round : Stmt := topS 47
abbrev s__law_right : Stmt := topS 48
abbrev s_law : Stmt := topS 49
/-- what the top has written -/
structure Wd (K : PySem.W.Frag) (mg : PySem.Str → Option Value) : Prop where
  n_abs : mg "abs" = none
  n_all : mg "all" = none
  n_any : mg "any" = none
  n_bool : mg "bool" = none
  n_enumerate : mg "enumerate" = none
  n_int : mg "int" = none
  n_isinstance : mg "isinstance" = none
  n_len : mg "len" = none
  n_list : mg "list" = none
  n_min : mg "min" = none
  n_range : mg "range" = none
  n_set : mg "set" = none
  n_sorted : mg "sorted" = none
  n_str : mg "str" = none
  n_tuple : mg "tuple" = none
  n_zip : mg "zip" = none
  c_MOST_PLACES : ∃ t, mg "MOST_PLACES" = some (.int 8 t)
  c_MOST_ROADS : ∃ t, mg "MOST_ROADS" = some (.int 16 t)
  c_MOST_ROUNDS : ∃ t, mg "MOST_ROUNDS" = some (.int 500 t)
  x_TooMany : ExcN K mg "TooMany"
  x_Unfit : ExcN K mg "Unfit"
  d_is_number : Df K mg "is_number" s_is_number ["thing"]
  d_is_within : Df K mg "is_within" s_is_within ["thing", "least", "most"]
  d_sure_within : Df K mg "sure_within" s_sure_within ["value", "least", "most"]
  d_is_long : Df K mg "is_long" s_is_long ["thing", "many"]
  d_tupled : Df K mg "tupled" s_tupled ["value"]
  d_is_web : Df K mg "is_web" s_is_web ["thing"]
  d_sure_web : Df K mg "sure_web" s_sure_web ["value"]
  d_sure_place : Df K mg "sure_place" s_sure_place ["web", "value"]
  d_out_of : Df K mg "out_of" s_out_of ["web", "place"]
  d_are_roads : Df K mg "are_roads" s_are_roads ["web", "thing"]
  d_reached_in : Df K mg "reached_in" s_reached_in ["web", "place"]
  d_is_round_in : Df K mg "is_round_in" s_is_round_in ["web", "thing"]
  d_rounds_in : Df K mg "rounds_in" s_rounds_in ["web"]
  d_is_round : Df K mg "is_round" s_is_round ["web", "thing"]
  d_rounds : Df K mg "rounds" s_rounds ["web"]
  d_exits_in : Df K mg "exits_in" s_exits_in ["web", "own"]
  d_exits : Df K mg "exits" s_exits ["web", "roads"]
  d_lone_in : Df K mg "lone_in" s_lone_in ["web"]
  d_lone_rounds : Df K mg "lone_rounds" s_lone_rounds ["web"]
  d_on_round : Df K mg "on_round" s_on_round ["web", "place"]
  d_leads_to_round : Df K mg "leads_to_round" s_leads_to_round ["web", "place"]
  d_has_rounds_in : Df K mg "has_rounds_in" s_has_rounds_in ["web"]
  d_has_rounds : Df K mg "has_rounds" s_has_rounds ["web"]
  d__law_box : Df K mg "_law_box" s__law_box ["script", "k"]
  d__law_take : Df K mg "_law_take" s__law_take ["tin", "below_so"]
  d__law_cells : Df K mg "_law_cells" s__law_cells ["script", "most_so"]
  d__law_of : Df K mg "_law_of" s__law_of ["tin", "goods_so"]
  d__law_mixed : Df K mg "_law_mixed" s__law_mixed ["tin", "matter"]
  d__law_same : Df K mg "_law_same" s__law_same ["got", "due"]
  d__law_web : Df K mg "_law_web" s__law_web ["tin", "places_so", "roads_so"]
  d__law_some_web : Df K mg "_law_some_web" s__law_some_web ["tin"]
  d__law_outs : Df K mg "_law_outs" s__law_outs ["web_so", "place_so"]
  d__law_lead : Df K mg "_law_lead" s__law_lead ["web_so", "place_so", "roads_so"]
  d__law_walk : Df K mg "_law_walk" s__law_walk ["tin", "web_so", "place_so", "most_so"]
  d__law_walks : Df K mg "_law_walks" s__law_walks ["web_so", "place_so", "long_so"]
  d__law_reached : Df K mg "_law_reached" s__law_reached ["web_so", "place_so"]
  d__law_has_rounds : Df K mg "_law_has_rounds" s__law_has_rounds ["web_so"]
  d__law_is_round : Df K mg "_law_is_round" s__law_is_round ["web_so", "roads_so"]
  d__law_right : Df K mg "_law_right" s__law_right ["tin"]
  d_law : Df K mg "law" s_law ["script"]
section
variable {P : Program} {w : World} {K : PySem.W.Frag} {mg : PySem.Str → Option Value} {base : Heap}
abbrev N_is_number : List PySem.Str := ["thing"]
theorem sc_is_number : FnScope N_is_number ["thing"] (defScope s_is_number) := ⟨rfl, rfl, rfl, by decide +kernel, rfl, by decide +kernel, by decide +kernel⟩
def m_is_number : M Fl := mRet (mAndV (asV (mIsi [.int] (mVar 0))) (mNotV (asV (mIsi [.bl] (mVar 0)))))
def F_is_number : FD := runF 1 none m_is_number
theorem ok_is_number (T : Wd K mg) : Ok P w K mg base "is_number" s_is_number 2 ["thing"] none F_is_number := by
  refine ok_of (k := 1) (mb := m_is_number) T.d_is_number sc_is_number rfl (by decide) fun f cdv A outer s H E hr => ?_
  exact bv_one (sv_ret (ev_and (ev_isi (e_var (by rfl) (by first | exact Or.inl rfl | exact Or.inr (Or.inl rfl) | exact Or.inr (Or.inr rfl)) (by decide) (by decide)) (ty_int (by rfl) T.n_int) (by rfl) T.n_isinstance (by rfl) (by rfl) (by rfl)) (ev_and1 (ev_not (ev_isi (e_var (by rfl) (by first | exact Or.inl rfl | exact Or.inr (Or.inl rfl) | exact Or.inr (Or.inr rfl)) (by decide) (by decide)) (ty_bool (by rfl) T.n_bool) (by rfl) T.n_isinstance (by rfl) (by rfl) (by rfl))))))
abbrev N_is_within : List PySem.Str := ["thing", "least", "most"]
theorem sc_is_within : FnScope N_is_within ["thing", "least", "most"] (defScope s_is_within) := ⟨rfl, rfl, rfl, by decide +kernel, rfl, by decide +kernel, by decide +kernel⟩
def m_is_within : M Fl := mRet (mAndV (mCall 1 none F_is_number (mCons (mVar 0) (mNil))) (asV (mChain dLe dLe (mVar 1) (mVar 0) (mVar 2))))
def F_is_within : FD := runF 3 none m_is_within
theorem ok_is_within (T : Wd K mg) : Ok P w K mg base "is_within" s_is_within 3 ["thing", "least", "most"] none F_is_within := by
  have o_is_number := ok_is_number (P := P) (w := w) (base := base) T
  refine ok_of (k := 2) (mb := m_is_within) T.d_is_within sc_is_within rfl (by decide) fun f cdv A outer s H E hr => ?_
  exact bv_one (sv_ret (ev_and (e_call o_is_number (by rfl) hr (by decide) (by rfl) tkD (av_cons (e_var (by rfl) (by first | exact Or.inl rfl | exact Or.inr (Or.inl rfl) | exact Or.inr (Or.inr rfl)) (by decide) (by decide)) (av_nil) (by rfl)) (by decide) (by rfl) (by rfl)) (ev_and1 (ev_chain c_le c_le (e_var (by rfl) (by first | exact Or.inl rfl | exact Or.inr (Or.inl rfl) | exact Or.inr (Or.inr rfl)) (by decide) (by decide)) (e_var (by rfl) (by first | exact Or.inl rfl | exact Or.inr (Or.inl rfl) | exact Or.inr (Or.inr rfl)) (by decide) (by decide)) (e_var (by rfl) (by first | exact Or.inl rfl | exact Or.inr (Or.inl rfl) | exact Or.inr (Or.inr rfl)) (by decide) (by decide)) (by with_unfolding_all rfl)))))
abbrev N_sure_within : List PySem.Str := ["value", "least", "most"]
theorem sc_sure_within : FnScope N_sure_within ["value", "least", "most"] (defScope s_sure_within) := ⟨rfl, rfl, rfl, by decide +kernel, rfl, by decide +kernel, by decide +kernel⟩
def m_sure_within : M Fl := mSeq (mIf (mNotT (mTru (mCall 3 none F_is_within (mCons (mVar 0) (mCons (mVar 1) (mCons (mVar 2) (mNil))))))) (mRaise "Unfit") (mNx)) (mRet (mVar 0))
def F_sure_within : FD := runF 3 none m_sure_within
theorem ok_sure_within (T : Wd K mg) : Ok P w K mg base "sure_within" s_sure_within 4 ["value", "least", "most"] none F_sure_within := by
  have o_is_within := ok_is_within (P := P) (w := w) (base := base) T
  refine ok_of (k := 3) (mb := m_sure_within) T.d_sure_within sc_sure_within rfl (by decide) fun f cdv A outer s H E hr => ?_
  exact bv_cons (wi_D _) (sv_if (wi_D _) (tv_not (tv_tru (e_call o_is_within (by rfl) hr (by decide) (by rfl) tkD (av_cons (e_var (by rfl) (by first | exact Or.inl rfl | exact Or.inr (Or.inl rfl) | exact Or.inr (Or.inr rfl)) (by decide) (by decide)) (av_cons (e_var (by rfl) (by first | exact Or.inl rfl | exact Or.inr (Or.inl rfl) | exact Or.inr (Or.inr rfl)) (by decide) (by decide)) (av_cons (e_var (by rfl) (by first | exact Or.inl rfl | exact Or.inr (Or.inl rfl) | exact Or.inr (Or.inr rfl)) (by decide) (by decide)) (av_nil) (by rfl)) (by rfl)) (by rfl)) (by decide) (by rfl) (by rfl)) (by intro _; rfl))) (bv_one (sv_raise (by rfl) tkD T.x_Unfit (by rfl))) (bv_nil)) (bv_one (sv_ret (e_var (by rfl) (by first | exact Or.inl rfl | exact Or.inr (Or.inl rfl) | exact Or.inr (Or.inr rfl)) (by decide) (by decide))))
abbrev N_is_long : List PySem.Str := ["thing", "many"]
theorem sc_is_long : FnScope N_is_long ["thing", "many"] (defScope s_is_long) := ⟨rfl, rfl, rfl, by decide +kernel, rfl, by decide +kernel, by decide +kernel⟩
def m_is_long : M Fl := mRet (mAndV (asV (mIsi [.tup] (mVar 0))) (mB (b2 dEqC) (mOps dLen (mCons (mVar 0) (mNil))) (mVar 1)))
def F_is_long : FD := runF 2 none m_is_long
theorem ok_is_long (T : Wd K mg) : Ok P w K mg base "is_long" s_is_long 2 ["thing", "many"] none F_is_long := by
  refine ok_of (k := 1) (mb := m_is_long) T.d_is_long sc_is_long rfl (by decide) fun f cdv A outer s H E hr => ?_
  exact bv_one (sv_ret (ev_and (ev_isi (e_var (by rfl) (by first | exact Or.inl rfl | exact Or.inr (Or.inl rfl) | exact Or.inr (Or.inr rfl)) (by decide) (by decide)) (ty_tuple (by rfl) T.n_tuple) (by rfl) T.n_isinstance (by rfl) (by rfl) (by rfl)) (ev_and1 (ev_cp (c_eqC hr) (e_len (by rfl) (by rfl) (by rfl) T.n_len (av_cons (e_var (by rfl) (by first | exact Or.inl rfl | exact Or.inr (Or.inl rfl) | exact Or.inr (Or.inr rfl)) (by decide) (by decide)) (av_nil) (by rfl))) (e_var (by rfl) (by first | exact Or.inl rfl | exact Or.inr (Or.inl rfl) | exact Or.inr (Or.inr rfl)) (by decide) (by decide)) (by first | exact nomark _ | rfl)))))
abbrev N_tupled : List PySem.Str := ["value", "own"]
theorem sc_tupled : FnScope N_tupled ["value"] (defScope s_tupled) := ⟨rfl, rfl, rfl, by decide +kernel, rfl, by decide +kernel, by decide +kernel⟩
def x_tupled_1 (R : FD) : M Rv := mLc [1] (mSeqI (mVar 0)) (turn1 [1] (gSet 1) (mYes) (mCall 1 none R (mCons (mVar 1) (mNil))))
def m_tupled (R : FD) : M Fl := mSeq (mIf (mIsi [.lst, .tup] (mVar 0)) (mRet (mOps dTupleOf (mCons (x_tupled_1 R) (mNil)))) (mNx)) (mRet (mVar 0))
def F_tupled : Nat → FD
  | 0 => fun _ => .bad
  | n + 1 => runF 2 none (m_tupled (F_tupled n))
theorem ok_tupled (T : Wd K mg) : ∀ n : Nat, Ok P w K mg base "tupled" s_tupled (2 + 2 * n) ["value"] none (F_tupled n)
  | 0 => ok_bad T.d_tupled
  | n + 1 => by
    have o_tupled := ok_tupled T n
    refine ok_of (k := 2 + 2 * n + 1) (mb := m_tupled (F_tupled n)) T.d_tupled sc_tupled rfl (by decide) fun f cdv A outer s H E hr => ?_
    exact bv_cons (wi_D _) (sv_if (wi_D _) (tv_asV (e_isi2 (e_var (by rfl) (by first | exact Or.inl rfl | exact Or.inr (Or.inl rfl) | exact Or.inr (Or.inr rfl)) (by decide) (by decide)) (ty_list (by rfl) T.n_list) (ty_tuple (by rfl) T.n_tuple) (by rfl) T.n_isinstance (by rfl) (by rfl) (by rfl) (by rfl) (by rfl)) (by intro _; rfl)) (bv_one (sv_ret (e_tuple (by rfl) (by rfl) (by rfl) T.n_tuple (av_cons (ev_lc (by rfl) sc_tupled.nd (iv_seq (e_var (by rfl) (by first | exact Or.inl rfl | exact Or.inr (Or.inl rfl) | exact Or.inr (Or.inr rfl)) (by decide) (by decide))) (own := [("own", 1)]) (blkOk_by (by kernel_rfl)) rfl (fun s H C cl fp => gv_name sc_tupled.nd (by rfl) (by first | exact .inl rfl | exact .inr rfl) (by first | exact Or.inl rfl | exact Or.inr rfl)) (by decide) (noEx_set 1) (fun s H C cl fp => cv_nil) (fun s H C cl fp => e_call o_tupled (by rfl) hr (by omega) (by rfl) tkF (av_cons (e_var (by rfl) (by first | exact Or.inl rfl | exact Or.inr (Or.inl rfl) | exact Or.inr (Or.inr rfl)) (by decide) (by decide)) (av_nil) (by rfl)) (by decide) (by rfl) (by rfl)) (by intro _; rfl)) (av_nil) (by rfl))))) (bv_nil)) (bv_one (sv_ret (e_var (by rfl) (by first | exact Or.inl rfl | exact Or.inr (Or.inl rfl) | exact Or.inr (Or.inr rfl)) (by decide) (by decide))))
abbrev N_is_web : List PySem.Str := ["thing", "own", "place"]
theorem sc_is_web : FnScope N_is_web ["thing"] (defScope s_is_web) := ⟨rfl, rfl, rfl, by decide +kernel, rfl, by decide +kernel, by decide +kernel⟩
def x_is_web_1 : M Rv := mLc [1] (mSeqI (mB dIx (mVar 0) (mInt 1))) (turn1 [1] (gSet 1) (mYes) (mCall 2 none F_is_long (mCons (mVar 1) (mCons (mInt 2) (mNil)))))
def x_is_web_2 : M Rv := mLc [1, 2] (mSeqI (mB dIx (mVar 0) (mInt 1))) (turn2 [1, 2] [2] (gSet 1) (mYes) (mSeqI (mVar 1)) (gSet 2) (mYes) (mCall 3 none F_is_within (mCons (mVar 2) (mCons (mInt 0) (mCons (mB dSub (mB dIx (mVar 0) (mInt 0)) (mInt 1)) (mNil))))))
def m_is_web : M Fl := mSeq (mIf (mOr (mNotT (mTru (mCall 2 none F_is_long (mCons (mVar 0) (mCons (mInt 2) (mNil)))))) (mOr (mNotT (mTru (mCall 3 none F_is_within (mCons (mB dIx (mVar 0) (mInt 0)) (mCons (mInt 1) (mCons (mInt 8) (mNil))))))) (mNotT (mIsi [.tup] (mB dIx (mVar 0) (mInt 1)))))) (mRet (mBl false)) (mNx)) (mSeq (mIf (mOr (mT2 dGt (mOps dLen (mCons (mB dIx (mVar 0) (mInt 1)) (mNil))) (mInt 16)) (mNotT (mTru (mOps dAll (mCons (x_is_web_1) (mNil)))))) (mRet (mBl false)) (mNx)) (mRet (mOps dAll (mCons (x_is_web_2) (mNil)))))
def F_is_web : FD := runF 3 none m_is_web
theorem ok_is_web (T : Wd K mg) : Ok P w K mg base "is_web" s_is_web 4 ["thing"] none F_is_web := by
  have o_is_long := ok_is_long (P := P) (w := w) (base := base) T
  have o_is_within := ok_is_within (P := P) (w := w) (base := base) T
  refine ok_of (k := 3) (mb := m_is_web) T.d_is_web sc_is_web rfl (by decide) fun f cdv A outer s H E hr => ?_
  exact bv_cons (wi_D _) (sv_if (wi_D _) ((wv_or (tv_not (tv_tru (e_call o_is_long (by rfl) hr (by decide) (by rfl) tkD (av_cons (e_var (by rfl) (by first | exact Or.inl rfl | exact Or.inr (Or.inl rfl) | exact Or.inr (Or.inr rfl)) (by decide) (by decide)) (av_cons (ev_int) (av_nil) (by rfl)) (by rfl)) (by decide) (by rfl) (by rfl)) (by intro _; rfl))) (wv_or (tv_not (tv_tru (e_call o_is_within (by rfl) hr (by decide) (by rfl) tkD (av_cons (ev_ix (e_var (by rfl) (by first | exact Or.inl rfl | exact Or.inr (Or.inl rfl) | exact Or.inr (Or.inr rfl)) (by decide) (by decide)) (ev_int) (by intro _ _; rfl)) (av_cons (ev_int) (av_cons (e_const (by rfl) T.c_MOST_PLACES (by decide)) (av_nil) (by rfl)) (by rfl)) (by rfl)) (by decide) (by rfl) (by rfl)) (by intro _; rfl))) (wv_or1 (tv_not (tv_asV (ev_isi (ev_ix (e_var (by rfl) (by first | exact Or.inl rfl | exact Or.inr (Or.inl rfl) | exact Or.inr (Or.inr rfl)) (by decide) (by decide)) (ev_int) (by intro _ _; rfl)) (ty_tuple (by rfl) T.n_tuple) (by rfl) T.n_isinstance (by rfl) (by rfl) (by rfl)) (by intro _; rfl)))))).tv) (bv_one (sv_ret (ev_bl))) (bv_nil)) (bv_cons (wi_D _) (sv_if (wi_D _) ((wv_or (tv_cp c_gt (e_len (by rfl) (by rfl) (by rfl) T.n_len (av_cons (ev_ix (e_var (by rfl) (by first | exact Or.inl rfl | exact Or.inr (Or.inl rfl) | exact Or.inr (Or.inr rfl)) (by decide) (by decide)) (ev_int) (by intro _ _; rfl)) (av_nil) (by rfl))) (e_const (by rfl) T.c_MOST_ROADS (by decide)) (by first | exact nomark _ | rfl)) (wv_or1 (tv_not (tv_tru (e_all (by rfl) (by rfl) (by rfl) (by rfl) T.n_all (av_cons (ev_lc (by rfl) sc_is_web.nd (iv_seq (ev_ix (e_var (by rfl) (by first | exact Or.inl rfl | exact Or.inr (Or.inl rfl) | exact Or.inr (Or.inr rfl)) (by decide) (by decide)) (ev_int) (by intro _ _; rfl))) (own := [("own", 1)]) (blkOk_by (by kernel_rfl)) rfl (fun s H C cl fp => gv_name sc_is_web.nd (by rfl) (by first | exact .inl rfl | exact .inr rfl) (by first | exact Or.inl rfl | exact Or.inr rfl)) (by decide) (noEx_set 1) (fun s H C cl fp => cv_nil) (fun s H C cl fp => e_call o_is_long (by rfl) hr (by decide) (by rfl) tkF (av_cons (e_var (by rfl) (by first | exact Or.inl rfl | exact Or.inr (Or.inl rfl) | exact Or.inr (Or.inr rfl)) (by decide) (by decide)) (av_cons (ev_int) (av_nil) (by rfl)) (by rfl)) (by decide) (by rfl) (by rfl)) (by intro _; rfl)) (av_nil) (by rfl))) (by intro _; rfl))))).tv) (bv_one (sv_ret (ev_bl))) (bv_nil)) (bv_one (sv_ret (e_all (by rfl) (by rfl) (by rfl) (by rfl) T.n_all (av_cons (ev_lc2 (by rfl) sc_is_web.nd (iv_seq (ev_ix (e_var (by rfl) (by first | exact Or.inl rfl | exact Or.inr (Or.inl rfl) | exact Or.inr (Or.inr rfl)) (by decide) (by decide)) (ev_int) (by intro _ _; rfl))) (own := [("own", 1), ("place", 2)]) (blkOk_by (by kernel_rfl)) rfl (vs1 := [2]) (by decide) (fun s H C cl fp => gv_name sc_is_web.nd (by rfl) (by first | exact .inl rfl | exact .inr rfl) (by first | exact Or.inl rfl | exact Or.inr rfl)) (by decide) (noEx_set 1) (fun s H C cl fp => cv_nil) (fun s H C cl fp => iv_seq (e_var (by rfl) (by first | exact Or.inl rfl | exact Or.inr (Or.inl rfl) | exact Or.inr (Or.inr rfl)) (by decide) (by decide))) (fun s H C cl fp => gv_name sc_is_web.nd (by rfl) (by first | exact .inl rfl | exact .inr rfl) (by first | exact Or.inl rfl | exact Or.inr rfl)) (by decide) (fun s H C cl fp => cv_nil) (fun s H C cl fp => e_call o_is_within (by rfl) hr (by decide) (by rfl) tkF (av_cons (e_var (by rfl) (by first | exact Or.inl rfl | exact Or.inr (Or.inl rfl) | exact Or.inr (Or.inr rfl)) (by decide) (by decide)) (av_cons (ev_int) (av_cons (ev_sub (ev_ix (e_var (by rfl) (by first | exact Or.inl rfl | exact Or.inr (Or.inl rfl) | exact Or.inr (Or.inr rfl)) (by decide) (by decide)) (ev_int) (by intro _ _; rfl)) (ev_int)) (av_nil) (by rfl)) (by rfl)) (by rfl)) (by decide) (by rfl) (by rfl)) (by intro _; rfl) (by intro _ _; rfl)) (av_nil) (by rfl))))))
abbrev N_sure_web : List PySem.Str := ["value", "own"]
theorem sc_sure_web : FnScope N_sure_web ["value"] (defScope s_sure_web) := ⟨rfl, rfl, rfl, by decide +kernel, rfl, by decide +kernel, by decide +kernel⟩
def m_sure_web : M Fl := mSeq (mSet 1 (mCall 1 none (F_tupled 12) (mCons (mVar 0) (mNil)))) (mSeq (mIf (mNotT (mTru (mCall 1 none F_is_web (mCons (mVar 1) (mNil))))) (mRaise "Unfit") (mNx)) (mRet (mVar 1)))
def F_sure_web : FD := runF 2 none m_sure_web
theorem ok_sure_web (T : Wd K mg) : Ok P w K mg base "sure_web" s_sure_web 27 ["value"] none F_sure_web := by
  have o_is_web := ok_is_web (P := P) (w := w) (base := base) T
  have o_tupled := ok_tupled (P := P) (w := w) (base := base) T
  refine ok_of (k := 26) (mb := m_sure_web) T.d_sure_web sc_sure_web rfl (by decide) fun f cdv A outer s H E hr => ?_
  exact bv_cons (wi_D _) (sv_set sc_sure_web.nd (by rfl) (by first | exact .inl rfl | exact .inr rfl) (e_call (o_tupled 12) (by rfl) hr (by decide) (by rfl) tkD (av_cons (e_var (by rfl) (by first | exact Or.inl rfl | exact Or.inr (Or.inl rfl) | exact Or.inr (Or.inr rfl)) (by decide) (by decide)) (av_nil) (by rfl)) (by decide) (by rfl) (by rfl)) (by rfl) (by first | exact Or.inl rfl | exact Or.inr rfl)) (bv_cons (wi_D _) (sv_if (wi_D _) (tv_not (tv_tru (e_call o_is_web (by rfl) hr (by decide) (by rfl) tkD (av_cons (e_var (by rfl) (by first | exact Or.inl rfl | exact Or.inr (Or.inl rfl) | exact Or.inr (Or.inr rfl)) (by decide) (by decide)) (av_nil) (by rfl)) (by decide) (by rfl) (by rfl)) (by intro _; rfl))) (bv_one (sv_raise (by rfl) tkD T.x_Unfit (by rfl))) (bv_nil)) (bv_one (sv_ret (e_var (by rfl) (by first | exact Or.inl rfl | exact Or.inr (Or.inl rfl) | exact Or.inr (Or.inr rfl)) (by decide) (by decide)))))
abbrev N_sure_place : List PySem.Str := ["web", "value"]
theorem sc_sure_place : FnScope N_sure_place ["web", "value"] (defScope s_sure_place) := ⟨rfl, rfl, rfl, by decide +kernel, rfl, by decide +kernel, by decide +kernel⟩
def m_sure_place : M Fl := mRet (mCall 3 none F_sure_within (mCons (mVar 1) (mCons (mInt 0) (mCons (mB dSub (mB dIx (mVar 0) (mInt 0)) (mInt 1)) (mNil)))))
def F_sure_place : FD := runF 2 none m_sure_place
theorem ok_sure_place (T : Wd K mg) : Ok P w K mg base "sure_place" s_sure_place 5 ["web", "value"] none F_sure_place := by
  have o_sure_within := ok_sure_within (P := P) (w := w) (base := base) T
  refine ok_of (k := 4) (mb := m_sure_place) T.d_sure_place sc_sure_place rfl (by decide) fun f cdv A outer s H E hr => ?_
  exact bv_one (sv_ret (e_call o_sure_within (by rfl) hr (by decide) (by rfl) tkD (av_cons (e_var (by rfl) (by first | exact Or.inl rfl | exact Or.inr (Or.inl rfl) | exact Or.inr (Or.inr rfl)) (by decide) (by decide)) (av_cons (ev_int) (av_cons (ev_sub (ev_ix (e_var (by rfl) (by first | exact Or.inl rfl | exact Or.inr (Or.inl rfl) | exact Or.inr (Or.inr rfl)) (by decide) (by decide)) (ev_int) (by intro _ _; rfl)) (ev_int)) (av_nil) (by rfl)) (by rfl)) (by rfl)) (by decide) (by rfl) (by rfl)))
abbrev N_out_of : List PySem.Str := ["web", "place", "number", "own"]
theorem sc_out_of : FnScope N_out_of ["web", "place"] (defScope s_out_of) := ⟨rfl, rfl, rfl, by decide +kernel, rfl, by decide +kernel, by decide +kernel⟩
def x_out_of_1 : M Rv := mLc [2, 3] (mEnum (mB dIx (mVar 0) (mInt 1))) (turn1 [2, 3] (gUnp 2 (gsCons (gSet 2) (gsCons (gSet 3) (gsNil)))) (mT2 dEqC (mB dIx (mVar 3) (mInt 0)) (mVar 1)) (mVar 2))
def m_out_of : M Fl := mRet (x_out_of_1)
def F_out_of : FD := runF 4 none m_out_of
theorem ok_out_of (T : Wd K mg) : Ok P w K mg base "out_of" s_out_of 2 ["web", "place"] none F_out_of := by
  refine ok_of (k := 1) (mb := m_out_of) T.d_out_of sc_out_of rfl (by decide) fun f cdv A outer s H E hr => ?_
  exact bv_one (sv_ret (ev_lc (by rfl) sc_out_of.nd (iv_enum (by rfl) T.n_enumerate (ev_ix (e_var (by rfl) (by first | exact Or.inl rfl | exact Or.inr (Or.inl rfl) | exact Or.inr (Or.inr rfl)) (by decide) (by decide)) (ev_int) (by intro _ _; rfl)) (by rfl)) (own := [("number", 2), ("own", 3)]) (blkOk_by (by kernel_rfl)) rfl (fun s H C cl fp => gv_tup (by rfl) (gvs_cons (gv_name sc_out_of.nd (by rfl) (by first | exact .inl rfl | exact .inr rfl) (by first | exact Or.inl rfl | exact Or.inr rfl)) (gvs_cons (gv_name sc_out_of.nd (by rfl) (by first | exact .inl rfl | exact .inr rfl) (by first | exact Or.inl rfl | exact Or.inr rfl)) (gvs_nil) (by rfl)) (by rfl)) (by rfl) (by rfl)) (by decide) (noEx_unp (noEx_cons (noEx_set 2) (noEx_cons (noEx_set 3) (noEx_nil)))) (fun s H C cl fp => cv_one (tv_cp (c_eqC hr) (ev_ix (e_var (by rfl) (by first | exact Or.inl rfl | exact Or.inr (Or.inl rfl) | exact Or.inr (Or.inr rfl)) (by decide) (by decide)) (ev_int) (by intro _ _; rfl)) (e_var (by rfl) (by first | exact Or.inl rfl | exact Or.inr (Or.inl rfl) | exact Or.inr (Or.inr rfl)) (by decide) (by decide)) (by first | exact nomark _ | rfl))) (fun s H C cl fp => e_var (by rfl) (by first | exact Or.inl rfl | exact Or.inr (Or.inl rfl) | exact Or.inr (Or.inr rfl)) (by decide) (by decide)) (by intro _; rfl)))
abbrev N_are_roads : List PySem.Str := ["web", "thing", "one", "other", "own"]
theorem sc_are_roads : FnScope N_are_roads ["web", "thing"] (defScope s_are_roads) := ⟨rfl, rfl, rfl, by decide +kernel, rfl, by decide +kernel, by decide +kernel⟩
def x_are_roads_1 : M Rv := mLc [4] (mSeqI (mVar 1)) (turn1 [4] (gSet 4) (mYes) (mCall 3 none F_is_within (mCons (mVar 4) (mCons (mInt 0) (mCons (mB dSub (mOps dLen (mCons (mB dIx (mVar 0) (mInt 1)) (mNil))) (mInt 1)) (mNil))))))
def x_are_roads_2 : M Rv := mLc [2, 3] (mZip (mVar 1) (mSlice (mVar 1) (mOpt (mInt 1)) (mNone))) (turn1 [2, 3] (gUnp 2 (gsCons (gSet 2) (gsCons (gSet 3) (gsNil)))) (mYes) (mB (b2 dEqC) (mB dIx (mB dIx (mB dIx (mVar 0) (mInt 1)) (mVar 2)) (mInt 1)) (mB dIx (mB dIx (mB dIx (mVar 0) (mInt 1)) (mVar 3)) (mInt 0))))
def m_are_roads : M Fl := mSeq (mIf (mOr (mNotT (mIsi [.tup] (mVar 1))) (mNotT (mTru (mOps dAll (mCons (x_are_roads_1) (mNil)))))) (mRet (mBl false)) (mNx)) (mRet (mOps dAll (mCons (x_are_roads_2) (mNil))))
def F_are_roads : FD := runF 5 none m_are_roads
theorem ok_are_roads (T : Wd K mg) : Ok P w K mg base "are_roads" s_are_roads 4 ["web", "thing"] none F_are_roads := by
  have o_is_within := ok_is_within (P := P) (w := w) (base := base) T
  refine ok_of (k := 3) (mb := m_are_roads) T.d_are_roads sc_are_roads rfl (by decide) fun f cdv A outer s H E hr => ?_
  exact bv_cons (wi_D _) (sv_if (wi_D _) ((wv_or (tv_not (tv_asV (ev_isi (e_var (by rfl) (by first | exact Or.inl rfl | exact Or.inr (Or.inl rfl) | exact Or.inr (Or.inr rfl)) (by decide) (by decide)) (ty_tuple (by rfl) T.n_tuple) (by rfl) T.n_isinstance (by rfl) (by rfl) (by rfl)) (by intro _; rfl))) (wv_or1 (tv_not (tv_tru (e_all (by rfl) (by rfl) (by rfl) (by rfl) T.n_all (av_cons (ev_lc (by rfl) sc_are_roads.nd (iv_seq (e_var (by rfl) (by first | exact Or.inl rfl | exact Or.inr (Or.inl rfl) | exact Or.inr (Or.inr rfl)) (by decide) (by decide))) (own := [("own", 4)]) (blkOk_by (by kernel_rfl)) rfl (fun s H C cl fp => gv_name sc_are_roads.nd (by rfl) (by first | exact .inl rfl | exact .inr rfl) (by first | exact Or.inl rfl | exact Or.inr rfl)) (by decide) (noEx_set 4) (fun s H C cl fp => cv_nil) (fun s H C cl fp => e_call o_is_within (by rfl) hr (by decide) (by rfl) tkF (av_cons (e_var (by rfl) (by first | exact Or.inl rfl | exact Or.inr (Or.inl rfl) | exact Or.inr (Or.inr rfl)) (by decide) (by decide)) (av_cons (ev_int) (av_cons (ev_sub (e_len (by rfl) (by rfl) (by rfl) T.n_len (av_cons (ev_ix (e_var (by rfl) (by first | exact Or.inl rfl | exact Or.inr (Or.inl rfl) | exact Or.inr (Or.inr rfl)) (by decide) (by decide)) (ev_int) (by intro _ _; rfl)) (av_nil) (by rfl))) (ev_int)) (av_nil) (by rfl)) (by rfl)) (by rfl)) (by decide) (by rfl) (by rfl)) (by intro _; rfl)) (av_nil) (by rfl))) (by intro _; rfl))))).tv) (bv_one (sv_ret (ev_bl))) (bv_nil)) (bv_one (sv_ret (e_all (by rfl) (by rfl) (by rfl) (by rfl) T.n_all (av_cons (ev_lc (by rfl) sc_are_roads.nd (iv_zip (by rfl) T.n_zip (e_var (by rfl) (by first | exact Or.inl rfl | exact Or.inr (Or.inl rfl) | exact Or.inr (Or.inr rfl)) (by decide) (by decide)) (ev_slice (e_var (by rfl) (by first | exact Or.inl rfl | exact Or.inr (Or.inl rfl) | exact Or.inr (Or.inr rfl)) (by decide) (by decide)) (ov_some (ev_int)) (ov_none)) (by rfl) (by rfl) (by rfl)) (own := [("one", 2), ("other", 3)]) (blkOk_by (by kernel_rfl)) rfl (fun s H C cl fp => gv_tup (by rfl) (gvs_cons (gv_name sc_are_roads.nd (by rfl) (by first | exact .inl rfl | exact .inr rfl) (by first | exact Or.inl rfl | exact Or.inr rfl)) (gvs_cons (gv_name sc_are_roads.nd (by rfl) (by first | exact .inl rfl | exact .inr rfl) (by first | exact Or.inl rfl | exact Or.inr rfl)) (gvs_nil) (by rfl)) (by rfl)) (by rfl) (by rfl)) (by decide) (noEx_unp (noEx_cons (noEx_set 2) (noEx_cons (noEx_set 3) (noEx_nil)))) (fun s H C cl fp => cv_nil) (fun s H C cl fp => ev_cp (c_eqC hr) (ev_ix (ev_ix (ev_ix (e_var (by rfl) (by first | exact Or.inl rfl | exact Or.inr (Or.inl rfl) | exact Or.inr (Or.inr rfl)) (by decide) (by decide)) (ev_int) (by intro _ _; rfl)) (e_var (by rfl) (by first | exact Or.inl rfl | exact Or.inr (Or.inl rfl) | exact Or.inr (Or.inr rfl)) (by decide) (by decide)) (by intro _ _; rfl)) (ev_int) (by intro _ _; rfl)) (ev_ix (ev_ix (ev_ix (e_var (by rfl) (by first | exact Or.inl rfl | exact Or.inr (Or.inl rfl) | exact Or.inr (Or.inr rfl)) (by decide) (by decide)) (ev_int) (by intro _ _; rfl)) (e_var (by rfl) (by first | exact Or.inl rfl | exact Or.inr (Or.inl rfl) | exact Or.inr (Or.inr rfl)) (by decide) (by decide)) (by intro _ _; rfl)) (ev_int) (by intro _ _; rfl)) (by first | exact nomark _ | rfl)) (by intro _; rfl)) (av_nil) (by rfl)))))
abbrev N_reached_in : List PySem.Str := ["web", "place", "found", "line", "here", "near", "far"]
theorem sc_reached_in : FnScope N_reached_in ["web", "place"] (defScope s_reached_in) := ⟨rfl, rfl, rfl, by decide +kernel, rfl, by decide +kernel, by decide +kernel⟩
def x_reached_in_1 : M Fl := mFor (mSeqI (mB dIx (mVar 0) (mInt 1))) (gUnp 2 (gsCons (gSet 5) (gsCons (gSet 6) (gsNil)))) (mIf (mAnd (mT2 dEqC (mVar 5) (mVar 4)) (mT2 (dInC true) (mVar 6) (mVar 2))) (mSeq (mDrop (mApp 2 (mVar 6))) (mDrop (mApp 3 (mVar 6)))) (mNx))
def x_reached_in_2 : M Fl := whL (mTru (mVar 3)) (mSeq (mSet 4 (mPop 3)) (x_reached_in_1)) 100000
def m_reached_in : M Fl := mSeq (mPar 2 3 (mLst (mCons (mVar 1) (mNil))) (mLst (mCons (mVar 1) (mNil)))) (mSeq (x_reached_in_2) (mRet (mOps dSorted (mCons (mVar 2) (mNil)))))
def F_reached_in : FD := runF 7 none m_reached_in
theorem ok_reached_in (T : Wd K mg) : Ok P w K mg base "reached_in" s_reached_in 2 ["web", "place"] none F_reached_in := by
  refine ok_of (k := 1) (mb := m_reached_in) T.d_reached_in sc_reached_in rfl (by decide) fun f cdv A outer s H E hr => ?_
  exact bv_cons (wi_D _) (sv_par (wi_D _) (by rfl) sc_reached_in.nd (by rfl) (by rfl) (by decide) (by rfl) (by rfl) (ev_lst (av_cons (e_var (by rfl) (by first | exact Or.inl rfl | exact Or.inr (Or.inl rfl) | exact Or.inr (Or.inr rfl)) (by decide) (by decide)) (av_nil) (by rfl))) (ev_lst (av_cons (e_var (by rfl) (by first | exact Or.inl rfl | exact Or.inr (Or.inl rfl) | exact Or.inr (Or.inr rfl)) (by decide) (by decide)) (av_nil) (by rfl))) (by rfl) (by rfl) (by rfl) (by rfl)) (bv_cons (wi_D _) (sv_while 100000 (wi_D _) ppD (tv_tru (e_var (by rfl) (by first | exact Or.inl rfl | exact Or.inr (Or.inl rfl) | exact Or.inr (Or.inr rfl)) (by decide) (by decide)) (by intro _; rfl)) (bv_cons (wi_D _) (sv_set sc_reached_in.nd (by rfl) (by first | exact .inl rfl | exact .inr rfl) (ev_pop (pv 3 (by rfl) (by first | exact Or.inl rfl | exact Or.inr (Or.inl rfl) | exact Or.inr (Or.inr rfl)) (by decide) (by decide)) (by rfl) (by rfl)) (by rfl) (by first | exact Or.inl rfl | exact Or.inr rfl)) (bv_one (sv_for (wi_D _) ppD (by rfl) (iv_seq (ev_ix (e_var (by rfl) (by first | exact Or.inl rfl | exact Or.inr (Or.inl rfl) | exact Or.inr (Or.inr rfl)) (by decide) (by decide)) (ev_int) (by intro _ _; rfl))) (gv_tup (by rfl) (gvs_cons (gv_name sc_reached_in.nd (by rfl) (by first | exact .inl rfl | exact .inr rfl) (by first | exact Or.inl rfl | exact Or.inr rfl)) (gvs_cons (gv_name sc_reached_in.nd (by rfl) (by first | exact .inl rfl | exact .inr rfl) (by first | exact Or.inl rfl | exact Or.inr rfl)) (gvs_nil) (by rfl)) (by rfl)) (by rfl) (by rfl)) (noEx_unp (noEx_cons (noEx_set 5) (noEx_cons (noEx_set 6) (noEx_nil)))) (bv_one (sv_if (wi_D _) ((wv_and (tv_cp (c_eqC hr) (e_var (by rfl) (by first | exact Or.inl rfl | exact Or.inr (Or.inl rfl) | exact Or.inr (Or.inr rfl)) (by decide) (by decide)) (e_var (by rfl) (by first | exact Or.inl rfl | exact Or.inr (Or.inl rfl) | exact Or.inr (Or.inr rfl)) (by decide) (by decide)) (by first | exact nomark _ | rfl)) (wv_and1 (tv_cp (c_notinC hr) (e_var (by rfl) (by first | exact Or.inl rfl | exact Or.inr (Or.inl rfl) | exact Or.inr (Or.inr rfl)) (by decide) (by decide)) (e_var (by rfl) (by first | exact Or.inl rfl | exact Or.inr (Or.inl rfl) | exact Or.inr (Or.inr rfl)) (by decide) (by decide)) (by first | exact nomark _ | rfl)))).tv) (bv_cons (wi_D _) (sv_expr (ev_app (pv 2 (by rfl) (by first | exact Or.inl rfl | exact Or.inr (Or.inl rfl) | exact Or.inr (Or.inr rfl)) (by decide) (by decide)) (e_var (by rfl) (by first | exact Or.inl rfl | exact Or.inr (Or.inl rfl) | exact Or.inr (Or.inr rfl)) (by decide) (by decide)) (by rfl) (by rfl) (by rfl) (by rfl) (by rfl)) (by rfl)) (bv_one (sv_expr (ev_app (pv 3 (by rfl) (by first | exact Or.inl rfl | exact Or.inr (Or.inl rfl) | exact Or.inr (Or.inr rfl)) (by decide) (by decide)) (e_var (by rfl) (by first | exact Or.inl rfl | exact Or.inr (Or.inl rfl) | exact Or.inr (Or.inr rfl)) (by decide) (by decide)) (by rfl) (by rfl) (by rfl) (by rfl) (by rfl)) (by rfl)))) (bv_nil))) (by intro _; rfl))))) (bv_one (sv_ret (e_sorted (by rfl) (by rfl) hr (by rfl) T.n_sorted (av_cons (e_var (by rfl) (by first | exact Or.inl rfl | exact Or.inr (Or.inl rfl) | exact Or.inr (Or.inr rfl)) (by decide) (by decide)) (av_nil) (by rfl))))))
abbrev N_is_round_in : List PySem.Str := ["web", "thing", "begins", "own"]
theorem sc_is_round_in : FnScope N_is_round_in ["web", "thing"] (defScope s_is_round_in) := ⟨rfl, rfl, rfl, by decide +kernel, rfl, by decide +kernel, by decide +kernel⟩
def x_is_round_in_1 : M Rv := mLc [3] (mSeqI (mVar 1)) (turn1 [3] (gSet 3) (mYes) (mB dIx (mB dIx (mB dIx (mVar 0) (mInt 1)) (mVar 3)) (mInt 0)))
def m_is_round_in : M Fl := mSeq (mIf (mOr (mNotT (mTru (mCall 2 none F_are_roads (mCons (mVar 0) (mCons (mVar 1) (mNil)))))) (mT2 dEqC (mVar 1) (mTup (mNil)))) (mRet (mBl false)) (mNx)) (mSeq (mSet 2 (x_is_round_in_1)) (mSeq (mIf (mOr (mT2 dNeC (mB dIx (mB dIx (mB dIx (mVar 0) (mInt 1)) (mB dIx (mVar 1) (mU dNeg (mInt 1)))) (mInt 1)) (mB dIx (mVar 2) (mInt 0))) (mT2 dNeC (mU dLenSet (mVar 2)) (mOps dLen (mCons (mVar 2) (mNil))))) (mRet (mBl false)) (mNx)) (mRet (mB (b2 dEqC) (mB dIx (mVar 1) (mInt 0)) (mOps dMin1 (mCons (mVar 1) (mNil)))))))
def F_is_round_in : FD := runF 4 none m_is_round_in
theorem ok_is_round_in (T : Wd K mg) : Ok P w K mg base "is_round_in" s_is_round_in 5 ["web", "thing"] none F_is_round_in := by
  have o_are_roads := ok_are_roads (P := P) (w := w) (base := base) T
  refine ok_of (k := 4) (mb := m_is_round_in) T.d_is_round_in sc_is_round_in rfl (by decide) fun f cdv A outer s H E hr => ?_
  exact bv_cons (wi_D _) (sv_if (wi_D _) ((wv_or (tv_not (tv_tru (e_call o_are_roads (by rfl) hr (by decide) (by rfl) tkD (av_cons (e_var (by rfl) (by first | exact Or.inl rfl | exact Or.inr (Or.inl rfl) | exact Or.inr (Or.inr rfl)) (by decide) (by decide)) (av_cons (e_var (by rfl) (by first | exact Or.inl rfl | exact Or.inr (Or.inl rfl) | exact Or.inr (Or.inr rfl)) (by decide) (by decide)) (av_nil) (by rfl)) (by rfl)) (by decide) (by rfl) (by rfl)) (by intro _; rfl))) (wv_or1 (tv_cp (c_eqC hr) (e_var (by rfl) (by first | exact Or.inl rfl | exact Or.inr (Or.inl rfl) | exact Or.inr (Or.inr rfl)) (by decide) (by decide)) (ev_tup (av_nil)) (by first | exact nomark _ | rfl)))).tv) (bv_one (sv_ret (ev_bl))) (bv_nil)) (bv_cons (wi_D _) ((by first | exact (sv_setLc (by rfl) sc_is_round_in.nd (by rfl) (by rfl) (by rfl) (iv_seq (e_var (by rfl) (by first | exact Or.inl rfl | exact Or.inr (Or.inl rfl) | exact Or.inr (Or.inr rfl)) (by decide) (by decide))) (own := [("own", 3)]) (blkOk_by (by kernel_rfl)) rfl (fun s H C cl fp => gv_name sc_is_round_in.nd (by rfl) (by first | exact .inl rfl | exact .inr rfl) (by first | exact Or.inl rfl | exact Or.inr rfl)) (by decide) (noEx_set 3) (fun s H C cl fp => cv_nil) (fun s H C cl fp => ev_ix (ev_ix (ev_ix (e_var (by rfl) (by first | exact Or.inl rfl | exact Or.inr (Or.inl rfl) | exact Or.inr (Or.inr rfl)) (by decide) (by decide)) (ev_int) (by intro _ _; rfl)) (e_var (by rfl) (by first | exact Or.inl rfl | exact Or.inr (Or.inl rfl) | exact Or.inr (Or.inr rfl)) (by decide) (by decide)) (by intro _ _; rfl)) (ev_int) (by intro _ _; rfl)) (by intro _; rfl)) | exact (sv_set sc_is_round_in.nd (by rfl) (by first | exact .inl rfl | exact .inr rfl) (ev_lc (by rfl) sc_is_round_in.nd (iv_seq (e_var (by rfl) (by first | exact Or.inl rfl | exact Or.inr (Or.inl rfl) | exact Or.inr (Or.inr rfl)) (by decide) (by decide))) (own := [("own", 3)]) (blkOk_by (by kernel_rfl)) rfl (fun s H C cl fp => gv_name sc_is_round_in.nd (by rfl) (by first | exact .inl rfl | exact .inr rfl) (by first | exact Or.inl rfl | exact Or.inr rfl)) (by decide) (noEx_set 3) (fun s H C cl fp => cv_nil) (fun s H C cl fp => ev_ix (ev_ix (ev_ix (e_var (by rfl) (by first | exact Or.inl rfl | exact Or.inr (Or.inl rfl) | exact Or.inr (Or.inr rfl)) (by decide) (by decide)) (ev_int) (by intro _ _; rfl)) (e_var (by rfl) (by first | exact Or.inl rfl | exact Or.inr (Or.inl rfl) | exact Or.inr (Or.inr rfl)) (by decide) (by decide)) (by intro _ _; rfl)) (ev_int) (by intro _ _; rfl)) (by intro _; rfl)) (by rfl) (by first | exact Or.inl rfl | exact Or.inr rfl)))) (bv_cons (wi_D _) (sv_if (wi_D _) ((wv_or (tv_cp (c_neC hr) (ev_ix (ev_ix (ev_ix (e_var (by rfl) (by first | exact Or.inl rfl | exact Or.inr (Or.inl rfl) | exact Or.inr (Or.inr rfl)) (by decide) (by decide)) (ev_int) (by intro _ _; rfl)) (ev_ix (e_var (by rfl) (by first | exact Or.inl rfl | exact Or.inr (Or.inl rfl) | exact Or.inr (Or.inr rfl)) (by decide) (by decide)) (ev_neg (ev_int)) (by intro _ _; rfl)) (by intro _ _; rfl)) (ev_int) (by intro _ _; rfl)) (ev_ix (e_var (by rfl) (by first | exact Or.inl rfl | exact Or.inr (Or.inl rfl) | exact Or.inr (Or.inr rfl)) (by decide) (by decide)) (ev_int) (by intro _ _; rfl)) (by first | exact nomark _ | rfl)) (wv_or1 (tv_cp (c_neC hr) (ev_lenSet (by rfl) (by rfl) T.n_len (by rfl) T.n_set (e_var (by rfl) (by first | exact Or.inl rfl | exact Or.inr (Or.inl rfl) | exact Or.inr (Or.inr rfl)) (by decide) (by decide)) (by rfl) (by rfl)) (e_len (by rfl) (by rfl) (by rfl) T.n_len (av_cons (e_var (by rfl) (by first | exact Or.inl rfl | exact Or.inr (Or.inl rfl) | exact Or.inr (Or.inr rfl)) (by decide) (by decide)) (av_nil) (by rfl))) (by first | exact nomark _ | rfl)))).tv) (bv_one (sv_ret (ev_bl))) (bv_nil)) (bv_one (sv_ret (ev_cp (c_eqC hr) (ev_ix (e_var (by rfl) (by first | exact Or.inl rfl | exact Or.inr (Or.inl rfl) | exact Or.inr (Or.inr rfl)) (by decide) (by decide)) (ev_int) (by intro _ _; rfl)) (e_minT (by rfl) (by rfl) (by rfl) (by rfl) T.n_min (av_cons (e_var (by rfl) (by first | exact Or.inl rfl | exact Or.inr (Or.inl rfl) | exact Or.inr (Or.inr rfl)) (by decide) (by decide)) (av_nil) (by rfl))) (by first | exact nomark _ | rfl))))))
abbrev N_rounds_in : List PySem.Str := ["web", "found", "first", "start", "line", "roads", "seen", "here", "own"]
theorem sc_rounds_in : FnScope N_rounds_in ["web"] (defScope s_rounds_in) := ⟨rfl, rfl, rfl, by decide +kernel, rfl, by decide +kernel, by decide +kernel⟩
def x_rounds_in_1 : M Rv := mLc [8] (mSeqI (mCall 2 none F_out_of (mCons (mVar 0) (mCons (mVar 7) (mNil))))) (turn1 [8] (gSet 8) (mT2 dGt (mVar 8) (mVar 2)) (mTup (mCons (mB dAdd (mVar 5) (mTup (mCons (mVar 8) (mNil)))) (mCons (mB dAdd (mVar 6) (mLst (mCons (mVar 7) (mNil)))) (mNil)))))
def x_rounds_in_2 : M Fl := whL (mTru (mVar 4)) (mSeq (mAsg (gUnp 2 (gsCons (gSet 5) (gsCons (gSet 6) (gsNil)))) (mPop 4)) (mSeq (mSet 7 (mB dIx (mB dIx (mB dIx (mVar 0) (mInt 1)) (mB dIx (mVar 5) (mU dNeg (mInt 1)))) (mInt 1))) (mIf (mT2 dEqC (mVar 7) (mVar 3)) (mSeq (mDrop (mApp 1 (mVar 5))) (mIf (mT2 dGt (mOps dLen (mCons (mVar 1) (mNil))) (mInt 500)) (mRaise "TooMany") (mNx))) (mIf (mT2 (dInC true) (mVar 7) (mVar 6)) (mDrop (mExt 4 (x_rounds_in_1))) (mNx))))) 100000
def x_rounds_in_3 : M Fl := mFor (mRange1 (mOps dLen (mCons (mB dIx (mVar 0) (mInt 1)) (mNil)))) (gSet 2) (mSeq (mSet 3 (mB dIx (mB dIx (mB dIx (mVar 0) (mInt 1)) (mVar 2)) (mInt 0))) (mSeq (mSet 4 (mLst (mCons (mTup (mCons (mTup (mCons (mVar 2) (mNil))) (mCons (mLst (mCons (mVar 3) (mNil))) (mNil)))) (mNil)))) (x_rounds_in_2)))
def m_rounds_in : M Fl := mSeq (mSet 1 (mLst (mNil))) (mSeq (x_rounds_in_3) (mRet (mOps dSorted (mCons (mVar 1) (mNil)))))
def F_rounds_in : FD := runF 9 none m_rounds_in
theorem ok_rounds_in (T : Wd K mg) : Ok P w K mg base "rounds_in" s_rounds_in 3 ["web"] none F_rounds_in := by
  have o_out_of := ok_out_of (P := P) (w := w) (base := base) T
  refine ok_of (k := 2) (mb := m_rounds_in) T.d_rounds_in sc_rounds_in rfl (by decide) fun f cdv A outer s H E hr => ?_
  exact bv_cons (wi_D _) (sv_set sc_rounds_in.nd (by rfl) (by first | exact .inl rfl | exact .inr rfl) (ev_lst (av_nil)) (by rfl) (by first | exact Or.inl rfl | exact Or.inr rfl)) (bv_cons (wi_D _) (sv_for (wi_D _) ppD (by rfl) (iv_range1 (by rfl) T.n_range (e_len (by rfl) (by rfl) (by rfl) T.n_len (av_cons (ev_ix (e_var (by rfl) (by first | exact Or.inl rfl | exact Or.inr (Or.inl rfl) | exact Or.inr (Or.inr rfl)) (by decide) (by decide)) (ev_int) (by intro _ _; rfl)) (av_nil) (by rfl))) (by rfl)) (gv_name sc_rounds_in.nd (by rfl) (by first | exact .inl rfl | exact .inr rfl) (by first | exact Or.inl rfl | exact Or.inr rfl)) (noEx_set 2) (bv_cons (wi_D _) (sv_set sc_rounds_in.nd (by rfl) (by first | exact .inl rfl | exact .inr rfl) (ev_ix (ev_ix (ev_ix (e_var (by rfl) (by first | exact Or.inl rfl | exact Or.inr (Or.inl rfl) | exact Or.inr (Or.inr rfl)) (by decide) (by decide)) (ev_int) (by intro _ _; rfl)) (e_var (by rfl) (by first | exact Or.inl rfl | exact Or.inr (Or.inl rfl) | exact Or.inr (Or.inr rfl)) (by decide) (by decide)) (by intro _ _; rfl)) (ev_int) (by intro _ _; rfl)) (by rfl) (by first | exact Or.inl rfl | exact Or.inr rfl)) (bv_cons (wi_D _) (sv_set sc_rounds_in.nd (by rfl) (by first | exact .inl rfl | exact .inr rfl) (ev_lst (av_cons (ev_tup (av_cons (ev_tup (av_cons (e_var (by rfl) (by first | exact Or.inl rfl | exact Or.inr (Or.inl rfl) | exact Or.inr (Or.inr rfl)) (by decide) (by decide)) (av_nil) (by rfl))) (av_cons (ev_lst (av_cons (e_var (by rfl) (by first | exact Or.inl rfl | exact Or.inr (Or.inl rfl) | exact Or.inr (Or.inr rfl)) (by decide) (by decide)) (av_nil) (by rfl))) (av_nil) (by rfl)) (by rfl))) (av_nil) (by rfl))) (by rfl) (by first | exact Or.inl rfl | exact Or.inr rfl)) (bv_one (sv_while 100000 (wi_D _) ppD (tv_tru (e_var (by rfl) (by first | exact Or.inl rfl | exact Or.inr (Or.inl rfl) | exact Or.inr (Or.inr rfl)) (by decide) (by decide)) (by intro _; rfl)) (bv_cons (wi_D _) (sv_asg (ev_pop (pv 4 (by rfl) (by first | exact Or.inl rfl | exact Or.inr (Or.inl rfl) | exact Or.inr (Or.inr rfl)) (by decide) (by decide)) (by rfl) (by rfl)) (gv_tup (by rfl) (gvs_cons (gv_name sc_rounds_in.nd (by rfl) (by first | exact .inl rfl | exact .inr rfl) (by first | exact Or.inl rfl | exact Or.inr rfl)) (gvs_cons (gv_name sc_rounds_in.nd (by rfl) (by first | exact .inl rfl | exact .inr rfl) (by first | exact Or.inl rfl | exact Or.inr rfl)) (gvs_nil) (by rfl)) (by rfl)) (by rfl) (by rfl)) (noEx_unp (noEx_cons (noEx_set 5) (noEx_cons (noEx_set 6) (noEx_nil)))) (by rfl) (by rfl) (by rfl)) (bv_cons (wi_D _) (sv_set sc_rounds_in.nd (by rfl) (by first | exact .inl rfl | exact .inr rfl) (ev_ix (ev_ix (ev_ix (e_var (by rfl) (by first | exact Or.inl rfl | exact Or.inr (Or.inl rfl) | exact Or.inr (Or.inr rfl)) (by decide) (by decide)) (ev_int) (by intro _ _; rfl)) (ev_ix (e_var (by rfl) (by first | exact Or.inl rfl | exact Or.inr (Or.inl rfl) | exact Or.inr (Or.inr rfl)) (by decide) (by decide)) (ev_neg (ev_int)) (by intro _ _; rfl)) (by intro _ _; rfl)) (ev_int) (by intro _ _; rfl)) (by rfl) (by first | exact Or.inl rfl | exact Or.inr rfl)) (bv_one (sv_if (wi_D _) (tv_cp (c_eqC hr) (e_var (by rfl) (by first | exact Or.inl rfl | exact Or.inr (Or.inl rfl) | exact Or.inr (Or.inr rfl)) (by decide) (by decide)) (e_var (by rfl) (by first | exact Or.inl rfl | exact Or.inr (Or.inl rfl) | exact Or.inr (Or.inr rfl)) (by decide) (by decide)) (by first | exact nomark _ | rfl)) (bv_cons (wi_D _) (sv_expr (ev_app (pv 1 (by rfl) (by first | exact Or.inl rfl | exact Or.inr (Or.inl rfl) | exact Or.inr (Or.inr rfl)) (by decide) (by decide)) (e_var (by rfl) (by first | exact Or.inl rfl | exact Or.inr (Or.inl rfl) | exact Or.inr (Or.inr rfl)) (by decide) (by decide)) (by rfl) (by rfl) (by rfl) (by rfl) (by rfl)) (by rfl)) (bv_one (sv_if (wi_D _) (tv_cp c_gt (e_len (by rfl) (by rfl) (by rfl) T.n_len (av_cons (e_var (by rfl) (by first | exact Or.inl rfl | exact Or.inr (Or.inl rfl) | exact Or.inr (Or.inr rfl)) (by decide) (by decide)) (av_nil) (by rfl))) (e_const (by rfl) T.c_MOST_ROUNDS (by decide)) (by first | exact nomark _ | rfl)) (bv_one (sv_raise (by rfl) tkD T.x_TooMany (by rfl))) (bv_nil)))) (bv_one (sv_if (wi_D _) (tv_cp (c_notinC hr) (e_var (by rfl) (by first | exact Or.inl rfl | exact Or.inr (Or.inl rfl) | exact Or.inr (Or.inr rfl)) (by decide) (by decide)) (e_var (by rfl) (by first | exact Or.inl rfl | exact Or.inr (Or.inl rfl) | exact Or.inr (Or.inr rfl)) (by decide) (by decide)) (by first | exact nomark _ | rfl)) (bv_one (sv_expr (ev_ext (pv 4 (by rfl) (by first | exact Or.inl rfl | exact Or.inr (Or.inl rfl) | exact Or.inr (Or.inr rfl)) (by decide) (by decide)) (ev_lc (by rfl) sc_rounds_in.nd (iv_seq (e_call o_out_of (by rfl) hr (by decide) (by rfl) tkD (av_cons (e_var (by rfl) (by first | exact Or.inl rfl | exact Or.inr (Or.inl rfl) | exact Or.inr (Or.inr rfl)) (by decide) (by decide)) (av_cons (e_var (by rfl) (by first | exact Or.inl rfl | exact Or.inr (Or.inl rfl) | exact Or.inr (Or.inr rfl)) (by decide) (by decide)) (av_nil) (by rfl)) (by rfl)) (by decide) (by rfl) (by rfl))) (own := [("own", 8)]) (blkOk_by (by kernel_rfl)) rfl (fun s H C cl fp => gv_name sc_rounds_in.nd (by rfl) (by first | exact .inl rfl | exact .inr rfl) (by first | exact Or.inl rfl | exact Or.inr rfl)) (by decide) (noEx_set 8) (fun s H C cl fp => cv_one (tv_cp c_gt (e_var (by rfl) (by first | exact Or.inl rfl | exact Or.inr (Or.inl rfl) | exact Or.inr (Or.inr rfl)) (by decide) (by decide)) (e_var (by rfl) (by first | exact Or.inl rfl | exact Or.inr (Or.inl rfl) | exact Or.inr (Or.inr rfl)) (by decide) (by decide)) (by first | exact nomark _ | rfl))) (fun s H C cl fp => ev_tup (av_cons (ev_add (e_var (by rfl) (by first | exact Or.inl rfl | exact Or.inr (Or.inl rfl) | exact Or.inr (Or.inr rfl)) (by decide) (by decide)) (ev_tup (av_cons (e_var (by rfl) (by first | exact Or.inl rfl | exact Or.inr (Or.inl rfl) | exact Or.inr (Or.inr rfl)) (by decide) (by decide)) (av_nil) (by rfl)))) (av_cons (ev_add (e_var (by rfl) (by first | exact Or.inl rfl | exact Or.inr (Or.inl rfl) | exact Or.inr (Or.inr rfl)) (by decide) (by decide)) (ev_lst (av_cons (e_var (by rfl) (by first | exact Or.inl rfl | exact Or.inr (Or.inl rfl) | exact Or.inr (Or.inr rfl)) (by decide) (by decide)) (av_nil) (by rfl)))) (av_nil) (by rfl)) (by rfl))) (by intro _; rfl)) (by rfl) (by rfl) (by rfl) (by rfl) (by rfl)) (by rfl))) (bv_nil))))))))))) (by intro _; rfl)) (bv_one (sv_ret (e_sorted (by rfl) (by rfl) hr (by rfl) T.n_sorted (av_cons (e_var (by rfl) (by first | exact Or.inl rfl | exact Or.inr (Or.inl rfl) | exact Or.inr (Or.inr rfl)) (by decide) (by decide)) (av_nil) (by rfl))))))
abbrev N_is_round : List PySem.Str := ["web", "thing"]
theorem sc_is_round : FnScope N_is_round ["web", "thing"] (defScope s_is_round) := ⟨rfl, rfl, rfl, by decide +kernel, rfl, by decide +kernel, by decide +kernel⟩
def m_is_round : M Fl := mRet (mCall 2 none F_is_round_in (mCons (mCall 1 none F_sure_web (mCons (mVar 0) (mNil))) (mCons (mVar 1) (mNil))))
def F_is_round : FD := runF 2 none m_is_round
theorem ok_is_round (T : Wd K mg) : Ok P w K mg base "is_round" s_is_round 28 ["web", "thing"] none F_is_round := by
  have o_is_round_in := ok_is_round_in (P := P) (w := w) (base := base) T
  have o_sure_web := ok_sure_web (P := P) (w := w) (base := base) T
  refine ok_of (k := 27) (mb := m_is_round) T.d_is_round sc_is_round rfl (by decide) fun f cdv A outer s H E hr => ?_
  exact bv_one (sv_ret (e_call o_is_round_in (by rfl) hr (by decide) (by rfl) tkD (av_cons (e_call o_sure_web (by rfl) hr (by decide) (by rfl) tkD (av_cons (e_var (by rfl) (by first | exact Or.inl rfl | exact Or.inr (Or.inl rfl) | exact Or.inr (Or.inr rfl)) (by decide) (by decide)) (av_nil) (by rfl)) (by decide) (by rfl) (by rfl)) (av_cons (e_var (by rfl) (by first | exact Or.inl rfl | exact Or.inr (Or.inl rfl) | exact Or.inr (Or.inr rfl)) (by decide) (by decide)) (av_nil) (by rfl)) (by rfl)) (by decide) (by rfl) (by rfl)))
abbrev N_rounds : List PySem.Str := ["web"]
theorem sc_rounds : FnScope N_rounds ["web"] (defScope s_rounds) := ⟨rfl, rfl, rfl, by decide +kernel, rfl, by decide +kernel, by decide +kernel⟩
def m_rounds : M Fl := mRet (mCall 1 none F_rounds_in (mCons (mCall 1 none F_sure_web (mCons (mVar 0) (mNil))) (mNil)))
def F_rounds : FD := runF 1 none m_rounds
theorem ok_rounds (T : Wd K mg) : Ok P w K mg base "rounds" s_rounds 28 ["web"] none F_rounds := by
  have o_rounds_in := ok_rounds_in (P := P) (w := w) (base := base) T
  have o_sure_web := ok_sure_web (P := P) (w := w) (base := base) T
  refine ok_of (k := 27) (mb := m_rounds) T.d_rounds sc_rounds rfl (by decide) fun f cdv A outer s H E hr => ?_
  exact bv_one (sv_ret (e_call o_rounds_in (by rfl) hr (by decide) (by rfl) tkD (av_cons (e_call o_sure_web (by rfl) hr (by decide) (by rfl) tkD (av_cons (e_var (by rfl) (by first | exact Or.inl rfl | exact Or.inr (Or.inl rfl) | exact Or.inr (Or.inr rfl)) (by decide) (by decide)) (av_nil) (by rfl)) (by decide) (by rfl) (by rfl)) (av_nil) (by rfl)) (by decide) (by rfl) (by rfl)))
abbrev N_exits_in : List PySem.Str := ["web", "own", "begins", "road", "number"]
theorem sc_exits_in : FnScope N_exits_in ["web", "own"] (defScope s_exits_in) := ⟨rfl, rfl, rfl, by decide +kernel, rfl, by decide +kernel, by decide +kernel⟩
def x_exits_in_1 : M Rv := mLc [3] (mSeqI (mVar 1)) (turn1 [3] (gSet 3) (mYes) (mB dIx (mB dIx (mB dIx (mVar 0) (mInt 1)) (mVar 3)) (mInt 0)))
def x_exits_in_2 : M Rv := mLc [4, 3] (mEnum (mB dIx (mVar 0) (mInt 1))) (turn1 [4, 3] (gUnp 2 (gsCons (gSet 4) (gsCons (gSet 3) (gsNil)))) (mAnd (mT2 (dInC false) (mB dIx (mVar 3) (mInt 0)) (mVar 2)) (mT2 (dInC true) (mVar 4) (mVar 1))) (mVar 4))
def m_exits_in : M Fl := mSeq (mSet 2 (x_exits_in_1)) (mRet (x_exits_in_2))
def F_exits_in : FD := runF 5 none m_exits_in
theorem ok_exits_in (T : Wd K mg) : Ok P w K mg base "exits_in" s_exits_in 2 ["web", "own"] none F_exits_in := by
  refine ok_of (k := 1) (mb := m_exits_in) T.d_exits_in sc_exits_in rfl (by decide) fun f cdv A outer s H E hr => ?_
  exact bv_cons (wi_D _) ((by first | exact (sv_setLc (by rfl) sc_exits_in.nd (by rfl) (by rfl) (by rfl) (iv_seq (e_var (by rfl) (by first | exact Or.inl rfl | exact Or.inr (Or.inl rfl) | exact Or.inr (Or.inr rfl)) (by decide) (by decide))) (own := [("road", 3)]) (blkOk_by (by kernel_rfl)) rfl (fun s H C cl fp => gv_name sc_exits_in.nd (by rfl) (by first | exact .inl rfl | exact .inr rfl) (by first | exact Or.inl rfl | exact Or.inr rfl)) (by decide) (noEx_set 3) (fun s H C cl fp => cv_nil) (fun s H C cl fp => ev_ix (ev_ix (ev_ix (e_var (by rfl) (by first | exact Or.inl rfl | exact Or.inr (Or.inl rfl) | exact Or.inr (Or.inr rfl)) (by decide) (by decide)) (ev_int) (by intro _ _; rfl)) (e_var (by rfl) (by first | exact Or.inl rfl | exact Or.inr (Or.inl rfl) | exact Or.inr (Or.inr rfl)) (by decide) (by decide)) (by intro _ _; rfl)) (ev_int) (by intro _ _; rfl)) (by intro _; rfl)) | exact (sv_set sc_exits_in.nd (by rfl) (by first | exact .inl rfl | exact .inr rfl) (ev_lc (by rfl) sc_exits_in.nd (iv_seq (e_var (by rfl) (by first | exact Or.inl rfl | exact Or.inr (Or.inl rfl) | exact Or.inr (Or.inr rfl)) (by decide) (by decide))) (own := [("road", 3)]) (blkOk_by (by kernel_rfl)) rfl (fun s H C cl fp => gv_name sc_exits_in.nd (by rfl) (by first | exact .inl rfl | exact .inr rfl) (by first | exact Or.inl rfl | exact Or.inr rfl)) (by decide) (noEx_set 3) (fun s H C cl fp => cv_nil) (fun s H C cl fp => ev_ix (ev_ix (ev_ix (e_var (by rfl) (by first | exact Or.inl rfl | exact Or.inr (Or.inl rfl) | exact Or.inr (Or.inr rfl)) (by decide) (by decide)) (ev_int) (by intro _ _; rfl)) (e_var (by rfl) (by first | exact Or.inl rfl | exact Or.inr (Or.inl rfl) | exact Or.inr (Or.inr rfl)) (by decide) (by decide)) (by intro _ _; rfl)) (ev_int) (by intro _ _; rfl)) (by intro _; rfl)) (by rfl) (by first | exact Or.inl rfl | exact Or.inr rfl)))) (bv_one (sv_ret (ev_lc (by rfl) sc_exits_in.nd (iv_enum (by rfl) T.n_enumerate (ev_ix (e_var (by rfl) (by first | exact Or.inl rfl | exact Or.inr (Or.inl rfl) | exact Or.inr (Or.inr rfl)) (by decide) (by decide)) (ev_int) (by intro _ _; rfl)) (by rfl)) (own := [("number", 4), ("road", 3)]) (blkOk_by (by kernel_rfl)) rfl (fun s H C cl fp => gv_tup (by rfl) (gvs_cons (gv_name sc_exits_in.nd (by rfl) (by first | exact .inl rfl | exact .inr rfl) (by first | exact Or.inl rfl | exact Or.inr rfl)) (gvs_cons (gv_name sc_exits_in.nd (by rfl) (by first | exact .inl rfl | exact .inr rfl) (by first | exact Or.inl rfl | exact Or.inr rfl)) (gvs_nil) (by rfl)) (by rfl)) (by rfl) (by rfl)) (by decide) (noEx_unp (noEx_cons (noEx_set 4) (noEx_cons (noEx_set 3) (noEx_nil)))) (fun s H C cl fp => cv_one ((wv_and (tv_cp (c_inC hr) (ev_ix (e_var (by rfl) (by first | exact Or.inl rfl | exact Or.inr (Or.inl rfl) | exact Or.inr (Or.inr rfl)) (by decide) (by decide)) (ev_int) (by intro _ _; rfl)) (e_var (by rfl) (by first | exact Or.inl rfl | exact Or.inr (Or.inl rfl) | exact Or.inr (Or.inr rfl)) (by decide) (by decide)) (by first | exact nomark _ | rfl)) (wv_and1 (tv_cp (c_notinC hr) (e_var (by rfl) (by first | exact Or.inl rfl | exact Or.inr (Or.inl rfl) | exact Or.inr (Or.inr rfl)) (by decide) (by decide)) (e_var (by rfl) (by first | exact Or.inl rfl | exact Or.inr (Or.inl rfl) | exact Or.inr (Or.inr rfl)) (by decide) (by decide)) (by first | exact nomark _ | rfl)))).tv)) (fun s H C cl fp => e_var (by rfl) (by first | exact Or.inl rfl | exact Or.inr (Or.inl rfl) | exact Or.inr (Or.inr rfl)) (by decide) (by decide)) (by intro _; rfl))))
abbrev N_exits : List PySem.Str := ["web", "roads", "own", "mine"]
theorem sc_exits : FnScope N_exits ["web", "roads"] (defScope s_exits) := ⟨rfl, rfl, rfl, by decide +kernel, rfl, by decide +kernel, by decide +kernel⟩
def m_exits : M Fl := mSeq (mPar 2 3 (mCall 1 none F_sure_web (mCons (mVar 0) (mNil))) (mCall 1 none (F_tupled 12) (mCons (mVar 1) (mNil)))) (mSeq (mIf (mNotT (mTru (mCall 2 none F_is_round_in (mCons (mVar 2) (mCons (mVar 3) (mNil)))))) (mRaise "Unfit") (mNx)) (mRet (mOps dTupleOf (mCons (mCall 2 none F_exits_in (mCons (mVar 2) (mCons (mVar 3) (mNil)))) (mNil)))))
def F_exits : FD := runF 4 none m_exits
theorem ok_exits (T : Wd K mg) : Ok P w K mg base "exits" s_exits 28 ["web", "roads"] none F_exits := by
  have o_exits_in := ok_exits_in (P := P) (w := w) (base := base) T
  have o_is_round_in := ok_is_round_in (P := P) (w := w) (base := base) T
  have o_sure_web := ok_sure_web (P := P) (w := w) (base := base) T
  have o_tupled := ok_tupled (P := P) (w := w) (base := base) T
  refine ok_of (k := 27) (mb := m_exits) T.d_exits sc_exits rfl (by decide) fun f cdv A outer s H E hr => ?_
  exact bv_cons (wi_D _) (sv_par (wi_D _) (by rfl) sc_exits.nd (by rfl) (by rfl) (by decide) (by rfl) (by rfl) (e_call o_sure_web (by rfl) hr (by decide) (by rfl) tkD (av_cons (e_var (by rfl) (by first | exact Or.inl rfl | exact Or.inr (Or.inl rfl) | exact Or.inr (Or.inr rfl)) (by decide) (by decide)) (av_nil) (by rfl)) (by decide) (by rfl) (by rfl)) (e_call (o_tupled 12) (by rfl) hr (by decide) (by rfl) tkD (av_cons (e_var (by rfl) (by first | exact Or.inl rfl | exact Or.inr (Or.inl rfl) | exact Or.inr (Or.inr rfl)) (by decide) (by decide)) (av_nil) (by rfl)) (by decide) (by rfl) (by rfl)) (by rfl) (by rfl) (by rfl) (by rfl)) (bv_cons (wi_D _) (sv_if (wi_D _) (tv_not (tv_tru (e_call o_is_round_in (by rfl) hr (by decide) (by rfl) tkD (av_cons (e_var (by rfl) (by first | exact Or.inl rfl | exact Or.inr (Or.inl rfl) | exact Or.inr (Or.inr rfl)) (by decide) (by decide)) (av_cons (e_var (by rfl) (by first | exact Or.inl rfl | exact Or.inr (Or.inl rfl) | exact Or.inr (Or.inr rfl)) (by decide) (by decide)) (av_nil) (by rfl)) (by rfl)) (by decide) (by rfl) (by rfl)) (by intro _; rfl))) (bv_one (sv_raise (by rfl) tkD T.x_Unfit (by rfl))) (bv_nil)) (bv_one (sv_ret (e_tuple (by rfl) (by rfl) (by rfl) T.n_tuple (av_cons (e_call o_exits_in (by rfl) hr (by decide) (by rfl) tkD (av_cons (e_var (by rfl) (by first | exact Or.inl rfl | exact Or.inr (Or.inl rfl) | exact Or.inr (Or.inr rfl)) (by decide) (by decide)) (av_cons (e_var (by rfl) (by first | exact Or.inl rfl | exact Or.inr (Or.inl rfl) | exact Or.inr (Or.inr rfl)) (by decide) (by decide)) (av_nil) (by rfl)) (by rfl)) (by decide) (by rfl) (by rfl)) (av_nil) (by rfl))))))
abbrev N_lone_in : List PySem.Str := ["web", "found", "place", "roads", "here"]
theorem sc_lone_in : FnScope N_lone_in ["web"] (defScope s_lone_in) := ⟨rfl, rfl, rfl, by decide +kernel, rfl, by decide +kernel, by decide +kernel⟩
def x_lone_in_1 : M Fl := whL (mAnd (mT2 dLe (mOps dLen (mCons (mVar 3) (mNil))) (mB dIx (mVar 0) (mInt 0))) (mT2 dEqC (mOps dLen (mCons (mCall 2 none F_out_of (mCons (mVar 0) (mCons (mVar 4) (mNil)))) (mNil))) (mInt 1))) (mSeq (mSet 3 (mB dAdd (mVar 3) (mTup (mCons (mB dIx (mCall 2 none F_out_of (mCons (mVar 0) (mCons (mVar 4) (mNil)))) (mInt 0)) (mNil))))) (mSeq (mSet 4 (mB dIx (mB dIx (mB dIx (mVar 0) (mInt 1)) (mB dIx (mVar 3) (mU dNeg (mInt 1)))) (mInt 1))) (mIf (mT2 dEqC (mVar 4) (mVar 2)) (mSeq (mIf (mT2 dEqC (mB dIx (mVar 3) (mInt 0)) (mOps dMin1 (mCons (mVar 3) (mNil)))) (mDrop (mApp 1 (mVar 3))) (mNx)) (mBr)) (mNx)))) 100000
def x_lone_in_2 : M Fl := mFor (mRange1 (mB dIx (mVar 0) (mInt 0))) (gSet 2) (mSeq (mPar 3 4 (mTup (mNil)) (mVar 2)) (x_lone_in_1))
def m_lone_in : M Fl := mSeq (mSet 1 (mLst (mNil))) (mSeq (x_lone_in_2) (mRet (mOps dSorted (mCons (mVar 1) (mNil)))))
def F_lone_in : FD := runF 5 none m_lone_in
theorem ok_lone_in (T : Wd K mg) : Ok P w K mg base "lone_in" s_lone_in 3 ["web"] none F_lone_in := by
  have o_out_of := ok_out_of (P := P) (w := w) (base := base) T
  refine ok_of (k := 2) (mb := m_lone_in) T.d_lone_in sc_lone_in rfl (by decide) fun f cdv A outer s H E hr => ?_
  exact bv_cons (wi_D _) (sv_set sc_lone_in.nd (by rfl) (by first | exact .inl rfl | exact .inr rfl) (ev_lst (av_nil)) (by rfl) (by first | exact Or.inl rfl | exact Or.inr rfl)) (bv_cons (wi_D _) (sv_for (wi_D _) ppD (by rfl) (iv_range1 (by rfl) T.n_range (ev_ix (e_var (by rfl) (by first | exact Or.inl rfl | exact Or.inr (Or.inl rfl) | exact Or.inr (Or.inr rfl)) (by decide) (by decide)) (ev_int) (by intro _ _; rfl)) (by rfl)) (gv_name sc_lone_in.nd (by rfl) (by first | exact .inl rfl | exact .inr rfl) (by first | exact Or.inl rfl | exact Or.inr rfl)) (noEx_set 2) (bv_cons (wi_D _) (sv_par (wi_D _) (by rfl) sc_lone_in.nd (by rfl) (by rfl) (by decide) (by rfl) (by rfl) (ev_tup (av_nil)) (e_var (by rfl) (by first | exact Or.inl rfl | exact Or.inr (Or.inl rfl) | exact Or.inr (Or.inr rfl)) (by decide) (by decide)) (by rfl) (by rfl) (by rfl) (by rfl)) (bv_one (sv_while 100000 (wi_D _) ppD ((wv_and (tv_cp c_le (e_len (by rfl) (by rfl) (by rfl) T.n_len (av_cons (e_var (by rfl) (by first | exact Or.inl rfl | exact Or.inr (Or.inl rfl) | exact Or.inr (Or.inr rfl)) (by decide) (by decide)) (av_nil) (by rfl))) (ev_ix (e_var (by rfl) (by first | exact Or.inl rfl | exact Or.inr (Or.inl rfl) | exact Or.inr (Or.inr rfl)) (by decide) (by decide)) (ev_int) (by intro _ _; rfl)) (by first | exact nomark _ | rfl)) (wv_and1 (tv_cp (c_eqC hr) (e_len (by rfl) (by rfl) (by rfl) T.n_len (av_cons (e_call o_out_of (by rfl) hr (by decide) (by rfl) tkD (av_cons (e_var (by rfl) (by first | exact Or.inl rfl | exact Or.inr (Or.inl rfl) | exact Or.inr (Or.inr rfl)) (by decide) (by decide)) (av_cons (e_var (by rfl) (by first | exact Or.inl rfl | exact Or.inr (Or.inl rfl) | exact Or.inr (Or.inr rfl)) (by decide) (by decide)) (av_nil) (by rfl)) (by rfl)) (by decide) (by rfl) (by rfl)) (av_nil) (by rfl))) (ev_int) (by first | exact nomark _ | rfl)))).tv) (bv_cons (wi_D _) (sv_set sc_lone_in.nd (by rfl) (by first | exact .inl rfl | exact .inr rfl) (ev_add (e_var (by rfl) (by first | exact Or.inl rfl | exact Or.inr (Or.inl rfl) | exact Or.inr (Or.inr rfl)) (by decide) (by decide)) (ev_tup (av_cons (ev_ix (e_call o_out_of (by rfl) hr (by decide) (by rfl) tkD (av_cons (e_var (by rfl) (by first | exact Or.inl rfl | exact Or.inr (Or.inl rfl) | exact Or.inr (Or.inr rfl)) (by decide) (by decide)) (av_cons (e_var (by rfl) (by first | exact Or.inl rfl | exact Or.inr (Or.inl rfl) | exact Or.inr (Or.inr rfl)) (by decide) (by decide)) (av_nil) (by rfl)) (by rfl)) (by decide) (by rfl) (by rfl)) (ev_int) (by intro _ _; rfl)) (av_nil) (by rfl)))) (by rfl) (by first | exact Or.inl rfl | exact Or.inr rfl)) (bv_cons (wi_D _) (sv_set sc_lone_in.nd (by rfl) (by first | exact .inl rfl | exact .inr rfl) (ev_ix (ev_ix (ev_ix (e_var (by rfl) (by first | exact Or.inl rfl | exact Or.inr (Or.inl rfl) | exact Or.inr (Or.inr rfl)) (by decide) (by decide)) (ev_int) (by intro _ _; rfl)) (ev_ix (e_var (by rfl) (by first | exact Or.inl rfl | exact Or.inr (Or.inl rfl) | exact Or.inr (Or.inr rfl)) (by decide) (by decide)) (ev_neg (ev_int)) (by intro _ _; rfl)) (by intro _ _; rfl)) (ev_int) (by intro _ _; rfl)) (by rfl) (by first | exact Or.inl rfl | exact Or.inr rfl)) (bv_one (sv_if (wi_D _) (tv_cp (c_eqC hr) (e_var (by rfl) (by first | exact Or.inl rfl | exact Or.inr (Or.inl rfl) | exact Or.inr (Or.inr rfl)) (by decide) (by decide)) (e_var (by rfl) (by first | exact Or.inl rfl | exact Or.inr (Or.inl rfl) | exact Or.inr (Or.inr rfl)) (by decide) (by decide)) (by first | exact nomark _ | rfl)) (bv_cons (wi_D _) (sv_if (wi_D _) (tv_cp (c_eqC hr) (ev_ix (e_var (by rfl) (by first | exact Or.inl rfl | exact Or.inr (Or.inl rfl) | exact Or.inr (Or.inr rfl)) (by decide) (by decide)) (ev_int) (by intro _ _; rfl)) (e_minT (by rfl) (by rfl) (by rfl) (by rfl) T.n_min (av_cons (e_var (by rfl) (by first | exact Or.inl rfl | exact Or.inr (Or.inl rfl) | exact Or.inr (Or.inr rfl)) (by decide) (by decide)) (av_nil) (by rfl))) (by first | exact nomark _ | rfl)) (bv_one (sv_expr (ev_app (pv 1 (by rfl) (by first | exact Or.inl rfl | exact Or.inr (Or.inl rfl) | exact Or.inr (Or.inr rfl)) (by decide) (by decide)) (e_var (by rfl) (by first | exact Or.inl rfl | exact Or.inr (Or.inl rfl) | exact Or.inr (Or.inr rfl)) (by decide) (by decide)) (by rfl) (by rfl) (by rfl) (by rfl) (by rfl)) (by rfl))) (bv_nil)) (bv_one (sv_break))) (bv_nil)))))))) (by intro _; rfl)) (bv_one (sv_ret (e_sorted (by rfl) (by rfl) hr (by rfl) T.n_sorted (av_cons (e_var (by rfl) (by first | exact Or.inl rfl | exact Or.inr (Or.inl rfl) | exact Or.inr (Or.inr rfl)) (by decide) (by decide)) (av_nil) (by rfl))))))
abbrev N_lone_rounds : List PySem.Str := ["web"]
theorem sc_lone_rounds : FnScope N_lone_rounds ["web"] (defScope s_lone_rounds) := ⟨rfl, rfl, rfl, by decide +kernel, rfl, by decide +kernel, by decide +kernel⟩
def m_lone_rounds : M Fl := mRet (mCall 1 none F_lone_in (mCons (mCall 1 none F_sure_web (mCons (mVar 0) (mNil))) (mNil)))
def F_lone_rounds : FD := runF 1 none m_lone_rounds
theorem ok_lone_rounds (T : Wd K mg) : Ok P w K mg base "lone_rounds" s_lone_rounds 28 ["web"] none F_lone_rounds := by
  have o_lone_in := ok_lone_in (P := P) (w := w) (base := base) T
  have o_sure_web := ok_sure_web (P := P) (w := w) (base := base) T
  refine ok_of (k := 27) (mb := m_lone_rounds) T.d_lone_rounds sc_lone_rounds rfl (by decide) fun f cdv A outer s H E hr => ?_
  exact bv_one (sv_ret (e_call o_lone_in (by rfl) hr (by decide) (by rfl) tkD (av_cons (e_call o_sure_web (by rfl) hr (by decide) (by rfl) tkD (av_cons (e_var (by rfl) (by first | exact Or.inl rfl | exact Or.inr (Or.inl rfl) | exact Or.inr (Or.inr rfl)) (by decide) (by decide)) (av_nil) (by rfl)) (by decide) (by rfl) (by rfl)) (av_nil) (by rfl)) (by decide) (by rfl) (by rfl)))
abbrev N_on_round : List PySem.Str := ["web", "place", "own"]
theorem sc_on_round : FnScope N_on_round ["web", "place"] (defScope s_on_round) := ⟨rfl, rfl, rfl, by decide +kernel, rfl, by decide +kernel, by decide +kernel⟩
def x_on_round_1 : M Rv := mLc [2] (mSeqI (mCall 2 none F_out_of (mCons (mVar 0) (mCons (mVar 1) (mNil))))) (turn1 [2] (gSet 2) (mYes) (mB (b2 (dInC false)) (mVar 1) (mCall 2 none F_reached_in (mCons (mVar 0) (mCons (mB dIx (mB dIx (mB dIx (mVar 0) (mInt 1)) (mVar 2)) (mInt 1)) (mNil))))))
def m_on_round : M Fl := mRet (mOps dAny (mCons (x_on_round_1) (mNil)))
def F_on_round : FD := runF 3 none m_on_round
theorem ok_on_round (T : Wd K mg) : Ok P w K mg base "on_round" s_on_round 3 ["web", "place"] none F_on_round := by
  have o_out_of := ok_out_of (P := P) (w := w) (base := base) T
  have o_reached_in := ok_reached_in (P := P) (w := w) (base := base) T
  refine ok_of (k := 2) (mb := m_on_round) T.d_on_round sc_on_round rfl (by decide) fun f cdv A outer s H E hr => ?_
  exact bv_one (sv_ret (e_any (by rfl) (by rfl) (by rfl) (by rfl) T.n_any (av_cons (ev_lc (by rfl) sc_on_round.nd (iv_seq (e_call o_out_of (by rfl) hr (by decide) (by rfl) tkD (av_cons (e_var (by rfl) (by first | exact Or.inl rfl | exact Or.inr (Or.inl rfl) | exact Or.inr (Or.inr rfl)) (by decide) (by decide)) (av_cons (e_var (by rfl) (by first | exact Or.inl rfl | exact Or.inr (Or.inl rfl) | exact Or.inr (Or.inr rfl)) (by decide) (by decide)) (av_nil) (by rfl)) (by rfl)) (by decide) (by rfl) (by rfl))) (own := [("own", 2)]) (blkOk_by (by kernel_rfl)) rfl (fun s H C cl fp => gv_name sc_on_round.nd (by rfl) (by first | exact .inl rfl | exact .inr rfl) (by first | exact Or.inl rfl | exact Or.inr rfl)) (by decide) (noEx_set 2) (fun s H C cl fp => cv_nil) (fun s H C cl fp => ev_cp (c_inC hr) (e_var (by rfl) (by first | exact Or.inl rfl | exact Or.inr (Or.inl rfl) | exact Or.inr (Or.inr rfl)) (by decide) (by decide)) (e_call o_reached_in (by rfl) hr (by decide) (by rfl) tkF (av_cons (e_var (by rfl) (by first | exact Or.inl rfl | exact Or.inr (Or.inl rfl) | exact Or.inr (Or.inr rfl)) (by decide) (by decide)) (av_cons (ev_ix (ev_ix (ev_ix (e_var (by rfl) (by first | exact Or.inl rfl | exact Or.inr (Or.inl rfl) | exact Or.inr (Or.inr rfl)) (by decide) (by decide)) (ev_int) (by intro _ _; rfl)) (e_var (by rfl) (by first | exact Or.inl rfl | exact Or.inr (Or.inl rfl) | exact Or.inr (Or.inr rfl)) (by decide) (by decide)) (by intro _ _; rfl)) (ev_int) (by intro _ _; rfl)) (av_nil) (by rfl)) (by rfl)) (by decide) (by rfl) (by rfl)) (by first | exact nomark _ | rfl)) (by intro _; rfl)) (av_nil) (by rfl))))
abbrev N_leads_to_round : List PySem.Str := ["web", "place", "own", "here", "near"]
theorem sc_leads_to_round : FnScope N_leads_to_round ["web", "place"] (defScope s_leads_to_round) := ⟨rfl, rfl, rfl, by decide +kernel, rfl, by decide +kernel, by decide +kernel⟩
def x_leads_to_round_1 : M Rv := mLc [4] (mSeqI (mCall 2 none F_reached_in (mCons (mVar 2) (mCons (mVar 3) (mNil))))) (turn1 [4] (gSet 4) (mYes) (mCall 2 none F_on_round (mCons (mVar 2) (mCons (mVar 4) (mNil)))))
def m_leads_to_round : M Fl := mSeq (mSet 2 (mCall 1 none F_sure_web (mCons (mVar 0) (mNil)))) (mSeq (mSet 3 (mCall 2 none F_sure_place (mCons (mVar 2) (mCons (mVar 1) (mNil))))) (mRet (mOps dAny (mCons (x_leads_to_round_1) (mNil)))))
def F_leads_to_round : FD := runF 5 none m_leads_to_round
theorem ok_leads_to_round (T : Wd K mg) : Ok P w K mg base "leads_to_round" s_leads_to_round 28 ["web", "place"] none F_leads_to_round := by
  have o_on_round := ok_on_round (P := P) (w := w) (base := base) T
  have o_reached_in := ok_reached_in (P := P) (w := w) (base := base) T
  have o_sure_place := ok_sure_place (P := P) (w := w) (base := base) T
  have o_sure_web := ok_sure_web (P := P) (w := w) (base := base) T
  refine ok_of (k := 27) (mb := m_leads_to_round) T.d_leads_to_round sc_leads_to_round rfl (by decide) fun f cdv A outer s H E hr => ?_
  exact bv_cons (wi_D _) (sv_set sc_leads_to_round.nd (by rfl) (by first | exact .inl rfl | exact .inr rfl) (e_call o_sure_web (by rfl) hr (by decide) (by rfl) tkD (av_cons (e_var (by rfl) (by first | exact Or.inl rfl | exact Or.inr (Or.inl rfl) | exact Or.inr (Or.inr rfl)) (by decide) (by decide)) (av_nil) (by rfl)) (by decide) (by rfl) (by rfl)) (by rfl) (by first | exact Or.inl rfl | exact Or.inr rfl)) (bv_cons (wi_D _) (sv_set sc_leads_to_round.nd (by rfl) (by first | exact .inl rfl | exact .inr rfl) (e_call o_sure_place (by rfl) hr (by decide) (by rfl) tkD (av_cons (e_var (by rfl) (by first | exact Or.inl rfl | exact Or.inr (Or.inl rfl) | exact Or.inr (Or.inr rfl)) (by decide) (by decide)) (av_cons (e_var (by rfl) (by first | exact Or.inl rfl | exact Or.inr (Or.inl rfl) | exact Or.inr (Or.inr rfl)) (by decide) (by decide)) (av_nil) (by rfl)) (by rfl)) (by decide) (by rfl) (by rfl)) (by rfl) (by first | exact Or.inl rfl | exact Or.inr rfl)) (bv_one (sv_ret (e_any (by rfl) (by rfl) (by rfl) (by rfl) T.n_any (av_cons (ev_lc (by rfl) sc_leads_to_round.nd (iv_seq (e_call o_reached_in (by rfl) hr (by decide) (by rfl) tkD (av_cons (e_var (by rfl) (by first | exact Or.inl rfl | exact Or.inr (Or.inl rfl) | exact Or.inr (Or.inr rfl)) (by decide) (by decide)) (av_cons (e_var (by rfl) (by first | exact Or.inl rfl | exact Or.inr (Or.inl rfl) | exact Or.inr (Or.inr rfl)) (by decide) (by decide)) (av_nil) (by rfl)) (by rfl)) (by decide) (by rfl) (by rfl))) (own := [("near", 4)]) (blkOk_by (by kernel_rfl)) rfl (fun s H C cl fp => gv_name sc_leads_to_round.nd (by rfl) (by first | exact .inl rfl | exact .inr rfl) (by first | exact Or.inl rfl | exact Or.inr rfl)) (by decide) (noEx_set 4) (fun s H C cl fp => cv_nil) (fun s H C cl fp => e_call o_on_round (by rfl) hr (by decide) (by rfl) tkF (av_cons (e_var (by rfl) (by first | exact Or.inl rfl | exact Or.inr (Or.inl rfl) | exact Or.inr (Or.inr rfl)) (by decide) (by decide)) (av_cons (e_var (by rfl) (by first | exact Or.inl rfl | exact Or.inr (Or.inl rfl) | exact Or.inr (Or.inr rfl)) (by decide) (by decide)) (av_nil) (by rfl)) (by rfl)) (by decide) (by rfl) (by rfl)) (by intro _; rfl)) (av_nil) (by rfl))))))
abbrev N_has_rounds_in : List PySem.Str := ["web", "place"]
theorem sc_has_rounds_in : FnScope N_has_rounds_in ["web"] (defScope s_has_rounds_in) := ⟨rfl, rfl, rfl, by decide +kernel, rfl, by decide +kernel, by decide +kernel⟩
def x_has_rounds_in_1 : M Rv := mLc [1] (mRange1 (mB dIx (mVar 0) (mInt 0))) (turn1 [1] (gSet 1) (mYes) (mCall 2 none F_on_round (mCons (mVar 0) (mCons (mVar 1) (mNil)))))
def m_has_rounds_in : M Fl := mRet (mOps dAny (mCons (x_has_rounds_in_1) (mNil)))
def F_has_rounds_in : FD := runF 2 none m_has_rounds_in
theorem ok_has_rounds_in (T : Wd K mg) : Ok P w K mg base "has_rounds_in" s_has_rounds_in 4 ["web"] none F_has_rounds_in := by
  have o_on_round := ok_on_round (P := P) (w := w) (base := base) T
  refine ok_of (k := 3) (mb := m_has_rounds_in) T.d_has_rounds_in sc_has_rounds_in rfl (by decide) fun f cdv A outer s H E hr => ?_
  exact bv_one (sv_ret (e_any (by rfl) (by rfl) (by rfl) (by rfl) T.n_any (av_cons (ev_lc (by rfl) sc_has_rounds_in.nd (iv_range1 (by rfl) T.n_range (ev_ix (e_var (by rfl) (by first | exact Or.inl rfl | exact Or.inr (Or.inl rfl) | exact Or.inr (Or.inr rfl)) (by decide) (by decide)) (ev_int) (by intro _ _; rfl)) (by rfl)) (own := [("place", 1)]) (blkOk_by (by kernel_rfl)) rfl (fun s H C cl fp => gv_name sc_has_rounds_in.nd (by rfl) (by first | exact .inl rfl | exact .inr rfl) (by first | exact Or.inl rfl | exact Or.inr rfl)) (by decide) (noEx_set 1) (fun s H C cl fp => cv_nil) (fun s H C cl fp => e_call o_on_round (by rfl) hr (by decide) (by rfl) tkF (av_cons (e_var (by rfl) (by first | exact Or.inl rfl | exact Or.inr (Or.inl rfl) | exact Or.inr (Or.inr rfl)) (by decide) (by decide)) (av_cons (e_var (by rfl) (by first | exact Or.inl rfl | exact Or.inr (Or.inl rfl) | exact Or.inr (Or.inr rfl)) (by decide) (by decide)) (av_nil) (by rfl)) (by rfl)) (by decide) (by rfl) (by rfl)) (by intro _; rfl)) (av_nil) (by rfl))))
abbrev N_has_rounds : List PySem.Str := ["web"]
theorem sc_has_rounds : FnScope N_has_rounds ["web"] (defScope s_has_rounds) := ⟨rfl, rfl, rfl, by decide +kernel, rfl, by decide +kernel, by decide +kernel⟩
def m_has_rounds : M Fl := mRet (mCall 1 none F_has_rounds_in (mCons (mCall 1 none F_sure_web (mCons (mVar 0) (mNil))) (mNil)))
def F_has_rounds : FD := runF 1 none m_has_rounds
theorem ok_has_rounds (T : Wd K mg) : Ok P w K mg base "has_rounds" s_has_rounds 28 ["web"] none F_has_rounds := by
  have o_has_rounds_in := ok_has_rounds_in (P := P) (w := w) (base := base) T
  have o_sure_web := ok_sure_web (P := P) (w := w) (base := base) T
  refine ok_of (k := 27) (mb := m_has_rounds) T.d_has_rounds sc_has_rounds rfl (by decide) fun f cdv A outer s H E hr => ?_
  exact bv_one (sv_ret (e_call o_has_rounds_in (by rfl) hr (by decide) (by rfl) tkD (av_cons (e_call o_sure_web (by rfl) hr (by decide) (by rfl) tkD (av_cons (e_var (by rfl) (by first | exact Or.inl rfl | exact Or.inr (Or.inl rfl) | exact Or.inr (Or.inr rfl)) (by decide) (by decide)) (av_nil) (by rfl)) (by decide) (by rfl) (by rfl)) (av_nil) (by rfl)) (by decide) (by rfl) (by rfl)))
abbrev N__law_box : List PySem.Str := ["script", "k", "bit_so"]
theorem sc__law_box : FnScope N__law_box ["script", "k"] (defScope s__law_box) := ⟨rfl, rfl, rfl, by decide +kernel, rfl, by decide +kernel, by decide +kernel⟩
def m__law_box : M Fl := mSeq (mSet 2 (mIf (mT2 dLt (mVar 1) (mOps dLen (mCons (mVar 0) (mNil)))) (mB dIx (mVar 0) (mVar 1)) (mInt 0))) (mRet (mLst (mCons (mB dMul (mOps dAbs (mCons (mVar 2) (mNil))) (mOps dInt (mCons (mB (b2 dGe) (mOps dAbs (mCons (mVar 2) (mNil))) (mB dPow (mInt 10) (mInt 18))) (mNil)))) (mCons (mB dAdd (mB dAdd (mB dMod (mOps dInt (mCons (mVar 2) (mNil))) (mInt 2305843009213693951)) (mB dMul (mInt 39373) (mVar 1))) (mInt 8900000)) (mCons (mInt 0) (mNil))))))
def F__law_box : FD := runF 3 none m__law_box
theorem ok__law_box (T : Wd K mg) : Ok P w K mg base "_law_box" s__law_box 2 ["script", "k"] none F__law_box := by
  refine ok_of (k := 1) (mb := m__law_box) T.d__law_box sc__law_box rfl (by decide) fun f cdv A outer s H E hr => ?_
  exact bv_cons (wi_D _) (sv_set sc__law_box.nd (by rfl) (by first | exact .inl rfl | exact .inr rfl) (ev_if (tv_cp c_lt (e_var (by rfl) (by first | exact Or.inl rfl | exact Or.inr (Or.inl rfl) | exact Or.inr (Or.inr rfl)) (by decide) (by decide)) (e_len (by rfl) (by rfl) (by rfl) T.n_len (av_cons (e_var (by rfl) (by first | exact Or.inl rfl | exact Or.inr (Or.inl rfl) | exact Or.inr (Or.inr rfl)) (by decide) (by decide)) (av_nil) (by rfl))) (by first | exact nomark _ | rfl)) (ev_ix (e_var (by rfl) (by first | exact Or.inl rfl | exact Or.inr (Or.inl rfl) | exact Or.inr (Or.inr rfl)) (by decide) (by decide)) (e_var (by rfl) (by first | exact Or.inl rfl | exact Or.inr (Or.inl rfl) | exact Or.inr (Or.inr rfl)) (by decide) (by decide)) (by intro _ _; rfl)) (ev_int)) (by rfl) (by first | exact Or.inl rfl | exact Or.inr rfl)) (bv_one (sv_ret (ev_lst (av_cons (ev_mul (e_abs (by rfl) (by rfl) (by rfl) T.n_abs (av_cons (e_var (by rfl) (by first | exact Or.inl rfl | exact Or.inr (Or.inl rfl) | exact Or.inr (Or.inr rfl)) (by decide) (by decide)) (av_nil) (by rfl))) (e_int (by rfl) (by rfl) (by rfl) T.n_int (av_cons (ev_cp c_ge (e_abs (by rfl) (by rfl) (by rfl) T.n_abs (av_cons (e_var (by rfl) (by first | exact Or.inl rfl | exact Or.inr (Or.inl rfl) | exact Or.inr (Or.inr rfl)) (by decide) (by decide)) (av_nil) (by rfl))) (ev_pow (ev_int) (ev_int)) (by first | exact nomark _ | rfl)) (av_nil) (by rfl)))) (av_cons (ev_add (ev_add (ev_mod (e_int (by rfl) (by rfl) (by rfl) T.n_int (av_cons (e_var (by rfl) (by first | exact Or.inl rfl | exact Or.inr (Or.inl rfl) | exact Or.inr (Or.inr rfl)) (by decide) (by decide)) (av_nil) (by rfl))) (ev_int)) (ev_mul (ev_int) (e_var (by rfl) (by first | exact Or.inl rfl | exact Or.inr (Or.inl rfl) | exact Or.inr (Or.inr rfl)) (by decide) (by decide)))) (ev_int)) (av_cons (ev_int) (av_nil) (by rfl)) (by rfl)) (by rfl)))))
abbrev N__law_take : List PySem.Str := ["tin", "below_so", "once_so", "wide_so", "twice_so", "drawn_so"]
theorem sc__law_take : FnScope N__law_take ["tin", "below_so"] (defScope s__law_take) := ⟨rfl, rfl, rfl, by decide +kernel, rfl, by decide +kernel, by decide +kernel⟩
def m__law_take : M Fl := mSeq (mIf (mT2 dGt (mB dIx (mVar 0) (mInt 0)) (mInt 0)) (mSeq (mSet 5 (mB dMod (mOps dInt (mCons (mB dIx (mVar 0) (mInt 0)) (mNil))) (mVar 1))) (mSeq (mDrop (mSetAt 0 (mB dDiv (mB dIx (mVar 0) (mInt 0)) (mVar 1)) (mInt 0))) (mRet (mVar 5)))) (mNx)) (mSeq (mDrop (mSetAt 0 (mB dAdd (mB dIx (mVar 0) (mInt 2)) (mInt 1)) (mInt 2))) (mSeq (mSet 2 (mB dMod (mOps dInt (mCons (mB dMul (mB dAdd (mB dIx (mVar 0) (mInt 1)) (mB dMul (mInt 48271) (mB dIx (mVar 0) (mInt 2)))) (mB dAdd (mInt 39373) (mB dIx (mVar 0) (mInt 2)))) (mNil))) (mInt 2147483647))) (mSeq (mSet 3 (mB dAdd (mB dMod (mOps dInt (mCons (mVar 2) (mNil))) (mInt 40009)) (mInt 7))) (mSeq (mSet 4 (mB dMod (mOps dInt (mCons (mB dMul (mB dAdd (mB dAdd (mVar 2) (mB dIx (mVar 0) (mInt 2))) (mB dDiv (mB dIx (mVar 0) (mInt 1)) (mInt 1000003))) (mVar 3)) (mNil))) (mInt 2147483629))) (mRet (mB dMod (mOps dInt (mCons (mB dDiv (mB dMod (mOps dInt (mCons (mB dAdd (mB dMul (mVar 4) (mInt 48271)) (mVar 2)) (mNil))) (mInt 2147483587)) (mInt 64)) (mNil))) (mVar 1)))))))
def F__law_take : FD := runF 6 (some 0) m__law_take
theorem ok__law_take (T : Wd K mg) : Ok P w K mg base "_law_take" s__law_take 2 ["tin", "below_so"] (some 0) F__law_take := by
  refine ok_of (k := 1) (mb := m__law_take) T.d__law_take sc__law_take rfl (by decide) fun f cdv A outer s H E hr => ?_
  exact bv_cons (wi_D _) (sv_if (wi_D _) (tv_cp c_gt (ev_ix (e_var (by rfl) (by first | exact Or.inl rfl | exact Or.inr (Or.inl rfl) | exact Or.inr (Or.inr rfl)) (by decide) (by decide)) (ev_int) (by intro _ _; rfl)) (ev_int) (by first | exact nomark _ | rfl)) (bv_cons (wi_D _) (sv_set sc__law_take.nd (by rfl) (by first | exact .inl rfl | exact .inr rfl) (ev_mod (e_int (by rfl) (by rfl) (by rfl) T.n_int (av_cons (ev_ix (e_var (by rfl) (by first | exact Or.inl rfl | exact Or.inr (Or.inl rfl) | exact Or.inr (Or.inr rfl)) (by decide) (by decide)) (ev_int) (by intro _ _; rfl)) (av_nil) (by rfl))) (e_var (by rfl) (by first | exact Or.inl rfl | exact Or.inr (Or.inl rfl) | exact Or.inr (Or.inr rfl)) (by decide) (by decide))) (by rfl) (by first | exact Or.inl rfl | exact Or.inr rfl)) (bv_cons (wi_D _) (sv_setAt (pv 0 (by rfl) (by first | exact Or.inl rfl | exact Or.inr (Or.inl rfl) | exact Or.inr (Or.inr rfl)) (by decide) (by decide)) (ev_int) (ev_div (ev_ix (e_var (by rfl) (by first | exact Or.inl rfl | exact Or.inr (Or.inl rfl) | exact Or.inr (Or.inr rfl)) (by decide) (by decide)) (ev_int) (by intro _ _; rfl)) (e_var (by rfl) (by first | exact Or.inl rfl | exact Or.inr (Or.inl rfl) | exact Or.inr (Or.inr rfl)) (by decide) (by decide))) (by intro _; rfl) (by rfl) (by rfl) (by rfl)) (bv_one (sv_ret (e_var (by rfl) (by first | exact Or.inl rfl | exact Or.inr (Or.inl rfl) | exact Or.inr (Or.inr rfl)) (by decide) (by decide)))))) (bv_nil)) (bv_cons (wi_D _) (sv_setAt (pv 0 (by rfl) (by first | exact Or.inl rfl | exact Or.inr (Or.inl rfl) | exact Or.inr (Or.inr rfl)) (by decide) (by decide)) (ev_int) (ev_add (ev_ix (e_var (by rfl) (by first | exact Or.inl rfl | exact Or.inr (Or.inl rfl) | exact Or.inr (Or.inr rfl)) (by decide) (by decide)) (ev_int) (by intro _ _; rfl)) (ev_int)) (by intro _; rfl) (by rfl) (by rfl) (by rfl)) (bv_cons (wi_D _) (sv_set sc__law_take.nd (by rfl) (by first | exact .inl rfl | exact .inr rfl) (ev_mod (e_int (by rfl) (by rfl) (by rfl) T.n_int (av_cons (ev_mul (ev_add (ev_ix (e_var (by rfl) (by first | exact Or.inl rfl | exact Or.inr (Or.inl rfl) | exact Or.inr (Or.inr rfl)) (by decide) (by decide)) (ev_int) (by intro _ _; rfl)) (ev_mul (ev_int) (ev_ix (e_var (by rfl) (by first | exact Or.inl rfl | exact Or.inr (Or.inl rfl) | exact Or.inr (Or.inr rfl)) (by decide) (by decide)) (ev_int) (by intro _ _; rfl)))) (ev_add (ev_int) (ev_ix (e_var (by rfl) (by first | exact Or.inl rfl | exact Or.inr (Or.inl rfl) | exact Or.inr (Or.inr rfl)) (by decide) (by decide)) (ev_int) (by intro _ _; rfl)))) (av_nil) (by rfl))) (ev_int)) (by rfl) (by first | exact Or.inl rfl | exact Or.inr rfl)) (bv_cons (wi_D _) (sv_set sc__law_take.nd (by rfl) (by first | exact .inl rfl | exact .inr rfl) (ev_add (ev_mod (e_int (by rfl) (by rfl) (by rfl) T.n_int (av_cons (e_var (by rfl) (by first | exact Or.inl rfl | exact Or.inr (Or.inl rfl) | exact Or.inr (Or.inr rfl)) (by decide) (by decide)) (av_nil) (by rfl))) (ev_int)) (ev_int)) (by rfl) (by first | exact Or.inl rfl | exact Or.inr rfl)) (bv_cons (wi_D _) (sv_set sc__law_take.nd (by rfl) (by first | exact .inl rfl | exact .inr rfl) (ev_mod (e_int (by rfl) (by rfl) (by rfl) T.n_int (av_cons (ev_mul (ev_add (ev_add (e_var (by rfl) (by first | exact Or.inl rfl | exact Or.inr (Or.inl rfl) | exact Or.inr (Or.inr rfl)) (by decide) (by decide)) (ev_ix (e_var (by rfl) (by first | exact Or.inl rfl | exact Or.inr (Or.inl rfl) | exact Or.inr (Or.inr rfl)) (by decide) (by decide)) (ev_int) (by intro _ _; rfl))) (ev_div (ev_ix (e_var (by rfl) (by first | exact Or.inl rfl | exact Or.inr (Or.inl rfl) | exact Or.inr (Or.inr rfl)) (by decide) (by decide)) (ev_int) (by intro _ _; rfl)) (ev_int))) (e_var (by rfl) (by first | exact Or.inl rfl | exact Or.inr (Or.inl rfl) | exact Or.inr (Or.inr rfl)) (by decide) (by decide))) (av_nil) (by rfl))) (ev_int)) (by rfl) (by first | exact Or.inl rfl | exact Or.inr rfl)) (bv_one (sv_ret (ev_mod (e_int (by rfl) (by rfl) (by rfl) T.n_int (av_cons (ev_div (ev_mod (e_int (by rfl) (by rfl) (by rfl) T.n_int (av_cons (ev_add (ev_mul (e_var (by rfl) (by first | exact Or.inl rfl | exact Or.inr (Or.inl rfl) | exact Or.inr (Or.inr rfl)) (by decide) (by decide)) (ev_int)) (e_var (by rfl) (by first | exact Or.inl rfl | exact Or.inr (Or.inl rfl) | exact Or.inr (Or.inr rfl)) (by decide) (by decide))) (av_nil) (by rfl))) (ev_int)) (ev_int)) (av_nil) (by rfl))) (e_var (by rfl) (by first | exact Or.inl rfl | exact Or.inr (Or.inl rfl) | exact Or.inr (Or.inr rfl)) (by decide) (by decide)))))))))
abbrev N__law_cells : List PySem.Str := ["script", "most_so", "cells_so", "k", "bit_so", "at_so"]
theorem sc__law_cells : FnScope N__law_cells ["script", "most_so"] (defScope s__law_cells) := ⟨rfl, rfl, rfl, by decide +kernel, rfl, by decide +kernel, by decide +kernel⟩
def x__law_cells_1 : M Fl := mFor (mEnum (mSlice (mVar 0) (mOpt (mVar 1)) (mOpt (mInt 63)))) (gUnp 2 (gsCons (gSet 3) (gsCons (gSet 4) (gsNil)))) (mSeq (mSet 5 (mB dMod (mOps dInt (mCons (mVar 3) (mNil))) (mVar 1))) (mDrop (mSetAt 2 (mB dAdd (mB dIx (mVar 2) (mVar 5)) (mB dMul (mVar 4) (mB dAdd (mVar 3) (mInt 2)))) (mVar 5))))
def m__law_cells : M Fl := mSeq (mSet 2 (mOrV (mOps dListOf (mCons (mSlice (mVar 0) (mNone) (mOpt (mVar 1))) (mNil))) (mLst (mCons (mInt 0) (mNil))))) (mSeq (x__law_cells_1) (mRet (mVar 2)))
def F__law_cells : FD := runF 6 none m__law_cells
theorem ok__law_cells (T : Wd K mg) : Ok P w K mg base "_law_cells" s__law_cells 2 ["script", "most_so"] none F__law_cells := by
  refine ok_of (k := 1) (mb := m__law_cells) T.d__law_cells sc__law_cells rfl (by decide) fun f cdv A outer s H E hr => ?_
  exact bv_cons (wi_D _) (sv_set sc__law_cells.nd (by rfl) (by first | exact .inl rfl | exact .inr rfl) (ev_or (e_list (by rfl) (by rfl) (by rfl) T.n_list (av_cons (ev_slice (e_var (by rfl) (by first | exact Or.inl rfl | exact Or.inr (Or.inl rfl) | exact Or.inr (Or.inr rfl)) (by decide) (by decide)) (ov_none) (ov_some (e_var (by rfl) (by first | exact Or.inl rfl | exact Or.inr (Or.inl rfl) | exact Or.inr (Or.inr rfl)) (by decide) (by decide)))) (av_nil) (by rfl))) (ev_and1 (ev_lst (av_cons (ev_int) (av_nil) (by rfl))))) (by rfl) (by first | exact Or.inl rfl | exact Or.inr rfl)) (bv_cons (wi_D _) (sv_for (wi_D _) ppD (by rfl) (iv_enum (by rfl) T.n_enumerate (ev_slice (e_var (by rfl) (by first | exact Or.inl rfl | exact Or.inr (Or.inl rfl) | exact Or.inr (Or.inr rfl)) (by decide) (by decide)) (ov_some (e_var (by rfl) (by first | exact Or.inl rfl | exact Or.inr (Or.inl rfl) | exact Or.inr (Or.inr rfl)) (by decide) (by decide))) (ov_some (ev_int))) (by rfl)) (gv_tup (by rfl) (gvs_cons (gv_name sc__law_cells.nd (by rfl) (by first | exact .inl rfl | exact .inr rfl) (by first | exact Or.inl rfl | exact Or.inr rfl)) (gvs_cons (gv_name sc__law_cells.nd (by rfl) (by first | exact .inl rfl | exact .inr rfl) (by first | exact Or.inl rfl | exact Or.inr rfl)) (gvs_nil) (by rfl)) (by rfl)) (by rfl) (by rfl)) (noEx_unp (noEx_cons (noEx_set 3) (noEx_cons (noEx_set 4) (noEx_nil)))) (bv_cons (wi_D _) (sv_set sc__law_cells.nd (by rfl) (by first | exact .inl rfl | exact .inr rfl) (ev_mod (e_int (by rfl) (by rfl) (by rfl) T.n_int (av_cons (e_var (by rfl) (by first | exact Or.inl rfl | exact Or.inr (Or.inl rfl) | exact Or.inr (Or.inr rfl)) (by decide) (by decide)) (av_nil) (by rfl))) (e_var (by rfl) (by first | exact Or.inl rfl | exact Or.inr (Or.inl rfl) | exact Or.inr (Or.inr rfl)) (by decide) (by decide))) (by rfl) (by first | exact Or.inl rfl | exact Or.inr rfl)) (bv_one (sv_setAt (pv 2 (by rfl) (by first | exact Or.inl rfl | exact Or.inr (Or.inl rfl) | exact Or.inr (Or.inr rfl)) (by decide) (by decide)) (e_var (by rfl) (by first | exact Or.inl rfl | exact Or.inr (Or.inl rfl) | exact Or.inr (Or.inr rfl)) (by decide) (by decide)) (ev_add (ev_ix (e_var (by rfl) (by first | exact Or.inl rfl | exact Or.inr (Or.inl rfl) | exact Or.inr (Or.inr rfl)) (by decide) (by decide)) (e_var (by rfl) (by first | exact Or.inl rfl | exact Or.inr (Or.inl rfl) | exact Or.inr (Or.inr rfl)) (by decide) (by decide)) (by intro _ _; rfl)) (ev_mul (e_var (by rfl) (by first | exact Or.inl rfl | exact Or.inr (Or.inl rfl) | exact Or.inr (Or.inr rfl)) (by decide) (by decide)) (ev_add (e_var (by rfl) (by first | exact Or.inl rfl | exact Or.inr (Or.inl rfl) | exact Or.inr (Or.inr rfl)) (by decide) (by decide)) (ev_int)))) (by intro _; rfl) (by rfl) (by rfl) (by rfl)))) (by intro _; rfl)) (bv_one (sv_ret (e_var (by rfl) (by first | exact Or.inl rfl | exact Or.inr (Or.inl rfl) | exact Or.inr (Or.inr rfl)) (by decide) (by decide)))))
abbrev N__law_of : List PySem.Str := ["tin", "goods_so"]
theorem sc__law_of : FnScope N__law_of ["tin", "goods_so"] (defScope s__law_of) := ⟨rfl, rfl, rfl, by decide +kernel, rfl, by decide +kernel, by decide +kernel⟩
def m__law_of : M Fl := mRet (mB dIx (mVar 1) (mCall 2 (some 0) F__law_take (mCons (mVar 0) (mCons (mOps dLen (mCons (mVar 1) (mNil))) (mNil)))))
def F__law_of : FD := runF 2 (some 0) m__law_of
theorem ok__law_of (T : Wd K mg) : Ok P w K mg base "_law_of" s__law_of 3 ["tin", "goods_so"] (some 0) F__law_of := by
  have o__law_take := ok__law_take (P := P) (w := w) (base := base) T
  refine ok_of (k := 2) (mb := m__law_of) T.d__law_of sc__law_of rfl (by decide) fun f cdv A outer s H E hr => ?_
  exact bv_one (sv_ret (ev_ix (e_var (by rfl) (by first | exact Or.inl rfl | exact Or.inr (Or.inl rfl) | exact Or.inr (Or.inr rfl)) (by decide) (by decide)) (e_call o__law_take (by rfl) hr (by decide) (by rfl) tkD (av_cons (e_var (by rfl) (by first | exact Or.inl rfl | exact Or.inr (Or.inl rfl) | exact Or.inr (Or.inr rfl)) (by decide) (by decide)) (av_cons (e_len (by rfl) (by rfl) (by rfl) T.n_len (av_cons (e_var (by rfl) (by first | exact Or.inl rfl | exact Or.inr (Or.inl rfl) | exact Or.inr (Or.inr rfl)) (by decide) (by decide)) (av_nil) (by rfl))) (av_nil) (by rfl)) (by rfl)) (by decide) (by rfl) (by rfl)) (by intro _ _; rfl)))
abbrev N__law_mixed : List PySem.Str := ["tin", "matter", "row_so", "bit"]
theorem sc__law_mixed : FnScope N__law_mixed ["tin", "matter"] (defScope s__law_mixed) := ⟨rfl, rfl, rfl, by decide +kernel, rfl, by decide +kernel, by decide +kernel⟩
def x__law_mixed_1 (R : FD) : M Rv := mLc [3] (mSeqI (mVar 1)) (turn1 [3] (gSet 3) (mYes) (mCall 2 (some 0) R (mCons (mVar 0) (mCons (mVar 3) (mNil)))))
def m__law_mixed (R : FD) : M Fl := mSeq (mIf (mNotT (mIsi [.lst, .tup] (mVar 1))) (mRet (mVar 1)) (mNx)) (mSeq (mSet 2 (x__law_mixed_1 R)) (mRet (mIf (mT2 dEqC (mCall 2 (some 0) F__law_take (mCons (mVar 0) (mCons (mInt 2) (mNil)))) (mInt 0)) (mVar 2) (mOps dTupleOf (mCons (mVar 2) (mNil))))))
def F__law_mixed : Nat → FD
  | 0 => fun _ => .bad
  | n + 1 => runF 4 (some 0) (m__law_mixed (F__law_mixed n))
theorem ok__law_mixed (T : Wd K mg) : ∀ n : Nat, Ok P w K mg base "_law_mixed" s__law_mixed (3 + 2 * n) ["tin", "matter"] (some 0) (F__law_mixed n)
  | 0 => ok_bad T.d__law_mixed
  | n + 1 => by
    have o__law_mixed := ok__law_mixed T n
    have o__law_take := ok__law_take (P := P) (w := w) (base := base) T
    refine ok_of (k := 3 + 2 * n + 1) (mb := m__law_mixed (F__law_mixed n)) T.d__law_mixed sc__law_mixed rfl (by decide) fun f cdv A outer s H E hr => ?_
    exact bv_cons (wi_D _) (sv_if (wi_D _) (tv_not (tv_asV (e_isi2 (e_var (by rfl) (by first | exact Or.inl rfl | exact Or.inr (Or.inl rfl) | exact Or.inr (Or.inr rfl)) (by decide) (by decide)) (ty_list (by rfl) T.n_list) (ty_tuple (by rfl) T.n_tuple) (by rfl) T.n_isinstance (by rfl) (by rfl) (by rfl) (by rfl) (by rfl)) (by intro _; rfl))) (bv_one (sv_ret (e_var (by rfl) (by first | exact Or.inl rfl | exact Or.inr (Or.inl rfl) | exact Or.inr (Or.inr rfl)) (by decide) (by decide)))) (bv_nil)) (bv_cons (wi_D _) ((by first | exact (sv_setLc (by rfl) sc__law_mixed.nd (by rfl) (by rfl) (by rfl) (iv_seq (e_var (by rfl) (by first | exact Or.inl rfl | exact Or.inr (Or.inl rfl) | exact Or.inr (Or.inr rfl)) (by decide) (by decide))) (own := [("bit", 3)]) (blkOk_by (by kernel_rfl)) rfl (fun s H C cl fp => gv_name sc__law_mixed.nd (by rfl) (by first | exact .inl rfl | exact .inr rfl) (by first | exact Or.inl rfl | exact Or.inr rfl)) (by decide) (noEx_set 3) (fun s H C cl fp => cv_nil) (fun s H C cl fp => e_call o__law_mixed (by rfl) hr (by omega) (by rfl) tkF (av_cons (e_var (by rfl) (by first | exact Or.inl rfl | exact Or.inr (Or.inl rfl) | exact Or.inr (Or.inr rfl)) (by decide) (by decide)) (av_cons (e_var (by rfl) (by first | exact Or.inl rfl | exact Or.inr (Or.inl rfl) | exact Or.inr (Or.inr rfl)) (by decide) (by decide)) (av_nil) (by rfl)) (by rfl)) (by decide) (by rfl) (by rfl)) (by intro _; rfl)) | exact (sv_set sc__law_mixed.nd (by rfl) (by first | exact .inl rfl | exact .inr rfl) (ev_lc (by rfl) sc__law_mixed.nd (iv_seq (e_var (by rfl) (by first | exact Or.inl rfl | exact Or.inr (Or.inl rfl) | exact Or.inr (Or.inr rfl)) (by decide) (by decide))) (own := [("bit", 3)]) (blkOk_by (by kernel_rfl)) rfl (fun s H C cl fp => gv_name sc__law_mixed.nd (by rfl) (by first | exact .inl rfl | exact .inr rfl) (by first | exact Or.inl rfl | exact Or.inr rfl)) (by decide) (noEx_set 3) (fun s H C cl fp => cv_nil) (fun s H C cl fp => e_call o__law_mixed (by rfl) hr (by omega) (by rfl) tkF (av_cons (e_var (by rfl) (by first | exact Or.inl rfl | exact Or.inr (Or.inl rfl) | exact Or.inr (Or.inr rfl)) (by decide) (by decide)) (av_cons (e_var (by rfl) (by first | exact Or.inl rfl | exact Or.inr (Or.inl rfl) | exact Or.inr (Or.inr rfl)) (by decide) (by decide)) (av_nil) (by rfl)) (by rfl)) (by decide) (by rfl) (by rfl)) (by intro _; rfl)) (by rfl) (by first | exact Or.inl rfl | exact Or.inr rfl)))) (bv_one (sv_ret (ev_if (tv_cp (c_eqC hr) (e_call o__law_take (by rfl) hr (by omega) (by rfl) tkD (av_cons (e_var (by rfl) (by first | exact Or.inl rfl | exact Or.inr (Or.inl rfl) | exact Or.inr (Or.inr rfl)) (by decide) (by decide)) (av_cons (ev_int) (av_nil) (by rfl)) (by rfl)) (by decide) (by rfl) (by rfl)) (ev_int) (by first | exact nomark _ | rfl)) (e_var (by rfl) (by first | exact Or.inl rfl | exact Or.inr (Or.inl rfl) | exact Or.inr (Or.inr rfl)) (by decide) (by decide)) (e_tuple (by rfl) (by rfl) (by rfl) T.n_tuple (av_cons (e_var (by rfl) (by first | exact Or.inl rfl | exact Or.inr (Or.inl rfl) | exact Or.inr (Or.inr rfl)) (by decide) (by decide)) (av_nil) (by rfl)))))))
abbrev N__law_same : List PySem.Str := ["got", "due", "mine", "its"]
theorem sc__law_same : FnScope N__law_same ["got", "due"] (defScope s__law_same) := ⟨rfl, rfl, rfl, by decide +kernel, rfl, by decide +kernel, by decide +kernel⟩
def x__law_same_1 (R : FD) : M Rv := mLc [2, 3] (mZip (mVar 0) (mVar 1)) (turn1 [2, 3] (gUnp 2 (gsCons (gSet 2) (gsCons (gSet 3) (gsNil)))) (mYes) (mCall 2 none R (mCons (mVar 2) (mCons (mVar 3) (mNil)))))
def m__law_same (R : FD) : M Fl := mSeq (mIf (mIsi [.lst, .tup] (mVar 1)) (mSeq (mIf (mOr (mT2 dNeC (asV (mIsi [.lst] (mVar 0))) (asV (mIsi [.lst] (mVar 1)))) (mT2 dNeC (asV (mIsi [.tup] (mVar 0))) (asV (mIsi [.tup] (mVar 1))))) (mRet (mBl false)) (mNx)) (mRet (mAndV (mB (b2 dEqC) (mOps dLen (mCons (mVar 0) (mNil))) (mOps dLen (mCons (mVar 1) (mNil)))) (mOps dAll (mCons (x__law_same_1 R) (mNil)))))) (mNx)) (mSeq (mIf (mT2 dIs (mVar 1) (mNon)) (mRet (mB (b2 dIs) (mVar 0) (mNon))) (mNx)) (mSeq (mIf (mIsi [.bl, .str] (mVar 1)) (mRet (mAndV (mB (b2 dEqC) (asV (mIsi [.bl] (mVar 0))) (asV (mIsi [.bl] (mVar 1)))) (mAndV (mB (b2 dEqC) (asV (mIsi [.str] (mVar 0))) (asV (mIsi [.str] (mVar 1)))) (mB (b2 dEqC) (mVar 0) (mVar 1))))) (mNx)) (mRet (mAndV (asV (mIsi [.int] (mVar 0))) (mAndV (mNotV (asV (mIsi [.bl] (mVar 0)))) (mB (b2 dEqC) (mVar 0) (mVar 1)))))))
def F__law_same : Nat → FD
  | 0 => fun _ => .bad
  | n + 1 => runF 4 none (m__law_same (F__law_same n))
theorem ok__law_same (T : Wd K mg) : ∀ n : Nat, Ok P w K mg base "_law_same" s__law_same (2 + 2 * n) ["got", "due"] none (F__law_same n)
  | 0 => ok_bad T.d__law_same
  | n + 1 => by
    have o__law_same := ok__law_same T n
    refine ok_of (k := 2 + 2 * n + 1) (mb := m__law_same (F__law_same n)) T.d__law_same sc__law_same rfl (by decide) fun f cdv A outer s H E hr => ?_
    exact bv_cons (wi_D _) (sv_if (wi_D _) (tv_asV (e_isi2 (e_var (by rfl) (by first | exact Or.inl rfl | exact Or.inr (Or.inl rfl) | exact Or.inr (Or.inr rfl)) (by decide) (by decide)) (ty_list (by rfl) T.n_list) (ty_tuple (by rfl) T.n_tuple) (by rfl) T.n_isinstance (by rfl) (by rfl) (by rfl) (by rfl) (by rfl)) (by intro _; rfl)) (bv_cons (wi_D _) (sv_if (wi_D _) ((wv_or (tv_cp (c_neC hr) (ev_isi (e_var (by rfl) (by first | exact Or.inl rfl | exact Or.inr (Or.inl rfl) | exact Or.inr (Or.inr rfl)) (by decide) (by decide)) (ty_list (by rfl) T.n_list) (by rfl) T.n_isinstance (by rfl) (by rfl) (by rfl)) (ev_isi (e_var (by rfl) (by first | exact Or.inl rfl | exact Or.inr (Or.inl rfl) | exact Or.inr (Or.inr rfl)) (by decide) (by decide)) (ty_list (by rfl) T.n_list) (by rfl) T.n_isinstance (by rfl) (by rfl) (by rfl)) (by first | exact nomark _ | rfl)) (wv_or1 (tv_cp (c_neC hr) (ev_isi (e_var (by rfl) (by first | exact Or.inl rfl | exact Or.inr (Or.inl rfl) | exact Or.inr (Or.inr rfl)) (by decide) (by decide)) (ty_tuple (by rfl) T.n_tuple) (by rfl) T.n_isinstance (by rfl) (by rfl) (by rfl)) (ev_isi (e_var (by rfl) (by first | exact Or.inl rfl | exact Or.inr (Or.inl rfl) | exact Or.inr (Or.inr rfl)) (by decide) (by decide)) (ty_tuple (by rfl) T.n_tuple) (by rfl) T.n_isinstance (by rfl) (by rfl) (by rfl)) (by first | exact nomark _ | rfl)))).tv) (bv_one (sv_ret (ev_bl))) (bv_nil)) (bv_one (sv_ret (ev_and (ev_cp (c_eqC hr) (e_len (by rfl) (by rfl) (by rfl) T.n_len (av_cons (e_var (by rfl) (by first | exact Or.inl rfl | exact Or.inr (Or.inl rfl) | exact Or.inr (Or.inr rfl)) (by decide) (by decide)) (av_nil) (by rfl))) (e_len (by rfl) (by rfl) (by rfl) T.n_len (av_cons (e_var (by rfl) (by first | exact Or.inl rfl | exact Or.inr (Or.inl rfl) | exact Or.inr (Or.inr rfl)) (by decide) (by decide)) (av_nil) (by rfl))) (by first | exact nomark _ | rfl)) (ev_and1 (e_all (by rfl) (by rfl) (by rfl) (by rfl) T.n_all (av_cons (ev_lc (by rfl) sc__law_same.nd (iv_zip (by rfl) T.n_zip (e_var (by rfl) (by first | exact Or.inl rfl | exact Or.inr (Or.inl rfl) | exact Or.inr (Or.inr rfl)) (by decide) (by decide)) (e_var (by rfl) (by first | exact Or.inl rfl | exact Or.inr (Or.inl rfl) | exact Or.inr (Or.inr rfl)) (by decide) (by decide)) (by rfl) (by rfl) (by rfl)) (own := [("mine", 2), ("its", 3)]) (blkOk_by (by kernel_rfl)) rfl (fun s H C cl fp => gv_tup (by rfl) (gvs_cons (gv_name sc__law_same.nd (by rfl) (by first | exact .inl rfl | exact .inr rfl) (by first | exact Or.inl rfl | exact Or.inr rfl)) (gvs_cons (gv_name sc__law_same.nd (by rfl) (by first | exact .inl rfl | exact .inr rfl) (by first | exact Or.inl rfl | exact Or.inr rfl)) (gvs_nil) (by rfl)) (by rfl)) (by rfl) (by rfl)) (by decide) (noEx_unp (noEx_cons (noEx_set 2) (noEx_cons (noEx_set 3) (noEx_nil)))) (fun s H C cl fp => cv_nil) (fun s H C cl fp => e_call o__law_same (by rfl) hr (by omega) (by rfl) tkF (av_cons (e_var (by rfl) (by first | exact Or.inl rfl | exact Or.inr (Or.inl rfl) | exact Or.inr (Or.inr rfl)) (by decide) (by decide)) (av_cons (e_var (by rfl) (by first | exact Or.inl rfl | exact Or.inr (Or.inl rfl) | exact Or.inr (Or.inr rfl)) (by decide) (by decide)) (av_nil) (by rfl)) (by rfl)) (by decide) (by rfl) (by rfl)) (by intro _; rfl)) (av_nil) (by rfl)))))))) (bv_nil)) (bv_cons (wi_D _) (sv_if (wi_D _) (tv_cp c_is (e_var (by rfl) (by first | exact Or.inl rfl | exact Or.inr (Or.inl rfl) | exact Or.inr (Or.inr rfl)) (by decide) (by decide)) (ev_non) (by first | exact nomark _ | rfl)) (bv_one (sv_ret (ev_cp c_is (e_var (by rfl) (by first | exact Or.inl rfl | exact Or.inr (Or.inl rfl) | exact Or.inr (Or.inr rfl)) (by decide) (by decide)) (ev_non) (by first | exact nomark _ | rfl)))) (bv_nil)) (bv_cons (wi_D _) (sv_if (wi_D _) (tv_asV (e_isi2 (e_var (by rfl) (by first | exact Or.inl rfl | exact Or.inr (Or.inl rfl) | exact Or.inr (Or.inr rfl)) (by decide) (by decide)) (ty_bool (by rfl) T.n_bool) (ty_str (by rfl) T.n_str) (by rfl) T.n_isinstance (by rfl) (by rfl) (by rfl) (by rfl) (by rfl)) (by intro _; rfl)) (bv_one (sv_ret (ev_and (ev_cp (c_eqC hr) (ev_isi (e_var (by rfl) (by first | exact Or.inl rfl | exact Or.inr (Or.inl rfl) | exact Or.inr (Or.inr rfl)) (by decide) (by decide)) (ty_bool (by rfl) T.n_bool) (by rfl) T.n_isinstance (by rfl) (by rfl) (by rfl)) (ev_isi (e_var (by rfl) (by first | exact Or.inl rfl | exact Or.inr (Or.inl rfl) | exact Or.inr (Or.inr rfl)) (by decide) (by decide)) (ty_bool (by rfl) T.n_bool) (by rfl) T.n_isinstance (by rfl) (by rfl) (by rfl)) (by first | exact nomark _ | rfl)) (ev_and (ev_cp (c_eqC hr) (ev_isi (e_var (by rfl) (by first | exact Or.inl rfl | exact Or.inr (Or.inl rfl) | exact Or.inr (Or.inr rfl)) (by decide) (by decide)) (ty_str (by rfl) T.n_str) (by rfl) T.n_isinstance (by rfl) (by rfl) (by rfl)) (ev_isi (e_var (by rfl) (by first | exact Or.inl rfl | exact Or.inr (Or.inl rfl) | exact Or.inr (Or.inr rfl)) (by decide) (by decide)) (ty_str (by rfl) T.n_str) (by rfl) T.n_isinstance (by rfl) (by rfl) (by rfl)) (by first | exact nomark _ | rfl)) (ev_and1 (ev_cp (c_eqC hr) (e_var (by rfl) (by first | exact Or.inl rfl | exact Or.inr (Or.inl rfl) | exact Or.inr (Or.inr rfl)) (by decide) (by decide)) (e_var (by rfl) (by first | exact Or.inl rfl | exact Or.inr (Or.inl rfl) | exact Or.inr (Or.inr rfl)) (by decide) (by decide)) (by first | exact nomark _ | rfl))))))) (bv_nil)) (bv_one (sv_ret (ev_and (ev_isi (e_var (by rfl) (by first | exact Or.inl rfl | exact Or.inr (Or.inl rfl) | exact Or.inr (Or.inr rfl)) (by decide) (by decide)) (ty_int (by rfl) T.n_int) (by rfl) T.n_isinstance (by rfl) (by rfl) (by rfl)) (ev_and (ev_not (ev_isi (e_var (by rfl) (by first | exact Or.inl rfl | exact Or.inr (Or.inl rfl) | exact Or.inr (Or.inr rfl)) (by decide) (by decide)) (ty_bool (by rfl) T.n_bool) (by rfl) T.n_isinstance (by rfl) (by rfl) (by rfl))) (ev_and1 (ev_cp (c_eqC hr) (e_var (by rfl) (by first | exact Or.inl rfl | exact Or.inr (Or.inl rfl) | exact Or.inr (Or.inr rfl)) (by decide) (by decide)) (e_var (by rfl) (by first | exact Or.inl rfl | exact Or.inr (Or.inl rfl) | exact Or.inr (Or.inr rfl)) (by decide) (by decide)) (by first | exact nomark _ | rfl)))))))))
abbrev N__law_web : List PySem.Str := ["tin", "places_so", "roads_so", "many_so", "found", "lap"]
theorem sc__law_web : FnScope N__law_web ["tin", "places_so", "roads_so"] (defScope s__law_web) := ⟨rfl, rfl, rfl, by decide +kernel, rfl, by decide +kernel, by decide +kernel⟩
def x__law_web_1 : M Fl := mFor (mRange1 (mCall 2 (some 0) F__law_take (mCons (mVar 0) (mCons (mB dAdd (mVar 2) (mInt 1)) (mNil))))) (gSet 5) (mDrop (mApp 4 (mTup (mCons (mCall 2 (some 0) F__law_take (mCons (mVar 0) (mCons (mVar 3) (mNil)))) (mCons (mCall 2 (some 0) F__law_take (mCons (mVar 0) (mCons (mVar 3) (mNil)))) (mNil))))))
def m__law_web : M Fl := mSeq (mSet 3 (mB dAdd (mInt 1) (mCall 2 (some 0) F__law_take (mCons (mVar 0) (mCons (mVar 1) (mNil)))))) (mSeq (mSet 4 (mLst (mNil))) (mSeq (x__law_web_1) (mRet (mTup (mCons (mVar 3) (mCons (mOps dTupleOf (mCons (mVar 4) (mNil))) (mNil)))))))
def F__law_web : FD := runF 6 (some 0) m__law_web
theorem ok__law_web (T : Wd K mg) : Ok P w K mg base "_law_web" s__law_web 3 ["tin", "places_so", "roads_so"] (some 0) F__law_web := by
  have o__law_take := ok__law_take (P := P) (w := w) (base := base) T
  refine ok_of (k := 2) (mb := m__law_web) T.d__law_web sc__law_web rfl (by decide) fun f cdv A outer s H E hr => ?_
  exact bv_cons (wi_D _) (sv_set sc__law_web.nd (by rfl) (by first | exact .inl rfl | exact .inr rfl) (ev_add (ev_int) (e_call o__law_take (by rfl) hr (by decide) (by rfl) tkD (av_cons (e_var (by rfl) (by first | exact Or.inl rfl | exact Or.inr (Or.inl rfl) | exact Or.inr (Or.inr rfl)) (by decide) (by decide)) (av_cons (e_var (by rfl) (by first | exact Or.inl rfl | exact Or.inr (Or.inl rfl) | exact Or.inr (Or.inr rfl)) (by decide) (by decide)) (av_nil) (by rfl)) (by rfl)) (by decide) (by rfl) (by rfl))) (by rfl) (by first | exact Or.inl rfl | exact Or.inr rfl)) (bv_cons (wi_D _) (sv_set sc__law_web.nd (by rfl) (by first | exact .inl rfl | exact .inr rfl) (ev_lst (av_nil)) (by rfl) (by first | exact Or.inl rfl | exact Or.inr rfl)) (bv_cons (wi_D _) (sv_for (wi_D _) ppD (by rfl) (iv_range1 (by rfl) T.n_range (e_call o__law_take (by rfl) hr (by decide) (by rfl) tkD (av_cons (e_var (by rfl) (by first | exact Or.inl rfl | exact Or.inr (Or.inl rfl) | exact Or.inr (Or.inr rfl)) (by decide) (by decide)) (av_cons (ev_add (e_var (by rfl) (by first | exact Or.inl rfl | exact Or.inr (Or.inl rfl) | exact Or.inr (Or.inr rfl)) (by decide) (by decide)) (ev_int)) (av_nil) (by rfl)) (by rfl)) (by decide) (by rfl) (by rfl)) (by rfl)) (gv_name sc__law_web.nd (by rfl) (by first | exact .inl rfl | exact .inr rfl) (by first | exact Or.inl rfl | exact Or.inr rfl)) (noEx_set 5) (bv_one (sv_expr (ev_app (pv 4 (by rfl) (by first | exact Or.inl rfl | exact Or.inr (Or.inl rfl) | exact Or.inr (Or.inr rfl)) (by decide) (by decide)) (ev_tup (av_cons (e_call o__law_take (by rfl) hr (by decide) (by rfl) tkD (av_cons (e_var (by rfl) (by first | exact Or.inl rfl | exact Or.inr (Or.inl rfl) | exact Or.inr (Or.inr rfl)) (by decide) (by decide)) (av_cons (e_var (by rfl) (by first | exact Or.inl rfl | exact Or.inr (Or.inl rfl) | exact Or.inr (Or.inr rfl)) (by decide) (by decide)) (av_nil) (by rfl)) (by rfl)) (by decide) (by rfl) (by rfl)) (av_cons (e_call o__law_take (by rfl) hr (by decide) (by rfl) tkD (av_cons (e_var (by rfl) (by first | exact Or.inl rfl | exact Or.inr (Or.inl rfl) | exact Or.inr (Or.inr rfl)) (by decide) (by decide)) (av_cons (e_var (by rfl) (by first | exact Or.inl rfl | exact Or.inr (Or.inl rfl) | exact Or.inr (Or.inr rfl)) (by decide) (by decide)) (av_nil) (by rfl)) (by rfl)) (by decide) (by rfl) (by rfl)) (av_nil) (by rfl)) (by rfl))) (by rfl) (by rfl) (by rfl) (by rfl) (by rfl)) (by rfl))) (by intro _; rfl)) (bv_one (sv_ret (ev_tup (av_cons (e_var (by rfl) (by first | exact Or.inl rfl | exact Or.inr (Or.inl rfl) | exact Or.inr (Or.inr rfl)) (by decide) (by decide)) (av_cons (e_tuple (by rfl) (by rfl) (by rfl) T.n_tuple (av_cons (e_var (by rfl) (by first | exact Or.inl rfl | exact Or.inr (Or.inl rfl) | exact Or.inr (Or.inr rfl)) (by decide) (by decide)) (av_nil) (by rfl))) (av_nil) (by rfl)) (by rfl)))))))
abbrev N__law_some_web : List PySem.Str := ["tin", "known_so"]
theorem sc__law_some_web : FnScope N__law_some_web ["tin"] (defScope s__law_some_web) := ⟨rfl, rfl, rfl, by decide +kernel, rfl, by decide +kernel, by decide +kernel⟩
def m__law_some_web : M Fl := mSeq (mSet 1 (mLst (mCons (mTup (mCons (mInt 2) (mCons (mTup (mCons (mTup (mCons (mInt 0) (mCons (mInt 0) (mNil)))) (mCons (mTup (mCons (mInt 0) (mCons (mInt 1) (mNil)))) (mNil)))) (mNil)))) (mCons (mTup (mCons (mInt 3) (mCons (mTup (mCons (mTup (mCons (mInt 0) (mCons (mInt 1) (mNil)))) (mCons (mTup (mCons (mInt 0) (mCons (mInt 2) (mNil)))) (mNil)))) (mNil)))) (mCons (mTup (mCons (mInt 3) (mCons (mTup (mCons (mTup (mCons (mInt 0) (mCons (mInt 1) (mNil)))) (mCons (mTup (mCons (mInt 1) (mCons (mInt 2) (mNil)))) (mNil)))) (mNil)))) (mCons (mTup (mCons (mInt 1) (mCons (mTup (mCons (mTup (mCons (mInt 0) (mCons (mInt 0) (mNil)))) (mCons (mTup (mCons (mInt 0) (mCons (mInt 0) (mNil)))) (mNil)))) (mNil)))) (mCons (mTup (mCons (mInt 1) (mCons (mTup (mCons (mTup (mCons (mInt 0) (mCons (mInt 0) (mNil)))) (mNil))) (mNil)))) (mCons (mTup (mCons (mInt 2) (mCons (mTup (mCons (mTup (mCons (mInt 0) (mCons (mInt 1) (mNil)))) (mCons (mTup (mCons (mInt 1) (mCons (mInt 0) (mNil)))) (mNil)))) (mNil)))) (mCons (mTup (mCons (mInt 1) (mCons (mTup (mNil)) (mNil)))) (mNil)))))))))) (mRet (mCall 2 (some 0) F__law_of (mCons (mVar 0) (mCons (mLst (mCons (mCall 3 (some 0) F__law_web (mCons (mVar 0) (mCons (mInt 3) (mCons (mInt 4) (mNil))))) (mCons (mCall 3 (some 0) F__law_web (mCons (mVar 0) (mCons (mInt 3) (mCons (mInt 4) (mNil))))) (mCons (mCall 3 (some 0) F__law_web (mCons (mVar 0) (mCons (mInt 4) (mCons (mInt 5) (mNil))))) (mCons (mCall 2 (some 0) F__law_of (mCons (mVar 0) (mCons (mVar 1) (mNil)))) (mNil)))))) (mNil)))))
def F__law_some_web : FD := runF 2 (some 0) m__law_some_web
theorem ok__law_some_web (T : Wd K mg) : Ok P w K mg base "_law_some_web" s__law_some_web 4 ["tin"] (some 0) F__law_some_web := by
  have o__law_of := ok__law_of (P := P) (w := w) (base := base) T
  have o__law_web := ok__law_web (P := P) (w := w) (base := base) T
  refine ok_of (k := 3) (mb := m__law_some_web) T.d__law_some_web sc__law_some_web rfl (by decide) fun f cdv A outer s H E hr => ?_
  exact bv_cons (wi_D _) (sv_set sc__law_some_web.nd (by rfl) (by first | exact .inl rfl | exact .inr rfl) (ev_lst (av_cons (ev_tup (av_cons (ev_int) (av_cons (ev_tup (av_cons (ev_tup (av_cons (ev_int) (av_cons (ev_int) (av_nil) (by rfl)) (by rfl))) (av_cons (ev_tup (av_cons (ev_int) (av_cons (ev_int) (av_nil) (by rfl)) (by rfl))) (av_nil) (by rfl)) (by rfl))) (av_nil) (by rfl)) (by rfl))) (av_cons (ev_tup (av_cons (ev_int) (av_cons (ev_tup (av_cons (ev_tup (av_cons (ev_int) (av_cons (ev_int) (av_nil) (by rfl)) (by rfl))) (av_cons (ev_tup (av_cons (ev_int) (av_cons (ev_int) (av_nil) (by rfl)) (by rfl))) (av_nil) (by rfl)) (by rfl))) (av_nil) (by rfl)) (by rfl))) (av_cons (ev_tup (av_cons (ev_int) (av_cons (ev_tup (av_cons (ev_tup (av_cons (ev_int) (av_cons (ev_int) (av_nil) (by rfl)) (by rfl))) (av_cons (ev_tup (av_cons (ev_int) (av_cons (ev_int) (av_nil) (by rfl)) (by rfl))) (av_nil) (by rfl)) (by rfl))) (av_nil) (by rfl)) (by rfl))) (av_cons (ev_tup (av_cons (ev_int) (av_cons (ev_tup (av_cons (ev_tup (av_cons (ev_int) (av_cons (ev_int) (av_nil) (by rfl)) (by rfl))) (av_cons (ev_tup (av_cons (ev_int) (av_cons (ev_int) (av_nil) (by rfl)) (by rfl))) (av_nil) (by rfl)) (by rfl))) (av_nil) (by rfl)) (by rfl))) (av_cons (ev_tup (av_cons (ev_int) (av_cons (ev_tup (av_cons (ev_tup (av_cons (ev_int) (av_cons (ev_int) (av_nil) (by rfl)) (by rfl))) (av_nil) (by rfl))) (av_nil) (by rfl)) (by rfl))) (av_cons (ev_tup (av_cons (ev_int) (av_cons (ev_tup (av_cons (ev_tup (av_cons (ev_int) (av_cons (ev_int) (av_nil) (by rfl)) (by rfl))) (av_cons (ev_tup (av_cons (ev_int) (av_cons (ev_int) (av_nil) (by rfl)) (by rfl))) (av_nil) (by rfl)) (by rfl))) (av_nil) (by rfl)) (by rfl))) (av_cons (ev_tup (av_cons (ev_int) (av_cons (ev_tup (av_nil)) (av_nil) (by rfl)) (by rfl))) (av_nil) (by rfl)) (by rfl)) (by rfl)) (by rfl)) (by rfl)) (by rfl)) (by rfl))) (by rfl) (by first | exact Or.inl rfl | exact Or.inr rfl)) (bv_one (sv_ret (e_call o__law_of (by rfl) hr (by decide) (by rfl) tkD (av_cons (e_var (by rfl) (by first | exact Or.inl rfl | exact Or.inr (Or.inl rfl) | exact Or.inr (Or.inr rfl)) (by decide) (by decide)) (av_cons (ev_lst (av_cons (e_call o__law_web (by rfl) hr (by decide) (by rfl) tkD (av_cons (e_var (by rfl) (by first | exact Or.inl rfl | exact Or.inr (Or.inl rfl) | exact Or.inr (Or.inr rfl)) (by decide) (by decide)) (av_cons (ev_int) (av_cons (ev_int) (av_nil) (by rfl)) (by rfl)) (by rfl)) (by decide) (by rfl) (by rfl)) (av_cons (e_call o__law_web (by rfl) hr (by decide) (by rfl) tkD (av_cons (e_var (by rfl) (by first | exact Or.inl rfl | exact Or.inr (Or.inl rfl) | exact Or.inr (Or.inr rfl)) (by decide) (by decide)) (av_cons (ev_int) (av_cons (ev_int) (av_nil) (by rfl)) (by rfl)) (by rfl)) (by decide) (by rfl) (by rfl)) (av_cons (e_call o__law_web (by rfl) hr (by decide) (by rfl) tkD (av_cons (e_var (by rfl) (by first | exact Or.inl rfl | exact Or.inr (Or.inl rfl) | exact Or.inr (Or.inr rfl)) (by decide) (by decide)) (av_cons (ev_int) (av_cons (ev_int) (av_nil) (by rfl)) (by rfl)) (by rfl)) (by decide) (by rfl) (by rfl)) (av_cons (e_call o__law_of (by rfl) hr (by decide) (by rfl) tkD (av_cons (e_var (by rfl) (by first | exact Or.inl rfl | exact Or.inr (Or.inl rfl) | exact Or.inr (Or.inr rfl)) (by decide) (by decide)) (av_cons (e_var (by rfl) (by first | exact Or.inl rfl | exact Or.inr (Or.inl rfl) | exact Or.inr (Or.inr rfl)) (by decide) (by decide)) (av_nil) (by rfl)) (by rfl)) (by decide) (by rfl) (by rfl)) (av_nil) (by rfl)) (by rfl)) (by rfl)) (by rfl))) (av_nil) (by rfl)) (by rfl)) (by decide) (by rfl) (by rfl))))
abbrev N__law_outs : List PySem.Str := ["web_so", "place_so", "k", "own"]
theorem sc__law_outs : FnScope N__law_outs ["web_so", "place_so"] (defScope s__law_outs) := ⟨rfl, rfl, rfl, by decide +kernel, rfl, by decide +kernel, by decide +kernel⟩
def x__law_outs_1 : M Rv := mLc [2, 3] (mEnum (mB dIx (mVar 0) (mInt 1))) (turn1 [2, 3] (gUnp 2 (gsCons (gSet 2) (gsCons (gSet 3) (gsNil)))) (mT2 dEqC (mB dIx (mVar 3) (mInt 0)) (mVar 1)) (mVar 2))
def m__law_outs : M Fl := mRet (x__law_outs_1)
def F__law_outs : FD := runF 4 none m__law_outs
theorem ok__law_outs (T : Wd K mg) : Ok P w K mg base "_law_outs" s__law_outs 2 ["web_so", "place_so"] none F__law_outs := by
  refine ok_of (k := 1) (mb := m__law_outs) T.d__law_outs sc__law_outs rfl (by decide) fun f cdv A outer s H E hr => ?_
  exact bv_one (sv_ret (ev_lc (by rfl) sc__law_outs.nd (iv_enum (by rfl) T.n_enumerate (ev_ix (e_var (by rfl) (by first | exact Or.inl rfl | exact Or.inr (Or.inl rfl) | exact Or.inr (Or.inr rfl)) (by decide) (by decide)) (ev_int) (by intro _ _; rfl)) (by rfl)) (own := [("k", 2), ("own", 3)]) (blkOk_by (by kernel_rfl)) rfl (fun s H C cl fp => gv_tup (by rfl) (gvs_cons (gv_name sc__law_outs.nd (by rfl) (by first | exact .inl rfl | exact .inr rfl) (by first | exact Or.inl rfl | exact Or.inr rfl)) (gvs_cons (gv_name sc__law_outs.nd (by rfl) (by first | exact .inl rfl | exact .inr rfl) (by first | exact Or.inl rfl | exact Or.inr rfl)) (gvs_nil) (by rfl)) (by rfl)) (by rfl) (by rfl)) (by decide) (noEx_unp (noEx_cons (noEx_set 2) (noEx_cons (noEx_set 3) (noEx_nil)))) (fun s H C cl fp => cv_one (tv_cp (c_eqC hr) (ev_ix (e_var (by rfl) (by first | exact Or.inl rfl | exact Or.inr (Or.inl rfl) | exact Or.inr (Or.inr rfl)) (by decide) (by decide)) (ev_int) (by intro _ _; rfl)) (e_var (by rfl) (by first | exact Or.inl rfl | exact Or.inr (Or.inl rfl) | exact Or.inr (Or.inr rfl)) (by decide) (by decide)) (by first | exact nomark _ | rfl))) (fun s H C cl fp => e_var (by rfl) (by first | exact Or.inl rfl | exact Or.inr (Or.inl rfl) | exact Or.inr (Or.inr rfl)) (by decide) (by decide)) (by intro _; rfl)))
abbrev N__law_lead : List PySem.Str := ["web_so", "place_so", "roads_so"]
theorem sc__law_lead : FnScope N__law_lead ["web_so", "place_so", "roads_so"] (defScope s__law_lead) := ⟨rfl, rfl, rfl, by decide +kernel, rfl, by decide +kernel, by decide +kernel⟩
def m__law_lead : M Fl := mRet (mIf (mT2 dNeC (mVar 2) (mTup (mNil))) (mB dIx (mB dIx (mB dIx (mVar 0) (mInt 1)) (mB dIx (mVar 2) (mU dNeg (mInt 1)))) (mInt 1)) (mVar 1))
def F__law_lead : FD := runF 3 none m__law_lead
theorem ok__law_lead (T : Wd K mg) : Ok P w K mg base "_law_lead" s__law_lead 2 ["web_so", "place_so", "roads_so"] none F__law_lead := by
  refine ok_of (k := 1) (mb := m__law_lead) T.d__law_lead sc__law_lead rfl (by decide) fun f cdv A outer s H E hr => ?_
  exact bv_one (sv_ret (ev_if (tv_cp (c_neC hr) (e_var (by rfl) (by first | exact Or.inl rfl | exact Or.inr (Or.inl rfl) | exact Or.inr (Or.inr rfl)) (by decide) (by decide)) (ev_tup (av_nil)) (by first | exact nomark _ | rfl)) (ev_ix (ev_ix (ev_ix (e_var (by rfl) (by first | exact Or.inl rfl | exact Or.inr (Or.inl rfl) | exact Or.inr (Or.inr rfl)) (by decide) (by decide)) (ev_int) (by intro _ _; rfl)) (ev_ix (e_var (by rfl) (by first | exact Or.inl rfl | exact Or.inr (Or.inl rfl) | exact Or.inr (Or.inr rfl)) (by decide) (by decide)) (ev_neg (ev_int)) (by intro _ _; rfl)) (by intro _ _; rfl)) (ev_int) (by intro _ _; rfl)) (e_var (by rfl) (by first | exact Or.inl rfl | exact Or.inr (Or.inl rfl) | exact Or.inr (Or.inr rfl)) (by decide) (by decide))))
abbrev N__law_walk : List PySem.Str := ["tin", "web_so", "place_so", "most_so", "found", "lap", "outs_so"]
theorem sc__law_walk : FnScope N__law_walk ["tin", "web_so", "place_so", "most_so"] (defScope s__law_walk) := ⟨rfl, rfl, rfl, by decide +kernel, rfl, by decide +kernel, by decide +kernel⟩
def x__law_walk_1 : M Fl := mFor (mRange1 (mCall 2 (some 0) F__law_take (mCons (mVar 0) (mCons (mB dAdd (mVar 3) (mInt 1)) (mNil))))) (gSet 5) (mSeq (mSet 6 (mCall 2 none F__law_outs (mCons (mVar 1) (mCons (mCall 3 none F__law_lead (mCons (mVar 1) (mCons (mVar 2) (mCons (mVar 4) (mNil))))) (mNil))))) (mIf (mT2 dNeC (mVar 6) (mLst (mNil))) (mSet 4 (mB dAdd (mVar 4) (mTup (mCons (mCall 2 (some 0) F__law_of (mCons (mVar 0) (mCons (mVar 6) (mNil)))) (mNil))))) (mNx)))
def m__law_walk : M Fl := mSeq (mSet 4 (mTup (mNil))) (mSeq (x__law_walk_1) (mRet (mVar 4)))
def F__law_walk : FD := runF 7 (some 0) m__law_walk
theorem ok__law_walk (T : Wd K mg) : Ok P w K mg base "_law_walk" s__law_walk 4 ["tin", "web_so", "place_so", "most_so"] (some 0) F__law_walk := by
  have o__law_lead := ok__law_lead (P := P) (w := w) (base := base) T
  have o__law_of := ok__law_of (P := P) (w := w) (base := base) T
  have o__law_outs := ok__law_outs (P := P) (w := w) (base := base) T
  have o__law_take := ok__law_take (P := P) (w := w) (base := base) T
  refine ok_of (k := 3) (mb := m__law_walk) T.d__law_walk sc__law_walk rfl (by decide) fun f cdv A outer s H E hr => ?_
  exact bv_cons (wi_D _) (sv_set sc__law_walk.nd (by rfl) (by first | exact .inl rfl | exact .inr rfl) (ev_tup (av_nil)) (by rfl) (by first | exact Or.inl rfl | exact Or.inr rfl)) (bv_cons (wi_D _) (sv_for (wi_D _) ppD (by rfl) (iv_range1 (by rfl) T.n_range (e_call o__law_take (by rfl) hr (by decide) (by rfl) tkD (av_cons (e_var (by rfl) (by first | exact Or.inl rfl | exact Or.inr (Or.inl rfl) | exact Or.inr (Or.inr rfl)) (by decide) (by decide)) (av_cons (ev_add (e_var (by rfl) (by first | exact Or.inl rfl | exact Or.inr (Or.inl rfl) | exact Or.inr (Or.inr rfl)) (by decide) (by decide)) (ev_int)) (av_nil) (by rfl)) (by rfl)) (by decide) (by rfl) (by rfl)) (by rfl)) (gv_name sc__law_walk.nd (by rfl) (by first | exact .inl rfl | exact .inr rfl) (by first | exact Or.inl rfl | exact Or.inr rfl)) (noEx_set 5) (bv_cons (wi_D _) (sv_set sc__law_walk.nd (by rfl) (by first | exact .inl rfl | exact .inr rfl) (e_call o__law_outs (by rfl) hr (by decide) (by rfl) tkD (av_cons (e_var (by rfl) (by first | exact Or.inl rfl | exact Or.inr (Or.inl rfl) | exact Or.inr (Or.inr rfl)) (by decide) (by decide)) (av_cons (e_call o__law_lead (by rfl) hr (by decide) (by rfl) tkD (av_cons (e_var (by rfl) (by first | exact Or.inl rfl | exact Or.inr (Or.inl rfl) | exact Or.inr (Or.inr rfl)) (by decide) (by decide)) (av_cons (e_var (by rfl) (by first | exact Or.inl rfl | exact Or.inr (Or.inl rfl) | exact Or.inr (Or.inr rfl)) (by decide) (by decide)) (av_cons (e_var (by rfl) (by first | exact Or.inl rfl | exact Or.inr (Or.inl rfl) | exact Or.inr (Or.inr rfl)) (by decide) (by decide)) (av_nil) (by rfl)) (by rfl)) (by rfl)) (by decide) (by rfl) (by rfl)) (av_nil) (by rfl)) (by rfl)) (by decide) (by rfl) (by rfl)) (by rfl) (by first | exact Or.inl rfl | exact Or.inr rfl)) (bv_one (sv_if (wi_D _) (tv_cp (c_neC hr) (e_var (by rfl) (by first | exact Or.inl rfl | exact Or.inr (Or.inl rfl) | exact Or.inr (Or.inr rfl)) (by decide) (by decide)) (ev_lst (av_nil)) (by first | exact nomark _ | rfl)) (bv_one (sv_set sc__law_walk.nd (by rfl) (by first | exact .inl rfl | exact .inr rfl) (ev_add (e_var (by rfl) (by first | exact Or.inl rfl | exact Or.inr (Or.inl rfl) | exact Or.inr (Or.inr rfl)) (by decide) (by decide)) (ev_tup (av_cons (e_call o__law_of (by rfl) hr (by decide) (by rfl) tkD (av_cons (e_var (by rfl) (by first | exact Or.inl rfl | exact Or.inr (Or.inl rfl) | exact Or.inr (Or.inr rfl)) (by decide) (by decide)) (av_cons (e_var (by rfl) (by first | exact Or.inl rfl | exact Or.inr (Or.inl rfl) | exact Or.inr (Or.inr rfl)) (by decide) (by decide)) (av_nil) (by rfl)) (by rfl)) (by decide) (by rfl) (by rfl)) (av_nil) (by rfl)))) (by rfl) (by first | exact Or.inl rfl | exact Or.inr rfl))) (bv_nil)))) (by intro _; rfl)) (bv_one (sv_ret (e_var (by rfl) (by first | exact Or.inl rfl | exact Or.inr (Or.inl rfl) | exact Or.inr (Or.inr rfl)) (by decide) (by decide)))))
abbrev N__law_walks : List PySem.Str := ["web_so", "place_so", "long_so", "found", "lap", "later_so", "own", "k"]
theorem sc__law_walks : FnScope N__law_walks ["web_so", "place_so", "long_so"] (defScope s__law_walks) := ⟨rfl, rfl, rfl, by decide +kernel, rfl, by decide +kernel, by decide +kernel⟩
def x__law_walks_1 : M Rv := mLc [7] (mSeqI (mCall 2 none F__law_outs (mCons (mVar 0) (mCons (mCall 3 none F__law_lead (mCons (mVar 0) (mCons (mVar 1) (mCons (mVar 6) (mNil))))) (mNil))))) (turn1 [7] (gSet 7) (mYes) (mB dAdd (mVar 6) (mTup (mCons (mVar 7) (mNil)))))
def x__law_walks_2 : M Fl := mFor (mSeqI (mVar 3)) (gSet 6) (mDrop (mExt 5 (x__law_walks_1)))
def x__law_walks_3 : M Fl := mFor (mRange1 (mVar 2)) (gSet 4) (mSeq (mSet 5 (mLst (mNil))) (mSeq (x__law_walks_2) (mSet 3 (mVar 5))))
def m__law_walks : M Fl := mSeq (mSet 3 (mLst (mCons (mTup (mNil)) (mNil)))) (mSeq (x__law_walks_3) (mRet (mVar 3)))
def F__law_walks : FD := runF 8 none m__law_walks
theorem ok__law_walks (T : Wd K mg) : Ok P w K mg base "_law_walks" s__law_walks 3 ["web_so", "place_so", "long_so"] none F__law_walks := by
  have o__law_lead := ok__law_lead (P := P) (w := w) (base := base) T
  have o__law_outs := ok__law_outs (P := P) (w := w) (base := base) T
  refine ok_of (k := 2) (mb := m__law_walks) T.d__law_walks sc__law_walks rfl (by decide) fun f cdv A outer s H E hr => ?_
  exact bv_cons (wi_D _) (sv_set sc__law_walks.nd (by rfl) (by first | exact .inl rfl | exact .inr rfl) (ev_lst (av_cons (ev_tup (av_nil)) (av_nil) (by rfl))) (by rfl) (by first | exact Or.inl rfl | exact Or.inr rfl)) (bv_cons (wi_D _) (sv_for (wi_D _) ppD (by rfl) (iv_range1 (by rfl) T.n_range (e_var (by rfl) (by first | exact Or.inl rfl | exact Or.inr (Or.inl rfl) | exact Or.inr (Or.inr rfl)) (by decide) (by decide)) (by rfl)) (gv_name sc__law_walks.nd (by rfl) (by first | exact .inl rfl | exact .inr rfl) (by first | exact Or.inl rfl | exact Or.inr rfl)) (noEx_set 4) (bv_cons (wi_D _) (sv_set sc__law_walks.nd (by rfl) (by first | exact .inl rfl | exact .inr rfl) (ev_lst (av_nil)) (by rfl) (by first | exact Or.inl rfl | exact Or.inr rfl)) (bv_cons (wi_D _) (sv_for (wi_D _) ppD (by rfl) (iv_seq (e_var (by rfl) (by first | exact Or.inl rfl | exact Or.inr (Or.inl rfl) | exact Or.inr (Or.inr rfl)) (by decide) (by decide))) (gv_name sc__law_walks.nd (by rfl) (by first | exact .inl rfl | exact .inr rfl) (by first | exact Or.inl rfl | exact Or.inr rfl)) (noEx_set 6) (bv_one (sv_expr (ev_ext (pv 5 (by rfl) (by first | exact Or.inl rfl | exact Or.inr (Or.inl rfl) | exact Or.inr (Or.inr rfl)) (by decide) (by decide)) (ev_lc (by rfl) sc__law_walks.nd (iv_seq (e_call o__law_outs (by rfl) hr (by decide) (by rfl) tkD (av_cons (e_var (by rfl) (by first | exact Or.inl rfl | exact Or.inr (Or.inl rfl) | exact Or.inr (Or.inr rfl)) (by decide) (by decide)) (av_cons (e_call o__law_lead (by rfl) hr (by decide) (by rfl) tkD (av_cons (e_var (by rfl) (by first | exact Or.inl rfl | exact Or.inr (Or.inl rfl) | exact Or.inr (Or.inr rfl)) (by decide) (by decide)) (av_cons (e_var (by rfl) (by first | exact Or.inl rfl | exact Or.inr (Or.inl rfl) | exact Or.inr (Or.inr rfl)) (by decide) (by decide)) (av_cons (e_var (by rfl) (by first | exact Or.inl rfl | exact Or.inr (Or.inl rfl) | exact Or.inr (Or.inr rfl)) (by decide) (by decide)) (av_nil) (by rfl)) (by rfl)) (by rfl)) (by decide) (by rfl) (by rfl)) (av_nil) (by rfl)) (by rfl)) (by decide) (by rfl) (by rfl))) (own := [("k", 7)]) (blkOk_by (by kernel_rfl)) rfl (fun s H C cl fp => gv_name sc__law_walks.nd (by rfl) (by first | exact .inl rfl | exact .inr rfl) (by first | exact Or.inl rfl | exact Or.inr rfl)) (by decide) (noEx_set 7) (fun s H C cl fp => cv_nil) (fun s H C cl fp => ev_add (e_var (by rfl) (by first | exact Or.inl rfl | exact Or.inr (Or.inl rfl) | exact Or.inr (Or.inr rfl)) (by decide) (by decide)) (ev_tup (av_cons (e_var (by rfl) (by first | exact Or.inl rfl | exact Or.inr (Or.inl rfl) | exact Or.inr (Or.inr rfl)) (by decide) (by decide)) (av_nil) (by rfl)))) (by intro _; rfl)) (by rfl) (by rfl) (by rfl) (by rfl) (by rfl)) (by rfl))) (by intro _; rfl)) (bv_one (sv_set sc__law_walks.nd (by rfl) (by first | exact .inl rfl | exact .inr rfl) (e_var (by rfl) (by first | exact Or.inl rfl | exact Or.inr (Or.inl rfl) | exact Or.inr (Or.inr rfl)) (by decide) (by decide)) (by rfl) (by first | exact Or.inl rfl | exact Or.inr rfl))))) (by intro _; rfl)) (bv_one (sv_ret (e_var (by rfl) (by first | exact Or.inl rfl | exact Or.inr (Or.inl rfl) | exact Or.inr (Or.inr rfl)) (by decide) (by decide)))))
abbrev N__law_reached : List PySem.Str := ["web_so", "place_so", "found", "lap", "own"]
theorem sc__law_reached : FnScope N__law_reached ["web_so", "place_so"] (defScope s__law_reached) := ⟨rfl, rfl, rfl, by decide +kernel, rfl, by decide +kernel, by decide +kernel⟩
def x__law_reached_1 : M Rv := mLc [4] (mSeqI (mB dIx (mVar 0) (mInt 1))) (turn1 [4] (gSet 4) (mT2 (dInC false) (mB dIx (mVar 4) (mInt 0)) (mVar 2)) (mB dIx (mVar 4) (mInt 1)))
def x__law_reached_2 : M Fl := mFor (mRange1 (mInt 9)) (gSet 3) (mSet 2 (mU dSortSet (mB dAdd (mVar 2) (x__law_reached_1))))
def m__law_reached : M Fl := mSeq (mSet 2 (mLst (mCons (mVar 1) (mNil)))) (mSeq (x__law_reached_2) (mRet (mVar 2)))
def F__law_reached : FD := runF 5 none m__law_reached
theorem ok__law_reached (T : Wd K mg) : Ok P w K mg base "_law_reached" s__law_reached 2 ["web_so", "place_so"] none F__law_reached := by
  refine ok_of (k := 1) (mb := m__law_reached) T.d__law_reached sc__law_reached rfl (by decide) fun f cdv A outer s H E hr => ?_
  exact bv_cons (wi_D _) (sv_set sc__law_reached.nd (by rfl) (by first | exact .inl rfl | exact .inr rfl) (ev_lst (av_cons (e_var (by rfl) (by first | exact Or.inl rfl | exact Or.inr (Or.inl rfl) | exact Or.inr (Or.inr rfl)) (by decide) (by decide)) (av_nil) (by rfl))) (by rfl) (by first | exact Or.inl rfl | exact Or.inr rfl)) (bv_cons (wi_D _) (sv_for (wi_D _) ppD (by rfl) (iv_range1 (by rfl) T.n_range (ev_int) (by rfl)) (gv_name sc__law_reached.nd (by rfl) (by first | exact .inl rfl | exact .inr rfl) (by first | exact Or.inl rfl | exact Or.inr rfl)) (noEx_set 3) (bv_one (sv_set sc__law_reached.nd (by rfl) (by first | exact .inl rfl | exact .inr rfl) (ev_sortSet (by rfl) (by rfl) T.n_sorted (by rfl) T.n_set (ev_add (e_var (by rfl) (by first | exact Or.inl rfl | exact Or.inr (Or.inl rfl) | exact Or.inr (Or.inr rfl)) (by decide) (by decide)) (ev_lc (by rfl) sc__law_reached.nd (iv_seq (ev_ix (e_var (by rfl) (by first | exact Or.inl rfl | exact Or.inr (Or.inl rfl) | exact Or.inr (Or.inr rfl)) (by decide) (by decide)) (ev_int) (by intro _ _; rfl))) (own := [("own", 4)]) (blkOk_by (by kernel_rfl)) rfl (fun s H C cl fp => gv_name sc__law_reached.nd (by rfl) (by first | exact .inl rfl | exact .inr rfl) (by first | exact Or.inl rfl | exact Or.inr rfl)) (by decide) (noEx_set 4) (fun s H C cl fp => cv_one (tv_cp (c_inC hr) (ev_ix (e_var (by rfl) (by first | exact Or.inl rfl | exact Or.inr (Or.inl rfl) | exact Or.inr (Or.inr rfl)) (by decide) (by decide)) (ev_int) (by intro _ _; rfl)) (e_var (by rfl) (by first | exact Or.inl rfl | exact Or.inr (Or.inl rfl) | exact Or.inr (Or.inr rfl)) (by decide) (by decide)) (by first | exact nomark _ | rfl))) (fun s H C cl fp => ev_ix (e_var (by rfl) (by first | exact Or.inl rfl | exact Or.inr (Or.inl rfl) | exact Or.inr (Or.inr rfl)) (by decide) (by decide)) (ev_int) (by intro _ _; rfl)) (by intro _; rfl))) (by rfl) (by rfl)) (by rfl) (by first | exact Or.inl rfl | exact Or.inr rfl))) (by intro _; rfl)) (bv_one (sv_ret (e_var (by rfl) (by first | exact Or.inl rfl | exact Or.inr (Or.inl rfl) | exact Or.inr (Or.inr rfl)) (by decide) (by decide)))))
abbrev N__law_has_rounds : List PySem.Str := ["web_so", "k"]
theorem sc__law_has_rounds : FnScope N__law_has_rounds ["web_so"] (defScope s__law_has_rounds) := ⟨rfl, rfl, rfl, by decide +kernel, rfl, by decide +kernel, by decide +kernel⟩
def x__law_has_rounds_1 : M Rv := mLc [1] (mRange1 (mB dIx (mVar 0) (mInt 0))) (turn1 [1] (gSet 1) (mT2 dNeC (mCall 3 none F__law_walks (mCons (mVar 0) (mCons (mVar 1) (mCons (mB dIx (mVar 0) (mInt 0)) (mNil))))) (mLst (mNil))) (mVar 1))
def m__law_has_rounds : M Fl := mRet (mB (b2 dNeC) (x__law_has_rounds_1) (mLst (mNil)))
def F__law_has_rounds : FD := runF 2 none m__law_has_rounds
theorem ok__law_has_rounds (T : Wd K mg) : Ok P w K mg base "_law_has_rounds" s__law_has_rounds 4 ["web_so"] none F__law_has_rounds := by
  have o__law_walks := ok__law_walks (P := P) (w := w) (base := base) T
  refine ok_of (k := 3) (mb := m__law_has_rounds) T.d__law_has_rounds sc__law_has_rounds rfl (by decide) fun f cdv A outer s H E hr => ?_
  exact bv_one (sv_ret (ev_cp (c_neC hr) (ev_lc (by rfl) sc__law_has_rounds.nd (iv_range1 (by rfl) T.n_range (ev_ix (e_var (by rfl) (by first | exact Or.inl rfl | exact Or.inr (Or.inl rfl) | exact Or.inr (Or.inr rfl)) (by decide) (by decide)) (ev_int) (by intro _ _; rfl)) (by rfl)) (own := [("k", 1)]) (blkOk_by (by kernel_rfl)) rfl (fun s H C cl fp => gv_name sc__law_has_rounds.nd (by rfl) (by first | exact .inl rfl | exact .inr rfl) (by first | exact Or.inl rfl | exact Or.inr rfl)) (by decide) (noEx_set 1) (fun s H C cl fp => cv_one (tv_cp (c_neC hr) (e_call o__law_walks (by rfl) hr (by decide) (by rfl) tkF (av_cons (e_var (by rfl) (by first | exact Or.inl rfl | exact Or.inr (Or.inl rfl) | exact Or.inr (Or.inr rfl)) (by decide) (by decide)) (av_cons (e_var (by rfl) (by first | exact Or.inl rfl | exact Or.inr (Or.inl rfl) | exact Or.inr (Or.inr rfl)) (by decide) (by decide)) (av_cons (ev_ix (e_var (by rfl) (by first | exact Or.inl rfl | exact Or.inr (Or.inl rfl) | exact Or.inr (Or.inr rfl)) (by decide) (by decide)) (ev_int) (by intro _ _; rfl)) (av_nil) (by rfl)) (by rfl)) (by rfl)) (by decide) (by rfl) (by rfl)) (ev_lst (av_nil)) (by first | exact nomark _ | rfl))) (fun s H C cl fp => e_var (by rfl) (by first | exact Or.inl rfl | exact Or.inr (Or.inl rfl) | exact Or.inr (Or.inr rfl)) (by decide) (by decide)) (by intro _; rfl)) (ev_lst (av_nil)) (by first | exact nomark _ | rfl)))
abbrev N__law_is_round : List PySem.Str := ["web_so", "roads_so", "begins_so", "goals_so", "own"]
theorem sc__law_is_round : FnScope N__law_is_round ["web_so", "roads_so"] (defScope s__law_is_round) := ⟨rfl, rfl, rfl, by decide +kernel, rfl, by decide +kernel, by decide +kernel⟩
def x__law_is_round_1 : M Rv := mLc [4] (mSeqI (mVar 1)) (turn1 [4] (gSet 4) (mYes) (mB dIx (mB dIx (mB dIx (mVar 0) (mInt 1)) (mVar 4)) (mInt 0)))
def x__law_is_round_2 : M Rv := mLc [4] (mSeqI (mVar 1)) (turn1 [4] (gSet 4) (mYes) (mB dIx (mB dIx (mB dIx (mVar 0) (mInt 1)) (mVar 4)) (mInt 1)))
def m__law_is_round : M Fl := mSeq (mSet 2 (x__law_is_round_1)) (mSeq (mIf (mOr (mT2 dEqC (mVar 1) (mTup (mNil))) (mOr (mT2 dNeC (mU dSortSet (mVar 2)) (mOps dSorted (mCons (mVar 2) (mNil)))) (mT2 dNeC (mOps dMin1 (mCons (mVar 1) (mNil))) (mB dIx (mVar 1) (mInt 0))))) (mRet (mBl false)) (mNx)) (mSeq (mSet 3 (x__law_is_round_2)) (mRet (mB (b2 dEqC) (mVar 3) (mB dAdd (mSlice (mVar 2) (mOpt (mInt 1)) (mNone)) (mSlice (mVar 2) (mNone) (mOpt (mInt 1))))))))
def F__law_is_round : FD := runF 5 none m__law_is_round
theorem ok__law_is_round (T : Wd K mg) : Ok P w K mg base "_law_is_round" s__law_is_round 2 ["web_so", "roads_so"] none F__law_is_round := by
  refine ok_of (k := 1) (mb := m__law_is_round) T.d__law_is_round sc__law_is_round rfl (by decide) fun f cdv A outer s H E hr => ?_
  exact bv_cons (wi_D _) ((by first | exact (sv_setLc (by rfl) sc__law_is_round.nd (by rfl) (by rfl) (by rfl) (iv_seq (e_var (by rfl) (by first | exact Or.inl rfl | exact Or.inr (Or.inl rfl) | exact Or.inr (Or.inr rfl)) (by decide) (by decide))) (own := [("own", 4)]) (blkOk_by (by kernel_rfl)) rfl (fun s H C cl fp => gv_name sc__law_is_round.nd (by rfl) (by first | exact .inl rfl | exact .inr rfl) (by first | exact Or.inl rfl | exact Or.inr rfl)) (by decide) (noEx_set 4) (fun s H C cl fp => cv_nil) (fun s H C cl fp => ev_ix (ev_ix (ev_ix (e_var (by rfl) (by first | exact Or.inl rfl | exact Or.inr (Or.inl rfl) | exact Or.inr (Or.inr rfl)) (by decide) (by decide)) (ev_int) (by intro _ _; rfl)) (e_var (by rfl) (by first | exact Or.inl rfl | exact Or.inr (Or.inl rfl) | exact Or.inr (Or.inr rfl)) (by decide) (by decide)) (by intro _ _; rfl)) (ev_int) (by intro _ _; rfl)) (by intro _; rfl)) | exact (sv_set sc__law_is_round.nd (by rfl) (by first | exact .inl rfl | exact .inr rfl) (ev_lc (by rfl) sc__law_is_round.nd (iv_seq (e_var (by rfl) (by first | exact Or.inl rfl | exact Or.inr (Or.inl rfl) | exact Or.inr (Or.inr rfl)) (by decide) (by decide))) (own := [("own", 4)]) (blkOk_by (by kernel_rfl)) rfl (fun s H C cl fp => gv_name sc__law_is_round.nd (by rfl) (by first | exact .inl rfl | exact .inr rfl) (by first | exact Or.inl rfl | exact Or.inr rfl)) (by decide) (noEx_set 4) (fun s H C cl fp => cv_nil) (fun s H C cl fp => ev_ix (ev_ix (ev_ix (e_var (by rfl) (by first | exact Or.inl rfl | exact Or.inr (Or.inl rfl) | exact Or.inr (Or.inr rfl)) (by decide) (by decide)) (ev_int) (by intro _ _; rfl)) (e_var (by rfl) (by first | exact Or.inl rfl | exact Or.inr (Or.inl rfl) | exact Or.inr (Or.inr rfl)) (by decide) (by decide)) (by intro _ _; rfl)) (ev_int) (by intro _ _; rfl)) (by intro _; rfl)) (by rfl) (by first | exact Or.inl rfl | exact Or.inr rfl)))) (bv_cons (wi_D _) (sv_if (wi_D _) ((wv_or (tv_cp (c_eqC hr) (e_var (by rfl) (by first | exact Or.inl rfl | exact Or.inr (Or.inl rfl) | exact Or.inr (Or.inr rfl)) (by decide) (by decide)) (ev_tup (av_nil)) (by first | exact nomark _ | rfl)) (wv_or (tv_cp (c_neC hr) (ev_sortSet (by rfl) (by rfl) T.n_sorted (by rfl) T.n_set (e_var (by rfl) (by first | exact Or.inl rfl | exact Or.inr (Or.inl rfl) | exact Or.inr (Or.inr rfl)) (by decide) (by decide)) (by rfl) (by rfl)) (e_sorted (by rfl) (by rfl) hr (by rfl) T.n_sorted (av_cons (e_var (by rfl) (by first | exact Or.inl rfl | exact Or.inr (Or.inl rfl) | exact Or.inr (Or.inr rfl)) (by decide) (by decide)) (av_nil) (by rfl))) (by first | exact nomark _ | rfl)) (wv_or1 (tv_cp (c_neC hr) (e_minT (by rfl) (by rfl) (by rfl) (by rfl) T.n_min (av_cons (e_var (by rfl) (by first | exact Or.inl rfl | exact Or.inr (Or.inl rfl) | exact Or.inr (Or.inr rfl)) (by decide) (by decide)) (av_nil) (by rfl))) (ev_ix (e_var (by rfl) (by first | exact Or.inl rfl | exact Or.inr (Or.inl rfl) | exact Or.inr (Or.inr rfl)) (by decide) (by decide)) (ev_int) (by intro _ _; rfl)) (by first | exact nomark _ | rfl))))).tv) (bv_one (sv_ret (ev_bl))) (bv_nil)) (bv_cons (wi_D _) ((by first | exact (sv_setLc (by rfl) sc__law_is_round.nd (by rfl) (by rfl) (by rfl) (iv_seq (e_var (by rfl) (by first | exact Or.inl rfl | exact Or.inr (Or.inl rfl) | exact Or.inr (Or.inr rfl)) (by decide) (by decide))) (own := [("own", 4)]) (blkOk_by (by kernel_rfl)) rfl (fun s H C cl fp => gv_name sc__law_is_round.nd (by rfl) (by first | exact .inl rfl | exact .inr rfl) (by first | exact Or.inl rfl | exact Or.inr rfl)) (by decide) (noEx_set 4) (fun s H C cl fp => cv_nil) (fun s H C cl fp => ev_ix (ev_ix (ev_ix (e_var (by rfl) (by first | exact Or.inl rfl | exact Or.inr (Or.inl rfl) | exact Or.inr (Or.inr rfl)) (by decide) (by decide)) (ev_int) (by intro _ _; rfl)) (e_var (by rfl) (by first | exact Or.inl rfl | exact Or.inr (Or.inl rfl) | exact Or.inr (Or.inr rfl)) (by decide) (by decide)) (by intro _ _; rfl)) (ev_int) (by intro _ _; rfl)) (by intro _; rfl)) | exact (sv_set sc__law_is_round.nd (by rfl) (by first | exact .inl rfl | exact .inr rfl) (ev_lc (by rfl) sc__law_is_round.nd (iv_seq (e_var (by rfl) (by first | exact Or.inl rfl | exact Or.inr (Or.inl rfl) | exact Or.inr (Or.inr rfl)) (by decide) (by decide))) (own := [("own", 4)]) (blkOk_by (by kernel_rfl)) rfl (fun s H C cl fp => gv_name sc__law_is_round.nd (by rfl) (by first | exact .inl rfl | exact .inr rfl) (by first | exact Or.inl rfl | exact Or.inr rfl)) (by decide) (noEx_set 4) (fun s H C cl fp => cv_nil) (fun s H C cl fp => ev_ix (ev_ix (ev_ix (e_var (by rfl) (by first | exact Or.inl rfl | exact Or.inr (Or.inl rfl) | exact Or.inr (Or.inr rfl)) (by decide) (by decide)) (ev_int) (by intro _ _; rfl)) (e_var (by rfl) (by first | exact Or.inl rfl | exact Or.inr (Or.inl rfl) | exact Or.inr (Or.inr rfl)) (by decide) (by decide)) (by intro _ _; rfl)) (ev_int) (by intro _ _; rfl)) (by intro _; rfl)) (by rfl) (by first | exact Or.inl rfl | exact Or.inr rfl)))) (bv_one (sv_ret (ev_cp (c_eqC hr) (e_var (by rfl) (by first | exact Or.inl rfl | exact Or.inr (Or.inl rfl) | exact Or.inr (Or.inr rfl)) (by decide) (by decide)) (ev_add (ev_slice (e_var (by rfl) (by first | exact Or.inl rfl | exact Or.inr (Or.inl rfl) | exact Or.inr (Or.inr rfl)) (by decide) (by decide)) (ov_some (ev_int)) (ov_none)) (ev_slice (e_var (by rfl) (by first | exact Or.inl rfl | exact Or.inr (Or.inl rfl) | exact Or.inr (Or.inr rfl)) (by decide) (by decide)) (ov_none) (ov_some (ev_int)))) (by first | exact nomark _ | rfl))))))
abbrev N__law_right : List PySem.Str := ["tin", "web_so", "every_so", "k", "lone_so", "own", "got", "begins_so", "lap", "long_so", "places_so", "leaves_so", "due", "its", "j"]
theorem sc__law_right : FnScope N__law_right ["tin"] (defScope s__law_right) := ⟨rfl, rfl, rfl, by decide +kernel, rfl, by decide +kernel, by decide +kernel⟩
def x__law_right_1 : M Rv := mLc [5] (mSeqI (mCall 3 none F__law_walks (mCons (mVar 1) (mCons (mVar 3) (mCons (mVar 9) (mNil)))))) (turn1 [5] (gSet 5) (mTru (mCall 2 none F__law_is_round (mCons (mVar 1) (mCons (mVar 5) (mNil))))) (mVar 5))
def x__law_right_2 : M Fl := mFor (mRange2 (mInt 1) (mB dAdd (mB dIx (mVar 1) (mInt 0)) (mInt 1))) (gSet 9) (mDrop (mExt 2 (x__law_right_1)))
def x__law_right_3 : M Fl := mFor (mRange1 (mB dIx (mVar 1) (mInt 0))) (gSet 3) (x__law_right_2)
def x__law_right_4 : M Rv := mLc [13] (mSeqI (mVar 5)) (turn1 [13] (gSet 13) (mYes) (mB dIx (mB dIx (mB dIx (mVar 1) (mInt 1)) (mVar 13)) (mInt 0)))
def x__law_right_5 : M Rv := mLc [14, 13] (mEnum (mB dIx (mVar 1) (mInt 1))) (turn1 [14, 13] (gUnp 2 (gsCons (gSet 14) (gsCons (gSet 13) (gsNil)))) (mAnd (mT2 (dInC false) (mB dIx (mVar 13) (mInt 0)) (mVar 10)) (mT2 (dInC true) (mVar 14) (mVar 5))) (mVar 14))
def x__law_right_6 : M Fl := mFor (mSeqI (mVar 2)) (gSet 5) (mSeq (mSet 10 (x__law_right_4)) (mSeq (mSet 11 (mOps dTupleOf (mCons (x__law_right_5) (mNil)))) (mSeq (mSet 6 (mLst (mCons (mCall 2 none F_exits (mCons (mCall 2 (some 0) (F__law_mixed 12) (mCons (mVar 0) (mCons (mVar 1) (mNil)))) (mCons (mVar 5) (mNil)))) (mCons (mCallK 2 2 none F_exits [1, 0] (mCons (mOps dListOf (mCons (mVar 5) (mNil))) (mCons (mVar 1) (mNil)))) (mCons (mCall 2 none F_is_round (mCons (mVar 1) (mCons (mVar 5) (mNil)))) (mCons (mCall 2 none F_is_round (mCons (mVar 1) (mCons (mB dAdd (mSlice (mVar 5) (mOpt (mInt 1)) (mNone)) (mSlice (mVar 5) (mNone) (mOpt (mInt 1)))) (mNil)))) (mNil))))))) (mSeq (mSet 12 (mLst (mCons (mVar 11) (mCons (mVar 11) (mCons (mBl true) (mCons (mB (b2 dEqC) (mOps dLen (mCons (mVar 5) (mNil))) (mInt 1)) (mNil))))))) (mSeq (mIf (mNotT (mTru (mCall 2 none (F__law_same 12) (mCons (mVar 6) (mCons (mVar 12) (mNil)))))) (mRet (mBl false)) (mNx)) (mDrop (mExt 4 (mIf (mT2 dEqC (mVar 11) (mTup (mNil))) (mLst (mCons (mVar 5) (mNil))) (mLst (mNil))))))))))
def x__law_right_7 : M Rv := mLc [13] (mSeqI (mVar 5)) (turn1 [13] (gSet 13) (mYes) (mB dIx (mB dIx (mB dIx (mVar 1) (mInt 1)) (mVar 13)) (mInt 0)))
def x__law_right_8 : M Fl := mFor (mSeqI (mVar 2)) (gSet 5) (mDrop (mExt 7 (x__law_right_7)))
def x__law_right_9 : M Rv := mLc [5] (mSeqI (mCall 2 none F__law_reached (mCons (mVar 1) (mCons (mVar 3) (mNil))))) (turn1 [5] (gSet 5) (mT2 (dInC false) (mVar 5) (mVar 7)) (mVar 5))
def x__law_right_10 : M Fl := mFor (mRange1 (mB dIx (mVar 1) (mInt 0))) (gSet 3) (mSeq (mSet 12 (mB (b2 dNeC) (x__law_right_9) (mLst (mNil)))) (mIf (mNotT (mTru (mCall 2 none (F__law_same 12) (mCons (mCallK 2 2 none F_leads_to_round [1, 0] (mCons (mVar 3) (mCons (mVar 1) (mNil)))) (mCons (mVar 12) (mNil)))))) (mRet (mBl false)) (mNx)))
def x__law_right_11 : M Fl := mFor (mRange1 (mInt 4)) (gSet 8) (mSeq (mSet 5 (mCall 4 (some 0) F__law_walk (mCons (mVar 0) (mCons (mVar 1) (mCons (mCall 2 (some 0) F__law_take (mCons (mVar 0) (mCons (mB dIx (mVar 1) (mInt 0)) (mNil)))) (mCons (mInt 4) (mNil))))))) (mIf (mNotT (mTru (mCall 2 none (F__law_same 12) (mCons (mCallK 2 2 none F_is_round [1, 0] (mCons (mVar 5) (mCons (mVar 1) (mNil)))) (mCons (mB (b2 (dInC false)) (mVar 5) (mVar 2)) (mNil)))))) (mRet (mBl false)) (mNx)))
def m__law_right : M Fl := mSeq (mSet 1 (mCall 2 (some 0) F__law_of (mCons (mVar 0) (mCons (mLst (mCons (mCall 3 (some 0) F__law_web (mCons (mVar 0) (mCons (mInt 4) (mCons (mInt 7) (mNil))))) (mCons (mCall 1 (some 0) F__law_some_web (mCons (mVar 0) (mNil))) (mNil)))) (mNil))))) (mSeq (mSet 2 (mLst (mNil))) (mSeq (x__law_right_3) (mSeq (mSet 2 (mOps dSorted (mCons (mVar 2) (mNil)))) (mSeq (mSet 4 (mLst (mNil))) (mSeq (x__law_right_6) (mSeq (mSet 6 (mLst (mCons (mCall 1 none F_rounds (mCons (mCall 2 (some 0) (F__law_mixed 12) (mCons (mVar 0) (mCons (mVar 1) (mNil)))) (mNil))) (mCons (mCallK 1 1 none F_lone_rounds [0] (mCons (mVar 1) (mNil))) (mCons (mCall 1 none F_has_rounds (mCons (mVar 1) (mNil))) (mCons (mCall 2 none F_is_round (mCons (mVar 1) (mCons (mTup (mNil)) (mNil)))) (mCons (mCall 2 none F_is_round (mCons (mVar 1) (mCons (mIf (mT2 dNeC (mVar 2) (mLst (mNil))) (mOps dListOf (mCons (mB dIx (mVar 2) (mInt 0)) (mNil))) (mNon)) (mNil)))) (mNil)))))))) (mSeq (mIf (mOr (mNotT (mTru (mCall 2 none (F__law_same 12) (mCons (mVar 6) (mCons (mLst (mCons (mVar 2) (mCons (mVar 4) (mCons (mB (b2 dNeC) (mVar 2) (mLst (mNil))) (mCons (mBl false) (mCons (mBl false) (mNil))))))) (mNil)))))) (mT2 dNeC (mCall 1 none F__law_has_rounds (mCons (mVar 1) (mNil))) (mB (b2 dNeC) (mVar 2) (mLst (mNil))))) (mRet (mBl false)) (mNx)) (mSeq (mSet 7 (mLst (mNil))) (mSeq (x__law_right_8) (mSeq (x__law_right_10) (mSeq (x__law_right_11) (mRet (mBl true)))))))))))))
def F__law_right : FD := runF 15 (some 0) m__law_right
theorem ok__law_right (T : Wd K mg) : Ok P w K mg base "_law_right" s__law_right 29 ["tin"] (some 0) F__law_right := by
  have o__law_has_rounds := ok__law_has_rounds (P := P) (w := w) (base := base) T
  have o__law_is_round := ok__law_is_round (P := P) (w := w) (base := base) T
  have o__law_mixed := ok__law_mixed (P := P) (w := w) (base := base) T
  have o__law_of := ok__law_of (P := P) (w := w) (base := base) T
  have o__law_reached := ok__law_reached (P := P) (w := w) (base := base) T
  have o__law_same := ok__law_same (P := P) (w := w) (base := base) T
  have o__law_some_web := ok__law_some_web (P := P) (w := w) (base := base) T
  have o__law_take := ok__law_take (P := P) (w := w) (base := base) T
  have o__law_walk := ok__law_walk (P := P) (w := w) (base := base) T
  have o__law_walks := ok__law_walks (P := P) (w := w) (base := base) T
  have o__law_web := ok__law_web (P := P) (w := w) (base := base) T
  have o_exits := ok_exits (P := P) (w := w) (base := base) T
  have o_has_rounds := ok_has_rounds (P := P) (w := w) (base := base) T
  have o_is_round := ok_is_round (P := P) (w := w) (base := base) T
  have o_leads_to_round := ok_leads_to_round (P := P) (w := w) (base := base) T
  have o_lone_rounds := ok_lone_rounds (P := P) (w := w) (base := base) T
  have o_rounds := ok_rounds (P := P) (w := w) (base := base) T
  refine ok_of (k := 28) (mb := m__law_right) T.d__law_right sc__law_right rfl (by decide) fun f cdv A outer s H E hr => ?_
  exact bv_cons (wi_D _) (sv_set sc__law_right.nd (by rfl) (by first | exact .inl rfl | exact .inr rfl) (e_call o__law_of (by rfl) hr (by decide) (by rfl) tkD (av_cons (e_var (by rfl) (by first | exact Or.inl rfl | exact Or.inr (Or.inl rfl) | exact Or.inr (Or.inr rfl)) (by decide) (by decide)) (av_cons (ev_lst (av_cons (e_call o__law_web (by rfl) hr (by decide) (by rfl) tkD (av_cons (e_var (by rfl) (by first | exact Or.inl rfl | exact Or.inr (Or.inl rfl) | exact Or.inr (Or.inr rfl)) (by decide) (by decide)) (av_cons (ev_int) (av_cons (ev_int) (av_nil) (by rfl)) (by rfl)) (by rfl)) (by decide) (by rfl) (by rfl)) (av_cons (e_call o__law_some_web (by rfl) hr (by decide) (by rfl) tkD (av_cons (e_var (by rfl) (by first | exact Or.inl rfl | exact Or.inr (Or.inl rfl) | exact Or.inr (Or.inr rfl)) (by decide) (by decide)) (av_nil) (by rfl)) (by decide) (by rfl) (by rfl)) (av_nil) (by rfl)) (by rfl))) (av_nil) (by rfl)) (by rfl)) (by decide) (by rfl) (by rfl)) (by rfl) (by first | exact Or.inl rfl | exact Or.inr rfl)) (bv_cons (wi_D _) (sv_set sc__law_right.nd (by rfl) (by first | exact .inl rfl | exact .inr rfl) (ev_lst (av_nil)) (by rfl) (by first | exact Or.inl rfl | exact Or.inr rfl)) (bv_cons (wi_D _) (sv_for (wi_D _) ppD (by rfl) (iv_range1 (by rfl) T.n_range (ev_ix (e_var (by rfl) (by first | exact Or.inl rfl | exact Or.inr (Or.inl rfl) | exact Or.inr (Or.inr rfl)) (by decide) (by decide)) (ev_int) (by intro _ _; rfl)) (by rfl)) (gv_name sc__law_right.nd (by rfl) (by first | exact .inl rfl | exact .inr rfl) (by first | exact Or.inl rfl | exact Or.inr rfl)) (noEx_set 3) (bv_one (sv_for (wi_D _) ppD (by rfl) (iv_range2 (by rfl) T.n_range (ev_int) (ev_add (ev_ix (e_var (by rfl) (by first | exact Or.inl rfl | exact Or.inr (Or.inl rfl) | exact Or.inr (Or.inr rfl)) (by decide) (by decide)) (ev_int) (by intro _ _; rfl)) (ev_int)) (by rfl) (by rfl)) (gv_name sc__law_right.nd (by rfl) (by first | exact .inl rfl | exact .inr rfl) (by first | exact Or.inl rfl | exact Or.inr rfl)) (noEx_set 9) (bv_one (sv_expr (ev_ext (pv 2 (by rfl) (by first | exact Or.inl rfl | exact Or.inr (Or.inl rfl) | exact Or.inr (Or.inr rfl)) (by decide) (by decide)) (ev_lc (by rfl) sc__law_right.nd (iv_seq (e_call o__law_walks (by rfl) hr (by decide) (by rfl) tkD (av_cons (e_var (by rfl) (by first | exact Or.inl rfl | exact Or.inr (Or.inl rfl) | exact Or.inr (Or.inr rfl)) (by decide) (by decide)) (av_cons (e_var (by rfl) (by first | exact Or.inl rfl | exact Or.inr (Or.inl rfl) | exact Or.inr (Or.inr rfl)) (by decide) (by decide)) (av_cons (e_var (by rfl) (by first | exact Or.inl rfl | exact Or.inr (Or.inl rfl) | exact Or.inr (Or.inr rfl)) (by decide) (by decide)) (av_nil) (by rfl)) (by rfl)) (by rfl)) (by decide) (by rfl) (by rfl))) (own := [("own", 5)]) (blkOk_by (by kernel_rfl)) rfl (fun s H C cl fp => gv_name sc__law_right.nd (by rfl) (by first | exact .inl rfl | exact .inr rfl) (by first | exact Or.inl rfl | exact Or.inr rfl)) (by decide) (noEx_set 5) (fun s H C cl fp => cv_one (tv_tru (e_call o__law_is_round (by rfl) hr (by decide) (by rfl) tkF (av_cons (e_var (by rfl) (by first | exact Or.inl rfl | exact Or.inr (Or.inl rfl) | exact Or.inr (Or.inr rfl)) (by decide) (by decide)) (av_cons (e_var (by rfl) (by first | exact Or.inl rfl | exact Or.inr (Or.inl rfl) | exact Or.inr (Or.inr rfl)) (by decide) (by decide)) (av_nil) (by rfl)) (by rfl)) (by decide) (by rfl) (by rfl)) (by intro _; rfl))) (fun s H C cl fp => e_var (by rfl) (by first | exact Or.inl rfl | exact Or.inr (Or.inl rfl) | exact Or.inr (Or.inr rfl)) (by decide) (by decide)) (by intro _; rfl)) (by rfl) (by rfl) (by rfl) (by rfl) (by rfl)) (by rfl))) (by intro _; rfl))) (by intro _; rfl)) (bv_cons (wi_D _) (sv_set sc__law_right.nd (by rfl) (by first | exact .inl rfl | exact .inr rfl) (e_sorted (by rfl) (by rfl) hr (by rfl) T.n_sorted (av_cons (e_var (by rfl) (by first | exact Or.inl rfl | exact Or.inr (Or.inl rfl) | exact Or.inr (Or.inr rfl)) (by decide) (by decide)) (av_nil) (by rfl))) (by rfl) (by first | exact Or.inl rfl | exact Or.inr rfl)) (bv_cons (wi_D _) (sv_set sc__law_right.nd (by rfl) (by first | exact .inl rfl | exact .inr rfl) (ev_lst (av_nil)) (by rfl) (by first | exact Or.inl rfl | exact Or.inr rfl)) (bv_cons (wi_D _) (sv_for (wi_D _) ppD (by rfl) (iv_seq (e_var (by rfl) (by first | exact Or.inl rfl | exact Or.inr (Or.inl rfl) | exact Or.inr (Or.inr rfl)) (by decide) (by decide))) (gv_name sc__law_right.nd (by rfl) (by first | exact .inl rfl | exact .inr rfl) (by first | exact Or.inl rfl | exact Or.inr rfl)) (noEx_set 5) (bv_cons (wi_D _) ((by first | exact (sv_setLc (by rfl) sc__law_right.nd (by rfl) (by rfl) (by rfl) (iv_seq (e_var (by rfl) (by first | exact Or.inl rfl | exact Or.inr (Or.inl rfl) | exact Or.inr (Or.inr rfl)) (by decide) (by decide))) (own := [("its", 13)]) (blkOk_by (by kernel_rfl)) rfl (fun s H C cl fp => gv_name sc__law_right.nd (by rfl) (by first | exact .inl rfl | exact .inr rfl) (by first | exact Or.inl rfl | exact Or.inr rfl)) (by decide) (noEx_set 13) (fun s H C cl fp => cv_nil) (fun s H C cl fp => ev_ix (ev_ix (ev_ix (e_var (by rfl) (by first | exact Or.inl rfl | exact Or.inr (Or.inl rfl) | exact Or.inr (Or.inr rfl)) (by decide) (by decide)) (ev_int) (by intro _ _; rfl)) (e_var (by rfl) (by first | exact Or.inl rfl | exact Or.inr (Or.inl rfl) | exact Or.inr (Or.inr rfl)) (by decide) (by decide)) (by intro _ _; rfl)) (ev_int) (by intro _ _; rfl)) (by intro _; rfl)) | exact (sv_set sc__law_right.nd (by rfl) (by first | exact .inl rfl | exact .inr rfl) (ev_lc (by rfl) sc__law_right.nd (iv_seq (e_var (by rfl) (by first | exact Or.inl rfl | exact Or.inr (Or.inl rfl) | exact Or.inr (Or.inr rfl)) (by decide) (by decide))) (own := [("its", 13)]) (blkOk_by (by kernel_rfl)) rfl (fun s H C cl fp => gv_name sc__law_right.nd (by rfl) (by first | exact .inl rfl | exact .inr rfl) (by first | exact Or.inl rfl | exact Or.inr rfl)) (by decide) (noEx_set 13) (fun s H C cl fp => cv_nil) (fun s H C cl fp => ev_ix (ev_ix (ev_ix (e_var (by rfl) (by first | exact Or.inl rfl | exact Or.inr (Or.inl rfl) | exact Or.inr (Or.inr rfl)) (by decide) (by decide)) (ev_int) (by intro _ _; rfl)) (e_var (by rfl) (by first | exact Or.inl rfl | exact Or.inr (Or.inl rfl) | exact Or.inr (Or.inr rfl)) (by decide) (by decide)) (by intro _ _; rfl)) (ev_int) (by intro _ _; rfl)) (by intro _; rfl)) (by rfl) (by first | exact Or.inl rfl | exact Or.inr rfl)))) (bv_cons (wi_D _) (sv_set sc__law_right.nd (by rfl) (by first | exact .inl rfl | exact .inr rfl) (e_tuple (by rfl) (by rfl) (by rfl) T.n_tuple (av_cons (ev_lc (by rfl) sc__law_right.nd (iv_enum (by rfl) T.n_enumerate (ev_ix (e_var (by rfl) (by first | exact Or.inl rfl | exact Or.inr (Or.inl rfl) | exact Or.inr (Or.inr rfl)) (by decide) (by decide)) (ev_int) (by intro _ _; rfl)) (by rfl)) (own := [("j", 14), ("its", 13)]) (blkOk_by (by kernel_rfl)) rfl (fun s H C cl fp => gv_tup (by rfl) (gvs_cons (gv_name sc__law_right.nd (by rfl) (by first | exact .inl rfl | exact .inr rfl) (by first | exact Or.inl rfl | exact Or.inr rfl)) (gvs_cons (gv_name sc__law_right.nd (by rfl) (by first | exact .inl rfl | exact .inr rfl) (by first | exact Or.inl rfl | exact Or.inr rfl)) (gvs_nil) (by rfl)) (by rfl)) (by rfl) (by rfl)) (by decide) (noEx_unp (noEx_cons (noEx_set 14) (noEx_cons (noEx_set 13) (noEx_nil)))) (fun s H C cl fp => cv_one ((wv_and (tv_cp (c_inC hr) (ev_ix (e_var (by rfl) (by first | exact Or.inl rfl | exact Or.inr (Or.inl rfl) | exact Or.inr (Or.inr rfl)) (by decide) (by decide)) (ev_int) (by intro _ _; rfl)) (e_var (by rfl) (by first | exact Or.inl rfl | exact Or.inr (Or.inl rfl) | exact Or.inr (Or.inr rfl)) (by decide) (by decide)) (by first | exact nomark _ | rfl)) (wv_and1 (tv_cp (c_notinC hr) (e_var (by rfl) (by first | exact Or.inl rfl | exact Or.inr (Or.inl rfl) | exact Or.inr (Or.inr rfl)) (by decide) (by decide)) (e_var (by rfl) (by first | exact Or.inl rfl | exact Or.inr (Or.inl rfl) | exact Or.inr (Or.inr rfl)) (by decide) (by decide)) (by first | exact nomark _ | rfl)))).tv)) (fun s H C cl fp => e_var (by rfl) (by first | exact Or.inl rfl | exact Or.inr (Or.inl rfl) | exact Or.inr (Or.inr rfl)) (by decide) (by decide)) (by intro _; rfl)) (av_nil) (by rfl))) (by rfl) (by first | exact Or.inl rfl | exact Or.inr rfl)) (bv_cons (wi_D _) (sv_set sc__law_right.nd (by rfl) (by first | exact .inl rfl | exact .inr rfl) (ev_lst (av_cons (e_call o_exits (by rfl) hr (by decide) (by rfl) tkD (av_cons (e_call (o__law_mixed 12) (by rfl) hr (by decide) (by rfl) tkD (av_cons (e_var (by rfl) (by first | exact Or.inl rfl | exact Or.inr (Or.inl rfl) | exact Or.inr (Or.inr rfl)) (by decide) (by decide)) (av_cons (e_var (by rfl) (by first | exact Or.inl rfl | exact Or.inr (Or.inl rfl) | exact Or.inr (Or.inr rfl)) (by decide) (by decide)) (av_nil) (by rfl)) (by rfl)) (by decide) (by rfl) (by rfl)) (av_cons (e_var (by rfl) (by first | exact Or.inl rfl | exact Or.inr (Or.inl rfl) | exact Or.inr (Or.inr rfl)) (by decide) (by decide)) (av_nil) (by rfl)) (by rfl)) (by decide) (by rfl) (by rfl)) (av_cons (e_callK o_exits (by rfl) (by rfl) hr (by decide) (by rfl) tkD (ks := ["roads", "web"]) (perm := [1, 0]) (fun _ _ _ _ _ _ ws us hl hp => match ws, hl, hp with | [_, _], _, hp => by cases hp; rfl) (kv_cons (e_list (by rfl) (by rfl) (by rfl) T.n_list (av_cons (e_var (by rfl) (by first | exact Or.inl rfl | exact Or.inr (Or.inl rfl) | exact Or.inr (Or.inr rfl)) (by decide) (by decide)) (av_nil) (by rfl))) (kv_cons (e_var (by rfl) (by first | exact Or.inl rfl | exact Or.inr (Or.inl rfl) | exact Or.inr (Or.inr rfl)) (by decide) (by decide)) (kv_nil))) (by decide) (by rfl) (by rfl) (by rfl)) (av_cons (e_call o_is_round (by rfl) hr (by decide) (by rfl) tkD (av_cons (e_var (by rfl) (by first | exact Or.inl rfl | exact Or.inr (Or.inl rfl) | exact Or.inr (Or.inr rfl)) (by decide) (by decide)) (av_cons (e_var (by rfl) (by first | exact Or.inl rfl | exact Or.inr (Or.inl rfl) | exact Or.inr (Or.inr rfl)) (by decide) (by decide)) (av_nil) (by rfl)) (by rfl)) (by decide) (by rfl) (by rfl)) (av_cons (e_call o_is_round (by rfl) hr (by decide) (by rfl) tkD (av_cons (e_var (by rfl) (by first | exact Or.inl rfl | exact Or.inr (Or.inl rfl) | exact Or.inr (Or.inr rfl)) (by decide) (by decide)) (av_cons (ev_add (ev_slice (e_var (by rfl) (by first | exact Or.inl rfl | exact Or.inr (Or.inl rfl) | exact Or.inr (Or.inr rfl)) (by decide) (by decide)) (ov_some (ev_int)) (ov_none)) (ev_slice (e_var (by rfl) (by first | exact Or.inl rfl | exact Or.inr (Or.inl rfl) | exact Or.inr (Or.inr rfl)) (by decide) (by decide)) (ov_none) (ov_some (ev_int)))) (av_nil) (by rfl)) (by rfl)) (by decide) (by rfl) (by rfl)) (av_nil) (by rfl)) (by rfl)) (by rfl)) (by rfl))) (by rfl) (by first | exact Or.inl rfl | exact Or.inr rfl)) (bv_cons (wi_D _) (sv_set sc__law_right.nd (by rfl) (by first | exact .inl rfl | exact .inr rfl) (ev_lst (av_cons (e_var (by rfl) (by first | exact Or.inl rfl | exact Or.inr (Or.inl rfl) | exact Or.inr (Or.inr rfl)) (by decide) (by decide)) (av_cons (e_var (by rfl) (by first | exact Or.inl rfl | exact Or.inr (Or.inl rfl) | exact Or.inr (Or.inr rfl)) (by decide) (by decide)) (av_cons (ev_bl) (av_cons (ev_cp (c_eqC hr) (e_len (by rfl) (by rfl) (by rfl) T.n_len (av_cons (e_var (by rfl) (by first | exact Or.inl rfl | exact Or.inr (Or.inl rfl) | exact Or.inr (Or.inr rfl)) (by decide) (by decide)) (av_nil) (by rfl))) (ev_int) (by first | exact nomark _ | rfl)) (av_nil) (by rfl)) (by rfl)) (by rfl)) (by rfl))) (by rfl) (by first | exact Or.inl rfl | exact Or.inr rfl)) (bv_cons (wi_D _) (sv_if (wi_D _) (tv_not (tv_tru (e_call (o__law_same 12) (by rfl) hr (by decide) (by rfl) tkD (av_cons (e_var (by rfl) (by first | exact Or.inl rfl | exact Or.inr (Or.inl rfl) | exact Or.inr (Or.inr rfl)) (by decide) (by decide)) (av_cons (e_var (by rfl) (by first | exact Or.inl rfl | exact Or.inr (Or.inl rfl) | exact Or.inr (Or.inr rfl)) (by decide) (by decide)) (av_nil) (by rfl)) (by rfl)) (by decide) (by rfl) (by rfl)) (by intro _; rfl))) (bv_one (sv_ret (ev_bl))) (bv_nil)) (bv_one (sv_expr (ev_ext (pv 4 (by rfl) (by first | exact Or.inl rfl | exact Or.inr (Or.inl rfl) | exact Or.inr (Or.inr rfl)) (by decide) (by decide)) (ev_if (tv_cp (c_eqC hr) (e_var (by rfl) (by first | exact Or.inl rfl | exact Or.inr (Or.inl rfl) | exact Or.inr (Or.inr rfl)) (by decide) (by decide)) (ev_tup (av_nil)) (by first | exact nomark _ | rfl)) (ev_lst (av_cons (e_var (by rfl) (by first | exact Or.inl rfl | exact Or.inr (Or.inl rfl) | exact Or.inr (Or.inr rfl)) (by decide) (by decide)) (av_nil) (by rfl))) (ev_lst (av_nil))) (by rfl) (by rfl) (by rfl) (by rfl) (by rfl)) (by rfl)))))))) (by intro _; rfl)) (bv_cons (wi_D _) (sv_set sc__law_right.nd (by rfl) (by first | exact .inl rfl | exact .inr rfl) (ev_lst (av_cons (e_call o_rounds (by rfl) hr (by decide) (by rfl) tkD (av_cons (e_call (o__law_mixed 12) (by rfl) hr (by decide) (by rfl) tkD (av_cons (e_var (by rfl) (by first | exact Or.inl rfl | exact Or.inr (Or.inl rfl) | exact Or.inr (Or.inr rfl)) (by decide) (by decide)) (av_cons (e_var (by rfl) (by first | exact Or.inl rfl | exact Or.inr (Or.inl rfl) | exact Or.inr (Or.inr rfl)) (by decide) (by decide)) (av_nil) (by rfl)) (by rfl)) (by decide) (by rfl) (by rfl)) (av_nil) (by rfl)) (by decide) (by rfl) (by rfl)) (av_cons (e_callK o_lone_rounds (by rfl) (by rfl) hr (by decide) (by rfl) tkD (ks := ["web"]) (perm := [0]) (fun _ _ _ _ _ _ ws us hl hp => match ws, hl, hp with | [_], _, hp => by cases hp; rfl) (kv_cons (e_var (by rfl) (by first | exact Or.inl rfl | exact Or.inr (Or.inl rfl) | exact Or.inr (Or.inr rfl)) (by decide) (by decide)) (kv_nil)) (by decide) (by rfl) (by rfl) (by rfl)) (av_cons (e_call o_has_rounds (by rfl) hr (by decide) (by rfl) tkD (av_cons (e_var (by rfl) (by first | exact Or.inl rfl | exact Or.inr (Or.inl rfl) | exact Or.inr (Or.inr rfl)) (by decide) (by decide)) (av_nil) (by rfl)) (by decide) (by rfl) (by rfl)) (av_cons (e_call o_is_round (by rfl) hr (by decide) (by rfl) tkD (av_cons (e_var (by rfl) (by first | exact Or.inl rfl | exact Or.inr (Or.inl rfl) | exact Or.inr (Or.inr rfl)) (by decide) (by decide)) (av_cons (ev_tup (av_nil)) (av_nil) (by rfl)) (by rfl)) (by decide) (by rfl) (by rfl)) (av_cons (e_call o_is_round (by rfl) hr (by decide) (by rfl) tkD (av_cons (e_var (by rfl) (by first | exact Or.inl rfl | exact Or.inr (Or.inl rfl) | exact Or.inr (Or.inr rfl)) (by decide) (by decide)) (av_cons (ev_if (tv_cp (c_neC hr) (e_var (by rfl) (by first | exact Or.inl rfl | exact Or.inr (Or.inl rfl) | exact Or.inr (Or.inr rfl)) (by decide) (by decide)) (ev_lst (av_nil)) (by first | exact nomark _ | rfl)) (e_list (by rfl) (by rfl) (by rfl) T.n_list (av_cons (ev_ix (e_var (by rfl) (by first | exact Or.inl rfl | exact Or.inr (Or.inl rfl) | exact Or.inr (Or.inr rfl)) (by decide) (by decide)) (ev_int) (by intro _ _; rfl)) (av_nil) (by rfl))) (ev_non)) (av_nil) (by rfl)) (by rfl)) (by decide) (by rfl) (by rfl)) (av_nil) (by rfl)) (by rfl)) (by rfl)) (by rfl)) (by rfl))) (by rfl) (by first | exact Or.inl rfl | exact Or.inr rfl)) (bv_cons (wi_D _) (sv_if (wi_D _) ((wv_or (tv_not (tv_tru (e_call (o__law_same 12) (by rfl) hr (by decide) (by rfl) tkD (av_cons (e_var (by rfl) (by first | exact Or.inl rfl | exact Or.inr (Or.inl rfl) | exact Or.inr (Or.inr rfl)) (by decide) (by decide)) (av_cons (ev_lst (av_cons (e_var (by rfl) (by first | exact Or.inl rfl | exact Or.inr (Or.inl rfl) | exact Or.inr (Or.inr rfl)) (by decide) (by decide)) (av_cons (e_var (by rfl) (by first | exact Or.inl rfl | exact Or.inr (Or.inl rfl) | exact Or.inr (Or.inr rfl)) (by decide) (by decide)) (av_cons (ev_cp (c_neC hr) (e_var (by rfl) (by first | exact Or.inl rfl | exact Or.inr (Or.inl rfl) | exact Or.inr (Or.inr rfl)) (by decide) (by decide)) (ev_lst (av_nil)) (by first | exact nomark _ | rfl)) (av_cons (ev_bl) (av_cons (ev_bl) (av_nil) (by rfl)) (by rfl)) (by rfl)) (by rfl)) (by rfl))) (av_nil) (by rfl)) (by rfl)) (by decide) (by rfl) (by rfl)) (by intro _; rfl))) (wv_or1 (tv_cp (c_neC hr) (e_call o__law_has_rounds (by rfl) hr (by decide) (by rfl) tkD (av_cons (e_var (by rfl) (by first | exact Or.inl rfl | exact Or.inr (Or.inl rfl) | exact Or.inr (Or.inr rfl)) (by decide) (by decide)) (av_nil) (by rfl)) (by decide) (by rfl) (by rfl)) (ev_cp (c_neC hr) (e_var (by rfl) (by first | exact Or.inl rfl | exact Or.inr (Or.inl rfl) | exact Or.inr (Or.inr rfl)) (by decide) (by decide)) (ev_lst (av_nil)) (by first | exact nomark _ | rfl)) (by first | exact nomark _ | rfl)))).tv) (bv_one (sv_ret (ev_bl))) (bv_nil)) (bv_cons (wi_D _) (sv_set sc__law_right.nd (by rfl) (by first | exact .inl rfl | exact .inr rfl) (ev_lst (av_nil)) (by rfl) (by first | exact Or.inl rfl | exact Or.inr rfl)) (bv_cons (wi_D _) (sv_for (wi_D _) ppD (by rfl) (iv_seq (e_var (by rfl) (by first | exact Or.inl rfl | exact Or.inr (Or.inl rfl) | exact Or.inr (Or.inr rfl)) (by decide) (by decide))) (gv_name sc__law_right.nd (by rfl) (by first | exact .inl rfl | exact .inr rfl) (by first | exact Or.inl rfl | exact Or.inr rfl)) (noEx_set 5) (bv_one (sv_expr (ev_ext (pv 7 (by rfl) (by first | exact Or.inl rfl | exact Or.inr (Or.inl rfl) | exact Or.inr (Or.inr rfl)) (by decide) (by decide)) (ev_lc (by rfl) sc__law_right.nd (iv_seq (e_var (by rfl) (by first | exact Or.inl rfl | exact Or.inr (Or.inl rfl) | exact Or.inr (Or.inr rfl)) (by decide) (by decide))) (own := [("its", 13)]) (blkOk_by (by kernel_rfl)) rfl (fun s H C cl fp => gv_name sc__law_right.nd (by rfl) (by first | exact .inl rfl | exact .inr rfl) (by first | exact Or.inl rfl | exact Or.inr rfl)) (by decide) (noEx_set 13) (fun s H C cl fp => cv_nil) (fun s H C cl fp => ev_ix (ev_ix (ev_ix (e_var (by rfl) (by first | exact Or.inl rfl | exact Or.inr (Or.inl rfl) | exact Or.inr (Or.inr rfl)) (by decide) (by decide)) (ev_int) (by intro _ _; rfl)) (e_var (by rfl) (by first | exact Or.inl rfl | exact Or.inr (Or.inl rfl) | exact Or.inr (Or.inr rfl)) (by decide) (by decide)) (by intro _ _; rfl)) (ev_int) (by intro _ _; rfl)) (by intro _; rfl)) (by rfl) (by rfl) (by rfl) (by rfl) (by rfl)) (by rfl))) (by intro _; rfl)) (bv_cons (wi_D _) (sv_for (wi_D _) ppD (by rfl) (iv_range1 (by rfl) T.n_range (ev_ix (e_var (by rfl) (by first | exact Or.inl rfl | exact Or.inr (Or.inl rfl) | exact Or.inr (Or.inr rfl)) (by decide) (by decide)) (ev_int) (by intro _ _; rfl)) (by rfl)) (gv_name sc__law_right.nd (by rfl) (by first | exact .inl rfl | exact .inr rfl) (by first | exact Or.inl rfl | exact Or.inr rfl)) (noEx_set 3) (bv_cons (wi_D _) (sv_set sc__law_right.nd (by rfl) (by first | exact .inl rfl | exact .inr rfl) (ev_cp (c_neC hr) (ev_lc (by rfl) sc__law_right.nd (iv_seq (e_call o__law_reached (by rfl) hr (by decide) (by rfl) tkD (av_cons (e_var (by rfl) (by first | exact Or.inl rfl | exact Or.inr (Or.inl rfl) | exact Or.inr (Or.inr rfl)) (by decide) (by decide)) (av_cons (e_var (by rfl) (by first | exact Or.inl rfl | exact Or.inr (Or.inl rfl) | exact Or.inr (Or.inr rfl)) (by decide) (by decide)) (av_nil) (by rfl)) (by rfl)) (by decide) (by rfl) (by rfl))) (own := [("own", 5)]) (blkOk_by (by kernel_rfl)) rfl (fun s H C cl fp => gv_name sc__law_right.nd (by rfl) (by first | exact .inl rfl | exact .inr rfl) (by first | exact Or.inl rfl | exact Or.inr rfl)) (by decide) (noEx_set 5) (fun s H C cl fp => cv_one (tv_cp (c_inC hr) (e_var (by rfl) (by first | exact Or.inl rfl | exact Or.inr (Or.inl rfl) | exact Or.inr (Or.inr rfl)) (by decide) (by decide)) (e_var (by rfl) (by first | exact Or.inl rfl | exact Or.inr (Or.inl rfl) | exact Or.inr (Or.inr rfl)) (by decide) (by decide)) (by first | exact nomark _ | rfl))) (fun s H C cl fp => e_var (by rfl) (by first | exact Or.inl rfl | exact Or.inr (Or.inl rfl) | exact Or.inr (Or.inr rfl)) (by decide) (by decide)) (by intro _; rfl)) (ev_lst (av_nil)) (by first | exact nomark _ | rfl)) (by rfl) (by first | exact Or.inl rfl | exact Or.inr rfl)) (bv_one (sv_if (wi_D _) (tv_not (tv_tru (e_call (o__law_same 12) (by rfl) hr (by decide) (by rfl) tkD (av_cons (e_callK o_leads_to_round (by rfl) (by rfl) hr (by decide) (by rfl) tkD (ks := ["place", "web"]) (perm := [1, 0]) (fun _ _ _ _ _ _ ws us hl hp => match ws, hl, hp with | [_, _], _, hp => by cases hp; rfl) (kv_cons (e_var (by rfl) (by first | exact Or.inl rfl | exact Or.inr (Or.inl rfl) | exact Or.inr (Or.inr rfl)) (by decide) (by decide)) (kv_cons (e_var (by rfl) (by first | exact Or.inl rfl | exact Or.inr (Or.inl rfl) | exact Or.inr (Or.inr rfl)) (by decide) (by decide)) (kv_nil))) (by decide) (by rfl) (by rfl) (by rfl)) (av_cons (e_var (by rfl) (by first | exact Or.inl rfl | exact Or.inr (Or.inl rfl) | exact Or.inr (Or.inr rfl)) (by decide) (by decide)) (av_nil) (by rfl)) (by rfl)) (by decide) (by rfl) (by rfl)) (by intro _; rfl))) (bv_one (sv_ret (ev_bl))) (bv_nil)))) (by intro _; rfl)) (bv_cons (wi_D _) (sv_for (wi_D _) ppD (by rfl) (iv_range1 (by rfl) T.n_range (ev_int) (by rfl)) (gv_name sc__law_right.nd (by rfl) (by first | exact .inl rfl | exact .inr rfl) (by first | exact Or.inl rfl | exact Or.inr rfl)) (noEx_set 8) (bv_cons (wi_D _) (sv_set sc__law_right.nd (by rfl) (by first | exact .inl rfl | exact .inr rfl) (e_call o__law_walk (by rfl) hr (by decide) (by rfl) tkD (av_cons (e_var (by rfl) (by first | exact Or.inl rfl | exact Or.inr (Or.inl rfl) | exact Or.inr (Or.inr rfl)) (by decide) (by decide)) (av_cons (e_var (by rfl) (by first | exact Or.inl rfl | exact Or.inr (Or.inl rfl) | exact Or.inr (Or.inr rfl)) (by decide) (by decide)) (av_cons (e_call o__law_take (by rfl) hr (by decide) (by rfl) tkD (av_cons (e_var (by rfl) (by first | exact Or.inl rfl | exact Or.inr (Or.inl rfl) | exact Or.inr (Or.inr rfl)) (by decide) (by decide)) (av_cons (ev_ix (e_var (by rfl) (by first | exact Or.inl rfl | exact Or.inr (Or.inl rfl) | exact Or.inr (Or.inr rfl)) (by decide) (by decide)) (ev_int) (by intro _ _; rfl)) (av_nil) (by rfl)) (by rfl)) (by decide) (by rfl) (by rfl)) (av_cons (ev_int) (av_nil) (by rfl)) (by rfl)) (by rfl)) (by rfl)) (by decide) (by rfl) (by rfl)) (by rfl) (by first | exact Or.inl rfl | exact Or.inr rfl)) (bv_one (sv_if (wi_D _) (tv_not (tv_tru (e_call (o__law_same 12) (by rfl) hr (by decide) (by rfl) tkD (av_cons (e_callK o_is_round (by rfl) (by rfl) hr (by decide) (by rfl) tkD (ks := ["thing", "web"]) (perm := [1, 0]) (fun _ _ _ _ _ _ ws us hl hp => match ws, hl, hp with | [_, _], _, hp => by cases hp; rfl) (kv_cons (e_var (by rfl) (by first | exact Or.inl rfl | exact Or.inr (Or.inl rfl) | exact Or.inr (Or.inr rfl)) (by decide) (by decide)) (kv_cons (e_var (by rfl) (by first | exact Or.inl rfl | exact Or.inr (Or.inl rfl) | exact Or.inr (Or.inr rfl)) (by decide) (by decide)) (kv_nil))) (by decide) (by rfl) (by rfl) (by rfl)) (av_cons (ev_cp (c_inC hr) (e_var (by rfl) (by first | exact Or.inl rfl | exact Or.inr (Or.inl rfl) | exact Or.inr (Or.inr rfl)) (by decide) (by decide)) (e_var (by rfl) (by first | exact Or.inl rfl | exact Or.inr (Or.inl rfl) | exact Or.inr (Or.inr rfl)) (by decide) (by decide)) (by first | exact nomark _ | rfl)) (av_nil) (by rfl)) (by rfl)) (by decide) (by rfl) (by rfl)) (by intro _; rfl))) (bv_one (sv_ret (ev_bl))) (bv_nil)))) (by intro _; rfl)) (bv_one (sv_ret (ev_bl))))))))))))))
abbrev N_law : List PySem.Str := ["script", "cells_so", "k"]
theorem sc_law : FnScope N_law ["script"] (defScope s_law) := ⟨rfl, rfl, rfl, by decide +kernel, rfl, by decide +kernel, by decide +kernel⟩
def x_law_1 : M Rv := mLc [2] (mRange1 (mOps dLen (mCons (mVar 1) (mNil)))) (turn1 [2] (gSet 2) (mYes) (mCallFr F__law_right (mCall 2 none F__law_box (mCons (mVar 1) (mCons (mVar 2) (mNil))))))
def m_law : M Fl := mSeq (mSet 1 (mCall 2 none F__law_cells (mCons (mVar 0) (mCons (mInt 2) (mNil))))) (mRet (mOps dAll (mCons (x_law_1) (mNil))))
def F_law : FD := runF 3 none m_law
theorem ok_law (T : Wd K mg) : Ok P w K mg base "law" s_law 30 ["script"] none F_law := by
  have o__law_box := ok__law_box (P := P) (w := w) (base := base) T
  have o__law_cells := ok__law_cells (P := P) (w := w) (base := base) T
  have o__law_right := ok__law_right (P := P) (w := w) (base := base) T
  refine ok_of (k := 29) (mb := m_law) T.d_law sc_law rfl (by decide) fun f cdv A outer s H E hr => ?_
  exact bv_cons (wi_D _) (sv_set sc_law.nd (by rfl) (by first | exact .inl rfl | exact .inr rfl) (e_call o__law_cells (by rfl) hr (by decide) (by rfl) tkD (av_cons (e_var (by rfl) (by first | exact Or.inl rfl | exact Or.inr (Or.inl rfl) | exact Or.inr (Or.inr rfl)) (by decide) (by decide)) (av_cons (ev_int) (av_nil) (by rfl)) (by rfl)) (by decide) (by rfl) (by rfl)) (by rfl) (by first | exact Or.inl rfl | exact Or.inr rfl)) (bv_one (sv_ret (e_all (by rfl) (by rfl) (by rfl) (by rfl) T.n_all (av_cons (ev_lc (by rfl) sc_law.nd (iv_range1 (by rfl) T.n_range (e_len (by rfl) (by rfl) (by rfl) T.n_len (av_cons (e_var (by rfl) (by first | exact Or.inl rfl | exact Or.inr (Or.inl rfl) | exact Or.inr (Or.inr rfl)) (by decide) (by decide)) (av_nil) (by rfl))) (by rfl)) (own := [("k", 2)]) (blkOk_by (by kernel_rfl)) rfl (fun s H C cl fp => gv_name sc_law.nd (by rfl) (by first | exact .inl rfl | exact .inr rfl) (by first | exact Or.inl rfl | exact Or.inr rfl)) (by decide) (noEx_set 2) (fun s H C cl fp => cv_nil) (fun s H C cl fp => e_callFr o__law_right (by rfl) hr (by decide) (by rfl) tkF (e_call o__law_box (by rfl) hr (by decide) (by rfl) tkF (av_cons (e_var (by rfl) (by first | exact Or.inl rfl | exact Or.inr (Or.inl rfl) | exact Or.inr (Or.inr rfl)) (by decide) (by decide)) (av_cons (e_var (by rfl) (by first | exact Or.inl rfl | exact Or.inr (Or.inl rfl) | exact Or.inr (Or.inr rfl)) (by decide) (by decide)) (av_nil) (by rfl)) (by rfl)) (by decide) (by rfl) (by rfl)) (by decide) (by rfl) (by rfl)) (by intro _; rfl)) (av_nil) (by rfl)))))
end
end K01

set_option Elab.async false
set_option linter.all false
set_option maxRecDepth 100000
namespace K01
open DL PySem
theorem is_number_int (i : Int) : F_is_number [.int i] = .ok (.bl true) false .non := rfl
theorem is_within_int (i a b : Int) : F_is_within [.int i, .int a, .int b] = .ok (.bl (decide (a ≤ i) && decide (i ≤ b))) false .non := by
  by_cases h1 : a ≤ i <;> by_cases h2 : i ≤ b <;> simp [F_is_within, m_is_within, is_number_int, h1, h2, runF, initS, mRet, mAndV, mOrV, bind_eq, pure_eq, mCall, mCons, mNil, mVar, rdv, callAt, lent, ownAt, just, isLn, tst, dTru, asV, mChain, tst2, dLe, dLt, dGe, dGt, dIs, dIsNot, isNon, handed, outD, retRv, mIf, mOr, mAnd, mNotT, mTru, mSeq, mIsi, dIsi, tyD, tyLe, mOps, ops, mInt, mBl, mNon, mStr, mB, mU, op1, op2, mSet, store, free, DL.settle, DL.settles, mNotV, b2, mRetN, mNx, mDrop, mSeqI, items, mT2, okRet, noL, noLi, noLs, mYes, gSet, gUnp, gsCons, gsNil, mTup, mLst, guardL]
theorem sure_within_int {i a b : Int} (h1 : a ≤ i) (h2 : i ≤ b) : F_sure_within [.int i, .int a, .int b] = .ok (.int i) false .non := by
  simp [F_sure_within, m_sure_within, is_within_int, h1, h2, runF, initS, mRet, mAndV, mOrV, bind_eq, pure_eq, mCall, mCons, mNil, mVar, rdv, callAt, lent, ownAt, just, isLn, tst, dTru, asV, mChain, tst2, dLe, dLt, dGe, dGt, dIs, dIsNot, isNon, handed, outD, retRv, mIf, mOr, mAnd, mNotT, mTru, mSeq, mIsi, dIsi, tyD, tyLe, mOps, ops, mInt, mBl, mNon, mStr, mB, mU, op1, op2, mSet, store, free, DL.settle, DL.settles, mNotV, b2, mRetN, mNx, mDrop, mSeqI, items, mT2, okRet, noL, noLi, noLs, mYes, gSet, gUnp, gsCons, gsNil, mTup, mLst, guardL]
theorem int_shaped (i : Int) : SeqAt.shaped (D.int i).toP = true := rfl
theorem is_long_tup {xs : List D} {m : Int} : F_is_long [.tup xs, .int m] = .ok (.bl (decide ((xs.length : Int) = m))) false .non := by
  by_cases h1 : (xs.length : Int) = m <;> simp [F_is_long, m_is_long, dLen, dEqC, D.eqb, int_shaped, h1, runF, initS, mRet, mAndV, mOrV, bind_eq, pure_eq, mCall, mCons, mNil, mVar, rdv, callAt, lent, ownAt, just, isLn, tst, dTru, asV, mChain, tst2, dLe, dLt, dGe, dGt, dIs, dIsNot, isNon, handed, outD, retRv, mIf, mOr, mAnd, mNotT, mTru, mSeq, mIsi, dIsi, tyD, tyLe, mOps, ops, mInt, mBl, mNon, mStr, mB, mU, op1, op2, mSet, store, free, DL.settle, DL.settles, mNotV, b2, mRetN, mNx, mDrop, mSeqI, items, mT2, okRet, noL, noLi, noLs, mYes, gSet, gUnp, gsCons, gsNil, mTup, mLst, guardL]
/-! ### data of ints in tuples and lists -/
mutual
/-- lists told as tuples -/
def tupD : D → D
  | .tup xs => .tup (tupDs xs)
  | .lst xs => .tup (tupDs xs)
  | d => d
def tupDs : List D → List D
  | [] => []
  | d :: r => tupD d :: tupDs r
end
theorem tupDs_map : ∀ xs : List D, tupDs xs = xs.map tupD
  | [] => rfl
  | d :: r => congrArg (tupD d :: ·) (tupDs_map r)
/-- ints in tuples and lists, no deeper than n -/
def PlainD : Nat → D → Prop
  | 0, _ => False
  | n + 1, d => (∃ i, d = .int i) ∨ (∃ xs, (d = .tup xs ∨ d = .lst xs) ∧ xs.length ≤ 1000 ∧ ∀ x ∈ xs, PlainD n x)
theorem tupled_ok : ∀ (n : Nat) (d : D), PlainD n d → F_tupled n [d] = .ok (tupD d) false .non
  | 0, _, h => h.elim
  | n + 1, d, h => by
    have ih := tupled_ok n
    rcases h with ⟨i, rfl⟩ | ⟨xs, hd, hl, hx⟩
    · simp [F_tupled, m_tupled, tupD, runF, initS, mRet, mAndV, mOrV, bind_eq, pure_eq, mCall, mCons, mNil, mVar, rdv, callAt, lent, ownAt, just, isLn, tst, dTru, asV, mChain, tst2, dLe, dLt, dGe, dGt, dIs, dIsNot, isNon, handed, outD, retRv, mIf, mOr, mAnd, mNotT, mTru, mSeq, mIsi, dIsi, tyD, tyLe, mOps, ops, mInt, mBl, mNon, mStr, mB, mU, op1, op2, mSet, store, free, DL.settle, DL.settles, mNotV, b2, mRetN, mNx, mDrop, mSeqI, items, mT2, okRet, noL, noLi, noLs, mYes, gSet, gUnp, gsCons, gsNil, mTup, mLst, guardL]
    · have key : ∀ t : Sl, ∀ d ∈ xs, turn1 [1] (gSet 1) mYes (mCall 1 none (F_tupled n) (mCons (mVar 1) mNil)) d [t, .no] = .ok [tupD d] [t, .no] := by
        intro t d hd
        simp [turn1, ih d (hx d hd), wipeM, noOw, wipeS, runF, initS, mRet, mAndV, mOrV, bind_eq, pure_eq, mCall, mCons, mNil, mVar, rdv, callAt, lent, ownAt, just, isLn, tst, dTru, asV, mChain, tst2, dLe, dLt, dGe, dGt, dIs, dIsNot, isNon, handed, outD, retRv, mIf, mOr, mAnd, mNotT, mTru, mSeq, mIsi, dIsi, tyD, tyLe, mOps, ops, mInt, mBl, mNon, mStr, mB, mU, op1, op2, mSet, store, free, DL.settle, DL.settles, mNotV, b2, mRetN, mNx, mDrop, mSeqI, items, mT2, okRet, noL, noLi, noLs, mYes, gSet, gUnp, gsCons, gsNil, mTup, mLst, guardL]
      have fm : (xs.flatMap fun d => [tupD d]) = tupDs xs := by rw [tupDs_map, flatMap_one]
      have len : (xs.flatMap fun d => [tupD d]).length ≤ lim := by
        rw [flatMap_one, List.length_map]
        exact Nat.le_trans hl (by decide)
      have lc : ∀ d, (d = D.tup xs ∨ d = D.lst xs) → x_tupled_1 (F_tupled n) [.sh d, .no] = .ok (.fr (.lst (tupDs xs))) [.sh d, .no] := by
        intro d hd
        rw [← fm]
        refine lc_pure (ds := xs) ?_ rfl (fun x hx => key (.sh d) x hx) len
        rcases hd with rfl | rfl <;> rfl
      rcases hd with rfl | rfl
      · simp [F_tupled, m_tupled, lc _ (.inl rfl), dTupleOf, tupD, runF, initS, mRet, mAndV, mOrV, bind_eq, pure_eq, mCall, mCons, mNil, mVar, rdv, callAt, lent, ownAt, just, isLn, tst, dTru, asV, mChain, tst2, dLe, dLt, dGe, dGt, dIs, dIsNot, isNon, handed, outD, retRv, mIf, mOr, mAnd, mNotT, mTru, mSeq, mIsi, dIsi, tyD, tyLe, mOps, ops, mInt, mBl, mNon, mStr, mB, mU, op1, op2, mSet, store, free, DL.settle, DL.settles, mNotV, b2, mRetN, mNx, mDrop, mSeqI, items, mT2, okRet, noL, noLi, noLs, mYes, gSet, gUnp, gsCons, gsNil, mTup, mLst, guardL]
      · simp [F_tupled, m_tupled, lc _ (.inr rfl), dTupleOf, tupD, runF, initS, mRet, mAndV, mOrV, bind_eq, pure_eq, mCall, mCons, mNil, mVar, rdv, callAt, lent, ownAt, just, isLn, tst, dTru, asV, mChain, tst2, dLe, dLt, dGe, dGt, dIs, dIsNot, isNon, handed, outD, retRv, mIf, mOr, mAnd, mNotT, mTru, mSeq, mIsi, dIsi, tyD, tyLe, mOps, ops, mInt, mBl, mNon, mStr, mB, mU, op1, op2, mSet, store, free, DL.settle, DL.settles, mNotV, b2, mRetN, mNx, mDrop, mSeqI, items, mT2, okRet, noL, noLi, noLs, mYes, gSet, gUnp, gsCons, gsNil, mTup, mLst, guardL]
/-! ### webs -/
abbrev eN (n : Nat) : D := .int (n : Int)
abbrev eRoads (rs : List (Nat × Nat)) : D := .tup (rs.map fun r => .tup [eN r.1, eN r.2])
abbrev eWeb (n : Nat) (rs : List (Nat × Nat)) : D := .tup [eN n, eRoads rs]
structure WebOk (n : Nat) (rs : List (Nat × Nat)) : Prop where
  one : 1 ≤ n
  most : n ≤ 8
  few : rs.length ≤ 16
  lt : ∀ r ∈ rs, r.1 < n ∧ r.2 < n
theorem dAll_true : ∀ bs : List D, (∀ b ∈ bs, b = .bl true) → dAll [.lst bs] = some (.v (.bl true)) := by
  intro bs h
  have : ∀ bs : List D, (∀ b ∈ bs, b = .bl true) → ∃ ks, dBls bs = some ks ∧ ks.all id = true := by
    intro bs
    induction bs with
    | nil => intro _; exact ⟨[], rfl, rfl⟩
    | cons b r ih =>
      intro h
      obtain ⟨ks, e1, e2⟩ := ih fun x hx => h x (List.mem_cons_of_mem _ hx)
      rw [h b List.mem_cons_self]
      exact ⟨true :: ks, by simp [dBls, e1], by simp [e2]⟩
  obtain ⟨ks, e1, e2⟩ := this bs h
  simp [dAll, e1, e2]
abbrev eRoad (r : Nat × Nat) : D := .tup [eN r.1, eN r.2]
theorem is_web_ok {n : Nat} {rs : List (Nat × Nat)} (w : WebOk n rs) : F_is_web [eWeb n rs] = .ok (.bl true) false .non := by
  obtain ⟨h1, h2, h3, h4⟩ := w
  have c1 : x_is_web_1 [.sh (eWeb n rs), .no, .no] = .ok (.fr (.lst ((rs.map eRoad).flatMap fun _ => [.bl true]))) [.sh (eWeb n rs), .no, .no] := by
    refine lc_pure (ds := rs.map eRoad) rfl rfl (fun d hd => ?_) ?_
    · obtain ⟨r, hr, rfl⟩ := List.mem_map.mp hd
      simp [turn1, is_long_tup, wipeM, noOw, wipeS, runF, initS, mRet, mAndV, mOrV, bind_eq, pure_eq, mCall, mCons, mNil, mVar, rdv, callAt, lent, ownAt, just, isLn, tst, dTru, asV, mChain, tst2, dLe, dLt, dGe, dGt, dIs, dIsNot, isNon, handed, outD, retRv, mIf, mOr, mAnd, mNotT, mTru, mSeq, mIsi, dIsi, tyD, tyLe, mOps, ops, mInt, mBl, mNon, mStr, mB, mU, op1, op2, mSet, store, free, DL.settle, DL.settles, mNotV, b2, mRetN, mNx, mDrop, mSeqI, items, mT2, okRet, noL, noLi, noLs, mYes, gSet, gUnp, gsCons, gsNil, mTup, mLst, guardL]
    · rw [flatMap_one (fun _ => D.bl true), List.length_map, List.length_map]
      exact Nat.le_trans h3 (by decide)
  have c2 : x_is_web_2 [.sh (eWeb n rs), .no, .no] = .ok (.fr (.lst ((rs.map eRoad).flatMap fun _ => [.bl true, .bl true]))) [.sh (eWeb n rs), .no, .no] := by
    refine lc_pure (ds := rs.map eRoad) rfl rfl (fun d hd => ?_) ?_
    · obtain ⟨r, hr, rfl⟩ := List.mem_map.mp hd
      obtain ⟨a, b⟩ := r
      have q := h4 _ hr
      have q1 : (a : Int) ≤ n - 1 := by have := q.1; omega
      have q2 : (b : Int) ≤ n - 1 := by have := q.2; omega
      simp [turn2, turn1, lcL, is_within_int, dIx, L2.atI, L2.ixN, dSub, q1, q2, wipeM, noOw, wipeS, runF, initS, mRet, mAndV, mOrV, bind_eq, pure_eq, mCall, mCons, mNil, mVar, rdv, callAt, lent, ownAt, just, isLn, tst, dTru, asV, mChain, tst2, dLe, dLt, dGe, dGt, dIs, dIsNot, isNon, handed, outD, retRv, mIf, mOr, mAnd, mNotT, mTru, mSeq, mIsi, dIsi, tyD, tyLe, mOps, ops, mInt, mBl, mNon, mStr, mB, mU, op1, op2, mSet, store, free, DL.settle, DL.settles, mNotV, b2, mRetN, mNx, mDrop, mSeqI, items, mT2, okRet, noL, noLi, noLs, mYes, gSet, gUnp, gsCons, gsNil, mTup, mLst, guardL]
    · have : ((rs.map eRoad).flatMap fun _ => [D.bl true, .bl true]).length = 2 * rs.length := by
        clear c1 h3 h4
        induction rs with
        | nil => rfl
        | cons r rs ih => simp only [List.map_cons, List.flatMap_cons, List.length_append, ih, List.length_cons, List.length_nil]; omega
      rw [this]
      exact Nat.le_trans (Nat.mul_le_mul_left 2 h3) (by decide)
  have a1 : dAll [.lst ((rs.map eRoad).flatMap fun _ => [.bl true])] = some (.v (.bl true)) := dAll_true _ fun b hb => by
    obtain ⟨_, _, h⟩ := List.mem_flatMap.mp hb
    simpa using h
  have a2 : dAll [.lst ((rs.map eRoad).flatMap fun _ => [.bl true, .bl true])] = some (.v (.bl true)) := dAll_true _ fun b hb => by
    obtain ⟨_, _, h⟩ := List.mem_flatMap.mp hb
    simpa using h
  have g1 : (1 : Int) ≤ n := by omega
  have g2 : (n : Int) ≤ 8 := by omega
  have g3 : ¬ ((16 : Int) < rs.length) := by omega
  simp [F_is_web, m_is_web, is_long_tup, is_within_int, c1, c2, a1, a2, dIx, L2.atI, L2.ixN, dLen, g1, g2, g3, runF, initS, mRet, mAndV, mOrV, bind_eq, pure_eq, mCall, mCons, mNil, mVar, rdv, callAt, lent, ownAt, just, isLn, tst, dTru, asV, mChain, tst2, dLe, dLt, dGe, dGt, dIs, dIsNot, isNon, handed, outD, retRv, mIf, mOr, mAnd, mNotT, mTru, mSeq, mIsi, dIsi, tyD, tyLe, mOps, ops, mInt, mBl, mNon, mStr, mB, mU, op1, op2, mSet, store, free, DL.settle, DL.settles, mNotV, b2, mRetN, mNx, mDrop, mSeqI, items, mT2, okRet, noL, noLi, noLs, mYes, gSet, gUnp, gsCons, gsNil, mTup, mLst, guardL]
theorem sure_web_ok {n : Nat} {rs : List (Nat × Nat)} {d : D} (w : WebOk n rs) (p : PlainD 12 d) (e : tupD d = eWeb n rs) : F_sure_web [d] = .ok (eWeb n rs) false .non := by
  have t := tupled_ok 12 d p
  rw [e] at t
  simp [F_sure_web, m_sure_web, t, is_web_ok w, runF, initS, mRet, mAndV, mOrV, bind_eq, pure_eq, mCall, mCons, mNil, mVar, rdv, callAt, lent, ownAt, just, isLn, tst, dTru, asV, mChain, tst2, dLe, dLt, dGe, dGt, dIs, dIsNot, isNon, handed, outD, retRv, mIf, mOr, mAnd, mNotT, mTru, mSeq, mIsi, dIsi, tyD, tyLe, mOps, ops, mInt, mBl, mNon, mStr, mB, mU, op1, op2, mSet, store, free, DL.settle, DL.settles, mNotV, b2, mRetN, mNx, mDrop, mSeqI, items, mT2, okRet, noL, noLi, noLs, mYes, gSet, gUnp, gsCons, gsNil, mTup, mLst, guardL]
theorem web_plain {n : Nat} {rs : List (Nat × Nat)} (w : WebOk n rs) : PlainD 12 (eWeb n rs) := by
  refine .inr ⟨_, .inl rfl, show 2 ≤ 1000 by decide, fun x hx => ?_⟩
  simp only [List.mem_cons, List.not_mem_nil, or_false] at hx
  rcases hx with rfl | rfl
  · exact .inl ⟨_, rfl⟩
  · refine .inr ⟨_, .inl rfl, by rw [List.length_map]; exact Nat.le_trans w.few (by decide), fun x hx => ?_⟩
    obtain ⟨r, _, rfl⟩ := List.mem_map.mp hx
    refine .inr ⟨_, .inl rfl, show 2 ≤ 1000 by decide, fun x hx => ?_⟩
    simp only [List.mem_cons, List.not_mem_nil, or_false] at hx
    rcases hx with rfl | rfl <;> exact .inl ⟨_, rfl⟩
theorem web_tup {n : Nat} {rs : List (Nat × Nat)} : tupD (eWeb n rs) = eWeb n rs := by
  have : ∀ rs : List (Nat × Nat), tupDs (rs.map fun r => D.tup [eN r.1, eN r.2]) = rs.map fun r => D.tup [eN r.1, eN r.2] := by
    intro rs
    induction rs with
    | nil => rfl
    | cons r rs ih => exact congrArg (_ :: ·) ih
  show D.tup [eN n, D.tup (tupDs _)] = _
  rw [this]
theorem sure_web_self {n : Nat} {rs : List (Nat × Nat)} (w : WebOk n rs) : F_sure_web [eWeb n rs] = .ok (eWeb n rs) false .non := sure_web_ok w (web_plain w) web_tup
/-- the numbers of roads of a kind -/
def nums (p : Nat × Nat → Bool) (rs : List (Nat × Nat)) : List Nat := (rs.zipIdx.filter fun q => p q.1).map (·.2)
abbrev eNs (l : List Nat) : List D := l.map eN
theorem sure_place_ok {n p : Nat} {rs : List (Nat × Nat)} (h : p < n) : F_sure_place [eWeb n rs, eN p] = .ok (eN p) false .non := by
  have q1 : (0 : Int) ≤ p := by omega
  have q2 : (p : Int) ≤ n - 1 := by omega
  simp [F_sure_place, m_sure_place, sure_within_int q1 q2, dIx, L2.atI, L2.ixN, dSub, runF, initS, mRet, mAndV, mOrV, bind_eq, pure_eq, mCall, mCons, mNil, mVar, rdv, callAt, lent, ownAt, just, isLn, tst, dTru, asV, mChain, tst2, dLe, dLt, dGe, dGt, dIs, dIsNot, isNon, handed, outD, retRv, mIf, mOr, mAnd, mNotT, mTru, mSeq, mIsi, dIsi, tyD, tyLe, mOps, ops, mInt, mBl, mNon, mStr, mB, mU, op1, op2, mSet, store, free, DL.settle, DL.settles, mNotV, b2, mRetN, mNx, mDrop, mSeqI, items, mT2, okRet, noL, noLi, noLs, mYes, gSet, gUnp, gsCons, gsNil, mTup, mLst, guardL]
theorem nat_beq (a b : Nat) : D.eqb (eN a) (eN b) = decide (a = b) := by
  by_cases h : a = b
  · simp [D.eqb, h]
  · have : ¬ ((a : Int) = b) := by omega
    simp [D.eqb, h, this]
theorem enum_at {α : Type} {g : α → D} (xs : List α) : ((xs.map g).zipIdx.map fun p => D.tup [.int (p.2 : Nat), p.1]) = xs.zipIdx.map fun q => D.tup [eN q.2, g q.1] := by
  rw [List.zipIdx_map, List.map_map]
  rfl
theorem eN_nums (p : Nat × Nat → Bool) (rs : List (Nat × Nat)) : (rs.zipIdx.filter fun q => p q.1).map (fun q => eN q.2) = eNs (nums p rs) := by
  simp only [nums, eNs, List.map_map, Function.comp_def]
theorem out_of_ok {n p : Nat} {rs : List (Nat × Nat)} (w : WebOk n rs) : F_out_of [eWeb n rs, eN p] = .ok (.lst (eNs (nums (fun r => decide (r.1 = p)) rs))) true .non := by
  have c1 : x_out_of_1 [.sh (eWeb n rs), .sh (eN p), .no, .no] = .ok (.fr (.lst (eNs (nums (fun r => decide (r.1 = p)) rs)))) [.sh (eWeb n rs), .sh (eN p), .no, .no] := by
    rw [← eN_nums]
    refine lc_filt (g := fun q => D.tup [eN q.2, eRoad q.1]) (xs := rs.zipIdx) (σ1 := [.sh (eWeb n rs), .sh (eN p), .no, .no]) ?_ rfl (fun q hq => ?_) ?_
    · rw [← enum_at]; rfl
    · obtain ⟨⟨a, b⟩, k⟩ := q
      by_cases h : a = p
      · simp [turn1, dIx, L2.atI, L2.ixN, dEqC, int_shaped, nat_beq, h, wipeM, noOw, wipeS, runF, initS, mRet, mAndV, mOrV, bind_eq, pure_eq, mCall, mCons, mNil, mVar, rdv, callAt, lent, ownAt, just, isLn, tst, dTru, asV, mChain, tst2, dLe, dLt, dGe, dGt, dIs, dIsNot, isNon, handed, outD, retRv, mIf, mOr, mAnd, mNotT, mTru, mSeq, mIsi, dIsi, tyD, tyLe, mOps, ops, mInt, mBl, mNon, mStr, mB, mU, op1, op2, mSet, store, free, DL.settle, DL.settles, mNotV, b2, mRetN, mNx, mDrop, mSeqI, items, mT2, okRet, noL, noLi, noLs, mYes, gSet, gUnp, gsCons, gsNil, mTup, mLst, guardL]
      · simp [turn1, dIx, L2.atI, L2.ixN, dEqC, int_shaped, nat_beq, h, wipeM, noOw, wipeS, runF, initS, mRet, mAndV, mOrV, bind_eq, pure_eq, mCall, mCons, mNil, mVar, rdv, callAt, lent, ownAt, just, isLn, tst, dTru, asV, mChain, tst2, dLe, dLt, dGe, dGt, dIs, dIsNot, isNon, handed, outD, retRv, mIf, mOr, mAnd, mNotT, mTru, mSeq, mIsi, dIsi, tyD, tyLe, mOps, ops, mInt, mBl, mNon, mStr, mB, mU, op1, op2, mSet, store, free, DL.settle, DL.settles, mNotV, b2, mRetN, mNx, mDrop, mSeqI, items, mT2, okRet, noL, noLi, noLs, mYes, gSet, gUnp, gsCons, gsNil, mTup, mLst, guardL]
    · rw [List.length_zipIdx]; exact Nat.le_trans w.few (by decide)
  simp [F_out_of, m_out_of, c1, runF, initS, mRet, mAndV, mOrV, bind_eq, pure_eq, mCall, mCons, mNil, mVar, rdv, callAt, lent, ownAt, just, isLn, tst, dTru, asV, mChain, tst2, dLe, dLt, dGe, dGt, dIs, dIsNot, isNon, handed, outD, retRv, mIf, mOr, mAnd, mNotT, mTru, mSeq, mIsi, dIsi, tyD, tyLe, mOps, ops, mInt, mBl, mNon, mStr, mB, mU, op1, op2, mSet, store, free, DL.settle, DL.settles, mNotV, b2, mRetN, mNx, mDrop, mSeqI, items, mT2, okRet, noL, noLi, noLs, mYes, gSet, gUnp, gsCons, gsNil, mTup, mLst, guardL]
theorem range1_ok {ma : M Rv} {r : Rv} {σ σ1 : Sg} {n : Nat} (h : ma σ = .ok r σ1) (h2 : rdv σ1 r = some (eN n)) (hn : n ≤ 1000) : mRange1 ma σ = .ok ((List.range n).map eN) σ1 := by
  have a : asInt r σ1 = .ok (n : Int) σ1 := by
    unfold asInt
    rw [h2]
    exact if_pos ⟨by omega, by omega⟩
  unfold mRange1
  rw [ok_bind h, ok_bind a]
  simp only [pure_eq, Int.toNat_natCast, eN, Int.zero_add]
theorem eNs_nil (l : List Nat) : D.eqb (.lst (eNs l)) (.lst []) = l.isEmpty := by
  cases l <;> rfl
theorem plains_lay {n : Nat} : ∀ {xs : List D}, (∀ x ∈ xs, x.toP.canLay0 = true ∧ x.toP.depth ≤ n) → PyData.canLayAll0 (toPs xs) = true ∧ PyData.depthAll (toPs xs) ≤ n
  | [], _ => ⟨by simp [toPs, PyData.canLayAll0], by simp [toPs, PyData.depthAll]⟩
  | x :: xs, h => by
    obtain ⟨h1, h2⟩ := h x List.mem_cons_self
    obtain ⟨i1, i2⟩ := plains_lay (xs := xs) fun y hy => h y (List.mem_cons_of_mem _ hy)
    exact ⟨by simp [toPs, PyData.canLayAll0, h1, i1], by simp only [toPs, PyData.depthAll]; exact Nat.max_le.mpr ⟨h2, i2⟩⟩
theorem plain_lay : ∀ {n : Nat} {d : D}, PlainD n d → d.toP.canLay0 = true ∧ d.toP.depth ≤ n
  | 0, _, h => h.elim
  | n + 1, d, h => by
    rcases h with ⟨i, rfl⟩ | ⟨xs, hd, _, hx⟩
    · exact ⟨by simp [D.toP, PyData.canLay0], by simp [D.toP, PyData.depth]⟩
    · obtain ⟨a, b⟩ := plains_lay (n := n) fun x hx' => plain_lay (hx x hx')
      rcases hd with rfl | rfl
      · exact ⟨by simpa [D.toP, PyData.canLay0] using a, by simp only [D.toP, PyData.depth]; omega⟩
      · exact ⟨by simpa [D.toP, PyData.canLay0] using a, by simp only [D.toP, PyData.depth]; omega⟩
theorem plain_shaped {n : Nat} {d : D} (h : PlainD n d) (hn : n ≤ 64) : SeqAt.shaped d.toP = true := by
  obtain ⟨a, b⟩ := plain_lay h
  unfold SeqAt.shaped
  rw [a, decide_eq_true (Nat.le_trans b hn)]
  rfl
theorem eNs_lay (l : List Nat) : PyData.canLayAll0 (toPs (eNs l)) = true ∧ PyData.depthAll (toPs (eNs l)) ≤ 0 := plains_lay fun x hx => by
  obtain ⟨k, _, rfl⟩ := List.mem_map.mp hx
  exact ⟨by simp [D.toP, PyData.canLay0], by simp [D.toP, PyData.depth]⟩
theorem eNs_shaped (l : List Nat) : SeqAt.shaped (D.lst (eNs l)).toP = true := by
  obtain ⟨a, b⟩ := eNs_lay l
  have c : (D.lst (eNs l)).toP.canLay0 = true := by simpa [D.toP, PyData.canLay0] using a
  have e : (D.lst (eNs l)).toP.depth ≤ 64 := by simp only [D.toP, PyData.depth]; omega
  unfold SeqAt.shaped
  rw [c, decide_eq_true e]
  rfl
theorem nil_shaped : SeqAt.shaped (D.lst []).toP = true := eNs_shaped []
/-- places that no road leaves -/
def endsOf (n : Nat) (rs : List (Nat × Nat)) : List Nat := (List.range n).filter fun p => (nums (fun r => decide (r.1 = p)) rs).isEmpty
def startsOf (n : Nat) (rs : List (Nat × Nat)) : List Nat := (List.range n).filter fun p => (nums (fun r => decide (r.2 = p)) rs).isEmpty
end K01

set_option Elab.async false
set_option linter.all false
set_option maxRecDepth 100000
namespace K01
open DL PySem
theorem ret_fr {m : M Rv} {σ σ' : Sg} {d : D} (h : m σ = .ok (.fr d) σ') : mRet m σ = .ok (.rt (.fr d)) σ' := by
  unfold mRet; rw [ok_bind h]; rfl
theorem ret_v {m : M Rv} {σ σ' : Sg} {d : D} (h : m σ = .ok (.v d) σ') : mRet m σ = .ok (.rt (.v d)) σ' := by
  unfold mRet; rw [ok_bind h]; rfl
theorem run_fr {n : Nat} {m : M Fl} {ds : List D} {σ σ' : Sg} {d : D} (e : initS n none ds = σ) (h : m σ = .ok (.rt (.fr d)) σ') : runF n none m ds = .ok d true .non := by
  unfold runF; rw [e, h]; rfl
theorem run_v {n : Nat} {m : M Fl} {ds : List D} {σ σ' : Sg} {d : D} (e : initS n none ds = σ) (h : m σ = .ok (.rt (.v d)) σ') : runF n none m ds = .ok d false .non := by
  unfold runF; rw [e, h]; rfl
abbrev outs (rs : List (Nat × Nat)) (p : Nat) : List Nat := nums (fun r => decide (r.1 = p)) rs
abbrev ins (rs : List (Nat × Nat)) (p : Nat) : List Nat := nums (fun r => decide (r.2 = p)) rs
section
variable {W V Pl d : D} {L : List D}
end
section
variable {n p : Nat} {rs : List (Nat × Nat)} {d : D}
end
end K01

set_option Elab.async false
set_option linter.all false
set_option maxRecDepth 100000
namespace K01
open DL PySem
theorem at_nat {α : Type} (xs : List α) {k : Nat} (h : k < xs.length) : L2.atI xs (k : Int) = some xs[k] := by
  unfold L2.atI L2.ixN
  simp [h]
theorem at_last {α : Type} (xs : List α) {x : α} : L2.atI (xs ++ [x]) (-1) = some x := by
  have e : L2.ixN (xs ++ [x]).length (-1) = some xs.length := by
    unfold L2.ixN
    rw [if_neg (by omega), if_pos (by rw [List.length_append, List.length_singleton]; omega)]
    congr 1
    rw [List.length_append, List.length_singleton]
    omega
  unfold L2.atI
  rw [e]
  simp
theorem ix_tup {xs : List D} {k : Nat} (h : k < xs.length) : dIx (.tup xs) (eN k) = some (.v xs[k]) := by
  simp [dIx, at_nat xs h]
theorem ix_lst {xs : List D} {k : Nat} (h : k < xs.length) : dIx (.lst xs) (eN k) = some (.v xs[k]) := by
  simp [dIx, at_nat xs h]
theorem ix_tup_last (xs : List D) (x : D) : dIx (.tup (xs ++ [x])) (.int (-1)) = some (.v x) := by
  simp [dIx, at_last]
theorem ix_lst_last (xs : List D) (x : D) : dIx (.lst (xs ++ [x])) (.int (-1)) = some (.v x) := by
  simp [dIx, at_last]
abbrev eRow (l : List Nat) : D := .tup (eNs l)
/-- where a road leads -/
def hd (rs : List (Nat × Nat)) (k : Nat) : Nat := (rs.getD k (0, 0)).2
/-- where it begins -/
def tl (rs : List (Nat × Nat)) (k : Nat) : Nat := (rs.getD k (0, 0)).1
/-- where roads from a place lead -/
def lead (rs : List (Nat × Nat)) (p : Nat) (l : List Nat) : Nat := match l.getLast? with
  | none => p
  | some k => hd rs k
theorem lead_nil (rs : List (Nat × Nat)) (p : Nat) : lead rs p [] = p := rfl
theorem lead_snoc (rs : List (Nat × Nat)) (p : Nat) (l : List Nat) (k : Nat) : lead rs p (l ++ [k]) = hd rs k := by
  unfold lead; rw [List.getLast?_concat]
theorem getL (l : List D) : l = [] ∨ ∃ m x, l = m ++ [x] := by
  rcases List.eq_nil_or_concat l with h | ⟨m, x, h⟩
  · exact .inl h
  · exact .inr ⟨m, x, by simpa using h⟩
theorem getN (l : List Nat) : l = [] ∨ ∃ m x, l = m ++ [x] := by
  rcases List.eq_nil_or_concat l with h | ⟨m, x, h⟩
  · exact .inl h
  · exact .inr ⟨m, x, by simpa using h⟩
theorem eNs_snoc (l : List Nat) (k : Nat) : eNs (l ++ [k]) = eNs l ++ [eN k] := by simp [eNs]
theorem road_at {rs : List (Nat × Nat)} {k : Nat} (h : k < rs.length) : dIx (eRoads rs) (eN k) = some (.v (.tup [eN (tl rs k), eN (hd rs k)])) := by
  rw [ix_tup (by rw [List.length_map]; exact h)]
  simp [tl, hd, h]
section
variable {W V Pl d e : D} {L M : List D}
end
section
variable {n p : Nat} {rs : List (Nat × Nat)} {d : D}
/-- the answer to the last road that leaves a place -/
def closeD (rs : List (Nat × Nat)) (p : Nat) : D := match (outs rs p).getLast? with
  | none => .lst [.str "cannot", .bl true]
  | some k => eN k
end
end K01

set_option Elab.async false
set_option linter.all false
set_option maxRecDepth 100000
namespace K01
open DL PySem
/-! ### loops -/
theorem forL_done {α : Type} {f : D → M Fl} {g : α → D} {S : List α → Sg} : ∀ (r done : List α), (∀ (dn : List α) (x : α) (rr : List α), done ++ r = dn ++ x :: rr → f (g x) (S dn) = .ok .nx (S (dn ++ [x])) ∨ f (g x) (S dn) = .ok .ct (S (dn ++ [x]))) →
    forL f (r.map g) (S done) = .ok .nx (S (done ++ r))
  | [], done, _ => by rw [List.append_nil]; rfl
  | x :: r, done, h => by
    have ih := forL_done r (done ++ [x]) fun dn y rr e => h dn y rr (by rw [← e]; simp)
    rw [show done ++ [x] ++ r = done ++ x :: r by simp] at ih
    show forL f (g x :: r.map g) (S done) = _
    unfold forL
    rcases h done x r rfl with e | e <;> rw [ok_bind e] <;> exact ih
theorem forL_all {α : Type} {f : D → M Fl} {g : α → D} {S : List α → Sg} {xs : List α} (h : ∀ (dn : List α) (x : α) (rr : List α), xs = dn ++ x :: rr → f (g x) (S dn) = .ok .nx (S (dn ++ [x])) ∨ f (g x) (S dn) = .ok .ct (S (dn ++ [x]))) :
    forL f (xs.map g) (S []) = .ok .nx (S xs) := by
  have := forL_done (f := f) (g := g) (S := S) xs [] fun dn x rr e => h dn x rr (by simpa using e)
  simpa using this
theorem forL_range {f : D → M Fl} {S : Nat → Sg} {n : Nat} (h : ∀ i, i < n → f (eN i) (S i) = .ok .nx (S (i + 1)) ∨ f (eN i) (S i) = .ok .ct (S (i + 1))) : forL f ((List.range n).map eN) (S 0) = .ok .nx (S n) := by
  have := forL_all (f := f) (g := eN) (S := fun l => S l.length) (xs := List.range n) fun dn x rr e => by
    have hx : x = dn.length ∧ x < n := by
      have e1 : (List.range n)[dn.length]? = some x := by rw [e]; simp
      rw [List.getElem?_eq_some_iff] at e1
      obtain ⟨h1, h2⟩ := e1
      rw [List.getElem_range] at h2
      rw [List.length_range] at h1
      exact ⟨h2.symm, by omega⟩
    obtain ⟨h1, h2⟩ := hx
    have := h x h2
    rw [List.length_append, List.length_singleton, ← h1]
    exact this
  simpa using this
/-- the slot of a loop's name -/
def lastS {α : Type} (g : α → D) (o : Sl) (l : List α) : Sl := match l.getLast? with
  | none => o
  | some x => .sh (g x)
theorem lastS_nil {α : Type} (g : α → D) (o : Sl) : lastS g o [] = o := rfl
theorem lastS_snoc {α : Type} (g : α → D) (o : Sl) (l : List α) (x : α) : lastS g o (l ++ [x]) = .sh (g x) := by
  unfold lastS; rw [List.getLast?_concat]
/-! ### the last road -/
section
variable {W Pl d e : D} {L M : List D} {n p : Nat} {rs : List (Nat × Nat)}
theorem lead_0 : F__law_lead [W, Pl, .tup []] = .ok Pl false .non := by
  have s : SeqAt.shaped (D.tup []).toP = true := rfl
  simp [F__law_lead, m__law_lead, dNeC, s, D.eqb, DL.eqbs, runF, initS, mRet, mAndV, mOrV, bind_eq, pure_eq, mCall, mCons, mNil, mVar, rdv, callAt, lent, ownAt, just, isLn, tst, dTru, asV, mChain, tst2, dLe, dLt, dGe, dGt, dIs, dIsNot, isNon, handed, outD, retRv, mIf, mOr, mAnd, mNotT, mTru, mSeq, mIsi, dIsi, tyD, tyLe, mOps, ops, mInt, mBl, mNon, mStr, mB, mU, op1, op2, mSet, store, free, DL.settle, DL.settles, mNotV, b2, mRetN, mNx, mDrop, mSeqI, items, mT2, okRet, noL, noLi, noLs, mYes, gSet, gUnp, gsCons, gsNil, mTup, mLst, guardL]
theorem lead_1 {R R2 x y : D} (hw : W = .tup [d, R]) (hl : L = M ++ [e]) (hs : SeqAt.shaped (D.tup L).toP = true) (h1 : dIx R e = some (.v (.tup [x, y]))) : F__law_lead [W, Pl, .tup L] = .ok y false .non := by
  have i : dIx (.tup L) (.int (-1)) = some (.v e) := by rw [hl]; exact ix_tup_last M e
  have n : D.eqb (.tup L) (.tup []) = false := by rw [hl]; cases M <;> rfl
  have a : dIx W (.int 1) = some (.v R) := by rw [hw]; rfl
  have b : dIx (.tup [x, y]) (.int 1) = some (.v y) := rfl
  have s : SeqAt.shaped (D.tup []).toP = true := rfl
  simp [F__law_lead, m__law_lead, dNeC, s, hs, i, n, a, b, h1, dNeg, runF, initS, mRet, mAndV, mOrV, bind_eq, pure_eq, mCall, mCons, mNil, mVar, rdv, callAt, lent, ownAt, just, isLn, tst, dTru, asV, mChain, tst2, dLe, dLt, dGe, dGt, dIs, dIsNot, isNon, handed, outD, retRv, mIf, mOr, mAnd, mNotT, mTru, mSeq, mIsi, dIsi, tyD, tyLe, mOps, ops, mInt, mBl, mNon, mStr, mB, mU, op1, op2, mSet, store, free, DL.settle, DL.settles, mNotV, b2, mRetN, mNx, mDrop, mSeqI, items, mT2, okRet, noL, noLi, noLs, mYes, gSet, gUnp, gsCons, gsNil, mTup, mLst, guardL]
theorem eRow_shaped (l : List Nat) : SeqAt.shaped (D.tup (eNs l)).toP = true := by
  obtain ⟨a, b⟩ := eNs_lay l
  have c : (D.tup (eNs l)).toP.canLay0 = true := by simpa [D.toP, PyData.canLay0] using a
  have e : (D.tup (eNs l)).toP.depth ≤ 64 := by simp only [D.toP, PyData.depth]; omega
  unfold SeqAt.shaped
  rw [c, decide_eq_true e]
  rfl
theorem lead_ok {l : List Nat} (h : ∀ k ∈ l, k < rs.length) : F__law_lead [eWeb n rs, eN p, eRow l] = .ok (eN (lead rs p l)) false .non := by
  rcases getN l with rfl | ⟨m, x, rfl⟩
  · exact lead_0
  · rw [lead_snoc]
    exact lead_1 (R2 := .non) rfl (eNs_snoc m x) (eRow_shaped _) (road_at (h x (by simp)))
theorem law_outs_ok (w : WebOk n rs) : F__law_outs [eWeb n rs, eN p] = .ok (.lst (eNs (outs rs p))) true .non := by
  have c1 : x__law_outs_1 [.sh (eWeb n rs), .sh (eN p), .no, .no] = .ok (.fr (.lst (eNs (outs rs p)))) [.sh (eWeb n rs), .sh (eN p), .no, .no] := by
    rw [← eN_nums]
    refine lc_filt (g := fun q => D.tup [eN q.2, eRoad q.1]) (xs := rs.zipIdx) (σ1 := [.sh (eWeb n rs), .sh (eN p), .no, .no]) ?_ rfl (fun q hq => ?_) ?_
    · rw [← enum_at]; rfl
    · obtain ⟨⟨a, b⟩, k⟩ := q
      by_cases h : a = p
      · simp [turn1, dIx, L2.atI, L2.ixN, dEqC, int_shaped, nat_beq, h, wipeM, noOw, wipeS, runF, initS, mRet, mAndV, mOrV, bind_eq, pure_eq, mCall, mCons, mNil, mVar, rdv, callAt, lent, ownAt, just, isLn, tst, dTru, asV, mChain, tst2, dLe, dLt, dGe, dGt, dIs, dIsNot, isNon, handed, outD, retRv, mIf, mOr, mAnd, mNotT, mTru, mSeq, mIsi, dIsi, tyD, tyLe, mOps, ops, mInt, mBl, mNon, mStr, mB, mU, op1, op2, mSet, store, free, DL.settle, DL.settles, mNotV, b2, mRetN, mNx, mDrop, mSeqI, items, mT2, okRet, noL, noLi, noLs, mYes, gSet, gUnp, gsCons, gsNil, mTup, mLst, guardL]
      · simp [turn1, dIx, L2.atI, L2.ixN, dEqC, int_shaped, nat_beq, h, wipeM, noOw, wipeS, runF, initS, mRet, mAndV, mOrV, bind_eq, pure_eq, mCall, mCons, mNil, mVar, rdv, callAt, lent, ownAt, just, isLn, tst, dTru, asV, mChain, tst2, dLe, dLt, dGe, dGt, dIs, dIsNot, isNon, handed, outD, retRv, mIf, mOr, mAnd, mNotT, mTru, mSeq, mIsi, dIsi, tyD, tyLe, mOps, ops, mInt, mBl, mNon, mStr, mB, mU, op1, op2, mSet, store, free, DL.settle, DL.settles, mNotV, b2, mRetN, mNx, mDrop, mSeqI, items, mT2, okRet, noL, noLi, noLs, mYes, gSet, gUnp, gsCons, gsNil, mTup, mLst, guardL]
    · rw [List.length_zipIdx]; exact Nat.le_trans w.few (by decide)
  simp [F__law_outs, m__law_outs, c1, runF, initS, mRet, mAndV, mOrV, bind_eq, pure_eq, mCall, mCons, mNil, mVar, rdv, callAt, lent, ownAt, just, isLn, tst, dTru, asV, mChain, tst2, dLe, dLt, dGe, dGt, dIs, dIsNot, isNon, handed, outD, retRv, mIf, mOr, mAnd, mNotT, mTru, mSeq, mIsi, dIsi, tyD, tyLe, mOps, ops, mInt, mBl, mNon, mStr, mB, mU, op1, op2, mSet, store, free, DL.settle, DL.settles, mNotV, b2, mRetN, mNx, mDrop, mSeqI, items, mT2, okRet, noL, noLi, noLs, mYes, gSet, gUnp, gsCons, gsNil, mTup, mLst, guardL]
end
/-! ### all paths of so many roads -/
theorem nums_mem {P : Nat × Nat → Bool} {rs : List (Nat × Nat)} {k : Nat} : k ∈ nums P rs ↔ ∃ h : k < rs.length, P rs[k] = true := by
  unfold nums
  simp only [List.mem_map, List.mem_filter]
  constructor
  · rintro ⟨⟨r, j⟩, ⟨h1, h2⟩, rfl⟩
    obtain ⟨h3, h4⟩ := List.mk_mem_zipIdx_iff_getElem?.mp h1 |> List.getElem?_eq_some_iff.mp
    exact ⟨h3, by rw [h4]; exact h2⟩
  · rintro ⟨h, e⟩
    exact ⟨(rs[k], k), ⟨List.mk_mem_zipIdx_iff_getElem?.mpr (List.getElem?_eq_getElem h), e⟩, rfl⟩
theorem nums_lt {P : Nat × Nat → Bool} {rs : List (Nat × Nat)} {k : Nat} (h : k ∈ nums P rs) : k < rs.length := (nums_mem.mp h).1
theorem nums_length (P : Nat × Nat → Bool) (rs : List (Nat × Nat)) : (nums P rs).length ≤ rs.length := by
  unfold nums
  rw [List.length_map]
  exact Nat.le_trans (List.length_filter_le ..) (by rw [List.length_zipIdx]; exact Nat.le_refl _)
def ons (rs : List (Nat × Nat)) (p : Nat) (w : List Nat) : List (List Nat) := (outs rs (lead rs p w)).map fun k => w ++ [k]
def walks (rs : List (Nat × Nat)) (p : Nat) : Nat → List (List Nat)
  | 0 => [[]]
  | t + 1 => (walks rs p t).flatMap (ons rs p)
theorem walks_lt {rs : List (Nat × Nat)} {p : Nat} : ∀ {t : Nat} {w : List Nat}, w ∈ walks rs p t → (∀ k ∈ w, k < rs.length) ∧ w.length = t
  | 0, w, h => by
    simp [walks] at h
    subst h
    exact ⟨fun k hk => by simp at hk, rfl⟩
  | t + 1, w, h => by
    simp only [walks, List.mem_flatMap, ons, List.mem_map] at h
    obtain ⟨v, hv, k, hk, rfl⟩ := h
    obtain ⟨h1, h2⟩ := walks_lt hv
    refine ⟨fun j hj => ?_, by simp [h2]⟩
    rcases List.mem_append.mp hj with q | q
    · exact h1 j q
    · simp at q; subst q; exact nums_lt hk
theorem ons_length (rs : List (Nat × Nat)) (p : Nat) (w : List Nat) : (ons rs p w).length ≤ rs.length := by
  unfold ons
  rw [List.length_map]
  exact nums_length ..
theorem flat_le {α β : Type} (f : α → List β) (c : Nat) : ∀ l : List α, (∀ x ∈ l, (f x).length ≤ c) → (l.flatMap f).length ≤ l.length * c
  | [], _ => by simp
  | x :: l, h => by
    rw [List.flatMap_cons, List.length_append, List.length_cons, Nat.add_mul, Nat.one_mul]
    have := flat_le f c l fun y hy => h y (List.mem_cons_of_mem _ hy)
    have := h x List.mem_cons_self
    omega
theorem walks_length (rs : List (Nat × Nat)) (p : Nat) : ∀ t, (walks rs p t).length ≤ rs.length ^ t
  | 0 => by simp [walks]
  | t + 1 => by
    have h := flat_le (ons rs p) rs.length (walks rs p t) fun w _ => ons_length rs p w
    have ih := walks_length rs p t
    show ((walks rs p t).flatMap (ons rs p)).length ≤ _
    rw [Nat.pow_succ]
    exact Nat.le_trans h (Nat.mul_le_mul_right _ ih)
end K01

set_option Elab.async false
set_option linter.all false
set_option maxRecDepth 100000
namespace K01
open DL PySem
theorem lim_big : 100000 ≤ lim := by decide
theorem add_row {L : List D} {e : D} (h : L.length ≤ 1000) : dAdd (.tup L) (.tup [e]) = some (.v (.tup (L ++ [e]))) := by
  have := lim_big
  simp only [dAdd]
  rw [if_pos (by simp only [List.length_cons, List.length_nil]; omega)]
section
variable {W Pl Lo Fd : D} {lap s6 : Sl} {n p : Nat} {rs : List (Nat × Nat)}
theorem ons_c {w : List Nat} {σ : Sg} {Y L : List D} {ma : M Rv} (h0 : ma σ = .ok (.fr (.lst L)) σ) : mSeqI ma σ = .ok L σ := by
  simp [mSeqI, h0, bind_eq, DL.settle, items, pure_eq]
theorem ons_arg {F G : FD} {A B w : D} {L : List D} {σ : Sg} (i j k : Nat) (h0 : σ[0]? = some (.sh A)) (h1 : σ[1]? = some (.sh B)) (h6 : σ[6]? = some (.sh w)) (e1 : F [A, B, w] = .ok Pl false .non) (e2 : G [A, Pl] = .ok (.lst L) true .non) :
    mCall 2 none G (mCons (mVar 0) (mCons (mCall 3 none F (mCons (mVar 0) (mCons (mVar 1) (mCons (mVar 6) mNil)))) mNil)) σ = .ok (.fr (.lst L)) σ := by
  simp [h0, h1, h6, e1, e2, runF, initS, mRet, mAndV, mOrV, bind_eq, pure_eq, mCall, mCons, mNil, mVar, rdv, callAt, lent, ownAt, just, isLn, tst, dTru, asV, mChain, tst2, dLe, dLt, dGe, dGt, dIs, dIsNot, isNon, handed, outD, retRv, mIf, mOr, mAnd, mNotT, mTru, mSeq, mIsi, dIsi, tyD, tyLe, mOps, ops, mInt, mBl, mNon, mStr, mB, mU, op1, op2, mSet, store, free, DL.settle, DL.settles, mNotV, b2, mRetN, mNx, mDrop, mSeqI, items, mT2, okRet, noL, noLi, noLs, mYes, gSet, gUnp, gsCons, gsNil, mTup, mLst, guardL]
theorem snoc_turn {A B C E : D} {G : D} {lap : Sl} {L : List D} {x : D} (a : dAdd (.tup L) (.tup [x]) = some (.v (.tup (L ++ [x])))) :
    turn1 [7] (gSet 7) mYes (mB dAdd (mVar 6) (mTup (mCons (mVar 7) mNil))) x (wipeS [.sh A, .sh B, .sh C, .sh E, lap, .ow false G, .sh (.tup L), .no] [7]) = .ok [.tup (L ++ [x])] (wipeS [.sh A, .sh B, .sh C, .sh E, lap, .ow false G, .sh (.tup L), .no] [7]) := by
  have one : (1 : Nat) ≤ lim := by decide
  simp [turn1, a, one, wipeM, noOw, wipeS, runF, initS, mRet, mAndV, mOrV, bind_eq, pure_eq, mCall, mCons, mNil, mVar, rdv, callAt, lent, ownAt, just, isLn, tst, dTru, asV, mChain, tst2, dLe, dLt, dGe, dGt, dIs, dIsNot, isNon, handed, outD, retRv, mIf, mOr, mAnd, mNotT, mTru, mSeq, mIsi, dIsi, tyD, tyLe, mOps, ops, mInt, mBl, mNon, mStr, mB, mU, op1, op2, mSet, store, free, DL.settle, DL.settles, mNotV, b2, mRetN, mNx, mDrop, mSeqI, items, mT2, okRet, noL, noLi, noLs, mYes, gSet, gUnp, gsCons, gsNil, mTup, mLst, guardL]
end
end K01

set_option Elab.async false
set_option linter.all false
set_option maxRecDepth 100000
namespace K01
open DL PySem
section
variable {W Pl Lo Fd : D} {lap s6 : Sl} {n p : Nat} {rs : List (Nat × Nat)}
theorem walks_1_ok (w : WebOk n rs) {v : List Nat} (h : ∀ k ∈ v, k < rs.length) (hv : v.length ≤ 100) {ls : List D} :
    x__law_walks_1 [.sh (eWeb n rs), .sh (eN p), .sh Lo, .sh Fd, lap, .ow false (.lst ls), .sh (eRow v), .no] = .ok (.fr (.lst ((ons rs p v).map eRow))) [.sh (eWeb n rs), .sh (eN p), .sh Lo, .sh Fd, lap, .ow false (.lst ls), .sh (eRow v), .no] := by
  have c := lc_each (vs := [7]) (g := eN) (v := fun k => eRow (v ++ [k])) (xs := outs rs (lead rs p v)) (σ := [.sh (eWeb n rs), .sh (eN p), .sh Lo, .sh Fd, lap, .ow false (.lst ls), .sh (eRow v), .no]) (σ1 := [.sh (eWeb n rs), .sh (eN p), .sh Lo, .sh Fd, lap, .ow false (.lst ls), .sh (eRow v), .no]) (f := turn1 [7] (gSet 7) (mYes) (mB dAdd (mVar 6) (mTup (mCons (mVar 7) (mNil)))))
    (mi := mSeqI (mCall 2 none F__law_outs (mCons (mVar 0) (mCons (mCall 3 none F__law_lead (mCons (mVar 0) (mCons (mVar 1) (mCons (mVar 6) (mNil))))) (mNil)))))
    (ons_c (Y := []) (w := []) (ons_arg 0 0 0 rfl rfl rfl (lead_ok h) (law_outs_ok w))) rfl (fun k hk => ?_) (Nat.le_trans (Nat.le_trans (nums_length ..) w.few) (by decide))
  · have e : (ons rs p v).map eRow = (outs rs (lead rs p v)).map fun k => eRow (v ++ [k]) := by simp [ons, Function.comp_def]
    rw [e]
    exact c
  · have a := add_row (L := eNs v) (e := eN k) (by rw [List.length_map]; omega)
    have e2 : eRow (v ++ [k]) = .tup (eNs v ++ [eN k]) := congrArg D.tup (eNs_snoc v k)
    rw [e2]
    exact snoc_turn a
/-- one turn of the inner loop -/
theorem walks_turn {L M : List D} {x : D} {t : Sl} (hx : x__law_walks_1 [.sh W, .sh Pl, .sh Lo, .sh Fd, lap, .ow false (.lst L), .sh x, t] = .ok (.fr (.lst M)) [.sh W, .sh Pl, .sh Lo, .sh Fd, lap, .ow false (.lst L), .sh x, t]) (hl : L.length + M.length ≤ lim)
    (hs : free [.sh W, .sh Pl, .sh Lo, .sh Fd, lap, .ow false (.lst L), s6, t] 6 = true) :
    mTurn (gSet 6) (mDrop (mExt 5 (x__law_walks_1))) x [.sh W, .sh Pl, .sh Lo, .sh Fd, lap, .ow false (.lst L), s6, t] = .ok .nx [.sh W, .sh Pl, .sh Lo, .sh Fd, lap, .ow false (.lst (L ++ M)), .sh x, t] := by
  simp [mTurn, hs, hx, hl, mExt, ownL, wrL, gSet, store, mDrop, bind_eq, pure_eq, DL.settle]
theorem walks_2_ok (w : WebOk n rs) {vs : List (List Nat)} (h : ∀ v ∈ vs, (∀ k ∈ v, k < rs.length) ∧ v.length ≤ 100) (hl : (vs.flatMap (ons rs p)).length ≤ 100000) (o : Sl) (ho : o = .no ∨ ∃ d, o = .sh d) (lap : Sl) (f3 : Sl) (hf : f3 = .sh (.lst (vs.map eRow)) ∨ f3 = .ow false (.lst (vs.map eRow))) :
    x__law_walks_2 [.sh (eWeb n rs), .sh (eN p), .sh Lo, f3, lap, .ow false (.lst []), o, .no] = .ok .nx [.sh (eWeb n rs), .sh (eN p), .sh Lo, .sh (.lst (vs.map eRow)), lap, .ow false (.lst ((vs.flatMap (ons rs p)).map eRow)), lastS eRow o vs, .no] := by
  have key := forL_all (f := mTurn (gSet 6) (mDrop (mExt 5 (x__law_walks_1)))) (g := eRow) (xs := vs) (S := fun l => [.sh (eWeb n rs), .sh (eN p), .sh Lo, .sh (.lst (vs.map eRow)), lap, .ow false (.lst ((l.flatMap (ons rs p)).map eRow)), lastS eRow o l, .no]) fun dn x rr e => by
    left
    have hx := h x (by rw [e]; simp)
    have hle : ((dn ++ [x]).flatMap (ons rs p)).length ≤ 100000 := by
      refine Nat.le_trans ?_ hl
      rw [e]
      simp only [List.flatMap_append, List.length_append, List.flatMap_cons, List.flatMap_nil, List.length_nil]
      omega
    have fr : free [.sh (eWeb n rs), .sh (eN p), .sh Lo, .sh (.lst (vs.map eRow)), lap, .ow false (.lst ((dn.flatMap (ons rs p)).map eRow)), lastS eRow o dn, .no] 6 = true := by
      rcases List.eq_nil_or_concat dn with q | ⟨m, y, q⟩
      · subst q
        rw [lastS_nil]
        rcases ho with q | ⟨d, q⟩ <;> rw [q] <;> rfl
      · rw [show dn = m ++ [y] by simpa using q, lastS_snoc]; rfl
    have t := walks_turn (x := eRow x) (walks_1_ok (Lo := Lo) (Fd := .lst (vs.map eRow)) (lap := lap) (ls := (dn.flatMap (ons rs p)).map eRow) (p := p) w hx.1 hx.2) (by
      have := lim_big
      simp only [List.flatMap_append, List.length_append, List.flatMap_cons, List.flatMap_nil, List.length_nil] at hle
      rw [List.length_map, List.length_map]
      omega) fr
    rw [t]
    simp only [lastS_snoc, List.flatMap_append, List.flatMap_cons, List.flatMap_nil, List.append_nil, List.map_append]
  have it : mSeqI (mVar 3) [.sh (eWeb n rs), .sh (eN p), .sh Lo, f3, lap, .ow false (.lst []), o, .no] = .ok (vs.map eRow) [.sh (eWeb n rs), .sh (eN p), .sh Lo, .sh (.lst (vs.map eRow)), lap, .ow false (.lst []), o, .no] := by
    rcases hf with q | q <;> rw [q] <;> rfl
  unfold x__law_walks_2 mFor
  rw [ok_bind it]
  exact key
end


def fd3 (rs : List (Nat × Nat)) (p : Nat) : Nat → Sl
  | 0 => .ow false (.lst [.tup []])
  | t + 1 => .sh (.lst ((walks rs p (t + 1)).map eRow))
def fd5 (rs : List (Nat × Nat)) (p : Nat) : Nat → Sl
  | 0 => .no
  | t + 1 => .sh (.lst ((walks rs p (t + 1)).map eRow))
def fd6 (rs : List (Nat × Nat)) (p : Nat) : Nat → Sl
  | 0 => .no
  | t + 1 => lastS eRow (fd6 rs p t) (walks rs p t)
def cnt : Nat → Sl
  | 0 => .no
  | t + 1 => .sh (eN t)
theorem lastS_k {α : Type} (g : α → D) (o : Sl) (l : List α) (h : o = .no ∨ ∃ d, o = .sh d) : lastS g o l = .no ∨ ∃ d, lastS g o l = .sh d := by
  rcases List.eq_nil_or_concat l with q | ⟨m, y, q⟩
  · subst q; exact h
  · rw [show l = m ++ [y] by simpa using q, lastS_snoc]; exact .inr ⟨_, rfl⟩
theorem fd6_k (rs : List (Nat × Nat)) (p : Nat) : ∀ t, fd6 rs p t = .no ∨ ∃ d, fd6 rs p t = .sh d
  | 0 => .inl rfl
  | t + 1 => lastS_k _ _ _ (fd6_k rs p t)
theorem fd3_k (rs : List (Nat × Nat)) (p : Nat) : ∀ t, fd3 rs p t = .sh (.lst ((walks rs p t).map eRow)) ∨ fd3 rs p t = .ow false (.lst ((walks rs p t).map eRow))
  | 0 => .inr rfl
  | t + 1 => .inl rfl
theorem cnt_k : ∀ t, cnt t = .no ∨ ∃ d, cnt t = .sh d
  | 0 => .inl rfl
  | t + 1 => .inr ⟨_, rfl⟩
theorem fd5_k (rs : List (Nat × Nat)) (p : Nat) : ∀ t, fd5 rs p t = .no ∨ ∃ d, fd5 rs p t = .sh d
  | 0 => .inl rfl
  | t + 1 => .inr ⟨_, rfl⟩

theorem walks_turn3 {A B C F x : D} {L : List D} {f3 lap f5 o o' : Sl} (h4 : lap = .no ∨ ∃ d, lap = .sh d) (h5 : f5 = .no ∨ ∃ d, f5 = .sh d)
    (hx : x__law_walks_2 [.sh A, .sh B, .sh C, f3, .sh x, .ow false (.lst []), o, .no] = .ok .nx [.sh A, .sh B, .sh C, .sh F, .sh x, .ow false (.lst L), o', .no]) (hl : L.length ≤ 5000) :
    mTurn (gSet 4) (mSeq (mSet 5 (mLst (mNil))) (mSeq (x__law_walks_2) (mSet 3 (mVar 5)))) x [.sh A, .sh B, .sh C, f3, lap, f5, o, .no] = .ok .nx [.sh A, .sh B, .sh C, .sh (.lst L), .sh x, .sh (.lst L), o', .no] := by
  have nl : ¬ ((5000 : Int) < L.length) := by omega
  rcases h4 with rfl | ⟨d, rfl⟩ <;> rcases h5 with rfl | ⟨d', rfl⟩ <;> simp [mTurn, hx, nl, dLen, gSet, runF, initS, mRet, mAndV, mOrV, bind_eq, pure_eq, mCall, mCons, mNil, mVar, rdv, callAt, lent, ownAt, just, isLn, tst, dTru, asV, mChain, tst2, dLe, dLt, dGe, dGt, dIs, dIsNot, isNon, handed, outD, retRv, mIf, mOr, mAnd, mNotT, mTru, mSeq, mIsi, dIsi, tyD, tyLe, mOps, ops, mInt, mBl, mNon, mStr, mB, mU, op1, op2, mSet, store, free, DL.settle, DL.settles, mNotV, b2, mRetN, mNx, mDrop, mSeqI, items, mT2, okRet, noL, noLi, noLs, mYes, gSet, gUnp, gsCons, gsNil, mTup, mLst, guardL]
theorem walks_3_ok {n p : Nat} {rs : List (Nat × Nat)} (w : WebOk n rs) (T : Nat) (hT : T ≤ 100) (hw : ∀ t ≤ T, (walks rs p t).length ≤ 5000) :
    ∃ f3 f4 f5 f6, (f3 = .sh (.lst ((walks rs p T).map eRow)) ∨ f3 = .ow false (.lst ((walks rs p T).map eRow))) ∧
    x__law_walks_3 [.sh (eWeb n rs), .sh (eN p), .sh (eN T), .ow false (.lst [.tup []]), .no, .no, .no, .no] = .ok .nx [.sh (eWeb n rs), .sh (eN p), .sh (eN T), f3, f4, f5, f6, .no] := by
  have key := forL_range (n := T) (f := mTurn (gSet 4) (mSeq (mSet 5 (mLst (mNil))) (mSeq (x__law_walks_2) (mSet 3 (mVar 5))))) (S := fun t => [.sh (eWeb n rs), .sh (eN p), .sh (eN T), fd3 rs p t, cnt t, fd5 rs p t, fd6 rs p t, .no]) fun t ht => by
    left
    have hx := walks_2_ok (Lo := eN T) (vs := walks rs p t) (p := p) w (fun v hv => ⟨(walks_lt hv).1, by rw [(walks_lt hv).2]; omega⟩) (by
      have := hw (t + 1) ht
      show (walks rs p (t + 1)).length ≤ _
      omega) (fd6 rs p t) (fd6_k rs p t) (.sh (eN t)) (fd3 rs p t) (fd3_k rs p t)
    exact walks_turn3 (cnt_k t) (fd5_k rs p t) hx (by rw [List.length_map]; exact hw (t + 1) ht)
  have it : mRange1 (mVar 2) [.sh (eWeb n rs), .sh (eN p), .sh (eN T), .ow false (.lst [.tup []]), .no, .no, .no, .no] = .ok ((List.range T).map eN) [.sh (eWeb n rs), .sh (eN p), .sh (eN T), .ow false (.lst [.tup []]), .no, .no, .no, .no] := range1_ok rfl rfl (by omega)
  refine ⟨fd3 rs p T, cnt T, fd5 rs p T, fd6 rs p T, fd3_k rs p T, ?_⟩
  unfold x__law_walks_3 mFor
  rw [ok_bind it]
  exact key

theorem one_row {A B C : D} : mLst (mCons (mTup mNil) mNil) [.sh A, .sh B, .sh C, .no, .no, .no, .no, .no] = .ok (.fr (.lst [.tup []])) [.sh A, .sh B, .sh C, .no, .no, .no, .no, .no] := by
  have one : (1 : Nat) ≤ lim := by decide
  simp [one, runF, initS, mRet, mAndV, mOrV, bind_eq, pure_eq, mCall, mCons, mNil, mVar, rdv, callAt, lent, ownAt, just, isLn, tst, dTru, asV, mChain, tst2, dLe, dLt, dGe, dGt, dIs, dIsNot, isNon, handed, outD, retRv, mIf, mOr, mAnd, mNotT, mTru, mSeq, mIsi, dIsi, tyD, tyLe, mOps, ops, mInt, mBl, mNon, mStr, mB, mU, op1, op2, mSet, store, free, DL.settle, DL.settles, mNotV, b2, mRetN, mNx, mDrop, mSeqI, items, mT2, okRet, noL, noLi, noLs, mYes, gSet, gUnp, gsCons, gsNil, mTup, mLst, guardL]
theorem walks_a {A B C d : D} {f3 f4 f5 f6 : Sl} (hf : f3 = .sh d ∨ f3 = .ow false d) (h : x__law_walks_3 [.sh A, .sh B, .sh C, .ow false (.lst [.tup []]), .no, .no, .no, .no] = .ok .nx [.sh A, .sh B, .sh C, f3, f4, f5, f6, .no]) : ∃ f, F__law_walks [A, B, C] = .ok d f .non := by
  have one : (1 : Nat) ≤ lim := by decide
  rcases hf with rfl | rfl
  · exact ⟨false, by simp [F__law_walks, m__law_walks, one, h, runF, initS, mRet, mAndV, mOrV, bind_eq, pure_eq, mCall, mCons, mNil, mVar, rdv, callAt, lent, ownAt, just, isLn, tst, dTru, asV, mChain, tst2, dLe, dLt, dGe, dGt, dIs, dIsNot, isNon, handed, outD, retRv, mIf, mOr, mAnd, mNotT, mTru, mSeq, mIsi, dIsi, tyD, tyLe, mOps, ops, mInt, mBl, mNon, mStr, mB, mU, op1, op2, mSet, store, free, DL.settle, DL.settles, mNotV, b2, mRetN, mNx, mDrop, mSeqI, items, mT2, okRet, noL, noLi, noLs, mYes, gSet, gUnp, gsCons, gsNil, mTup, mLst, guardL]⟩
  · exact ⟨true, by simp [F__law_walks, m__law_walks, one, h, runF, initS, mRet, mAndV, mOrV, bind_eq, pure_eq, mCall, mCons, mNil, mVar, rdv, callAt, lent, ownAt, just, isLn, tst, dTru, asV, mChain, tst2, dLe, dLt, dGe, dGt, dIs, dIsNot, isNon, handed, outD, retRv, mIf, mOr, mAnd, mNotT, mTru, mSeq, mIsi, dIsi, tyD, tyLe, mOps, ops, mInt, mBl, mNon, mStr, mB, mU, op1, op2, mSet, store, free, DL.settle, DL.settles, mNotV, b2, mRetN, mNx, mDrop, mSeqI, items, mT2, okRet, noL, noLi, noLs, mYes, gSet, gUnp, gsCons, gsNil, mTup, mLst, guardL]⟩
section
variable {n p : Nat} {rs : List (Nat × Nat)}
theorem law_walks_ok (w : WebOk n rs) (T : Nat) (hT : T ≤ 100) (hw : ∀ t ≤ T, (walks rs p t).length ≤ 5000) : ∃ f, F__law_walks [eWeb n rs, eN p, eN T] = .ok (.lst ((walks rs p T).map eRow)) f .non := by
  obtain ⟨f3, f4, f5, f6, h1, h2⟩ := walks_3_ok w T hT hw
  exact walks_a h1 h2
end
end K01

set_option Elab.async false
set_option linter.all false
set_option maxRecDepth 100000
namespace K01
open DL PySem
abbrev eL (l : List Nat) : D := .lst (eNs l)
def crow (n : Nat) (rs : List (Nat × Nat)) (row : List Nat) : List Nat := (List.range n).map fun g => ((rs.filter fun r => decide (r.2 = g)).map fun r => row.getD r.1 0).sum
def crow0 (n p : Nat) : List Nat := (List.range n).map fun g => if p = g then 1 else 0
def crows (n : Nat) (rs : List (Nat × Nat)) : Nat → List (List Nat)
  | 0 => (List.range n).map (crow0 n)
  | t + 1 => (crows n rs t).map (crow n rs)
theorem crows_len {n : Nat} {rs : List (Nat × Nat)} : ∀ {t : Nat}, (crows n rs t).length = n ∧ ∀ l ∈ crows n rs t, l.length = n
  | 0 => ⟨by simp [crows], fun l h => by simp [crows] at h; obtain ⟨p, _, rfl⟩ := h; simp [crow0]⟩
  | t + 1 => ⟨by simp [crows, crows_len (t := t)], fun l h => by simp [crows] at h; obtain ⟨p, _, rfl⟩ := h; simp [crow]⟩
theorem dInts_nat : ∀ l : List Nat, dInts (eNs l) = some (l.map fun (k : Nat) => (k : Int))
  | [] => rfl
  | k :: l => by
    show dInts (eN k :: eNs l) = _
    simp [dInts, dInts_nat l]
theorem sum_nat (l : List Nat) : (l.map fun (k : Nat) => (k : Int)).sum = ((l.sum : Nat) : Int) := by
  induction l with
  | nil => rfl
  | cons a l ih => simp [ih]
theorem dSum_nat (l : List Nat) : dSum [eL l] = some (.v (eN l.sum)) := by
  simp only [dSum]
  rw [dInts_nat]
  simp only [Option.map_some]
  rw [sum_nat]
section
variable {W Lo : D} {n p g : Nat} {rs : List (Nat × Nat)} {s2 s3 s4 s5 s6 : Sl}
end
end K01

set_option Elab.async false
set_option linter.all false
set_option maxRecDepth 100000
namespace K01
open DL PySem
/-! what is reached: plain facts -/
theorem nodup_len : ∀ {l m : List Nat}, l.Nodup → (∀ x ∈ l, x ∈ m) → l.length ≤ m.length
  | [], _, _, _ => Nat.zero_le _
  | a :: l, m, hn, hs => by
    obtain ⟨h1, h2⟩ := List.nodup_cons.mp hn
    have ha := hs a List.mem_cons_self
    have := nodup_len (l := l) (m := m.erase a) h2 fun x hx => (List.mem_erase_of_ne (show x ≠ a from fun e => h1 (e ▸ hx))).mpr (hs x (List.mem_cons_of_mem _ hx))
    rw [List.length_erase_of_mem ha] at this
    have : 0 < m.length := List.length_pos_of_mem ha
    simp only [List.length_cons]
    omega
theorem srt_nodup {l : List Nat} (h : l.Pairwise (· < ·)) : l.Nodup := h.imp fun {a b} q => Nat.ne_of_lt q
theorem nat_uniq : ∀ {l m : List Nat}, l.Pairwise (· < ·) → m.Pairwise (· < ·) → (∀ k, k ∈ l ↔ k ∈ m) → l = m
  | [], [], _, _, _ => rfl
  | [], b :: m, _, _, h => by have := (h b).mpr List.mem_cons_self; cases this
  | a :: l, [], _, _, h => by have := (h a).mp List.mem_cons_self; cases this
  | a :: l, b :: m, hl, hm, h => by
    obtain ⟨a1, a2⟩ := List.pairwise_cons.mp hl
    obtain ⟨b1, b2⟩ := List.pairwise_cons.mp hm
    have e : a = b := by
      rcases List.mem_cons.mp ((h a).mp List.mem_cons_self) with q | q
      · exact q
      · rcases List.mem_cons.mp ((h b).mpr List.mem_cons_self) with z | z
        · exact z.symm
        · have := b1 a q; have := a1 b z; omega
    subst e
    rw [nat_uniq a2 b2 fun k => ⟨fun q => ?_, fun q => ?_⟩]
    · rcases List.mem_cons.mp ((h k).mp (List.mem_cons_of_mem _ q)) with z | z
      · subst z; exact absurd (a1 k q) (Nat.lt_irrefl _)
      · exact z
    · rcases List.mem_cons.mp ((h k).mpr (List.mem_cons_of_mem _ q)) with z | z
      · subst z; exact absurd (b1 k q) (Nat.lt_irrefl _)
      · exact z
inductive Reach (rs : List (Nat × Nat)) (p : Nat) : Nat → Prop
  | refl : Reach rs p p
  | step {a b : Nat} : Reach rs p a → (a, b) ∈ rs → Reach rs p b
theorem Reach.head {rs : List (Nat × Nat)} {p a q : Nat} (h : (p, a) ∈ rs) (r : Reach rs a q) : Reach rs p q := by
  induction r with
  | refl => exact .step .refl h
  | step _ hb ih => exact .step ih hb
theorem Reach.trans {rs : List (Nat × Nat)} {p a q : Nat} (h : Reach rs p a) (r : Reach rs a q) : Reach rs p q := by
  induction r with
  | refl => exact h
  | step _ hb ih => exact .step ih hb
/-- a path of a road at least begins with a road -/
theorem Reach.first {rs : List (Nat × Nat)} {p q : Nat} (r : Reach rs p q) : p = q ∨ ∃ a, (p, a) ∈ rs ∧ Reach rs a q := by
  induction r with
  | refl => exact .inl rfl
  | @step a b h hb ih =>
    rcases ih with rfl | ⟨c, h1, h2⟩
    · exact .inr ⟨b, hb, .refl⟩
    · exact .inr ⟨c, h1, .step h2 hb⟩
theorem Reach.in_closed {rs : List (Nat × Nat)} {p q : Nat} {l : List Nat} (hp : p ∈ l) (hc : ∀ a b, (a, b) ∈ rs → a ∈ l → b ∈ l) (r : Reach rs p q) : q ∈ l := by
  induction r with
  | refl => exact hp
  | step _ hb ih => exact hc _ _ hb ih
open Classical in
noncomputable def reachL (n : Nat) (rs : List (Nat × Nat)) (p : Nat) : List Nat := (List.range n).filter fun q => decide (Reach rs p q)
theorem reachL_mem {n : Nat} {rs : List (Nat × Nat)} {p q : Nat} : q ∈ reachL n rs p ↔ q < n ∧ Reach rs p q := by
  unfold reachL
  simp
theorem reachL_srt (n : Nat) (rs : List (Nat × Nat)) (p : Nat) : (reachL n rs p).Pairwise (· < ·) := List.Pairwise.filter _ List.pairwise_lt_range
theorem reachL_len (n : Nat) (rs : List (Nat × Nat)) (p : Nat) : (reachL n rs p).length ≤ n := by
  unfold reachL
  exact Nat.le_trans (List.length_filter_le ..) (by rw [List.length_range]; exact Nat.le_refl _)
/-- what goes on from a place -/
def vis (h : Nat) (s : List Nat × List Nat) (r : Nat × Nat) : List Nat × List Nat := if r.1 = h ∧ r.2 ∉ s.1 then (s.1 ++ [r.2], s.2 ++ [r.2]) else s
structure Inv (n : Nat) (rs : List (Nat × Nat)) (p : Nat) (found line : List Nat) : Prop where
  pin : p ∈ found
  nd : found.Nodup
  re : ∀ x ∈ found, x < n ∧ Reach rs p x
  sub : ∀ x ∈ line, x ∈ found
  cl : ∀ x ∈ found, x ∉ line → ∀ b, (x, b) ∈ rs → b ∈ found
/-- a part of the roads done -/
structure Inv1 (n : Nat) (rs : List (Nat × Nat)) (p h : Nat) (done : List (Nat × Nat)) (k : Nat) (found line : List Nat) : Prop where
  pin : p ∈ found
  nd : found.Nodup
  re : ∀ x ∈ found, x < n ∧ Reach rs p x
  hin : h ∈ found
  sub : ∀ x ∈ line, x ∈ found
  cl : ∀ x ∈ found, x ≠ h → x ∉ line → ∀ b, (x, b) ∈ rs → b ∈ found
  dn : ∀ b, (h, b) ∈ done → b ∈ found
  ms : line.length + (n - found.length) = k
  le : found.length ≤ n
theorem Inv1.step {n : Nat} {rs : List (Nat × Nat)} {p h : Nat} {done : List (Nat × Nat)} {k : Nat} {found line : List Nat} (i : Inv1 n rs p h done k found line) {r : Nat × Nat} (hr : r ∈ rs) (hb : ∀ r ∈ rs, r.1 < n ∧ r.2 < n) :
    Inv1 n rs p h (done ++ [r]) k (vis h (found, line) r).1 (vis h (found, line) r).2 := by
  obtain ⟨a, b⟩ := r
  unfold vis
  by_cases q : a = h ∧ b ∉ found
  · rw [if_pos q]
    obtain ⟨rfl, q⟩ := q
    have nd : (found ++ [b]).Nodup := List.nodup_append.mpr ⟨i.nd, by simp, fun x hx y hy e => by simp at hy; subst hy; subst e; exact q hx⟩
    have re : ∀ x ∈ found ++ [b], x < n ∧ Reach rs p x := fun x hx => by
      rcases List.mem_append.mp hx with z | z
      · exact i.re x z
      · simp at z; subst z; exact ⟨(hb _ hr).2, .step (i.re a i.hin).2 hr⟩
    have le : (found ++ [b]).length ≤ n := by
      have := nodup_len (m := List.range n) nd fun x hx => List.mem_range.mpr (re x hx).1
      rwa [List.length_range] at this
    refine ⟨List.mem_append_left _ i.pin, nd, re, List.mem_append_left _ i.hin, fun x hx => ?_, fun x hx hne hl c hc => ?_, fun c hc => ?_, ?_, le⟩
    · rcases List.mem_append.mp hx with z | z
      · exact List.mem_append_left _ (i.sub x z)
      · exact List.mem_append_right _ z
    · rcases List.mem_append.mp hx with z | z
      · exact List.mem_append_left _ (i.cl x z hne (fun z => hl (List.mem_append_left _ z)) c hc)
      · exact absurd (List.mem_append_right _ z) hl
    · rcases List.mem_append.mp hc with z | z
      · exact List.mem_append_left _ (i.dn c z)
      · simp at z; subst z; exact List.mem_append_right _ (by simp)
    · have := i.ms
      simp only [List.length_append, List.length_singleton] at le ⊢
      omega
  · rw [if_neg q]
    refine ⟨i.pin, i.nd, i.re, i.hin, i.sub, i.cl, fun c hc => ?_, i.ms, i.le⟩
    rcases List.mem_append.mp hc with z | z
    · exact i.dn c z
    · simp at z
      obtain ⟨rfl, rfl⟩ := z
      exact Classical.byContradiction fun z => q ⟨rfl, z⟩
theorem Inv1.all {n : Nat} {rs : List (Nat × Nat)} {p h : Nat} {k : Nat} (hb : ∀ r ∈ rs, r.1 < n ∧ r.2 < n) : ∀ {r done : List (Nat × Nat)} {found line : List Nat}, (∀ x ∈ r, x ∈ rs) → Inv1 n rs p h done k found line →
    Inv1 n rs p h (done ++ r) k (r.foldl (vis h) (found, line)).1 (r.foldl (vis h) (found, line)).2
  | [], done, found, line, _, i => by rw [List.append_nil]; exact i
  | x :: r, done, found, line, hs, i => by
    have s := i.step (hs x List.mem_cons_self) hb
    have := Inv1.all hb (r := r) (fun y hy => hs y (List.mem_cons_of_mem _ hy)) s
    rw [show done ++ [x] ++ r = done ++ x :: r by simp] at this
    exact this
theorem Inv.pop {n : Nat} {rs : List (Nat × Nat)} {p h : Nat} {found line : List Nat} (hb : ∀ r ∈ rs, r.1 < n ∧ r.2 < n) (i : Inv n rs p found (line ++ [h])) :
    Inv n rs p (rs.foldl (vis h) (found, line)).1 (rs.foldl (vis h) (found, line)).2 ∧ (rs.foldl (vis h) (found, line)).2.length + (n - (rs.foldl (vis h) (found, line)).1.length) = line.length + (n - found.length) := by
  have le : found.length ≤ n := by
    have := nodup_len (m := List.range n) i.nd fun x hx => List.mem_range.mpr (i.re x hx).1
    rwa [List.length_range] at this
  have j : Inv1 n rs p h [] (line.length + (n - found.length)) found line := by
    refine ⟨i.pin, i.nd, i.re, i.sub h (by simp), fun x hx => i.sub x (List.mem_append_left _ hx), fun x hx hne hl => i.cl x hx fun z => ?_, fun b hb => ?_, rfl, le⟩
    · rcases List.mem_append.mp z with z | z
      · exact hl z
      · simp at z; exact hne z
    · simp at hb
  have q := Inv1.all hb (r := rs) (fun x hx => hx) j
  rw [List.nil_append] at q
  refine ⟨⟨q.pin, q.nd, q.re, q.sub, fun x hx hl b hb' => ?_⟩, q.ms⟩
  by_cases e : x = h
  · subst e; exact q.dn b hb'
  · exact q.cl x hx e hl b hb'
theorem Inv.done {n : Nat} {rs : List (Nat × Nat)} {p : Nat} {found : List Nat} (i : Inv n rs p found []) {q : Nat} : q ∈ found ↔ q ∈ reachL n rs p := by
  rw [reachL_mem]
  exact ⟨fun h => i.re q h, fun h => h.2.in_closed i.pin fun a b hab ha => i.cl a ha (by simp) b hab⟩
end K01

set_option Elab.async false
set_option linter.all false
set_option maxRecDepth 100000
namespace K01
open DL PySem
theorem any_nat (b : Nat) : ∀ l : List Nat, ((eNs l).any fun z => D.eqb z (eN b)) = decide (b ∈ l)
  | [] => rfl
  | a :: l => by
    show (D.eqb (eN a) (eN b) || (eNs l).any fun z => D.eqb z (eN b)) = _
    rw [nat_beq, any_nat b l]
    by_cases h : a = b
    · simp [h]
    · have h' : ¬ b = a := fun e => h e.symm
      simp [h, h']
theorem notin_nat (b : Nat) (l : List Nat) : dInC true (eN b) (eL l) = some (decide (b ∉ l)) := by
  simp only [dInC]
  rw [if_pos ⟨int_shaped _, eNs_shaped l⟩, any_nat]
  by_cases h : b ∈ l <;> simp [h]
theorem in_nat (b : Nat) (l : List Nat) : dInC false (eN b) (eL l) = some (decide (b ∈ l)) := by
  simp only [dInC]
  rw [if_pos ⟨int_shaped _, eNs_shaped l⟩, any_nat]
  by_cases h : b ∈ l <;> simp [h]
section
variable {A B h a b : D} {F L : List D} {n5 n6 : Sl}
theorem reach_turn1 (k5 : n5 = .no ∨ ∃ d, n5 = .sh d) (k6 : n6 = .no ∨ ∃ d, n6 = .sh d) (e1 : dEqC a h = some true) (e2 : dInC true b (.lst F) = some true) (l1 : F.length < lim) (l2 : L.length < lim) :
    mTurn (gUnp 2 (gsCons (gSet 5) (gsCons (gSet 6) (gsNil)))) (mIf (mAnd (mT2 dEqC (mVar 5) (mVar 4)) (mT2 (dInC true) (mVar 6) (mVar 2))) (mSeq (mDrop (mApp 2 (mVar 6))) (mDrop (mApp 3 (mVar 6)))) (mNx)) (.tup [a, b]) [.sh A, .sh B, .ow false (.lst F), .ow false (.lst L), .sh h, n5, n6] =
    .ok .nx [.sh A, .sh B, .ow false (.lst (F ++ [b])), .ow false (.lst (L ++ [b])), .sh h, .sh a, .sh b] := by
  rcases k5 with rfl | ⟨d, rfl⟩ <;> rcases k6 with rfl | ⟨d', rfl⟩ <;> simp [mTurn, e1, e2, l1, l2, mApp, ownL, wrL, runF, initS, mRet, mAndV, mOrV, bind_eq, pure_eq, mCall, mCons, mNil, mVar, rdv, callAt, lent, ownAt, just, isLn, tst, dTru, asV, mChain, tst2, dLe, dLt, dGe, dGt, dIs, dIsNot, isNon, handed, outD, retRv, mIf, mOr, mAnd, mNotT, mTru, mSeq, mIsi, dIsi, tyD, tyLe, mOps, ops, mInt, mBl, mNon, mStr, mB, mU, op1, op2, mSet, store, free, DL.settle, DL.settles, mNotV, b2, mRetN, mNx, mDrop, mSeqI, items, mT2, okRet, noL, noLi, noLs, mYes, gSet, gUnp, gsCons, gsNil, mTup, mLst, guardL]
theorem reach_turn2 (k5 : n5 = .no ∨ ∃ d, n5 = .sh d) (k6 : n6 = .no ∨ ∃ d, n6 = .sh d) (e1 : dEqC a h = some false) :
    mTurn (gUnp 2 (gsCons (gSet 5) (gsCons (gSet 6) (gsNil)))) (mIf (mAnd (mT2 dEqC (mVar 5) (mVar 4)) (mT2 (dInC true) (mVar 6) (mVar 2))) (mSeq (mDrop (mApp 2 (mVar 6))) (mDrop (mApp 3 (mVar 6)))) (mNx)) (.tup [a, b]) [.sh A, .sh B, .ow false (.lst F), .ow false (.lst L), .sh h, n5, n6] =
    .ok .nx [.sh A, .sh B, .ow false (.lst F), .ow false (.lst L), .sh h, .sh a, .sh b] := by
  rcases k5 with rfl | ⟨d, rfl⟩ <;> rcases k6 with rfl | ⟨d', rfl⟩ <;> simp [mTurn, e1, runF, initS, mRet, mAndV, mOrV, bind_eq, pure_eq, mCall, mCons, mNil, mVar, rdv, callAt, lent, ownAt, just, isLn, tst, dTru, asV, mChain, tst2, dLe, dLt, dGe, dGt, dIs, dIsNot, isNon, handed, outD, retRv, mIf, mOr, mAnd, mNotT, mTru, mSeq, mIsi, dIsi, tyD, tyLe, mOps, ops, mInt, mBl, mNon, mStr, mB, mU, op1, op2, mSet, store, free, DL.settle, DL.settles, mNotV, b2, mRetN, mNx, mDrop, mSeqI, items, mT2, okRet, noL, noLi, noLs, mYes, gSet, gUnp, gsCons, gsNil, mTup, mLst, guardL]
theorem reach_turn3 (k5 : n5 = .no ∨ ∃ d, n5 = .sh d) (k6 : n6 = .no ∨ ∃ d, n6 = .sh d) (e1 : dEqC a h = some true) (e2 : dInC true b (.lst F) = some false) :
    mTurn (gUnp 2 (gsCons (gSet 5) (gsCons (gSet 6) (gsNil)))) (mIf (mAnd (mT2 dEqC (mVar 5) (mVar 4)) (mT2 (dInC true) (mVar 6) (mVar 2))) (mSeq (mDrop (mApp 2 (mVar 6))) (mDrop (mApp 3 (mVar 6)))) (mNx)) (.tup [a, b]) [.sh A, .sh B, .ow false (.lst F), .ow false (.lst L), .sh h, n5, n6] =
    .ok .nx [.sh A, .sh B, .ow false (.lst F), .ow false (.lst L), .sh h, .sh a, .sh b] := by
  rcases k5 with rfl | ⟨d, rfl⟩ <;> rcases k6 with rfl | ⟨d', rfl⟩ <;> simp [mTurn, e1, e2, runF, initS, mRet, mAndV, mOrV, bind_eq, pure_eq, mCall, mCons, mNil, mVar, rdv, callAt, lent, ownAt, just, isLn, tst, dTru, asV, mChain, tst2, dLe, dLt, dGe, dGt, dIs, dIsNot, isNon, handed, outD, retRv, mIf, mOr, mAnd, mNotT, mTru, mSeq, mIsi, dIsi, tyD, tyLe, mOps, ops, mInt, mBl, mNon, mStr, mB, mU, op1, op2, mSet, store, free, DL.settle, DL.settles, mNotV, b2, mRetN, mNx, mDrop, mSeqI, items, mT2, okRet, noL, noLi, noLs, mYes, gSet, gUnp, gsCons, gsNil, mTup, mLst, guardL]
theorem nat_eqC (a b : Nat) : dEqC (eN a) (eN b) = some (decide (a = b)) := by
  simp only [dEqC]
  rw [if_pos ⟨int_shaped _, int_shaped _⟩, nat_beq]
end
def eR1 (r : Nat × Nat) : D := eN r.1
def eR2 (r : Nat × Nat) : D := eN r.2
theorem foldl_len (h : Nat) : ∀ (r : List (Nat × Nat)) (s : List Nat × List Nat), (r.foldl (vis h) s).1.length ≤ s.1.length + r.length ∧ (r.foldl (vis h) s).2.length ≤ s.2.length + r.length
  | [], s => ⟨Nat.le_refl _, Nat.le_refl _⟩
  | x :: r, s => by
    have ih := foldl_len h r (vis h s x)
    have : (vis h s x).1.length ≤ s.1.length + 1 ∧ (vis h s x).2.length ≤ s.2.length + 1 := by
      unfold vis
      split <;> simp
    simp only [List.foldl_cons, List.length_cons]
    omega
theorem reach_1_ok {n : Nat} {rs : List (Nat × Nat)} (w : WebOk n rs) {P : D} {h : Nat} {f l : List Nat} {n5 n6 : Sl} (k5 : n5 = .no ∨ ∃ d, n5 = .sh d) (k6 : n6 = .no ∨ ∃ d, n6 = .sh d) (l1 : f.length ≤ 1000) (l2 : l.length ≤ 200000) :
    ∃ m5 m6, (m5 = .no ∨ ∃ d, m5 = .sh d) ∧ (m6 = .no ∨ ∃ d, m6 = .sh d) ∧
    x_reached_in_1 [.sh (eWeb n rs), .sh P, .ow false (eL f), .ow false (eL l), .sh (eN h), n5, n6] = .ok .nx [.sh (eWeb n rs), .sh P, .ow false (eL (rs.foldl (vis h) (f, l)).1), .ow false (eL (rs.foldl (vis h) (f, l)).2), .sh (eN h), m5, m6] := by
  refine ⟨lastS eR1 n5 rs, lastS eR2 n6 rs, lastS_k _ _ _ k5, lastS_k _ _ _ k6, ?_⟩
  have key := forL_all (f := mTurn (gUnp 2 (gsCons (gSet 5) (gsCons (gSet 6) (gsNil)))) (mIf (mAnd (mT2 dEqC (mVar 5) (mVar 4)) (mT2 (dInC true) (mVar 6) (mVar 2))) (mSeq (mDrop (mApp 2 (mVar 6))) (mDrop (mApp 3 (mVar 6)))) (mNx))) (g := eRoad) (xs := rs)
    (S := fun dn => [.sh (eWeb n rs), .sh P, .ow false (eL (dn.foldl (vis h) (f, l)).1), .ow false (eL (dn.foldl (vis h) (f, l)).2), .sh (eN h), lastS eR1 n5 dn, lastS eR2 n6 dn]) fun dn x rr e => by
    left
    obtain ⟨a, b⟩ := x
    have fl := foldl_len h dn (f, l)
    have dl : dn.length ≤ 16 := by
      have : rs.length = dn.length + (rr.length + 1) := by rw [e]; simp
      have := w.few
      omega
    rw [List.foldl_append, lastS_snoc, lastS_snoc]
    have q5 := lastS_k eR1 n5 dn k5
    have q6 := lastS_k eR2 n6 dn k6
    generalize lastS eR1 n5 dn = m5 at q5 ⊢
    generalize lastS eR2 n6 dn = m6 at q6 ⊢
    generalize dn.foldl (vis h) (f, l) = s at fl ⊢
    obtain ⟨s1, s2⟩ := s
    dsimp only at fl
    have lm : lim = 16777216 := rfl
    have b1 : (eNs s1).length < lim := by rw [List.length_map]; omega
    have b2 : (eNs s2).length < lim := by rw [List.length_map]; omega
    have e1 := nat_eqC a h
    have e2 := notin_nat b s1
    show _ = Res.ok Fl.nx [.sh (eWeb n rs), .sh P, .ow false (eL (vis h (s1, s2) (a, b)).1), .ow false (eL (vis h (s1, s2) (a, b)).2), .sh (eN h), .sh (eN a), .sh (eN b)]
    unfold vis
    by_cases h1 : a = h
    · by_cases h2 : b ∉ s1
      · rw [if_pos ⟨h1, h2⟩]
        rw [decide_eq_true h1] at e1
        rw [decide_eq_true h2] at e2
        show _ = Res.ok Fl.nx [.sh (eWeb n rs), .sh P, .ow false (.lst (eNs (s1 ++ [b]))), .ow false (.lst (eNs (s2 ++ [b]))), .sh (eN h), .sh (eN a), .sh (eN b)]
        rw [eNs_snoc, eNs_snoc]
        exact reach_turn1 q5 q6 e1 e2 b1 b2
      · rw [if_neg (fun z => h2 z.2)]
        rw [decide_eq_true h1] at e1
        rw [decide_eq_false h2] at e2
        exact reach_turn3 q5 q6 e1 e2
    · rw [if_neg (fun z => h1 z.1)]
      rw [decide_eq_false h1] at e1
      exact reach_turn2 q5 q6 e1
  have it : mSeqI (mB dIx (mVar 0) (mInt 1)) [.sh (eWeb n rs), .sh P, .ow false (eL f), .ow false (eL l), .sh (eN h), n5, n6] = .ok (rs.map eRoad) [.sh (eWeb n rs), .sh P, .ow false (eL f), .ow false (eL l), .sh (eN h), n5, n6] := rfl
  unfold x_reached_in_1 mFor
  rw [ok_bind it]
  exact key
/-- the while loop's turn, its end -/
theorem while_end {t : M Bool} {b : M Fl} {σ : Sg} {k : Nat} (h : t σ = .ok false σ) : whL t b (k + 1) σ = .ok .nx σ := by
  unfold whL
  rw [ok_bind h]
  rfl
theorem while_on {t : M Bool} {b : M Fl} {σ σ1 : Sg} {k : Nat} (h : t σ = .ok true σ) (hb : b σ = .ok .nx σ1) : whL t b (k + 1) σ = whL t b k σ1 := by
  conv => lhs; unfold whL
  rw [ok_bind h, if_pos rfl, ok_bind hb]
theorem tru3 {A B : D} {F : Sl} {L : List D} {h n5 n6 : Sl} {k : Bool} (e : (!L.isEmpty) = k) : mTru (mVar 3) [.sh A, .sh B, F, .ow false (.lst L), h, n5, n6] = .ok k [.sh A, .sh B, F, .ow false (.lst L), h, n5, n6] := by
  subst e
  simp [runF, initS, mRet, mAndV, mOrV, bind_eq, pure_eq, mCall, mCons, mNil, mVar, rdv, callAt, lent, ownAt, just, isLn, tst, dTru, asV, mChain, tst2, dLe, dLt, dGe, dGt, dIs, dIsNot, isNon, handed, outD, retRv, mIf, mOr, mAnd, mNotT, mTru, mSeq, mIsi, dIsi, tyD, tyLe, mOps, ops, mInt, mBl, mNon, mStr, mB, mU, op1, op2, mSet, store, free, DL.settle, DL.settles, mNotV, b2, mRetN, mNx, mDrop, mSeqI, items, mT2, okRet, noL, noLi, noLs, mYes, gSet, gUnp, gsCons, gsNil, mTup, mLst, guardL]
theorem pop_here {A B : D} {F : D} {L : List D} {x : D} {s4 n5 n6 : Sl} {m : M Fl} (k4 : s4 = .no ∨ ∃ d, s4 = .sh d) : mSeq (mSet 4 (mPop 3)) m [.sh A, .sh B, .ow false F, .ow false (.lst (L ++ [x])), s4, n5, n6] = m [.sh A, .sh B, .ow false F, .ow false (.lst L), .sh x, n5, n6] := by
  rcases k4 with rfl | ⟨d, rfl⟩ <;> simp [mPop, ownL, wrL, runF, initS, mRet, mAndV, mOrV, bind_eq, pure_eq, mCall, mCons, mNil, mVar, rdv, callAt, lent, ownAt, just, isLn, tst, dTru, asV, mChain, tst2, dLe, dLt, dGe, dGt, dIs, dIsNot, isNon, handed, outD, retRv, mIf, mOr, mAnd, mNotT, mTru, mSeq, mIsi, dIsi, tyD, tyLe, mOps, ops, mInt, mBl, mNon, mStr, mB, mU, op1, op2, mSet, store, free, DL.settle, DL.settles, mNotV, b2, mRetN, mNx, mDrop, mSeqI, items, mT2, okRet, noL, noLi, noLs, mYes, gSet, gUnp, gsCons, gsNil, mTup, mLst, guardL]
theorem reach_2_ok {n : Nat} {rs : List (Nat × Nat)} (w : WebOk n rs) {p : Nat} : ∀ (k : Nat) {f l : List Nat} {s4 n5 n6 : Sl}, (s4 = .no ∨ ∃ d, s4 = .sh d) → (n5 = .no ∨ ∃ d, n5 = .sh d) → (n6 = .no ∨ ∃ d, n6 = .sh d) → Inv n rs p f l → l.length + (n - f.length) < k → k ≤ 100000 →
    ∃ f' m4 m5 m6, Inv n rs p f' [] ∧ whL (mTru (mVar 3)) (mSeq (mSet 4 (mPop 3)) (x_reached_in_1)) k [.sh (eWeb n rs), .sh (eN p), .ow false (eL f), .ow false (eL l), s4, n5, n6] = .ok .nx [.sh (eWeb n rs), .sh (eN p), .ow false (eL f'), .ow false (eL []), m4, m5, m6]
  | 0, _, _, _, _, _, _, _, _, _, h, _ => absurd h (Nat.not_lt_zero _)
  | k + 1, f, l, s4, n5, n6, k4, k5, k6, i, h, hk => by
    rcases getN l with rfl | ⟨m, x, rfl⟩
    · exact ⟨f, s4, n5, n6, i, while_end (tru3 rfl)⟩
    · have le : f.length ≤ n := by
        have := nodup_len (m := List.range n) i.nd fun x hx => List.mem_range.mpr (i.re x hx).1
        rwa [List.length_range] at this
      have := w.most
      obtain ⟨j, ms⟩ := Inv.pop (h := x) w.lt i
      simp only [List.length_append, List.length_singleton] at h
      obtain ⟨m5, m6, q5, q6, e⟩ := reach_1_ok (P := eN p) (h := x) (f := f) (l := m) w k5 k6 (by omega) (by omega)
      obtain ⟨f', r4, r5, r6, i', e'⟩ := reach_2_ok w k (s4 := .sh (eN x)) (.inr ⟨_, rfl⟩) q5 q6 j (by rw [ms]; omega) (by omega)
      refine ⟨f', r4, r5, r6, i', ?_⟩
      have t : mTru (mVar 3) [.sh (eWeb n rs), .sh (eN p), .ow false (eL f), .ow false (eL (m ++ [x])), s4, n5, n6] = .ok true [.sh (eWeb n rs), .sh (eN p), .ow false (eL f), .ow false (eL (m ++ [x])), s4, n5, n6] := tru3 (by cases m <;> rfl)
      have b : mSeq (mSet 4 (mPop 3)) (x_reached_in_1) [.sh (eWeb n rs), .sh (eN p), .ow false (eL f), .ow false (eL (m ++ [x])), s4, n5, n6] = .ok .nx [.sh (eWeb n rs), .sh (eN p), .ow false (eL (rs.foldl (vis x) (f, m)).1), .ow false (eL (rs.foldl (vis x) (f, m)).2), .sh (eN x), m5, m6] := by
        have e3 : eL (m ++ [x]) = .lst (eNs m ++ [eN x]) := congrArg D.lst (eNs_snoc m x)
        rw [e3, pop_here k4]
        exact e
      rw [while_on t b]
      exact e'
end K01

set_option Elab.async false
set_option linter.all false
set_option maxRecDepth 100000
namespace K01
open DL PySem
def nins (x : Nat) : List Nat → List Nat
  | [] => [x]
  | y :: r => if y < x then y :: nins x r else x :: y :: r
def nsort : List Nat → List Nat
  | [] => []
  | x :: r => nins x (nsort r)
theorem lt_nat (a b : Nat) : D.lt (eN a) (eN b) = decide (a < b) := by
  show decide ((a : Int) < (b : Int)) = _
  simp
theorem ins_nat (x : Nat) : ∀ l : List Nat, DL.ins (eN x) (eNs l) = eNs (nins x l)
  | [] => rfl
  | y :: r => by
    show (if D.lt (eN y) (eN x) then eN y :: DL.ins (eN x) (eNs r) else eN x :: eN y :: eNs r) = _
    rw [lt_nat, ins_nat x r]
    show _ = eNs (if y < x then y :: nins x r else x :: y :: r)
    by_cases h : y < x
    · rw [decide_eq_true h, if_pos rfl, if_pos h]; rfl
    · rw [decide_eq_false h, if_neg h]; rfl
theorem isort_nat : ∀ l : List Nat, isort (eNs l) = eNs (nsort l)
  | [] => rfl
  | x :: r => by
    show DL.ins (eN x) (isort (eNs r)) = _
    rw [isort_nat r, ins_nat]
    rfl
theorem nins_mem {x k : Nat} : ∀ {l : List Nat}, k ∈ nins x l ↔ k = x ∨ k ∈ l
  | [] => by simp [nins]
  | y :: r => by
    unfold nins
    split
    · rw [List.mem_cons, nins_mem, List.mem_cons]
      constructor
      · rintro (h | h | h)
        · exact .inr (.inl h)
        · exact .inl h
        · exact .inr (.inr h)
      · rintro (h | h | h)
        · exact .inr (.inl h)
        · exact .inl h
        · exact .inr (.inr h)
    · simp
theorem nsort_mem {k : Nat} : ∀ {l : List Nat}, k ∈ nsort l ↔ k ∈ l
  | [] => by simp [nsort]
  | x :: r => by
    unfold nsort
    rw [nins_mem, nsort_mem, List.mem_cons]
theorem nins_srt {x : Nat} : ∀ {l : List Nat}, l.Pairwise (· < ·) → x ∉ l → (nins x l).Pairwise (· < ·)
  | [], _, _ => by simp [nins]
  | y :: r, h, hx => by
    obtain ⟨h1, h2⟩ := List.pairwise_cons.mp h
    have hne : x ≠ y := fun e => hx (e ▸ List.mem_cons_self)
    unfold nins
    split
    · rename_i hlt
      refine List.pairwise_cons.mpr ⟨fun z hz => ?_, nins_srt h2 fun z => hx (List.mem_cons_of_mem _ z)⟩
      rcases nins_mem.mp hz with q | q
      · omega
      · exact h1 z q
    · rename_i hlt
      refine List.pairwise_cons.mpr ⟨fun z hz => ?_, h⟩
      rcases List.mem_cons.mp hz with q | q
      · omega
      · have := h1 z q; omega
theorem nsort_srt : ∀ {l : List Nat}, l.Nodup → (nsort l).Pairwise (· < ·)
  | [], _ => by simp [nsort]
  | x :: r, h => by
    obtain ⟨h1, h2⟩ := List.nodup_cons.mp h
    exact nins_srt (nsort_srt h2) fun z => h1 (nsort_mem.mp z)
theorem okS_nat (l : List Nat) : okS (eNs l) = true := by
  unfold okS
  rw [List.all_eq_true]
  intro x hx
  obtain ⟨k, _, rfl⟩ := List.mem_map.mp hx
  have : (eNs l).all (fun y => alk (eN k) y) = true := by
    rw [List.all_eq_true]
    intro y hy
    obtain ⟨j, _, rfl⟩ := List.mem_map.mp hy
    simp [alk]
  rw [int_shaped]
  simp only [this]
  rfl
theorem sorted_nat (l : List Nat) : dSorted [eL l] = some (.fr (eL (nsort l))) := by
  simp only [dSorted]
  rw [if_pos (okS_nat l), isort_nat]
section
variable {n p : Nat} {rs : List (Nat × Nat)}
theorem inv_start (h : p < n) : Inv n rs p [p] [p] := ⟨by simp, by simp, fun x hx => by simp at hx; subst hx; exact ⟨h, .refl⟩, fun x hx => hx, fun x hx hn => absurd hx hn⟩
theorem reached_in_a {A B F G : D} {m4 m5 m6 : Sl} (h : x_reached_in_2 [.sh A, .sh B, .ow false (.lst [B]), .ow false (.lst [B]), .no, .no, .no] = .ok .nx [.sh A, .sh B, .ow false F, .ow false (.lst []), m4, m5, m6]) (e : dSorted [F] = some (.fr G)) : F_reached_in [A, B] = .ok G true .non := by
  have one : (1 : Nat) ≤ lim := by decide
  simp [F_reached_in, m_reached_in, mPar, DL.settleL, one, h, e, runF, initS, mRet, mAndV, mOrV, bind_eq, pure_eq, mCall, mCons, mNil, mVar, rdv, callAt, lent, ownAt, just, isLn, tst, dTru, asV, mChain, tst2, dLe, dLt, dGe, dGt, dIs, dIsNot, isNon, handed, outD, retRv, mIf, mOr, mAnd, mNotT, mTru, mSeq, mIsi, dIsi, tyD, tyLe, mOps, ops, mInt, mBl, mNon, mStr, mB, mU, op1, op2, mSet, store, free, DL.settle, DL.settles, mNotV, b2, mRetN, mNx, mDrop, mSeqI, items, mT2, okRet, noL, noLi, noLs, mYes, gSet, gUnp, gsCons, gsNil, mTup, mLst, guardL]
theorem reached_in_ok (w : WebOk n rs) (h : p < n) : F_reached_in [eWeb n rs, eN p] = .ok (eL (reachL n rs p)) true .non := by
  have := w.most
  obtain ⟨f', m4, m5, m6, i, e⟩ := reach_2_ok w 100000 (s4 := .no) (n5 := .no) (n6 := .no) (.inl rfl) (.inl rfl) (.inl rfl) (inv_start (rs := rs) h) (by simp only [List.length_singleton]; omega) (Nat.le_refl _)
  have u : nsort f' = reachL n rs p := nat_uniq (nsort_srt i.nd) (reachL_srt n rs p) fun k => by rw [nsort_mem, i.done]
  have s := sorted_nat f'
  rw [u] at s
  exact reached_in_a e s
/-! ### the law's -/
theorem usort_nat (l : List Nat) : ∃ m : List Nat, usort (l.map fun (k : Nat) => (k : Int)) = m.map (fun (k : Nat) => (k : Int)) ∧ m.Pairwise (· < ·) ∧ ∀ k, k ∈ m ↔ k ∈ l := by
  have pos : ∀ z ∈ usort (l.map fun (k : Nat) => (k : Int)), ((z.toNat : Nat) : Int) = z := fun z hz => by
    obtain ⟨k, _, rfl⟩ := List.mem_map.mp (usort_mem.mp hz)
    simp
  refine ⟨(usort (l.map fun (k : Nat) => (k : Int))).map Int.toNat, ?_, ?_, fun k => ?_⟩
  · rw [List.map_map]
    conv => lhs; rw [← List.map_id (usort _)]
    exact List.map_congr_left fun z hz => (pos z hz).symm
  · rw [List.pairwise_map]
    exact (usort_srt _).imp_of_mem fun {a b} ha hb h => by
      have := pos a ha; have := pos b hb; omega
  · rw [List.mem_map]
    constructor
    · rintro ⟨z, hz, rfl⟩
      obtain ⟨j, hj, rfl⟩ := List.mem_map.mp (usort_mem.mp hz)
      simpa using hj
    · intro h
      exact ⟨(k : Int), usort_mem.mpr (List.mem_map.mpr ⟨k, h, rfl⟩), by simp⟩
theorem sortSet_nat (l : List Nat) (h : l.length < 64) : ∃ m : List Nat, dSortSet (eL l) = some (.fr (eL m)) ∧ m.Pairwise (· < ·) ∧ ∀ k, k ∈ m ↔ k ∈ l := by
  obtain ⟨m, e, h1, h2⟩ := usort_nat l
  refine ⟨m, ?_, h1, h2⟩
  simp only [dSortSet]
  rw [dInts_nat]
  simp only
  rw [if_pos (by rw [List.length_map]; exact h), e, List.map_map]
  rfl
/-- places reached in so many turns -/
def InT (rs : List (Nat × Nat)) (p : Nat) : Nat → Nat → Prop
  | 0, q => q = p
  | t + 1, q => InT rs p t q ∨ ∃ a, InT rs p t a ∧ (a, q) ∈ rs
theorem InT.reach {t : Nat} : ∀ {q : Nat}, InT rs p t q → Reach rs p q := by
  induction t with
  | zero => intro q h; rw [show q = p from h]; exact .refl
  | succ t ih =>
    intro q h
    rcases h with h | ⟨a, h1, h2⟩
    · exact ih h
    · exact .step (ih h1) h2
/-- the list behind so many turns -/
structure LR (n : Nat) (rs : List (Nat × Nat)) (p t : Nat) (f : List Nat) : Prop where
  srt : f.Pairwise (· < ·)
  lt : ∀ x ∈ f, x < n
  mem : ∀ q, q ∈ f ↔ InT rs p t q
def grow (rs : List (Nat × Nat)) (f : List Nat) : List Nat := f ++ (rs.filter fun r => decide (r.1 ∈ f)).map (·.2)
theorem LR.next {t : Nat} {f m : List Nat} (w : WebOk n rs) (i : LR n rs p t f) (h1 : m.Pairwise (· < ·)) (h2 : ∀ k, k ∈ m ↔ k ∈ grow rs f) : LR n rs p (t + 1) m := by
  have key : ∀ q, q ∈ m ↔ InT rs p (t + 1) q := fun q => by
    rw [h2]
    unfold grow
    simp only [List.mem_append, List.mem_map, List.mem_filter, decide_eq_true_eq, i.mem]
    constructor
    · rintro (h | ⟨⟨a, b⟩, ⟨h3, h4⟩, rfl⟩)
      · exact .inl h
      · exact .inr ⟨a, h4, h3⟩
    · rintro (h | ⟨a, h3, h4⟩)
      · exact .inl h
      · exact .inr ⟨(a, q), ⟨h4, h3⟩, rfl⟩
  refine ⟨h1, fun x hx => ?_, key⟩
  rcases (key x).mp hx with h | ⟨a, h3, h4⟩
  · exact i.lt x ((i.mem x).mpr h)
  · exact (w.lt _ h4).2
theorem grow_len (f : List Nat) : (grow rs f).length ≤ f.length + rs.length := by
  unfold grow
  rw [List.length_append, List.length_map]
  have := List.length_filter_le (fun r : Nat × Nat => decide (r.1 ∈ f)) rs
  omega
def Stable (rs : List (Nat × Nat)) (p t : Nat) : Prop := ∀ a b, InT rs p t a → (a, b) ∈ rs → InT rs p t b
theorem stable_or (hlt : ∀ t, ∃ f, LR n rs p t f) : ∀ t, Stable rs p t ∨ ∀ f, LR n rs p t f → t + 1 ≤ f.length
  | 0 => .inr fun f i => by
    have : p ∈ f := (i.mem p).mpr rfl
    exact List.length_pos_of_mem this
  | t + 1 => by
    rcases stable_or hlt t with h | h
    · left
      intro a b ha hab
      have : InT rs p t a := by
        rcases ha with z | ⟨c, h1, h2⟩
        · exact z
        · exact h c a h1 h2
      exact .inl (h a b this hab)
    · by_cases q : Stable rs p t
      · left
        intro a b ha hab
        have : InT rs p t a := by
          rcases ha with z | ⟨c, h1, h2⟩
          · exact z
          · exact q c a h1 h2
        exact .inl (q a b this hab)
      · right
        intro f i
        obtain ⟨g, ig⟩ := hlt t
        have l := h g ig
        obtain ⟨a, b, h1, h2, h3⟩ : ∃ a b, InT rs p t a ∧ (a, b) ∈ rs ∧ ¬ InT rs p t b := by
          refine Classical.byContradiction fun z => q fun a b h1 h2 => Classical.byContradiction fun h3 => z ⟨a, b, h1, h2, h3⟩
        have nb : b ∉ g := fun z => h3 ((ig.mem b).mp z)
        have := nodup_len (l := b :: g) (m := f) (List.nodup_cons.mpr ⟨nb, srt_nodup ig.srt⟩) fun x hx => by
          rcases List.mem_cons.mp hx with rfl | z
          · exact (i.mem _).mpr (.inr ⟨a, h1, h2⟩)
          · exact (i.mem _).mpr (.inl ((ig.mem x).mp z))
        simp only [List.length_cons] at this
        omega
end
end K01

set_option Elab.async false
set_option linter.all false
set_option maxRecDepth 100000
namespace K01
open DL PySem
section
variable {n p : Nat} {rs : List (Nat × Nat)}
theorem InT.lt (w : WebOk n rs) (hp : p < n) : ∀ {t q : Nat}, InT rs p t q → q < n
  | 0, q, h => by rw [show q = p from h]; exact hp
  | t + 1, q, h => by
    rcases h with h | ⟨a, _, h⟩
    · exact InT.lt w hp h
    · exact (w.lt _ h).2
open Classical in
noncomputable def stepL (n : Nat) (rs : List (Nat × Nat)) (p t : Nat) : List Nat := (List.range n).filter fun q => decide (InT rs p t q)
theorem stepL_LR (w : WebOk n rs) (hp : p < n) (t : Nat) : LR n rs p t (stepL n rs p t) := by
  refine ⟨List.Pairwise.filter _ List.pairwise_lt_range, fun x hx => ?_, fun q => ?_⟩
  · unfold stepL at hx
    exact List.mem_range.mp (List.mem_filter.mp hx).1
  · unfold stepL
    simp only [List.mem_filter, List.mem_range, decide_eq_true_eq]
    exact ⟨fun h => h.2, fun h => ⟨InT.lt w hp h, h⟩⟩
theorem stepL_len (t : Nat) : (stepL n rs p t).length ≤ n := by
  unfold stepL
  exact Nat.le_trans (List.length_filter_le ..) (by rw [List.length_range]; exact Nat.le_refl _)
theorem stepL_zero (w : WebOk n rs) (hp : p < n) : stepL n rs p 0 = [p] :=
  nat_uniq (stepL_LR w hp 0).srt (by simp) fun k => by rw [(stepL_LR w hp 0).mem]; simp [InT]
theorem stepL_end (w : WebOk n rs) (hp : p < n) : stepL n rs p 9 = reachL n rs p := by
  refine nat_uniq (stepL_LR w hp 9).srt (reachL_srt n rs p) fun k => ?_
  rw [(stepL_LR w hp 9).mem, reachL_mem]
  constructor
  · intro h
    exact ⟨InT.lt w hp h, h.reach⟩
  · rintro ⟨h0, h⟩
    clear h0
    rcases stable_or (rs := rs) (n := n) (p := p) (fun t => ⟨_, stepL_LR w hp t⟩) 9 with q | q
    · have p9 : ∀ t, InT rs p t p := fun t => by
        induction t with
        | zero => rfl
        | succ t ih => exact .inl ih
      induction h with
      | refl => exact p9 9
      | step _ hb ih => exact q _ _ ih hb
    · have := q _ (stepL_LR w hp 9)
      have := stepL_len (n := n) (rs := rs) (p := p) 9
      have := w.most
      omega
theorem reached_1_ok (w : WebOk n rs) {P : D} {f : List Nat} {lap : Sl} : x__law_reached_1 [.sh (eWeb n rs), .sh P, .ow false (eL f), lap, .no] = .ok (.fr (eL ((rs.filter fun r => decide (r.1 ∈ f)).map (·.2)))) [.sh (eWeb n rs), .sh P, .ow false (eL f), lap, .no] := by
  have e : eNs ((rs.filter fun r => decide (r.1 ∈ f)).map (·.2)) = (rs.filter fun r => decide (r.1 ∈ f)).map fun r => eN r.2 := by simp only [eNs, List.map_map, Function.comp_def]
  show _ = Res.ok (Rv.fr (D.lst (eNs _))) _
  rw [e]
  refine lc_filt (vs := [4]) (g := eRoad) (v := fun r => eN r.2) (p := fun r => decide (r.1 ∈ f)) (σ1 := [.sh (eWeb n rs), .sh P, .ow false (eL f), lap, .no]) (xs := rs) rfl rfl (fun r hr' => ?_) (Nat.le_trans w.few (by decide))
  obtain ⟨a, b⟩ := r
  have i := in_nat a f
  generalize eL f = F at i ⊢
  by_cases h : a ∈ f
  · rw [decide_eq_true h] at i
    simp [turn1, i, h, dIx, L2.atI, L2.ixN, wipeM, noOw, wipeS, runF, initS, mRet, mAndV, mOrV, bind_eq, pure_eq, mCall, mCons, mNil, mVar, rdv, callAt, lent, ownAt, just, isLn, tst, dTru, asV, mChain, tst2, dLe, dLt, dGe, dGt, dIs, dIsNot, isNon, handed, outD, retRv, mIf, mOr, mAnd, mNotT, mTru, mSeq, mIsi, dIsi, tyD, tyLe, mOps, ops, mInt, mBl, mNon, mStr, mB, mU, op1, op2, mSet, store, free, DL.settle, DL.settles, mNotV, b2, mRetN, mNx, mDrop, mSeqI, items, mT2, okRet, noL, noLi, noLs, mYes, gSet, gUnp, gsCons, gsNil, mTup, mLst, guardL]
  · rw [decide_eq_false h] at i
    simp [turn1, i, h, dIx, L2.atI, L2.ixN, wipeM, noOw, wipeS, runF, initS, mRet, mAndV, mOrV, bind_eq, pure_eq, mCall, mCons, mNil, mVar, rdv, callAt, lent, ownAt, just, isLn, tst, dTru, asV, mChain, tst2, dLe, dLt, dGe, dGt, dIs, dIsNot, isNon, handed, outD, retRv, mIf, mOr, mAnd, mNotT, mTru, mSeq, mIsi, dIsi, tyD, tyLe, mOps, ops, mInt, mBl, mNon, mStr, mB, mU, op1, op2, mSet, store, free, DL.settle, DL.settles, mNotV, b2, mRetN, mNx, mDrop, mSeqI, items, mT2, okRet, noL, noLi, noLs, mYes, gSet, gUnp, gsCons, gsNil, mTup, mLst, guardL]
theorem reached_turn {A B x G : D} {F L : List D} {lap : Sl} (k3 : lap = .no ∨ ∃ d, lap = .sh d) (h : x__law_reached_1 [.sh A, .sh B, .ow false (.lst F), .sh x, .no] = .ok (.fr (.lst L)) [.sh A, .sh B, .ow false (.lst F), .sh x, .no]) (hl : F.length + L.length ≤ lim) (e : dSortSet (.lst (F ++ L)) = some (.fr G)) :
    mTurn (gSet 3) (mSet 2 (mU dSortSet (mB dAdd (mVar 2) (x__law_reached_1)))) x [.sh A, .sh B, .ow false (.lst F), lap, .no] = .ok .nx [.sh A, .sh B, .ow false G, .sh x, .no] := by
  rcases k3 with rfl | ⟨d, rfl⟩ <;> simp [mTurn, h, hl, e, dAdd, runF, initS, mRet, mAndV, mOrV, bind_eq, pure_eq, mCall, mCons, mNil, mVar, rdv, callAt, lent, ownAt, just, isLn, tst, dTru, asV, mChain, tst2, dLe, dLt, dGe, dGt, dIs, dIsNot, isNon, handed, outD, retRv, mIf, mOr, mAnd, mNotT, mTru, mSeq, mIsi, dIsi, tyD, tyLe, mOps, ops, mInt, mBl, mNon, mStr, mB, mU, op1, op2, mSet, store, free, DL.settle, DL.settles, mNotV, b2, mRetN, mNx, mDrop, mSeqI, items, mT2, okRet, noL, noLi, noLs, mYes, gSet, gUnp, gsCons, gsNil, mTup, mLst, guardL]
theorem reached_2_ok (w : WebOk n rs) (hp : p < n) : x__law_reached_2 [.sh (eWeb n rs), .sh (eN p), .ow false (eL [p]), .no, .no] = .ok .nx [.sh (eWeb n rs), .sh (eN p), .ow false (eL (reachL n rs p)), cnt 9, .no] := by
  have key := forL_range (n := 9) (f := mTurn (gSet 3) (mSet 2 (mU dSortSet (mB dAdd (mVar 2) (x__law_reached_1))))) (S := fun t => [.sh (eWeb n rs), .sh (eN p), .ow false (eL (stepL n rs p t)), cnt t, .no]) fun t ht => by
    left
    have hx := reached_1_ok (P := eN p) (f := stepL n rs p t) (lap := .sh (eN t)) w
    have len := stepL_len (n := n) (rs := rs) (p := p) t
    have gl := grow_len (rs := rs) (stepL n rs p t)
    have := w.most
    have := w.few
    obtain ⟨m, e, h1, h2⟩ := sortSet_nat (grow rs (stepL n rs p t)) (by omega)
    have u : m = stepL n rs p (t + 1) := nat_uniq h1 (stepL_LR w hp (t + 1)).srt fun k => by rw [((stepL_LR w hp t).next w h1 h2).mem, (stepL_LR w hp (t + 1)).mem]
    rw [u] at e
    have lm : lim = 16777216 := rfl
    refine reached_turn (cnt_k t) hx ?_ ?_
    · unfold grow at gl
      rw [List.length_append] at gl
      rw [List.length_map, List.length_map]
      omega
    · rw [← e]
      unfold grow
      rw [show eL (stepL n rs p t ++ (rs.filter fun r => decide (r.1 ∈ stepL n rs p t)).map (·.2)) = .lst (eNs (stepL n rs p t) ++ eNs ((rs.filter fun r => decide (r.1 ∈ stepL n rs p t)).map (·.2))) by simp only [eL, eNs, List.map_append]]
  have it : ∀ σ, mRange1 (mInt 9) σ = .ok ((List.range 9).map eN) σ := fun σ => range1_ok (n := 9) (r := .v (.int 9)) rfl rfl (by decide)
  unfold x__law_reached_2 mFor
  rw [ok_bind (it _), ← stepL_end w hp, ← stepL_zero w hp]
  exact key
theorem law_reached_a {A B G : D} {lap : Sl} (h : x__law_reached_2 [.sh A, .sh B, .ow false (.lst [B]), .no, .no] = .ok .nx [.sh A, .sh B, .ow false G, lap, .no]) : F__law_reached [A, B] = .ok G true .non := by
  have one : (1 : Nat) ≤ lim := by decide
  simp [F__law_reached, m__law_reached, one, h, runF, initS, mRet, mAndV, mOrV, bind_eq, pure_eq, mCall, mCons, mNil, mVar, rdv, callAt, lent, ownAt, just, isLn, tst, dTru, asV, mChain, tst2, dLe, dLt, dGe, dGt, dIs, dIsNot, isNon, handed, outD, retRv, mIf, mOr, mAnd, mNotT, mTru, mSeq, mIsi, dIsi, tyD, tyLe, mOps, ops, mInt, mBl, mNon, mStr, mB, mU, op1, op2, mSet, store, free, DL.settle, DL.settles, mNotV, b2, mRetN, mNx, mDrop, mSeqI, items, mT2, okRet, noL, noLi, noLs, mYes, gSet, gUnp, gsCons, gsNil, mTup, mLst, guardL]
theorem law_reached_ok (w : WebOk n rs) (hp : p < n) : F__law_reached [eWeb n rs, eN p] = .ok (eL (reachL n rs p)) true .non := law_reached_a (reached_2_ok w hp)
end
end K01

set_option Elab.async false
set_option linter.all false
set_option maxRecDepth 100000
namespace K01
open DL PySem
theorem eqbs_nat : ∀ a b : List Nat, DL.eqbs (eNs a) (eNs b) = decide (a = b)
  | [], [] => rfl
  | [], b :: bs => rfl
  | a :: as, [] => rfl
  | a :: as, b :: bs => by
    show (D.eqb (eN a) (eN b) && DL.eqbs (eNs as) (eNs bs)) = _
    rw [nat_beq, eqbs_nat as bs]
    by_cases h : a = b <;> by_cases h2 : as = bs <;> simp [h, h2]
theorem eqb_row (a b : List Nat) : D.eqb (eRow a) (eRow b) = decide (a = b) := eqbs_nat a b
theorem row_plain {l : List Nat} (h : l.length ≤ 1000) : PlainD 2 (eRow l) := .inr ⟨eNs l, .inl rfl, by rw [List.length_map]; exact h, fun x hx => by
  obtain ⟨k, _, rfl⟩ := List.mem_map.mp hx
  exact .inl ⟨_, rfl⟩⟩
theorem rows_shaped {ls : List (List Nat)} (h : ls.length ≤ 1000) (h2 : ∀ l ∈ ls, l.length ≤ 1000) : SeqAt.shaped (D.lst (ls.map eRow)).toP = true := by
  refine plain_shaped (n := 3) (.inr ⟨ls.map eRow, .inr rfl, by rw [List.length_map]; exact h, fun x hx => ?_⟩) (by decide)
  obtain ⟨l, hl, rfl⟩ := List.mem_map.mp hx
  exact row_plain (h2 l hl)
theorem any_row (b : List Nat) : ∀ l : List (List Nat), ((l.map eRow).any fun z => D.eqb z (eRow b)) = decide (b ∈ l)
  | [] => rfl
  | a :: l => by
    show (D.eqb (eRow a) (eRow b) || (l.map eRow).any fun z => D.eqb z (eRow b)) = _
    rw [eqb_row, any_row b l]
    by_cases h : a = b
    · simp [h]
    · have h' : ¬ b = a := fun e => h e.symm
      simp [h, h']
theorem notin_row (b : List Nat) {l : List (List Nat)} (h : l.length ≤ 1000) (h2 : ∀ x ∈ l, x.length ≤ 1000) : dInC true (eRow b) (.lst (l.map eRow)) = some (decide (b ∉ l)) := by
  simp only [dInC]
  rw [if_pos ⟨eRow_shaped b, rows_shaped h h2⟩, any_row]
  by_cases h : b ∈ l <;> simp [h]
theorem alks_nat : ∀ a b : List Nat, alks (eNs a) (eNs b) = true
  | [], _ => by simp [alks]
  | _ :: _, [] => by simp [alks]
  | a :: as, b :: bs => by
    show (alk (eN a) (eN b) && alks (eNs as) (eNs bs)) = true
    rw [alks_nat as bs]
    rfl
theorem okS_row (ls : List (List Nat)) : okS (ls.map eRow) = true := by
  unfold okS
  rw [List.all_eq_true]
  intro x hx
  obtain ⟨a, _, rfl⟩ := List.mem_map.mp hx
  have : (ls.map eRow).all (fun y => alk (eRow a) y) = true := by
    rw [List.all_eq_true]
    intro y hy
    obtain ⟨b, _, rfl⟩ := List.mem_map.mp hy
    show alk (.tup (eNs a)) (.tup (eNs b)) = true
    simp [alk, alks_nat]
  rw [eRow_shaped]
  simp only [this]
  rfl
theorem sorted_row (ls : List (List Nat)) : dSorted [.lst (ls.map eRow)] = some (.fr (.lst (isort (ls.map eRow)))) := by
  simp only [dSorted]
  rw [if_pos (okS_row ls)]
/-! ### knots -/
noncomputable def mates (n : Nat) (rs : List (Nat × Nat)) (p : Nat) : List Nat := (reachL n rs p).filter fun q => decide (p ∈ reachL n rs q)
def Cyc (n : Nat) (rs : List (Nat × Nat)) (p : Nat) : Prop := ∃ k ∈ outs rs p, p ∈ reachL n rs (hd rs k)
open Classical in
noncomputable def kstep (n : Nat) (rs : List (Nat × Nat)) (f : List (List Nat)) (p : Nat) : List (List Nat) := if Cyc n rs p ∧ mates n rs p ∉ f then f ++ [mates n rs p] else f
noncomputable def ways (n : Nat) (rs : List (Nat × Nat)) (l : List Nat) : List (List Nat) := l.foldl (kstep n rs) []
theorem ways_snoc (n : Nat) (rs : List (Nat × Nat)) (l : List Nat) (p : Nat) : ways n rs (l ++ [p]) = kstep n rs (ways n rs l) p := by simp [ways]
theorem mates_len (n : Nat) (rs : List (Nat × Nat)) (p : Nat) : (mates n rs p).length ≤ n := Nat.le_trans (List.length_filter_le ..) (reachL_len n rs p)
theorem fold_len (n : Nat) (rs : List (Nat × Nat)) : ∀ (l : List Nat) (f : List (List Nat)), (∀ x ∈ f, x.length ≤ n) → (∀ x ∈ l.foldl (kstep n rs) f, x.length ≤ n) ∧ (l.foldl (kstep n rs) f).length ≤ f.length + l.length
  | [], f, h => ⟨h, Nat.le_refl _⟩
  | p :: l, f, h => by
    have k : (∀ x ∈ kstep n rs f p, x.length ≤ n) ∧ (kstep n rs f p).length ≤ f.length + 1 := by
      unfold kstep
      split
      · refine ⟨fun x hx => ?_, by simp only [List.length_append, List.length_singleton]; omega⟩
        rcases List.mem_append.mp hx with z | z
        · exact h x z
        · simp at z; subst z; exact mates_len n rs p
      · exact ⟨h, by omega⟩
    obtain ⟨h1, h2⟩ := fold_len n rs l _ k.1
    refine ⟨h1, ?_⟩
    simp only [List.foldl_cons, List.length_cons]
    omega
theorem ways_len (n : Nat) (rs : List (Nat × Nat)) (l : List Nat) : (∀ x ∈ ways n rs l, x.length ≤ n) ∧ (ways n rs l).length ≤ l.length := by
  have := fold_len n rs l [] (fun x h => by cases h)
  simpa [ways] using this
section
variable {n p : Nat} {rs : List (Nat × Nat)}
theorem hd_lt (w : WebOk n rs) {k : Nat} (h : k < rs.length) : hd rs k < n := by
  unfold hd
  rw [List.getD_eq_getElem?_getD, List.getElem?_eq_getElem h]
  exact (w.lt _ (List.getElem_mem h)).2
theorem seq_call2 {F : FD} {A B : D} {L : List D} {σ : Sg} {i j : Nat} {f : Bool} (h0 : σ[i]? = some (.sh A)) (h1 : σ[j]? = some (.sh B)) (e : F [A, B] = .ok (.lst L) f .non) : mSeqI (mCall 2 none F (mCons (mVar i) (mCons (mVar j) mNil))) σ = .ok L σ := by
  cases f <;> simp [h0, h1, e, runF, initS, mRet, mAndV, mOrV, bind_eq, pure_eq, mCall, mCons, mNil, mVar, rdv, callAt, lent, ownAt, just, isLn, tst, dTru, asV, mChain, tst2, dLe, dLt, dGe, dGt, dIs, dIsNot, isNon, handed, outD, retRv, mIf, mOr, mAnd, mNotT, mTru, mSeq, mIsi, dIsi, tyD, tyLe, mOps, ops, mInt, mBl, mNon, mStr, mB, mU, op1, op2, mSet, store, free, DL.settle, DL.settles, mNotV, b2, mRetN, mNx, mDrop, mSeqI, items, mT2, okRet, noL, noLi, noLs, mYes, gSet, gUnp, gsCons, gsNil, mTup, mLst, guardL]
open Classical in
theorem bls_any {α : Type} (q : α → Bool) (l : List α) : dAny [.lst (l.map fun x => .bl (q x))] = some (.v (.bl (l.any q))) := by
  have : ∀ l : List α, dBls (l.map fun x => D.bl (q x)) = some (l.map q) := by
    intro l
    induction l with
    | nil => rfl
    | cons a l ih => simp [dBls, ih]
  simp only [dAny]
  rw [this]
  simp [List.any_map, Function.comp_def]
theorem bls_all {α : Type} (q : α → Bool) (l : List α) : dAll [.lst (l.map fun x => .bl (q x))] = some (.v (.bl (l.all q))) := by
  have : ∀ l : List α, dBls (l.map fun x => D.bl (q x)) = some (l.map q) := by
    intro l
    induction l with
    | nil => rfl
    | cons a l ih => simp [dBls, ih]
  simp only [dAll]
  rw [this]
  simp [List.all_map, Function.comp_def]
/-! the loop's turn -/
theorem forL_relL {α : Type} {f : D → M Fl} {g : α → D} {I : List α → Sg → Prop} : ∀ (r done : List α) (σ : Sg), I done σ → (∀ (dn : List α) (x : α) (rr : List α), done ++ r = dn ++ x :: rr → ∀ σ, I dn σ → ∃ σ', (f (g x) σ = .ok .nx σ' ∨ f (g x) σ = .ok .ct σ') ∧ I (dn ++ [x]) σ') →
    ∃ σ', forL f (r.map g) σ = .ok .nx σ' ∧ I (done ++ r) σ'
  | [], done, σ, i, _ => ⟨σ, rfl, by rw [List.append_nil]; exact i⟩
  | x :: r, done, σ, i, h => by
    obtain ⟨σ1, e, i1⟩ := h done x r rfl σ i
    obtain ⟨σ2, e2, i2⟩ := forL_relL r (done ++ [x]) σ1 i1 fun dn y rr q => h dn y rr (by rw [← q]; simp)
    refine ⟨σ2, ?_, by rw [show done ++ x :: r = done ++ [x] ++ r by simp]; exact i2⟩
    show forL f (g x :: r.map g) σ = _
    unfold forL
    rcases e with e | e <;> rw [ok_bind e] <;> exact e2
theorem range_split {n : Nat} {dn rr : List Nat} {x : Nat} (e : List.range n = dn ++ x :: rr) : x = dn.length ∧ x < n ∧ dn = List.range x := by
  have e1 : (List.range n)[dn.length]? = some x := by rw [e]; simp
  rw [List.getElem?_eq_some_iff] at e1
  obtain ⟨h1, h2⟩ := e1
  rw [List.getElem_range] at h2
  rw [List.length_range] at h1
  refine ⟨h2.symm, by omega, ?_⟩
  have t : (List.range n).take dn.length = dn := by rw [e]; simp
  rw [← t, List.take_range, Nat.min_eq_left (by omega), h2]
end
end K01

set_option Elab.async false
set_option linter.all false
set_option maxRecDepth 100000
namespace K01
open DL PySem
def chainB (rs : List (Nat × Nat)) : List Nat → Bool
  | [] => true
  | [_] => true
  | a :: b :: r => decide (hd rs a = tl rs b) && chainB rs (b :: r)
theorem chain_zip (rs : List (Nat × Nat)) : ∀ l : List Nat, ((l.zip (l.drop 1)).all fun q => decide (hd rs q.1 = tl rs q.2)) = chainB rs l
  | [] => rfl
  | [_] => rfl
  | a :: b :: r => by
    have ih := chain_zip rs (b :: r)
    show (decide (hd rs a = tl rs b) && (((b :: r).zip ((b :: r).drop 1)).all fun q => decide (hd rs q.1 = tl rs q.2))) = _
    rw [ih]
    rfl
theorem chain_snoc (rs : List (Nat × Nat)) (x : Nat) : ∀ (m : List Nat) (y : Nat), chainB rs (m ++ [y] ++ [x]) = (chainB rs (m ++ [y]) && decide (hd rs y = tl rs x))
  | [], y => by
    show (decide (hd rs y = tl rs x) && true) = (true && decide (hd rs y = tl rs x))
    rw [Bool.and_true, Bool.true_and]
  | [a], y => by
    show (decide (hd rs a = tl rs y) && (decide (hd rs y = tl rs x) && true)) = ((decide (hd rs a = tl rs y) && true) && decide (hd rs y = tl rs x))
    rw [Bool.and_true, Bool.and_true]
  | a :: b :: m, y => by
    have ih := chain_snoc rs x (b :: m) y
    show (decide (hd rs a = tl rs b) && chainB rs (b :: m ++ [y] ++ [x])) = ((decide (hd rs a = tl rs b) && chainB rs (b :: m ++ [y])) && _)
    rw [ih, Bool.and_assoc]
def pathB (rs : List (Nat × Nat)) (p : Nat) (l : List Nat) : Bool := (l.all fun k => decide (k < rs.length)) && chainB rs l && match l with
  | [] => true
  | a :: _ => decide (tl rs a = p)
theorem outs_mem {rs : List (Nat × Nat)} {p k : Nat} : k ∈ outs rs p ↔ k < rs.length ∧ tl rs k = p := by
  rw [nums_mem]
  constructor
  · rintro ⟨h, e⟩
    refine ⟨h, ?_⟩
    unfold tl
    rw [List.getD_eq_getElem?_getD, List.getElem?_eq_getElem h]
    simpa using e
  · rintro ⟨h, e⟩
    refine ⟨h, ?_⟩
    unfold tl at e
    rw [List.getD_eq_getElem?_getD, List.getElem?_eq_getElem h] at e
    simpa using e
/-- roads put together, from a place -/
inductive Path (rs : List (Nat × Nat)) (p : Nat) : List Nat → Prop
  | nil : Path rs p []
  | snoc {l : List Nat} {k : Nat} : Path rs p l → k ∈ outs rs (lead rs p l) → Path rs p (l ++ [k])
theorem Path.lt {rs : List (Nat × Nat)} {p : Nat} {l : List Nat} (h : Path rs p l) : ∀ k ∈ l, k < rs.length := by
  induction h with
  | nil => intro k hk; cases hk
  | snoc _ hk ih =>
    intro j hj
    rcases List.mem_append.mp hj with z | z
    · exact ih j z
    · simp at z; subst z; exact (outs_mem.mp hk).1
theorem pathB_snoc {rs : List (Nat × Nat)} {p : Nat} {l : List Nat} (h : pathB rs p l = true) (x : Nat) : pathB rs p (l ++ [x]) = decide (x ∈ outs rs (lead rs p l)) := by
  rcases getN l with rfl | ⟨m, y, rfl⟩
  · rw [lead_nil]
    unfold pathB
    simp [chainB, outs_mem]
  · rw [lead_snoc]
    unfold pathB at h ⊢
    rw [chain_snoc, List.all_append]
    simp only [Bool.and_eq_true] at h
    obtain ⟨⟨h1, h2⟩, h3⟩ := h
    have e : (match m ++ [y] ++ [x] with | [] => true | a :: _ => decide (tl rs a = p)) = true := by
      cases m with
      | nil => exact h3
      | cons a m => exact h3
    rw [h1, h2, e]
    by_cases q1 : x < rs.length <;> by_cases q2 : tl rs x = hd rs y
    · simp [outs_mem, q1, q2]
    · have q3 : ¬ hd rs y = tl rs x := fun z => q2 z.symm
      simp [outs_mem, q1, q2, q3]
    · simp [outs_mem, q1, q2]
    · simp [outs_mem, q1, q2]
theorem Path.b {rs : List (Nat × Nat)} {p : Nat} {l : List Nat} (h : Path rs p l) : pathB rs p l = true := by
  induction h with
  | nil => rfl
  | snoc _ hk ih => rw [pathB_snoc ih]; exact decide_eq_true hk
theorem pathB_other {rs : List (Nat × Nat)} {p q : Nat} {l : List Nat} (h : pathB rs p l = true) : pathB rs q l = (decide (q = p) || l.isEmpty) := by
  unfold pathB at h ⊢
  cases l with
  | nil => simp [chainB]
  | cons a r =>
    simp only [Bool.and_eq_true, decide_eq_true_eq] at h
    obtain ⟨⟨h1, h2⟩, h3⟩ := h
    rw [h1, h2]
    show (true && true && decide (tl rs a = q)) = (decide (q = p) || false)
    rw [h3]
    by_cases z : p = q
    · simp [z]
    · have z' : ¬ q = p := fun e => z e.symm
      simp [z, z']
section
variable {n p : Nat} {rs : List (Nat × Nat)}
theorem roads_1_ok (w : WebOk n rs) {l : List Nat} (hl : l.length ≤ 1000) : x_are_roads_1 [.sh (eWeb n rs), .sh (eRow l), .no, .no, .no] = .ok (.fr (.lst (l.map fun k => .bl (decide (k < rs.length))))) [.sh (eWeb n rs), .sh (eRow l), .no, .no, .no] := by
  have lm : lim = 16777216 := rfl
  refine lc_each (vs := [4]) (g := eN) (v := fun k => .bl (decide (k < rs.length))) (xs := l) (σ1 := [.sh (eWeb n rs), .sh (eRow l), .no, .no, .no]) rfl rfl (fun k hk => ?_) (by omega)
  have a : dIx (eWeb n rs) (.int 1) = some (.v (eRoads rs)) := rfl
  have b : dLen [eRoads rs] = some (.v (.int rs.length)) := by simp [dLen]
  have c := is_within_int k 0 (rs.length - 1)
  have e : (decide ((0 : Int) ≤ k) && decide ((k : Int) ≤ rs.length - 1)) = decide (k < rs.length) := by
    by_cases h : k < rs.length
    · have h1 : (k : Int) ≤ rs.length - 1 := by omega
      have h2 : (0 : Int) ≤ k := by omega
      simp [h, h1, h2]
    · have h1 : ¬ (k : Int) ≤ rs.length - 1 := by omega
      simp [h, h1]
  rw [e] at c
  generalize decide (k < rs.length) = z at c ⊢
  generalize eRoads rs = R at a b
  generalize eWeb n rs = W at a ⊢
  simp [turn1, a, b, c, dSub, wipeM, noOw, wipeS, runF, initS, mRet, mAndV, mOrV, bind_eq, pure_eq, mCall, mCons, mNil, mVar, rdv, callAt, lent, ownAt, just, isLn, tst, dTru, asV, mChain, tst2, dLe, dLt, dGe, dGt, dIs, dIsNot, isNon, handed, outD, retRv, mIf, mOr, mAnd, mNotT, mTru, mSeq, mIsi, dIsi, tyD, tyLe, mOps, ops, mInt, mBl, mNon, mStr, mB, mU, op1, op2, mSet, store, free, DL.settle, DL.settles, mNotV, b2, mRetN, mNx, mDrop, mSeqI, items, mT2, okRet, noL, noLi, noLs, mYes, gSet, gUnp, gsCons, gsNil, mTup, mLst, guardL]
theorem cut_one (xs : List D) : cutD xs (some 1) none = xs.drop 1 := by
  have e : HT.sIx xs.length 0 (some 1) = min 1 xs.length := HT.sIx_nat xs.length 0 1
  unfold cutD
  rw [e, HT.sIx_none]
  cases xs with
  | nil => rfl
  | cons x r =>
    have m : min 1 (x :: r).length = 1 := by simp only [List.length_cons]; omega
    rw [m]
    exact List.take_of_length_le (by simp)
abbrev ePair (q : Nat × Nat) : D := .tup [eN q.1, eN q.2]
theorem zip_pairs (a b : List Nat) : ((eNs a).zip (eNs b)).map (fun p => D.tup [p.1, p.2]) = (a.zip b).map ePair := by
  simp only [eNs, List.zip_map', List.zip_map, List.map_map, Function.comp_def]
  rfl
theorem roads_2_it {A : D} {L M : List D} {Z : List D} (e : cutD L (some 1) none = M) (z : (L.zip M).map (fun p => D.tup [p.1, p.2]) = Z) : mZip (mVar 1) (mSlice (mVar 1) (mOpt (mInt 1)) (mNone)) [.sh A, .sh (.tup L), .no, .no, .no] = .ok Z [.sh A, .sh (.tup L), .no, .no, .no] := by
  subst e
  subst z
  simp [mZip, mSlice, mOpt, mNone, part, dSl, asK, runF, initS, mRet, mAndV, mOrV, bind_eq, pure_eq, mCall, mCons, mNil, mVar, rdv, callAt, lent, ownAt, just, isLn, tst, dTru, asV, mChain, tst2, dLe, dLt, dGe, dGt, dIs, dIsNot, isNon, handed, outD, retRv, mIf, mOr, mAnd, mNotT, mTru, mSeq, mIsi, dIsi, tyD, tyLe, mOps, ops, mInt, mBl, mNon, mStr, mB, mU, op1, op2, mSet, store, free, DL.settle, DL.settles, mNotV, b2, mRetN, mNx, mDrop, mSeqI, items, mT2, okRet, noL, noLi, noLs, mYes, gSet, gUnp, gsCons, gsNil, mTup, mLst, guardL]
theorem roads_2_ok (w : WebOk n rs) {l : List Nat} (hl : l.length ≤ 1000) (hk : ∀ k ∈ l, k < rs.length) : x_are_roads_2 [.sh (eWeb n rs), .sh (eRow l), .no, .no, .no] = .ok (.fr (.lst ((l.zip (l.drop 1)).map fun q => .bl (decide (hd rs q.1 = tl rs q.2))))) [.sh (eWeb n rs), .sh (eRow l), .no, .no, .no] := by
  have lm : lim = 16777216 := rfl
  refine lc_each (vs := [2, 3]) (g := ePair) (v := fun q => .bl (decide (hd rs q.1 = tl rs q.2))) (xs := l.zip (l.drop 1)) (σ1 := [.sh (eWeb n rs), .sh (eRow l), .no, .no, .no]) (roads_2_it (cut_one _) (by rw [show (eNs l).drop 1 = eNs (l.drop 1) by simp [eNs, List.map_drop]]; exact zip_pairs _ _)) rfl (fun q hq => ?_) (by rw [List.length_zip]; omega)
  obtain ⟨a, b⟩ := q
  have ha : a ∈ l := (List.of_mem_zip hq).1
  have hb : b ∈ l := List.mem_of_mem_drop (List.of_mem_zip hq).2
  have i0 : dIx (eWeb n rs) (.int 1) = some (.v (eRoads rs)) := rfl
  have i1 := road_at (hk a ha)
  have i2 := road_at (hk b hb)
  have j1 : dIx (.tup [eN (tl rs a), eN (hd rs a)]) (.int 1) = some (.v (eN (hd rs a))) := rfl
  have j2 : dIx (.tup [eN (tl rs b), eN (hd rs b)]) (.int 0) = some (.v (eN (tl rs b))) := rfl
  have e := nat_eqC (hd rs a) (tl rs b)
  generalize D.tup [eN (tl rs a), eN (hd rs a)] = X at i1 j1
  generalize D.tup [eN (tl rs b), eN (hd rs b)] = Y at i2 j2
  generalize decide (hd rs a = tl rs b) = z at e ⊢
  generalize eN (hd rs a) = u at j1 e
  generalize eN (tl rs b) = v at j2 e
  generalize eRoads rs = R at i0 i1 i2
  generalize eWeb n rs = W at i0 ⊢
  simp [turn1, i0, i1, i2, j1, j2, e, wipeM, noOw, wipeS, runF, initS, mRet, mAndV, mOrV, bind_eq, pure_eq, mCall, mCons, mNil, mVar, rdv, callAt, lent, ownAt, just, isLn, tst, dTru, asV, mChain, tst2, dLe, dLt, dGe, dGt, dIs, dIsNot, isNon, handed, outD, retRv, mIf, mOr, mAnd, mNotT, mTru, mSeq, mIsi, dIsi, tyD, tyLe, mOps, ops, mInt, mBl, mNon, mStr, mB, mU, op1, op2, mSet, store, free, DL.settle, DL.settles, mNotV, b2, mRetN, mNx, mDrop, mSeqI, items, mT2, okRet, noL, noLi, noLs, mYes, gSet, gUnp, gsCons, gsNil, mTup, mLst, guardL]
theorem are_roads_a {A : D} {L Q : List D} (h : x_are_roads_1 [.sh A, .sh (.tup L), .no, .no, .no] = .ok (.fr (.lst Q)) [.sh A, .sh (.tup L), .no, .no, .no]) (e : dAll [.lst Q] = some (.v (.bl false))) : F_are_roads [A, .tup L] = .ok (.bl false) false .non := by
  simp [F_are_roads, m_are_roads, h, e, runF, initS, mRet, mAndV, mOrV, bind_eq, pure_eq, mCall, mCons, mNil, mVar, rdv, callAt, lent, ownAt, just, isLn, tst, dTru, asV, mChain, tst2, dLe, dLt, dGe, dGt, dIs, dIsNot, isNon, handed, outD, retRv, mIf, mOr, mAnd, mNotT, mTru, mSeq, mIsi, dIsi, tyD, tyLe, mOps, ops, mInt, mBl, mNon, mStr, mB, mU, op1, op2, mSet, store, free, DL.settle, DL.settles, mNotV, b2, mRetN, mNx, mDrop, mSeqI, items, mT2, okRet, noL, noLi, noLs, mYes, gSet, gUnp, gsCons, gsNil, mTup, mLst, guardL]
theorem are_roads_b {A : D} {L Q Q2 : List D} {k : Bool} (h : x_are_roads_1 [.sh A, .sh (.tup L), .no, .no, .no] = .ok (.fr (.lst Q)) [.sh A, .sh (.tup L), .no, .no, .no]) (e : dAll [.lst Q] = some (.v (.bl true)))
    (h2 : x_are_roads_2 [.sh A, .sh (.tup L), .no, .no, .no] = .ok (.fr (.lst Q2)) [.sh A, .sh (.tup L), .no, .no, .no]) (e2 : dAll [.lst Q2] = some (.v (.bl k))) : F_are_roads [A, .tup L] = .ok (.bl k) false .non := by
  simp [F_are_roads, m_are_roads, h, e, h2, e2, runF, initS, mRet, mAndV, mOrV, bind_eq, pure_eq, mCall, mCons, mNil, mVar, rdv, callAt, lent, ownAt, just, isLn, tst, dTru, asV, mChain, tst2, dLe, dLt, dGe, dGt, dIs, dIsNot, isNon, handed, outD, retRv, mIf, mOr, mAnd, mNotT, mTru, mSeq, mIsi, dIsi, tyD, tyLe, mOps, ops, mInt, mBl, mNon, mStr, mB, mU, op1, op2, mSet, store, free, DL.settle, DL.settles, mNotV, b2, mRetN, mNx, mDrop, mSeqI, items, mT2, okRet, noL, noLi, noLs, mYes, gSet, gUnp, gsCons, gsNil, mTup, mLst, guardL]
theorem are_roads_ok (w : WebOk n rs) {l : List Nat} (hl : l.length ≤ 1000) : F_are_roads [eWeb n rs, eRow l] = .ok (.bl ((l.all fun k => decide (k < rs.length)) && chainB rs l)) false .non := by
  have c1 := roads_1_ok w hl
  have e1 := bls_all (fun k => decide (k < rs.length)) l
  cases h : l.all fun k => decide (k < rs.length) with
  | false =>
    rw [h] at e1
    exact are_roads_a c1 e1
  | true =>
    rw [h] at e1
    have c2 := roads_2_ok w hl fun k hk => by simpa using (List.all_eq_true.mp h) k hk
    have e2 := bls_all (fun q : Nat × Nat => decide (hd rs q.1 = tl rs q.2)) (l.zip (l.drop 1))
    rw [chain_zip] at e2
    exact are_roads_b c1 e1 c2 e2
/-! ### is_path -/
theorem long2 {x y : D} : F_is_long [.tup [x, y], .int 2] = .ok (.bl true) false .non := is_long_tup
theorem within_place (hp : p < n) : F_is_within [eN p, .int 0, .int ((n : Int) - 1)] = .ok (.bl true) false .non := by
  rw [is_within_int]
  have h1 : (0 : Int) ≤ p := by omega
  have h2 : (p : Int) ≤ n - 1 := by omega
  simp [h1, h2]
end
end K01

set_option Elab.async false
set_option linter.all false
set_option maxRecDepth 100000
namespace K01
open DL PySem
/-- the source of draws, at most c of them drawn by mixing -/
def Box (c : Nat) (t : D) : Prop := ∃ a0 a1 a2 : Int, t = .lst [.int a0, .int a1, .int a2] ∧ 0 ≤ a2 ∧ a2 ≤ c
theorem Box.up {c c' : Nat} {t : D} (h : Box c t) (hc : c ≤ c') : Box c' t := by
  obtain ⟨a0, a1, a2, e, h1, h2⟩ := h
  exact ⟨a0, a1, a2, e, h1, by omega⟩
theorem mul_r {i j : Int} (h1 : -18446744073709551616 < j) (h2 : j < 18446744073709551616) : dMul (.int i) (.int j) = some (.v (.int (i * j))) := by
  simp only [dMul]
  exact if_pos (.inr ⟨h1, h2⟩)
theorem mul_l {i j : Int} (h1 : -18446744073709551616 < i) (h2 : i < 18446744073709551616) : dMul (.int i) (.int j) = some (.v (.int (i * j))) := by
  simp only [dMul]
  exact if_pos (.inl ⟨h1, h2⟩)
theorem mod_p {i j : Int} (h : 0 < j) : dMod (.int i) (.int j) = some (.v (.int (i % j))) := by
  simp only [dMod]
  exact if_pos h
theorem div_p {i j : Int} (h : 0 < j) (h2 : j < 1073741824) : dDiv (.int i) (.int j) = some (.v (.int (i / j))) := by
  simp only [dDiv]
  exact if_pos ⟨h, h2⟩
theorem take_a {a0 a1 a2 b : Int} (h : 0 < a0) (hb : 0 < b) (hb2 : b < 1073741824) : F__law_take [.lst [.int a0, .int a1, .int a2], .int b] = .ok (.int (a0 % b)) false (.lst [.int (a0 / b), .int a1, .int a2]) := by
  have m := mod_p (i := a0) hb
  have d := div_p (i := a0) hb hb2
  simp [F__law_take, m__law_take, dIx, L2.atI, L2.ixN, h, m, d, dInt, mSetAt, ownL, wrL, asK, runF, initS, mRet, mAndV, mOrV, bind_eq, pure_eq, mCall, mCons, mNil, mVar, rdv, callAt, lent, ownAt, just, isLn, tst, dTru, asV, mChain, tst2, dLe, dLt, dGe, dGt, dIs, dIsNot, isNon, handed, outD, retRv, mIf, mOr, mAnd, mNotT, mTru, mSeq, mIsi, dIsi, tyD, tyLe, mOps, ops, mInt, mBl, mNon, mStr, mB, mU, op1, op2, mSet, store, free, DL.settle, DL.settles, mNotV, b2, mRetN, mNx, mDrop, mSeqI, items, mT2, okRet, noL, noLi, noLs, mYes, gSet, gUnp, gsCons, gsNil, mTup, mLst, guardL]
theorem take_b {a0 a1 a2 b x1 x2 x3 x4 x5 x6 x7 x8 x9 x10 x11 : Int} (h : ¬ 0 < a0) (e1 : a2 + 1 = x1) (e2 : dMul (.int 48271) (.int x1) = some (.v (.int x2))) (e3 : dMul (.int (a1 + x2)) (.int (39373 + x1)) = some (.v (.int x3)))
    (e4 : dMod (.int x3) (.int 2147483647) = some (.v (.int x4))) (e5 : dMod (.int x4) (.int 40009) = some (.v (.int x5))) (e6 : dDiv (.int a1) (.int 1000003) = some (.v (.int x6))) (e7 : dMul (.int (x4 + x1 + x6)) (.int (x5 + 7)) = some (.v (.int x7)))
    (e8 : dMod (.int x7) (.int 2147483629) = some (.v (.int x8))) (e9 : dMul (.int x8) (.int 48271) = some (.v (.int x9))) (e10 : dMod (.int (x9 + x4)) (.int 2147483587) = some (.v (.int x10))) (e11 : dDiv (.int x10) (.int 64) = some (.v (.int x11))) {r : Int} (e12 : dMod (.int x11) (.int b) = some (.v (.int r))) :
    F__law_take [.lst [.int a0, .int a1, .int a2], .int b] = .ok (.int r) false (.lst [.int a0, .int a1, .int x1]) := by
  subst e1
  simp [F__law_take, m__law_take, dIx, L2.atI, L2.ixN, h, e2, e3, e4, e5, e6, e7, e8, e9, e10, e11, e12, dAdd, dInt, mSetAt, ownL, wrL, asK, runF, initS, mRet, mAndV, mOrV, bind_eq, pure_eq, mCall, mCons, mNil, mVar, rdv, callAt, lent, ownAt, just, isLn, tst, dTru, asV, mChain, tst2, dLe, dLt, dGe, dGt, dIs, dIsNot, isNon, handed, outD, retRv, mIf, mOr, mAnd, mNotT, mTru, mSeq, mIsi, dIsi, tyD, tyLe, mOps, ops, mInt, mBl, mNon, mStr, mB, mU, op1, op2, mSet, store, free, DL.settle, DL.settles, mNotV, b2, mRetN, mNx, mDrop, mSeqI, items, mT2, okRet, noL, noLi, noLs, mYes, gSet, gUnp, gsCons, gsNil, mTup, mLst, guardL]
theorem take_ok {c b : Nat} {t : D} (B : Box c t) (hc : c ≤ 1000000) (hb : 0 < b) (hb2 : b ≤ 1000000) : ∃ v t', v < b ∧ Box (c + 1) t' ∧ F__law_take [t, eN b] = .ok (eN v) false t' := by
  obtain ⟨a0, a1, a2, rfl, h1, h2⟩ := B
  have hb' : (0 : Int) < b := by omega
  by_cases h : 0 < a0
  · have p : 0 ≤ a0 % (b : Int) := Int.emod_nonneg _ (by omega)
    have q : a0 % (b : Int) < b := Int.emod_lt_of_pos _ hb'
    refine ⟨(a0 % (b : Int)).toNat, .lst [.int (a0 / b), .int a1, .int a2], by omega, ⟨_, _, _, rfl, h1, by omega⟩, ?_⟩
    rw [show eN (a0 % (b : Int)).toNat = .int (a0 % (b : Int)) by rw [eN, Int.toNat_of_nonneg p]]
    exact take_a h hb' (by omega)
  · have e4 := mod_p (i := (a1 + 48271 * (a2 + 1)) * (39373 + (a2 + 1))) (j := 2147483647) (by omega)
    have e5 := mod_p (i := (a1 + 48271 * (a2 + 1)) * (39373 + (a2 + 1)) % 2147483647) (j := 40009) (by omega)
    have w0 := Int.emod_nonneg ((a1 + 48271 * (a2 + 1)) * (39373 + (a2 + 1)) % 2147483647) (show (40009 : Int) ≠ 0 by omega)
    have w1 := Int.emod_lt_of_pos ((a1 + 48271 * (a2 + 1)) * (39373 + (a2 + 1)) % 2147483647) (show (0 : Int) < 40009 by omega)
    generalize (a1 + 48271 * (a2 + 1)) * (39373 + (a2 + 1)) % 2147483647 = x4 at e4 e5 w0 w1
    have e12 := fun i => mod_p (i := i) hb'
    have T := take_b (a0 := a0) (a1 := a1) (a2 := a2) (b := b) h rfl (mul_l (by omega) (by omega)) (mul_r (by omega) (by omega)) e4 e5 (div_p (by omega) (by omega)) (mul_r (by omega) (by omega)) (mod_p (by omega)) (mul_r (by omega) (by omega)) (mod_p (by omega)) (div_p (by omega) (by omega)) (e12 _)
    generalize hx : (((x4 + (a2 + 1) + a1 / 1000003) * (x4 % 40009 + 7) % 2147483629 * 48271 + x4) % 2147483587 / 64) = x at T
    have p : 0 ≤ x % (b : Int) := Int.emod_nonneg _ (by omega)
    have q : x % (b : Int) < b := Int.emod_lt_of_pos _ hb'
    refine ⟨(x % (b : Int)).toNat, .lst [.int a0, .int a1, .int (a2 + 1)], by omega, ⟨_, _, _, rfl, by omega, by omega⟩, ?_⟩
    rw [show eN (x % (b : Int)).toNat = .int (x % (b : Int)) by rw [eN, Int.toNat_of_nonneg p]]
    exact T
end K01

set_option Elab.async false
set_option linter.all false
set_option maxRecDepth 100000
namespace K01
open DL PySem
theorem law_of_a {t t' : D} {xs : List D} {v : Nat} {x : D} (h : F__law_take [t, eN xs.length] = .ok (eN v) false t') (i : dIx (.lst xs) (eN v) = some (.v x)) : F__law_of [t, .lst xs] = .ok x false t' := by
  have l : dLen [.lst xs] = some (.v (eN xs.length)) := rfl
  generalize eN xs.length = N at h l
  generalize D.lst xs = X at l i ⊢
  simp [F__law_of, m__law_of, l, h, i, runF, initS, mRet, mAndV, mOrV, bind_eq, pure_eq, mCall, mCons, mNil, mVar, rdv, callAt, lent, ownAt, just, isLn, tst, dTru, asV, mChain, tst2, dLe, dLt, dGe, dGt, dIs, dIsNot, isNon, handed, outD, retRv, mIf, mOr, mAnd, mNotT, mTru, mSeq, mIsi, dIsi, tyD, tyLe, mOps, ops, mInt, mBl, mNon, mStr, mB, mU, op1, op2, mSet, store, free, DL.settle, DL.settles, mNotV, b2, mRetN, mNx, mDrop, mSeqI, items, mT2, okRet, noL, noLi, noLs, mYes, gSet, gUnp, gsCons, gsNil, mTup, mLst, guardL]
theorem law_of_ok {c : Nat} {t : D} (B : Box c t) (hc : c ≤ 1000000) {xs : List D} (h0 : 0 < xs.length) (h1 : xs.length ≤ 1000000) : ∃ x ∈ xs, ∃ t', Box (c + 1) t' ∧ F__law_of [t, .lst xs] = .ok x false t' := by
  obtain ⟨v, t', hv, B', e⟩ := take_ok B hc h0 h1
  exact ⟨xs[v], List.getElem_mem hv, t', B', law_of_a e (ix_lst hv)⟩
/-! ### lists for tuples -/
mutual
def csz : D → Nat
  | .tup xs => 1 + cszs xs
  | _ => 0
def cszs : List D → Nat
  | [] => 0
  | d :: r => csz d + cszs r
end
/-- ints in tuples, no deeper than n -/
def PlainT : Nat → D → Prop
  | 0, _ => False
  | n + 1, d => (∃ i, d = .int i) ∨ (∃ xs, d = .tup xs ∧ xs.length ≤ 1000 ∧ ∀ x ∈ xs, PlainT n x)
def Mx (n : Nat) (R : FD) : Prop := ∀ (d : D), PlainT n d → ∀ (c : Nat) (t : D), Box c t → c + csz d ≤ 1000000 → ∃ y f t', R [t, d] = .ok y f t' ∧ Box (c + csz d) t' ∧ PlainD n y ∧ tupD y = d
theorem mix_list {n : Nat} {R : FD} (h : Mx n R) {M : D} : ∀ (xs : List D), (∀ x ∈ xs, PlainT n x) → ∀ (c : Nat) (t : D), Box c t → c + cszs xs ≤ 1000000 → ∃ ys t', lcL (turn1 [3] (gSet 3) (mYes) (mCall 2 (some 0) R (mCons (mVar 0) (mCons (mVar 3) (mNil))))) xs [.ow true t, .sh M, .no, .no] = .ok ys [.ow true t', .sh M, .no, .no] ∧ Box (c + cszs xs) t' ∧ ys.length = xs.length ∧ (∀ y ∈ ys, PlainD n y) ∧ tupDs ys = xs
  | [], _, c, t, B, _ => ⟨[], t, rfl, B, rfl, fun y h => (by cases h), rfl⟩
  | x :: xs, hx, c, t, B, hc => by
    have hc' : c + (csz x + cszs xs) ≤ 1000000 := hc
    obtain ⟨y, f, t1, e1, B1, p1, q1⟩ := h x (hx x List.mem_cons_self) c t B (by omega)
    obtain ⟨ys, t2, e2, B2, l2, p2, q2⟩ := mix_list h xs (fun z hz => hx z (List.mem_cons_of_mem _ hz)) (c + csz x) t1 B1 (by omega)
    refine ⟨y :: ys, t2, ?_, B2.up (by simp only [cszs]; omega), by simp [l2], fun z hz => ?_, by simp [tupDs, q1, q2]⟩
    · have s : turn1 [3] (gSet 3) (mYes) (mCall 2 (some 0) R (mCons (mVar 0) (mCons (mVar 3) (mNil)))) x [.ow true t, .sh M, .no, .no] = .ok [y] [.ow true t1, .sh M, .no, .no] := by
        cases f <;> simp [turn1, e1, wipeM, noOw, wipeS, runF, initS, mRet, mAndV, mOrV, bind_eq, pure_eq, mCall, mCons, mNil, mVar, rdv, callAt, lent, ownAt, just, isLn, tst, dTru, asV, mChain, tst2, dLe, dLt, dGe, dGt, dIs, dIsNot, isNon, handed, outD, retRv, mIf, mOr, mAnd, mNotT, mTru, mSeq, mIsi, dIsi, tyD, tyLe, mOps, ops, mInt, mBl, mNon, mStr, mB, mU, op1, op2, mSet, store, free, DL.settle, DL.settles, mNotV, b2, mRetN, mNx, mDrop, mSeqI, items, mT2, okRet, noL, noLi, noLs, mYes, gSet, gUnp, gsCons, gsNil, mTup, mLst, guardL]
      show lcL _ (x :: xs) _ = _
      unfold lcL
      rw [ok_bind s, ok_bind e2]
      rfl
    · rcases List.mem_cons.mp hz with q | q
      · rw [q]; exact p1
      · exact p2 z q
theorem mixed_int {R : FD} {t : D} {i : Int} : runF 4 (some 0) (m__law_mixed R) [t, .int i] = .ok (.int i) false t := by
  simp [m__law_mixed, runF, initS, mRet, mAndV, mOrV, bind_eq, pure_eq, mCall, mCons, mNil, mVar, rdv, callAt, lent, ownAt, just, isLn, tst, dTru, asV, mChain, tst2, dLe, dLt, dGe, dGt, dIs, dIsNot, isNon, handed, outD, retRv, mIf, mOr, mAnd, mNotT, mTru, mSeq, mIsi, dIsi, tyD, tyLe, mOps, ops, mInt, mBl, mNon, mStr, mB, mU, op1, op2, mSet, store, free, DL.settle, DL.settles, mNotV, b2, mRetN, mNx, mDrop, mSeqI, items, mT2, okRet, noL, noLi, noLs, mYes, gSet, gUnp, gsCons, gsNil, mTup, mLst, guardL]
theorem mixed_tup {R : FD} {t t1 t2 : D} {xs ys : List D} {v : Nat} (h : lcL (turn1 [3] (gSet 3) (mYes) (mCall 2 (some 0) R (mCons (mVar 0) (mCons (mVar 3) (mNil))))) xs [.ow true t, .sh (.tup xs), .no, .no] = .ok ys [.ow true t1, .sh (.tup xs), .no, .no]) (hl : ys.length ≤ lim)
    (k : F__law_take [t1, .int 2] = .ok (eN v) false t2) : runF 4 (some 0) (m__law_mixed R) [t, .tup xs] = .ok (if v = 0 then .lst ys else .tup ys) (decide (v = 0)) t2 := by
  have c : x__law_mixed_1 R [.ow true t, .sh (.tup xs), .no, .no] = .ok (.fr (.lst ys)) [.ow true t1, .sh (.tup xs), .no, .no] := by
    unfold x__law_mixed_1 mLc
    rw [ok_bind (show mSeqI (mVar 1) [.ow true t, .sh (.tup xs), .no, .no] = .ok xs [.ow true t, .sh (.tup xs), .no, .no] from rfl)]
    unfold lcK
    rw [if_pos (show noOw [.ow true t, .sh (.tup xs), .no, .no] [3] = true from rfl)]
    unfold noX
    rw [show wipeS [Sl.ow true t, .sh (.tup xs), .no, .no] [3] = [Sl.ow true t, .sh (.tup xs), .no, .no] from rfl, ok_bind h]
    unfold lcEnd
    rw [if_pos hl]
    rfl
  have z : dEqC (eN v) (.int 0) = some (decide (v = 0)) := nat_eqC v 0
  generalize eN v = V at k z
  by_cases hv : v = 0
  · rw [decide_eq_true hv] at z
    rw [if_pos hv, decide_eq_true hv]
    simp [m__law_mixed, c, k, z, runF, initS, mRet, mAndV, mOrV, bind_eq, pure_eq, mCall, mCons, mNil, mVar, rdv, callAt, lent, ownAt, just, isLn, tst, dTru, asV, mChain, tst2, dLe, dLt, dGe, dGt, dIs, dIsNot, isNon, handed, outD, retRv, mIf, mOr, mAnd, mNotT, mTru, mSeq, mIsi, dIsi, tyD, tyLe, mOps, ops, mInt, mBl, mNon, mStr, mB, mU, op1, op2, mSet, store, free, DL.settle, DL.settles, mNotV, b2, mRetN, mNx, mDrop, mSeqI, items, mT2, okRet, noL, noLi, noLs, mYes, gSet, gUnp, gsCons, gsNil, mTup, mLst, guardL]
  · rw [decide_eq_false hv] at z
    rw [if_neg hv, decide_eq_false hv]
    simp [m__law_mixed, c, k, z, dTupleOf, runF, initS, mRet, mAndV, mOrV, bind_eq, pure_eq, mCall, mCons, mNil, mVar, rdv, callAt, lent, ownAt, just, isLn, tst, dTru, asV, mChain, tst2, dLe, dLt, dGe, dGt, dIs, dIsNot, isNon, handed, outD, retRv, mIf, mOr, mAnd, mNotT, mTru, mSeq, mIsi, dIsi, tyD, tyLe, mOps, ops, mInt, mBl, mNon, mStr, mB, mU, op1, op2, mSet, store, free, DL.settle, DL.settles, mNotV, b2, mRetN, mNx, mDrop, mSeqI, items, mT2, okRet, noL, noLi, noLs, mYes, gSet, gUnp, gsCons, gsNil, mTup, mLst, guardL]
theorem mixed_ok : ∀ n : Nat, Mx n (F__law_mixed n)
  | 0 => fun d h => h.elim
  | n + 1 => by
    intro d h c t B hc
    rcases h with ⟨i, rfl⟩ | ⟨xs, rfl, hl, hx⟩
    · exact ⟨.int i, false, t, mixed_int, B, .inl ⟨i, rfl⟩, rfl⟩
    · have hc' : c + (1 + cszs xs) ≤ 1000000 := hc
      obtain ⟨ys, t1, e, B1, l, p, q⟩ := mix_list (M := .tup xs) (mixed_ok n) xs hx c t B (by omega)
      obtain ⟨v, t2, hv, B2, k⟩ := take_ok (b := 2) B1 (by omega) (by omega) (by omega)
      have lm : lim = 16777216 := rfl
      refine ⟨_, _, t2, mixed_tup e (by omega) k, B2.up (by simp only [csz]; omega), ?_, ?_⟩
      · split
        · exact .inr ⟨ys, .inr rfl, by omega, p⟩
        · exact .inr ⟨ys, .inl rfl, by omega, p⟩
      · split
        · show D.tup (tupDs ys) = _
          rw [q]
        · show D.tup (tupDs ys) = _
          rw [q]
theorem cszs_road : ∀ rs : List (Nat × Nat), cszs (rs.map eRoad) = rs.length
  | [] => rfl
  | r :: rs => by
    show csz (eRoad r) + cszs (rs.map eRoad) = _
    rw [cszs_road rs]
    simp only [csz, cszs, List.length_cons]
    omega
theorem csz_web (n : Nat) (rs : List (Nat × Nat)) : csz (eWeb n rs) = rs.length + 2 := by
  show 1 + (0 + ((1 + cszs (rs.map eRoad)) + 0)) = _
  rw [cszs_road]
  omega
theorem cszs_int : ∀ l : List Nat, cszs (eNs l) = 0
  | [] => rfl
  | k :: l => by
    show 0 + cszs (eNs l) = 0
    rw [cszs_int l]
theorem web_plainT {n : Nat} {rs : List (Nat × Nat)} (w : WebOk n rs) : PlainT 12 (eWeb n rs) := by
  refine .inr ⟨_, rfl, show 2 ≤ 1000 by decide, fun x hx => ?_⟩
  simp only [List.mem_cons, List.not_mem_nil, or_false] at hx
  rcases hx with rfl | rfl
  · exact .inl ⟨_, rfl⟩
  · refine .inr ⟨_, rfl, by rw [List.length_map]; exact Nat.le_trans w.few (by decide), fun x hx => ?_⟩
    obtain ⟨r, _, rfl⟩ := List.mem_map.mp hx
    refine .inr ⟨_, rfl, show 2 ≤ 1000 by decide, fun x hx => ?_⟩
    simp only [List.mem_cons, List.not_mem_nil, or_false] at hx
    rcases hx with rfl | rfl <;> exact .inl ⟨_, rfl⟩
theorem pair_plainT {p : Nat} {l : List Nat} (h : l.length ≤ 1000) : PlainT 12 (.tup [eN p, eRow l]) := by
  refine .inr ⟨_, rfl, show 2 ≤ 1000 by decide, fun x hx => ?_⟩
  simp only [List.mem_cons, List.not_mem_nil, or_false] at hx
  rcases hx with rfl | rfl
  · exact .inl ⟨_, rfl⟩
  · refine .inr ⟨_, rfl, by rw [List.length_map]; exact h, fun x hx => ?_⟩
    obtain ⟨r, _, rfl⟩ := List.mem_map.mp hx
    exact .inl ⟨_, rfl⟩
theorem mixed_web {n : Nat} {rs : List (Nat × Nat)} (w : WebOk n rs) {c : Nat} {t : D} (B : Box c t) (hc : c ≤ 900000) : ∃ y f t', F__law_mixed 12 [t, eWeb n rs] = .ok y f t' ∧ Box (c + 20) t' ∧ PlainD 12 y ∧ tupD y = eWeb n rs := by
  have := w.few
  have e := csz_web n rs
  obtain ⟨y, f, t', h1, h2, h3, h4⟩ := mixed_ok 12 (eWeb n rs) (web_plainT w) c t B (by rw [e]; omega)
  exact ⟨y, f, t', h1, h2.up (by rw [e]; omega), h3, h4⟩
theorem mixed_pair {p : Nat} {l : List Nat} (h : l.length ≤ 1000) {c : Nat} {t : D} (B : Box c t) (hc : c ≤ 900000) : ∃ y f t', F__law_mixed 12 [t, .tup [eN p, eRow l]] = .ok y f t' ∧ Box (c + 20) t' ∧ PlainD 12 y ∧ tupD y = .tup [eN p, eRow l] := by
  have e : csz (.tup [eN p, eRow l]) = 2 := by
    show 1 + (0 + ((1 + cszs (eNs l)) + 0)) = _
    rw [cszs_int]
  obtain ⟨y, f, t', h1, h2, h3, h4⟩ := mixed_ok 12 (.tup [eN p, eRow l]) (pair_plainT h) c t B (by rw [e]; omega)
  exact ⟨y, f, t', h1, h2.up (by rw [e]; omega), h3, h4⟩
end K01

set_option Elab.async false
set_option linter.all false
set_option maxRecDepth 100000
namespace K01
open DL PySem
theorem take_v {t t' A B C : D} {s3 s4 s5 : Sl} {v : D} (h : F__law_take [t, A] = .ok v false t') : mCall 2 (some 0) F__law_take (mCons (mVar 0) (mCons (mVar 1) (mNil))) [.ow true t, .sh A, .sh B, s3, s4, s5] = .ok (.v v) [.ow true t', .sh A, .sh B, s3, s4, s5] := by
  simp [h, runF, initS, mRet, mAndV, mOrV, bind_eq, pure_eq, mCall, mCons, mNil, mVar, rdv, callAt, lent, ownAt, just, isLn, tst, dTru, asV, mChain, tst2, dLe, dLt, dGe, dGt, dIs, dIsNot, isNon, handed, outD, retRv, mIf, mOr, mAnd, mNotT, mTru, mSeq, mIsi, dIsi, tyD, tyLe, mOps, ops, mInt, mBl, mNon, mStr, mB, mU, op1, op2, mSet, store, free, DL.settle, DL.settles, mNotV, b2, mRetN, mNx, mDrop, mSeqI, items, mT2, okRet, noL, noLi, noLs, mYes, gSet, gUnp, gsCons, gsNil, mTup, mLst, guardL]
theorem web_turn {t t1 t2 A B M x u v : D} {L : List D} {s5 : Sl} (k5 : s5 = .no ∨ ∃ d, s5 = .sh d) (e1 : F__law_take [t, M] = .ok u false t1) (e2 : F__law_take [t1, M] = .ok v false t2) (hl : L.length < lim) :
    mTurn (gSet 5) (mDrop (mApp 4 (mTup (mCons (mCall 2 (some 0) F__law_take (mCons (mVar 0) (mCons (mVar 3) (mNil)))) (mCons (mCall 2 (some 0) F__law_take (mCons (mVar 0) (mCons (mVar 3) (mNil)))) (mNil)))))) x [.ow true t, .sh A, .sh B, .sh M, .ow false (.lst L), s5] =
    .ok .nx [.ow true t2, .sh A, .sh B, .sh M, .ow false (.lst (L ++ [.tup [u, v]])), .sh x] := by
  have two : (2 : Nat) ≤ lim := by decide
  rcases k5 with rfl | ⟨d, rfl⟩ <;> simp [mTurn, e1, e2, hl, two, mApp, ownL, wrL, runF, initS, mRet, mAndV, mOrV, bind_eq, pure_eq, mCall, mCons, mNil, mVar, rdv, callAt, lent, ownAt, just, isLn, tst, dTru, asV, mChain, tst2, dLe, dLt, dGe, dGt, dIs, dIsNot, isNon, handed, outD, retRv, mIf, mOr, mAnd, mNotT, mTru, mSeq, mIsi, dIsi, tyD, tyLe, mOps, ops, mInt, mBl, mNon, mStr, mB, mU, op1, op2, mSet, store, free, DL.settle, DL.settles, mNotV, b2, mRetN, mNx, mDrop, mSeqI, items, mT2, okRet, noL, noLi, noLs, mYes, gSet, gUnp, gsCons, gsNil, mTup, mLst, guardL]
theorem law_web_a {t t1 t2 A B m0 M : D} {L : List D} {s5 : Sl} (e1 : F__law_take [t, A] = .ok m0 false t1) (e2 : dAdd (.int 1) m0 = some (.v M)) (h : x__law_web_1 [.ow true t1, .sh A, .sh B, .sh M, .ow false (.lst []), .no] = .ok .nx [.ow true t2, .sh A, .sh B, .sh M, .ow false (.lst L), s5]) :
    F__law_web [t, A, B] = .ok (.tup [M, .tup L]) false t2 := by
  have two : (2 : Nat) ≤ lim := by decide
  simp [F__law_web, m__law_web, e1, e2, h, two, dTupleOf, runF, initS, mRet, mAndV, mOrV, bind_eq, pure_eq, mCall, mCons, mNil, mVar, rdv, callAt, lent, ownAt, just, isLn, tst, dTru, asV, mChain, tst2, dLe, dLt, dGe, dGt, dIs, dIsNot, isNon, handed, outD, retRv, mIf, mOr, mAnd, mNotT, mTru, mSeq, mIsi, dIsi, tyD, tyLe, mOps, ops, mInt, mBl, mNon, mStr, mB, mU, op1, op2, mSet, store, free, DL.settle, DL.settles, mNotV, b2, mRetN, mNx, mDrop, mSeqI, items, mT2, okRet, noL, noLi, noLs, mYes, gSet, gUnp, gsCons, gsNil, mTup, mLst, guardL]
theorem law_web_it {t t1 A M : D} {B k : Nat} {L : Sl} (e1 : F__law_take [t, eN (B + 1)] = .ok (eN k) false t1) (hk : k ≤ 1000) : mRange1 (mCall 2 (some 0) F__law_take (mCons (mVar 0) (mCons (mB dAdd (mVar 2) (mInt 1)) (mNil)))) [.ow true t, .sh A, .sh (eN B), .sh M, L, .no] =
    .ok ((List.range k).map eN) [.ow true t1, .sh A, .sh (eN B), .sh M, L, .no] := by
  refine range1_ok (r := .v (eN k)) (σ1 := [.ow true t1, .sh A, .sh (eN B), .sh M, L, .no]) ?_ rfl hk
  have a : dAdd (eN B) (.int 1) = some (.v (eN (B + 1))) := by simp [dAdd]
  generalize eN (B + 1) = X at a e1
  generalize eN k = Y at e1 ⊢
  generalize eN B = Z at a ⊢
  simp [a, e1, runF, initS, mRet, mAndV, mOrV, bind_eq, pure_eq, mCall, mCons, mNil, mVar, rdv, callAt, lent, ownAt, just, isLn, tst, dTru, asV, mChain, tst2, dLe, dLt, dGe, dGt, dIs, dIsNot, isNon, handed, outD, retRv, mIf, mOr, mAnd, mNotT, mTru, mSeq, mIsi, dIsi, tyD, tyLe, mOps, ops, mInt, mBl, mNon, mStr, mB, mU, op1, op2, mSet, store, free, DL.settle, DL.settles, mNotV, b2, mRetN, mNx, mDrop, mSeqI, items, mT2, okRet, noL, noLi, noLs, mYes, gSet, gUnp, gsCons, gsNil, mTup, mLst, guardL]
theorem law_web_ok {P R c : Nat} {t : D} (hP : 0 < P) (hP2 : P ≤ 8) (hR : R ≤ 16) (B : Box c t) (hc : c ≤ 900000) :
    ∃ m rs t', WebOk m rs ∧ m ≤ P ∧ rs.length ≤ R ∧ Box (c + 40) t' ∧ F__law_web [t, eN P, eN R] = .ok (eWeb m rs) false t' := by
  obtain ⟨v, t1, hv, B1, e1⟩ := take_ok B (by omega) hP (by omega)
  obtain ⟨k, t2, hk, B2, e2⟩ := take_ok (b := R + 1) B1 (by omega) (by omega) (by omega)
  have lm : lim = 16777216 := rfl
  obtain ⟨σ', e, rs, t3, s5, k5, hl, hlt, B3, rfl⟩ := forL_relL (f := mTurn (gSet 5) (mDrop (mApp 4 (mTup (mCons (mCall 2 (some 0) F__law_take (mCons (mVar 0) (mCons (mVar 3) (mNil)))) (mCons (mCall 2 (some 0) F__law_take (mCons (mVar 0) (mCons (mVar 3) (mNil)))) (mNil))))))) (g := eN)
    (I := fun l σ => ∃ (rs : List (Nat × Nat)) (t : D) (s5 : Sl), (s5 = .no ∨ ∃ d, s5 = .sh d) ∧ rs.length = l.length ∧ (∀ r ∈ rs, r.1 < 1 + v ∧ r.2 < 1 + v) ∧ Box (c + 2 + 2 * l.length) t ∧ σ = [.ow true t, .sh (eN P), .sh (eN R), .sh (eN (1 + v)), .ow false (.lst (rs.map eRoad)), s5])
    (List.range k) [] [.ow true t2, .sh (eN P), .sh (eN R), .sh (eN (1 + v)), .ow false (.lst []), .no] ⟨[], t2, .no, .inl rfl, rfl, fun r h => (by cases h), B2.up (by simp), rfl⟩ (by
      rintro dn x rr e σ ⟨rs, t, s5, k5, hl, hlt, B, rfl⟩
      rw [List.nil_append] at e
      obtain ⟨q1, q2, _⟩ := range_split e
      obtain ⟨a, u1, ha, C1, d1⟩ := take_ok (b := 1 + v) B (by omega) (by omega) (by omega)
      obtain ⟨b, u2, hb, C2, d2⟩ := take_ok (b := 1 + v) C1 (by omega) (by omega) (by omega)
      refine ⟨_, .inl (web_turn k5 d1 d2 (by rw [List.length_map]; omega)), rs ++ [(a, b)], u2, .sh (eN x), .inr ⟨_, rfl⟩, by simp [hl], fun r hr => ?_, C2.up (by simp only [List.length_append, List.length_singleton]; omega), ?_⟩
      · rcases List.mem_append.mp hr with z | z
        · exact hlt r z
        · simp at z; subst z; exact ⟨ha, hb⟩
      · simp only [List.map_append, List.map_cons, List.map_nil])
  rw [List.nil_append, List.length_range] at hl B3
  refine ⟨1 + v, rs, t3, ⟨by omega, by omega, by omega, hlt⟩, by omega, by omega, B3.up (by omega), ?_⟩
  have a : dAdd (.int 1) (eN v) = some (.v (eN (1 + v))) := by simp [dAdd]
  refine law_web_a (s5 := s5) e1 a ?_
  unfold x__law_web_1 mFor
  rw [ok_bind (law_web_it e2 (by omega))]
  exact e
theorem noL_road : ∀ rs : List (Nat × Nat), noLs (rs.map eRoad) = true
  | [] => rfl
  | r :: rs => by
    show (noL (eRoad r) && noLs (rs.map eRoad)) = true
    rw [noL_road rs]
    rfl
theorem noL_web (n : Nat) (rs : List (Nat × Nat)) : noL (eWeb n rs) = true := by
  show (true && (noLs (rs.map eRoad) && true)) = true
  rw [noL_road]
  rfl
/-! ### a drawn path -/
theorem walk_turn0 {t A B M x G : D} {L : D} {s5 s6 : Sl} (k5 : s5 = .no ∨ ∃ d, s5 = .sh d) (k6 : s6 = .no ∨ ∃ d, s6 = .ow false d) (e1 : F__law_lead [A, B, L] = .ok G false .non) (e2 : F__law_outs [A, G] = .ok (.lst []) true .non) :
    mTurn (gSet 5) (mSeq (mSet 6 (mCall 2 none F__law_outs (mCons (mVar 1) (mCons (mCall 3 none F__law_lead (mCons (mVar 1) (mCons (mVar 2) (mCons (mVar 4) (mNil))))) (mNil))))) (mIf (mT2 dNeC (mVar 6) (mLst (mNil))) (mSet 4 (mB dAdd (mVar 4) (mTup (mCons (mCall 2 (some 0) F__law_of (mCons (mVar 0) (mCons (mVar 6) (mNil)))) (mNil))))) (mNx))) x [.ow true t, .sh A, .sh B, .sh M, .sh L, s5, s6] =
    .ok .nx [.ow true t, .sh A, .sh B, .sh M, .sh L, .sh x, .ow false (.lst [])] := by
  have z : dNeC (.lst []) (.lst []) = some false := rfl
  rcases k5 with rfl | ⟨d, rfl⟩ <;> rcases k6 with rfl | ⟨d', rfl⟩ <;> simp [mTurn, e1, e2, z, runF, initS, mRet, mAndV, mOrV, bind_eq, pure_eq, mCall, mCons, mNil, mVar, rdv, callAt, lent, ownAt, just, isLn, tst, dTru, asV, mChain, tst2, dLe, dLt, dGe, dGt, dIs, dIsNot, isNon, handed, outD, retRv, mIf, mOr, mAnd, mNotT, mTru, mSeq, mIsi, dIsi, tyD, tyLe, mOps, ops, mInt, mBl, mNon, mStr, mB, mU, op1, op2, mSet, store, free, DL.settle, DL.settles, mNotV, b2, mRetN, mNx, mDrop, mSeqI, items, mT2, okRet, noL, noLi, noLs, mYes, gSet, gUnp, gsCons, gsNil, mTup, mLst, guardL]
theorem walk_turn1 {t t' A B M x G v R : D} {L O : List D} {s5 s6 : Sl} (k5 : s5 = .no ∨ ∃ d, s5 = .sh d) (k6 : s6 = .no ∨ ∃ d, s6 = .ow false d) (e1 : F__law_lead [A, B, .tup L] = .ok G false .non) (e2 : F__law_outs [A, G] = .ok (.lst O) true .non) (e3 : dNeC (.lst O) (.lst []) = some true)
    (e4 : F__law_of [t, .lst O] = .ok v false t') (hv : noL v = true) (ht : noLi t' = true) (e5 : dAdd (.tup L) (.tup [v]) = some (.v R)) :
    mTurn (gSet 5) (mSeq (mSet 6 (mCall 2 none F__law_outs (mCons (mVar 1) (mCons (mCall 3 none F__law_lead (mCons (mVar 1) (mCons (mVar 2) (mCons (mVar 4) (mNil))))) (mNil))))) (mIf (mT2 dNeC (mVar 6) (mLst (mNil))) (mSet 4 (mB dAdd (mVar 4) (mTup (mCons (mCall 2 (some 0) F__law_of (mCons (mVar 0) (mCons (mVar 6) (mNil)))) (mNil))))) (mNx))) x [.ow true t, .sh A, .sh B, .sh M, .sh (.tup L), s5, s6] =
    .ok .nx [.ow true t', .sh A, .sh B, .sh M, .sh R, .sh x, .ow false (.lst O)] := by
  have one : (1 : Nat) ≤ lim := by decide
  have o1 : okRet v false = true := hv
  rcases k5 with rfl | ⟨d, rfl⟩ <;> rcases k6 with rfl | ⟨d', rfl⟩ <;> simp [mTurn, e1, e2, e3, e4, e5, hv, ht, one, runF, initS, mRet, bind_eq, pure_eq, mCall, mCons, mNil, mVar, rdv, callAt, lent, ownAt, just, isLn, tst, tst2, mIf, mSeq, mB, op2, mSet, store, free, DL.settle, DL.settles, mNx, mT2, okRet, gSet, mTup, mLst, guardL, retRv]
end K01

set_option Elab.async false
set_option linter.all false
set_option maxRecDepth 100000
namespace K01
open DL PySem
theorem Box.noLi {c : Nat} {t : D} (h : Box c t) : noLi t = true := by
  obtain ⟨a0, a1, a2, rfl, _, _⟩ := h
  rfl
theorem neC_nil (l : List Nat) : dNeC (eL l) (.lst []) = some (!l.isEmpty) := by
  simp only [dNeC]
  rw [if_pos ⟨eNs_shaped l, nil_shaped⟩, eNs_nil]
theorem law_walk_it {t t1 A P M : D} {B k : Nat} (e1 : F__law_take [t, eN (B + 1)] = .ok (eN k) false t1) (hk : k ≤ 1000) : mRange1 (mCall 2 (some 0) F__law_take (mCons (mVar 0) (mCons (mB dAdd (mVar 3) (mInt 1)) (mNil)))) [.ow true t, .sh A, .sh P, .sh (eN B), .sh M, .no, .no] =
    .ok ((List.range k).map eN) [.ow true t1, .sh A, .sh P, .sh (eN B), .sh M, .no, .no] := by
  refine range1_ok (r := .v (eN k)) (σ1 := [.ow true t1, .sh A, .sh P, .sh (eN B), .sh M, .no, .no]) ?_ rfl hk
  have a : dAdd (eN B) (.int 1) = some (.v (eN (B + 1))) := by simp [dAdd]
  generalize eN (B + 1) = X at a e1
  generalize eN k = Y at e1 ⊢
  generalize eN B = Z at a ⊢
  simp [a, e1, runF, initS, mRet, mAndV, mOrV, bind_eq, pure_eq, mCall, mCons, mNil, mVar, rdv, callAt, lent, ownAt, just, isLn, tst, dTru, asV, mChain, tst2, dLe, dLt, dGe, dGt, dIs, dIsNot, isNon, handed, outD, retRv, mIf, mOr, mAnd, mNotT, mTru, mSeq, mIsi, dIsi, tyD, tyLe, mOps, ops, mInt, mBl, mNon, mStr, mB, mU, op1, op2, mSet, store, free, DL.settle, DL.settles, mNotV, b2, mRetN, mNx, mDrop, mSeqI, items, mT2, okRet, noL, noLi, noLs, mYes, gSet, gUnp, gsCons, gsNil, mTup, mLst, guardL]
theorem law_walk_a {t t1 A B C : D} {L : D} {s5 s6 : Sl} (h : x__law_walk_1 [.ow true t, .sh A, .sh B, .sh C, .sh (.tup []), .no, .no] = .ok .nx [.ow true t1, .sh A, .sh B, .sh C, .sh L, s5, s6]) : F__law_walk [t, A, B, C] = .ok L false t1 := by
  simp [F__law_walk, m__law_walk, h, runF, initS, mRet, mAndV, mOrV, bind_eq, pure_eq, mCall, mCons, mNil, mVar, rdv, callAt, lent, ownAt, just, isLn, tst, dTru, asV, mChain, tst2, dLe, dLt, dGe, dGt, dIs, dIsNot, isNon, handed, outD, retRv, mIf, mOr, mAnd, mNotT, mTru, mSeq, mIsi, dIsi, tyD, tyLe, mOps, ops, mInt, mBl, mNon, mStr, mB, mU, op1, op2, mSet, store, free, DL.settle, DL.settles, mNotV, b2, mRetN, mNx, mDrop, mSeqI, items, mT2, okRet, noL, noLi, noLs, mYes, gSet, gUnp, gsCons, gsNil, mTup, mLst, guardL]
theorem law_walk_ok {n p : Nat} {rs : List (Nat × Nat)} (w : WebOk n rs) {M c : Nat} {t : D} (hM : M ≤ 5) (B : Box c t) (hc : c ≤ 900000) :
    ∃ l t', Path rs p l ∧ l.length ≤ M ∧ Box (c + 10) t' ∧ F__law_walk [t, eWeb n rs, eN p, eN M] = .ok (eRow l) false t' := by
  obtain ⟨k, t1, hk, B1, e1⟩ := take_ok (b := M + 1) B (by omega) (by omega) (by omega)
  have lm : lim = 16777216 := rfl
  obtain ⟨σ', e, l, t2, s5, s6, k5, k6, hp, hl, B2, rfl⟩ := forL_relL (f := mTurn (gSet 5) (mSeq (mSet 6 (mCall 2 none F__law_outs (mCons (mVar 1) (mCons (mCall 3 none F__law_lead (mCons (mVar 1) (mCons (mVar 2) (mCons (mVar 4) (mNil))))) (mNil))))) (mIf (mT2 dNeC (mVar 6) (mLst (mNil))) (mSet 4 (mB dAdd (mVar 4) (mTup (mCons (mCall 2 (some 0) F__law_of (mCons (mVar 0) (mCons (mVar 6) (mNil)))) (mNil))))) (mNx)))) (g := eN)
    (I := fun q σ => ∃ (l : List Nat) (t : D) (s5 s6 : Sl), (s5 = .no ∨ ∃ d, s5 = .sh d) ∧ (s6 = .no ∨ ∃ d, s6 = .ow false d) ∧ Path rs p l ∧ l.length ≤ q.length ∧ Box (c + 1 + q.length) t ∧ σ = [.ow true t, .sh (eWeb n rs), .sh (eN p), .sh (eN M), .sh (eRow l), s5, s6])
    (List.range k) [] [.ow true t1, .sh (eWeb n rs), .sh (eN p), .sh (eN M), .sh (.tup []), .no, .no] ⟨[], t1, .no, .no, .inl rfl, .inl rfl, .nil, Nat.le_refl _, B1, rfl⟩ (by
      rintro dn x rr e σ ⟨l, t, s5, s6, k5, k6, hp, hl, B, rfl⟩
      rw [List.nil_append] at e
      obtain ⟨q1, q2, _⟩ := range_split e
      have d1 := lead_ok (n := n) (p := p) hp.lt
      have d2 := law_outs_ok (p := lead rs p l) w
      cases h : outs rs (lead rs p l) with
      | nil =>
        rw [h] at d2
        exact ⟨_, .inl (walk_turn0 k5 k6 d1 d2), l, t, .sh (eN x), .ow false (.lst []), .inr ⟨_, rfl⟩, .inr ⟨_, rfl⟩, hp, by simp only [List.length_append]; omega, B.up (by simp only [List.length_append]; omega), rfl⟩
      | cons a r =>
        have d3 := neC_nil (outs rs (lead rs p l))
        rw [h] at d3
        have ol : (eNs (outs rs (lead rs p l))).length ≤ 16 := by
          rw [List.length_map]
          exact Nat.le_trans (nums_length ..) w.few
        have op : 0 < (eNs (outs rs (lead rs p l))).length := by rw [List.length_map, h]; simp
        obtain ⟨y, hy, u, C, d4⟩ := law_of_ok B (by omega) op (by omega)
        obtain ⟨j, hj, rfl⟩ := List.mem_map.mp hy
        have d5 := add_row (L := eNs l) (e := eN j) (by rw [List.length_map]; omega)
        rw [← eNs_snoc] at d5
        rw [h] at d2 d4
        exact ⟨_, .inl (walk_turn1 k5 k6 d1 d2 d3 d4 rfl C.noLi d5), l ++ [j], u, .sh (eN x), .ow false (.lst (eNs (a :: r))), .inr ⟨_, rfl⟩, .inr ⟨_, rfl⟩, hp.snoc hj, by simp only [List.length_append, List.length_singleton]; omega, C.up (by simp only [List.length_append, List.length_singleton]; omega), rfl⟩)
  rw [List.nil_append, List.length_range] at hl B2
  refine ⟨l, t2, hp, by omega, B2.up (by omega), ?_⟩
  refine law_walk_a (s5 := s5) (s6 := s6) ?_
  unfold x__law_walk_1 mFor
  rw [ok_bind (law_walk_it e1 (by omega))]
  exact e
/-! ### some web -/
def known : List (Nat × List (Nat × Nat)) := [(2, [(0, 0), (0, 1)]), (3, [(0, 1), (0, 2)]), (3, [(0, 1), (1, 2)]), (1, [(0, 0), (0, 0)]), (1, [(0, 0)]), (2, [(0, 1), (1, 0)]), (1, [])]
theorem webOk_of {q : Nat × List (Nat × Nat)} (h : (decide (1 ≤ q.1) && decide (q.1 ≤ 4) && decide (q.2.length ≤ 7) && q.2.all fun r => decide (r.1 < q.1) && decide (r.2 < q.1)) = true) : WebOk q.1 q.2 ∧ q.1 ≤ 4 ∧ q.2.length ≤ 7 := by
  simp only [Bool.and_eq_true, decide_eq_true_eq, List.all_eq_true] at h
  obtain ⟨⟨⟨h1, h2⟩, h3⟩, h4⟩ := h
  exact ⟨⟨h1, by omega, by omega, h4⟩, h2, h3⟩
theorem known_ok : ∀ q ∈ known, WebOk q.1 q.2 ∧ q.1 ≤ 4 ∧ q.2.length ≤ 7 := fun q hq => webOk_of (by
  have : known.all (fun q => decide (1 ≤ q.1) && decide (q.1 ≤ 4) && decide (q.2.length ≤ 7) && q.2.all fun r => decide (r.1 < q.1) && decide (r.2 < q.1)) = true := by decide
  exact List.all_eq_true.mp this q hq)
def knownD : List D := known.map fun q => eWeb q.1 q.2
theorem known_eval {σ : Sg} : mLst (mCons (mTup (mCons (mInt 2) (mCons (mTup (mCons (mTup (mCons (mInt 0) (mCons (mInt 0) (mNil)))) (mCons (mTup (mCons (mInt 0) (mCons (mInt 1) (mNil)))) (mNil)))) (mNil)))) (mCons (mTup (mCons (mInt 3) (mCons (mTup (mCons (mTup (mCons (mInt 0) (mCons (mInt 1) (mNil)))) (mCons (mTup (mCons (mInt 0) (mCons (mInt 2) (mNil)))) (mNil)))) (mNil)))) (mCons (mTup (mCons (mInt 3) (mCons (mTup (mCons (mTup (mCons (mInt 0) (mCons (mInt 1) (mNil)))) (mCons (mTup (mCons (mInt 1) (mCons (mInt 2) (mNil)))) (mNil)))) (mNil)))) (mCons (mTup (mCons (mInt 1) (mCons (mTup (mCons (mTup (mCons (mInt 0) (mCons (mInt 0) (mNil)))) (mCons (mTup (mCons (mInt 0) (mCons (mInt 0) (mNil)))) (mNil)))) (mNil)))) (mCons (mTup (mCons (mInt 1) (mCons (mTup (mCons (mTup (mCons (mInt 0) (mCons (mInt 0) (mNil)))) (mNil))) (mNil)))) (mCons (mTup (mCons (mInt 2) (mCons (mTup (mCons (mTup (mCons (mInt 0) (mCons (mInt 1) (mNil)))) (mCons (mTup (mCons (mInt 1) (mCons (mInt 0) (mNil)))) (mNil)))) (mNil)))) (mCons (mTup (mCons (mInt 1) (mCons (mTup (mNil)) (mNil)))) (mNil)))))))) σ = .ok (.fr (.lst knownD)) σ := rfl
theorem some_web_a {t t1 t2 t3 t4 t5 W1 W2 W3 W4 X : D} (e1 : F__law_web [t, .int 3, .int 4] = .ok W1 false t1) (e2 : F__law_web [t1, .int 3, .int 4] = .ok W2 false t2) (e3 : F__law_web [t2, .int 4, .int 5] = .ok W3 false t3) (e4 : F__law_of [t3, .lst knownD] = .ok W4 false t4)
    (e5 : F__law_of [t4, .lst [W1, W2, W3, W4]] = .ok X false t5) (n4 : noL W4 = true) (nt : noLi t4 = true) : F__law_some_web [t] = .ok X false t5 := by
  have four : (4 : Nat) ≤ lim := by decide
  unfold F__law_some_web m__law_some_web
  generalize hK : mLst (mCons (mTup (mCons (mInt 2) _)) _) = K
  have ek : ∀ σ, K σ = .ok (.fr (.lst knownD)) σ := fun σ => by rw [← hK]; rfl
  simp [ek, e1, e2, e3, e4, e5, n4, nt, four, runF, initS, mRet, bind_eq, pure_eq, mCall, mCons, mNil, mVar, rdv, callAt, lent, ownAt, just, isLn, mSeq, mSet, store, free, DL.settle, DL.settles, okRet, mLst, guardL, retRv, mInt, handed, outD]
theorem some_web_ok {c : Nat} {t : D} (B : Box c t) (hc : c ≤ 800000) : ∃ m rs t', WebOk m rs ∧ m ≤ 4 ∧ rs.length ≤ 7 ∧ Box (c + 200) t' ∧ F__law_some_web [t] = .ok (eWeb m rs) false t' := by
  obtain ⟨m1, r1, t1, w1, a1, b1, B1, e1⟩ := law_web_ok (P := 3) (R := 4) (by decide) (by decide) (by decide) B (by omega)
  obtain ⟨m2, r2, t2, w2, a2, b2, B2, e2⟩ := law_web_ok (P := 3) (R := 4) (by decide) (by decide) (by decide) B1 (by omega)
  obtain ⟨m3, r3, t3, w3, a3, b3, B3, e3⟩ := law_web_ok (P := 4) (R := 5) (by decide) (by decide) (by decide) B2 (by omega)
  obtain ⟨x, hx, t4, B4, e4⟩ := law_of_ok (xs := knownD) B3 (by omega) (by decide) (by decide)
  obtain ⟨q, hq, rfl⟩ := List.mem_map.mp hx
  obtain ⟨w4, a4, b4⟩ := known_ok q hq
  obtain ⟨y, hy, t5, B5, e5⟩ := law_of_ok (xs := [eWeb m1 r1, eWeb m2 r2, eWeb m3 r3, eWeb q.1 q.2]) B4 (by omega) (by simp) (by simp)
  have S := some_web_a e1 e2 e3 e4 e5 (noL_web _ _) B4.noLi
  simp only [List.mem_cons, List.not_mem_nil, or_false] at hy
  rcases hy with rfl | rfl | rfl | rfl
  · exact ⟨m1, r1, t5, w1, by omega, by omega, B5.up (by omega), S⟩
  · exact ⟨m2, r2, t5, w2, by omega, by omega, B5.up (by omega), S⟩
  · exact ⟨m3, r3, t5, w3, by omega, by omega, B5.up (by omega), S⟩
  · exact ⟨q.1, q.2, t5, w4, a4, b4, B5.up (by omega), S⟩
end K01

set_option Elab.async false
set_option linter.all false
set_option maxRecDepth 100000
namespace K01
open DL PySem
/-- what is the same as itself for the law -/
def SD : Nat → D → Prop
  | 0, _ => False
  | n + 1, d => (∃ i, d = .int i) ∨ (∃ k, d = .bl k) ∨ (∃ s, d = .str s ∧ dEqC d d = some true) ∨ (∃ xs, (d = .tup xs ∨ d = .lst xs) ∧ xs.length ≤ 100000 ∧ ∀ x ∈ xs, SD n x)
theorem SD.up : ∀ {n : Nat} {d : D}, SD n d → SD (n + 1) d
  | 0, _, h => h.elim
  | n + 1, d, h => by
    rcases h with h | h | h | ⟨xs, h1, h2, h3⟩
    · exact .inl h
    · exact .inr (.inl h)
    · exact .inr (.inr (.inl h))
    · exact .inr (.inr (.inr ⟨xs, h1, h2, fun x hx => (h3 x hx).up⟩))
theorem SD.le {n m : Nat} {d : D} (h : SD n d) (hm : n ≤ m) : SD m d := by
  induction hm with
  | refl => exact h
  | step _ ih => exact ih.up
theorem bl_eqC (k : Bool) : dEqC (.bl k) (.bl k) = some true := by cases k <;> rfl
theorem int_eqC (i : Int) : dEqC (.int i) (.int i) = some true := by
  simp only [dEqC]
  rw [if_pos ⟨int_shaped i, int_shaped i⟩]
  simp [D.eqb]
theorem same_list {R : FD} {X : D} {xs : List D} (hx : X = .tup xs ∨ X = .lst xs) (hl : xs.length ≤ 100000) (h : ∀ x ∈ xs, R [x, x] = .ok (.bl true) false .non) : x__law_same_1 R [.sh X, .sh X, .no, .no] = .ok (.fr (.lst (xs.map fun _ => .bl true))) [.sh X, .sh X, .no, .no] := by
  have lm : lim = 16777216 := rfl
  have zz : ∀ xs : List D, (xs.zip xs).map (fun p => D.tup [p.1, p.2]) = xs.map fun x => D.tup [x, x] := by
    intro xs
    induction xs with
    | nil => rfl
    | cons a r ih => simp [ih]
  refine lc_each (vs := [2, 3]) (g := fun x => D.tup [x, x]) (v := fun _ => .bl true) (xs := xs) (σ1 := [.sh X, .sh X, .no, .no]) ?_ rfl (fun x hx' => ?_) (by omega)
  · rw [← zz]
    rcases hx with rfl | rfl <;> rfl
  · have e := h x hx'
    simp [turn1, e, wipeM, noOw, wipeS, runF, initS, mRet, mAndV, mOrV, bind_eq, pure_eq, mCall, mCons, mNil, mVar, rdv, callAt, lent, ownAt, just, isLn, tst, dTru, asV, mChain, tst2, dLe, dLt, dGe, dGt, dIs, dIsNot, isNon, handed, outD, retRv, mIf, mOr, mAnd, mNotT, mTru, mSeq, mIsi, dIsi, tyD, tyLe, mOps, ops, mInt, mBl, mNon, mStr, mB, mU, op1, op2, mSet, store, free, DL.settle, DL.settles, mNotV, b2, mRetN, mNx, mDrop, mSeqI, items, mT2, okRet, noL, noLi, noLs, mYes, gSet, gUnp, gsCons, gsNil, mTup, mLst, guardL]
theorem same_seq {R : FD} {xs Q : List D} {X : D} (hx : X = .tup xs ∨ X = .lst xs) (c : x__law_same_1 R [.sh X, .sh X, .no, .no] = .ok (.fr (.lst Q)) [.sh X, .sh X, .no, .no]) (e : dAll [.lst Q] = some (.v (.bl true))) : runF 4 none (m__law_same R) [X, X] = .ok (.bl true) false .non := by
  have t := bl_eqC true
  have f := bl_eqC false
  have nt : dNeC (.bl true) (.bl true) = some false := rfl
  have nf : dNeC (.bl false) (.bl false) = some false := rfl
  rcases hx with rfl | rfl
  · have l : dLen [.tup xs] = some (.v (.int xs.length)) := rfl
    have li := int_eqC xs.length
    simp [m__law_same, c, e, nt, nf, l, li, runF, initS, mRet, mAndV, mOrV, bind_eq, pure_eq, mCall, mCons, mNil, mVar, rdv, callAt, lent, ownAt, just, isLn, tst, dTru, asV, mChain, tst2, dLe, dLt, dGe, dGt, dIs, dIsNot, isNon, handed, outD, retRv, mIf, mOr, mAnd, mNotT, mTru, mSeq, mIsi, dIsi, tyD, tyLe, mOps, ops, mInt, mBl, mNon, mStr, mB, mU, op1, op2, mSet, store, free, DL.settle, DL.settles, mNotV, b2, mRetN, mNx, mDrop, mSeqI, items, mT2, okRet, noL, noLi, noLs, mYes, gSet, gUnp, gsCons, gsNil, mTup, mLst, guardL]
  · have l : dLen [.lst xs] = some (.v (.int xs.length)) := rfl
    have li := int_eqC xs.length
    simp [m__law_same, c, e, nt, nf, l, li, runF, initS, mRet, mAndV, mOrV, bind_eq, pure_eq, mCall, mCons, mNil, mVar, rdv, callAt, lent, ownAt, just, isLn, tst, dTru, asV, mChain, tst2, dLe, dLt, dGe, dGt, dIs, dIsNot, isNon, handed, outD, retRv, mIf, mOr, mAnd, mNotT, mTru, mSeq, mIsi, dIsi, tyD, tyLe, mOps, ops, mInt, mBl, mNon, mStr, mB, mU, op1, op2, mSet, store, free, DL.settle, DL.settles, mNotV, b2, mRetN, mNx, mDrop, mSeqI, items, mT2, okRet, noL, noLi, noLs, mYes, gSet, gUnp, gsCons, gsNil, mTup, mLst, guardL]
theorem same_int {R : FD} {i : Int} : runF 4 none (m__law_same R) [.int i, .int i] = .ok (.bl true) false .non := by
  have e := int_eqC i
  simp [m__law_same, e, runF, initS, mRet, mAndV, mOrV, bind_eq, pure_eq, mCall, mCons, mNil, mVar, rdv, callAt, lent, ownAt, just, isLn, tst, dTru, asV, mChain, tst2, dLe, dLt, dGe, dGt, dIs, dIsNot, isNon, handed, outD, retRv, mIf, mOr, mAnd, mNotT, mTru, mSeq, mIsi, dIsi, tyD, tyLe, mOps, ops, mInt, mBl, mNon, mStr, mB, mU, op1, op2, mSet, store, free, DL.settle, DL.settles, mNotV, b2, mRetN, mNx, mDrop, mSeqI, items, mT2, okRet, noL, noLi, noLs, mYes, gSet, gUnp, gsCons, gsNil, mTup, mLst, guardL]
theorem same_bl {R : FD} {k : Bool} : runF 4 none (m__law_same R) [.bl k, .bl k] = .ok (.bl true) false .non := by
  have e := bl_eqC k
  have t := bl_eqC true
  have f := bl_eqC false
  simp [m__law_same, e, t, f, runF, initS, mRet, mAndV, mOrV, bind_eq, pure_eq, mCall, mCons, mNil, mVar, rdv, callAt, lent, ownAt, just, isLn, tst, dTru, asV, mChain, tst2, dLe, dLt, dGe, dGt, dIs, dIsNot, isNon, handed, outD, retRv, mIf, mOr, mAnd, mNotT, mTru, mSeq, mIsi, dIsi, tyD, tyLe, mOps, ops, mInt, mBl, mNon, mStr, mB, mU, op1, op2, mSet, store, free, DL.settle, DL.settles, mNotV, b2, mRetN, mNx, mDrop, mSeqI, items, mT2, okRet, noL, noLi, noLs, mYes, gSet, gUnp, gsCons, gsNil, mTup, mLst, guardL]
theorem same_str {R : FD} {s : Str} (e : dEqC (.str s) (.str s) = some true) : runF 4 none (m__law_same R) [.str s, .str s] = .ok (.bl true) false .non := by
  have t := bl_eqC true
  have f := bl_eqC false
  simp [m__law_same, e, t, f, runF, initS, mRet, mAndV, mOrV, bind_eq, pure_eq, mCall, mCons, mNil, mVar, rdv, callAt, lent, ownAt, just, isLn, tst, dTru, asV, mChain, tst2, dLe, dLt, dGe, dGt, dIs, dIsNot, isNon, handed, outD, retRv, mIf, mOr, mAnd, mNotT, mTru, mSeq, mIsi, dIsi, tyD, tyLe, mOps, ops, mInt, mBl, mNon, mStr, mB, mU, op1, op2, mSet, store, free, DL.settle, DL.settles, mNotV, b2, mRetN, mNx, mDrop, mSeqI, items, mT2, okRet, noL, noLi, noLs, mYes, gSet, gUnp, gsCons, gsNil, mTup, mLst, guardL]
theorem same_ok : ∀ (n : Nat) (d : D), SD n d → F__law_same n [d, d] = .ok (.bl true) false .non
  | 0, _, h => h.elim
  | n + 1, d, h => by
    rcases h with ⟨i, rfl⟩ | ⟨k, rfl⟩ | ⟨s, rfl, e⟩ | ⟨xs, h1, h2, h3⟩
    · exact same_int
    · exact same_bl
    · exact same_str e
    · have c := same_list (R := F__law_same n) h1 h2 fun x hx => same_ok n x (h3 x hx)
      exact same_seq h1 c (dAll_true _ fun b hb => by
        obtain ⟨_, _, rfl⟩ := List.mem_map.mp hb
        rfl)
/-! what is such -/
theorem sd_int (i : Int) : SD 1 (.int i) := .inl ⟨i, rfl⟩
theorem sd_bl (k : Bool) : SD 1 (.bl k) := .inr (.inl ⟨k, rfl⟩)
theorem sd_lst {n : Nat} {xs : List D} (h : xs.length ≤ 100000) (hx : ∀ x ∈ xs, SD n x) : SD (n + 1) (.lst xs) := .inr (.inr (.inr ⟨xs, .inr rfl, h, hx⟩))
theorem sd_tup {n : Nat} {xs : List D} (h : xs.length ≤ 100000) (hx : ∀ x ∈ xs, SD n x) : SD (n + 1) (.tup xs) := .inr (.inr (.inr ⟨xs, .inl rfl, h, hx⟩))
theorem sd_row {l : List Nat} (h : l.length ≤ 100000) : SD 2 (eRow l) := sd_tup (by rw [List.length_map]; exact h) fun x hx => by
  obtain ⟨k, _, rfl⟩ := List.mem_map.mp hx
  exact sd_int _
theorem sd_rows {ls : List (List Nat)} (h : ls.length ≤ 100000) (h2 : ∀ l ∈ ls, l.length ≤ 100000) : SD 3 (.lst (ls.map eRow)) := sd_lst (by rw [List.length_map]; exact h) fun x hx => by
  obtain ⟨l, hl, rfl⟩ := List.mem_map.mp hx
  exact sd_row (h2 l hl)
theorem ins_mem' {x y : D} : ∀ {l : List D}, y ∈ DL.ins x l → y = x ∨ y ∈ l
  | [], h => by simp [DL.ins] at h; exact .inl h
  | z :: r, h => by
    unfold DL.ins at h
    split at h
    · rcases List.mem_cons.mp h with q | q
      · exact .inr (by rw [q]; exact List.mem_cons_self)
      · rcases ins_mem' q with q | q
        · exact .inl q
        · exact .inr (List.mem_cons_of_mem _ q)
    · rcases List.mem_cons.mp h with q | q
      · exact .inl q
      · exact .inr q
theorem isort_mem' {y : D} : ∀ {l : List D}, y ∈ isort l → y ∈ l
  | [], h => h
  | x :: r, h => by
    rcases ins_mem' h with q | q
    · rw [q]; exact List.mem_cons_self
    · exact List.mem_cons_of_mem _ (isort_mem' q)
theorem ins_len' (x : D) : ∀ l : List D, (DL.ins x l).length = l.length + 1
  | [] => rfl
  | z :: r => by
    unfold DL.ins
    split
    · simp [ins_len' x r]
    · simp
theorem isort_len' : ∀ l : List D, (isort l).length = l.length
  | [] => rfl
  | x :: r => by
    show (DL.ins x (isort r)).length = _
    rw [ins_len', isort_len' r]
    rfl
theorem sd_isort {ls : List (List Nat)} (h : ls.length ≤ 100000) (h2 : ∀ l ∈ ls, l.length ≤ 100000) : SD 3 (.lst (isort (ls.map eRow))) := sd_lst (by rw [isort_len', List.length_map]; exact h) fun x hx => by
  obtain ⟨l, hl, rfl⟩ := List.mem_map.mp (isort_mem' hx)
  exact sd_row (h2 l hl)
end K01

set_option Elab.async false
set_option linter.all false
set_option maxRecDepth 100000
namespace K01
open DL PySem
/-! ### paths are told in order -/
def natlex : List Nat → List Nat → Bool
  | [], [] => false
  | [], _ :: _ => true
  | _ :: _, [] => false
  | a :: as, b :: bs => if a = b then natlex as bs else decide (a < b)
theorem natlex_asym : ∀ {a b : List Nat}, natlex a b = true → natlex b a = false
  | [], [], _ => rfl
  | [], _ :: _, _ => rfl
  | _ :: _, [], h => by cases h
  | a :: as, b :: bs, h => by
    simp only [natlex] at h ⊢
    by_cases e : a = b
    · rw [if_pos e] at h
      rw [if_pos e.symm]
      exact natlex_asym h
    · rw [if_neg e] at h
      rw [if_neg (fun z => e z.symm)]
      have := of_decide_eq_true h
      exact decide_eq_false (by omega)
theorem natlex_snoc1 {k k' : Nat} : ∀ {a b : List Nat}, a.length = b.length → natlex a b = true → natlex (a ++ [k]) (b ++ [k']) = true
  | [], [], _, h => by cases h
  | [], _ :: _, h, _ => by cases h
  | _ :: _, [], h, _ => by cases h
  | a :: as, b :: bs, hl, h => by
    simp only [natlex, List.cons_append] at h ⊢
    by_cases e : a = b
    · rw [if_pos e] at h ⊢
      exact natlex_snoc1 (by simpa using hl) h
    · rw [if_neg e] at h ⊢
      exact h
theorem natlex_snoc2 {k k' : Nat} (h : k < k') : ∀ a : List Nat, natlex (a ++ [k]) (a ++ [k']) = true
  | [] => by
    simp only [natlex, List.nil_append]
    rw [if_neg (by omega)]
    exact decide_eq_true h
  | a :: as => by
    simp only [natlex, List.cons_append]
    rw [if_pos trivial]
    exact natlex_snoc2 h as
theorem zipIdx_up {α : Type} : ∀ (l : List α) (k : Nat), (l.zipIdx k).Pairwise fun a b => a.2 < b.2
  | [], _ => by simp
  | x :: l, k => by
    rw [List.zipIdx_cons]
    refine List.pairwise_cons.mpr ⟨fun b hb => ?_, zipIdx_up l (k + 1)⟩
    have := List.le_snd_of_mem_zipIdx hb
    show k < b.2
    omega
theorem nums_up (P : Nat × Nat → Bool) (rs : List (Nat × Nat)) : (nums P rs).Pairwise (· < ·) := by
  unfold nums
  rw [List.pairwise_map]
  exact (zipIdx_up rs 0).filter _
theorem walks_up (rs : List (Nat × Nat)) (p : Nat) : ∀ t, (walks rs p t).Pairwise fun a b => natlex a b = true
  | 0 => by simp [walks]
  | t + 1 => by
    show ((walks rs p t).flatMap (ons rs p)).Pairwise _
    rw [List.pairwise_flatMap]
    refine ⟨fun w _ => ?_, (walks_up rs p t).imp_of_mem fun {a b} ha hb h x hx y hy => ?_⟩
    · unfold ons
      rw [List.pairwise_map]
      exact (nums_up _ rs).imp fun {a b} h => natlex_snoc2 h w
    · unfold ons at hx hy
      obtain ⟨k, _, rfl⟩ := List.mem_map.mp hx
      obtain ⟨k', _, rfl⟩ := List.mem_map.mp hy
      exact natlex_snoc1 (by rw [(walks_lt ha).2, (walks_lt hb).2]) h
theorem lts_nat : ∀ a b : List Nat, DL.lts (eNs a) (eNs b) = natlex a b
  | [], [] => rfl
  | [], _ :: _ => rfl
  | _ :: _, [] => rfl
  | a :: as, b :: bs => by
    show DL.lts (eN a :: eNs as) (eN b :: eNs bs) = _
    simp only [DL.lts, natlex]
    rw [nat_beq, lt_nat, lts_nat as bs]
    by_cases e : a = b <;> simp [e]
theorem isort_id : ∀ {l : List D}, l.Pairwise (fun a b => D.lt b a = false) → isort l = l
  | [], _ => rfl
  | [x], _ => rfl
  | x :: y :: r, h => by
    obtain ⟨h1, h2⟩ := List.pairwise_cons.mp h
    show DL.ins x (isort (y :: r)) = _
    rw [isort_id h2]
    show (if D.lt y x then y :: DL.ins x r else x :: y :: r) = _
    rw [h1 y List.mem_cons_self]
    rfl
theorem walks_sorted (rs : List (Nat × Nat)) (p t : Nat) : isort ((walks rs p t).map eRow) = (walks rs p t).map eRow := by
  refine isort_id ?_
  rw [List.pairwise_map]
  refine (walks_up rs p t).imp fun {a b} h => ?_
  show DL.lts (eNs b) (eNs a) = false
  rw [lts_nat]
  exact natlex_asym h
/-! ### how many paths lead where -/
theorem nums_hd (P : Nat × Nat → Bool) (rs : List (Nat × Nat)) : (nums P rs).map (hd rs) = (rs.filter P).map (·.2) := by
  have key : ∀ q ∈ rs.zipIdx, hd rs q.2 = q.1.2 := fun q hq => by
    obtain ⟨r, k⟩ := q
    have := List.mk_mem_zipIdx_iff_getElem?.mp hq
    unfold hd
    rw [List.getD_eq_getElem?_getD, this]
    rfl
  unfold nums
  rw [List.map_map]
  have m := List.map_congr_left (l := rs.zipIdx.filter fun q => P q.1) (f := fun q : (Nat × Nat) × Nat => hd rs q.2) (g := fun q : (Nat × Nat) × Nat => q.1.2) (fun q hq => key q (List.mem_filter.mp hq).1)
  show List.map (fun q : (Nat × Nat) × Nat => hd rs q.2) _ = _
  rw [m]
  have e : (rs.filter P).map (·.2) = ((rs.zipIdx.map (·.1)).filter P).map (·.2) := by rw [List.zipIdx_map_fst]
  rw [e, List.filter_map, List.map_map]
  rfl
def cw (n : Nat) (rs : List (Nat × Nat)) (p t : Nat) : List Nat := (List.range n).map fun g => ((walks rs p t).map (lead rs p)).count g
theorem count_one (g e : Nat) : ∀ rs : List (Nat × Nat), ((rs.filter fun r => decide (r.1 = e)).map (·.2)).count g = ((rs.filter fun r => decide (r.2 = g)).map fun r => if r.1 = e then 1 else 0).sum
  | [] => rfl
  | (a, b) :: rs => by
    have ih := count_one g e rs
    by_cases h1 : a = e <;> by_cases h2 : b = g <;> simp [List.filter_cons, h1, h2, ih, List.count_cons] <;> omega
theorem sum_add (f g : Nat × Nat → Nat) : ∀ l : List (Nat × Nat), (l.map fun r => f r + g r).sum = (l.map f).sum + (l.map g).sum
  | [] => rfl
  | r :: l => by
    simp only [List.map_cons, List.sum_cons, sum_add f g l]
    omega
theorem count_flat (g : Nat) (rs : List (Nat × Nat)) : ∀ E : List Nat, (E.flatMap fun e => (rs.filter fun r => decide (r.1 = e)).map (·.2)).count g = ((rs.filter fun r => decide (r.2 = g)).map fun r => E.count r.1).sum
  | [] => by
    have z : ∀ l : List (Nat × Nat), (l.map fun r => ([] : List Nat).count r.1).sum = 0 := by
      intro l
      induction l with
      | nil => rfl
      | cons a l ih => rw [List.map_cons, List.sum_cons, ih]; rfl
    rw [z]
    rfl
  | e :: E => by
    rw [List.flatMap_cons, List.count_append, count_flat g rs E, count_one, ← sum_add]
    congr 1
    refine List.map_congr_left fun r _ => ?_
    rw [List.count_cons]
    by_cases h : r.1 = e
    · simp [h]; omega
    · have h' : ¬ e = r.1 := fun z => h z.symm
      simp [h, h']
theorem cw_next {n : Nat} {rs : List (Nat × Nat)} (w : WebOk n rs) (p t : Nat) : crow n rs (cw n rs p t) = cw n rs p (t + 1) := by
  unfold crow
  show _ = (List.range n).map _
  refine List.map_congr_left fun g _ => ?_
  have e : (walks rs p (t + 1)).map (lead rs p) = ((walks rs p t).map (lead rs p)).flatMap fun e => (rs.filter fun r => decide (r.1 = e)).map (·.2) := by
    show ((walks rs p t).flatMap (ons rs p)).map (lead rs p) = _
    rw [List.map_flatMap, List.flatMap_map]
    congr 1
    funext v
    unfold ons
    rw [List.map_map, ← nums_hd]
    refine List.map_congr_left fun k _ => ?_
    exact lead_snoc rs p v k
  rw [e, count_flat]
  congr 1
  refine List.map_congr_left fun r hr => ?_
  have hr1 := (w.lt r (List.mem_filter.mp hr).1).1
  unfold cw
  rw [List.getD_eq_getElem?_getD, List.getElem?_map, List.getElem?_range hr1]
  rfl
theorem crows_cw {n : Nat} {rs : List (Nat × Nat)} (w : WebOk n rs) : ∀ t, crows n rs t = (List.range n).map fun p => cw n rs p t
  | 0 => by
    show (List.range n).map (crow0 n) = _
    refine List.map_congr_left fun p _ => ?_
    unfold crow0 cw
    refine List.map_congr_left fun g _ => ?_
    simp [walks, lead_nil, List.count_cons]
  | t + 1 => by
    show (crows n rs t).map (crow n rs) = _
    rw [crows_cw w t, List.map_map]
    exact List.map_congr_left fun p _ => cw_next w p t
end K01

set_option Elab.async false
set_option linter.all false
set_option maxRecDepth 100000
namespace K01
open DL PySem
theorem seq_nx {a b : M Fl} {σ σ1 : Sg} (h : a σ = .ok .nx σ1) : mSeq a b σ = b σ1 := by
  unfold mSeq
  rw [ok_bind h]
def Fr (s : Sl) : Prop := s = .no ∨ (∃ d, s = .sh d) ∨ ∃ d, s = .ow false d
theorem Fr.no : Fr .no := .inl rfl
theorem Fr.sh {d : D} : Fr (.sh d) := .inr (.inl ⟨d, rfl⟩)
theorem Fr.ow {d : D} : Fr (.ow false d) := .inr (.inr ⟨d, rfl⟩)
theorem set_v {i : Nat} {m : M Rv} {d : D} {σ σ1 : Sg} (h : m σ = .ok (.v d) σ1) (f : free σ1 i = true) : mSet i m σ = .ok .nx (σ1.set i (.sh d)) := by
  unfold mSet
  rw [ok_bind h, bind_eq]
  simp [store, f, pure_eq]
theorem set_fr {i : Nat} {m : M Rv} {d : D} {σ σ1 : Sg} (h : m σ = .ok (.fr d) σ1) (f : free σ1 i = true) : mSet i m σ = .ok .nx (σ1.set i (.ow false d)) := by
  unfold mSet
  rw [ok_bind h, bind_eq]
  simp [store, f, pure_eq]
/-- a test of the law that holds -/
theorem same_nx {a b : M Rv} {ra rb : Rv} {X : D} {σ σ1 σ2 : Sg} (ha : a σ = .ok ra σ1) (hb : b σ1 = .ok rb σ2) (h1 : rdv σ2 ra = some X) (h2 : rdv σ2 rb = some X) (s : SD 12 X) :
    mIf (mNotT (mTru (mCall 2 none (F__law_same 12) (mCons a (mCons b mNil))))) (mRet (mBl false)) mNx σ = .ok .nx σ2 := by
  have e := same_ok 12 X s
  have l : callAt none (F__law_same 12) [ra, rb] σ2 = .ok (.v (.bl true)) σ2 := by
    simp [callAt, h1, h2, e, okRet, noL, retRv]
  simp [mIf, mNotT, mTru, mCall, mCons, mNil, bind_eq, ha, hb, pure_eq, l, tst, rdv, dTru, mNx]
end K01

set_option Elab.async false
set_option linter.all false
set_option maxRecDepth 100000
namespace K01
open DL PySem
abbrev eI (l : List Int) : D := .lst (l.map D.int)
theorem ix_int {l : List Int} {k : Nat} (h : k < l.length) : dIx (eI l) (eN k) = some (.v (.int l[k])) := by
  rw [ix_lst (by rw [List.length_map]; exact h)]
  simp
theorem noLi_int (l : List Int) : noLi (eI l) = true := by
  show noLs (l.map D.int) = true
  induction l with
  | nil => rfl
  | cons a l ih => show (noL (.int a) && noLs (l.map D.int)) = true; rw [ih]; rfl
theorem box_a {L : D} {k len : Nat} {b a p x y z : Int} (h : k < len) (hl : dLen [L] = some (.v (eN len))) (i : dIx L (eN k) = some (.v (.int b))) (e1 : dAbs [.int b] = some (.v (.int a))) (e2 : dPow (.int 10) (.int 18) = some (.v (.int p))) (e3 : dMul (.int a) (.int (if p ≤ a then 1 else 0)) = some (.v (.int x)))
    (e4 : dMod (.int b) (.int 2305843009213693951) = some (.v (.int y))) (e5 : dMul (.int 39373) (eN k) = some (.v (.int z))) : F__law_box [L, eN k] = .ok (.lst [.int x, .int (y + z + 8900000), .int 0]) true .non := by
  have three : (3 : Nat) ≤ lim := by decide
  have hk : (k : Int) < len := by omega
  by_cases q : p ≤ a
  · rw [if_pos q] at e3
    simp [F__law_box, m__law_box, hl, i, e1, e2, e3, e4, e5, q, three, hk, dInt, dAdd, runF, initS, mRet, mAndV, mOrV, bind_eq, pure_eq, mCall, mCons, mNil, mVar, rdv, callAt, lent, ownAt, just, isLn, tst, dTru, asV, mChain, tst2, dLe, dLt, dGe, dGt, dIs, dIsNot, isNon, handed, outD, retRv, mIf, mOr, mAnd, mNotT, mTru, mSeq, mIsi, dIsi, tyD, tyLe, mOps, ops, mInt, mBl, mNon, mStr, mB, mU, op1, op2, mSet, store, free, DL.settle, DL.settles, mNotV, b2, mRetN, mNx, mDrop, mSeqI, items, mT2, okRet, noL, noLi, noLs, mYes, gSet, gUnp, gsCons, gsNil, mTup, mLst, guardL]
  · rw [if_neg q] at e3
    simp [F__law_box, m__law_box, hl, i, e1, e2, e3, e4, e5, q, three, hk, dInt, dAdd, runF, initS, mRet, mAndV, mOrV, bind_eq, pure_eq, mCall, mCons, mNil, mVar, rdv, callAt, lent, ownAt, just, isLn, tst, dTru, asV, mChain, tst2, dLe, dLt, dGe, dGt, dIs, dIsNot, isNon, handed, outD, retRv, mIf, mOr, mAnd, mNotT, mTru, mSeq, mIsi, dIsi, tyD, tyLe, mOps, ops, mInt, mBl, mNon, mStr, mB, mU, op1, op2, mSet, store, free, DL.settle, DL.settles, mNotV, b2, mRetN, mNx, mDrop, mSeqI, items, mT2, okRet, noL, noLi, noLs, mYes, gSet, gUnp, gsCons, gsNil, mTup, mLst, guardL]
theorem box_ok {l : List Int} {k : Nat} (h : k < l.length) (h2 : l.length ≤ 2) : ∃ t, Box 0 t ∧ F__law_box [eI l, eN k] = .ok t true .non := by
  have e3 : ∀ a p : Int, ∃ x, dMul (.int a) (.int (if p ≤ a then 1 else 0)) = some (.v (.int x)) := fun a p => ⟨_, mul_r (by split <;> decide) (by split <;> decide)⟩
  have e2 : dPow (.int 10) (.int 18) = some (.v (.int (10 ^ 18))) := rfl
  obtain ⟨x, e⟩ := e3 (if l[k] < 0 then -l[k] else l[k]) (10 ^ 18)
  have hl : dLen [eI l] = some (.v (eN l.length)) := by
    show some (Rv.v (D.int ((l.map D.int).length : Nat))) = _
    rw [List.length_map]
  exact ⟨.lst [.int x, .int (l[k] % 2305843009213693951 + 39373 * k + 8900000), .int 0], ⟨_, _, _, rfl, Int.le_refl _, Int.le_refl _⟩, box_a (len := l.length) h hl (ix_int h) rfl e2 e (mod_p (by decide)) (mul_l (by decide) (by decide))⟩
/-! ### the script's cells -/
theorem enum_it {A M : D} {L : List D} {C : Sl} {Q : List D} (e : dSl A (some 2) (some 63) = some (.fr (.lst L))) (z : (L.zipIdx.map fun p => D.tup [.int (p.2 : Nat), p.1]) = Q) : mEnum (mSlice (mVar 0) (mOpt (mVar 1)) (mOpt (mInt 63))) [.sh A, .sh (.int 2), C, .no, .no, .no] = .ok Q [.sh A, .sh (.int 2), C, .no, .no, .no] := by
  subst z
  simp [mEnum, mSlice, mOpt, part, e, runF, initS, mRet, mAndV, mOrV, bind_eq, pure_eq, mCall, mCons, mNil, mVar, rdv, callAt, lent, ownAt, just, isLn, tst, dTru, asV, mChain, tst2, dLe, dLt, dGe, dGt, dIs, dIsNot, isNon, handed, outD, retRv, mIf, mOr, mAnd, mNotT, mTru, mSeq, mIsi, dIsi, tyD, tyLe, mOps, ops, mInt, mBl, mNon, mStr, mB, mU, op1, op2, mSet, store, free, DL.settle, DL.settles, mNotV, b2, mRetN, mNx, mDrop, mSeqI, items, mT2, okRet, noL, noLi, noLs, mYes, gSet, gUnp, gsCons, gsNil, mTup, mLst, guardL]
theorem cells_turn {A x k K at' Z : D} {C C' : List D} {s3 s4 s5 : Sl} {b c m : Int} {j : Nat} (k3 : s3 = .no ∨ ∃ d, s3 = .sh d) (k4 : s4 = .no ∨ ∃ d, s4 = .sh d) (k5 : s5 = .no ∨ ∃ d, s5 = .sh d) {kk : Int}
    (e1 : dMod (.int kk) (.int 2) = some (.v (.int j))) (e2 : dIx (.lst C) (.int j) = some (.v (.int c))) (e3 : dMul (.int b) (.int (kk + 2)) = some (.v (.int m))) (e4 : L2.ixN C.length (j : Int) = some j) :
    mTurn (gUnp 2 (gsCons (gSet 3) (gsCons (gSet 4) (gsNil)))) (mSeq (mSet 5 (mB dMod (mOps dInt (mCons (mVar 3) (mNil))) (mVar 1))) (mDrop (mSetAt 2 (mB dAdd (mB dIx (mVar 2) (mVar 5)) (mB dMul (mVar 4) (mB dAdd (mVar 3) (mInt 2)))) (mVar 5)))) (.tup [.int kk, .int b]) [.sh A, .sh (.int 2), .ow false (.lst C), s3, s4, s5] =
    .ok .nx [.sh A, .sh (.int 2), .ow false (.lst (C.set j (.int (c + m)))), .sh (.int kk), .sh (.int b), .sh (.int j)] := by
  rcases k3 with rfl | ⟨d, rfl⟩ <;> rcases k4 with rfl | ⟨d', rfl⟩ <;> rcases k5 with rfl | ⟨d'', rfl⟩ <;> simp [mTurn, e1, e2, e3, e4, dInt, dAdd, mSetAt, ownL, wrL, asK, runF, initS, mRet, mAndV, mOrV, bind_eq, pure_eq, mCall, mCons, mNil, mVar, rdv, callAt, lent, ownAt, just, isLn, tst, dTru, asV, mChain, tst2, dLe, dLt, dGe, dGt, dIs, dIsNot, isNon, handed, outD, retRv, mIf, mOr, mAnd, mNotT, mTru, mSeq, mIsi, dIsi, tyD, tyLe, mOps, ops, mInt, mBl, mNon, mStr, mB, mU, op1, op2, mSet, store, free, DL.settle, DL.settles, mNotV, b2, mRetN, mNx, mDrop, mSeqI, items, mT2, okRet, noL, noLi, noLs, mYes, gSet, gUnp, gsCons, gsNil, mTup, mLst, guardL]
end K01

set_option Elab.async false
set_option linter.all false
set_option maxRecDepth 100000
namespace K01
open DL PySem
def rot {α : Type} (l : List α) : List α := l.drop 1 ++ l.take 1
/-- a round -/
structure IsRd (rs : List (Nat × Nat)) (l : List Nat) : Prop where
  ne : l ≠ []
  lt : ∀ k ∈ l, k < rs.length
  nd : (l.map (tl rs)).Nodup
  mn : ∀ k ∈ l, l.headD 0 ≤ k
  cl : l.map (hd rs) = rot (l.map (tl rs))
/-- roads that lead from a place to a place -/
def Lk (rs : List (Nat × Nat)) : Nat → List Nat → Nat → Prop
  | p, [], q => p = q
  | p, k :: r, q => tl rs k = p ∧ Lk rs (hd rs k) r q
theorem lk_app {rs : List (Nat × Nat)} {b : List Nat} {q : Nat} : ∀ {a : List Nat} {p : Nat}, Lk rs p (a ++ b) q ↔ ∃ x, Lk rs p a x ∧ Lk rs x b q
  | [], p => ⟨fun h => ⟨p, rfl, h⟩, fun ⟨x, h, h2⟩ => by rw [show p = x from h]; exact h2⟩
  | k :: r, p => by
    show (tl rs k = p ∧ Lk rs (hd rs k) (r ++ b) q) ↔ _
    rw [lk_app]
    constructor
    · rintro ⟨h, x, h1, h2⟩
      exact ⟨x, ⟨h, h1⟩, h2⟩
    · rintro ⟨x, ⟨h, h1⟩, h2⟩
      exact ⟨h, x, h1, h2⟩
theorem lk_lead {rs : List (Nat × Nat)} {q : Nat} (d : Nat) {l : List Nat} {p : Nat} (h : Lk rs p l q) (hn : l ≠ []) : lead rs d l = q := by
  rcases getN l with rfl | ⟨m, x, rfl⟩
  · exact absurd rfl hn
  · rw [lead_snoc]
    obtain ⟨y, _, h2⟩ := lk_app.mp h
    exact h2.2
theorem lk_cl {rs : List (Nat × Nat)} {q : Nat} : ∀ {r : List Nat} {a : Nat}, Lk rs (tl rs a) (a :: r) q ↔ (a :: r).map (hd rs) = r.map (tl rs) ++ [q]
  | [], a => by
    show (tl rs a = tl rs a ∧ hd rs a = q) ↔ [hd rs a] = [q]
    simp
  | b :: r, a => by
    have ih := lk_cl (rs := rs) (q := q) (r := r) (a := b)
    show (tl rs a = tl rs a ∧ Lk rs (hd rs a) (b :: r) q) ↔ hd rs a :: (b :: r).map (hd rs) = tl rs b :: (r.map (tl rs) ++ [q])
    rw [List.cons.injEq, ← ih]
    constructor
    · rintro ⟨_, h1, h2⟩
      exact ⟨h1.symm, rfl, h2⟩
    · rintro ⟨h0, _, h2⟩
      exact ⟨rfl, h0.symm, h2⟩
theorem IsRd.lk {rs : List (Nat × Nat)} {a : Nat} {r : List Nat} (h : IsRd rs (a :: r)) : Lk rs (tl rs a) (a :: r) (tl rs a) := lk_cl.mpr h.cl
theorem path_lk {rs : List (Nat × Nat)} {p : Nat} {l : List Nat} (h : Path rs p l) : Lk rs p l (lead rs p l) := by
  induction h with
  | nil => rfl
  | snoc _ hk ih =>
    rw [lead_snoc]
    exact lk_app.mpr ⟨_, ih, (outs_mem.mp hk).2, rfl⟩
theorem lk_path {rs : List (Nat × Nat)} {p : Nat} : ∀ (N : Nat) {l : List Nat} {q : Nat}, l.length ≤ N → Lk rs p l q → (∀ k ∈ l, k < rs.length) → Path rs p l
  | 0, l, q, hN, h, hk => by
    have : l = [] := List.eq_nil_of_length_eq_zero (by omega)
    subst this
    exact .nil
  | N + 1, l, q, hN, h, hk => by
    rcases getN l with rfl | ⟨m, x, rfl⟩
    · exact .nil
    · obtain ⟨y, h1, h2⟩ := lk_app.mp h
      have pm := lk_path N (by simp only [List.length_append, List.length_singleton] at hN; omega) h1 fun k hk' => hk k (List.mem_append_left _ hk')
      refine .snoc pm (outs_mem.mpr ⟨hk x (by simp), ?_⟩)
      rw [h2.1]
      by_cases e : m = []
      · subst e; exact h1.symm
      · exact (lk_lead p h1 e).symm
theorem not_nodup {f : Nat → Nat} : ∀ {l : List Nat}, ¬ (l.map f).Nodup → ∃ a x b y c, l = a ++ x :: (b ++ y :: c) ∧ f x = f y
  | [], h => absurd (by simp) h
  | k :: l, h => by
    by_cases h1 : f k ∈ l.map f
    · obtain ⟨y, hy, e⟩ := List.mem_map.mp h1
      obtain ⟨b, c, rfl⟩ := List.append_of_mem hy
      exact ⟨[], k, b, y, c, rfl, e.symm⟩
    · have h2 : ¬ (l.map f).Nodup := fun z => h (by rw [List.map_cons]; exact List.nodup_cons.mpr ⟨h1, z⟩)
      obtain ⟨a, x, b, y, c, rfl, e⟩ := not_nodup h2
      exact ⟨k :: a, x, b, y, c, rfl, e⟩
theorem inj_nd {f : Nat → Nat} : ∀ {l : List Nat}, (l.map f).Nodup → ∀ {k j : Nat}, k ∈ l → j ∈ l → f k = f j → k = j
  | [], _, _, _, h, _, _ => by cases h
  | a :: l, h, k, j, hk, hj, e => by
    rw [List.map_cons] at h
    obtain ⟨h1, h2⟩ := List.nodup_cons.mp h
    rcases List.mem_cons.mp hk with q | q <;> rcases List.mem_cons.mp hj with z | z
    · rw [q, z]
    · exact absurd (List.mem_map.mpr ⟨j, z, by rw [← e, q]⟩) h1
    · exact absurd (List.mem_map.mpr ⟨k, q, by rw [e, z]⟩) h1
    · exact inj_nd h2 q z e
theorem simple_of {rs : List (Nat × Nat)} {q : Nat} : ∀ (N : Nat) (l : List Nat), l.length ≤ N → l ≠ [] → (∀ k ∈ l, k < rs.length) → Lk rs q l q → ∃ m, m ≠ [] ∧ (∀ k ∈ m, k < rs.length) ∧ Lk rs q m q ∧ (m.map (tl rs)).Nodup
  | 0, l, hN, hn, _, _ => absurd (List.eq_nil_of_length_eq_zero (by omega)) hn
  | N + 1, l, hN, hn, hk, h => by
    by_cases nd : (l.map (tl rs)).Nodup
    · exact ⟨l, hn, hk, h, nd⟩
    · obtain ⟨a, x, b, y, c, rfl, e⟩ := not_nodup nd
      obtain ⟨u, h1, h2⟩ := lk_app.mp h
      obtain ⟨h3, h4⟩ := h2
      obtain ⟨v, h5, h6⟩ := lk_app.mp h4
      refine simple_of N (a ++ y :: c) ?_ (by simp) (fun k hk' => hk k ?_) (lk_app.mpr ⟨u, h1, ?_⟩)
      · simp only [List.length_append, List.length_cons] at hN ⊢
        omega
      · rcases List.mem_append.mp hk' with z | z
        · exact List.mem_append_left _ z
        · exact List.mem_append_right _ (List.mem_cons_of_mem _ (List.mem_append_right _ z))
      · exact ⟨by rw [← e, h3], h6.2⟩
theorem has_min : ∀ {l : List Nat}, l ≠ [] → ∃ k ∈ l, ∀ j ∈ l, k ≤ j
  | [], h => absurd rfl h
  | [a], _ => ⟨a, by simp, fun j hj => by simp at hj; omega⟩
  | a :: b :: r, _ => by
    obtain ⟨k, hk, h⟩ := has_min (l := b :: r) (by simp)
    by_cases z : a ≤ k
    · refine ⟨a, by simp, fun j hj => ?_⟩
      rcases List.mem_cons.mp hj with q | q
      · omega
      · have := h j q; omega
    · refine ⟨k, List.mem_cons_of_mem _ hk, fun j hj => ?_⟩
      rcases List.mem_cons.mp hj with q | q
      · omega
      · exact h j q
theorem round_of {rs : List (Nat × Nat)} {q : Nat} {l : List Nat} (hn : l ≠ []) (hk : ∀ k ∈ l, k < rs.length) (h : Lk rs q l q) (nd : (l.map (tl rs)).Nodup) : ∃ m, IsRd rs m ∧ q ∈ m.map (tl rs) := by
  have hq : q ∈ l.map (tl rs) := by
    cases l with
    | nil => exact absurd rfl hn
    | cons x r => exact List.mem_map.mpr ⟨x, List.mem_cons_self, h.1⟩
  obtain ⟨k, hk', hmin⟩ := has_min hn
  obtain ⟨a, b, rfl⟩ := List.append_of_mem hk'
  obtain ⟨u, h1, h2, h3⟩ := lk_app.mp h
  have pm : (a ++ k :: b).Perm (k :: b ++ a) := List.perm_append_comm
  have pl : Lk rs (tl rs k) (k :: (b ++ a)) (tl rs k) := ⟨rfl, lk_app.mpr ⟨q, h3, by rw [h2]; exact h1⟩⟩
  refine ⟨k :: (b ++ a), ⟨by simp, fun j hj => hk j (pm.mem_iff.mpr hj), (pm.map (tl rs)).nodup_iff.mp nd, fun j hj => hmin j (pm.mem_iff.mpr hj), ?_⟩, (pm.map (tl rs)).mem_iff.mp hq⟩
  exact lk_cl.mp pl
/-! ### reached -/
theorem reach_lk {rs : List (Nat × Nat)} {p q : Nat} (h : Reach rs p q) : ∃ l, (∀ k ∈ l, k < rs.length) ∧ Lk rs p l q := by
  induction h with
  | refl => exact ⟨[], by simp, rfl⟩
  | @step a b _ hb ih =>
    obtain ⟨l, h1, h2⟩ := ih
    obtain ⟨j, hj, e⟩ := List.getElem_of_mem hb
    have t1 : tl rs j = a := by
      unfold tl; rw [List.getD_eq_getElem?_getD, List.getElem?_eq_getElem hj, e]; rfl
    have t2 : hd rs j = b := by
      unfold hd; rw [List.getD_eq_getElem?_getD, List.getElem?_eq_getElem hj, e]; rfl
    refine ⟨l ++ [j], fun k hk => ?_, lk_app.mpr ⟨a, h2, t1, t2⟩⟩
    rcases List.mem_append.mp hk with z | z
    · exact h1 k z
    · simp at z; subst z; exact hj
theorem road_in {rs : List (Nat × Nat)} {k : Nat} (h : k < rs.length) : (tl rs k, hd rs k) ∈ rs := by
  unfold tl hd
  rw [List.getD_eq_getElem?_getD, List.getElem?_eq_getElem h]
  exact List.getElem_mem h
theorem lk_reach {rs : List (Nat × Nat)} {q : Nat} : ∀ {l : List Nat} {p : Nat}, (∀ k ∈ l, k < rs.length) → Lk rs p l q → Reach rs p q
  | [], p, _, h => by rw [show p = q from h]; exact .refl
  | k :: r, p, hk, h => by
    have r1 := lk_reach (fun j hj => hk j (List.mem_cons_of_mem _ hj)) h.2
    rw [← h.1]
    exact .head (road_in (hk k List.mem_cons_self)) r1
section
variable {n : Nat} {rs : List (Nat × Nat)}
theorem tl_lt (w : WebOk n rs) {k : Nat} (h : k < rs.length) : tl rs k < n := (w.lt _ (road_in h)).1
theorem closed_cyc (w : WebOk n rs) {x : Nat} {b : List Nat} (hk : ∀ k ∈ x :: b, k < rs.length) (h : Lk rs (tl rs x) (x :: b) (tl rs x)) : Cyc n rs (tl rs x) :=
  ⟨x, outs_mem.mpr ⟨hk x List.mem_cons_self, rfl⟩, reachL_mem.mpr ⟨tl_lt w (hk x List.mem_cons_self), lk_reach (fun j hj => hk j (List.mem_cons_of_mem _ hj)) h.2⟩⟩
theorem cyc_iff (w : WebOk n rs) {q : Nat} : Cyc n rs q ↔ ∃ l, IsRd rs l ∧ q ∈ l.map (tl rs) := by
  constructor
  · rintro ⟨k, hk, hr⟩
    obtain ⟨l, h1, h2⟩ := reach_lk (reachL_mem.mp hr).2
    obtain ⟨k1, k2⟩ := outs_mem.mp hk
    obtain ⟨m, m1, m2, m3, m4⟩ := simple_of (rs := rs) (q := q) (k :: l).length (k :: l) (Nat.le_refl _) (by simp) (fun j hj => by
      rcases List.mem_cons.mp hj with z | z
      · rw [z]; exact k1
      · exact h1 j z) ⟨k2, h2⟩
    exact round_of m1 m2 m3 m4
  · rintro ⟨l, h, hq⟩
    obtain ⟨k, hk, rfl⟩ := List.mem_map.mp hq
    cases hl : l with
    | nil => rw [hl] at hk; cases hk
    | cons x r =>
      rw [hl] at h
      have hlk := h.lk
      rw [← hl] at hlk h
      obtain ⟨a, b, e⟩ := List.append_of_mem hk
      rw [e] at hlk
      obtain ⟨u, h1, h2, h3⟩ := lk_app.mp hlk
      have hlt := h.lt
      rw [e] at hlt
      refine closed_cyc w (x := k) (b := b ++ a) (fun j hj => hlt j ?_) ⟨rfl, lk_app.mpr ⟨_, h3, by rw [h2]; exact h1⟩⟩
      rcases List.mem_cons.mp hj with z | z
      · rw [z]; simp
      · rcases List.mem_append.mp z with z | z
        · exact List.mem_append_right _ (List.mem_cons_of_mem _ z)
        · exact List.mem_append_left _ z
theorem cyc_next (w : WebOk n rs) {q : Nat} (h : Cyc n rs q) : ∃ k ∈ outs rs q, Cyc n rs (hd rs k) := by
  obtain ⟨k, hk, hr⟩ := h
  obtain ⟨k1, k2⟩ := outs_mem.mp hk
  obtain ⟨l, h1, h2⟩ := reach_lk (reachL_mem.mp hr).2
  refine ⟨k, hk, ?_⟩
  cases l with
  | nil =>
    rw [show hd rs k = q from h2]
    exact ⟨k, hk, hr⟩
  | cons x r =>
    have e := h2.1
    rw [← e]
    refine closed_cyc w (x := x) (b := r ++ [k]) (fun j hj => ?_) ⟨rfl, lk_app.mpr ⟨q, h2.2, k2, by rw [e]; rfl⟩⟩
    rcases List.mem_cons.mp hj with z | z
    · rw [z]; exact h1 x List.mem_cons_self
    · rcases List.mem_append.mp z with z | z
      · exact h1 j (List.mem_cons_of_mem _ z)
      · simp at z; subst z; exact k1
theorem cyc_walk (w : WebOk n rs) : ∀ (t : Nat) {q : Nat}, Cyc n rs q → ∃ l z, l.length = t ∧ (∀ k ∈ l, k < rs.length) ∧ Lk rs q l z
  | 0, q, _ => ⟨[], q, rfl, by simp, rfl⟩
  | t + 1, q, h => by
    obtain ⟨k, hk, hc⟩ := cyc_next w h
    obtain ⟨k1, k2⟩ := outs_mem.mp hk
    obtain ⟨l, z, h1, h2, h3⟩ := cyc_walk w t hc
    refine ⟨k :: l, z, by simp [h1], fun j hj => ?_, k2, h3⟩
    rcases List.mem_cons.mp hj with q | q
    · rw [q]; exact k1
    · exact h2 j q
theorem long_cyc (w : WebOk n rs) {p : Nat} {l : List Nat} (hp : p < n) (h : Path rs p l) (hl : l.length = n) : ∃ q, Cyc n rs q := by
  have hk := h.lt
  have lk := path_lk h
  by_cases nd : (l.map (tl rs)).Nodup
  · have one := w.one
    have hne : l ≠ [] := fun z => by rw [z] at hl; simp at hl; omega
    have sub : ∀ x ∈ l.map (tl rs), x ∈ List.range n := fun x hx => by
      obtain ⟨k, hk', rfl⟩ := List.mem_map.mp hx
      exact List.mem_range.mpr (tl_lt w (hk k hk'))
    have lt : lead rs p l < n := by
      rcases getN l with e | ⟨m, x, e⟩
      · exact absurd e hne
      · rw [e, lead_snoc]; exact hd_lt w (hk x (by rw [e]; simp))
    have hin : lead rs p l ∈ l.map (tl rs) := Classical.byContradiction fun z => by
      have := nodup_len (m := List.range n) (List.nodup_cons.mpr ⟨z, nd⟩) fun x hx => by
        rcases List.mem_cons.mp hx with q | q
        · rw [q]; exact List.mem_range.mpr lt
        · exact sub x q
      rw [List.length_range, List.length_cons, List.length_map, hl] at this
      omega
    obtain ⟨x, hx, e⟩ := List.mem_map.mp hin
    obtain ⟨a, b, rfl⟩ := List.append_of_mem hx
    obtain ⟨u, h1, h2⟩ := lk_app.mp lk
    refine ⟨tl rs x, closed_cyc w (b := b) (fun j hj => hk j (List.mem_append_right _ hj)) ?_⟩
    have e2 := h2.1
    rw [← e, ← e2] at h2
    exact h2
  · obtain ⟨a, x, b, y, c, rfl, e⟩ := not_nodup nd
    obtain ⟨u, h1, h2, h3⟩ := lk_app.mp lk
    obtain ⟨v, h4, h5⟩ := lk_app.mp h3
    refine ⟨tl rs x, closed_cyc w (b := b) (fun j hj => hk j (List.mem_append_right _ ?_)) ⟨rfl, ?_⟩⟩
    · rcases List.mem_cons.mp hj with q | q
      · rw [q]; simp
      · exact List.mem_cons_of_mem _ (List.mem_append_left _ q)
    · rw [e, h5.1]; exact h4
theorem walks_mem {p : Nat} : ∀ {t : Nat} {l : List Nat}, l ∈ walks rs p t ↔ Path rs p l ∧ l.length = t := by
  intro t l
  constructor
  · intro h
    refine ⟨?_, (walks_lt h).2⟩
    induction t generalizing l with
    | zero => simp [walks] at h; subst h; exact .nil
    | succ t ih =>
      simp only [walks, List.mem_flatMap, ons, List.mem_map] at h
      obtain ⟨v, hv, k, hk, rfl⟩ := h
      exact .snoc (ih hv) hk
  · rintro ⟨h, rfl⟩
    induction h with
    | nil => simp [walks]
    | @snoc l k _ hk ih =>
      rw [List.length_append, List.length_singleton]
      simp only [walks, List.mem_flatMap, ons, List.mem_map]
      exact ⟨l, ih, k, hk, rfl⟩
end
end K01

set_option Elab.async false
set_option linter.all false
set_option maxRecDepth 100000
namespace K01
open DL PySem
/-! ### rows of numbers in order -/
def rins (x : List Nat) : List (List Nat) → List (List Nat)
  | [] => [x]
  | y :: r => if natlex y x = true then y :: rins x r else x :: y :: r
def rsort : List (List Nat) → List (List Nat)
  | [] => []
  | x :: r => rins x (rsort r)
theorem rins_ins (x : List Nat) : ∀ l : List (List Nat), DL.ins (eRow x) (l.map eRow) = (rins x l).map eRow
  | [] => rfl
  | y :: r => by
    show (if D.lt (eRow y) (eRow x) then eRow y :: DL.ins (eRow x) (r.map eRow) else eRow x :: eRow y :: r.map eRow) = (if natlex y x = true then y :: rins x r else x :: y :: r).map eRow
    rw [rins_ins x r]
    have e : D.lt (eRow y) (eRow x) = natlex y x := lts_nat y x
    rw [e]
    cases natlex y x <;> rfl
theorem isort_row : ∀ l : List (List Nat), isort (l.map eRow) = (rsort l).map eRow
  | [] => rfl
  | x :: r => by
    show DL.ins (eRow x) (isort (r.map eRow)) = _
    rw [isort_row r, rins_ins]
    rfl
theorem natlex_irr : ∀ a : List Nat, natlex a a = false
  | [] => rfl
  | a :: as => by
    simp only [natlex]
    rw [if_pos trivial]
    exact natlex_irr as
theorem natlex_tot : ∀ {a b : List Nat}, natlex a b = false → a ≠ b → natlex b a = true
  | [], [], _, h => absurd rfl h
  | [], _ :: _, h, _ => by cases h
  | _ :: _, [], _, _ => rfl
  | a :: as, b :: bs, h, hn => by
    simp only [natlex] at h ⊢
    by_cases e : a = b
    · subst e
      rw [if_pos rfl] at h ⊢
      exact natlex_tot h fun z => hn (by rw [z])
    · rw [if_neg e] at h
      rw [if_neg (fun z => e z.symm)]
      have := of_decide_eq_false h
      exact decide_eq_true (by omega)
theorem natlex_trans : ∀ {a b c : List Nat}, natlex a b = true → natlex b c = true → natlex a c = true
  | [], [], _, h, _ => by cases h
  | [], _ :: _, [], _, h => by cases h
  | [], _ :: _, _ :: _, _, _ => rfl
  | _ :: _, [], _, h, _ => by cases h
  | _ :: _, _ :: _, [], _, h => by cases h
  | a :: as, b :: bs, c :: cs, h1, h2 => by
    simp only [natlex] at h1 h2 ⊢
    by_cases e1 : a = b
    · subst e1
      rw [if_pos rfl] at h1
      by_cases e2 : a = c
      · rw [if_pos e2] at h2 ⊢
        exact natlex_trans h1 h2
      · rw [if_neg e2] at h2 ⊢
        exact h2
    · rw [if_neg e1] at h1
      have q1 := of_decide_eq_true h1
      by_cases e2 : b = c
      · subst e2
        rw [if_neg e1]
        exact h1
      · rw [if_neg e2] at h2
        have q2 := of_decide_eq_true h2
        rw [if_neg (by omega)]
        exact decide_eq_true (by omega)
theorem rins_mem {x k : List Nat} : ∀ {l : List (List Nat)}, k ∈ rins x l ↔ k = x ∨ k ∈ l
  | [] => by simp [rins]
  | y :: r => by
    unfold rins
    split
    · rw [List.mem_cons, rins_mem, List.mem_cons]
      constructor
      · rintro (h | h | h)
        · exact .inr (.inl h)
        · exact .inl h
        · exact .inr (.inr h)
      · rintro (h | h | h)
        · exact .inr (.inl h)
        · exact .inl h
        · exact .inr (.inr h)
    · simp
theorem rsort_mem {k : List Nat} : ∀ {l : List (List Nat)}, k ∈ rsort l ↔ k ∈ l
  | [] => by simp [rsort]
  | x :: r => by
    unfold rsort
    rw [rins_mem, rsort_mem, List.mem_cons]
abbrev Up (l : List (List Nat)) : Prop := l.Pairwise fun a b => natlex a b = true
theorem rins_up {x : List Nat} : ∀ {l : List (List Nat)}, Up l → x ∉ l → Up (rins x l)
  | [], _, _ => by simp [rins, Up]
  | y :: r, h, hx => by
    obtain ⟨h1, h2⟩ := List.pairwise_cons.mp h
    have hne : x ≠ y := fun e => hx (e ▸ List.mem_cons_self)
    unfold rins
    split
    · rename_i hlt
      refine List.pairwise_cons.mpr ⟨fun z hz => ?_, rins_up h2 fun z => hx (List.mem_cons_of_mem _ z)⟩
      rcases rins_mem.mp hz with q | q
      · rw [q]; exact hlt
      · exact h1 z q
    · rename_i hlt
      have hxy : natlex x y = true := natlex_tot (by simpa using hlt) fun e => hne e.symm
      refine List.pairwise_cons.mpr ⟨fun z hz => ?_, h⟩
      rcases List.mem_cons.mp hz with q | q
      · rw [q]; exact hxy
      · exact natlex_trans hxy (h1 z q)
theorem rsort_up : ∀ {l : List (List Nat)}, l.Nodup → Up (rsort l)
  | [], _ => by simp [rsort, Up]
  | x :: r, h => by
    obtain ⟨h1, h2⟩ := List.nodup_cons.mp h
    exact rins_up (rsort_up h2) fun z => h1 (rsort_mem.mp z)
theorem up_uniq : ∀ {l m : List (List Nat)}, Up l → Up m → (∀ k, k ∈ l ↔ k ∈ m) → l = m
  | [], [], _, _, _ => rfl
  | [], b :: m, _, _, h => by have := (h b).mpr List.mem_cons_self; cases this
  | a :: l, [], _, _, h => by have := (h a).mp List.mem_cons_self; cases this
  | a :: l, b :: m, hl, hm, h => by
    obtain ⟨a1, a2⟩ := List.pairwise_cons.mp hl
    obtain ⟨b1, b2⟩ := List.pairwise_cons.mp hm
    have e : a = b := by
      rcases List.mem_cons.mp ((h a).mp List.mem_cons_self) with q | q
      · exact q
      · rcases List.mem_cons.mp ((h b).mpr List.mem_cons_self) with z | z
        · exact z.symm
        · have x1 := b1 a q
          have x2 := natlex_asym (a1 b z)
          rw [x1] at x2; cases x2
    subst e
    rw [up_uniq a2 b2 fun k => ⟨fun q => ?_, fun q => ?_⟩]
    · rcases List.mem_cons.mp ((h k).mp (List.mem_cons_of_mem _ q)) with z | z
      · subst z; have := a1 k q; rw [natlex_irr] at this; cases this
      · exact z
    · rcases List.mem_cons.mp ((h k).mpr (List.mem_cons_of_mem _ q)) with z | z
      · subst z; have := b1 k q; rw [natlex_irr] at this; cases this
      · exact z
theorem up_nodup {l : List (List Nat)} (h : Up l) : l.Nodup := h.imp fun {a b} q e => by
  subst e; rw [natlex_irr] at q; cases q
/-! ### how many rounds there are at most -/
theorem nodup_len2 {α : Type} [DecidableEq α] : ∀ {l m : List α}, l.Nodup → (∀ x ∈ l, x ∈ m) → l.length ≤ m.length
  | [], _, _, _ => Nat.zero_le _
  | a :: l, m, hn, hs => by
    obtain ⟨h1, h2⟩ := List.nodup_cons.mp hn
    have ha := hs a List.mem_cons_self
    have := nodup_len2 (l := l) (m := m.erase a) h2 fun x hx => (List.mem_erase_of_ne (show x ≠ a from fun e => h1 (e ▸ hx))).mpr (hs x (List.mem_cons_of_mem _ hx))
    rw [List.length_erase_of_mem ha] at this
    have : 0 < m.length := List.length_pos_of_mem ha
    simp only [List.length_cons]
    omega
def bls : Nat → List (List Bool)
  | 0 => [[]]
  | t + 1 => (bls t).map (true :: ·) ++ (bls t).map (false :: ·)
theorem bls_mem : ∀ l : List Bool, l ∈ bls l.length
  | [] => by simp [bls]
  | b :: l => by
    have := bls_mem l
    simp only [bls, List.length_cons, List.mem_append, List.mem_map]
    cases b
    · exact .inr ⟨l, this, rfl⟩
    · exact .inl ⟨l, this, rfl⟩
def mask (M : Nat) (l : List Nat) : List Bool := (List.range M).map fun i => decide (i ∈ l)
theorem det {rs : List (Nat × Nat)} {z : Nat} : ∀ {r s : List Nat} {x : Nat}, (∀ k ∈ r, ∀ j ∈ s, tl rs k = tl rs j → k = j) → Lk rs x r z → Lk rs x s z → z ∉ r.map (tl rs) → z ∉ s.map (tl rs) → r = s
  | [], [], _, _, _, _, _, _ => rfl
  | [], j :: s, x, _, h1, h2, _, h4 => absurd (by rw [List.map_cons, h2.1, show x = z from h1]; exact List.mem_cons_self) h4
  | k :: r, [], x, _, h1, h2, h3, _ => absurd (by rw [List.map_cons, h1.1, show x = z from h2]; exact List.mem_cons_self) h3
  | k :: r, j :: s, x, hi, h1, h2, h3, h4 => by
    have e := hi k List.mem_cons_self j List.mem_cons_self (by rw [h1.1, h2.1])
    subst e
    rw [List.map_cons] at h3 h4
    rw [det (fun a ha b hb => hi a (List.mem_cons_of_mem _ ha) b (List.mem_cons_of_mem _ hb)) h1.2 h2.2 (fun q => h3 (List.mem_cons_of_mem _ q)) (fun q => h4 (List.mem_cons_of_mem _ q))]
theorem rd_same {rs : List (Nat × Nat)} {l m : List Nat} (h1 : IsRd rs l) (h2 : IsRd rs m) (h : ∀ k, k ∈ l ↔ k ∈ m) : l = m := by
  cases l with
  | nil => exact absurd rfl h1.ne
  | cons a r => cases m with
    | nil => exact absurd rfl h2.ne
    | cons b s =>
      have e1 : a ≤ b := h1.mn b ((h b).mpr List.mem_cons_self)
      have e2 : b ≤ a := h2.mn a ((h a).mp List.mem_cons_self)
      have e : a = b := by omega
      subst e
      have n1 := h1.nd
      have n2 := h2.nd
      rw [List.map_cons] at n1 n2
      rw [det (rs := rs) (z := tl rs a) (x := hd rs a) (fun k hk j hj q => inj_nd h2.nd ((h k).mp (List.mem_cons_of_mem _ hk)) (List.mem_cons_of_mem _ hj) q) h1.lk.2 h2.lk.2 (List.nodup_cons.mp n1).1 (List.nodup_cons.mp n2).1]
theorem rd_few {rs : List (Nat × Nat)} (hr : rs.length ≤ 7) {L : List (List Nat)} (nd : L.Nodup) (h : ∀ l ∈ L, IsRd rs l) : L.length ≤ 128 := by
  have e : (L.map (mask 7)).length ≤ (bls 7).length := nodup_len2 (by
    refine List.pairwise_map.mpr (List.Pairwise.imp_of_mem (fun {a b} ha hb q e => q ?_) nd)
    refine rd_same (h a ha) (h b hb) fun k => ?_
    have key : ∀ k, k < 7 → (k ∈ a ↔ k ∈ b) := fun k hk => by
      have := congrArg (fun l : List Bool => l[k]?) e
      simp [mask, hk] at this
      exact this
    constructor
    · intro z; exact (key k (Nat.lt_of_lt_of_le ((h a ha).lt k z) hr)).mp z
    · intro z; exact (key k (Nat.lt_of_lt_of_le ((h b hb).lt k z) hr)).mpr z) fun x hx => by
      obtain ⟨l, _, rfl⟩ := List.mem_map.mp hx
      have := bls_mem (mask 7 l)
      rwa [show (mask 7 l).length = 7 by simp [mask]] at this
  rw [List.length_map] at e
  exact Nat.le_trans e (by decide)
theorem rd_len {n : Nat} {rs : List (Nat × Nat)} (w : WebOk n rs) {l : List Nat} (h : IsRd rs l) : l.length ≤ n := by
  have := nodup_len (m := List.range n) h.nd fun x hx => by
    obtain ⟨k, hk, rfl⟩ := List.mem_map.mp hx
    exact List.mem_range.mpr (tl_lt w (h.lt k hk))
  rwa [List.length_range, List.length_map] at this
end K01

set_option Elab.async false
set_option linter.all false
set_option maxRecDepth 100000
namespace K01
open DL PySem
/-! ### the program's search -/
def nxt (rs : List (Nat × Nat)) (f : Nat) (v : List Nat) : List (List Nat) := ((outs rs (lead rs 0 v)).filter fun k => decide (f < k)).map fun k => v ++ [k]
def dfs (rs : List (Nat × Nat)) (f : Nat) : Nat → List Nat → List (List Nat)
  | 0, v => if lead rs 0 v = tl rs f then [v] else []
  | g + 1, v => if lead rs 0 v = tl rs f then [v] else if lead rs 0 v ∈ v.map (tl rs) then [] else (nxt rs f v).reverse.flatMap (dfs rs f g)
/-- a path that begins with a road, the later ones behind it, no place left twice -/
structure PV (rs : List (Nat × Nat)) (f : Nat) (v : List Nat) : Prop where
  hd : ∃ r, v = f :: r ∧ ∀ k ∈ r, f < k
  lt : ∀ k ∈ v, k < rs.length
  nd : (v.map (tl rs)).Nodup
  lk : Lk rs (tl rs f) v (lead rs 0 v)
section
variable {n : Nat} {rs : List (Nat × Nat)} {f : Nat}
theorem PV.start (h : f < rs.length) : PV rs f [f] := by
  refine ⟨⟨[], rfl, by simp⟩, fun k hk => by simp at hk; omega, by simp, ?_⟩
  have := lead_snoc rs 0 [] f
  rw [List.nil_append] at this
  rw [this]
  exact ⟨rfl, rfl⟩
theorem PV.on {v : List Nat} (h : PV rs f v) (hs : lead rs 0 v ∉ v.map (tl rs)) {x : List Nat} (hx : x ∈ nxt rs f v) : PV rs f x ∧ ∃ k, x = v ++ [k] := by
  obtain ⟨k, hk, rfl⟩ := List.mem_map.mp hx
  obtain ⟨h1, h2⟩ := List.mem_filter.mp hk
  obtain ⟨h3, h4⟩ := outs_mem.mp h1
  have h2 := of_decide_eq_true h2
  obtain ⟨r, e, hr⟩ := h.hd
  refine ⟨⟨⟨r ++ [k], by rw [e]; rfl, fun j hj => ?_⟩, fun j hj => ?_, ?_, ?_⟩, k, rfl⟩
  · rcases List.mem_append.mp hj with z | z
    · exact hr j z
    · simp at z; omega
  · rcases List.mem_append.mp hj with z | z
    · exact h.lt j z
    · simp at z; omega
  · rw [List.map_append, List.map_cons, List.map_nil]
    refine List.nodup_append.mpr ⟨h.nd, by simp, fun a ha b hb e => ?_⟩
    simp at hb
    subst hb
    rw [← e] at h4
    rw [h4] at ha
    exact hs ha
  · rw [lead_snoc]
    exact lk_app.mpr ⟨_, h.lk, h4, rfl⟩
theorem PV.rd {v : List Nat} (h : PV rs f v) (e : lead rs 0 v = tl rs f) : IsRd rs v := by
  obtain ⟨r, rfl, hr⟩ := h.hd
  have lk := h.lk
  rw [e] at lk
  refine ⟨by simp, h.lt, h.nd, fun k hk => ?_, lk_cl.mp lk⟩
  show f ≤ k
  rcases List.mem_cons.mp hk with z | z
  · omega
  · have := hr k z; omega
theorem dfs_pre : ∀ (g : Nat) {v l : List Nat}, l ∈ dfs rs f g v → v <+: l
  | 0, v, l, h => by
    unfold dfs at h
    split at h
    · simp at h; subst h; exact List.prefix_refl _
    · cases h
  | g + 1, v, l, h => by
    unfold dfs at h
    split at h
    · simp at h; subst h; exact List.prefix_refl _
    · split at h
      · cases h
      · obtain ⟨x, hx, hl⟩ := List.mem_flatMap.mp h
        obtain ⟨k, _, rfl⟩ := List.mem_map.mp (List.mem_reverse.mp hx)
        exact List.IsPrefix.trans (List.prefix_append v [k]) (dfs_pre g hl)
theorem dfs_sound : ∀ (g : Nat) {v l : List Nat}, PV rs f v → l ∈ dfs rs f g v → IsRd rs l
  | 0, v, l, p, h => by
    unfold dfs at h
    split at h
    · rename_i e
      simp at h; subst h; exact p.rd e
    · cases h
  | g + 1, v, l, p, h => by
    unfold dfs at h
    split at h
    · rename_i e
      simp at h; subst h; exact p.rd e
    · split at h
      · cases h
      · rename_i hs
        obtain ⟨x, hx, hl⟩ := List.mem_flatMap.mp h
        exact dfs_sound g (p.on hs (List.mem_reverse.mp hx)).1 hl
theorem dfs_all (w : WebOk n rs) : ∀ (g : Nat) {v l : List Nat}, PV rs f v → n ≤ v.length + g → IsRd rs l → v <+: l → l ∈ dfs rs f g v := by
  have key : ∀ {v r : List Nat}, PV rs f v → IsRd rs (v ++ r) → r = [] → lead rs 0 v = tl rs f := by
    intro v r p i e
    subst e
    rw [List.append_nil] at i
    obtain ⟨s, rfl, hs⟩ := p.hd
    exact lk_lead 0 i.lk (by simp)
  have key2 : ∀ {v r : List Nat} {k : Nat}, PV rs f v → IsRd rs (v ++ k :: r) → lead rs 0 v ≠ tl rs f ∧ lead rs 0 v ∉ v.map (tl rs) ∧ v ++ [k] ∈ nxt rs f v := by
    intro v r k p i
    obtain ⟨s, e, hs⟩ := p.hd
    have nd := i.nd
    have lk : Lk rs (tl rs f) (v ++ k :: r) (tl rs f) := by
      have := i
      rw [e] at this ⊢
      exact this.lk
    obtain ⟨u, h1, h2, h3⟩ := lk_app.mp lk
    have hl : lead rs 0 v = tl rs k := by rw [lk_lead 0 h1 (by rw [e]; simp), h2]
    rw [List.map_append, List.map_cons] at nd
    obtain ⟨n1, n2, n3⟩ := List.nodup_append.mp nd
    have nin : tl rs k ∉ v.map (tl rs) := fun z => n3 _ z _ List.mem_cons_self rfl
    refine ⟨fun z => nin ?_, by rw [hl]; exact nin, List.mem_map.mpr ⟨k, List.mem_filter.mpr ⟨outs_mem.mpr ⟨i.lt k (by simp), hl.symm⟩, decide_eq_true ?_⟩, rfl⟩⟩
    · rw [← hl, z, e]; exact List.mem_cons_self
    · have m := i.mn k (by simp)
      rw [e] at m
      have m : f ≤ k := m
      have ne : f ≠ k := fun q => nin (by rw [← q, e]; exact List.mem_cons_self)
      omega
  intro g
  induction g with
  | zero =>
    intro v l p hg i ⟨r, e⟩
    subst e
    cases r with
    | nil =>
      unfold dfs
      rw [if_pos (key p i rfl), List.append_nil]
      simp
    | cons k r =>
      have := rd_len w i
      simp only [List.length_append, List.length_cons] at this
      omega
  | succ g ih =>
    intro v l p hg i ⟨r, e⟩
    subst e
    cases r with
    | nil =>
      unfold dfs
      rw [if_pos (key p i rfl), List.append_nil]
      simp
    | cons k r =>
      obtain ⟨h1, h2, h3⟩ := key2 p i
      unfold dfs
      rw [if_neg h1, if_neg h2]
      refine List.mem_flatMap.mpr ⟨v ++ [k], List.mem_reverse.mpr h3, ih (p.on h2 h3).1 (by simp only [List.length_append, List.length_singleton]; omega) i ?_⟩
      exact ⟨r, by simp⟩
theorem dfs_nd : ∀ (g : Nat) (v : List Nat), (dfs rs f g v).Nodup
  | 0, v => by
    unfold dfs
    split <;> simp
  | g + 1, v => by
    unfold dfs
    split
    · simp
    · split
      · simp
      · show List.Pairwise _ _
        rw [List.pairwise_flatMap]
        refine ⟨fun x _ => dfs_nd g x, ?_⟩
        rw [List.pairwise_reverse]
        unfold nxt
        rw [List.pairwise_map]
        refine ((nums_up _ rs).filter _).imp fun {a b} hab x hx y hy e => ?_
        subst e
        obtain ⟨s, e1⟩ := dfs_pre g hx
        obtain ⟨t, e2⟩ := dfs_pre g hy
        rw [← e1] at e2
        simp at e2
        omega
end
def allF (n : Nat) (rs : List (Nat × Nat)) (m : Nat) : List (List Nat) := (List.range m).flatMap fun f => dfs rs f n [f]
theorem allF_nd (n : Nat) (rs : List (Nat × Nat)) (m : Nat) : (allF n rs m).Nodup := by
  show List.Pairwise _ _
  unfold allF
  rw [List.pairwise_flatMap]
  refine ⟨fun x _ => dfs_nd n _, List.pairwise_lt_range.imp fun {a b} hab x hx y hy e => ?_⟩
  subst e
  obtain ⟨s, e1⟩ := dfs_pre n hx
  obtain ⟨t, e2⟩ := dfs_pre n hy
  rw [← e1] at e2
  simp at e2
  omega
theorem allF_rd {n : Nat} {rs : List (Nat × Nat)} {m : Nat} (hm : m ≤ rs.length) {l : List Nat} (h : l ∈ allF n rs m) : IsRd rs l := by
  obtain ⟨f, hf, hl⟩ := List.mem_flatMap.mp h
  exact dfs_sound n (PV.start (by have := List.mem_range.mp hf; omega)) hl
theorem allF_mem {n : Nat} {rs : List (Nat × Nat)} (w : WebOk n rs) {l : List Nat} : l ∈ allF n rs rs.length ↔ IsRd rs l := by
  refine ⟨allF_rd (Nat.le_refl _), fun i => ?_⟩
  cases hl : l with
  | nil => exact absurd hl i.ne
  | cons f r =>
    have hf := i.lt f (by rw [hl]; simp)
    rw [hl] at i
    exact List.mem_flatMap.mpr ⟨f, List.mem_range.mpr hf, dfs_all w n (PV.start hf) (by simp) i ⟨r, rfl⟩⟩
theorem allF_few {n : Nat} {rs : List (Nat × Nat)} (hr : rs.length ≤ 7) {m : Nat} (hm : m ≤ rs.length) : (allF n rs m).length ≤ 128 := rd_few hr (allF_nd n rs m) fun l h => allF_rd hm h
/-! ### the law's list -/
open Classical in
noncomputable def evK (n : Nat) (rs : List (Nat × Nat)) (k m : Nat) : List (List Nat) := (List.range m).flatMap fun t => (walks rs k (1 + t)).filter fun l => decide (IsRd rs l)
noncomputable def ev (n : Nat) (rs : List (Nat × Nat)) (m : Nat) : List (List Nat) := (List.range m).flatMap fun k => evK n rs k n
theorem evK_mem {n : Nat} {rs : List (Nat × Nat)} {k m : Nat} {l : List Nat} : l ∈ evK n rs k m ↔ IsRd rs l ∧ Path rs k l ∧ l.length ≤ m := by
  unfold evK
  simp only [List.mem_flatMap, List.mem_range, List.mem_filter, walks_mem, decide_eq_true_eq]
  constructor
  · rintro ⟨t, ht, ⟨h1, h2⟩, h3⟩
    exact ⟨h3, h1, by omega⟩
  · rintro ⟨h1, h2, h3⟩
    have : 0 < l.length := List.length_pos_iff.mpr h1.ne
    exact ⟨l.length - 1, by omega, ⟨h2, by omega⟩, h1⟩
theorem path_one {rs : List (Nat × Nat)} {p : Nat} {a : Nat} {r : List Nat} (h : Path rs p (a :: r)) : tl rs a = p := (path_lk h).1
theorem ev_mem {n : Nat} {rs : List (Nat × Nat)} (w : WebOk n rs) {l : List Nat} : l ∈ ev n rs n ↔ IsRd rs l := by
  unfold ev
  simp only [List.mem_flatMap, List.mem_range, evK_mem]
  constructor
  · rintro ⟨k, _, h, _⟩
    exact h
  · intro i
    cases hl : l with
    | nil => exact absurd hl i.ne
    | cons f r =>
      have len := rd_len w i
      have hf := i.lt f (by rw [hl]; simp)
      rw [hl] at i len
      exact ⟨tl rs f, tl_lt w hf, i, lk_path _ (Nat.le_refl _) i.lk i.lt, len⟩
theorem walks_nd (rs : List (Nat × Nat)) (p t : Nat) : (walks rs p t).Nodup := up_nodup (walks_up rs p t)
theorem ev_nd (n : Nat) (rs : List (Nat × Nat)) (m : Nat) : (ev n rs m).Nodup := by
  show List.Pairwise _ _
  unfold ev
  rw [List.pairwise_flatMap]
  refine ⟨fun k _ => ?_, List.pairwise_lt_range.imp fun {a b} hab x hx y hy e => ?_⟩
  · unfold evK
    rw [List.pairwise_flatMap]
    refine ⟨fun t _ => List.Pairwise.filter _ (walks_nd rs k _), List.pairwise_lt_range.imp fun {a b} hab x hx y hy e => ?_⟩
    subst e
    have h1 := (walks_mem.mp (List.mem_filter.mp hx).1).2
    have h2 := (walks_mem.mp (List.mem_filter.mp hy).1).2
    omega
  · subst e
    obtain ⟨i, h1, _⟩ := evK_mem.mp hx
    obtain ⟨_, h2, _⟩ := evK_mem.mp hy
    cases x with
    | nil => exact i.ne rfl
    | cons c r =>
      have e1 := path_one h1
      have e2 := path_one h2
      omega
/-- the rounds in order -/
noncomputable def rds (n : Nat) (rs : List (Nat × Nat)) : List (List Nat) := rsort (ev n rs n)
theorem rds_mem {n : Nat} {rs : List (Nat × Nat)} (w : WebOk n rs) {l : List Nat} : l ∈ rds n rs ↔ IsRd rs l := by
  unfold rds
  rw [rsort_mem, ev_mem w]
theorem rds_up (n : Nat) (rs : List (Nat × Nat)) : Up (rds n rs) := rsort_up (ev_nd n rs n)
theorem rds_few {n : Nat} {rs : List (Nat × Nat)} (w : WebOk n rs) (hr : rs.length ≤ 7) : (rds n rs).length ≤ 128 := rd_few hr (up_nodup (rds_up n rs)) fun l h => (rds_mem w).mp h
theorem rds_allF {n : Nat} {rs : List (Nat × Nat)} (w : WebOk n rs) : rsort (allF n rs rs.length) = rds n rs :=
  up_uniq (rsort_up (allF_nd n rs _)) (rds_up n rs) fun k => by rw [rsort_mem, allF_mem w, rds_mem w]
end K01

set_option Elab.async false
set_option linter.all false
set_option maxRecDepth 100000
namespace K01
open DL PySem
/-- the roads that leave a round -/
def leaves (rs : List (Nat × Nat)) (l : List Nat) : List Nat := (rs.zipIdx.filter fun q => decide (q.1.1 ∈ l.map (tl rs)) && decide (q.2 ∉ l)).map (·.2)
theorem leaves_mem {rs : List (Nat × Nat)} {l : List Nat} {k : Nat} : k ∈ leaves rs l ↔ k < rs.length ∧ tl rs k ∈ l.map (tl rs) ∧ k ∉ l := by
  unfold leaves
  simp only [List.mem_map, List.mem_filter, Bool.and_eq_true, decide_eq_true_eq]
  constructor
  · rintro ⟨⟨r, j⟩, ⟨h1, h2, h3⟩, rfl⟩
    have e := List.mk_mem_zipIdx_iff_getElem?.mp h1
    have e1 : tl rs j = r.1 := by unfold tl; rw [List.getD_eq_getElem?_getD, e]; rfl
    exact ⟨(List.getElem?_eq_some_iff.mp e).1, by rw [e1]; simpa using h2, h3⟩
  · rintro ⟨h, e, h3⟩
    refine ⟨(rs[k], k), ⟨List.mk_mem_zipIdx_iff_getElem?.mpr (List.getElem?_eq_getElem h), ?_, h3⟩, rfl⟩
    have e1 : tl rs k = rs[k].1 := by unfold tl; rw [List.getD_eq_getElem?_getD, List.getElem?_eq_getElem h]; rfl
    rw [← e1]
    simpa using e
def isMin (l : List Nat) : Bool := l.all fun k => decide (l.headD 0 ≤ k)
/-- the one road from each place -/
def fol (n : Nat) (rs : List (Nat × Nat)) (p : Nat) : Nat → List Nat → List (List Nat)
  | 0, _ => []
  | g + 1, v => if v.length ≤ n then match outs rs (lead rs p v) with
    | [k] => if hd rs k = p then (if isMin (v ++ [k]) = true then [v ++ [k]] else []) else fol n rs p g (v ++ [k])
    | _ => []
    else []
structure FV (rs : List (Nat × Nat)) (p : Nat) (v : List Nat) : Prop where
  path : Path rs p v
  one : ∀ k ∈ v, outs rs (tl rs k) = [k]
  off : v ≠ [] → lead rs p v ≠ p
  no : p ∉ (v.drop 1).map (tl rs)
section
variable {n p : Nat} {rs : List (Nat × Nat)}
theorem FV.start : FV rs p [] := ⟨.nil, by simp, fun h => absurd rfl h, by simp⟩
theorem FV.no1 {v : List Nat} {k : Nat} (h : FV rs p v) (hk : tl rs k = lead rs p v) : p ∉ ((v ++ [k]).drop 1).map (tl rs) := by
  cases v with
  | nil => simp
  | cons e s =>
    have o := h.off (by simp)
    have nn := h.no
    show p ∉ (s ++ [k]).map (tl rs)
    rw [List.map_append]
    intro z
    rcases List.mem_append.mp z with z | z
    · exact nn z
    · simp at z; exact o (by rw [← hk, z])
theorem FV.on {v : List Nat} {k : Nat} (h : FV rs p v) (hk : outs rs (lead rs p v) = [k]) (hn : hd rs k ≠ p) : FV rs p (v ++ [k]) := by
  have km : k ∈ outs rs (lead rs p v) := by rw [hk]; simp
  have kt := (outs_mem.mp km).2
  refine ⟨.snoc h.path km, fun j hj => ?_, fun _ => by rw [lead_snoc]; exact hn, h.no1 kt⟩
  rcases List.mem_append.mp hj with z | z
  · exact h.one j z
  · simp at z; subst z; rw [kt]; exact hk
theorem fol_rd {v : List Nat} {k : Nat} (h : FV rs p v) (hk : outs rs (lead rs p v) = [k]) (hp : hd rs k = p) (hm : isMin (v ++ [k]) = true) : IsRd rs (v ++ [k]) ∧ leaves rs (v ++ [k]) = [] ∧ tl rs ((v ++ [k]).headD 0) = p := by
  have km : k ∈ outs rs (lead rs p v) := by rw [hk]; simp
  have kt := (outs_mem.mp km).2
  have one : ∀ j ∈ v ++ [k], outs rs (tl rs j) = [j] := fun j hj => by
    rcases List.mem_append.mp hj with z | z
    · exact h.one j z
    · simp at z; subst z; rw [kt]; exact hk
  have inj : ∀ a ∈ v ++ [k], ∀ b ∈ v ++ [k], tl rs a = tl rs b → a = b := fun a ha b hb e => by
    have h1 := one a ha
    rw [e, one b hb] at h1
    simpa using h1.symm
  have P : Path rs p (v ++ [k]) := .snoc h.path km
  have L := path_lk P
  rw [lead_snoc, hp] at L
  have no := h.no1 kt
  have nd : ((v ++ [k]).map (tl rs)).Nodup := Classical.byContradiction fun z => by
    obtain ⟨a, x, b, y, c, e, exy⟩ := not_nodup z
    rw [e] at inj L no
    have q := inj x (by simp) y (by simp) exy
    subst q
    obtain ⟨u, h1, h2, h3⟩ := lk_app.mp L
    obtain ⟨t, h4, h5, h6⟩ := lk_app.mp h3
    have nb : p ∉ (b ++ x :: c).map (tl rs) := fun z => no (by
      cases a with
      | nil => exact z
      | cons a0 a' =>
        show p ∈ (a' ++ x :: (b ++ x :: c)).map (tl rs)
        rw [List.map_append, List.map_cons]
        exact List.mem_append_right _ (List.mem_cons_of_mem _ z))
    have nc : p ∉ c.map (tl rs) := fun z => nb (by
      rw [List.map_append, List.map_cons]
      exact List.mem_append_right _ (List.mem_cons_of_mem _ z))
    have d := det (rs := rs) (z := p) (x := hd rs x) (r := c) (s := b ++ x :: c) (fun i hi j hj q => inj i (by simp [hi]) j (by
      rcases List.mem_append.mp hj with z | z
      · simp [z]
      · rcases List.mem_cons.mp z with z | z
        · simp [z]
        · simp [z]) q) h6 h3 nc nb
    have := congrArg List.length d
    simp only [List.length_append, List.length_cons] at this
    omega
  have lt := P.lt
  have cl : IsRd rs (v ++ [k]) ∧ tl rs ((v ++ [k]).headD 0) = p := by
    have mn : ∀ j ∈ v ++ [k], (v ++ [k]).headD 0 ≤ j := fun j hj => of_decide_eq_true (List.all_eq_true.mp hm j hj)
    generalize hl : v ++ [k] = l at *
    cases l with
    | nil => simp at hl
    | cons e s =>
      have e1 := L.1
      have L' := L
      rw [← e1] at L'
      exact ⟨⟨by simp, lt, nd, mn, lk_cl.mp L'⟩, e1⟩
  refine ⟨cl.1, ?_, cl.2⟩
  refine List.eq_nil_iff_forall_not_mem.mpr fun j hj => ?_
  obtain ⟨h1, h2, h3⟩ := leaves_mem.mp hj
  obtain ⟨i, hi, e⟩ := List.mem_map.mp h2
  have o := one i hi
  have : j ∈ outs rs (tl rs i) := outs_mem.mpr ⟨h1, e.symm⟩
  rw [o] at this
  simp at this
  subst this
  exact h3 hi
theorem fol_sound : ∀ (g : Nat) {v l : List Nat}, FV rs p v → l ∈ fol n rs p g v → IsRd rs l ∧ leaves rs l = [] ∧ tl rs (l.headD 0) = p
  | 0, v, l, _, h => by cases h
  | g + 1, v, l, i, h => by
    unfold fol at h
    split at h
    · split at h
      · rename_i k hk
        split at h
        · rename_i hp
          split at h
          · rename_i hm
            simp at h
            subst h
            exact fol_rd i hk hp hm
          · cases h
        · rename_i hp
          exact fol_sound g (i.on hk hp) h
      · cases h
    · cases h
theorem nums_nd (P : Nat × Nat → Bool) (rs : List (Nat × Nat)) : (nums P rs).Nodup := srt_nodup (nums_up P rs)
theorem single {l : List Nat} {k : Nat} (nd : l.Nodup) (hk : k ∈ l) (h : ∀ j ∈ l, j = k) : l = [k] := by
  cases l with
  | nil => cases hk
  | cons a r =>
    have e := h a List.mem_cons_self
    subst e
    cases r with
    | nil => rfl
    | cons b s =>
      have e := h b (by simp)
      subst e
      exact absurd List.mem_cons_self (List.nodup_cons.mp nd).1
theorem fol_all (w : WebOk n rs) {l : List Nat} (i : IsRd rs l) (hl : leaves rs l = []) (hp : tl rs (l.headD 0) = p) : ∀ (g : Nat) {v r : List Nat}, l = v ++ r → r ≠ [] → r.length ≤ g → l ∈ fol n rs p g v
  | 0, v, r, _, hr, hg => absurd (List.eq_nil_of_length_eq_zero (by omega)) hr
  | g + 1, v, [], _, hr, _ => absurd rfl hr
  | g + 1, v, k :: r, e, _, hg => by
    have len := rd_len w i
    have lk : Lk rs p l p := by
      cases hh : l with
      | nil => exact absurd hh i.ne
      | cons a s =>
        rw [hh] at hp i
        have := i.lk
        rw [show tl rs a = p from hp] at this
        exact this
    have lk2 := lk
    rw [e] at lk2
    obtain ⟨u, h1, h2, h3⟩ := lk_app.mp lk2
    have ld : lead rs p v = tl rs k := by
      by_cases z : v = []
      · subst z
        rw [h2]
        exact h1
      · rw [lk_lead p h1 z, h2]
    have kl : k ∈ l := by rw [e]; simp
    have o : outs rs (lead rs p v) = [k] := single (nums_nd _ _) (outs_mem.mpr ⟨i.lt k kl, ld.symm⟩) fun j hj => by
      obtain ⟨j1, j2⟩ := outs_mem.mp hj
      rw [ld] at j2
      have jl : j ∈ l := Classical.byContradiction fun z => by
        have : j ∈ leaves rs l := leaves_mem.mpr ⟨j1, by rw [j2]; exact List.mem_map.mpr ⟨k, kl, rfl⟩, z⟩
        rw [hl] at this
        cases this
      exact inj_nd i.nd jl kl j2
    have vl : v.length ≤ n := by
      rw [e] at len
      simp only [List.length_append, List.length_cons] at len
      omega
    unfold fol
    rw [if_pos vl, o]
    dsimp only
    cases r with
    | nil =>
      have hk : hd rs k = p := h3
      have m : isMin (v ++ [k]) = true := by
        rw [← e]
        exact List.all_eq_true.mpr fun j hj => decide_eq_true (i.mn j hj)
      rw [if_pos hk, if_pos m, ← e]
      simp
    | cons k2 r2 =>
      have hk : hd rs k ≠ p := fun z => by
        have nd := i.nd
        have t2 := h3.1
        rw [e] at nd hp
        rw [List.map_append] at nd
        obtain ⟨n1, n2, n3⟩ := List.nodup_append.mp nd
        cases v with
        | nil =>
          have hp : tl rs k = p := hp
          rw [List.map_cons] at n2
          refine (List.nodup_cons.mp n2).1 ?_
          rw [List.map_cons, t2, z, hp]
          exact List.mem_cons_self
        | cons a v' =>
          have hp : tl rs a = p := hp
          refine n3 p ?_ p ?_ rfl
          · rw [← hp]; exact List.mem_cons_self
          · rw [List.map_cons, List.map_cons, t2, z]
            exact List.mem_cons_of_mem _ List.mem_cons_self
      rw [if_neg hk]
      exact fol_all w i hl hp g (r := k2 :: r2) (by rw [e]; simp) (by simp) (by simp only [List.length_cons] at hg ⊢; omega)
theorem fol_one : ∀ (g : Nat) (v : List Nat), fol n rs p g v = [] ∨ ∃ l, fol n rs p g v = [l]
  | 0, v => .inl rfl
  | g + 1, v => by
    unfold fol
    split
    · split
      · split
        · split
          · exact .inr ⟨_, rfl⟩
          · exact .inl rfl
        · exact fol_one g _
      · exact .inl rfl
    · exact .inl rfl
end
def loneF (n : Nat) (rs : List (Nat × Nat)) (m : Nat) : List (List Nat) := (List.range m).flatMap fun p => fol n rs p (n + 2) []
theorem loneF_mem {n : Nat} {rs : List (Nat × Nat)} (w : WebOk n rs) {l : List Nat} : l ∈ loneF n rs n ↔ IsRd rs l ∧ leaves rs l = [] := by
  unfold loneF
  simp only [List.mem_flatMap, List.mem_range]
  constructor
  · rintro ⟨p, _, h⟩
    obtain ⟨h1, h2, _⟩ := fol_sound _ FV.start h
    exact ⟨h1, h2⟩
  · rintro ⟨i, h⟩
    have hh : l.headD 0 ∈ l := by
      cases hl : l with
      | nil => exact absurd hl i.ne
      | cons a r => exact List.mem_cons_self
    have len := rd_len w i
    exact ⟨tl rs (l.headD 0), tl_lt w (i.lt _ hh), fol_all w i h rfl (n + 2) (v := []) (r := l) rfl i.ne (by omega)⟩
theorem loneF_nd (n : Nat) (rs : List (Nat × Nat)) (m : Nat) : (loneF n rs m).Nodup := by
  show List.Pairwise _ _
  unfold loneF
  rw [List.pairwise_flatMap]
  refine ⟨fun p _ => ?_, List.pairwise_lt_range.imp fun {a b} hab x hx y hy e => ?_⟩
  · rcases fol_one (n := n) (rs := rs) (p := p) (n + 2) [] with q | ⟨l, q⟩ <;> rw [q] <;> simp
  · subst e
    have h1 := (fol_sound _ FV.start hx).2.2
    have h2 := (fol_sound _ FV.start hy).2.2
    omega
theorem loneF_len (n : Nat) (rs : List (Nat × Nat)) : ∀ m, (loneF n rs m).length ≤ m := fun m => by
  have := flat_le (fun p => fol n rs p (n + 2) []) 1 (List.range m) fun p _ => by
    rcases fol_one (n := n) (rs := rs) (p := p) (n + 2) [] with q | ⟨l, q⟩ <;> rw [q] <;> simp
  rw [List.length_range] at this
  unfold loneF
  omega
noncomputable def lones (n : Nat) (rs : List (Nat × Nat)) : List (List Nat) := (rds n rs).filter fun l => (leaves rs l).isEmpty
theorem lones_loneF {n : Nat} {rs : List (Nat × Nat)} (w : WebOk n rs) : rsort (loneF n rs n) = lones n rs :=
  up_uniq (rsort_up (loneF_nd n rs n)) ((rds_up n rs).filter _) fun k => by
    rw [rsort_mem, loneF_mem w]
    unfold lones
    rw [List.mem_filter, rds_mem w]
    simp
end K01

set_option Elab.async false
set_option linter.all false
set_option maxRecDepth 100000
namespace K01
open DL PySem
theorem nat_neC (a b : Nat) : dNeC (eN a) (eN b) = some (!decide (a = b)) := by
  simp only [dNeC]
  rw [if_pos ⟨int_shaped _, int_shaped _⟩, nat_beq]
theorem neC_lst (a b : List Nat) : dNeC (eL a) (eL b) = some (!decide (a = b)) := by
  simp only [dNeC]
  rw [if_pos ⟨eNs_shaped a, eNs_shaped b⟩]
  show some (!DL.eqbs (eNs a) (eNs b)) = _
  rw [eqbs_nat]
theorem eqC_lst (a b : List Nat) : dEqC (eL a) (eL b) = some (decide (a = b)) := by
  simp only [dEqC]
  rw [if_pos ⟨eNs_shaped a, eNs_shaped b⟩]
  show some (DL.eqbs (eNs a) (eNs b)) = _
  rw [eqbs_nat]
theorem eqC_row (a b : List Nat) : dEqC (eRow a) (eRow b) = some (decide (a = b)) := by
  simp only [dEqC]
  rw [if_pos ⟨eRow_shaped a, eRow_shaped b⟩, eqb_row]
theorem notin_tup (b : Nat) (l : List Nat) : dInC true (eN b) (eRow l) = some (decide (b ∉ l)) := by
  simp only [dInC]
  rw [if_pos ⟨rfl, List.all_eq_true.mpr fun x hx => by
    obtain ⟨k, _, rfl⟩ := List.mem_map.mp hx
    rfl⟩, any_nat]
  by_cases h : b ∈ l <;> simp [h]
theorem min_nat {l : List Nat} (h : l ≠ []) : ∃ m, dMin1 [eRow l] = some (.v (eN m)) ∧ (l.headD 0 = m ↔ isMin l = true) := by
  obtain ⟨k, hk, hm⟩ := has_min h
  refine ⟨k, ?_, ?_⟩
  · simp only [dMin1]
    rw [dInts_nat]
    simp only
    rw [least_uniq (m := (k : Int)) (List.mem_map.mpr ⟨k, hk, rfl⟩) fun y hy => by
      obtain ⟨j, hj, rfl⟩ := List.mem_map.mp hy
      have := hm j hj
      omega]
    rfl
  · have hh : l.headD 0 ∈ l := by
      cases l with
      | nil => exact absurd rfl h
      | cons a r => exact List.mem_cons_self
    unfold isMin
    rw [List.all_eq_true]
    constructor
    · intro e j hj
      rw [e]
      exact decide_eq_true (hm j hj)
    · intro z
      have h1 := of_decide_eq_true (z k hk)
      have h2 := hm _ hh
      omega
theorem short_of {l m : List Nat} (nd : m.Nodup) (hm : ∀ k, k ∈ m ↔ k ∈ l) : (m.length = l.length ↔ l.Nodup) := by
  constructor
  · intro e
    refine Classical.byContradiction fun z => ?_
    obtain ⟨a, x, b, y, c, rfl, q⟩ := not_nodup (f := id) (by simpa using z)
    have q : x = y := q
    subst q
    have := nodup_len (m := a ++ (b ++ x :: c)) nd fun k hk => by
      have := (hm k).mp hk
      simp only [List.mem_append, List.mem_cons] at this ⊢
      rcases this with h | h | h | h | h
      · exact .inl h
      · exact .inr (.inr (.inl h))
      · exact .inr (.inl h)
      · exact .inr (.inr (.inl h))
      · exact .inr (.inr (.inr h))
    simp only [List.length_append, List.length_cons] at this e
    omega
  · intro h
    exact Nat.le_antisymm (nodup_len nd fun k hk => (hm k).mp hk) (nodup_len h fun k hk => (hm k).mpr hk)
theorem lenSet_nat (l : List Nat) (h : l.length < 64) : ∃ c, dLenSet (eL l) = some (.v (eN c)) ∧ (c = l.length ↔ l.Nodup) := by
  obtain ⟨m, e, h1, h2⟩ := usort_nat l
  refine ⟨m.length, ?_, short_of (srt_nodup h1) h2⟩
  simp only [dLenSet]
  rw [dInts_nat]
  simp only
  rw [if_pos (by rw [List.length_map]; exact h), e, List.length_map]
theorem srt_of {l : List Nat} : ∀ {r : List Nat}, (nsort r).Pairwise (· < ·) → r.Nodup := by
  have ins : ∀ (x : Nat) (s : List Nat), (nins x s).Pairwise (· < ·) → s.Pairwise (· < ·) ∧ x ∉ s := by
    intro x s
    induction s with
    | nil => intro _; simp
    | cons y r ih =>
      intro h
      unfold nins at h
      split at h
      · rename_i q
        obtain ⟨h1, h2⟩ := List.pairwise_cons.mp h
        obtain ⟨i1, i2⟩ := ih h2
        refine ⟨List.pairwise_cons.mpr ⟨fun z hz => h1 z (nins_mem.mpr (.inr hz)), i1⟩, fun z => ?_⟩
        rcases List.mem_cons.mp z with z | z
        · omega
        · exact i2 z
      · obtain ⟨h1, h2⟩ := List.pairwise_cons.mp h
        refine ⟨h2, fun z => ?_⟩
        have := h1 x z
        omega
  intro r
  induction r with
  | nil => intro _; simp
  | cons x s ih =>
    intro h
    obtain ⟨h1, h2⟩ := ins x (nsort s) h
    exact List.nodup_cons.mpr ⟨fun z => h2 (nsort_mem.mpr z), ih h1⟩
theorem sets_nat (l : List Nat) (h : l.length < 64) : ∃ m, dSortSet (eL l) = some (.fr (eL m)) ∧ (m = nsort l ↔ l.Nodup) := by
  obtain ⟨m, e, h1, h2⟩ := sortSet_nat l h
  refine ⟨m, e, fun q => srt_of (l := []) (q ▸ h1), fun nd => nat_uniq h1 (nsort_srt nd) fun k => by rw [h2, nsort_mem]⟩
/-! ### is_round_in -/
theorem rin_0 {A T : D} (h : F_are_roads [A, T] = .ok (.bl false) false .non) : F_is_round_in [A, T] = .ok (.bl false) false .non := by
  simp [F_is_round_in, m_is_round_in, h, runF, initS, mRet, mAndV, mOrV, bind_eq, pure_eq, mCall, mCons, mNil, mVar, rdv, callAt, lent, ownAt, just, isLn, tst, dTru, asV, mChain, tst2, dLe, dLt, dGe, dGt, dIs, dIsNot, isNon, handed, outD, retRv, mIf, mOr, mAnd, mNotT, mTru, mSeq, mIsi, dIsi, tyD, tyLe, mOps, ops, mInt, mBl, mNon, mStr, mB, mU, op1, op2, mSet, store, free, DL.settle, DL.settles, mNotV, b2, mRetN, mNx, mDrop, mSeqI, items, mT2, okRet, noL, noLi, noLs, mYes, gSet, gUnp, gsCons, gsNil, mTup, mLst, guardL]
theorem rin_1 {A T : D} (h : F_are_roads [A, T] = .ok (.bl true) false .non) (e : dEqC T (.tup []) = some true) : F_is_round_in [A, T] = .ok (.bl false) false .non := by
  have z : (0 : Nat) ≤ lim := by decide
  simp [F_is_round_in, m_is_round_in, h, e, z, runF, initS, mRet, mAndV, mOrV, bind_eq, pure_eq, mCall, mCons, mNil, mVar, rdv, callAt, lent, ownAt, just, isLn, tst, dTru, asV, mChain, tst2, dLe, dLt, dGe, dGt, dIs, dIsNot, isNon, handed, outD, retRv, mIf, mOr, mAnd, mNotT, mTru, mSeq, mIsi, dIsi, tyD, tyLe, mOps, ops, mInt, mBl, mNon, mStr, mB, mU, op1, op2, mSet, store, free, DL.settle, DL.settles, mNotV, b2, mRetN, mNx, mDrop, mSeqI, items, mT2, okRet, noL, noLi, noLs, mYes, gSet, gUnp, gsCons, gsNil, mTup, mLst, guardL]
theorem rin_2 {A T S x Y u v C E a0 mm : D} {B : List D} {z1 z2 z3 : Bool} (h : F_are_roads [A, T] = .ok (.bl true) false .non) (e : dEqC T (.tup []) = some false) (c : x_is_round_in_1 [.sh A, .sh T, .no, .no] = .ok (.fr (.lst B)) [.sh A, .sh T, .no, .no])
    (i1 : dIx A (.int 1) = some (.v S)) (t1 : dIx T (.int (-1)) = some (.v x)) (s1 : dIx S x = some (.v Y)) (y1 : dIx Y (.int 1) = some (.v u)) (b0 : dIx (.lst B) (.int 0) = some (.v v)) (n1 : dNeC u v = some z1)
    (ls : dLenSet (.lst B) = some (.v C)) (ll : dLen [.lst B] = some (.v E)) (n2 : dNeC C E = some z2) (t0 : dIx T (.int 0) = some (.v a0)) (mn : dMin1 [T] = some (.v mm)) (e3 : dEqC a0 mm = some z3) :
    F_is_round_in [A, T] = .ok (.bl (!z1 && !z2 && z3)) false .non := by
  have z : (0 : Nat) ≤ lim := by decide
  cases z1 <;> cases z2 <;> cases z3 <;> simp [F_is_round_in, m_is_round_in, h, e, c, i1, t1, s1, y1, b0, n1, ls, ll, n2, t0, mn, e3, z, dNeg, runF, initS, mRet, mAndV, mOrV, bind_eq, pure_eq, mCall, mCons, mNil, mVar, rdv, callAt, lent, ownAt, just, isLn, tst, dTru, asV, mChain, tst2, dLe, dLt, dGe, dGt, dIs, dIsNot, isNon, handed, outD, retRv, mIf, mOr, mAnd, mNotT, mTru, mSeq, mIsi, dIsi, tyD, tyLe, mOps, ops, mInt, mBl, mNon, mStr, mB, mU, op1, op2, mSet, store, free, DL.settle, DL.settles, mNotV, b2, mRetN, mNx, mDrop, mSeqI, items, mT2, okRet, noL, noLi, noLs, mYes, gSet, gUnp, gsCons, gsNil, mTup, mLst, guardL]
section
variable {n p : Nat} {rs : List (Nat × Nat)}
theorem rin_c (hl : l.length ≤ 1000) (h : ∀ k ∈ l, k < rs.length) : x_is_round_in_1 [.sh (eWeb n rs), .sh (eRow l), .no, .no] = .ok (.fr (eL (l.map (tl rs)))) [.sh (eWeb n rs), .sh (eRow l), .no, .no] := by
  have lm : lim = 16777216 := rfl
  have e : eNs (l.map (tl rs)) = l.map fun k => eN (tl rs k) := by simp only [eNs, List.map_map, Function.comp_def]
  show _ = Res.ok (Rv.fr (D.lst (eNs _))) _
  rw [e]
  refine lc_each (vs := [3]) (g := eN) (v := fun k => eN (tl rs k)) (xs := l) (σ1 := [.sh (eWeb n rs), .sh (eRow l), .no, .no]) rfl rfl (fun k hk => ?_) (by omega)
  have i := road_at (h k hk)
  have a : dIx (eWeb n rs) (.int 1) = some (.v (eRoads rs)) := rfl
  have b : dIx (.tup [eN (tl rs k), eN (hd rs k)]) (.int 0) = some (.v (eN (tl rs k))) := rfl
  generalize eRoads rs = R at a i
  generalize eWeb n rs = W at a ⊢
  generalize eRow l = T
  simp [turn1, a, i, b, wipeM, noOw, wipeS, runF, initS, mRet, mAndV, mOrV, bind_eq, pure_eq, mCall, mCons, mNil, mVar, rdv, callAt, lent, ownAt, just, isLn, tst, dTru, asV, mChain, tst2, dLe, dLt, dGe, dGt, dIs, dIsNot, isNon, handed, outD, retRv, mIf, mOr, mAnd, mNotT, mTru, mSeq, mIsi, dIsi, tyD, tyLe, mOps, ops, mInt, mBl, mNon, mStr, mB, mU, op1, op2, mSet, store, free, DL.settle, DL.settles, mNotV, b2, mRetN, mNx, mDrop, mSeqI, items, mT2, okRet, noL, noLi, noLs, mYes, gSet, gUnp, gsCons, gsNil, mTup, mLst, guardL]
theorem rd_chain {l : List Nat} (h : IsRd rs l) : chainB rs l = true := by
  cases l with
  | nil => rfl
  | cons a r =>
    have P := lk_path _ (Nat.le_refl _) h.lk h.lt
    have b := P.b
    unfold pathB at b
    simp only [Bool.and_eq_true] at b
    exact b.1.2
theorem chain_lk : ∀ {r : List Nat} {a : Nat}, chainB rs (a :: r) = true → Lk rs (tl rs a) (a :: r) (lead rs 0 (a :: r))
  | [], a, _ => by
    have := lead_snoc rs 0 [] a
    rw [List.nil_append] at this
    rw [this]
    exact ⟨rfl, rfl⟩
  | b :: r, a, h => by
    have h : (decide (hd rs a = tl rs b) && chainB rs (b :: r)) = true := h
    simp only [Bool.and_eq_true, decide_eq_true_eq] at h
    have ih := chain_lk h.2
    have e : lead rs 0 (a :: b :: r) = lead rs 0 (b :: r) := by unfold lead; rw [List.getLast?_cons_cons]
    rw [e]
    exact ⟨rfl, by rw [h.1]; exact ih⟩
open Classical in
theorem round_in_ok (w : WebOk n rs) {l : List Nat} (hl : l.length ≤ 60) : F_is_round_in [eWeb n rs, eRow l] = .ok (.bl (decide (IsRd rs l))) false .non := by
  have r := are_roads_ok w (l := l) (by omega)
  cases hb : (l.all fun k => decide (k < rs.length)) && chainB rs l with
  | false =>
    rw [hb] at r
    rw [rin_0 r, decide_eq_false fun i => ?_]
    have : ((l.all fun k => decide (k < rs.length)) && chainB rs l) = true := by
      rw [rd_chain i, Bool.and_true]
      exact List.all_eq_true.mpr fun k hk => decide_eq_true (i.lt k hk)
    rw [this] at hb
    cases hb
  | true =>
    rw [hb] at r
    simp only [Bool.and_eq_true, List.all_eq_true, decide_eq_true_eq] at hb
    obtain ⟨hk, hc⟩ := hb
    have e0 := eqC_row l []
    cases hl' : l with
    | nil =>
      rw [hl'] at r e0
      rw [rin_1 r e0, decide_eq_false fun i => i.ne rfl]
    | cons a s =>
      rw [← hl']
      have ne : l ≠ [] := by rw [hl']; simp
      rw [decide_eq_false ne] at e0
      obtain ⟨m, x, e⟩ : ∃ m x, l = m ++ [x] := (getN l).resolve_left ne
      have lx : lead rs 0 l = hd rs x := by rw [e, lead_snoc]
      have t1 : dIx (eRow l) (.int (-1)) = some (.v (eN x)) := by
        rw [e]
        show dIx (.tup (eNs (m ++ [x]))) _ = _
        rw [eNs_snoc]
        exact ix_tup_last _ _
      have s1 := road_at (hk x (by rw [e]; simp))
      have t0 : dIx (eRow l) (.int 0) = some (.v (eN a)) := by rw [hl']; exact ix_tup (xs := eNs (a :: s)) (k := 0) (by simp)
      have b0 : dIx (eL (l.map (tl rs))) (.int 0) = some (.v (eN (tl rs a))) := by rw [hl']; exact ix_lst (xs := eNs ((a :: s).map (tl rs))) (k := 0) (by simp)
      obtain ⟨c, ls, hc2⟩ := lenSet_nat (l.map (tl rs)) (by rw [List.length_map]; omega)
      obtain ⟨mm, mn, hm⟩ := min_nat ne
      have ll : dLen [eL (l.map (tl rs))] = some (.v (eN (l.map (tl rs)).length)) := by
        show some (Rv.v (D.int ((eNs (l.map (tl rs))).length : Nat))) = _
        rw [List.length_map]
      have R := rin_2 r e0 (rin_c (n := n) (by omega) hk) rfl t1 s1 rfl b0 (nat_neC _ _) ls ll (nat_neC _ _) t0 mn (nat_eqC _ _)
      rw [R]
      congr 2
      have h0 : l.headD 0 = a := by rw [hl']; rfl
      rw [h0] at hm
      have key : IsRd rs l ↔ (hd rs x = tl rs a ∧ c = (l.map (tl rs)).length) ∧ a = mm := by
        rw [hc2, hm]
        constructor
        · intro i
          refine ⟨⟨?_, i.nd⟩, List.all_eq_true.mpr fun k hk => decide_eq_true (i.mn k hk)⟩
          rw [← lx]
          rw [hl'] at i ⊢
          exact lk_lead 0 i.lk (by simp)
        · rintro ⟨⟨h1, h2⟩, h3⟩
          refine ⟨ne, hk, h2, fun k hk => of_decide_eq_true (List.all_eq_true.mp h3 k hk), ?_⟩
          rw [← lx] at h1
          rw [hl'] at hc h1 ⊢
          have lk := chain_lk hc
          rw [h1] at lk
          exact lk_cl.mp lk
      rw [Bool.eq_iff_iff, decide_eq_true_iff, key]
      simp
theorem are_roads_lst {A : D} {L : List D} : F_are_roads [A, .lst L] = .ok (.bl false) false .non := by
  simp [F_are_roads, m_are_roads, runF, initS, mRet, mAndV, mOrV, bind_eq, pure_eq, mCall, mCons, mNil, mVar, rdv, callAt, lent, ownAt, just, isLn, tst, dTru, asV, mChain, tst2, dLe, dLt, dGe, dGt, dIs, dIsNot, isNon, handed, outD, retRv, mIf, mOr, mAnd, mNotT, mTru, mSeq, mIsi, dIsi, tyD, tyLe, mOps, ops, mInt, mBl, mNon, mStr, mB, mU, op1, op2, mSet, store, free, DL.settle, DL.settles, mNotV, b2, mRetN, mNx, mDrop, mSeqI, items, mT2, okRet, noL, noLi, noLs, mYes, gSet, gUnp, gsCons, gsNil, mTup, mLst, guardL]
theorem are_roads_non {A : D} : F_are_roads [A, .non] = .ok (.bl false) false .non := by
  simp [F_are_roads, m_are_roads, runF, initS, mRet, mAndV, mOrV, bind_eq, pure_eq, mCall, mCons, mNil, mVar, rdv, callAt, lent, ownAt, just, isLn, tst, dTru, asV, mChain, tst2, dLe, dLt, dGe, dGt, dIs, dIsNot, isNon, handed, outD, retRv, mIf, mOr, mAnd, mNotT, mTru, mSeq, mIsi, dIsi, tyD, tyLe, mOps, ops, mInt, mBl, mNon, mStr, mB, mU, op1, op2, mSet, store, free, DL.settle, DL.settles, mNotV, b2, mRetN, mNx, mDrop, mSeqI, items, mT2, okRet, noL, noLi, noLs, mYes, gSet, gUnp, gsCons, gsNil, mTup, mLst, guardL]
theorem is_round_a {d A T : D} {z : Bool} (h1 : F_sure_web [d] = .ok A false .non) (h2 : F_is_round_in [A, T] = .ok (.bl z) false .non) : F_is_round [d, T] = .ok (.bl z) false .non := by
  simp [F_is_round, m_is_round, h1, h2, runF, initS, mRet, mAndV, mOrV, bind_eq, pure_eq, mCall, mCons, mNil, mVar, rdv, callAt, lent, ownAt, just, isLn, tst, dTru, asV, mChain, tst2, dLe, dLt, dGe, dGt, dIs, dIsNot, isNon, handed, outD, retRv, mIf, mOr, mAnd, mNotT, mTru, mSeq, mIsi, dIsi, tyD, tyLe, mOps, ops, mInt, mBl, mNon, mStr, mB, mU, op1, op2, mSet, store, free, DL.settle, DL.settles, mNotV, b2, mRetN, mNx, mDrop, mSeqI, items, mT2, okRet, noL, noLi, noLs, mYes, gSet, gUnp, gsCons, gsNil, mTup, mLst, guardL]
end
end K01

set_option Elab.async false
set_option linter.all false
set_option maxRecDepth 100000
namespace K01
open DL PySem
section
variable {n p : Nat} {rs : List (Nat × Nat)} {l : List Nat}
theorem exits_c1 (hl : l.length ≤ 1000) (h : ∀ k ∈ l, k < rs.length) : x_exits_in_1 [.sh (eWeb n rs), .sh (eRow l), .no, .no, .no] = .ok (.fr (eL (l.map (tl rs)))) [.sh (eWeb n rs), .sh (eRow l), .no, .no, .no] := by
  have lm : lim = 16777216 := rfl
  have e : eNs (l.map (tl rs)) = l.map fun k => eN (tl rs k) := by simp only [eNs, List.map_map, Function.comp_def]
  show _ = Res.ok (Rv.fr (D.lst (eNs _))) _
  rw [e]
  refine lc_each (vs := [3]) (g := eN) (v := fun k => eN (tl rs k)) (xs := l) (σ1 := [.sh (eWeb n rs), .sh (eRow l), .no, .no, .no]) rfl rfl (fun k hk => ?_) (by omega)
  have i := road_at (h k hk)
  have a : dIx (eWeb n rs) (.int 1) = some (.v (eRoads rs)) := rfl
  have b : dIx (.tup [eN (tl rs k), eN (hd rs k)]) (.int 0) = some (.v (eN (tl rs k))) := rfl
  generalize eRoads rs = R at a i
  generalize eWeb n rs = W at a ⊢
  generalize eRow l = T
  simp [turn1, a, i, b, wipeM, noOw, wipeS, runF, initS, mRet, mAndV, mOrV, bind_eq, pure_eq, mCall, mCons, mNil, mVar, rdv, callAt, lent, ownAt, just, isLn, tst, dTru, asV, mChain, tst2, dLe, dLt, dGe, dGt, dIs, dIsNot, isNon, handed, outD, retRv, mIf, mOr, mAnd, mNotT, mTru, mSeq, mIsi, dIsi, tyD, tyLe, mOps, ops, mInt, mBl, mNon, mStr, mB, mU, op1, op2, mSet, store, free, DL.settle, DL.settles, mNotV, b2, mRetN, mNx, mDrop, mSeqI, items, mT2, okRet, noL, noLi, noLs, mYes, gSet, gUnp, gsCons, gsNil, mTup, mLst, guardL]
theorem leaves_e : (rs.zipIdx.filter fun q => decide (q.1.1 ∈ l.map (tl rs)) && decide (q.2 ∉ l)).map (fun q => eN q.2) = eNs (leaves rs l) := by
  simp only [leaves, eNs, List.map_map, Function.comp_def]
theorem exits_c2 (w : WebOk n rs) : x_exits_in_2 [.sh (eWeb n rs), .sh (eRow l), .ow false (eL (l.map (tl rs))), .no, .no] = .ok (.fr (eL (leaves rs l))) [.sh (eWeb n rs), .sh (eRow l), .ow false (eL (l.map (tl rs))), .no, .no] := by
  show _ = Res.ok (Rv.fr (D.lst (eNs _))) _
  rw [← leaves_e]
  refine lc_filt (vs := [4, 3]) (g := fun q => D.tup [eN q.2, eRoad q.1]) (v := fun q => eN q.2) (p := fun q => decide (q.1.1 ∈ l.map (tl rs)) && decide (q.2 ∉ l)) (xs := rs.zipIdx) (σ1 := [.sh (eWeb n rs), .sh (eRow l), .ow false (eL (l.map (tl rs))), .no, .no]) ?_ rfl (fun q hq => ?_) ?_
  · rw [← enum_at]; rfl
  · obtain ⟨⟨a, b⟩, k⟩ := q
    have i1 := in_nat a (l.map (tl rs))
    have i2 := notin_tup k l
    have r0 : dIx (eRoad (a, b)) (.int 0) = some (.v (eN a)) := rfl
    dsimp only
    generalize decide (a ∈ l.map (tl rs)) = z1 at i1 ⊢
    generalize decide (k ∉ l) = z2 at i2 ⊢
    generalize eL (l.map (tl rs)) = B at i1 ⊢
    generalize eRow l = T at i2 ⊢
    generalize eWeb n rs = W
    generalize eRoad (a, b) = X at r0 ⊢
    generalize eN a = u at r0 i1
    cases z1 <;> cases z2 <;> simp [turn1, r0, i1, i2, wipeM, noOw, wipeS, runF, initS, mRet, mAndV, mOrV, bind_eq, pure_eq, mCall, mCons, mNil, mVar, rdv, callAt, lent, ownAt, just, isLn, tst, dTru, asV, mChain, tst2, dLe, dLt, dGe, dGt, dIs, dIsNot, isNon, handed, outD, retRv, mIf, mOr, mAnd, mNotT, mTru, mSeq, mIsi, dIsi, tyD, tyLe, mOps, ops, mInt, mBl, mNon, mStr, mB, mU, op1, op2, mSet, store, free, DL.settle, DL.settles, mNotV, b2, mRetN, mNx, mDrop, mSeqI, items, mT2, okRet, noL, noLi, noLs, mYes, gSet, gUnp, gsCons, gsNil, mTup, mLst, guardL]
  · rw [List.length_zipIdx]; exact Nat.le_trans w.few (by decide)
theorem exits_in_a {A T B : D} {L : List D} (c1 : x_exits_in_1 [.sh A, .sh T, .no, .no, .no] = .ok (.fr B) [.sh A, .sh T, .no, .no, .no]) (c2 : x_exits_in_2 [.sh A, .sh T, .ow false B, .no, .no] = .ok (.fr (.lst L)) [.sh A, .sh T, .ow false B, .no, .no]) : F_exits_in [A, T] = .ok (.lst L) true .non := by
  simp [F_exits_in, m_exits_in, c1, c2, runF, initS, mRet, mAndV, mOrV, bind_eq, pure_eq, mCall, mCons, mNil, mVar, rdv, callAt, lent, ownAt, just, isLn, tst, dTru, asV, mChain, tst2, dLe, dLt, dGe, dGt, dIs, dIsNot, isNon, handed, outD, retRv, mIf, mOr, mAnd, mNotT, mTru, mSeq, mIsi, dIsi, tyD, tyLe, mOps, ops, mInt, mBl, mNon, mStr, mB, mU, op1, op2, mSet, store, free, DL.settle, DL.settles, mNotV, b2, mRetN, mNx, mDrop, mSeqI, items, mT2, okRet, noL, noLi, noLs, mYes, gSet, gUnp, gsCons, gsNil, mTup, mLst, guardL]
theorem exits_in_ok (w : WebOk n rs) (hl : l.length ≤ 1000) (h : ∀ k ∈ l, k < rs.length) : F_exits_in [eWeb n rs, eRow l] = .ok (eL (leaves rs l)) true .non := exits_in_a (exits_c1 hl h) (exits_c2 w)
theorem exits_a {d e W T : D} {L : List D} (h1 : F_sure_web [d] = .ok W false .non) (h2 : F_tupled 12 [e] = .ok T false .non) (h3 : F_is_round_in [W, T] = .ok (.bl true) false .non) (h4 : F_exits_in [W, T] = .ok (.lst L) true .non) : F_exits [d, e] = .ok (.tup L) false .non := by
  simp [F_exits, m_exits, mPar, DL.settleL, h1, h2, h3, h4, dTupleOf, runF, initS, mRet, mAndV, mOrV, bind_eq, pure_eq, mCall, mCons, mNil, mVar, rdv, callAt, lent, ownAt, just, isLn, tst, dTru, asV, mChain, tst2, dLe, dLt, dGe, dGt, dIs, dIsNot, isNon, handed, outD, retRv, mIf, mOr, mAnd, mNotT, mTru, mSeq, mIsi, dIsi, tyD, tyLe, mOps, ops, mInt, mBl, mNon, mStr, mB, mU, op1, op2, mSet, store, free, DL.settle, DL.settles, mNotV, b2, mRetN, mNx, mDrop, mSeqI, items, mT2, okRet, noL, noLi, noLs, mYes, gSet, gUnp, gsCons, gsNil, mTup, mLst, guardL]
theorem row_p12 (hl : l.length ≤ 1000) : PlainD 12 (eRow l) := .inr ⟨eNs l, .inl rfl, by rw [List.length_map]; exact hl, fun x hx => by
  obtain ⟨k, _, rfl⟩ := List.mem_map.mp hx
  exact .inl ⟨_, rfl⟩⟩
theorem lst_p12 (hl : l.length ≤ 1000) : PlainD 12 (eL l) := .inr ⟨eNs l, .inr rfl, by rw [List.length_map]; exact hl, fun x hx => by
  obtain ⟨k, _, rfl⟩ := List.mem_map.mp hx
  exact .inl ⟨_, rfl⟩⟩
theorem tupDs_ns : ∀ l : List Nat, tupDs (eNs l) = eNs l
  | [] => rfl
  | k :: r => congrArg (eN k :: ·) (tupDs_ns r)
theorem tupled_row (hl : l.length ≤ 1000) : F_tupled 12 [eRow l] = .ok (eRow l) false .non := by
  have t := tupled_ok 12 _ (row_p12 hl)
  rw [show tupD (eRow l) = eRow l from congrArg D.tup (tupDs_ns l)] at t
  exact t
theorem tupled_lst (hl : l.length ≤ 1000) : F_tupled 12 [eL l] = .ok (eRow l) false .non := by
  have t := tupled_ok 12 _ (lst_p12 hl)
  rw [show tupD (eL l) = eRow l from congrArg D.tup (tupDs_ns l)] at t
  exact t
open Classical in
theorem exits_ok (w : WebOk n rs) {d e : D} (hd : PlainD 12 d) (he : tupD d = eWeb n rs) (h2 : F_tupled 12 [e] = .ok (eRow l) false .non) (i : IsRd rs l) : F_exits [d, e] = .ok (eRow (leaves rs l)) false .non := by
  have len := rd_len w i
  have m := w.most
  have r := round_in_ok w (l := l) (by omega)
  rw [decide_eq_true i] at r
  exact exits_a (sure_web_ok w hd he) h2 r (exits_in_ok w (by omega) i.lt)
/-! ### which places are of a round -/
theorem on_a {A P : D} {Q : List D} {z : Bool} (c : x_on_round_1 [.sh A, .sh P, .no] = .ok (.fr (.lst Q)) [.sh A, .sh P, .no]) (e : dAny [.lst Q] = some (.v (.bl z))) : F_on_round [A, P] = .ok (.bl z) false .non := by
  simp [F_on_round, m_on_round, c, e, runF, initS, mRet, mAndV, mOrV, bind_eq, pure_eq, mCall, mCons, mNil, mVar, rdv, callAt, lent, ownAt, just, isLn, tst, dTru, asV, mChain, tst2, dLe, dLt, dGe, dGt, dIs, dIsNot, isNon, handed, outD, retRv, mIf, mOr, mAnd, mNotT, mTru, mSeq, mIsi, dIsi, tyD, tyLe, mOps, ops, mInt, mBl, mNon, mStr, mB, mU, op1, op2, mSet, store, free, DL.settle, DL.settles, mNotV, b2, mRetN, mNx, mDrop, mSeqI, items, mT2, okRet, noL, noLi, noLs, mYes, gSet, gUnp, gsCons, gsNil, mTup, mLst, guardL]
open Classical in
theorem on_round_ok (w : WebOk n rs) : F_on_round [eWeb n rs, eN p] = .ok (.bl (decide (Cyc n rs p))) false .non := by
  have c : x_on_round_1 [.sh (eWeb n rs), .sh (eN p), .no] = .ok (.fr (.lst ((outs rs p).map fun k => .bl (decide (p ∈ reachL n rs (hd rs k)))))) [.sh (eWeb n rs), .sh (eN p), .no] := by
    refine lc_each (vs := [2]) (g := eN) (v := fun k => .bl (decide (p ∈ reachL n rs (hd rs k)))) (xs := outs rs p) (σ1 := [.sh (eWeb n rs), .sh (eN p), .no]) (seq_call2 rfl rfl (out_of_ok w)) rfl (fun k hk => ?_) (Nat.le_trans (Nat.le_trans (nums_length ..) w.few) (by decide))
    have i := road_at (nums_lt hk)
    have a : dIx (eWeb n rs) (.int 1) = some (.v (eRoads rs)) := rfl
    have b : dIx (.tup [eN (tl rs k), eN (hd rs k)]) (.int 1) = some (.v (eN (hd rs k))) := rfl
    have r := reached_in_ok (p := hd rs k) w (hd_lt w (nums_lt hk))
    have j := in_nat p (reachL n rs (hd rs k))
    generalize eL (reachL n rs (hd rs k)) = X at r j
    generalize decide (p ∈ reachL n rs (hd rs k)) = z at j ⊢
    generalize eRoads rs = R at a i
    generalize eWeb n rs = W at a r ⊢
    simp [turn1, a, i, b, r, j, wipeM, noOw, wipeS, runF, initS, mRet, mAndV, mOrV, bind_eq, pure_eq, mCall, mCons, mNil, mVar, rdv, callAt, lent, ownAt, just, isLn, tst, dTru, asV, mChain, tst2, dLe, dLt, dGe, dGt, dIs, dIsNot, isNon, handed, outD, retRv, mIf, mOr, mAnd, mNotT, mTru, mSeq, mIsi, dIsi, tyD, tyLe, mOps, ops, mInt, mBl, mNon, mStr, mB, mU, op1, op2, mSet, store, free, DL.settle, DL.settles, mNotV, b2, mRetN, mNx, mDrop, mSeqI, items, mT2, okRet, noL, noLi, noLs, mYes, gSet, gUnp, gsCons, gsNil, mTup, mLst, guardL]
  have e := bls_any (fun k => decide (p ∈ reachL n rs (hd rs k))) (outs rs p)
  have q : ((outs rs p).any fun k => decide (p ∈ reachL n rs (hd rs k))) = decide (Cyc n rs p) := by
    rw [Bool.eq_iff_iff, List.any_eq_true, decide_eq_true_iff]
    unfold Cyc
    simp
  rw [q] at e
  exact on_a c e
theorem leads_a {d A P : D} {Q : List D} {z : Bool} (h1 : F_sure_web [d] = .ok A false .non) (h2 : F_sure_place [A, P] = .ok P false .non) (c : x_leads_to_round_1 [.sh d, .sh P, .sh A, .sh P, .no] = .ok (.fr (.lst Q)) [.sh d, .sh P, .sh A, .sh P, .no]) (e : dAny [.lst Q] = some (.v (.bl z))) : F_leads_to_round [d, P] = .ok (.bl z) false .non := by
  simp [F_leads_to_round, m_leads_to_round, h1, h2, c, e, runF, initS, mRet, mAndV, mOrV, bind_eq, pure_eq, mCall, mCons, mNil, mVar, rdv, callAt, lent, ownAt, just, isLn, tst, dTru, asV, mChain, tst2, dLe, dLt, dGe, dGt, dIs, dIsNot, isNon, handed, outD, retRv, mIf, mOr, mAnd, mNotT, mTru, mSeq, mIsi, dIsi, tyD, tyLe, mOps, ops, mInt, mBl, mNon, mStr, mB, mU, op1, op2, mSet, store, free, DL.settle, DL.settles, mNotV, b2, mRetN, mNx, mDrop, mSeqI, items, mT2, okRet, noL, noLi, noLs, mYes, gSet, gUnp, gsCons, gsNil, mTup, mLst, guardL]
open Classical in
theorem leads_ok (w : WebOk n rs) (hp : p < n) : F_leads_to_round [eWeb n rs, eN p] = .ok (.bl ((reachL n rs p).any fun q => decide (Cyc n rs q))) false .non := by
  have lm : lim = 16777216 := rfl
  have rl := reachL_len n rs p
  have m := w.most
  refine leads_a (sure_web_self w) (sure_place_ok hp) (lc_each (vs := [4]) (g := eN) (v := fun q => .bl (decide (Cyc n rs q))) (xs := reachL n rs p) (σ1 := [.sh (eWeb n rs), .sh (eN p), .sh (eWeb n rs), .sh (eN p), .no]) (seq_call2 rfl rfl (reached_in_ok w hp)) rfl (fun q hq => ?_) (by omega)) (bls_any (fun q => decide (Cyc n rs q)) (reachL n rs p))
  have o := on_round_ok (p := q) w
  generalize decide (Cyc n rs q) = z at o ⊢
  generalize eWeb n rs = W at o ⊢
  simp [turn1, o, wipeM, noOw, wipeS, runF, initS, mRet, mAndV, mOrV, bind_eq, pure_eq, mCall, mCons, mNil, mVar, rdv, callAt, lent, ownAt, just, isLn, tst, dTru, asV, mChain, tst2, dLe, dLt, dGe, dGt, dIs, dIsNot, isNon, handed, outD, retRv, mIf, mOr, mAnd, mNotT, mTru, mSeq, mIsi, dIsi, tyD, tyLe, mOps, ops, mInt, mBl, mNon, mStr, mB, mU, op1, op2, mSet, store, free, DL.settle, DL.settles, mNotV, b2, mRetN, mNx, mDrop, mSeqI, items, mT2, okRet, noL, noLi, noLs, mYes, gSet, gUnp, gsCons, gsNil, mTup, mLst, guardL]
theorem has_in_a {A : D} {Q : List D} {z : Bool} (c : x_has_rounds_in_1 [.sh A, .no] = .ok (.fr (.lst Q)) [.sh A, .no]) (e : dAny [.lst Q] = some (.v (.bl z))) : F_has_rounds_in [A] = .ok (.bl z) false .non := by
  simp [F_has_rounds_in, m_has_rounds_in, c, e, runF, initS, mRet, mAndV, mOrV, bind_eq, pure_eq, mCall, mCons, mNil, mVar, rdv, callAt, lent, ownAt, just, isLn, tst, dTru, asV, mChain, tst2, dLe, dLt, dGe, dGt, dIs, dIsNot, isNon, handed, outD, retRv, mIf, mOr, mAnd, mNotT, mTru, mSeq, mIsi, dIsi, tyD, tyLe, mOps, ops, mInt, mBl, mNon, mStr, mB, mU, op1, op2, mSet, store, free, DL.settle, DL.settles, mNotV, b2, mRetN, mNx, mDrop, mSeqI, items, mT2, okRet, noL, noLi, noLs, mYes, gSet, gUnp, gsCons, gsNil, mTup, mLst, guardL]
theorem has_a {d A : D} {z : Bool} (h1 : F_sure_web [d] = .ok A false .non) (h2 : F_has_rounds_in [A] = .ok (.bl z) false .non) : F_has_rounds [d] = .ok (.bl z) false .non := by
  simp [F_has_rounds, m_has_rounds, h1, h2, runF, initS, mRet, mAndV, mOrV, bind_eq, pure_eq, mCall, mCons, mNil, mVar, rdv, callAt, lent, ownAt, just, isLn, tst, dTru, asV, mChain, tst2, dLe, dLt, dGe, dGt, dIs, dIsNot, isNon, handed, outD, retRv, mIf, mOr, mAnd, mNotT, mTru, mSeq, mIsi, dIsi, tyD, tyLe, mOps, ops, mInt, mBl, mNon, mStr, mB, mU, op1, op2, mSet, store, free, DL.settle, DL.settles, mNotV, b2, mRetN, mNx, mDrop, mSeqI, items, mT2, okRet, noL, noLi, noLs, mYes, gSet, gUnp, gsCons, gsNil, mTup, mLst, guardL]
open Classical in
theorem has_ok (w : WebOk n rs) : F_has_rounds [eWeb n rs] = .ok (.bl ((List.range n).any fun q => decide (Cyc n rs q))) false .non := by
  have hl : (List.range n).length ≤ lim := by rw [List.length_range]; exact Nat.le_trans w.most (by decide)
  refine has_a (sure_web_self w) (has_in_a (lc_each (vs := [1]) (g := eN) (v := fun q => .bl (decide (Cyc n rs q))) (xs := List.range n) (σ1 := [.sh (eWeb n rs), .no]) (range1_ok rfl rfl (Nat.le_trans w.most (by decide))) rfl (fun q hq => ?_) hl) (bls_any (fun q => decide (Cyc n rs q)) (List.range n)))
  have o := on_round_ok (p := q) w
  generalize decide (Cyc n rs q) = z at o ⊢
  generalize eWeb n rs = W at o ⊢
  simp [turn1, o, wipeM, noOw, wipeS, runF, initS, mRet, mAndV, mOrV, bind_eq, pure_eq, mCall, mCons, mNil, mVar, rdv, callAt, lent, ownAt, just, isLn, tst, dTru, asV, mChain, tst2, dLe, dLt, dGe, dGt, dIs, dIsNot, isNon, handed, outD, retRv, mIf, mOr, mAnd, mNotT, mTru, mSeq, mIsi, dIsi, tyD, tyLe, mOps, ops, mInt, mBl, mNon, mStr, mB, mU, op1, op2, mSet, store, free, DL.settle, DL.settles, mNotV, b2, mRetN, mNx, mDrop, mSeqI, items, mT2, okRet, noL, noLi, noLs, mYes, gSet, gUnp, gsCons, gsNil, mTup, mLst, guardL]
/-! ### the law's is_round -/
theorem lir_c1 (hl : l.length ≤ 1000) (h : ∀ k ∈ l, k < rs.length) : x__law_is_round_1 [.sh (eWeb n rs), .sh (eRow l), .no, .no, .no] = .ok (.fr (eL (l.map (tl rs)))) [.sh (eWeb n rs), .sh (eRow l), .no, .no, .no] := by
  have lm : lim = 16777216 := rfl
  have e : eNs (l.map (tl rs)) = l.map fun k => eN (tl rs k) := by simp only [eNs, List.map_map, Function.comp_def]
  show _ = Res.ok (Rv.fr (D.lst (eNs _))) _
  rw [e]
  refine lc_each (vs := [4]) (g := eN) (v := fun k => eN (tl rs k)) (xs := l) (σ1 := [.sh (eWeb n rs), .sh (eRow l), .no, .no, .no]) rfl rfl (fun k hk => ?_) (by omega)
  have i := road_at (h k hk)
  have a : dIx (eWeb n rs) (.int 1) = some (.v (eRoads rs)) := rfl
  have b : dIx (.tup [eN (tl rs k), eN (hd rs k)]) (.int 0) = some (.v (eN (tl rs k))) := rfl
  generalize eRoads rs = R at a i
  generalize eWeb n rs = W at a ⊢
  generalize eRow l = T
  simp [turn1, a, i, b, wipeM, noOw, wipeS, runF, initS, mRet, mAndV, mOrV, bind_eq, pure_eq, mCall, mCons, mNil, mVar, rdv, callAt, lent, ownAt, just, isLn, tst, dTru, asV, mChain, tst2, dLe, dLt, dGe, dGt, dIs, dIsNot, isNon, handed, outD, retRv, mIf, mOr, mAnd, mNotT, mTru, mSeq, mIsi, dIsi, tyD, tyLe, mOps, ops, mInt, mBl, mNon, mStr, mB, mU, op1, op2, mSet, store, free, DL.settle, DL.settles, mNotV, b2, mRetN, mNx, mDrop, mSeqI, items, mT2, okRet, noL, noLi, noLs, mYes, gSet, gUnp, gsCons, gsNil, mTup, mLst, guardL]
theorem lir_c2 {B : D} (hl : l.length ≤ 1000) (h : ∀ k ∈ l, k < rs.length) : x__law_is_round_2 [.sh (eWeb n rs), .sh (eRow l), .ow false B, .no, .no] = .ok (.fr (eL (l.map (hd rs)))) [.sh (eWeb n rs), .sh (eRow l), .ow false B, .no, .no] := by
  have lm : lim = 16777216 := rfl
  have e : eNs (l.map (hd rs)) = l.map fun k => eN (hd rs k) := by simp only [eNs, List.map_map, Function.comp_def]
  show _ = Res.ok (Rv.fr (D.lst (eNs _))) _
  rw [e]
  refine lc_each (vs := [4]) (g := eN) (v := fun k => eN (hd rs k)) (xs := l) (σ1 := [.sh (eWeb n rs), .sh (eRow l), .ow false B, .no, .no]) rfl rfl (fun k hk => ?_) (by omega)
  have i := road_at (h k hk)
  have a : dIx (eWeb n rs) (.int 1) = some (.v (eRoads rs)) := rfl
  have b : dIx (.tup [eN (tl rs k), eN (hd rs k)]) (.int 1) = some (.v (eN (hd rs k))) := rfl
  generalize eRoads rs = R at a i
  generalize eWeb n rs = W at a ⊢
  generalize eRow l = T
  simp [turn1, a, i, b, wipeM, noOw, wipeS, runF, initS, mRet, mAndV, mOrV, bind_eq, pure_eq, mCall, mCons, mNil, mVar, rdv, callAt, lent, ownAt, just, isLn, tst, dTru, asV, mChain, tst2, dLe, dLt, dGe, dGt, dIs, dIsNot, isNon, handed, outD, retRv, mIf, mOr, mAnd, mNotT, mTru, mSeq, mIsi, dIsi, tyD, tyLe, mOps, ops, mInt, mBl, mNon, mStr, mB, mU, op1, op2, mSet, store, free, DL.settle, DL.settles, mNotV, b2, mRetN, mNx, mDrop, mSeqI, items, mT2, okRet, noL, noLi, noLs, mYes, gSet, gUnp, gsCons, gsNil, mTup, mLst, guardL]
theorem lir_0 {A T B : D} (c1 : x__law_is_round_1 [.sh A, .sh T, .no, .no, .no] = .ok (.fr B) [.sh A, .sh T, .no, .no, .no]) (e : dEqC T (.tup []) = some true) : F__law_is_round [A, T] = .ok (.bl false) false .non := by
  have z : (0 : Nat) ≤ lim := by decide
  simp [F__law_is_round, m__law_is_round, c1, e, z, runF, initS, mRet, mAndV, mOrV, bind_eq, pure_eq, mCall, mCons, mNil, mVar, rdv, callAt, lent, ownAt, just, isLn, tst, dTru, asV, mChain, tst2, dLe, dLt, dGe, dGt, dIs, dIsNot, isNon, handed, outD, retRv, mIf, mOr, mAnd, mNotT, mTru, mSeq, mIsi, dIsi, tyD, tyLe, mOps, ops, mInt, mBl, mNon, mStr, mB, mU, op1, op2, mSet, store, free, DL.settle, DL.settles, mNotV, b2, mRetN, mNx, mDrop, mSeqI, items, mT2, okRet, noL, noLi, noLs, mYes, gSet, gUnp, gsCons, gsNil, mTup, mLst, guardL]
theorem lir_1 {A T S1 S2 mm a0 : D} {B G D1 D2 R : List D} {z1 z2 z3 : Bool} (c1 : x__law_is_round_1 [.sh A, .sh T, .no, .no, .no] = .ok (.fr (.lst B)) [.sh A, .sh T, .no, .no, .no]) (e : dEqC T (.tup []) = some false) (s1 : dSortSet (.lst B) = some (.fr S1)) (s2 : dSorted [.lst B] = some (.fr S2)) (n1 : dNeC S1 S2 = some z1)
    (mn : dMin1 [T] = some (.v mm)) (t0 : dIx T (.int 0) = some (.v a0)) (n2 : dNeC mm a0 = some z2) (c2 : x__law_is_round_2 [.sh A, .sh T, .ow false (.lst B), .no, .no] = .ok (.fr (.lst G)) [.sh A, .sh T, .ow false (.lst B), .no, .no])
    (d1 : dSl (.lst B) (some 1) none = some (.fr (.lst D1))) (d2 : dSl (.lst B) none (some 1) = some (.fr (.lst D2))) (d3 : dAdd (.lst D1) (.lst D2) = some (.fr (.lst R))) (e3 : dEqC (.lst G) (.lst R) = some z3) :
    F__law_is_round [A, T] = .ok (.bl (!z1 && !z2 && z3)) false .non := by
  have z : (0 : Nat) ≤ lim := by decide
  cases z1 <;> cases z2 <;> simp [F__law_is_round, m__law_is_round, mSlice, mOpt, mNone, part, asK, c1, e, s1, s2, n1, mn, t0, n2, c2, d1, d2, d3, e3, z, runF, initS, mRet, mAndV, mOrV, bind_eq, pure_eq, mCall, mCons, mNil, mVar, rdv, callAt, lent, ownAt, just, isLn, tst, dTru, asV, mChain, tst2, dLe, dLt, dGe, dGt, dIs, dIsNot, isNon, handed, outD, retRv, mIf, mOr, mAnd, mNotT, mTru, mSeq, mIsi, dIsi, tyD, tyLe, mOps, ops, mInt, mBl, mNon, mStr, mB, mU, op1, op2, mSet, store, free, DL.settle, DL.settles, mNotV, b2, mRetN, mNx, mDrop, mSeqI, items, mT2, okRet, noL, noLi, noLs, mYes, gSet, gUnp, gsCons, gsNil, mTup, mLst, guardL]
theorem cut_take (xs : List D) : cutD xs none (some 1) = xs.take 1 := by
  have e : HT.sIx xs.length xs.length (some 1) = min 1 xs.length := HT.sIx_nat xs.length _ 1
  unfold cutD
  rw [e, HT.sIx_none]
  cases xs with
  | nil => rfl
  | cons x r => simp
open Classical in
theorem law_is_round_ok (w : WebOk n rs) (hl : l.length ≤ 60) (hk : ∀ k ∈ l, k < rs.length) : F__law_is_round [eWeb n rs, eRow l] = .ok (.bl (decide (IsRd rs l))) false .non := by
  have lm : lim = 16777216 := rfl
  have e0 := eqC_row l []
  cases hl' : l with
  | nil =>
    rw [hl'] at e0
    rw [lir_0 (lir_c1 (n := n) (rs := rs) (l := []) (by simp) (by simp)) e0, decide_eq_false fun i => i.ne rfl]
  | cons a s =>
    rw [← hl']
    have ne : l ≠ [] := by rw [hl']; simp
    rw [decide_eq_false ne] at e0
    have t0 : dIx (eRow l) (.int 0) = some (.v (eN a)) := by rw [hl']; exact ix_tup (xs := eNs (a :: s)) (k := 0) (by simp)
    obtain ⟨m, s1, hm1⟩ := sets_nat (l.map (tl rs)) (by rw [List.length_map]; omega)
    obtain ⟨mm, mn, hm⟩ := min_nat ne
    have h0 : l.headD 0 = a := by rw [hl']; rfl
    rw [h0] at hm
    have d1 : dSl (eL (l.map (tl rs))) (some 1) none = some (.fr (eL ((l.map (tl rs)).drop 1))) := by
      show some (Rv.fr (D.lst (cutD (eNs (l.map (tl rs))) (some 1) none))) = _
      rw [cut_one]
      simp only [eL, eNs, List.map_drop]
    have d2 : dSl (eL (l.map (tl rs))) none (some 1) = some (.fr (eL ((l.map (tl rs)).take 1))) := by
      show some (Rv.fr (D.lst (cutD (eNs (l.map (tl rs))) none (some 1)))) = _
      rw [cut_take]
      simp only [eL, eNs, List.map_take]
    have d3 : dAdd (eL ((l.map (tl rs)).drop 1)) (eL ((l.map (tl rs)).take 1)) = some (.fr (eL (rot (l.map (tl rs))))) := by
      simp only [dAdd]
      rw [if_pos (by simp only [List.length_map, List.length_drop, List.length_take]; omega)]
      unfold rot
      simp only [eL, eNs, List.map_append]
    have R := lir_1 (lir_c1 (n := n) (by omega) hk) e0 s1 (sorted_nat _) (neC_lst _ _) mn t0 (nat_neC _ _) (lir_c2 (n := n) (by omega) hk) d1 d2 d3 (eqC_lst _ _)
    rw [R]
    congr 2
    have key : IsRd rs l ↔ ((m = nsort (l.map (tl rs)) ∧ mm = a) ∧ l.map (hd rs) = rot (l.map (tl rs))) := by
      rw [hm1, show (mm = a) = (a = mm) from propext ⟨fun z => z.symm, fun z => z.symm⟩, hm]
      constructor
      · intro i
        exact ⟨⟨i.nd, List.all_eq_true.mpr fun k hk => decide_eq_true (i.mn k hk)⟩, i.cl⟩
      · rintro ⟨⟨h1, h2⟩, h3⟩
        exact ⟨ne, hk, h1, fun k hk => of_decide_eq_true (List.all_eq_true.mp h2 k hk), h3⟩
    rw [Bool.eq_iff_iff, decide_eq_true_iff, key]
    simp
end
end K01

set_option Elab.async false
set_option linter.all false
set_option maxRecDepth 100000
namespace K01
open DL PySem
def Kp (s : Sl) : Prop := s = .no ∨ ∃ d, s = .sh d
theorem Kp.no : Kp .no := .inl rfl
theorem Kp.sh {d : D} : Kp (.sh d) := .inr ⟨d, rfl⟩
abbrev RB : M Fl := (mSeq (mAsg (gUnp 2 (gsCons (gSet 5) (gsCons (gSet 6) (gsNil)))) (mPop 4)) (mSeq (mSet 7 (mB dIx (mB dIx (mB dIx (mVar 0) (mInt 1)) (mB dIx (mVar 5) (mU dNeg (mInt 1)))) (mInt 1))) (mIf (mT2 dEqC (mVar 7) (mVar 3)) (mSeq (mDrop (mApp 1 (mVar 5))) (mIf (mT2 dGt (mOps dLen (mCons (mVar 1) (mNil))) (mInt 500)) (mRaise "TooMany") (mNx))) (mIf (mT2 (dInC true) (mVar 7) (mVar 6)) (mDrop (mExt 4 (x_rounds_in_1))) (mNx)))))
theorem gt_nat (a b : Nat) : dGt (eN a) (eN b) = some (decide (b < a)) := by
  simp [dGt]
section
variable {A S x Y u Fi St V Q : D} {F ST X : List D} {s5 s6 s7 : Sl}
theorem rb_test (z : Bool) (h : (!ST.isEmpty) = z) : mTru (mVar 4) [.sh A, .ow false (.lst F), .sh Fi, .sh St, .ow false (.lst ST), s5, s6, s7, .no] = .ok z [.sh A, .ow false (.lst F), .sh Fi, .sh St, .ow false (.lst ST), s5, s6, s7, .no] := by
  subst h
  simp [runF, initS, mRet, mAndV, mOrV, bind_eq, pure_eq, mCall, mCons, mNil, mVar, rdv, callAt, lent, ownAt, just, isLn, tst, dTru, asV, mChain, tst2, dLe, dLt, dGe, dGt, dIs, dIsNot, isNon, handed, outD, retRv, mIf, mOr, mAnd, mNotT, mTru, mSeq, mIsi, dIsi, tyD, tyLe, mOps, ops, mInt, mBl, mNon, mStr, mB, mU, op1, op2, mSet, store, free, DL.settle, DL.settles, mNotV, b2, mRetN, mNx, mDrop, mSeqI, items, mT2, okRet, noL, noLi, noLs, mYes, gSet, gUnp, gsCons, gsNil, mTup, mLst, guardL]
theorem rb_pop (k5 : Kp s5) (k6 : Kp s6) : (mAsg (gUnp 2 (gsCons (gSet 5) (gsCons (gSet 6) (gsNil)))) (mPop 4)) [.sh A, .ow false (.lst F), .sh Fi, .sh St, .ow false (.lst (ST ++ [.tup [V, Q]])), s5, s6, s7, .no] = .ok .nx [.sh A, .ow false (.lst F), .sh Fi, .sh St, .ow false (.lst ST), .sh V, .sh Q, s7, .no] := by
  rcases k5 with rfl | ⟨d, rfl⟩ <;> rcases k6 with rfl | ⟨d', rfl⟩ <;> simp [mAsg, mPop, ownL, wrL, runF, initS, mRet, mAndV, mOrV, bind_eq, pure_eq, mCall, mCons, mNil, mVar, rdv, callAt, lent, ownAt, just, isLn, tst, dTru, asV, mChain, tst2, dLe, dLt, dGe, dGt, dIs, dIsNot, isNon, handed, outD, retRv, mIf, mOr, mAnd, mNotT, mTru, mSeq, mIsi, dIsi, tyD, tyLe, mOps, ops, mInt, mBl, mNon, mStr, mB, mU, op1, op2, mSet, store, free, DL.settle, DL.settles, mNotV, b2, mRetN, mNx, mDrop, mSeqI, items, mT2, okRet, noL, noLi, noLs, mYes, gSet, gUnp, gsCons, gsNil, mTup, mLst, guardL]
theorem rb_here (k7 : Kp s7) (i1 : dIx A (.int 1) = some (.v S)) (t1 : dIx V (.int (-1)) = some (.v x)) (s1 : dIx S x = some (.v Y)) (y1 : dIx Y (.int 1) = some (.v u)) :
    (mSet 7 (mB dIx (mB dIx (mB dIx (mVar 0) (mInt 1)) (mB dIx (mVar 5) (mU dNeg (mInt 1)))) (mInt 1))) [.sh A, .ow false (.lst F), .sh Fi, .sh St, .ow false (.lst ST), .sh V, .sh Q, s7, .no] = .ok .nx [.sh A, .ow false (.lst F), .sh Fi, .sh St, .ow false (.lst ST), .sh V, .sh Q, .sh u, .no] := by
  rcases k7 with rfl | ⟨d, rfl⟩ <;> simp [i1, t1, s1, y1, dNeg, runF, initS, mRet, mAndV, mOrV, bind_eq, pure_eq, mCall, mCons, mNil, mVar, rdv, callAt, lent, ownAt, just, isLn, tst, dTru, asV, mChain, tst2, dLe, dLt, dGe, dGt, dIs, dIsNot, isNon, handed, outD, retRv, mIf, mOr, mAnd, mNotT, mTru, mSeq, mIsi, dIsi, tyD, tyLe, mOps, ops, mInt, mBl, mNon, mStr, mB, mU, op1, op2, mSet, store, free, DL.settle, DL.settles, mNotV, b2, mRetN, mNx, mDrop, mSeqI, items, mT2, okRet, noL, noLi, noLs, mYes, gSet, gUnp, gsCons, gsNil, mTup, mLst, guardL]
theorem rb_found (e : dEqC u St = some true) (hl : F.length < 500) : (mIf (mT2 dEqC (mVar 7) (mVar 3)) (mSeq (mDrop (mApp 1 (mVar 5))) (mIf (mT2 dGt (mOps dLen (mCons (mVar 1) (mNil))) (mInt 500)) (mRaise "TooMany") (mNx))) (mIf (mT2 (dInC true) (mVar 7) (mVar 6)) (mDrop (mExt 4 (x_rounds_in_1))) (mNx))) [.sh A, .ow false (.lst F), .sh Fi, .sh St, .ow false (.lst ST), .sh V, .sh Q, .sh u, .no] = .ok .nx [.sh A, .ow false (.lst (F ++ [V])), .sh Fi, .sh St, .ow false (.lst ST), .sh V, .sh Q, .sh u, .no] := by
  have lm : F.length < lim := Nat.lt_trans hl (by decide)
  have g : ¬ (500 : Int) < (F.length : Int) + 1 := by omega
  simp [e, lm, g, dLen, mApp, ownL, wrL, runF, initS, mRet, mAndV, mOrV, bind_eq, pure_eq, mCall, mCons, mNil, mVar, rdv, callAt, lent, ownAt, just, isLn, tst, dTru, asV, mChain, tst2, dLe, dLt, dGe, dGt, dIs, dIsNot, isNon, handed, outD, retRv, mIf, mOr, mAnd, mNotT, mTru, mSeq, mIsi, dIsi, tyD, tyLe, mOps, ops, mInt, mBl, mNon, mStr, mB, mU, op1, op2, mSet, store, free, DL.settle, DL.settles, mNotV, b2, mRetN, mNx, mDrop, mSeqI, items, mT2, okRet, noL, noLi, noLs, mYes, gSet, gUnp, gsCons, gsNil, mTup, mLst, guardL]
theorem rb_none (e : dEqC u St = some false) (e2 : dInC true u Q = some false) : (mIf (mT2 dEqC (mVar 7) (mVar 3)) (mSeq (mDrop (mApp 1 (mVar 5))) (mIf (mT2 dGt (mOps dLen (mCons (mVar 1) (mNil))) (mInt 500)) (mRaise "TooMany") (mNx))) (mIf (mT2 (dInC true) (mVar 7) (mVar 6)) (mDrop (mExt 4 (x_rounds_in_1))) (mNx))) [.sh A, .ow false (.lst F), .sh Fi, .sh St, .ow false (.lst ST), .sh V, .sh Q, .sh u, .no] = .ok .nx [.sh A, .ow false (.lst F), .sh Fi, .sh St, .ow false (.lst ST), .sh V, .sh Q, .sh u, .no] := by
  simp [e, e2, runF, initS, mRet, mAndV, mOrV, bind_eq, pure_eq, mCall, mCons, mNil, mVar, rdv, callAt, lent, ownAt, just, isLn, tst, dTru, asV, mChain, tst2, dLe, dLt, dGe, dGt, dIs, dIsNot, isNon, handed, outD, retRv, mIf, mOr, mAnd, mNotT, mTru, mSeq, mIsi, dIsi, tyD, tyLe, mOps, ops, mInt, mBl, mNon, mStr, mB, mU, op1, op2, mSet, store, free, DL.settle, DL.settles, mNotV, b2, mRetN, mNx, mDrop, mSeqI, items, mT2, okRet, noL, noLi, noLs, mYes, gSet, gUnp, gsCons, gsNil, mTup, mLst, guardL]
theorem rb_ext (e : dEqC u St = some false) (e2 : dInC true u Q = some true) (c : x_rounds_in_1 [.sh A, .ow false (.lst F), .sh Fi, .sh St, .ow false (.lst ST), .sh V, .sh Q, .sh u, .no] = .ok (.fr (.lst X)) [.sh A, .ow false (.lst F), .sh Fi, .sh St, .ow false (.lst ST), .sh V, .sh Q, .sh u, .no]) (hl : ST.length + X.length ≤ lim) :
    (mIf (mT2 dEqC (mVar 7) (mVar 3)) (mSeq (mDrop (mApp 1 (mVar 5))) (mIf (mT2 dGt (mOps dLen (mCons (mVar 1) (mNil))) (mInt 500)) (mRaise "TooMany") (mNx))) (mIf (mT2 (dInC true) (mVar 7) (mVar 6)) (mDrop (mExt 4 (x_rounds_in_1))) (mNx))) [.sh A, .ow false (.lst F), .sh Fi, .sh St, .ow false (.lst ST), .sh V, .sh Q, .sh u, .no] = .ok .nx [.sh A, .ow false (.lst F), .sh Fi, .sh St, .ow false (.lst (ST ++ X)), .sh V, .sh Q, .sh u, .no] := by
  simp [e, e2, c, hl, mExt, ownL, wrL, runF, initS, mRet, mAndV, mOrV, bind_eq, pure_eq, mCall, mCons, mNil, mVar, rdv, callAt, lent, ownAt, just, isLn, tst, dTru, asV, mChain, tst2, dLe, dLt, dGe, dGt, dIs, dIsNot, isNon, handed, outD, retRv, mIf, mOr, mAnd, mNotT, mTru, mSeq, mIsi, dIsi, tyD, tyLe, mOps, ops, mInt, mBl, mNon, mStr, mB, mU, op1, op2, mSet, store, free, DL.settle, DL.settles, mNotV, b2, mRetN, mNx, mDrop, mSeqI, items, mT2, okRet, noL, noLi, noLs, mYes, gSet, gUnp, gsCons, gsNil, mTup, mLst, guardL]
end
/-! ### what goes on -/
abbrev eIt (rs : List (Nat × Nat)) (v : List Nat) : D := .tup [eRow v, eL (v.map (tl rs))]
theorem ext_turn {A Fi St u k : D} {F ST V Q : List D} {z : Bool} (g : dGt k Fi = some z) (a1 : dAdd (.tup V) (.tup [k]) = some (.v (.tup (V ++ [k])))) (a2 : dAdd (.lst Q) (.lst [u]) = some (.fr (.lst (Q ++ [u])))) :
    turn1 [8] (gSet 8) (mT2 dGt (mVar 8) (mVar 2)) (mTup (mCons (mB dAdd (mVar 5) (mTup (mCons (mVar 8) (mNil)))) (mCons (mB dAdd (mVar 6) (mLst (mCons (mVar 7) (mNil)))) (mNil)))) k (wipeS [.sh A, .ow false (.lst F), .sh Fi, .sh St, .ow false (.lst ST), .sh (.tup V), .sh (.lst Q), .sh u, .no] [8]) =
    .ok (if z = true then [.tup [.tup (V ++ [k]), .lst (Q ++ [u])]] else []) (wipeS [.sh A, .ow false (.lst F), .sh Fi, .sh St, .ow false (.lst ST), .sh (.tup V), .sh (.lst Q), .sh u, .no] [8]) := by
  have one : (1 : Nat) ≤ lim := by decide
  have two : (2 : Nat) ≤ lim := by decide
  cases z <;> simp [turn1, g, a1, a2, one, two, wipeM, noOw, wipeS, runF, initS, mRet, mAndV, mOrV, bind_eq, pure_eq, mCall, mCons, mNil, mVar, rdv, callAt, lent, ownAt, just, isLn, tst, dTru, asV, mChain, tst2, dLe, dLt, dGe, dGt, dIs, dIsNot, isNon, handed, outD, retRv, mIf, mOr, mAnd, mNotT, mTru, mSeq, mIsi, dIsi, tyD, tyLe, mOps, ops, mInt, mBl, mNon, mStr, mB, mU, op1, op2, mSet, store, free, DL.settle, DL.settles, mNotV, b2, mRetN, mNx, mDrop, mSeqI, items, mT2, okRet, noL, noLi, noLs, mYes, gSet, gUnp, gsCons, gsNil, mTup, mLst, guardL, -dGt]
section
variable {n f : Nat} {rs : List (Nat × Nat)} {v : List Nat}
theorem ext_ok (w : WebOk n rs) (hv : v.length ≤ 900) {Sx : D} {F ST : List D} : x_rounds_in_1 [.sh (eWeb n rs), .ow false (.lst F), .sh (eN f), .sh Sx, .ow false (.lst ST), .sh (eRow v), .sh (eL (v.map (tl rs))), .sh (eN (lead rs 0 v)), .no] =
    .ok (.fr (.lst ((nxt rs f v).map (eIt rs)))) [.sh (eWeb n rs), .ow false (.lst F), .sh (eN f), .sh Sx, .ow false (.lst ST), .sh (eRow v), .sh (eL (v.map (tl rs))), .sh (eN (lead rs 0 v)), .no] := by
  have lm : lim = 16777216 := rfl
  have e : (nxt rs f v).map (eIt rs) = ((outs rs (lead rs 0 v)).filter fun k => decide (f < k)).map fun k => .tup [.tup (eNs v ++ [eN k]), .lst (eNs (v.map (tl rs)) ++ [eN (lead rs 0 v)])] := by
    unfold nxt
    rw [List.map_map]
    refine List.map_congr_left fun k hk => ?_
    have t := (outs_mem.mp (List.mem_filter.mp hk).1).2
    show D.tup [D.tup (eNs (v ++ [k])), D.lst (eNs ((v ++ [k]).map (tl rs)))] = _
    rw [eNs_snoc, List.map_append, List.map_cons, List.map_nil, eNs_snoc, t]
  rw [e]
  refine lc_filt (vs := [8]) (g := eN) (v := fun k => .tup [.tup (eNs v ++ [eN k]), .lst (eNs (v.map (tl rs)) ++ [eN (lead rs 0 v)])]) (p := fun k => decide (f < k)) (xs := outs rs (lead rs 0 v)) (seq_call2 rfl rfl (out_of_ok w)) rfl (fun k hk => ?_) (Nat.le_trans (Nat.le_trans (nums_length ..) w.few) (by decide))
  refine ext_turn (gt_nat k f) (add_row (by rw [List.length_map]; omega)) ?_
  simp only [dAdd]
  rw [if_pos (by simp only [List.length_map, List.length_cons, List.length_nil]; omega)]
/-! ### the whole search -/
abbrev SRd (n : Nat) (rs : List (Nat × Nat)) (f : Nat) (F : List (List Nat)) (ws : List D) (s5 s6 s7 : Sl) : Sg := [.sh (eWeb n rs), .ow false (.lst (F.map eRow)), .sh (eN f), .sh (eN (tl rs f)), .ow false (.lst ws), s5, s6, s7, .no]
def cst : Nat → Nat
  | 0 => 1
  | g + 1 => 1 + 8 * cst g
def LoopP (n : Nat) (rs : List (Nat × Nat)) (f g : Nat) : Prop := ∀ (v : List Nat), PV rs f v → n ≤ v.length + g → ∀ (ws : List D) (F : List (List Nat)) (s5 s6 s7 : Sl) (k : Nat), Kp s5 → Kp s6 → Kp s7 → cst g ≤ k → F.length + (dfs rs f g v).length ≤ 500 → ws.length + 8 * (g + 1) ≤ 10000 →
  ∃ k' s5' s6' s7', Kp s5' ∧ Kp s6' ∧ Kp s7' ∧ k ≤ k' + cst g ∧ whL (mTru (mVar 4)) RB k (SRd n rs f F (ws ++ [eIt rs v]) s5 s6 s7) = whL (mTru (mVar 4)) RB k' (SRd n rs f (F ++ dfs rs f g v) ws s5' s6' s7')
theorem loop_list {g : Nat} (h : LoopP n rs f g) : ∀ (us : List (List Nat)), (∀ v ∈ us, PV rs f v ∧ n ≤ v.length + g) → ∀ (ws : List D) (F : List (List Nat)) (s5 s6 s7 : Sl) (k : Nat), Kp s5 → Kp s6 → Kp s7 → us.length * cst g ≤ k → F.length + (us.flatMap (dfs rs f g)).length ≤ 500 → ws.length + us.length + 8 * (g + 1) ≤ 10000 →
    ∃ k' s5' s6' s7', Kp s5' ∧ Kp s6' ∧ Kp s7' ∧ k ≤ k' + us.length * cst g ∧ whL (mTru (mVar 4)) RB k (SRd n rs f F (ws ++ (us.map (eIt rs)).reverse) s5 s6 s7) = whL (mTru (mVar 4)) RB k' (SRd n rs f (F ++ us.flatMap (dfs rs f g)) ws s5' s6' s7')
  | [], _, ws, F, s5, s6, s7, k, k5, k6, k7, _, _, _ => ⟨k, s5, s6, s7, k5, k6, k7, by omega, by simp⟩
  | v :: us, hv, ws, F, s5, s6, s7, k, k5, k6, k7, hk, hF, hw => by
    obtain ⟨p, hn⟩ := hv v List.mem_cons_self
    rw [List.length_cons] at hk hw
    rw [List.flatMap_cons, List.length_append] at hF
    have hk' : us.length * cst g + cst g ≤ k := by rw [Nat.add_mul, Nat.one_mul] at hk; exact hk
    obtain ⟨k1, t5, t6, t7, h5, h6, h7, hk1, e1⟩ := h v p hn (ws ++ (us.map (eIt rs)).reverse) F s5 s6 s7 k k5 k6 k7 (by omega) (by omega) (by simp only [List.length_append, List.length_reverse, List.length_map]; omega)
    obtain ⟨k2, r5, r6, r7, g5, g6, g7, hk2, e2⟩ := loop_list h us (fun x hx => hv x (List.mem_cons_of_mem _ hx)) ws (F ++ dfs rs f g v) t5 t6 t7 k1 h5 h6 h7 (by omega) (by rw [List.length_append]; omega) (by omega)
    refine ⟨k2, r5, r6, r7, g5, g6, g7, by rw [List.length_cons, Nat.add_mul, Nat.one_mul]; omega, ?_⟩
    rw [List.map_cons, List.reverse_cons, ← List.append_assoc, e1, e2, List.flatMap_cons, List.append_assoc]
theorem nxt_len (w : WebOk n rs) (hr : rs.length ≤ 7) : (nxt rs f v).length ≤ 7 := by
  unfold nxt
  rw [List.length_map]
  exact Nat.le_trans (List.length_filter_le ..) (Nat.le_trans (nums_length ..) hr)
theorem rb_seq {σ σ1 σ2 σ3 : Sg} (h1 : (mAsg (gUnp 2 (gsCons (gSet 5) (gsCons (gSet 6) (gsNil)))) (mPop 4)) σ = .ok .nx σ1) (h2 : (mSet 7 (mB dIx (mB dIx (mB dIx (mVar 0) (mInt 1)) (mB dIx (mVar 5) (mU dNeg (mInt 1)))) (mInt 1))) σ1 = .ok .nx σ2) (h3 : (mIf (mT2 dEqC (mVar 7) (mVar 3)) (mSeq (mDrop (mApp 1 (mVar 5))) (mIf (mT2 dGt (mOps dLen (mCons (mVar 1) (mNil))) (mInt 500)) (mRaise "TooMany") (mNx))) (mIf (mT2 (dInC true) (mVar 7) (mVar 6)) (mDrop (mExt 4 (x_rounds_in_1))) (mNx))) σ2 = .ok .nx σ3) : RB σ = .ok .nx σ3 := by
  unfold RB
  rw [seq_nx h1, seq_nx h2]
  exact h3
theorem loop_P (w : WebOk n rs) (hr : rs.length ≤ 7) : ∀ g, LoopP n rs f g := by
  have top : ∀ (g : Nat) (v : List Nat), PV rs f v → ∀ (ws : List D) (F : List (List Nat)) (s5 s6 s7 : Sl) (k : Nat), Kp s5 → Kp s6 → Kp s7 →
      (lead rs 0 v = tl rs f → F.length < 500 → whL (mTru (mVar 4)) RB (k + 1) (SRd n rs f F (ws ++ [eIt rs v]) s5 s6 s7) = whL (mTru (mVar 4)) RB k (SRd n rs f (F ++ [v]) ws (.sh (eRow v)) (.sh (eL (v.map (tl rs)))) (.sh (eN (lead rs 0 v))))) ∧
      (lead rs 0 v ≠ tl rs f → lead rs 0 v ∈ v.map (tl rs) → whL (mTru (mVar 4)) RB (k + 1) (SRd n rs f F (ws ++ [eIt rs v]) s5 s6 s7) = whL (mTru (mVar 4)) RB k (SRd n rs f F ws (.sh (eRow v)) (.sh (eL (v.map (tl rs)))) (.sh (eN (lead rs 0 v))))) ∧
      (lead rs 0 v ≠ tl rs f → lead rs 0 v ∉ v.map (tl rs) → v.length ≤ 900 → ws.length ≤ 10000 → whL (mTru (mVar 4)) RB (k + 1) (SRd n rs f F (ws ++ [eIt rs v]) s5 s6 s7) = whL (mTru (mVar 4)) RB k (SRd n rs f F (ws ++ (nxt rs f v).map (eIt rs)) (.sh (eRow v)) (.sh (eL (v.map (tl rs)))) (.sh (eN (lead rs 0 v))))) := by
    intro g v p ws F s5 s6 s7 k k5 k6 k7
    have lm : lim = 16777216 := rfl
    have ne : v ≠ [] := by obtain ⟨r, e, _⟩ := p.hd; rw [e]; simp
    obtain ⟨m, x, e⟩ : ∃ m x, v = m ++ [x] := (getN v).resolve_left ne
    have lx : lead rs 0 v = hd rs x := by rw [e, lead_snoc]
    have t1 : dIx (eRow v) (.int (-1)) = some (.v (eN x)) := by
      rw [e]
      show dIx (.tup (eNs (m ++ [x]))) _ = _
      rw [eNs_snoc]
      exact ix_tup_last _ _
    have s1 := road_at (p.lt x (by rw [e]; simp))
    have y1 : dIx (.tup [eN (tl rs x), eN (hd rs x)]) (.int 1) = some (.v (eN (lead rs 0 v))) := by rw [lx]; rfl
    have q0 : mTru (mVar 4) (SRd n rs f F (ws ++ [eIt rs v]) s5 s6 s7) = .ok true (SRd n rs f F (ws ++ [eIt rs v]) s5 s6 s7) := rb_test true (by cases ws <;> rfl)
    have q1 := rb_pop (A := eWeb n rs) (Fi := eN f) (St := eN (tl rs f)) (F := F.map eRow) (ST := ws) (V := eRow v) (Q := eL (v.map (tl rs))) (s7 := s7) k5 k6
    have q2 := rb_here (A := eWeb n rs) (Fi := eN f) (St := eN (tl rs f)) (F := F.map eRow) (ST := ws) (V := eRow v) (Q := eL (v.map (tl rs))) k7 rfl t1 s1 y1
    have e1 := nat_eqC (lead rs 0 v) (tl rs f)
    have e2 := notin_nat (lead rs 0 v) (v.map (tl rs))
    refine ⟨fun h hl => ?_, fun h h2 => ?_, fun h h2 hv hw => ?_⟩
    · rw [decide_eq_true h] at e1
      rw [while_on q0 (rb_seq q1 q2 (rb_found e1 (by rw [List.length_map]; exact hl)))]
      unfold SRd
      rw [List.map_append]
      rfl
    · rw [decide_eq_false h] at e1
      rw [decide_eq_false (fun z => z h2)] at e2
      exact while_on q0 (rb_seq q1 q2 (rb_none e1 e2))
    · rw [decide_eq_false h] at e1
      rw [decide_eq_true h2] at e2
      have nl := nxt_len (f := f) (v := v) w hr
      exact while_on q0 (rb_seq q1 q2 (rb_ext e1 e2 (ext_ok w hv) (by rw [List.length_map]; omega)))
  intro g
  induction g with
  | zero =>
    intro v p hn ws F s5 s6 s7 k k5 k6 k7 hk hF hw
    obtain ⟨j, rfl⟩ : ∃ j, k = j + 1 := ⟨k - 1, by unfold cst at hk; omega⟩
    obtain ⟨a1, a2, _⟩ := top 0 v p ws F s5 s6 s7 j k5 k6 k7
    unfold dfs at hF ⊢
    by_cases h : lead rs 0 v = tl rs f
    · rw [if_pos h] at hF ⊢
      simp only [List.length_cons, List.length_nil] at hF
      exact ⟨j, .sh (eRow v), .sh (eL (v.map (tl rs))), .sh (eN (lead rs 0 v)), .sh, .sh, .sh, by unfold cst; omega, a1 h (by omega)⟩
    · rw [if_neg h]
      have hin : lead rs 0 v ∈ v.map (tl rs) := Classical.byContradiction fun z => by
        have lt : lead rs 0 v < n := by
          obtain ⟨r, e, _⟩ := p.hd
          rcases getN v with q | ⟨m, x, q⟩
          · rw [q] at e; cases e
          · rw [q, lead_snoc]; exact hd_lt w (p.lt x (by rw [q]; simp))
        have := nodup_len (m := List.range n) (List.nodup_cons.mpr ⟨z, p.nd⟩) fun x hx => by
          rcases List.mem_cons.mp hx with q | q
          · rw [q]; exact List.mem_range.mpr lt
          · obtain ⟨i, hi, rfl⟩ := List.mem_map.mp q
            exact List.mem_range.mpr (tl_lt w (p.lt i hi))
        rw [List.length_range, List.length_cons, List.length_map] at this
        omega
      refine ⟨j, .sh (eRow v), .sh (eL (v.map (tl rs))), .sh (eN (lead rs 0 v)), .sh, .sh, .sh, by unfold cst; omega, ?_⟩
      rw [List.append_nil]
      exact a2 h hin
  | succ g ih =>
    intro v p hn ws F s5 s6 s7 k k5 k6 k7 hk hF hw
    have hc : cst (g + 1) = 1 + 8 * cst g := rfl
    obtain ⟨j, rfl⟩ : ∃ j, k = j + 1 := ⟨k - 1, by omega⟩
    obtain ⟨a1, a2, a3⟩ := top 0 v p ws F s5 s6 s7 j k5 k6 k7
    unfold dfs at hF ⊢
    by_cases h : lead rs 0 v = tl rs f
    · rw [if_pos h] at hF ⊢
      simp only [List.length_cons, List.length_nil] at hF
      exact ⟨j, .sh (eRow v), .sh (eL (v.map (tl rs))), .sh (eN (lead rs 0 v)), .sh, .sh, .sh, by omega, a1 h (by omega)⟩
    · rw [if_neg h] at hF ⊢
      by_cases h2 : lead rs 0 v ∈ v.map (tl rs)
      · rw [if_pos h2]
        refine ⟨j, .sh (eRow v), .sh (eL (v.map (tl rs))), .sh (eN (lead rs 0 v)), .sh, .sh, .sh, by omega, ?_⟩
        rw [List.append_nil]
        exact a2 h h2
      · rw [if_neg h2] at hF ⊢
        have nl := nxt_len (f := f) (v := v) w hr
        have vl : v.length ≤ n := by
          have := nodup_len (m := List.range n) p.nd fun x hx => by
            obtain ⟨i, hi, rfl⟩ := List.mem_map.mp hx
            exact List.mem_range.mpr (tl_lt w (p.lt i hi))
          rwa [List.length_range, List.length_map] at this
        have wm := w.most
        have m8 : (nxt rs f v).reverse.length * cst g ≤ 7 * cst g := Nat.mul_le_mul_right _ (by rw [List.length_reverse]; exact nl)
        obtain ⟨k', t5, t6, t7, h5, h6, h7, hk', e⟩ := loop_list ih (nxt rs f v).reverse (fun x hx => by
          obtain ⟨px, i, rfl⟩ := p.on h2 (List.mem_reverse.mp hx)
          exact ⟨px, by simp only [List.length_append, List.length_singleton]; omega⟩) ws F (.sh (eRow v)) (.sh (eL (v.map (tl rs)))) (.sh (eN (lead rs 0 v))) j .sh .sh .sh (by omega) hF (by rw [List.length_reverse]; omega)
        refine ⟨k', t5, t6, t7, h5, h6, h7, by omega, ?_⟩
        rw [a3 h h2 (by omega) (by omega), ← e]
        rw [List.map_reverse, List.reverse_reverse]
end
end K01

set_option Elab.async false
set_option linter.all false
set_option maxRecDepth 100000
namespace K01
open DL PySem
section
variable {A S x Y u : D} {F : List D} {s2 s3 s4 s5 s6 s7 : Sl}
theorem rt_0 (i1 : dIx A (.int 1) = some (.v S)) (s1 : dIx S x = some (.v Y)) (y1 : dIx Y (.int 0) = some (.v u)) (k3 : Kp s3) :
    (mSet 3 (mB dIx (mB dIx (mB dIx (mVar 0) (mInt 1)) (mVar 2)) (mInt 0))) [.sh A, .ow false (.lst F), .sh x, s3, s4, s5, s6, s7, .no] = .ok .nx [.sh A, .ow false (.lst F), .sh x, .sh u, s4, s5, s6, s7, .no] := by
  rcases k3 with rfl | ⟨d, rfl⟩ <;> simp [i1, s1, y1, runF, initS, mRet, mAndV, mOrV, bind_eq, pure_eq, mCall, mCons, mNil, mVar, rdv, callAt, lent, ownAt, just, isLn, tst, dTru, asV, mChain, tst2, dLe, dLt, dGe, dGt, dIs, dIsNot, isNon, handed, outD, retRv, mIf, mOr, mAnd, mNotT, mTru, mSeq, mIsi, dIsi, tyD, tyLe, mOps, ops, mInt, mBl, mNon, mStr, mB, mU, op1, op2, mSet, store, free, DL.settle, DL.settles, mNotV, b2, mRetN, mNx, mDrop, mSeqI, items, mT2, okRet, noL, noLi, noLs, mYes, gSet, gUnp, gsCons, gsNil, mTup, mLst, guardL]
theorem rt_1 (k4 : Fr s4) : (mSet 4 (mLst (mCons (mTup (mCons (mTup (mCons (mVar 2) (mNil))) (mCons (mLst (mCons (mVar 3) (mNil))) (mNil)))) (mNil)))) [.sh A, .ow false (.lst F), .sh x, .sh u, s4, s5, s6, s7, .no] = .ok .nx [.sh A, .ow false (.lst F), .sh x, .sh u, .ow false (.lst [.tup [.tup [x], .lst [u]]]), s5, s6, s7, .no] := by
  have one : (1 : Nat) ≤ lim := by decide
  have two : (2 : Nat) ≤ lim := by decide
  rcases k4 with rfl | ⟨d, rfl⟩ | ⟨d, rfl⟩ <;> simp [one, two, runF, initS, mRet, mAndV, mOrV, bind_eq, pure_eq, mCall, mCons, mNil, mVar, rdv, callAt, lent, ownAt, just, isLn, tst, dTru, asV, mChain, tst2, dLe, dLt, dGe, dGt, dIs, dIsNot, isNon, handed, outD, retRv, mIf, mOr, mAnd, mNotT, mTru, mSeq, mIsi, dIsi, tyD, tyLe, mOps, ops, mInt, mBl, mNon, mStr, mB, mU, op1, op2, mSet, store, free, DL.settle, DL.settles, mNotV, b2, mRetN, mNx, mDrop, mSeqI, items, mT2, okRet, noL, noLi, noLs, mYes, gSet, gUnp, gsCons, gsNil, mTup, mLst, guardL]
theorem rounds_it {A S : D} {m : Nat} {F2 : Sl} (i1 : dIx A (.int 1) = some (.v S)) (l1 : dLen [S] = some (.v (eN m))) (hm : m ≤ 1000) : mRange1 (mOps dLen (mCons (mB dIx (mVar 0) (mInt 1)) (mNil))) [.sh A, F2, .no, .no, .no, .no, .no, .no, .no] = .ok ((List.range m).map eN) [.sh A, F2, .no, .no, .no, .no, .no, .no, .no] := by
  refine range1_ok (r := .v (eN m)) (σ1 := [.sh A, F2, .no, .no, .no, .no, .no, .no, .no]) ?_ rfl hm
  generalize eN m = Z at l1 ⊢
  simp [i1, l1, runF, initS, mRet, mAndV, mOrV, bind_eq, pure_eq, mCall, mCons, mNil, mVar, rdv, callAt, lent, ownAt, just, isLn, tst, dTru, asV, mChain, tst2, dLe, dLt, dGe, dGt, dIs, dIsNot, isNon, handed, outD, retRv, mIf, mOr, mAnd, mNotT, mTru, mSeq, mIsi, dIsi, tyD, tyLe, mOps, ops, mInt, mBl, mNon, mStr, mB, mU, op1, op2, mSet, store, free, DL.settle, DL.settles, mNotV, b2, mRetN, mNx, mDrop, mSeqI, items, mT2, okRet, noL, noLi, noLs, mYes, gSet, gUnp, gsCons, gsNil, mTup, mLst, guardL]
end
section
variable {n : Nat} {rs : List (Nat × Nat)}
theorem cst_le (h : n ≤ 4) : cst n ≤ 4681 := by
  have : n = 0 ∨ n = 1 ∨ n = 2 ∨ n = 3 ∨ n = 4 := by omega
  rcases this with rfl | rfl | rfl | rfl | rfl <;> decide
theorem search_ok (w : WebOk n rs) (hn : n ≤ 4) (hr : rs.length ≤ 7) {f : Nat} (hf : f < rs.length) {F : List (List Nat)} {s5 s6 s7 : Sl} (k5 : Kp s5) (k6 : Kp s6) (k7 : Kp s7) (hF : F.length + (dfs rs f n [f]).length ≤ 500) :
    ∃ s5' s6' s7', Kp s5' ∧ Kp s6' ∧ Kp s7' ∧ x_rounds_in_2 (SRd n rs f F [eIt rs [f]] s5 s6 s7) = .ok .nx (SRd n rs f (F ++ dfs rs f n [f]) [] s5' s6' s7') := by
  have c := cst_le hn
  obtain ⟨k', t5, t6, t7, h5, h6, h7, hk, e⟩ := loop_P w hr n [f] (PV.start hf) (by simp) [] F s5 s6 s7 100000 k5 k6 k7 (by omega) hF (by simp only [List.length_nil]; omega)
  refine ⟨t5, t6, t7, h5, h6, h7, ?_⟩
  obtain ⟨j, rfl⟩ : ∃ j, k' = j + 1 := ⟨k' - 1, by omega⟩
  show whL (mTru (mVar 4)) RB 100000 (SRd n rs f F ([] ++ [eIt rs [f]]) s5 s6 s7) = _
  rw [e]
  exact while_end (rb_test false rfl)
theorem allF_snoc (n : Nat) (rs : List (Nat × Nat)) (m : Nat) : allF n rs (m + 1) = allF n rs m ++ dfs rs m n [m] := by
  unfold allF
  rw [List.range_succ, List.flatMap_append]
  simp
theorem rounds_3_ok (w : WebOk n rs) (hn : n ≤ 4) (hr : rs.length ≤ 7) : ∃ s2 s3 s4 s5 s6 s7, x_rounds_in_3 [.sh (eWeb n rs), .ow false (.lst []), .no, .no, .no, .no, .no, .no, .no] = .ok .nx [.sh (eWeb n rs), .ow false (.lst ((allF n rs rs.length).map eRow)), s2, s3, s4, s5, s6, s7, .no] := by
  obtain ⟨σ', e, s2, s3, s4, s5, s6, s7, k2, k3, k4, k5, k6, k7, rfl⟩ := forL_relL (f := mTurn (gSet 2) (mSeq (mSet 3 (mB dIx (mB dIx (mB dIx (mVar 0) (mInt 1)) (mVar 2)) (mInt 0))) (mSeq (mSet 4 (mLst (mCons (mTup (mCons (mTup (mCons (mVar 2) (mNil))) (mCons (mLst (mCons (mVar 3) (mNil))) (mNil)))) (mNil)))) (x_rounds_in_2)))) (g := eN)
    (I := fun l σ => ∃ s2 s3 s4 s5 s6 s7 : Sl, Kp s2 ∧ Kp s3 ∧ Fr s4 ∧ Kp s5 ∧ Kp s6 ∧ Kp s7 ∧ σ = [.sh (eWeb n rs), .ow false (.lst ((allF n rs l.length).map eRow)), s2, s3, s4, s5, s6, s7, .no])
    (List.range rs.length) [] [.sh (eWeb n rs), .ow false (.lst []), .no, .no, .no, .no, .no, .no, .no] ⟨.no, .no, .no, .no, .no, .no, .no, .no, .no, .no, .no, .no, rfl⟩ (by
      rintro dn f rr e σ ⟨s2, s3, s4, s5, s6, s7, k2, k3, k4, k5, k6, k7, rfl⟩
      rw [List.nil_append] at e
      obtain ⟨q1, hf, q3⟩ := range_split e
      have few := allF_few (n := n) hr (m := f + 1) (by omega)
      rw [allF_snoc, List.length_append] at few
      obtain ⟨t5, t6, t7, h5, h6, h7, e'⟩ := search_ok w hn hr hf (F := allF n rs f) k5 k6 k7 (by omega)
      have g2 : mTurn (gSet 2) (mSeq (mSet 3 (mB dIx (mB dIx (mB dIx (mVar 0) (mInt 1)) (mVar 2)) (mInt 0))) (mSeq (mSet 4 (mLst (mCons (mTup (mCons (mTup (mCons (mVar 2) (mNil))) (mCons (mLst (mCons (mVar 3) (mNil))) (mNil)))) (mNil)))) (x_rounds_in_2))) (eN f) [.sh (eWeb n rs), .ow false (.lst ((allF n rs dn.length).map eRow)), s2, s3, s4, s5, s6, s7, .no] = (mSeq (mSet 3 (mB dIx (mB dIx (mB dIx (mVar 0) (mInt 1)) (mVar 2)) (mInt 0))) (mSeq (mSet 4 (mLst (mCons (mTup (mCons (mTup (mCons (mVar 2) (mNil))) (mCons (mLst (mCons (mVar 3) (mNil))) (mNil)))) (mNil)))) (x_rounds_in_2))) [.sh (eWeb n rs), .ow false (.lst ((allF n rs dn.length).map eRow)), .sh (eN f), s3, s4, s5, s6, s7, .no] := by
        unfold mTurn
        rcases k2 with rfl | ⟨d, rfl⟩ <;> rfl
      rw [← q1] at g2 ⊢
      refine ⟨SRd n rs f (allF n rs f ++ dfs rs f n [f]) [] t5 t6 t7, .inl ?_, .sh (eN f), .sh (eN (tl rs f)), .ow false (.lst []), t5, t6, t7, .sh, .sh, .ow, h5, h6, h7, ?_⟩
      · rw [g2, seq_nx (rt_0 (u := eN (tl rs f)) rfl (road_at hf) rfl k3), seq_nx (rt_1 k4)]
        exact e'
      · rw [List.length_append, List.length_singleton, ← q1, allF_snoc])
  rw [List.nil_append, List.length_range] at e
  refine ⟨s2, s3, s4, s5, s6, s7, ?_⟩
  unfold x_rounds_in_3 mFor
  rw [ok_bind (rounds_it (m := rs.length) rfl (by simp [dLen]) (by omega))]
  exact e
theorem rounds_in_a {A : D} {F : List D} {G : D} {s2 s3 s4 s5 s6 s7 : Sl} (h : x_rounds_in_3 [.sh A, .ow false (.lst []), .no, .no, .no, .no, .no, .no, .no] = .ok .nx [.sh A, .ow false (.lst F), s2, s3, s4, s5, s6, s7, .no]) (e : dSorted [.lst F] = some (.fr G)) : F_rounds_in [A] = .ok G true .non := by
  have z : (0 : Nat) ≤ lim := by decide
  simp [F_rounds_in, m_rounds_in, z, h, e, runF, initS, mRet, mAndV, mOrV, bind_eq, pure_eq, mCall, mCons, mNil, mVar, rdv, callAt, lent, ownAt, just, isLn, tst, dTru, asV, mChain, tst2, dLe, dLt, dGe, dGt, dIs, dIsNot, isNon, handed, outD, retRv, mIf, mOr, mAnd, mNotT, mTru, mSeq, mIsi, dIsi, tyD, tyLe, mOps, ops, mInt, mBl, mNon, mStr, mB, mU, op1, op2, mSet, store, free, DL.settle, DL.settles, mNotV, b2, mRetN, mNx, mDrop, mSeqI, items, mT2, okRet, noL, noLi, noLs, mYes, gSet, gUnp, gsCons, gsNil, mTup, mLst, guardL]
theorem rounds_in_ok (w : WebOk n rs) (hn : n ≤ 4) (hr : rs.length ≤ 7) : F_rounds_in [eWeb n rs] = .ok (.lst ((rds n rs).map eRow)) true .non := by
  obtain ⟨s2, s3, s4, s5, s6, s7, h⟩ := rounds_3_ok w hn hr
  have e := sorted_row (allF n rs rs.length)
  rw [isort_row, rds_allF w] at e
  exact rounds_in_a h e
theorem rounds_a {d A : D} {L : D} (h1 : F_sure_web [d] = .ok A false .non) (h2 : F_rounds_in [A] = .ok L true .non) : F_rounds [d] = .ok L true .non := by
  simp [F_rounds, m_rounds, h1, h2, runF, initS, mRet, mAndV, mOrV, bind_eq, pure_eq, mCall, mCons, mNil, mVar, rdv, callAt, lent, ownAt, just, isLn, tst, dTru, asV, mChain, tst2, dLe, dLt, dGe, dGt, dIs, dIsNot, isNon, handed, outD, retRv, mIf, mOr, mAnd, mNotT, mTru, mSeq, mIsi, dIsi, tyD, tyLe, mOps, ops, mInt, mBl, mNon, mStr, mB, mU, op1, op2, mSet, store, free, DL.settle, DL.settles, mNotV, b2, mRetN, mNx, mDrop, mSeqI, items, mT2, okRet, noL, noLi, noLs, mYes, gSet, gUnp, gsCons, gsNil, mTup, mLst, guardL]
theorem rounds_ok (w : WebOk n rs) (hn : n ≤ 4) (hr : rs.length ≤ 7) {d : D} (hp : PlainD 12 d) (e : tupD d = eWeb n rs) : F_rounds [d] = .ok (.lst ((rds n rs).map eRow)) true .non := rounds_a (sure_web_ok w hp e) (rounds_in_ok w hn hr)
end
end K01

set_option Elab.async false
set_option linter.all false
set_option maxRecDepth 100000
namespace K01
open DL PySem
abbrev LT : M Bool := (mAnd (mT2 dLe (mOps dLen (mCons (mVar 3) (mNil))) (mB dIx (mVar 0) (mInt 0))) (mT2 dEqC (mOps dLen (mCons (mCall 2 none F_out_of (mCons (mVar 0) (mCons (mVar 4) (mNil)))) (mNil))) (mInt 1)))
abbrev LB : M Fl := (mSeq (mSet 3 (mB dAdd (mVar 3) (mTup (mCons (mB dIx (mCall 2 none F_out_of (mCons (mVar 0) (mCons (mVar 4) (mNil)))) (mInt 0)) (mNil))))) (mSeq (mSet 4 (mB dIx (mB dIx (mB dIx (mVar 0) (mInt 1)) (mB dIx (mVar 3) (mU dNeg (mInt 1)))) (mInt 1))) (mIf (mT2 dEqC (mVar 4) (mVar 2)) (mSeq (mIf (mT2 dEqC (mB dIx (mVar 3) (mInt 0)) (mOps dMin1 (mCons (mVar 3) (mNil)))) (mDrop (mApp 1 (mVar 3))) (mNx)) (mBr)) (mNx))))
theorem while_br {t : M Bool} {b : M Fl} {σ σ1 : Sg} {k : Nat} (h : t σ = .ok true σ) (hb : b σ = .ok .br σ1) : whL t b (k + 1) σ = .ok .nx σ1 := by
  unfold whL
  rw [ok_bind h, if_pos rfl, ok_bind hb]
  rfl
section
variable {A N L S P H k Y u a0 mm : D} {F O V : List D} {s3 s4 : Sl}
theorem lt_0 (e0 : dIx A (.int 0) = some (.v N)) (l : dLen [.tup V] = some (.v L)) (e : dLe L N = some false) : LT [.sh A, .ow false (.lst F), .sh P, .sh (.tup V), .sh H] = .ok false [.sh A, .ow false (.lst F), .sh P, .sh (.tup V), .sh H] := by
  simp [LT, e0, l, e, runF, initS, mRet, mAndV, mOrV, bind_eq, pure_eq, mCall, mCons, mNil, mVar, rdv, callAt, lent, ownAt, just, isLn, tst, dTru, asV, mChain, tst2, dLe, dLt, dGe, dGt, dIs, dIsNot, isNon, handed, outD, retRv, mIf, mOr, mAnd, mNotT, mTru, mSeq, mIsi, dIsi, tyD, tyLe, mOps, ops, mInt, mBl, mNon, mStr, mB, mU, op1, op2, mSet, store, free, DL.settle, DL.settles, mNotV, b2, mRetN, mNx, mDrop, mSeqI, items, mT2, okRet, noL, noLi, noLs, mYes, gSet, gUnp, gsCons, gsNil, mTup, mLst, guardL, -dLe]
theorem lt_1 {z : Bool} (e0 : dIx A (.int 0) = some (.v N)) (l : dLen [.tup V] = some (.v L)) (e : dLe L N = some true) (o : F_out_of [A, H] = .ok (.lst O) true .non) (l2 : dLen [.lst O] = some (.v k)) (e2 : dEqC k (.int 1) = some z) :
    LT [.sh A, .ow false (.lst F), .sh P, .sh (.tup V), .sh H] = .ok z [.sh A, .ow false (.lst F), .sh P, .sh (.tup V), .sh H] := by
  simp [LT, e0, l, e, o, l2, e2, runF, initS, mRet, mAndV, mOrV, bind_eq, pure_eq, mCall, mCons, mNil, mVar, rdv, callAt, lent, ownAt, just, isLn, tst, dTru, asV, mChain, tst2, dLe, dLt, dGe, dGt, dIs, dIsNot, isNon, handed, outD, retRv, mIf, mOr, mAnd, mNotT, mTru, mSeq, mIsi, dIsi, tyD, tyLe, mOps, ops, mInt, mBl, mNon, mStr, mB, mU, op1, op2, mSet, store, free, DL.settle, DL.settles, mNotV, b2, mRetN, mNx, mDrop, mSeqI, items, mT2, okRet, noL, noLi, noLs, mYes, gSet, gUnp, gsCons, gsNil, mTup, mLst, guardL, -dLe]
theorem lb_0 (o : F_out_of [A, H] = .ok (.lst [k]) true .non) (a : dAdd (.tup V) (.tup [k]) = some (.v (.tup (V ++ [k])))) : (mSet 3 (mB dAdd (mVar 3) (mTup (mCons (mB dIx (mCall 2 none F_out_of (mCons (mVar 0) (mCons (mVar 4) (mNil)))) (mInt 0)) (mNil))))) [.sh A, .ow false (.lst F), .sh P, .sh (.tup V), .sh H] = .ok .nx [.sh A, .ow false (.lst F), .sh P, .sh (.tup (V ++ [k])), .sh H] := by
  have one : (1 : Nat) ≤ lim := by decide
  have i : dIx (.lst [k]) (.int 0) = some (.v k) := rfl
  simp [o, a, one, i, runF, initS, mRet, mAndV, mOrV, bind_eq, pure_eq, mCall, mCons, mNil, mVar, rdv, callAt, lent, ownAt, just, isLn, tst, dTru, asV, mChain, tst2, dLe, dLt, dGe, dGt, dIs, dIsNot, isNon, handed, outD, retRv, mIf, mOr, mAnd, mNotT, mTru, mSeq, mIsi, dIsi, tyD, tyLe, mOps, ops, mInt, mBl, mNon, mStr, mB, mU, op1, op2, mSet, store, free, DL.settle, DL.settles, mNotV, b2, mRetN, mNx, mDrop, mSeqI, items, mT2, okRet, noL, noLi, noLs, mYes, gSet, gUnp, gsCons, gsNil, mTup, mLst, guardL]
theorem lb_1 {T : D} (i1 : dIx A (.int 1) = some (.v S)) (t1 : dIx T (.int (-1)) = some (.v k)) (s1 : dIx S k = some (.v Y)) (y1 : dIx Y (.int 1) = some (.v u)) : (mSet 4 (mB dIx (mB dIx (mB dIx (mVar 0) (mInt 1)) (mB dIx (mVar 3) (mU dNeg (mInt 1)))) (mInt 1))) [.sh A, .ow false (.lst F), .sh P, .sh T, .sh H] = .ok .nx [.sh A, .ow false (.lst F), .sh P, .sh T, .sh u] := by
  simp [i1, t1, s1, y1, dNeg, runF, initS, mRet, mAndV, mOrV, bind_eq, pure_eq, mCall, mCons, mNil, mVar, rdv, callAt, lent, ownAt, just, isLn, tst, dTru, asV, mChain, tst2, dLe, dLt, dGe, dGt, dIs, dIsNot, isNon, handed, outD, retRv, mIf, mOr, mAnd, mNotT, mTru, mSeq, mIsi, dIsi, tyD, tyLe, mOps, ops, mInt, mBl, mNon, mStr, mB, mU, op1, op2, mSet, store, free, DL.settle, DL.settles, mNotV, b2, mRetN, mNx, mDrop, mSeqI, items, mT2, okRet, noL, noLi, noLs, mYes, gSet, gUnp, gsCons, gsNil, mTup, mLst, guardL]
theorem lb_2a {T : D} (e : dEqC u P = some false) : (mIf (mT2 dEqC (mVar 4) (mVar 2)) (mSeq (mIf (mT2 dEqC (mB dIx (mVar 3) (mInt 0)) (mOps dMin1 (mCons (mVar 3) (mNil)))) (mDrop (mApp 1 (mVar 3))) (mNx)) (mBr)) (mNx)) [.sh A, .ow false (.lst F), .sh P, .sh T, .sh u] = .ok .nx [.sh A, .ow false (.lst F), .sh P, .sh T, .sh u] := by
  simp [e, runF, initS, mRet, mAndV, mOrV, bind_eq, pure_eq, mCall, mCons, mNil, mVar, rdv, callAt, lent, ownAt, just, isLn, tst, dTru, asV, mChain, tst2, dLe, dLt, dGe, dGt, dIs, dIsNot, isNon, handed, outD, retRv, mIf, mOr, mAnd, mNotT, mTru, mSeq, mIsi, dIsi, tyD, tyLe, mOps, ops, mInt, mBl, mNon, mStr, mB, mU, op1, op2, mSet, store, free, DL.settle, DL.settles, mNotV, b2, mRetN, mNx, mDrop, mSeqI, items, mT2, okRet, noL, noLi, noLs, mYes, gSet, gUnp, gsCons, gsNil, mTup, mLst, guardL]
theorem lb_2b {T : D} (e : dEqC u P = some true) (t0 : dIx T (.int 0) = some (.v a0)) (mn : dMin1 [T] = some (.v mm)) (e2 : dEqC a0 mm = some false) : (mIf (mT2 dEqC (mVar 4) (mVar 2)) (mSeq (mIf (mT2 dEqC (mB dIx (mVar 3) (mInt 0)) (mOps dMin1 (mCons (mVar 3) (mNil)))) (mDrop (mApp 1 (mVar 3))) (mNx)) (mBr)) (mNx)) [.sh A, .ow false (.lst F), .sh P, .sh T, .sh u] = .ok .br [.sh A, .ow false (.lst F), .sh P, .sh T, .sh u] := by
  simp [e, t0, mn, e2, mBr, runF, initS, mRet, mAndV, mOrV, bind_eq, pure_eq, mCall, mCons, mNil, mVar, rdv, callAt, lent, ownAt, just, isLn, tst, dTru, asV, mChain, tst2, dLe, dLt, dGe, dGt, dIs, dIsNot, isNon, handed, outD, retRv, mIf, mOr, mAnd, mNotT, mTru, mSeq, mIsi, dIsi, tyD, tyLe, mOps, ops, mInt, mBl, mNon, mStr, mB, mU, op1, op2, mSet, store, free, DL.settle, DL.settles, mNotV, b2, mRetN, mNx, mDrop, mSeqI, items, mT2, okRet, noL, noLi, noLs, mYes, gSet, gUnp, gsCons, gsNil, mTup, mLst, guardL]
theorem lb_2c {T : D} (e : dEqC u P = some true) (t0 : dIx T (.int 0) = some (.v a0)) (mn : dMin1 [T] = some (.v mm)) (e2 : dEqC a0 mm = some true) (hl : F.length < lim) : (mIf (mT2 dEqC (mVar 4) (mVar 2)) (mSeq (mIf (mT2 dEqC (mB dIx (mVar 3) (mInt 0)) (mOps dMin1 (mCons (mVar 3) (mNil)))) (mDrop (mApp 1 (mVar 3))) (mNx)) (mBr)) (mNx)) [.sh A, .ow false (.lst F), .sh P, .sh T, .sh u] = .ok .br [.sh A, .ow false (.lst (F ++ [T])), .sh P, .sh T, .sh u] := by
  simp [e, t0, mn, e2, hl, mApp, ownL, wrL, mBr, runF, initS, mRet, mAndV, mOrV, bind_eq, pure_eq, mCall, mCons, mNil, mVar, rdv, callAt, lent, ownAt, just, isLn, tst, dTru, asV, mChain, tst2, dLe, dLt, dGe, dGt, dIs, dIsNot, isNon, handed, outD, retRv, mIf, mOr, mAnd, mNotT, mTru, mSeq, mIsi, dIsi, tyD, tyLe, mOps, ops, mInt, mBl, mNon, mStr, mB, mU, op1, op2, mSet, store, free, DL.settle, DL.settles, mNotV, b2, mRetN, mNx, mDrop, mSeqI, items, mT2, okRet, noL, noLi, noLs, mYes, gSet, gUnp, gsCons, gsNil, mTup, mLst, guardL]
theorem lb_seq {r : Fl} {σ σ1 σ2 σ3 : Sg} (h1 : (mSet 3 (mB dAdd (mVar 3) (mTup (mCons (mB dIx (mCall 2 none F_out_of (mCons (mVar 0) (mCons (mVar 4) (mNil)))) (mInt 0)) (mNil))))) σ = .ok .nx σ1) (h2 : (mSet 4 (mB dIx (mB dIx (mB dIx (mVar 0) (mInt 1)) (mB dIx (mVar 3) (mU dNeg (mInt 1)))) (mInt 1))) σ1 = .ok .nx σ2) (h3 : (mIf (mT2 dEqC (mVar 4) (mVar 2)) (mSeq (mIf (mT2 dEqC (mB dIx (mVar 3) (mInt 0)) (mOps dMin1 (mCons (mVar 3) (mNil)))) (mDrop (mApp 1 (mVar 3))) (mNx)) (mBr)) (mNx)) σ2 = .ok r σ3) : LB σ = .ok r σ3 := by
  unfold LB
  rw [seq_nx h1, seq_nx h2]
  exact h3
theorem lp_0 (k3 : Kp s3) (k4 : Kp s4) : (mPar 3 4 (mTup (mNil)) (mVar 2)) [.sh A, .ow false (.lst F), .sh P, s3, s4] = .ok .nx [.sh A, .ow false (.lst F), .sh P, .sh (.tup []), .sh P] := by
  have z : (0 : Nat) ≤ lim := by decide
  rcases k3 with rfl | ⟨d, rfl⟩ <;> rcases k4 with rfl | ⟨d', rfl⟩ <;> simp [mPar, DL.settleL, z, runF, initS, mRet, mAndV, mOrV, bind_eq, pure_eq, mCall, mCons, mNil, mVar, rdv, callAt, lent, ownAt, just, isLn, tst, dTru, asV, mChain, tst2, dLe, dLt, dGe, dGt, dIs, dIsNot, isNon, handed, outD, retRv, mIf, mOr, mAnd, mNotT, mTru, mSeq, mIsi, dIsi, tyD, tyLe, mOps, ops, mInt, mBl, mNon, mStr, mB, mU, op1, op2, mSet, store, free, DL.settle, DL.settles, mNotV, b2, mRetN, mNx, mDrop, mSeqI, items, mT2, okRet, noL, noLi, noLs, mYes, gSet, gUnp, gsCons, gsNil, mTup, mLst, guardL]
end
theorem le_nat (a b : Nat) : dLe (eN a) (eN b) = some (decide (a ≤ b)) := by
  simp [dLe]
section
variable {n p : Nat} {rs : List (Nat × Nat)}
theorem fol_ok (w : WebOk n rs) : ∀ (g : Nat) (v : List Nat), n + 1 ≤ v.length + g → ∀ (F : List (List Nat)) (k : Nat), g + 1 ≤ k → F.length ≤ 1000 →
    ∃ s3 s4, Kp s3 ∧ Kp s4 ∧ whL LT LB k [.sh (eWeb n rs), .ow false (.lst (F.map eRow)), .sh (eN p), .sh (eRow v), .sh (eN (lead rs p v))] = .ok .nx [.sh (eWeb n rs), .ow false (.lst ((F ++ fol n rs p g v).map eRow)), .sh (eN p), s3, s4] := by
  have len : ∀ v : List Nat, dLen [eRow v] = some (.v (eN v.length)) := fun v => by
    show some (Rv.v (D.int ((eNs v).length : Nat))) = _
    rw [List.length_map]
  have len2 : ∀ v : List Nat, dLen [eL v] = some (.v (eN v.length)) := fun v => by
    show some (Rv.v (D.int ((eNs v).length : Nat))) = _
    rw [List.length_map]
  have wm := w.most
  have lm : lim = 16777216 := rfl
  intro g
  induction g with
  | zero =>
    intro v hv F k hk hF
    obtain ⟨j, rfl⟩ : ∃ j, k = j + 1 := ⟨k - 1, by omega⟩
    have e := le_nat v.length n
    rw [decide_eq_false (by omega)] at e
    refine ⟨.sh (eRow v), .sh (eN (lead rs p v)), .sh, .sh, ?_⟩
    unfold fol
    rw [List.append_nil]
    exact while_end (lt_0 (N := eN n) rfl (len v) e)
  | succ g ih =>
    intro v hv F k hk hF
    obtain ⟨j, rfl⟩ : ∃ j, k = j + 1 := ⟨k - 1, by omega⟩
    have e := le_nat v.length n
    unfold fol
    by_cases hl : v.length ≤ n
    · rw [if_pos hl]
      rw [decide_eq_true hl] at e
      have o := out_of_ok (p := lead rs p v) w
      have e2 := nat_eqC (outs rs (lead rs p v)).length 1
      have T := lt_1 (F := F.map eRow) (P := eN p) (N := eN n) (A := eWeb n rs) rfl (len v) e o (len2 _) e2
      have stop : (outs rs (lead rs p v)).length ≠ 1 → ∃ s3 s4, Kp s3 ∧ Kp s4 ∧ whL LT LB (j + 1) [.sh (eWeb n rs), .ow false (.lst (F.map eRow)), .sh (eN p), .sh (eRow v), .sh (eN (lead rs p v))] = .ok .nx [.sh (eWeb n rs), .ow false (.lst ((F ++ []).map eRow)), .sh (eN p), s3, s4] := fun h => by
        rw [decide_eq_false h] at T
        refine ⟨.sh (eRow v), .sh (eN (lead rs p v)), .sh, .sh, ?_⟩
        rw [List.append_nil]
        exact while_end T
      match ho : outs rs (lead rs p v) with
      | [] => exact stop (by rw [ho]; simp)
      | a :: b :: r => exact stop (by rw [ho]; simp only [List.length_cons]; omega)
      | [x] =>
        rw [ho] at T
        have o : F_out_of [eWeb n rs, eN (lead rs p v)] = .ok (.lst [eN x]) true .non := by
          have := out_of_ok (p := lead rs p v) w
          rw [show nums (fun r => decide (r.1 = lead rs p v)) rs = [x] from ho] at this
          exact this
        have xl : x < rs.length := nums_lt (show x ∈ outs rs (lead rs p v) by rw [ho]; simp)
        have q1 := lb_0 (F := F.map eRow) (P := eN p) o (add_row (L := eNs v) (e := eN x) (by rw [List.length_map]; omega))
        rw [← eNs_snoc] at q1
        have t1 : dIx (eRow (v ++ [x])) (.int (-1)) = some (.v (eN x)) := by
          show dIx (.tup (eNs (v ++ [x]))) _ = _
          rw [eNs_snoc]
          exact ix_tup_last _ _
        have q2 := lb_1 (F := F.map eRow) (P := eN p) (A := eWeb n rs) (H := eN (lead rs p v)) (u := eN (hd rs x)) rfl t1 (road_at xl) rfl
        have e3 := nat_eqC (hd rs x) p
        dsimp only
        by_cases hp : hd rs x = p
        · rw [if_pos hp]
          rw [decide_eq_true hp] at e3
          obtain ⟨mm, mn, hm⟩ := min_nat (l := v ++ [x]) (by simp)
          have t0 : dIx (eRow (v ++ [x])) (.int 0) = some (.v (eN ((v ++ [x]).headD 0))) := by
            cases v with
            | nil => rfl
            | cons a r => exact ix_tup (xs := eNs (a :: r ++ [x])) (k := 0) (by simp)
          have e4 := nat_eqC ((v ++ [x]).headD 0) mm
          refine ⟨.sh (eRow (v ++ [x])), .sh (eN (hd rs x)), .sh, .sh, ?_⟩
          by_cases z : isMin (v ++ [x]) = true
          · rw [if_pos z]
            rw [decide_eq_true (hm.mpr z)] at e4
            rw [while_br T (lb_seq q1 q2 (lb_2c e3 t0 mn e4 (by rw [List.length_map]; omega)))]
            rw [List.map_append]
            rfl
          · rw [if_neg z, List.append_nil]
            rw [decide_eq_false (fun q => z (hm.mp q))] at e4
            exact while_br T (lb_seq q1 q2 (lb_2b e3 t0 mn e4))
        · rw [if_neg hp]
          rw [decide_eq_false hp] at e3
          have := while_on T (lb_seq q1 q2 (lb_2a e3)) (k := j)
          rw [this]
          obtain ⟨s3, s4, k3, k4, e5⟩ := ih (v ++ [x]) (by simp only [List.length_append, List.length_singleton]; omega) F j (by omega) hF
          rw [lead_snoc] at e5
          exact ⟨s3, s4, k3, k4, e5⟩
    · rw [if_neg hl]
      rw [decide_eq_false hl] at e
      refine ⟨.sh (eRow v), .sh (eN (lead rs p v)), .sh, .sh, ?_⟩
      rw [List.append_nil]
      exact while_end (lt_0 (N := eN n) rfl (len v) e)
theorem loneF_snoc (n : Nat) (rs : List (Nat × Nat)) (m : Nat) : loneF n rs (m + 1) = loneF n rs m ++ fol n rs m (n + 2) [] := by
  unfold loneF
  rw [List.range_succ, List.flatMap_append]
  simp
theorem lone_2_ok (w : WebOk n rs) : ∃ s2 s3 s4, x_lone_in_2 [.sh (eWeb n rs), .ow false (.lst []), .no, .no, .no] = .ok .nx [.sh (eWeb n rs), .ow false (.lst ((loneF n rs n).map eRow)), s2, s3, s4] := by
  have wm := w.most
  obtain ⟨σ', e, s2, s3, s4, k2, k3, k4, rfl⟩ := forL_relL (f := mTurn (gSet 2) (mSeq (mPar 3 4 (mTup (mNil)) (mVar 2)) (x_lone_in_1))) (g := eN)
    (I := fun l σ => ∃ s2 s3 s4 : Sl, Kp s2 ∧ Kp s3 ∧ Kp s4 ∧ σ = [.sh (eWeb n rs), .ow false (.lst ((loneF n rs l.length).map eRow)), s2, s3, s4])
    (List.range n) [] [.sh (eWeb n rs), .ow false (.lst []), .no, .no, .no] ⟨.no, .no, .no, .no, .no, .no, rfl⟩ (by
      rintro dn p rr e σ ⟨s2, s3, s4, k2, k3, k4, rfl⟩
      rw [List.nil_append] at e
      obtain ⟨q1, hp, q3⟩ := range_split e
      have few := loneF_len n rs p
      obtain ⟨t3, t4, h3, h4, e'⟩ := fol_ok (p := p) w (n + 2) [] (by simp) (loneF n rs p) 100000 (by omega) (by omega)
      have g2 : mTurn (gSet 2) (mSeq (mPar 3 4 (mTup (mNil)) (mVar 2)) (x_lone_in_1)) (eN p) [.sh (eWeb n rs), .ow false (.lst ((loneF n rs dn.length).map eRow)), s2, s3, s4] = (mSeq (mPar 3 4 (mTup (mNil)) (mVar 2)) (x_lone_in_1)) [.sh (eWeb n rs), .ow false (.lst ((loneF n rs dn.length).map eRow)), .sh (eN p), s3, s4] := by
        unfold mTurn
        rcases k2 with rfl | ⟨d, rfl⟩ <;> rfl
      rw [← q1] at g2 ⊢
      refine ⟨[.sh (eWeb n rs), .ow false (.lst ((loneF n rs p ++ fol n rs p (n + 2) []).map eRow)), .sh (eN p), t3, t4], .inl ?_, .sh (eN p), t3, t4, .sh, h3, h4, ?_⟩
      · rw [g2, seq_nx (lp_0 k3 k4)]
        exact e'
      · rw [List.length_append, List.length_singleton, ← q1, loneF_snoc])
  rw [List.nil_append, List.length_range] at e
  refine ⟨s2, s3, s4, ?_⟩
  unfold x_lone_in_2 mFor
  rw [ok_bind (show mRange1 (mB dIx (mVar 0) (mInt 0)) [.sh (eWeb n rs), .ow false (.lst []), .no, .no, .no] = .ok ((List.range n).map eN) _ from range1_ok (r := .v (eN n)) rfl rfl (by omega))]
  exact e
theorem lone_in_a {A : D} {F : List D} {G : D} {s2 s3 s4 : Sl} (h : x_lone_in_2 [.sh A, .ow false (.lst []), .no, .no, .no] = .ok .nx [.sh A, .ow false (.lst F), s2, s3, s4]) (e : dSorted [.lst F] = some (.fr G)) : F_lone_in [A] = .ok G true .non := by
  have z : (0 : Nat) ≤ lim := by decide
  simp [F_lone_in, m_lone_in, z, h, e, runF, initS, mRet, mAndV, mOrV, bind_eq, pure_eq, mCall, mCons, mNil, mVar, rdv, callAt, lent, ownAt, just, isLn, tst, dTru, asV, mChain, tst2, dLe, dLt, dGe, dGt, dIs, dIsNot, isNon, handed, outD, retRv, mIf, mOr, mAnd, mNotT, mTru, mSeq, mIsi, dIsi, tyD, tyLe, mOps, ops, mInt, mBl, mNon, mStr, mB, mU, op1, op2, mSet, store, free, DL.settle, DL.settles, mNotV, b2, mRetN, mNx, mDrop, mSeqI, items, mT2, okRet, noL, noLi, noLs, mYes, gSet, gUnp, gsCons, gsNil, mTup, mLst, guardL]
theorem lone_a {d A : D} {L : D} (h1 : F_sure_web [d] = .ok A false .non) (h2 : F_lone_in [A] = .ok L true .non) : F_lone_rounds [d] = .ok L true .non := by
  simp [F_lone_rounds, m_lone_rounds, h1, h2, runF, initS, mRet, mAndV, mOrV, bind_eq, pure_eq, mCall, mCons, mNil, mVar, rdv, callAt, lent, ownAt, just, isLn, tst, dTru, asV, mChain, tst2, dLe, dLt, dGe, dGt, dIs, dIsNot, isNon, handed, outD, retRv, mIf, mOr, mAnd, mNotT, mTru, mSeq, mIsi, dIsi, tyD, tyLe, mOps, ops, mInt, mBl, mNon, mStr, mB, mU, op1, op2, mSet, store, free, DL.settle, DL.settles, mNotV, b2, mRetN, mNx, mDrop, mSeqI, items, mT2, okRet, noL, noLi, noLs, mYes, gSet, gUnp, gsCons, gsNil, mTup, mLst, guardL]
theorem lone_ok (w : WebOk n rs) : F_lone_rounds [eWeb n rs] = .ok (.lst ((lones n rs).map eRow)) true .non := by
  obtain ⟨s2, s3, s4, h⟩ := lone_2_ok w
  have e := sorted_row (loneF n rs n)
  rw [isort_row, lones_loneF w] at e
  exact lone_a (sure_web_self w) (lone_in_a h e)
end
end K01

set_option Elab.async false
set_option linter.all false
set_option maxRecDepth 100000
namespace K01
open DL PySem
/-- the law's state -/
abbrev T5 (t W : D) (s2 s3 s4 s5 s6 s7 s8 s9 s10 s11 s12 : Sl) : Sg := [.ow true t, .sh W, s2, s3, s4, s5, s6, s7, s8, s9, s10, s11, s12, .no, .no]
theorem r0 {t t1 t2 t3 W1 W2 X : D} (e1 : F__law_web [t, .int 4, .int 7] = .ok W1 false t1) (e2 : F__law_some_web [t1] = .ok W2 false t2) (e3 : F__law_of [t2, .lst [W1, W2]] = .ok X false t3) :
    (mSet 1 (mCall 2 (some 0) F__law_of (mCons (mVar 0) (mCons (mLst (mCons (mCall 3 (some 0) F__law_web (mCons (mVar 0) (mCons (mInt 4) (mCons (mInt 7) (mNil))))) (mCons (mCall 1 (some 0) F__law_some_web (mCons (mVar 0) (mNil))) (mNil)))) (mNil))))) [.ow true t, .no, .no, .no, .no, .no, .no, .no, .no, .no, .no, .no, .no, .no, .no] = .ok .nx (T5 t3 X .no .no .no .no .no .no .no .no .no .no .no) := by
  have two : (2 : Nat) ≤ lim := by decide
  simp [T5, e1, e2, e3, two, mCall, mCons, mNil, mVar, mInt, mLst, guardL, mSet, store, free, DL.settle, DL.settles, bind_eq, pure_eq, rdv, callAt, lent, ownAt, just, isLn, retRv]
section
variable {t W : D} {s2 s3 s4 s5 s6 s7 s8 s9 s10 s11 s12 : Sl}
theorem r1 : (mSet 2 (mLst (mNil))) (T5 t W .no s3 s4 s5 s6 s7 s8 s9 s10 s11 s12) = .ok .nx (T5 t W (.ow false (.lst [])) s3 s4 s5 s6 s7 s8 s9 s10 s11 s12) := by
  have z : (0 : Nat) ≤ lim := by decide
  simp [T5, z, mSet, mLst, guardL, mNil, DL.settles, store, free, bind_eq, pure_eq]
theorem seq_call3 {F : FD} {A B C : D} {L : List D} {σ : Sg} {i j k : Nat} {f : Bool} (h0 : σ[i]? = some (.sh A)) (h1 : σ[j]? = some (.sh B)) (h2 : σ[k]? = some (.sh C)) (e : F [A, B, C] = .ok (.lst L) f .non) : mSeqI (mCall 3 none F (mCons (mVar i) (mCons (mVar j) (mCons (mVar k) mNil)))) σ = .ok L σ := by
  cases f <;> simp [h0, h1, h2, e, runF, initS, mRet, mAndV, mOrV, bind_eq, pure_eq, mCall, mCons, mNil, mVar, rdv, callAt, lent, ownAt, just, isLn, tst, dTru, asV, mChain, tst2, dLe, dLt, dGe, dGt, dIs, dIsNot, isNon, handed, outD, retRv, mIf, mOr, mAnd, mNotT, mTru, mSeq, mIsi, dIsi, tyD, tyLe, mOps, ops, mInt, mBl, mNon, mStr, mB, mU, op1, op2, mSet, store, free, DL.settle, DL.settles, mNotV, b2, mRetN, mNx, mDrop, mSeqI, items, mT2, okRet, noL, noLi, noLs, mYes, gSet, gUnp, gsCons, gsNil, mTup, mLst, guardL]
section
variable {n : Nat} {rs : List (Nat × Nat)}
theorem walks_7 (hr : rs.length ≤ 7) (p : Nat) {t : Nat} (ht : t ≤ 4) : (walks rs p t).length ≤ 2401 := by
  refine Nat.le_trans (walks_length rs p t) (Nat.le_trans (Nat.pow_le_pow_left hr t) ?_)
  exact Nat.le_trans (Nat.pow_le_pow_right (by decide) ht) (by decide)
theorem flt_turn {W X x : D} {z : Bool} {E : List D} {s3 s9 : Sl} (e : F__law_is_round [W, x] = .ok (.bl z) false .non) :
    turn1 [5] (gSet 5) (mTru (mCall 2 none F__law_is_round (mCons (mVar 1) (mCons (mVar 5) (mNil))))) (mVar 5) x [.ow true t, .sh W, .ow false (.lst E), s3, .no, .no, .no, .no, .no, s9, .no, .no, .no, .no, .no] = .ok (if z = true then [x] else []) [.ow true t, .sh W, .ow false (.lst E), s3, .no, .no, .no, .no, .no, s9, .no, .no, .no, .no, .no] := by
  cases z <;> simp [turn1, e, wipeM, noOw, wipeS, runF, initS, mRet, mAndV, mOrV, bind_eq, pure_eq, mCall, mCons, mNil, mVar, rdv, callAt, lent, ownAt, just, isLn, tst, dTru, asV, mChain, tst2, dLe, dLt, dGe, dGt, dIs, dIsNot, isNon, handed, outD, retRv, mIf, mOr, mAnd, mNotT, mTru, mSeq, mIsi, dIsi, tyD, tyLe, mOps, ops, mInt, mBl, mNon, mStr, mB, mU, op1, op2, mSet, store, free, DL.settle, DL.settles, mNotV, b2, mRetN, mNx, mDrop, mSeqI, items, mT2, okRet, noL, noLi, noLs, mYes, gSet, gUnp, gsCons, gsNil, mTup, mLst, guardL]
open Classical in
theorem right_1_ok (w : WebOk n rs) (hn : n ≤ 4) (hr : rs.length ≤ 7) {k m : Nat} (hm : m ≤ 4) {E : List D} : x__law_right_1 (T5 t (eWeb n rs) (.ow false (.lst E)) (.sh (eN k)) .no .no .no .no .no (.sh (eN m)) .no .no .no) =
    .ok (.fr (.lst (((walks rs k m).filter fun l => decide (IsRd rs l)).map eRow))) (T5 t (eWeb n rs) (.ow false (.lst E)) (.sh (eN k)) .no .no .no .no .no (.sh (eN m)) .no .no .no) := by
  have lm : lim = 16777216 := rfl
  have wl := walks_7 hr k hm
  obtain ⟨f, e⟩ := law_walks_ok (p := k) w m (by omega) (fun t ht => by have := walks_7 hr k (t := t) (by omega); omega)
  refine lc_filt (vs := [5]) (g := eRow) (v := eRow) (p := fun l => decide (IsRd rs l)) (xs := walks rs k m) (seq_call3 rfl rfl rfl e) rfl (fun l hl => ?_) (by omega)
  have q := walks_lt hl
  exact flt_turn (X := .non) (law_is_round_ok w (by omega) q.1)
theorem ext_2 {W x : D} {E L : List D} {s3 s9 : Sl} (k9 : Kp s9) (c : x__law_right_1 (T5 t W (.ow false (.lst E)) s3 .no .no .no .no .no (.sh x) .no .no .no) = .ok (.fr (.lst L)) (T5 t W (.ow false (.lst E)) s3 .no .no .no .no .no (.sh x) .no .no .no)) (hl : E.length + L.length ≤ lim) :
    mTurn (gSet 9) (mDrop (mExt 2 (x__law_right_1))) x (T5 t W (.ow false (.lst E)) s3 .no .no .no .no .no s9 .no .no .no) = .ok .nx (T5 t W (.ow false (.lst (E ++ L))) s3 .no .no .no .no .no (.sh x) .no .no .no) := by
  unfold T5 at c ⊢
  rcases k9 with rfl | ⟨d, rfl⟩ <;> simp [mTurn, c, hl, mExt, ownL, wrL, gSet, store, free, mDrop, bind_eq, pure_eq, DL.settle]
open Classical in
theorem evK_succ (n : Nat) (rs : List (Nat × Nat)) (k m : Nat) : evK n rs k (m + 1) = evK n rs k m ++ (walks rs k (1 + m)).filter fun l => decide (IsRd rs l) := by
  unfold evK
  rw [List.range_succ, List.flatMap_append]
  simp
theorem ev_succ (n : Nat) (rs : List (Nat × Nat)) (m : Nat) : ev n rs (m + 1) = ev n rs m ++ evK n rs m n := by
  unfold ev
  rw [List.range_succ, List.flatMap_append]
  simp
theorem evK_len (hr : rs.length ≤ 7) (k : Nat) {m : Nat} (hm : m ≤ 4) : (evK n rs k m).length ≤ 9604 := by
  unfold evK
  have := flat_le (fun t => (walks rs k (1 + t)).filter fun l => @decide (IsRd rs l) (Classical.propDecidable _)) 2401 (List.range m) fun t ht => by
    have := List.mem_range.mp ht
    exact Nat.le_trans (List.length_filter_le ..) (walks_7 hr k (by omega))
  rw [List.length_range] at this
  have h2 : m * 2401 ≤ 4 * 2401 := Nat.mul_le_mul_right _ hm
  omega
theorem ev_len (hn : n ≤ 4) (hr : rs.length ≤ 7) {m : Nat} (hm : m ≤ 4) : (ev n rs m).length ≤ 40000 := by
  unfold ev
  have := flat_le (fun k => evK n rs k n) 9604 (List.range m) fun k _ => evK_len hr k hn
  rw [List.length_range] at this
  have h2 : m * 9604 ≤ 4 * 9604 := Nat.mul_le_mul_right _ hm
  omega
theorem range2_ok {W : D} (h : dIx W (.int 0) = some (.v (eN n))) (hn : n ≤ 1000) {s2 s3 s9 : Sl} : mRange2 (mInt 1) (mB dAdd (mB dIx (mVar 1) (mInt 0)) (mInt 1)) (T5 t W s2 s3 .no .no .no .no .no s9 .no .no .no) = .ok ((List.range n).map fun k => eN (1 + k)) (T5 t W s2 s3 .no .no .no .no .no s9 .no .no .no) := by
  have a1 : asInt (.v (.int 1)) (T5 t W s2 s3 .no .no .no .no .no s9 .no .no .no) = .ok 1 (T5 t W s2 s3 .no .no .no .no .no s9 .no .no .no) := rfl
  have a2 : asInt (.v (.int ((n : Int) + 1))) (T5 t W s2 s3 .no .no .no .no .no s9 .no .no .no) = .ok ((n : Int) + 1) (T5 t W s2 s3 .no .no .no .no .no s9 .no .no .no) := by
    unfold asInt
    simp only [rdv]
    exact if_pos ⟨by omega, by omega⟩
  have b : mB dAdd (mB dIx (mVar 1) (mInt 0)) (mInt 1) (T5 t W s2 s3 .no .no .no .no .no s9 .no .no .no) = .ok (.v (.int ((n : Int) + 1))) (T5 t W s2 s3 .no .no .no .no .no s9 .no .no .no) := by
    simp [T5, h, dAdd, mB, op2, mVar, mInt, rdv, bind_eq, pure_eq]
  unfold mRange2
  rw [ok_bind (show mInt 1 (T5 t W s2 s3 .no .no .no .no .no s9 .no .no .no) = .ok (.v (.int 1)) _ from rfl), ok_bind b, ok_bind a1, ok_bind a2]
  have : ((n : Int) + 1 - 1).toNat = n := by omega
  rw [this]
  rfl
theorem turn_3 {m : M Fl} {x : D} (k3 : Kp s3) : mTurn (gSet 3) m x (T5 t W s2 s3 s4 s5 s6 s7 s8 s9 s10 s11 s12) = m (T5 t W s2 (.sh x) s4 s5 s6 s7 s8 s9 s10 s11 s12) := by
  unfold mTurn
  rcases k3 with rfl | ⟨d, rfl⟩ <;> rfl
theorem turn_5 {m : M Fl} {x : D} (k5 : Kp s5) : mTurn (gSet 5) m x (T5 t W s2 s3 s4 s5 s6 s7 s8 s9 s10 s11 s12) = m (T5 t W s2 s3 s4 (.sh x) s6 s7 s8 s9 s10 s11 s12) := by
  unfold mTurn
  rcases k5 with rfl | ⟨d, rfl⟩ <;> rfl
theorem turn_8 {m : M Fl} {x : D} (k8 : Kp s8) : mTurn (gSet 8) m x (T5 t W s2 s3 s4 s5 s6 s7 s8 s9 s10 s11 s12) = m (T5 t W s2 s3 s4 s5 s6 s7 (.sh x) s9 s10 s11 s12) := by
  unfold mTurn
  rcases k8 with rfl | ⟨d, rfl⟩ <;> rfl
theorem range_n {σ : Sg} {W : D} (h1 : σ[1]? = some (.sh W)) (h : dIx W (.int 0) = some (.v (eN n))) (hn : n ≤ 1000) : mRange1 (mB dIx (mVar 1) (mInt 0)) σ = .ok ((List.range n).map eN) σ := by
  refine range1_ok (r := .v (eN n)) ?_ rfl hn
  generalize eN n = Z at h ⊢
  simp [h1, h, mB, op2, mVar, mInt, rdv, bind_eq, pure_eq]
theorem right_2_ok (w : WebOk n rs) (hn : n ≤ 4) (hr : rs.length ≤ 7) {k : Nat} {E : List (List Nat)} (hE : E.length ≤ 40000) {s9 : Sl} (k9 : Kp s9) : ∃ s9', Kp s9' ∧ x__law_right_2 (T5 t (eWeb n rs) (.ow false (.lst (E.map eRow))) (.sh (eN k)) .no .no .no .no .no s9 .no .no .no) =
    .ok .nx (T5 t (eWeb n rs) (.ow false (.lst ((E ++ evK n rs k n).map eRow))) (.sh (eN k)) .no .no .no .no .no s9' .no .no .no) := by
  have lm : lim = 16777216 := rfl
  obtain ⟨σ', e, s9', k9', rfl⟩ := forL_relL (f := mTurn (gSet 9) (mDrop (mExt 2 (x__law_right_1)))) (g := fun k => eN (1 + k))
    (I := fun l σ => ∃ s9 : Sl, Kp s9 ∧ σ = T5 t (eWeb n rs) (.ow false (.lst ((E ++ evK n rs k l.length).map eRow))) (.sh (eN k)) .no .no .no .no .no s9 .no .no .no)
    (List.range n) [] (T5 t (eWeb n rs) (.ow false (.lst (E.map eRow))) (.sh (eN k)) .no .no .no .no .no s9 .no .no .no) ⟨s9, k9, by simp [evK]⟩ (by
      rintro dn m rr e σ ⟨s9, k9, rfl⟩
      rw [List.nil_append] at e
      obtain ⟨q1, hm, q3⟩ := range_split e
      have c := right_1_ok (t := t) (k := k) (m := 1 + m) w hn hr (by omega) (E := (E ++ evK n rs k m).map eRow)
      have l1 := evK_len (n := n) hr k (m := m) (by omega)
      have l2 := evK_len (n := n) hr k (m := m + 1) (by omega)
      rw [evK_succ, List.length_append] at l2
      rw [← q1]
      refine ⟨_, .inl (ext_2 k9 c ?_), .sh (eN (1 + m)), .sh, ?_⟩
      · simp only [List.length_map, List.length_append]
        omega
      · rw [List.length_append, List.length_singleton, ← q1, evK_succ, ← List.append_assoc]
        simp only [List.map_append])
  rw [List.nil_append, List.length_range] at e
  refine ⟨s9', k9', ?_⟩
  unfold x__law_right_2 mFor
  rw [ok_bind (range2_ok rfl (by omega))]
  exact e
theorem right_3_ok (w : WebOk n rs) (hn : n ≤ 4) (hr : rs.length ≤ 7) : ∃ s3 s9, Kp s3 ∧ Kp s9 ∧ x__law_right_3 (T5 t (eWeb n rs) (.ow false (.lst [])) .no .no .no .no .no .no .no .no .no .no) =
    .ok .nx (T5 t (eWeb n rs) (.ow false (.lst ((ev n rs n).map eRow))) s3 .no .no .no .no .no s9 .no .no .no) := by
  obtain ⟨σ', e, s3, s9, k3, k9, rfl⟩ := forL_relL (f := mTurn (gSet 3) (x__law_right_2)) (g := eN)
    (I := fun l σ => ∃ s3 s9 : Sl, Kp s3 ∧ Kp s9 ∧ σ = T5 t (eWeb n rs) (.ow false (.lst ((ev n rs l.length).map eRow))) s3 .no .no .no .no .no s9 .no .no .no)
    (List.range n) [] (T5 t (eWeb n rs) (.ow false (.lst [])) .no .no .no .no .no .no .no .no .no .no) ⟨.no, .no, .no, .no, rfl⟩ (by
      rintro dn k rr e σ ⟨s3, s9, k3, k9, rfl⟩
      rw [List.nil_append] at e
      obtain ⟨q1, hk, q3⟩ := range_split e
      have l1 := ev_len (rs := rs) hn hr (m := k) (by omega)
      obtain ⟨s9', k9', e'⟩ := right_2_ok (t := t) (k := k) w hn hr l1 k9
      have g3 := turn_3 (m := x__law_right_2) (x := eN k) (t := t) (W := eWeb n rs) (s2 := .ow false (.lst ((ev n rs dn.length).map eRow))) (s4 := .no) (s5 := .no) (s6 := .no) (s7 := .no) (s8 := .no) (s9 := s9) (s10 := .no) (s11 := .no) (s12 := .no) k3
      rw [← q1] at g3 ⊢
      refine ⟨_, .inl (g3.trans e'), .sh (eN k), s9', .sh, k9', ?_⟩
      rw [List.length_append, List.length_singleton, ← q1, ev_succ])
  rw [List.nil_append, List.length_range] at e
  refine ⟨s3, s9, k3, k9, ?_⟩
  unfold x__law_right_3 mFor
  rw [ok_bind (range_n (n := n) (W := eWeb n rs) rfl rfl (by omega))]
  exact e
theorem r3 (w : WebOk n rs) {W : D} {s3 s9 : Sl} : (mSet 2 (mOps dSorted (mCons (mVar 2) (mNil)))) (T5 t W (.ow false (.lst ((ev n rs n).map eRow))) s3 .no .no .no .no .no s9 .no .no .no) = .ok .nx (T5 t W (.ow false (.lst ((rds n rs).map eRow))) s3 .no .no .no .no .no s9 .no .no .no) := by
  have e := sorted_row (ev n rs n)
  rw [isort_row] at e
  have e : dSorted [.lst ((ev n rs n).map eRow)] = some (.fr (.lst ((rds n rs).map eRow))) := e
  generalize D.lst ((ev n rs n).map eRow) = X at e ⊢
  generalize D.lst ((rds n rs).map eRow) = Y at e ⊢
  simp [T5, e, mSet, mOps, ops, mCons, mNil, mVar, rdv, store, free, bind_eq, pure_eq]
theorem r4 {W : D} {s3 s9 : Sl} : (mSet 4 (mLst (mNil))) (T5 t W s2 s3 .no .no .no .no .no s9 .no .no .no) = .ok .nx (T5 t W s2 s3 (.ow false (.lst [])) .no .no .no .no s9 .no .no .no) := by
  have z : (0 : Nat) ≤ lim := by decide
  simp [T5, z, mSet, mLst, guardL, mNil, DL.settles, store, free, bind_eq, pure_eq]
end
end
end K01

set_option Elab.async false
set_option linter.all false
set_option maxRecDepth 100000
namespace K01
open DL PySem
theorem ops_1 {f : List D → Option Rv} {m : M Rv} {σ σ' : Sg} {d : D} {r : Rv} (h : m σ = .ok (.fr d) σ') (e : f [d] = some r) : mOps f (mCons m mNil) σ = .ok r σ' := by
  have h1 : mCons m mNil σ = .ok [.fr d] σ' := by
    unfold mCons
    rw [ok_bind h]
    rfl
  unfold mOps
  rw [ok_bind h1]
  simp [ops, rdv, e]
theorem rot_rd {rs : List (Nat × Nat)} {l : List Nat} (i : IsRd rs l) : IsRd rs (rot l) ↔ l.length = 1 := by
  cases l with
  | nil => exact absurd rfl i.ne
  | cons a r => cases r with
    | nil => exact ⟨fun _ => rfl, fun _ => i⟩
    | cons b s =>
      constructor
      · intro j
        have m1 := j.mn a (by simp [rot])
        have m1 : b ≤ a := m1
        have m2 := i.mn b (by simp)
        have m2 : a ≤ b := m2
        have e : a = b := by omega
        subst e
        have nd := i.nd
        rw [List.map_cons, List.map_cons] at nd
        exact absurd List.mem_cons_self (List.nodup_cons.mp nd).1
      · intro h
        simp at h
theorem rot_lt {l : List Nat} : (rot l).length = l.length := by
  unfold rot
  rw [List.length_append, List.length_drop, List.length_take]
  omega
section
variable {t W : D} {s2 s3 s4 s5 s6 s7 s8 s9 s10 s11 s12 : Sl} {n : Nat} {rs : List (Nat × Nat)} {l : List Nat}
theorem right_4_ok (hl : l.length ≤ 1000) (h : ∀ k ∈ l, k < rs.length) : x__law_right_4 (T5 t (eWeb n rs) s2 s3 s4 (.sh (eRow l)) s6 s7 s8 s9 s10 s11 s12) = .ok (.fr (eL (l.map (tl rs)))) (T5 t (eWeb n rs) s2 s3 s4 (.sh (eRow l)) s6 s7 s8 s9 s10 s11 s12) := by
  have lm : lim = 16777216 := rfl
  have e : eNs (l.map (tl rs)) = l.map fun k => eN (tl rs k) := by simp only [eNs, List.map_map, Function.comp_def]
  show _ = Res.ok (Rv.fr (D.lst (eNs _))) _
  rw [e]
  refine lc_each (vs := [13]) (g := eN) (v := fun k => eN (tl rs k)) (xs := l) (σ1 := T5 t (eWeb n rs) s2 s3 s4 (.sh (eRow l)) s6 s7 s8 s9 s10 s11 s12) rfl rfl (fun k hk => ?_) (by omega)
  have i := road_at (h k hk)
  have a : dIx (eWeb n rs) (.int 1) = some (.v (eRoads rs)) := rfl
  have b : dIx (.tup [eN (tl rs k), eN (hd rs k)]) (.int 0) = some (.v (eN (tl rs k))) := rfl
  generalize eRoads rs = R at a i
  generalize eWeb n rs = W at a ⊢
  generalize eRow l = T
  simp [T5, turn1, a, i, b, wipeM, noOw, wipeS, runF, initS, mRet, mAndV, mOrV, bind_eq, pure_eq, mCall, mCons, mNil, mVar, rdv, callAt, lent, ownAt, just, isLn, tst, dTru, asV, mChain, tst2, dLe, dLt, dGe, dGt, dIs, dIsNot, isNon, handed, outD, retRv, mIf, mOr, mAnd, mNotT, mTru, mSeq, mIsi, dIsi, tyD, tyLe, mOps, ops, mInt, mBl, mNon, mStr, mB, mU, op1, op2, mSet, store, free, DL.settle, DL.settles, mNotV, b2, mRetN, mNx, mDrop, mSeqI, items, mT2, okRet, noL, noLi, noLs, mYes, gSet, gUnp, gsCons, gsNil, mTup, mLst, guardL]
theorem right_5_ok (w : WebOk n rs) : x__law_right_5 (T5 t (eWeb n rs) s2 s3 s4 (.sh (eRow l)) s6 s7 s8 s9 (.ow false (eL (l.map (tl rs)))) s11 s12) = .ok (.fr (eL (leaves rs l))) (T5 t (eWeb n rs) s2 s3 s4 (.sh (eRow l)) s6 s7 s8 s9 (.ow false (eL (l.map (tl rs)))) s11 s12) := by
  show _ = Res.ok (Rv.fr (D.lst (eNs _))) _
  rw [← leaves_e]
  refine lc_filt (vs := [14, 13]) (g := fun q => D.tup [eN q.2, eRoad q.1]) (v := fun q => eN q.2) (p := fun q => decide (q.1.1 ∈ l.map (tl rs)) && decide (q.2 ∉ l)) (xs := rs.zipIdx) (σ1 := T5 t (eWeb n rs) s2 s3 s4 (.sh (eRow l)) s6 s7 s8 s9 (.ow false (eL (l.map (tl rs)))) s11 s12) ?_ rfl (fun q hq => ?_) ?_
  · rw [← enum_at]; rfl
  · obtain ⟨⟨a, b⟩, k⟩ := q
    have i1 := in_nat a (l.map (tl rs))
    have i2 := notin_tup k l
    have r0 : dIx (eRoad (a, b)) (.int 0) = some (.v (eN a)) := rfl
    dsimp only
    generalize decide (a ∈ l.map (tl rs)) = z1 at i1 ⊢
    generalize decide (k ∉ l) = z2 at i2 ⊢
    generalize eL (l.map (tl rs)) = B at i1 ⊢
    generalize eRow l = T at i2 ⊢
    generalize eWeb n rs = W
    generalize eRoad (a, b) = X at r0 ⊢
    generalize eN a = u at r0 i1
    cases z1 <;> cases z2 <;> simp [T5, turn1, r0, i1, i2, wipeM, noOw, wipeS, runF, initS, mRet, mAndV, mOrV, bind_eq, pure_eq, mCall, mCons, mNil, mVar, rdv, callAt, lent, ownAt, just, isLn, tst, dTru, asV, mChain, tst2, dLe, dLt, dGe, dGt, dIs, dIsNot, isNon, handed, outD, retRv, mIf, mOr, mAnd, mNotT, mTru, mSeq, mIsi, dIsi, tyD, tyLe, mOps, ops, mInt, mBl, mNon, mStr, mB, mU, op1, op2, mSet, store, free, DL.settle, DL.settles, mNotV, b2, mRetN, mNx, mDrop, mSeqI, items, mT2, okRet, noL, noLi, noLs, mYes, gSet, gUnp, gsCons, gsNil, mTup, mLst, guardL]
  · rw [List.length_zipIdx]; exact Nat.le_trans w.few (by decide)
theorem cb0 {B : D} (k10 : Fr s10) (c : x__law_right_4 (T5 t W s2 s3 s4 s5 s6 s7 s8 s9 s10 s11 s12) = .ok (.fr B) (T5 t W s2 s3 s4 s5 s6 s7 s8 s9 s10 s11 s12)) : (mSet 10 (x__law_right_4)) (T5 t W s2 s3 s4 s5 s6 s7 s8 s9 s10 s11 s12) = .ok .nx (T5 t W s2 s3 s4 s5 s6 s7 s8 s9 (.ow false B) s11 s12) := by
  refine set_fr c ?_
  rcases k10 with rfl | ⟨d, rfl⟩ | ⟨d, rfl⟩ <;> rfl
theorem cb1 {L : List D} (k11 : Kp s11) (c : x__law_right_5 (T5 t W s2 s3 s4 s5 s6 s7 s8 s9 s10 s11 s12) = .ok (.fr (.lst L)) (T5 t W s2 s3 s4 s5 s6 s7 s8 s9 s10 s11 s12)) : (mSet 11 (mOps dTupleOf (mCons (x__law_right_5) (mNil)))) (T5 t W s2 s3 s4 s5 s6 s7 s8 s9 s10 s11 s12) = .ok .nx (T5 t W s2 s3 s4 s5 s6 s7 s8 s9 s10 (.sh (.tup L)) s12) := by
  refine set_v (ops_1 c rfl) ?_
  rcases k11 with rfl | ⟨d, rfl⟩ <;> rfl
theorem cb2 {t1 M : D} {V E D1 D2 R : List D} {f z : Bool} (k6 : Fr s6) (e1 : F__law_mixed 12 [t, W] = .ok M f t1) (e2 : F_exits [M, .tup V] = .ok (.tup E) false .non) (e3 : F_exits [W, .lst V] = .ok (.tup E) false .non) (e4 : F_is_round [W, .tup V] = .ok (.bl true) false .non)
    (d1 : dSl (.tup V) (some 1) none = some (.v (.tup D1))) (d2 : dSl (.tup V) none (some 1) = some (.v (.tup D2))) (d3 : dAdd (.tup D1) (.tup D2) = some (.v (.tup R))) (e5 : F_is_round [W, .tup R] = .ok (.bl z) false .non) :
    (mSet 6 (mLst (mCons (mCall 2 none F_exits (mCons (mCall 2 (some 0) (F__law_mixed 12) (mCons (mVar 0) (mCons (mVar 1) (mNil)))) (mCons (mVar 5) (mNil)))) (mCons (mCallK 2 2 none F_exits [1, 0] (mCons (mOps dListOf (mCons (mVar 5) (mNil))) (mCons (mVar 1) (mNil)))) (mCons (mCall 2 none F_is_round (mCons (mVar 1) (mCons (mVar 5) (mNil)))) (mCons (mCall 2 none F_is_round (mCons (mVar 1) (mCons (mB dAdd (mSlice (mVar 5) (mOpt (mInt 1)) (mNone)) (mSlice (mVar 5) (mNone) (mOpt (mInt 1)))) (mNil)))) (mNil))))))) (T5 t W s2 s3 s4 (.sh (.tup V)) s6 s7 s8 s9 s10 s11 s12) = .ok .nx (T5 t1 W s2 s3 s4 (.sh (.tup V)) (.ow false (.lst [.tup E, .tup E, .bl true, .bl z])) s7 s8 s9 s10 s11 s12) := by
  have four : (4 : Nat) ≤ lim := by decide
  have k2 : ∀ r : Rv, kArgs 2 2 [1, 0] [r, Rv.ln 1] = some [Rv.ln 1, r] := fun r => rfl
  cases f <;> rcases k6 with rfl | ⟨d, rfl⟩ | ⟨d, rfl⟩ <;> simp [T5, e1, e2, e3, e4, d1, d2, d3, e5, k2, four, dListOf, mSlice, mOpt, mNone, part, asK, mB, op1, op2, mOps, ops, mInt, mCallK, mSet, mLst, guardL, mCall, mCons, mNil, mVar, rdv, callAt, lent, ownAt, just, isLn, retRv, store, free, DL.settle, DL.settles, bind_eq, pure_eq]
theorem cb3 {V E : List D} {z : Bool} {X : D} (k12 : Fr s12) (l1 : dLen [.tup V] = some (.v X)) (e : dEqC X (.int 1) = some z) : (mSet 12 (mLst (mCons (mVar 11) (mCons (mVar 11) (mCons (mBl true) (mCons (mB (b2 dEqC) (mOps dLen (mCons (mVar 5) (mNil))) (mInt 1)) (mNil))))))) (T5 t W s2 s3 s4 (.sh (.tup V)) s6 s7 s8 s9 s10 (.sh (.tup E)) s12) = .ok .nx (T5 t W s2 s3 s4 (.sh (.tup V)) s6 s7 s8 s9 s10 (.sh (.tup E)) (.ow false (.lst [.tup E, .tup E, .bl true, .bl z]))) := by
  have four : (4 : Nat) ≤ lim := by decide
  rcases k12 with rfl | ⟨d, rfl⟩ | ⟨d, rfl⟩ <;> simp [T5, l1, e, four, b2, mB, op2, mOps, ops, mInt, mBl, mSet, mLst, guardL, mCons, mNil, mVar, rdv, store, free, DL.settle, DL.settles, bind_eq, pure_eq]
theorem cb5 {V E L : List D} {z : Bool} (e : dEqC (.tup E) (.tup []) = some z) (hl : L.length < lim) : (mDrop (mExt 4 (mIf (mT2 dEqC (mVar 11) (mTup (mNil))) (mLst (mCons (mVar 5) (mNil))) (mLst (mNil))))) (T5 t W s2 s3 (.ow false (.lst L)) (.sh (.tup V)) s6 s7 s8 s9 s10 (.sh (.tup E)) s12) = .ok .nx (T5 t W s2 s3 (.ow false (.lst (L ++ if z = true then [.tup V] else []))) (.sh (.tup V)) s6 s7 s8 s9 s10 (.sh (.tup E)) s12) := by
  have zero : (0 : Nat) ≤ lim := by decide
  have one : (1 : Nat) ≤ lim := by decide
  have h1 : L.length + 1 ≤ lim := hl
  have h0 : L.length ≤ lim := Nat.le_of_lt hl
  cases z <;> simp [T5, e, zero, one, h1, h0, mExt, ownL, wrL, mDrop, mIf, mT2, tst2, mTup, mLst, guardL, mCons, mNil, mVar, rdv, DL.settle, DL.settles, bind_eq, pure_eq]
end
end K01

set_option Elab.async false
set_option linter.all false
set_option maxRecDepth 100000
namespace K01
open DL PySem
theorem dec_nil {α : Type} [DecidableEq (List α)] (x : List α) : decide (x = []) = x.isEmpty := by
  cases x <;> simp
section
variable {t W : D} {s2 s3 s4 s5 s6 s7 s8 s9 s10 s11 s12 : Sl} {n : Nat} {rs : List (Nat × Nat)} {l : List Nat}
theorem sd_b {E : List Nat} (hE : E.length ≤ 1000) {z : Bool} : SD 12 (.lst [eRow E, eRow E, .bl true, .bl z]) := by
  refine SD.le (sd_lst (n := 2) (show 4 ≤ 100000 by decide) fun x hx => ?_) (by decide)
  simp only [List.mem_cons, List.not_mem_nil, or_false] at hx
  rcases hx with rfl | rfl | rfl | rfl
  · exact sd_row (by omega)
  · exact sd_row (by omega)
  · exact (sd_bl _).up
  · exact (sd_bl _).up
theorem leaves_len (w : WebOk n rs) : (leaves rs l).length ≤ 16 := by
  unfold leaves
  rw [List.length_map]
  exact Nat.le_trans (List.length_filter_le ..) (by rw [List.length_zipIdx]; exact w.few)
open Classical in
theorem turn6 (w : WebOk n rs) (i : IsRd rs l) {L : List (List Nat)} (hL : L.length ≤ 1000) {c : Nat} (B : Box c t) (hc : c ≤ 900000) (k6 : Fr s6) (k10 : Fr s10) (k11 : Kp s11) (k12 : Fr s12) :
    ∃ t' s6' s10' s11' s12', Box (c + 20) t' ∧ Fr s6' ∧ Fr s10' ∧ Kp s11' ∧ Fr s12' ∧ (mSeq (mSet 10 (x__law_right_4)) (mSeq (mSet 11 (mOps dTupleOf (mCons (x__law_right_5) (mNil)))) (mSeq (mSet 6 (mLst (mCons (mCall 2 none F_exits (mCons (mCall 2 (some 0) (F__law_mixed 12) (mCons (mVar 0) (mCons (mVar 1) (mNil)))) (mCons (mVar 5) (mNil)))) (mCons (mCallK 2 2 none F_exits [1, 0] (mCons (mOps dListOf (mCons (mVar 5) (mNil))) (mCons (mVar 1) (mNil)))) (mCons (mCall 2 none F_is_round (mCons (mVar 1) (mCons (mVar 5) (mNil)))) (mCons (mCall 2 none F_is_round (mCons (mVar 1) (mCons (mB dAdd (mSlice (mVar 5) (mOpt (mInt 1)) (mNone)) (mSlice (mVar 5) (mNone) (mOpt (mInt 1)))) (mNil)))) (mNil))))))) (mSeq (mSet 12 (mLst (mCons (mVar 11) (mCons (mVar 11) (mCons (mBl true) (mCons (mB (b2 dEqC) (mOps dLen (mCons (mVar 5) (mNil))) (mInt 1)) (mNil))))))) (mSeq (mIf (mNotT (mTru (mCall 2 none (F__law_same 12) (mCons (mVar 6) (mCons (mVar 12) (mNil)))))) (mRet (mBl false)) (mNx)) (mDrop (mExt 4 (mIf (mT2 dEqC (mVar 11) (mTup (mNil))) (mLst (mCons (mVar 5) (mNil))) (mLst (mNil)))))))))) (T5 t (eWeb n rs) s2 s3 (.ow false (.lst (L.map eRow))) (.sh (eRow l)) s6 s7 s8 s9 s10 s11 s12) =
      .ok .nx (T5 t' (eWeb n rs) s2 s3 (.ow false (.lst ((L ++ if (leaves rs l).isEmpty = true then [l] else []).map eRow))) (.sh (eRow l)) s6' s7 s8 s9 s10' s11' s12') := by
  have lm : lim = 16777216 := rfl
  have len := rd_len w i
  have wm := w.most
  have ll := leaves_len (l := l) w
  have q0 := cb0 (s2 := s2) (s3 := s3) (s4 := .ow false (.lst (L.map eRow))) (s6 := s6) (s7 := s7) (s8 := s8) (s9 := s9) (s11 := s11) (s12 := s12) (t := t) k10 (right_4_ok (n := n) (rs := rs) (l := l) (by omega) i.lt)
  have q1 := cb1 (s2 := s2) (s3 := s3) (s4 := .ow false (.lst (L.map eRow))) (s6 := s6) (s7 := s7) (s8 := s8) (s9 := s9) (s12 := s12) (t := t) k11 (right_5_ok (l := l) w)
  obtain ⟨M, f, t1, e1, B1, m1, m2⟩ := mixed_web w B hc
  have ro := round_in_ok w (l := l) (by omega)
  rw [decide_eq_true i] at ro
  have rr := round_in_ok w (l := rot l) (by rw [rot_lt]; omega)
  have d1 : dSl (.tup (eNs l)) (some 1) none = some (.v (.tup (eNs (l.drop 1)))) := by
    show some (Rv.v (D.tup (cutD (eNs l) (some 1) none))) = _
    rw [cut_one]
    simp only [eNs, List.map_drop]
  have d2 : dSl (.tup (eNs l)) none (some 1) = some (.v (.tup (eNs (l.take 1)))) := by
    show some (Rv.v (D.tup (cutD (eNs l) none (some 1)))) = _
    rw [cut_take]
    simp only [eNs, List.map_take]
  have d3 : dAdd (.tup (eNs (l.drop 1))) (.tup (eNs (l.take 1))) = some (.v (.tup (eNs (rot l)))) := by
    simp only [dAdd]
    rw [if_pos (by simp only [List.length_map, List.length_drop, List.length_take]; omega)]
    unfold rot
    simp only [eNs, List.map_append]
  have q2 := cb2 (s2 := s2) (s3 := s3) (s4 := .ow false (.lst (L.map eRow))) (s6 := s6) (s7 := s7) (s8 := s8) (s9 := s9) (s10 := .ow false (eL (l.map (tl rs)))) (s11 := .sh (eRow (leaves rs l))) (s12 := s12) k6 e1 (exits_ok w m1 m2 (tupled_row (by omega)) i) (exits_ok w (web_plain w) web_tup (tupled_lst (by omega)) i) (is_round_a (sure_web_self w) ro) d1 d2 d3 (is_round_a (sure_web_self w) rr)
  have ld : dLen [.tup (eNs l)] = some (.v (eN l.length)) := by
    show some (Rv.v (D.int ((eNs l).length : Nat))) = _
    rw [List.length_map]
  have ez := nat_eqC l.length 1
  have zz : decide (l.length = 1) = decide (IsRd rs (rot l)) := by
    rw [Bool.eq_iff_iff, decide_eq_true_iff, decide_eq_true_iff]
    exact (rot_rd i).symm
  rw [zz] at ez
  have q3 := cb3 (s2 := s2) (s3 := s3) (s4 := .ow false (.lst (L.map eRow))) (s6 := .ow false (.lst [.tup (eNs (leaves rs l)), .tup (eNs (leaves rs l)), .bl true, .bl (decide (IsRd rs (rot l)))])) (s7 := s7) (s8 := s8) (s9 := s9) (s10 := .ow false (eL (l.map (tl rs)))) (E := eNs (leaves rs l)) (t := t1) (W := eWeb n rs) k12 ld ez
  have q4 := same_nx (a := mVar 6) (b := mVar 12) (ra := .ln 6) (rb := .ln 12) (X := .lst [eRow (leaves rs l), eRow (leaves rs l), .bl true, .bl (decide (IsRd rs (rot l)))])
    (σ := T5 t1 (eWeb n rs) s2 s3 (.ow false (.lst (L.map eRow))) (.sh (eRow l)) (.ow false (.lst [eRow (leaves rs l), eRow (leaves rs l), .bl true, .bl (decide (IsRd rs (rot l)))])) s7 s8 s9 (.ow false (eL (l.map (tl rs)))) (.sh (eRow (leaves rs l))) (.ow false (.lst [eRow (leaves rs l), eRow (leaves rs l), .bl true, .bl (decide (IsRd rs (rot l)))]))) rfl rfl rfl rfl (sd_b (by omega))
  have e5 := eqC_row (leaves rs l) []
  rw [dec_nil] at e5
  have q5 := cb5 (s2 := s2) (s3 := s3) (s6 := .ow false (.lst [eRow (leaves rs l), eRow (leaves rs l), .bl true, .bl (decide (IsRd rs (rot l)))])) (s7 := s7) (s8 := s8) (s9 := s9) (s10 := .ow false (eL (l.map (tl rs)))) (s12 := .ow false (.lst [eRow (leaves rs l), eRow (leaves rs l), .bl true, .bl (decide (IsRd rs (rot l)))])) (t := t1) (W := eWeb n rs) (V := eNs l) (L := L.map eRow) e5 (by rw [List.length_map]; omega)
  refine ⟨t1, .ow false (.lst [eRow (leaves rs l), eRow (leaves rs l), .bl true, .bl (decide (IsRd rs (rot l)))]), .ow false (eL (l.map (tl rs))), .sh (eRow (leaves rs l)), .ow false (.lst [eRow (leaves rs l), eRow (leaves rs l), .bl true, .bl (decide (IsRd rs (rot l)))]), B1, .ow, .ow, .sh, .ow, ?_⟩
  rw [seq_nx q0, seq_nx q1, seq_nx q2, seq_nx q3, seq_nx q4, q5]
  rw [List.map_append]
  cases (leaves rs l).isEmpty <;> rfl
theorem it_2 {L : List D} {i : Sl} : mSeqI (mVar 2) (T5 t W (.ow false (.lst L)) s3 s4 s5 s6 s7 s8 s9 s10 s11 s12) = .ok L (T5 t W (.sh (.lst L)) s3 s4 s5 s6 s7 s8 s9 s10 s11 s12) := rfl
theorem it_2s {L : List D} {i : Sl} : mSeqI (mVar 2) (T5 t W (.sh (.lst L)) s3 s4 s5 s6 s7 s8 s9 s10 s11 s12) = .ok L (T5 t W (.sh (.lst L)) s3 s4 s5 s6 s7 s8 s9 s10 s11 s12) := rfl
theorem loop6 (w : WebOk n rs) (hr : rs.length ≤ 7) {c : Nat} (B : Box c t) (hc : c ≤ 800000) :
    ∃ t' s5 s6 s10 s11 s12, Box (c + 2560) t' ∧ Kp s5 ∧ Fr s6 ∧ Fr s10 ∧ Kp s11 ∧ Fr s12 ∧ x__law_right_6 (T5 t (eWeb n rs) (.ow false (.lst ((rds n rs).map eRow))) s3 (.ow false (.lst [])) .no .no .no .no s9 .no .no .no) =
      .ok .nx (T5 t' (eWeb n rs) (.sh (.lst ((rds n rs).map eRow))) s3 (.ow false (.lst ((lones n rs).map eRow))) s5 s6 .no .no s9 s10 s11 s12) := by
  have few := rds_few w hr
  obtain ⟨σ', e, t', s5, s6, s10, s11, s12, B', k5, k6, k10, k11, k12, rfl⟩ := forL_relL (f := mTurn (gSet 5) (mSeq (mSet 10 (x__law_right_4)) (mSeq (mSet 11 (mOps dTupleOf (mCons (x__law_right_5) (mNil)))) (mSeq (mSet 6 (mLst (mCons (mCall 2 none F_exits (mCons (mCall 2 (some 0) (F__law_mixed 12) (mCons (mVar 0) (mCons (mVar 1) (mNil)))) (mCons (mVar 5) (mNil)))) (mCons (mCallK 2 2 none F_exits [1, 0] (mCons (mOps dListOf (mCons (mVar 5) (mNil))) (mCons (mVar 1) (mNil)))) (mCons (mCall 2 none F_is_round (mCons (mVar 1) (mCons (mVar 5) (mNil)))) (mCons (mCall 2 none F_is_round (mCons (mVar 1) (mCons (mB dAdd (mSlice (mVar 5) (mOpt (mInt 1)) (mNone)) (mSlice (mVar 5) (mNone) (mOpt (mInt 1)))) (mNil)))) (mNil))))))) (mSeq (mSet 12 (mLst (mCons (mVar 11) (mCons (mVar 11) (mCons (mBl true) (mCons (mB (b2 dEqC) (mOps dLen (mCons (mVar 5) (mNil))) (mInt 1)) (mNil))))))) (mSeq (mIf (mNotT (mTru (mCall 2 none (F__law_same 12) (mCons (mVar 6) (mCons (mVar 12) (mNil)))))) (mRet (mBl false)) (mNx)) (mDrop (mExt 4 (mIf (mT2 dEqC (mVar 11) (mTup (mNil))) (mLst (mCons (mVar 5) (mNil))) (mLst (mNil))))))))))) (g := eRow)
    (I := fun dn σ => ∃ (t' : D) (s5 s6 s10 s11 s12 : Sl), Box (c + 20 * dn.length) t' ∧ Kp s5 ∧ Fr s6 ∧ Fr s10 ∧ Kp s11 ∧ Fr s12 ∧ σ = T5 t' (eWeb n rs) (.sh (.lst ((rds n rs).map eRow))) s3 (.ow false (.lst ((dn.filter fun l => (leaves rs l).isEmpty).map eRow))) s5 s6 .no .no s9 s10 s11 s12)
    (rds n rs) [] (T5 t (eWeb n rs) (.sh (.lst ((rds n rs).map eRow))) s3 (.ow false (.lst [])) .no .no .no .no s9 .no .no .no) ⟨t, .no, .no, .no, .no, .no, B, .no, .no, .no, .no, .no, rfl⟩ (by
      rintro dn l rr e σ ⟨t', s5, s6, s10, s11, s12, B', k5, k6, k10, k11, k12, rfl⟩
      rw [List.nil_append] at e
      have i : IsRd rs l := (rds_mem w).mp (by rw [e]; simp)
      have dl : dn.length ≤ 128 := by
        rw [e, List.length_append] at few
        omega
      have fl := List.length_filter_le (fun l => (leaves rs l).isEmpty) dn
      obtain ⟨t2, r6, r10, r11, r12, B2, h6, h10, h11, h12, e2⟩ := turn6 (s2 := .sh (.lst ((rds n rs).map eRow))) (s3 := s3) (s7 := .no) (s8 := .no) (s9 := s9) w i (L := dn.filter fun l => (leaves rs l).isEmpty) (by omega) B' (by omega) k6 k10 k11 k12
      refine ⟨_, .inl ((turn_5 k5).trans e2), t2, .sh (eRow l), r6, r10, r11, r12, ?_, .sh, h6, h10, h11, h12, ?_⟩
      · rw [List.length_append, List.length_singleton]
        exact B2.up (by omega)
      · rw [List.filter_append]
        cases h : (leaves rs l).isEmpty <;> simp [h])
  rw [List.nil_append] at e B'
  refine ⟨t', s5, s6, s10, s11, s12, B'.up (by omega), k5, k6, k10, k11, k12, ?_⟩
  unfold x__law_right_6 mFor
  rw [ok_bind (it_2 (i := .no))]
  exact e
end
end K01

set_option Elab.async false
set_option linter.all false
set_option maxRecDepth 100000
namespace K01
open DL PySem
section
variable {t W : D} {s2 s3 s4 s5 s6 s7 s8 s9 s10 s11 s12 : Sl} {n : Nat} {rs : List (Nat × Nat)} {l : List Nat}
/-! ### the answers about all of them -/
theorem q6a {t1 M : D} {R Ln : List D} {f z : Bool} (k6 : Fr s6) (e1 : F__law_mixed 12 [t, W] = .ok M f t1) (e2 : F_rounds [M] = .ok (.lst R) true .non) (e3 : F_lone_rounds [W] = .ok (.lst Ln) true .non) (e4 : F_has_rounds [W] = .ok (.bl z) false .non) (e5 : F_is_round [W, .tup []] = .ok (.bl false) false .non)
    {E : List D} (n1 : dNeC (.lst E) (.lst []) = some false) (e6 : F_is_round [W, .non] = .ok (.bl false) false .non) :
    (mSet 6 (mLst (mCons (mCall 1 none F_rounds (mCons (mCall 2 (some 0) (F__law_mixed 12) (mCons (mVar 0) (mCons (mVar 1) (mNil)))) (mNil))) (mCons (mCallK 1 1 none F_lone_rounds [0] (mCons (mVar 1) (mNil))) (mCons (mCall 1 none F_has_rounds (mCons (mVar 1) (mNil))) (mCons (mCall 2 none F_is_round (mCons (mVar 1) (mCons (mTup (mNil)) (mNil)))) (mCons (mCall 2 none F_is_round (mCons (mVar 1) (mCons (mIf (mT2 dNeC (mVar 2) (mLst (mNil))) (mOps dListOf (mCons (mB dIx (mVar 2) (mInt 0)) (mNil))) (mNon)) (mNil)))) (mNil)))))))) (T5 t W (.sh (.lst E)) s3 s4 s5 s6 s7 s8 s9 s10 s11 s12) = .ok .nx (T5 t1 W (.sh (.lst E)) s3 s4 s5 (.ow false (.lst [.lst R, .lst Ln, .bl z, .bl false, .bl false])) s7 s8 s9 s10 s11 s12) := by
  have zero : (0 : Nat) ≤ lim := by decide
  have five : (5 : Nat) ≤ lim := by decide
  have k1 : kArgs 1 1 [0] [Rv.ln 1] = some [Rv.ln 1] := rfl
  cases f <;> rcases k6 with rfl | ⟨d, rfl⟩ | ⟨d, rfl⟩ <;> simp [T5, e1, e2, e3, e4, e5, e6, n1, k1, zero, five, mIf, mT2, tst2, mNon, mTup, mB, op1, op2, mOps, ops, mInt, mCallK, mSet, mLst, guardL, mCall, mCons, mNil, mVar, rdv, callAt, lent, ownAt, just, isLn, retRv, store, free, DL.settle, DL.settles, bind_eq, pure_eq]
theorem q6b {t1 M : D} {R Ln V : List D} {f z : Bool} (k6 : Fr s6) (e1 : F__law_mixed 12 [t, W] = .ok M f t1) (e2 : F_rounds [M] = .ok (.lst R) true .non) (e3 : F_lone_rounds [W] = .ok (.lst Ln) true .non) (e4 : F_has_rounds [W] = .ok (.bl z) false .non) (e5 : F_is_round [W, .tup []] = .ok (.bl false) false .non)
    {E : List D} (n1 : dNeC (.lst E) (.lst []) = some true) (i0 : dIx (.lst E) (.int 0) = some (.v (.tup V))) (e6 : F_is_round [W, .lst V] = .ok (.bl false) false .non) :
    (mSet 6 (mLst (mCons (mCall 1 none F_rounds (mCons (mCall 2 (some 0) (F__law_mixed 12) (mCons (mVar 0) (mCons (mVar 1) (mNil)))) (mNil))) (mCons (mCallK 1 1 none F_lone_rounds [0] (mCons (mVar 1) (mNil))) (mCons (mCall 1 none F_has_rounds (mCons (mVar 1) (mNil))) (mCons (mCall 2 none F_is_round (mCons (mVar 1) (mCons (mTup (mNil)) (mNil)))) (mCons (mCall 2 none F_is_round (mCons (mVar 1) (mCons (mIf (mT2 dNeC (mVar 2) (mLst (mNil))) (mOps dListOf (mCons (mB dIx (mVar 2) (mInt 0)) (mNil))) (mNon)) (mNil)))) (mNil)))))))) (T5 t W (.sh (.lst E)) s3 s4 s5 s6 s7 s8 s9 s10 s11 s12) = .ok .nx (T5 t1 W (.sh (.lst E)) s3 s4 s5 (.ow false (.lst [.lst R, .lst Ln, .bl z, .bl false, .bl false])) s7 s8 s9 s10 s11 s12) := by
  have zero : (0 : Nat) ≤ lim := by decide
  have five : (5 : Nat) ≤ lim := by decide
  have k1 : kArgs 1 1 [0] [Rv.ln 1] = some [Rv.ln 1] := rfl
  cases f <;> rcases k6 with rfl | ⟨d, rfl⟩ | ⟨d, rfl⟩ <;> simp [T5, e1, e2, e3, e4, e5, e6, n1, i0, k1, zero, five, dListOf, mIf, mT2, tst2, mNon, mTup, mB, op1, op2, mOps, ops, mInt, mCallK, mSet, mLst, guardL, mCall, mCons, mNil, mVar, rdv, callAt, lent, ownAt, just, isLn, retRv, store, free, DL.settle, DL.settles, bind_eq, pure_eq]
theorem q7 {E Ln : List D} {z : Bool} (n1 : dNeC (.lst E) (.lst []) = some z) (s : F__law_same 12 [.lst [.lst E, .lst Ln, .bl z, .bl false, .bl false], .lst [.lst E, .lst Ln, .bl z, .bl false, .bl false]] = .ok (.bl true) false .non) (e : F__law_has_rounds [W] = .ok (.bl z) false .non) :
    (mIf (mOr (mNotT (mTru (mCall 2 none (F__law_same 12) (mCons (mVar 6) (mCons (mLst (mCons (mVar 2) (mCons (mVar 4) (mCons (mB (b2 dNeC) (mVar 2) (mLst (mNil))) (mCons (mBl false) (mCons (mBl false) (mNil))))))) (mNil)))))) (mT2 dNeC (mCall 1 none F__law_has_rounds (mCons (mVar 1) (mNil))) (mB (b2 dNeC) (mVar 2) (mLst (mNil))))) (mRet (mBl false)) (mNx)) (T5 t W (.sh (.lst E)) s3 (.ow false (.lst Ln)) s5 (.ow false (.lst [.lst E, .lst Ln, .bl z, .bl false, .bl false])) s7 s8 s9 s10 s11 s12) = .ok .nx (T5 t W (.sh (.lst E)) s3 (.sh (.lst Ln)) s5 (.ow false (.lst [.lst E, .lst Ln, .bl z, .bl false, .bl false])) s7 s8 s9 s10 s11 s12) := by
  have zero : (0 : Nat) ≤ lim := by decide
  have five : (5 : Nat) ≤ lim := by decide
  have nz : dNeC (.bl z) (.bl z) = some false := by cases z <;> rfl
  simp [T5, n1, s, e, nz, zero, five, mIf, mOr, mNotT, mTru, mT2, tst, tst2, dTru, b2, mB, op2, mBl, mLst, guardL, mCall, mCons, mNil, mVar, mNx, rdv, callAt, lent, ownAt, just, isLn, retRv, okRet, noL, DL.settle, DL.settles, bind_eq, pure_eq]
theorem q8 : (mSet 7 (mLst (mNil))) (T5 t W s2 s3 s4 s5 s6 .no s8 s9 s10 s11 s12) = .ok .nx (T5 t W s2 s3 s4 s5 s6 (.ow false (.lst [])) s8 s9 s10 s11 s12) := by
  have z : (0 : Nat) ≤ lim := by decide
  simp [T5, z, mSet, mLst, guardL, mNil, DL.settles, store, free, bind_eq, pure_eq]
theorem rows_shaped2 {ls : List (List Nat)} (h2 : ∀ l ∈ ls, l.length ≤ 1000) : SeqAt.shaped (D.lst (ls.map eRow)).toP = true := by
  obtain ⟨a, b⟩ := plains_lay (n := 2) (xs := ls.map eRow) fun x hx => by
    obtain ⟨l, hl, rfl⟩ := List.mem_map.mp hx
    exact plain_lay (row_plain (h2 l hl))
  have c : (D.lst (ls.map eRow)).toP.canLay0 = true := by simpa [D.toP, PyData.canLay0] using a
  have e : (D.lst (ls.map eRow)).toP.depth ≤ 64 := by simp only [D.toP, PyData.depth]; omega
  unfold SeqAt.shaped
  rw [c, decide_eq_true e]
  rfl
theorem neC_rows {E : List (List Nat)} (h2 : ∀ l ∈ E, l.length ≤ 1000) : dNeC (.lst (E.map eRow)) (.lst []) = some (!E.isEmpty) := by
  simp only [dNeC]
  rw [if_pos ⟨rows_shaped2 h2, nil_shaped⟩]
  cases E <;> rfl
/-! ### the law's has_rounds -/
theorem lh_turn {W k N : D} {L : List D} {f z : Bool} (i0 : dIx W (.int 0) = some (.v N)) (e : F__law_walks [W, k, N] = .ok (.lst L) f .non) (n1 : dNeC (.lst L) (.lst []) = some z) :
    turn1 [1] (gSet 1) (mT2 dNeC (mCall 3 none F__law_walks (mCons (mVar 0) (mCons (mVar 1) (mCons (mB dIx (mVar 0) (mInt 0)) (mNil))))) (mLst (mNil))) (mVar 1) k [.sh W, .no] = .ok (if z = true then [k] else []) [.sh W, .no] := by
  have zero : (0 : Nat) ≤ lim := by decide
  cases f <;> cases z <;> simp [turn1, i0, e, n1, zero, wipeM, noOw, wipeS, runF, initS, mRet, mAndV, mOrV, bind_eq, pure_eq, mCall, mCons, mNil, mVar, rdv, callAt, lent, ownAt, just, isLn, tst, dTru, asV, mChain, tst2, dLe, dLt, dGe, dGt, dIs, dIsNot, isNon, handed, outD, retRv, mIf, mOr, mAnd, mNotT, mTru, mSeq, mIsi, dIsi, tyD, tyLe, mOps, ops, mInt, mBl, mNon, mStr, mB, mU, op1, op2, mSet, store, free, DL.settle, DL.settles, mNotV, b2, mRetN, mNx, mDrop, mSeqI, items, mT2, okRet, noL, noLi, noLs, mYes, gSet, gUnp, gsCons, gsNil, mTup, mLst, guardL]
theorem lh_a {W : D} {L : List D} {z : Bool} (c : x__law_has_rounds_1 [.sh W, .no] = .ok (.fr (.lst L)) [.sh W, .no]) (n1 : dNeC (.lst L) (.lst []) = some z) : F__law_has_rounds [W] = .ok (.bl z) false .non := by
  have zero : (0 : Nat) ≤ lim := by decide
  simp [F__law_has_rounds, m__law_has_rounds, c, n1, zero, runF, initS, mRet, mAndV, mOrV, bind_eq, pure_eq, mCall, mCons, mNil, mVar, rdv, callAt, lent, ownAt, just, isLn, tst, dTru, asV, mChain, tst2, dLe, dLt, dGe, dGt, dIs, dIsNot, isNon, handed, outD, retRv, mIf, mOr, mAnd, mNotT, mTru, mSeq, mIsi, dIsi, tyD, tyLe, mOps, ops, mInt, mBl, mNon, mStr, mB, mU, op1, op2, mSet, store, free, DL.settle, DL.settles, mNotV, b2, mRetN, mNx, mDrop, mSeqI, items, mT2, okRet, noL, noLi, noLs, mYes, gSet, gUnp, gsCons, gsNil, mTup, mLst, guardL]
theorem walk_len8 {t : Nat} {v : List Nat} {p : Nat} (ht : t ≤ 1000) (h : v ∈ walks rs p t) : v.length ≤ 1000 := by rw [(walks_lt h).2]; exact ht
theorem walks_ne {p m : Nat} : (!(walks rs p m).isEmpty) = true ↔ ∃ l, Path rs p l ∧ l.length = m := by
  constructor
  · intro h
    cases e : walks rs p m with
    | nil => rw [e] at h; cases h
    | cons x r => exact ⟨x, walks_mem.mp (by rw [e]; simp)⟩
  · rintro ⟨l, h⟩
    have := walks_mem.mpr h
    cases e : walks rs p m with
    | nil => rw [e] at this; cases this
    | cons x r => rfl
theorem rounds_or (w : WebOk n rs) : (!(rds n rs).isEmpty) = true ↔ ∃ q, Cyc n rs q := by
  constructor
  · intro h
    cases e : rds n rs with
    | nil => rw [e] at h; cases h
    | cons x r =>
      have i : IsRd rs x := (rds_mem w).mp (by rw [e]; simp)
      cases hx : x with
      | nil => exact absurd hx i.ne
      | cons a s => exact ⟨tl rs a, (cyc_iff w).mpr ⟨x, i, by rw [hx]; simp⟩⟩
  · rintro ⟨q, h⟩
    obtain ⟨l, i, _⟩ := (cyc_iff w).mp h
    have := (rds_mem w).mpr i
    cases e : rds n rs with
    | nil => rw [e] at this; cases this
    | cons x r => rfl
open Classical in
theorem has_all (w : WebOk n rs) : ((List.range n).any fun q => decide (Cyc n rs q)) = !(rds n rs).isEmpty := by
  rw [Bool.eq_iff_iff, rounds_or w, List.any_eq_true]
  constructor
  · rintro ⟨q, _, h⟩
    exact ⟨q, of_decide_eq_true h⟩
  · rintro ⟨q, h⟩
    have lt : q < n := by
      obtain ⟨k, _, hr⟩ := h
      exact (reachL_mem.mp hr).1
    exact ⟨q, List.mem_range.mpr lt, decide_eq_true h⟩
theorem law_has_ok (w : WebOk n rs) (hn : n ≤ 4) (hr : rs.length ≤ 7) : F__law_has_rounds [eWeb n rs] = .ok (.bl (!(rds n rs).isEmpty)) false .non := by
  have hl : (List.range n).length ≤ lim := by rw [List.length_range]; exact Nat.le_trans w.most (by decide)
  have c : x__law_has_rounds_1 [.sh (eWeb n rs), .no] = .ok (.fr (eL ((List.range n).filter fun k => !(walks rs k n).isEmpty))) [.sh (eWeb n rs), .no] := by
    refine lc_filt (vs := [1]) (g := eN) (v := eN) (p := fun k => !(walks rs k n).isEmpty) (xs := List.range n) (σ1 := [.sh (eWeb n rs), .no]) (range1_ok (r := .v (eN n)) rfl rfl (by omega)) rfl (fun k hk => ?_) hl
    obtain ⟨f, e⟩ := law_walks_ok (p := k) w n (by omega) (fun t ht => by have := walks_7 hr k (t := t) (by omega); omega)
    exact lh_turn (N := eN n) rfl e (neC_rows fun l hl => walk_len8 (by omega) hl)
  have n1 := neC_nil ((List.range n).filter fun k => !(walks rs k n).isEmpty)
  have q : (!((List.range n).filter fun k => !(walks rs k n).isEmpty).isEmpty) = !(rds n rs).isEmpty := by
    rw [Bool.eq_iff_iff, rounds_or w]
    constructor
    · intro h
      cases e : (List.range n).filter fun k => !(walks rs k n).isEmpty with
      | nil => rw [e] at h; cases h
      | cons k r =>
        have hk : k ∈ (List.range n).filter fun k => !(walks rs k n).isEmpty := by rw [e]; simp
        obtain ⟨h1, h2⟩ := List.mem_filter.mp hk
        obtain ⟨l, p, len⟩ := walks_ne.mp h2
        exact long_cyc w (List.mem_range.mp h1) p len
    · rintro ⟨q, h⟩
      obtain ⟨l, z, h1, h2, h3⟩ := cyc_walk w n h
      have lt : q < n := by
        obtain ⟨k, _, hr⟩ := h
        exact (reachL_mem.mp hr).1
      have hq : q ∈ (List.range n).filter fun k => !(walks rs k n).isEmpty := List.mem_filter.mpr ⟨List.mem_range.mpr lt, walks_ne.mpr ⟨l, lk_path _ (Nat.le_refl _) h3 h2, h1⟩⟩
      cases e : (List.range n).filter fun k => !(walks rs k n).isEmpty with
      | nil => rw [e] at hq; cases hq
      | cons k r => rfl
  rw [q] at n1
  exact lh_a c n1
end
end K01

set_option Elab.async false
set_option linter.all false
set_option maxRecDepth 100000
namespace K01
open DL PySem
section
variable {t W : D} {s2 s3 s4 s5 s6 s7 s8 s9 s10 s11 s12 : Sl} {n : Nat} {rs : List (Nat × Nat)} {l : List Nat}
/-! ### the begins -/
theorem right_7_ok (hl : l.length ≤ 1000) (h : ∀ k ∈ l, k < rs.length) : x__law_right_7 (T5 t (eWeb n rs) s2 s3 s4 (.sh (eRow l)) s6 s7 s8 s9 s10 s11 s12) = .ok (.fr (eL (l.map (tl rs)))) (T5 t (eWeb n rs) s2 s3 s4 (.sh (eRow l)) s6 s7 s8 s9 s10 s11 s12) := right_4_ok hl h
theorem ext_7 {L M : List D} (c : x__law_right_7 (T5 t W s2 s3 s4 s5 s6 (.ow false (.lst L)) s8 s9 s10 s11 s12) = .ok (.fr (.lst M)) (T5 t W s2 s3 s4 s5 s6 (.ow false (.lst L)) s8 s9 s10 s11 s12)) (hl : L.length + M.length ≤ lim) :
    (mDrop (mExt 7 (x__law_right_7))) (T5 t W s2 s3 s4 s5 s6 (.ow false (.lst L)) s8 s9 s10 s11 s12) = .ok .nx (T5 t W s2 s3 s4 s5 s6 (.ow false (.lst (L ++ M))) s8 s9 s10 s11 s12) := by
  unfold T5 at c ⊢
  simp [c, hl, mExt, ownL, wrL, mDrop, bind_eq, pure_eq, DL.settle]
noncomputable def begL (n : Nat) (rs : List (Nat × Nat)) : List Nat := (rds n rs).flatMap fun l => l.map (tl rs)
theorem loop9 (w : WebOk n rs) (hr : rs.length ≤ 7) (k5 : Kp s5) : ∃ s5', Kp s5' ∧ x__law_right_8 (T5 t (eWeb n rs) (.sh (.lst ((rds n rs).map eRow))) s3 s4 s5 s6 (.ow false (.lst [])) s8 s9 s10 s11 s12) =
    .ok .nx (T5 t (eWeb n rs) (.sh (.lst ((rds n rs).map eRow))) s3 s4 s5' s6 (.ow false (eL (begL n rs))) s8 s9 s10 s11 s12) := by
  have few := rds_few w hr
  have wm := w.most
  have lm : lim = 16777216 := rfl
  obtain ⟨σ', e, s5', k5', rfl⟩ := forL_relL (f := mTurn (gSet 5) (mDrop (mExt 7 (x__law_right_7)))) (g := eRow)
    (I := fun dn σ => ∃ s5 : Sl, Kp s5 ∧ σ = T5 t (eWeb n rs) (.sh (.lst ((rds n rs).map eRow))) s3 s4 s5 s6 (.ow false (eL (dn.flatMap fun l => l.map (tl rs)))) s8 s9 s10 s11 s12)
    (rds n rs) [] (T5 t (eWeb n rs) (.sh (.lst ((rds n rs).map eRow))) s3 s4 s5 s6 (.ow false (.lst [])) s8 s9 s10 s11 s12) ⟨s5, k5, rfl⟩ (by
      rintro dn l rr e σ ⟨s5, k5, rfl⟩
      rw [List.nil_append] at e
      have i : IsRd rs l := (rds_mem w).mp (by rw [e]; simp)
      have len := rd_len w i
      have dl : dn.length ≤ 128 := by
        rw [e, List.length_append] at few
        omega
      have fl := flat_le (fun l => l.map (tl rs)) 8 dn fun x hx => by
        have ix : IsRd rs x := (rds_mem w).mp (by rw [e]; simp [hx])
        have := rd_len w ix
        rw [List.length_map]
        omega
      have c := right_7_ok (t := t) (s2 := .sh (.lst ((rds n rs).map eRow))) (s3 := s3) (s4 := s4) (s6 := s6) (s7 := .ow false (eL (dn.flatMap fun l => l.map (tl rs)))) (s8 := s8) (s9 := s9) (s10 := s10) (s11 := s11) (s12 := s12) (n := n) (by omega) i.lt
      refine ⟨_, .inl ((turn_5 k5).trans (ext_7 c ?_)), .sh (eRow l), .sh, ?_⟩
      · rw [List.length_map, List.length_map, List.length_map]
        omega
      · rw [List.flatMap_append, List.flatMap_cons, List.flatMap_nil, List.append_nil]
        simp only [eL, eNs, List.map_append])
  refine ⟨s5', k5', ?_⟩
  unfold x__law_right_8 mFor
  rw [ok_bind (it_2s (i := .no))]
  exact e
/-! ### which lead to rounds -/
theorem r9_turn {x : D} {B : D} {z : Bool} (e : dInC false x B = some z) : turn1 [5] (gSet 5) (mT2 (dInC false) (mVar 5) (mVar 7)) (mVar 5) x (T5 t W s2 s3 s4 .no s6 (.ow false B) s8 s9 s10 s11 s12) = .ok (if z = true then [x] else []) (T5 t W s2 s3 s4 .no s6 (.ow false B) s8 s9 s10 s11 s12) := by
  cases z <;> simp [T5, turn1, e, wipeM, noOw, wipeS, runF, initS, mRet, mAndV, mOrV, bind_eq, pure_eq, mCall, mCons, mNil, mVar, rdv, callAt, lent, ownAt, just, isLn, tst, dTru, asV, mChain, tst2, dLe, dLt, dGe, dGt, dIs, dIsNot, isNon, handed, outD, retRv, mIf, mOr, mAnd, mNotT, mTru, mSeq, mIsi, dIsi, tyD, tyLe, mOps, ops, mInt, mBl, mNon, mStr, mB, mU, op1, op2, mSet, store, free, DL.settle, DL.settles, mNotV, b2, mRetN, mNx, mDrop, mSeqI, items, mT2, okRet, noL, noLi, noLs, mYes, gSet, gUnp, gsCons, gsNil, mTup, mLst, guardL]
theorem right_9_ok (w : WebOk n rs) {p : Nat} (hp : p < n) (k5 : Kp s5) {b : List Nat} : x__law_right_9 (T5 t (eWeb n rs) s2 (.sh (eN p)) s4 s5 s6 (.ow false (eL b)) s8 s9 s10 s11 s12) = .ok (.fr (eL ((reachL n rs p).filter fun q => decide (q ∈ b)))) (T5 t (eWeb n rs) s2 (.sh (eN p)) s4 s5 s6 (.ow false (eL b)) s8 s9 s10 s11 s12) := by
  have lm : lim = 16777216 := rfl
  have rl := reachL_len n rs p
  have wm := w.most
  refine lc_filt (vs := [5]) (g := eN) (v := eN) (p := fun q => decide (q ∈ b)) (xs := reachL n rs p) (σ1 := T5 t (eWeb n rs) s2 (.sh (eN p)) s4 s5 s6 (.ow false (eL b)) s8 s9 s10 s11 s12) (seq_call2 rfl rfl (law_reached_ok w hp)) (by rcases k5 with rfl | ⟨d, rfl⟩ <;> rfl) (fun q hq => ?_) (by omega)
  have := r9_turn (t := t) (W := eWeb n rs) (s2 := s2) (s3 := .sh (eN p)) (s4 := s4) (s6 := s6) (s8 := s8) (s9 := s9) (s10 := s10) (s11 := s11) (s12 := s12) (in_nat q b)
  exact this
theorem d10 {L : List D} {z : Bool} (k12 : Fr s12) (c : x__law_right_9 (T5 t W s2 s3 s4 s5 s6 s7 s8 s9 s10 s11 s12) = .ok (.fr (.lst L)) (T5 t W s2 s3 s4 s5 s6 s7 s8 s9 s10 s11 s12)) (n1 : dNeC (.lst L) (.lst []) = some z) :
    (mSet 12 (mB (b2 dNeC) (x__law_right_9) (mLst (mNil)))) (T5 t W s2 s3 s4 s5 s6 s7 s8 s9 s10 s11 s12) = .ok .nx (T5 t W s2 s3 s4 s5 s6 s7 s8 s9 s10 s11 (.sh (.bl z))) := by
  have zero : (0 : Nat) ≤ lim := by decide
  have h : mB (b2 dNeC) x__law_right_9 (mLst mNil) (T5 t W s2 s3 s4 s5 s6 s7 s8 s9 s10 s11 s12) = .ok (.v (.bl z)) (T5 t W s2 s3 s4 s5 s6 s7 s8 s9 s10 s11 s12) := by
    unfold T5 at c ⊢
    simp [c, n1, zero, b2, mB, op2, mLst, guardL, mNil, rdv, DL.settles, bind_eq, pure_eq]
  refine set_v h ?_
  rcases k12 with rfl | ⟨d, rfl⟩ | ⟨d, rfl⟩ <;> rfl
theorem lead_call {P : D} {z : Bool} (e : F_leads_to_round [W, P] = .ok (.bl z) false .non) : mCallK 2 2 none F_leads_to_round [1, 0] (mCons (mVar 3) (mCons (mVar 1) mNil)) (T5 t W s2 (.sh P) s4 s5 s6 s7 s8 s9 s10 s11 s12) = .ok (.v (.bl z)) (T5 t W s2 (.sh P) s4 s5 s6 s7 s8 s9 s10 s11 s12) := by
  have k2 : kArgs 2 2 [1, 0] [Rv.ln 3, Rv.ln 1] = some [Rv.ln 1, Rv.ln 3] := rfl
  simp [T5, e, k2, mCallK, mCons, mNil, mVar, rdv, callAt, lent, ownAt, just, isLn, retRv, bind_eq, pure_eq]
theorem filter_any {α : Type} (p : α → Bool) : ∀ xs : List α, (!(xs.filter p).isEmpty) = xs.any p
  | [] => rfl
  | x :: r => by
    have ih := filter_any p r
    rw [List.filter_cons, List.any_cons]
    cases p x
    · simpa using ih
    · rfl
theorem beg_mem (w : WebOk n rs) {q : Nat} : q ∈ begL n rs ↔ Cyc n rs q := by
  rw [cyc_iff w]
  unfold begL
  simp only [List.mem_flatMap, rds_mem w]
open Classical in
theorem lead_all (w : WebOk n rs) (p : Nat) : (!((reachL n rs p).filter fun q => decide (q ∈ begL n rs)).isEmpty) = (reachL n rs p).any fun q => decide (Cyc n rs q) := by
  rw [filter_any]
  congr 1
  funext q
  rw [Bool.eq_iff_iff, decide_eq_true_iff, decide_eq_true_iff]
  exact beg_mem w
theorem loop10 (w : WebOk n rs) (k3 : Kp s3) (k5 : Kp s5) (k12 : Fr s12) : ∃ s3' s12', Kp s3' ∧ Fr s12' ∧ x__law_right_10 (T5 t (eWeb n rs) s2 s3 s4 s5 s6 (.ow false (eL (begL n rs))) s8 s9 s10 s11 s12) =
    .ok .nx (T5 t (eWeb n rs) s2 s3' s4 s5 s6 (.ow false (eL (begL n rs))) s8 s9 s10 s11 s12') := by
  have wm := w.most
  obtain ⟨σ', e, s3', s12', k3', k12', rfl⟩ := forL_relL (f := mTurn (gSet 3) (mSeq (mSet 12 (mB (b2 dNeC) (x__law_right_9) (mLst (mNil)))) (mIf (mNotT (mTru (mCall 2 none (F__law_same 12) (mCons (mCallK 2 2 none F_leads_to_round [1, 0] (mCons (mVar 3) (mCons (mVar 1) (mNil)))) (mCons (mVar 12) (mNil)))))) (mRet (mBl false)) (mNx)))) (g := eN)
    (I := fun dn σ => ∃ s3 s12 : Sl, Kp s3 ∧ Fr s12 ∧ σ = T5 t (eWeb n rs) s2 s3 s4 s5 s6 (.ow false (eL (begL n rs))) s8 s9 s10 s11 s12)
    (List.range n) [] (T5 t (eWeb n rs) s2 s3 s4 s5 s6 (.ow false (eL (begL n rs))) s8 s9 s10 s11 s12) ⟨s3, s12, k3, k12, rfl⟩ (by
      rintro dn p rr e σ ⟨s3, s12, k3, k12, rfl⟩
      rw [List.nil_append] at e
      obtain ⟨q1, hp, q3⟩ := range_split e
      have c := right_9_ok (t := t) (s2 := s2) (s4 := s4) (s6 := s6) (s8 := s8) (s9 := s9) (s10 := s10) (s11 := s11) (s12 := s12) (b := begL n rs) w hp k5
      have n1 := neC_nil ((reachL n rs p).filter fun q => decide (q ∈ begL n rs))
      rw [lead_all w p] at n1
      have q0 := d10 k12 c n1
      have e1 := leads_ok w hp
      generalize ((reachL n rs p).any fun q => @decide (Cyc n rs q) (Classical.propDecidable _)) = z at q0 e1
      have q1 := same_nx (lead_call (t := t) (s2 := s2) (s4 := s4) (s5 := s5) (s6 := s6) (s7 := .ow false (eL (begL n rs))) (s8 := s8) (s9 := s9) (s10 := s10) (s11 := s11) (s12 := .sh (.bl z)) e1) (b := mVar 12) (rb := .ln 12) (X := .bl z) rfl rfl rfl (SD.le (sd_bl z) (by decide))
      refine ⟨_, .inl ((turn_3 k3).trans ((seq_nx q0).trans q1)), .sh (eN p), .sh (.bl z), .sh, .sh, rfl⟩)
  refine ⟨s3', s12', k3', k12', ?_⟩
  unfold x__law_right_10 mFor
  rw [ok_bind (range_n (n := n) (W := eWeb n rs) rfl rfl (by omega))]
  exact e
/-! ### drawn paths -/
theorem d11 {t1 t2 N v R : D} (k5 : Kp s5) (i0 : dIx W (.int 0) = some (.v N)) (e1 : F__law_take [t, N] = .ok v false t1) (e2 : F__law_walk [t1, W, v, .int 4] = .ok R false t2) :
    (mSet 5 (mCall 4 (some 0) F__law_walk (mCons (mVar 0) (mCons (mVar 1) (mCons (mCall 2 (some 0) F__law_take (mCons (mVar 0) (mCons (mB dIx (mVar 1) (mInt 0)) (mNil)))) (mCons (mInt 4) (mNil))))))) (T5 t W s2 s3 s4 s5 s6 s7 s8 s9 s10 s11 s12) = .ok .nx (T5 t2 W s2 s3 s4 (.sh R) s6 s7 s8 s9 s10 s11 s12) := by
  rcases k5 with rfl | ⟨d, rfl⟩ <;> simp [T5, i0, e1, e2, mB, op2, mInt, mSet, mCall, mCons, mNil, mVar, rdv, callAt, lent, ownAt, just, isLn, retRv, store, free, DL.settle, DL.settles, bind_eq, pure_eq]
theorem rd_call {R : D} {z : Bool} (e : F_is_round [W, R] = .ok (.bl z) false .non) : mCallK 2 2 none F_is_round [1, 0] (mCons (mVar 5) (mCons (mVar 1) mNil)) (T5 t W s2 s3 s4 (.sh R) s6 s7 s8 s9 s10 s11 s12) = .ok (.v (.bl z)) (T5 t W s2 s3 s4 (.sh R) s6 s7 s8 s9 s10 s11 s12) := by
  have k2 : kArgs 2 2 [1, 0] [Rv.ln 5, Rv.ln 1] = some [Rv.ln 1, Rv.ln 5] := rfl
  simp [T5, e, k2, mCallK, mCons, mNil, mVar, rdv, callAt, lent, ownAt, just, isLn, retRv, bind_eq, pure_eq]
theorem in_call {R E : D} {z : Bool} (e : dInC false R E = some z) : mB (b2 (dInC false)) (mVar 5) (mVar 2) (T5 t W (.sh E) s3 s4 (.sh R) s6 s7 s8 s9 s10 s11 s12) = .ok (.v (.bl z)) (T5 t W (.sh E) s3 s4 (.sh R) s6 s7 s8 s9 s10 s11 s12) := by
  simp [T5, e, b2, mB, op2, mVar, rdv, bind_eq, pure_eq]
theorem in_row (b : List Nat) {l : List (List Nat)} (h2 : ∀ x ∈ l, x.length ≤ 1000) : dInC false (eRow b) (.lst (l.map eRow)) = some (decide (b ∈ l)) := by
  simp only [dInC]
  rw [if_pos ⟨eRow_shaped b, rows_shaped2 h2⟩, any_row]
  by_cases h : b ∈ l <;> simp [h]
open Classical in
theorem loop11 (w : WebOk n rs) (hn : n ≤ 4) {c : Nat} (B : Box c t) (hc : c ≤ 800000) (k5 : Kp s5) (k8 : Kp s8) : ∃ t' s5' s8', x__law_right_11 (T5 t (eWeb n rs) (.sh (.lst ((rds n rs).map eRow))) s3 s4 s5 s6 s7 s8 s9 s10 s11 s12) =
    .ok .nx (T5 t' (eWeb n rs) (.sh (.lst ((rds n rs).map eRow))) s3 s4 s5' s6 s7 s8' s9 s10 s11 s12) := by
  have one := w.one
  obtain ⟨σ', e, t', s5', s8', B', k5', k8', rfl⟩ := forL_relL (f := mTurn (gSet 8) (mSeq (mSet 5 (mCall 4 (some 0) F__law_walk (mCons (mVar 0) (mCons (mVar 1) (mCons (mCall 2 (some 0) F__law_take (mCons (mVar 0) (mCons (mB dIx (mVar 1) (mInt 0)) (mNil)))) (mCons (mInt 4) (mNil))))))) (mIf (mNotT (mTru (mCall 2 none (F__law_same 12) (mCons (mCallK 2 2 none F_is_round [1, 0] (mCons (mVar 5) (mCons (mVar 1) (mNil)))) (mCons (mB (b2 (dInC false)) (mVar 5) (mVar 2)) (mNil)))))) (mRet (mBl false)) (mNx)))) (g := eN)
    (I := fun dn σ => ∃ (t : D) (s5 s8 : Sl), Box (c + 20 * dn.length) t ∧ Kp s5 ∧ Kp s8 ∧ σ = T5 t (eWeb n rs) (.sh (.lst ((rds n rs).map eRow))) s3 s4 s5 s6 s7 s8 s9 s10 s11 s12)
    (List.range 4) [] (T5 t (eWeb n rs) (.sh (.lst ((rds n rs).map eRow))) s3 s4 s5 s6 s7 s8 s9 s10 s11 s12) ⟨t, s5, s8, B, k5, k8, rfl⟩ (by
      rintro dn x rr e σ ⟨t, s5, s8, B, k5, k8, rfl⟩
      rw [List.nil_append] at e
      obtain ⟨q1, hx, q3⟩ := range_split e
      obtain ⟨v, t1, hv, B1, e1⟩ := take_ok (b := n) B (by omega) (by omega) (by omega)
      obtain ⟨l, t2, hp, hl, B2, e2⟩ := law_walk_ok (p := v) w (M := 4) (by omega) B1 (by omega)
      have q0 := d11 (s2 := .sh (.lst ((rds n rs).map eRow))) (s3 := s3) (s4 := s4) (s6 := s6) (s7 := s7) (s8 := .sh (eN x)) (s9 := s9) (s10 := s10) (s11 := s11) (s12 := s12) (W := eWeb n rs) (N := eN n) k5 rfl e1 e2
      have r := is_round_a (sure_web_self w) (round_in_ok w (l := l) (by omega))
      have i := in_row l (l := rds n rs) fun x hx => by
        have := rd_len w ((rds_mem w).mp hx)
        omega
      have z : decide (l ∈ rds n rs) = decide (IsRd rs l) := by
        rw [Bool.eq_iff_iff, decide_eq_true_iff, decide_eq_true_iff]
        exact rds_mem w
      rw [z] at i
      have q1 := same_nx (rd_call (t := t2) (s2 := .sh (.lst ((rds n rs).map eRow))) (s3 := s3) (s4 := s4) (s6 := s6) (s7 := s7) (s8 := .sh (eN x)) (s9 := s9) (s10 := s10) (s11 := s11) (s12 := s12) r) (in_call i) rfl rfl (SD.le (sd_bl _) (by decide))
      refine ⟨_, .inl ((turn_8 k8).trans ((seq_nx q0).trans q1)), t2, .sh (eRow l), .sh (eN x), B2.up (by simp only [List.length_append, List.length_singleton]; omega), .sh, .sh, rfl⟩)
  refine ⟨t', s5', s8', ?_⟩
  unfold x__law_right_11 mFor
  rw [ok_bind (show mRange1 (mInt 4) (T5 t (eWeb n rs) (.sh (.lst ((rds n rs).map eRow))) s3 s4 s5 s6 s7 s8 s9 s10 s11 s12) = .ok ((List.range 4).map eN) _ from range1_ok (n := 4) (r := .v (.int 4)) rfl rfl (by decide))]
  exact e
end
end K01

set_option Elab.async false
set_option linter.all false
set_option maxRecDepth 100000
namespace K01
open DL PySem
theorem law_right_a {t t' : D} {σ' : Sg} (h : m__law_right [.ow true t, .no, .no, .no, .no, .no, .no, .no, .no, .no, .no, .no, .no, .no, .no] = .ok (.rt (.v (.bl true))) σ') (h2 : σ'[0]? = some (.ow true t')) : F__law_right [t] = .ok (.bl true) false t' := by
  unfold F__law_right runF
  rw [show initS 15 (some 0) [t] = [.ow true t, .no, .no, .no, .no, .no, .no, .no, .no, .no, .no, .no, .no, .no, .no] from rfl, h]
  simp [outD, h2]
section
variable {n : Nat} {rs : List (Nat × Nat)} {l : List Nat}
open Classical in
theorem not_lst {W : D} {L : List D} (h : F_sure_web [W] = .ok W false .non) : F_is_round [W, .lst L] = .ok (.bl false) false .non := is_round_a h (rin_0 are_roads_lst)
theorem not_non {W : D} (h : F_sure_web [W] = .ok W false .non) : F_is_round [W, .non] = .ok (.bl false) false .non := is_round_a h (rin_0 are_roads_non)
theorem not_nil (w : WebOk n rs) : F_is_round [eWeb n rs, .tup []] = .ok (.bl false) false .non := is_round_a (sure_web_self w) (rin_1 (by
  have r := are_roads_ok w (l := []) (by simp)
  exact r) (eqC_row [] []))
theorem sd_rds (w : WebOk n rs) {L : List (List Nat)} (h : L.length ≤ 1000) (h2 : ∀ l ∈ L, IsRd rs l) : SD 3 (.lst (L.map eRow)) := sd_rows (by omega) fun l hl => by
  have := rd_len w (h2 l hl)
  have := w.most
  omega
theorem q6_ok (w : WebOk n rs) (hn : n ≤ 4) (hr : rs.length ≤ 7) {c : Nat} {t : D} (B : Box c t) (hc : c ≤ 900000) {s3 s4 s5 s6 s7 s8 s9 s10 s11 s12 : Sl} (k6 : Fr s6) : ∃ t1, Box (c + 20) t1 ∧ (mSet 6 (mLst (mCons (mCall 1 none F_rounds (mCons (mCall 2 (some 0) (F__law_mixed 12) (mCons (mVar 0) (mCons (mVar 1) (mNil)))) (mNil))) (mCons (mCallK 1 1 none F_lone_rounds [0] (mCons (mVar 1) (mNil))) (mCons (mCall 1 none F_has_rounds (mCons (mVar 1) (mNil))) (mCons (mCall 2 none F_is_round (mCons (mVar 1) (mCons (mTup (mNil)) (mNil)))) (mCons (mCall 2 none F_is_round (mCons (mVar 1) (mCons (mIf (mT2 dNeC (mVar 2) (mLst (mNil))) (mOps dListOf (mCons (mB dIx (mVar 2) (mInt 0)) (mNil))) (mNon)) (mNil)))) (mNil)))))))) (T5 t (eWeb n rs) (.sh (.lst ((rds n rs).map eRow))) s3 s4 s5 s6 s7 s8 s9 s10 s11 s12) =
    .ok .nx (T5 t1 (eWeb n rs) (.sh (.lst ((rds n rs).map eRow))) s3 s4 s5 (.ow false (.lst [.lst ((rds n rs).map eRow), .lst ((lones n rs).map eRow), .bl (!(rds n rs).isEmpty), .bl false, .bl false])) s7 s8 s9 s10 s11 s12) := by
  obtain ⟨M, f, t1, e1, B1, m1, m2⟩ := mixed_web w B hc
  have e4 := has_ok w
  rw [has_all w] at e4
  have n1 := neC_rows (E := rds n rs) fun l hl => by
    have := rd_len w ((rds_mem w).mp hl)
    omega
  refine ⟨t1, B1, ?_⟩
  cases h : rds n rs with
  | nil =>
    rw [← h]
    have n1' : dNeC (.lst ((rds n rs).map eRow)) (.lst []) = some false := by rw [n1, h]; rfl
    exact q6a k6 e1 (rounds_ok w hn hr m1 m2) (lone_ok w) e4 (not_nil w) n1' (not_non (sure_web_self w))
  | cons x r =>
    rw [← h]
    have n1' : dNeC (.lst ((rds n rs).map eRow)) (.lst []) = some true := by rw [n1, h]; rfl
    have i0 : dIx (.lst ((rds n rs).map eRow)) (.int 0) = some (.v (eRow x)) := by rw [h]; exact ix_lst (xs := (x :: r).map eRow) (k := 0) (by simp)
    exact q6b k6 e1 (rounds_ok w hn hr m1 m2) (lone_ok w) e4 (not_nil w) n1' i0 (not_lst (sure_web_self w))
theorem law_right_ok {t : D} (B : Box 0 t) : ∃ t', F__law_right [t] = .ok (.bl true) false t' := by
  obtain ⟨m1, r1, t1, w1, a1, b1, B1, e1⟩ := law_web_ok (P := 4) (R := 7) (by decide) (by decide) (by decide) B (by omega)
  obtain ⟨m2, r2, t2, w2, a2, b2, B2, e2⟩ := some_web_ok B1 (by omega)
  obtain ⟨x, hx, t3, B3, e3⟩ := law_of_ok (xs := [eWeb m1 r1, eWeb m2 r2]) B2 (by omega) (by simp) (by simp)
  obtain ⟨n, rs, w, hn, hr, rfl⟩ : ∃ n rs, WebOk n rs ∧ n ≤ 4 ∧ rs.length ≤ 7 ∧ x = eWeb n rs := by
    simp only [List.mem_cons, List.not_mem_nil, or_false] at hx
    rcases hx with rfl | rfl
    · exact ⟨m1, r1, w1, a1, b1, rfl⟩
    · exact ⟨m2, r2, w2, a2, b2, rfl⟩
  have few := rds_few w hr
  have q0 := r0 e1 e2 e3
  have q1 := K01.r1 (t := t3) (W := eWeb n rs) (s3 := .no) (s4 := .no) (s5 := .no) (s6 := .no) (s7 := .no) (s8 := .no) (s9 := .no) (s10 := .no) (s11 := .no) (s12 := .no)
  obtain ⟨s3, s9, k3, k9, q2⟩ := right_3_ok (t := t3) w hn hr
  have q3 := r3 (t := t3) (W := eWeb n rs) (s3 := s3) (s9 := s9) w
  have q4 := r4 (t := t3) (W := eWeb n rs) (s2 := .ow false (.lst ((rds n rs).map eRow))) (s3 := s3) (s9 := s9)
  obtain ⟨t4, s5, s6, s10, s11, s12, B4, k5, k6, k10, k11, k12, q5⟩ := loop6 (t := t3) (s3 := s3) (s9 := s9) w hr B3 (by omega)
  obtain ⟨t5, B5, q6⟩ := q6_ok (s3 := s3) (s4 := .ow false (.lst ((lones n rs).map eRow))) (s5 := s5) (s7 := .no) (s8 := .no) (s9 := s9) (s10 := s10) (s11 := s11) (s12 := s12) w hn hr B4 (by omega) k6
  have ll : (lones n rs).length ≤ 1000 := by
    have := List.length_filter_le (fun l => (leaves rs l).isEmpty) (rds n rs)
    unfold lones
    omega
  have sd : SD 12 (.lst [.lst ((rds n rs).map eRow), .lst ((lones n rs).map eRow), .bl (!(rds n rs).isEmpty), .bl false, .bl false]) := SD.le (sd_lst (n := 3) (show 5 ≤ 100000 by decide) fun x hx => by
    simp only [List.mem_cons, List.not_mem_nil, or_false] at hx
    rcases hx with rfl | rfl | rfl | rfl | rfl
    · exact sd_rds w (by omega) fun l hl => (rds_mem w).mp hl
    · exact sd_rds w ll fun l hl => (rds_mem w).mp (List.mem_filter.mp hl).1
    · exact (sd_bl _).up.up
    · exact (sd_bl _).up.up
    · exact (sd_bl _).up.up) (by decide)
  have n1 := neC_rows (E := rds n rs) fun l hl => by
    have := rd_len w ((rds_mem w).mp hl)
    omega
  have q7 := q7 (t := t5) (s3 := s3) (s5 := s5) (s7 := .no) (s8 := .no) (s9 := s9) (s10 := s10) (s11 := s11) (s12 := s12) n1 (same_ok 12 _ sd) (law_has_ok w hn hr)
  have q8 := q8 (t := t5) (W := eWeb n rs) (s2 := .sh (.lst ((rds n rs).map eRow))) (s3 := s3) (s4 := .sh (.lst ((lones n rs).map eRow))) (s5 := s5) (s6 := .ow false (.lst [.lst ((rds n rs).map eRow), .lst ((lones n rs).map eRow), .bl (!(rds n rs).isEmpty), .bl false, .bl false])) (s8 := .no) (s9 := s9) (s10 := s10) (s11 := s11) (s12 := s12)
  obtain ⟨u5, k5', q9⟩ := loop9 (t := t5) (s3 := s3) (s4 := .sh (.lst ((lones n rs).map eRow))) (s5 := s5) (s6 := .ow false (.lst [.lst ((rds n rs).map eRow), .lst ((lones n rs).map eRow), .bl (!(rds n rs).isEmpty), .bl false, .bl false])) (s8 := .no) (s9 := s9) (s10 := s10) (s11 := s11) (s12 := s12) w hr k5
  obtain ⟨v3, v12, k3', k12', q10⟩ := loop10 (t := t5) (s2 := .sh (.lst ((rds n rs).map eRow))) (s3 := s3) (s4 := .sh (.lst ((lones n rs).map eRow))) (s5 := u5) (s6 := .ow false (.lst [.lst ((rds n rs).map eRow), .lst ((lones n rs).map eRow), .bl (!(rds n rs).isEmpty), .bl false, .bl false])) (s8 := .no) (s9 := s9) (s10 := s10) (s11 := s11) (s12 := s12) w k3 k5' k12
  obtain ⟨t6, x5, x8, q11⟩ := loop11 (t := t5) (s3 := v3) (s4 := .sh (.lst ((lones n rs).map eRow))) (s5 := u5) (s6 := .ow false (.lst [.lst ((rds n rs).map eRow), .lst ((lones n rs).map eRow), .bl (!(rds n rs).isEmpty), .bl false, .bl false])) (s7 := .ow false (eL (begL n rs))) (s8 := .no) (s9 := s9) (s10 := s10) (s11 := s11) (s12 := v12) w hn B5 (by omega) k5' .no
  refine ⟨t6, law_right_a (σ' := T5 t6 (eWeb n rs) (.sh (.lst ((rds n rs).map eRow))) v3 (.sh (.lst ((lones n rs).map eRow))) x5 (.ow false (.lst [.lst ((rds n rs).map eRow), .lst ((lones n rs).map eRow), .bl (!(rds n rs).isEmpty), .bl false, .bl false])) (.ow false (eL (begL n rs))) x8 s9 s10 s11 v12) ?_ rfl⟩
  unfold m__law_right
  rw [seq_nx q0, seq_nx q1, seq_nx q2, seq_nx q3, seq_nx q4, seq_nx q5, seq_nx q6, seq_nx q7, seq_nx q8, seq_nx q9, seq_nx q10, seq_nx q11]
  rfl
end
end K01

set_option Elab.async false
set_option linter.all false
set_option maxRecDepth 100000
namespace K01
open DL PySem
def eQ (q : Int × Nat) : D := .tup [.int (q.2 : Nat), .int q.1]
theorem cells_loop {A : D} {C0 ls : List Int} (h2 : ls = [] ∨ C0.length = 2) (hl : ls.length ≤ 100) (it : ∀ c : Sl, mEnum (mSlice (mVar 0) (mOpt (mVar 1)) (mOpt (mInt 63))) [.sh A, .sh (.int 2), c, .no, .no, .no] = .ok (ls.zipIdx.map eQ) [.sh A, .sh (.int 2), c, .no, .no, .no]) :
    ∃ (C : List Int) (s3 s4 s5 : Sl), C.length = C0.length ∧ x__law_cells_1 [.sh A, .sh (.int 2), .ow false (eI C0), .no, .no, .no] = .ok .nx [.sh A, .sh (.int 2), .ow false (eI C), s3, s4, s5] := by
  obtain ⟨σ', e, C, s3, s4, s5, hC, k3, k4, k5, rfl⟩ := forL_relL (f := mTurn (gUnp 2 (gsCons (gSet 3) (gsCons (gSet 4) (gsNil)))) (mSeq (mSet 5 (mB dMod (mOps dInt (mCons (mVar 3) (mNil))) (mVar 1))) (mDrop (mSetAt 2 (mB dAdd (mB dIx (mVar 2) (mVar 5)) (mB dMul (mVar 4) (mB dAdd (mVar 3) (mInt 2)))) (mVar 5))))) (g := eQ)
    (I := fun l σ => ∃ (C : List Int) (s3 s4 s5 : Sl), C.length = C0.length ∧ (s3 = .no ∨ ∃ d, s3 = .sh d) ∧ (s4 = .no ∨ ∃ d, s4 = .sh d) ∧ (s5 = .no ∨ ∃ d, s5 = .sh d) ∧ σ = [.sh A, .sh (.int 2), .ow false (eI C), s3, s4, s5])
    ls.zipIdx [] [.sh A, .sh (.int 2), .ow false (eI C0), .no, .no, .no] ⟨C0, .no, .no, .no, rfl, .inl rfl, .inl rfl, .inl rfl, rfl⟩ (by
      rintro dn ⟨b, k⟩ rr e σ ⟨C, s3, s4, s5, hC, k3, k4, k5, rfl⟩
      rw [List.nil_append] at e
      have hk : k < ls.length := by
        have : (b, k) ∈ ls.zipIdx := by rw [e]; simp
        have := List.mk_mem_zipIdx_iff_getElem?.mp this
        exact (List.getElem?_eq_some_iff.mp this).1
      have h0 : C.length = 2 := by
        rcases h2 with h | h
        · rw [h] at hk; simp at hk
        · omega
      have hj : k % 2 < C.length := by omega
      have e1 : dMod (.int (k : Int)) (.int 2) = some (.v (.int ((k % 2 : Nat) : Int))) := by
        rw [mod_p (by decide)]
        rfl
      have e4 : L2.ixN (C.map D.int).length ((k % 2 : Nat) : Int) = some (k % 2) := by
        unfold L2.ixN
        rw [List.length_map, if_pos (by omega), if_pos (by omega), Int.toNat_natCast]
      have m := mul_r (i := b) (j := (k : Int) + 2) (by omega) (by omega)
      have t := cells_turn (A := A) (x := .non) (k := .non) (K := .non) (at' := .non) (Z := .non) (C' := []) k3 k4 k5 e1 (ix_int hj) m e4
      refine ⟨_, .inl t, C.set (k % 2) (C[k % 2] + b * ((k : Int) + 2)), .sh (.int (k : Int)), .sh (.int b), .sh (.int ((k % 2 : Nat) : Int)), by rw [List.length_set]; exact hC, .inr ⟨_, rfl⟩, .inr ⟨_, rfl⟩, .inr ⟨_, rfl⟩, ?_⟩
      rw [eI, List.map_set])
  refine ⟨C, s3, s4, s5, hC, ?_⟩
  unfold x__law_cells_1 mFor
  rw [ok_bind (it _)]
  exact e
theorem cells_a {A : D} {C0 : List D} {C : List D} {s3 s4 s5 : Sl} {L : List D} (e0 : dSl A none (some 2) = some (.fr (.lst L))) (e1 : (L = [] ∧ C0 = [.int 0]) ∨ (L ≠ [] ∧ C0 = L)) (h : x__law_cells_1 [.sh A, .sh (.int 2), .ow false (.lst C0), .no, .no, .no] = .ok .nx [.sh A, .sh (.int 2), .ow false (.lst C), s3, s4, s5]) : F__law_cells [A, .int 2] = .ok (.lst C) true .non := by
  have one : (1 : Nat) ≤ lim := by decide
  rcases e1 with ⟨rfl, rfl⟩ | ⟨hL, rfl⟩
  · simp [F__law_cells, m__law_cells, mSlice, mOpt, mNone, part, e0, h, one, dListOf, runF, initS, mRet, mAndV, mOrV, bind_eq, pure_eq, mCall, mCons, mNil, mVar, rdv, callAt, lent, ownAt, just, isLn, tst, dTru, asV, mChain, tst2, dLe, dLt, dGe, dGt, dIs, dIsNot, isNon, handed, outD, retRv, mIf, mOr, mAnd, mNotT, mTru, mSeq, mIsi, dIsi, tyD, tyLe, mOps, ops, mInt, mBl, mNon, mStr, mB, mU, op1, op2, mSet, store, free, DL.settle, DL.settles, mNotV, b2, mRetN, mNx, mDrop, mSeqI, items, mT2, okRet, noL, noLi, noLs, mYes, gSet, gUnp, gsCons, gsNil, mTup, mLst, guardL]
  · have n : C0.isEmpty = false := by cases C0 with | nil => exact absurd rfl hL | cons a l => rfl
    simp [F__law_cells, m__law_cells, mSlice, mOpt, mNone, part, e0, h, one, n, dListOf, runF, initS, mRet, mAndV, mOrV, bind_eq, pure_eq, mCall, mCons, mNil, mVar, rdv, callAt, lent, ownAt, just, isLn, tst, dTru, asV, mChain, tst2, dLe, dLt, dGe, dGt, dIs, dIsNot, isNon, handed, outD, retRv, mIf, mOr, mAnd, mNotT, mTru, mSeq, mIsi, dIsi, tyD, tyLe, mOps, ops, mInt, mBl, mNon, mStr, mB, mU, op1, op2, mSet, store, free, DL.settle, DL.settles, mNotV, b2, mRetN, mNx, mDrop, mSeqI, items, mT2, okRet, noL, noLi, noLs, mYes, gSet, gUnp, gsCons, gsNil, mTup, mLst, guardL]
theorem cells_ok {ns : List Int} (hn : ns.length ≤ 63) : ∃ C : List Int, 1 ≤ C.length ∧ C.length ≤ 2 ∧ F__law_cells [.scr (ns.map D.int), .int 2] = .ok (eI C) true .non := by
  have i2 : HT.sIx (ns.map D.int).length (ns.map D.int).length (some 2) = min 2 (ns.map D.int).length := HT.sIx_nat _ _ 2
  have i2' : HT.sIx (ns.map D.int).length 0 (some 2) = min 2 (ns.map D.int).length := HT.sIx_nat _ _ 2
  have i63 : HT.sIx (ns.map D.int).length (ns.map D.int).length (some 63) = min 63 (ns.map D.int).length := HT.sIx_nat _ _ 63
  have s1 : dSl (.scr (ns.map D.int)) none (some 2) = some (.fr (.lst ((ns.take 2).map D.int))) := by
    show some (Rv.fr (D.lst (cutD (ns.map D.int) none (some 2)))) = _
    unfold cutD
    rw [i2, HT.sIx_none, List.drop_zero, Nat.sub_zero, ← List.map_take]
    rw [List.length_map]
    have e : ns.take (min 2 ns.length) = ns.take 2 := by
      rcases Nat.le_total 2 ns.length with h | h
      · rw [Nat.min_eq_left h]
      · rw [Nat.min_eq_right h, List.take_of_length_le (Nat.le_refl _), List.take_of_length_le h]
    rw [e]
  have s2 : dSl (.scr (ns.map D.int)) (some 2) (some 63) = some (.fr (.lst ((ns.drop 2).map D.int))) := by
    show some (Rv.fr (D.lst (cutD (ns.map D.int) (some 2) (some 63)))) = _
    unfold cutD
    rw [i2', i63, List.length_map]
    by_cases h : ns.length ≤ 2
    · rw [Nat.min_eq_right h, List.drop_eq_nil_of_le (by rw [List.length_map]; omega), List.drop_eq_nil_of_le h]
      simp
    · rw [Nat.min_eq_left (show 2 ≤ ns.length by omega), List.take_of_length_le (by rw [List.length_drop, List.length_map]; omega), List.map_drop]
  have it : ∀ c : Sl, mEnum (mSlice (mVar 0) (mOpt (mVar 1)) (mOpt (mInt 63))) [.sh (.scr (ns.map D.int)), .sh (.int 2), c, .no, .no, .no] = .ok ((ns.drop 2).zipIdx.map eQ) [.sh (.scr (ns.map D.int)), .sh (.int 2), c, .no, .no, .no] := fun c => enum_it (M := .non) s2 (by
    rw [List.zipIdx_map, List.map_map]
    rfl)
  have dl : (ns.drop 2).length ≤ 100 := by rw [List.length_drop]; omega
  by_cases h0 : ns = []
  · subst h0
    obtain ⟨C, s3, s4, s5, hC, e⟩ := cells_loop (C0 := [0]) (ls := ([] : List Int)) (.inl rfl) (by decide) it
    exact ⟨C, by rw [hC]; decide, by rw [hC]; decide, cells_a s1 (.inl ⟨rfl, rfl⟩) e⟩
  · have tl : (ns.take 2).length = min 2 ns.length := List.length_take ..
    have pos : 0 < ns.length := List.length_pos_iff.mpr h0
    obtain ⟨C, s3, s4, s5, hC, e⟩ := cells_loop (C0 := ns.take 2) (ls := ns.drop 2) (by
      by_cases h : ns.length ≤ 2
      · exact .inl (List.drop_eq_nil_of_le h)
      · exact .inr (by omega)) dl it
    refine ⟨C, by omega, by omega, cells_a s1 (.inr ⟨fun z => ?_, rfl⟩) e⟩
    have : ((ns.take 2).map D.int).length = 0 := by rw [z]; rfl
    rw [List.length_map] at this
    omega
/-! ### the law -/
theorem law_turn {A : D} {C : List D} {k t t' : D} (e1 : F__law_box [.lst C, k] = .ok t true .non) (hn : noLi t = true) (e2 : F__law_right [t] = .ok (.bl true) false t') :
    turn1 [2] (gSet 2) (mYes) (mCallFr F__law_right (mCall 2 none F__law_box (mCons (mVar 1) (mCons (mVar 2) (mNil))))) k [.sh A, .ow false (.lst C), .no] = .ok [.bl true] [.sh A, .ow false (.lst C), .no] := by
  simp [turn1, mCallFr, e1, e2, hn, runF, initS, mRet, bind_eq, pure_eq, mCall, mCons, mNil, mVar, rdv, callAt, lent, ownAt, just, isLn, DL.settle, okRet, retRv, mYes, gSet, store, free, wipeM, noOw, wipeS]
theorem ops_one {f : List D → Option Rv} {m : M Rv} {σ σ' : Sg} {d : D} {r : Rv} (h : m σ = .ok (.fr d) σ') (e : f [d] = some r) : mOps f (mCons m mNil) σ = .ok r σ' := by
  have h1 : mCons m mNil σ = .ok [.fr d] σ' := by
    unfold mCons
    rw [ok_bind h]
    rfl
  unfold mOps
  rw [ok_bind h1]
  simp [ops, rdv, e]
theorem law_0 {A : D} {C : D} (e1 : F__law_cells [A, .int 2] = .ok C true .non) : mCall 2 none F__law_cells (mCons (mVar 0) (mCons (mInt 2) mNil)) [.sh A, .no, .no] = .ok (.fr C) [.sh A, .no, .no] := by
  simp [e1, mCall, mCons, mNil, mVar, mInt, rdv, callAt, lent, ownAt, retRv, bind_eq, pure_eq]
theorem law_a {A : D} {C Q : List D} (e1 : F__law_cells [A, .int 2] = .ok (.lst C) true .non) (c : x_law_1 [.sh A, .ow false (.lst C), .no] = .ok (.fr (.lst Q)) [.sh A, .ow false (.lst C), .no]) (e : dAll [.lst Q] = some (.v (.bl true))) : F_law [A] = .ok (.bl true) false .non := by
  refine run_v (σ := [.sh A, .no, .no]) (σ' := [.sh A, .ow false (.lst C), .no]) rfl ?_
  have q0 : mSet 1 (mCall 2 none F__law_cells (mCons (mVar 0) (mCons (mInt 2) mNil))) [.sh A, .no, .no] = .ok .nx [.sh A, .ow false (.lst C), .no] := set_fr (law_0 e1) rfl
  unfold m_law
  rw [seq_nx q0]
  exact ret_v (ops_one c e)
theorem law_it {A X : D} {k : Nat} (hl : dLen [X] = some (.v (eN k))) (hk : k ≤ 1000) : mRange1 (mOps dLen (mCons (mVar 1) (mNil))) [.sh A, .ow false X, .no] = .ok ((List.range k).map eN) [.sh A, .ow false X, .no] := by
  refine range1_ok (r := .v (eN k)) (σ1 := [.sh A, .ow false X, .no]) ?_ rfl hk
  generalize eN k = Z at hl ⊢
  simp [mOps, ops, mCons, mNil, mVar, rdv, hl, bind_eq, pure_eq]
theorem law_x {A : D} {L : List D} {k : Nat} (hk : k ≤ 2) (hl : dLen [.lst L] = some (.v (eN k))) (h : ∀ j, j < k → ∃ t t', Box 0 t ∧ F__law_box [.lst L, eN j] = .ok t true .non ∧ F__law_right [t] = .ok (.bl true) false t') :
    x_law_1 [.sh A, .ow false (.lst L), .no] = .ok (.fr (.lst ((List.range k).map fun _ => .bl true))) [.sh A, .ow false (.lst L), .no] := by
  have lm : lim = 16777216 := rfl
  refine lc_each (vs := [2]) (g := eN) (v := fun _ => .bl true) (xs := List.range k) (σ1 := [.sh A, .ow false (.lst L), .no]) (law_it hl (by omega)) rfl (fun j hj => ?_) (by rw [List.length_range]; omega)
  obtain ⟨t, t', B, e1, e2⟩ := h j (List.mem_range.mp hj)
  exact law_turn e1 B.noLi e2
theorem law_ok {ns : List Int} (hn : ns.length ≤ 63) : F_law [.scr (ns.map D.int)] = .ok (.bl true) false .non := by
  obtain ⟨C, h1, h2, e⟩ := cells_ok hn
  have hl : dLen [.lst (C.map D.int)] = some (.v (eN C.length)) := by
    show some (Rv.v (D.int ((C.map D.int).length : Nat))) = _
    rw [List.length_map]
  have c := law_x (A := .scr (ns.map D.int)) h2 hl fun j hj => by
    obtain ⟨t, B, e1⟩ := box_ok hj h2
    obtain ⟨t', e2⟩ := law_right_ok B
    exact ⟨t, t', B, e1, e2⟩
  exact law_a e c (dAll_true _ fun b hb => by
    obtain ⟨_, _, rfl⟩ := List.mem_map.mp hb
    rfl)
theorem plain : DL.Plain F_law := fun ns hn => ⟨.non, law_ok hn⟩
end K01

set_option Elab.async false
set_option linter.all false
set_option maxRecDepth 100000
set_option maxHeartbeats 4000000
namespace K01
open PySem PySem.Spec PyProof.Rows L2 DL
theorem all_mk {l : PySem.W.OpenLaw} {w : World} {K : PySem.W.Frag} {h : Heap} {mg : PySem.Str → Option Value} {fa : Addr} {t_MOST_PLACES : Tok} {t_MOST_ROADS : Tok} {t_MOST_ROUNDS : Tok} {e_TooMany : Addr} {e_Unfit : Addr} {f_is_number : Addr} {oc_is_number kV_is_number dc_is_number pm_is_number cd_is_number ct_is_number : Value} {od_is_number an_is_number : Option Addr} {sl_is_number : Array (Option Value)} {f_is_within : Addr} {oc_is_within kV_is_within dc_is_within pm_is_within cd_is_within ct_is_within : Value} {od_is_within an_is_within : Option Addr} {sl_is_within : Array (Option Value)} {f_sure_within : Addr} {oc_sure_within kV_sure_within dc_sure_within pm_sure_within cd_sure_within ct_sure_within : Value} {od_sure_within an_sure_within : Option Addr} {sl_sure_within : Array (Option Value)} {f_is_long : Addr} {oc_is_long kV_is_long dc_is_long pm_is_long cd_is_long ct_is_long : Value} {od_is_long an_is_long : Option Addr} {sl_is_long : Array (Option Value)} {f_tupled : Addr} {oc_tupled kV_tupled dc_tupled pm_tupled cd_tupled ct_tupled : Value} {od_tupled an_tupled : Option Addr} {sl_tupled : Array (Option Value)} {f_is_web : Addr} {oc_is_web kV_is_web dc_is_web pm_is_web cd_is_web ct_is_web : Value} {od_is_web an_is_web : Option Addr} {sl_is_web : Array (Option Value)} {f_sure_web : Addr} {oc_sure_web kV_sure_web dc_sure_web pm_sure_web cd_sure_web ct_sure_web : Value} {od_sure_web an_sure_web : Option Addr} {sl_sure_web : Array (Option Value)} {f_sure_place : Addr} {oc_sure_place kV_sure_place dc_sure_place pm_sure_place cd_sure_place ct_sure_place : Value} {od_sure_place an_sure_place : Option Addr} {sl_sure_place : Array (Option Value)} {f_out_of : Addr} {oc_out_of kV_out_of dc_out_of pm_out_of cd_out_of ct_out_of : Value} {od_out_of an_out_of : Option Addr} {sl_out_of : Array (Option Value)} {f_are_roads : Addr} {oc_are_roads kV_are_roads dc_are_roads pm_are_roads cd_are_roads ct_are_roads : Value} {od_are_roads an_are_roads : Option Addr} {sl_are_roads : Array (Option Value)} {f_reached_in : Addr} {oc_reached_in kV_reached_in dc_reached_in pm_reached_in cd_reached_in ct_reached_in : Value} {od_reached_in an_reached_in : Option Addr} {sl_reached_in : Array (Option Value)} {f_is_round_in : Addr} {oc_is_round_in kV_is_round_in dc_is_round_in pm_is_round_in cd_is_round_in ct_is_round_in : Value} {od_is_round_in an_is_round_in : Option Addr} {sl_is_round_in : Array (Option Value)} {f_rounds_in : Addr} {oc_rounds_in kV_rounds_in dc_rounds_in pm_rounds_in cd_rounds_in ct_rounds_in : Value} {od_rounds_in an_rounds_in : Option Addr} {sl_rounds_in : Array (Option Value)} {f_is_round : Addr} {oc_is_round kV_is_round dc_is_round pm_is_round cd_is_round ct_is_round : Value} {od_is_round an_is_round : Option Addr} {sl_is_round : Array (Option Value)} {f_rounds : Addr} {oc_rounds kV_rounds dc_rounds pm_rounds cd_rounds ct_rounds : Value} {od_rounds an_rounds : Option Addr} {sl_rounds : Array (Option Value)} {f_exits_in : Addr} {oc_exits_in kV_exits_in dc_exits_in pm_exits_in cd_exits_in ct_exits_in : Value} {od_exits_in an_exits_in : Option Addr} {sl_exits_in : Array (Option Value)} {f_exits : Addr} {oc_exits kV_exits dc_exits pm_exits cd_exits ct_exits : Value} {od_exits an_exits : Option Addr} {sl_exits : Array (Option Value)} {f_lone_in : Addr} {oc_lone_in kV_lone_in dc_lone_in pm_lone_in cd_lone_in ct_lone_in : Value} {od_lone_in an_lone_in : Option Addr} {sl_lone_in : Array (Option Value)} {f_lone_rounds : Addr} {oc_lone_rounds kV_lone_rounds dc_lone_rounds pm_lone_rounds cd_lone_rounds ct_lone_rounds : Value} {od_lone_rounds an_lone_rounds : Option Addr} {sl_lone_rounds : Array (Option Value)} {f_on_round : Addr} {oc_on_round kV_on_round dc_on_round pm_on_round cd_on_round ct_on_round : Value} {od_on_round an_on_round : Option Addr} {sl_on_round : Array (Option Value)} {f_leads_to_round : Addr} {oc_leads_to_round kV_leads_to_round dc_leads_to_round pm_leads_to_round cd_leads_to_round ct_leads_to_round : Value} {od_leads_to_round an_leads_to_round : Option Addr} {sl_leads_to_round : Array (Option Value)} {f_has_rounds_in : Addr} {oc_has_rounds_in kV_has_rounds_in dc_has_rounds_in pm_has_rounds_in cd_has_rounds_in ct_has_rounds_in : Value} {od_has_rounds_in an_has_rounds_in : Option Addr} {sl_has_rounds_in : Array (Option Value)} {f_has_rounds : Addr} {oc_has_rounds kV_has_rounds dc_has_rounds pm_has_rounds cd_has_rounds ct_has_rounds : Value} {od_has_rounds an_has_rounds : Option Addr} {sl_has_rounds : Array (Option Value)} {f__law_box : Addr} {oc__law_box kV__law_box dc__law_box pm__law_box cd__law_box ct__law_box : Value} {od__law_box an__law_box : Option Addr} {sl__law_box : Array (Option Value)} {f__law_take : Addr} {oc__law_take kV__law_take dc__law_take pm__law_take cd__law_take ct__law_take : Value} {od__law_take an__law_take : Option Addr} {sl__law_take : Array (Option Value)} {f__law_cells : Addr} {oc__law_cells kV__law_cells dc__law_cells pm__law_cells cd__law_cells ct__law_cells : Value} {od__law_cells an__law_cells : Option Addr} {sl__law_cells : Array (Option Value)} {f__law_of : Addr} {oc__law_of kV__law_of dc__law_of pm__law_of cd__law_of ct__law_of : Value} {od__law_of an__law_of : Option Addr} {sl__law_of : Array (Option Value)} {f__law_mixed : Addr} {oc__law_mixed kV__law_mixed dc__law_mixed pm__law_mixed cd__law_mixed ct__law_mixed : Value} {od__law_mixed an__law_mixed : Option Addr} {sl__law_mixed : Array (Option Value)} {f__law_same : Addr} {oc__law_same kV__law_same dc__law_same pm__law_same cd__law_same ct__law_same : Value} {od__law_same an__law_same : Option Addr} {sl__law_same : Array (Option Value)} {f__law_web : Addr} {oc__law_web kV__law_web dc__law_web pm__law_web cd__law_web ct__law_web : Value} {od__law_web an__law_web : Option Addr} {sl__law_web : Array (Option Value)} {f__law_some_web : Addr} {oc__law_some_web kV__law_some_web dc__law_some_web pm__law_some_web cd__law_some_web ct__law_some_web : Value} {od__law_some_web an__law_some_web : Option Addr} {sl__law_some_web : Array (Option Value)} {f__law_outs : Addr} {oc__law_outs kV__law_outs dc__law_outs pm__law_outs cd__law_outs ct__law_outs : Value} {od__law_outs an__law_outs : Option Addr} {sl__law_outs : Array (Option Value)} {f__law_lead : Addr} {oc__law_lead kV__law_lead dc__law_lead pm__law_lead cd__law_lead ct__law_lead : Value} {od__law_lead an__law_lead : Option Addr} {sl__law_lead : Array (Option Value)} {f__law_walk : Addr} {oc__law_walk kV__law_walk dc__law_walk pm__law_walk cd__law_walk ct__law_walk : Value} {od__law_walk an__law_walk : Option Addr} {sl__law_walk : Array (Option Value)} {f__law_walks : Addr} {oc__law_walks kV__law_walks dc__law_walks pm__law_walks cd__law_walks ct__law_walks : Value} {od__law_walks an__law_walks : Option Addr} {sl__law_walks : Array (Option Value)} {f__law_reached : Addr} {oc__law_reached kV__law_reached dc__law_reached pm__law_reached cd__law_reached ct__law_reached : Value} {od__law_reached an__law_reached : Option Addr} {sl__law_reached : Array (Option Value)} {f__law_has_rounds : Addr} {oc__law_has_rounds kV__law_has_rounds dc__law_has_rounds pm__law_has_rounds cd__law_has_rounds ct__law_has_rounds : Value} {od__law_has_rounds an__law_has_rounds : Option Addr} {sl__law_has_rounds : Array (Option Value)} {f__law_is_round : Addr} {oc__law_is_round kV__law_is_round dc__law_is_round pm__law_is_round cd__law_is_round ct__law_is_round : Value} {od__law_is_round an__law_is_round : Option Addr} {sl__law_is_round : Array (Option Value)} {f__law_right : Addr} {oc__law_right kV__law_right dc__law_right pm__law_right cd__law_right ct__law_right : Value} {od__law_right an__law_right : Option Addr} {sl__law_right : Array (Option Value)} {f_law : Addr} {oc_law kV_law dc_law pm_law cd_law ct_law : Value} {od_law an_law : Option Addr} {sl_law : Array (Option Value)} (X : K.In h) (G : h.Ns mainGlobals mg) (hfa : mg "law" = some (.ref fa))
    (z_abs : PySem.W.nsIn K mainGlobals "abs" = some none)
    (z_all : PySem.W.nsIn K mainGlobals "all" = some none)
    (z_any : PySem.W.nsIn K mainGlobals "any" = some none)
    (z_bool : PySem.W.nsIn K mainGlobals "bool" = some none)
    (z_enumerate : PySem.W.nsIn K mainGlobals "enumerate" = some none)
    (z_int : PySem.W.nsIn K mainGlobals "int" = some none)
    (z_isinstance : PySem.W.nsIn K mainGlobals "isinstance" = some none)
    (z_len : PySem.W.nsIn K mainGlobals "len" = some none)
    (z_list : PySem.W.nsIn K mainGlobals "list" = some none)
    (z_min : PySem.W.nsIn K mainGlobals "min" = some none)
    (z_range : PySem.W.nsIn K mainGlobals "range" = some none)
    (z_set : PySem.W.nsIn K mainGlobals "set" = some none)
    (z_sorted : PySem.W.nsIn K mainGlobals "sorted" = some none)
    (z_str : PySem.W.nsIn K mainGlobals "str" = some none)
    (z_tuple : PySem.W.nsIn K mainGlobals "tuple" = some none)
    (z_zip : PySem.W.nsIn K mainGlobals "zip" = some none)
    (k_MOST_PLACES : PySem.W.nsIn K mainGlobals "MOST_PLACES" = some (some (.int 8 t_MOST_PLACES)))
    (k_MOST_ROADS : PySem.W.nsIn K mainGlobals "MOST_ROADS" = some (some (.int 16 t_MOST_ROADS)))
    (k_MOST_ROUNDS : PySem.W.nsIn K mainGlobals "MOST_ROUNDS" = some (some (.int 500 t_MOST_ROUNDS)))
    (xa_TooMany : PySem.W.nsIn K mainGlobals "TooMany" = some (some (.ref e_TooMany)))
    (xq_TooMany : PySem.W.excIn K e_TooMany [.type "ValueError", .type "Exception", .type "BaseException", .type "object"] "ValueError.__new__" = true)
    (xk_TooMany : PySem.W.keepIn K (.ref e_TooMany) = true)
    (xs_TooMany : PySem.W.subIn K (.ref e_TooMany) (.type "BaseException") = some true)
    (xt_TooMany : PySem.W.typeIn K (.ref e_TooMany) = some (.type "type"))
    (xa_Unfit : PySem.W.nsIn K mainGlobals "Unfit" = some (some (.ref e_Unfit)))
    (xq_Unfit : PySem.W.excIn K e_Unfit [.type "ValueError", .type "Exception", .type "BaseException", .type "object"] "ValueError.__new__" = true)
    (xk_Unfit : PySem.W.keepIn K (.ref e_Unfit) = true)
    (xs_Unfit : PySem.W.subIn K (.ref e_Unfit) (.type "BaseException") = some true)
    (xt_Unfit : PySem.W.typeIn K (.ref e_Unfit) = some (.type "type"))
    (a_is_number : PySem.W.nsIn K mainGlobals "is_number" = some (some (.ref f_is_number)))
    (l_is_number : K.lookup f_is_number = some ⟨oc_is_number, od_is_number, .func (PySem.W.fnOf "is_number" "is_number" (defArgs s_is_number) (defBody s_is_number) (defScope s_is_number) .none kV_is_number dc_is_number pm_is_number an_is_number cd_is_number ct_is_number), sl_is_number⟩)
    (c_is_number : PySem.W.codeIn K cd_is_number "is_number" = true)
    (p_is_number : PySem.W.keepIn K (.ref f_is_number) = true)
    (a_is_within : PySem.W.nsIn K mainGlobals "is_within" = some (some (.ref f_is_within)))
    (l_is_within : K.lookup f_is_within = some ⟨oc_is_within, od_is_within, .func (PySem.W.fnOf "is_within" "is_within" (defArgs s_is_within) (defBody s_is_within) (defScope s_is_within) .none kV_is_within dc_is_within pm_is_within an_is_within cd_is_within ct_is_within), sl_is_within⟩)
    (c_is_within : PySem.W.codeIn K cd_is_within "is_within" = true)
    (p_is_within : PySem.W.keepIn K (.ref f_is_within) = true)
    (a_sure_within : PySem.W.nsIn K mainGlobals "sure_within" = some (some (.ref f_sure_within)))
    (l_sure_within : K.lookup f_sure_within = some ⟨oc_sure_within, od_sure_within, .func (PySem.W.fnOf "sure_within" "sure_within" (defArgs s_sure_within) (defBody s_sure_within) (defScope s_sure_within) .none kV_sure_within dc_sure_within pm_sure_within an_sure_within cd_sure_within ct_sure_within), sl_sure_within⟩)
    (c_sure_within : PySem.W.codeIn K cd_sure_within "sure_within" = true)
    (p_sure_within : PySem.W.keepIn K (.ref f_sure_within) = true)
    (a_is_long : PySem.W.nsIn K mainGlobals "is_long" = some (some (.ref f_is_long)))
    (l_is_long : K.lookup f_is_long = some ⟨oc_is_long, od_is_long, .func (PySem.W.fnOf "is_long" "is_long" (defArgs s_is_long) (defBody s_is_long) (defScope s_is_long) .none kV_is_long dc_is_long pm_is_long an_is_long cd_is_long ct_is_long), sl_is_long⟩)
    (c_is_long : PySem.W.codeIn K cd_is_long "is_long" = true)
    (p_is_long : PySem.W.keepIn K (.ref f_is_long) = true)
    (a_tupled : PySem.W.nsIn K mainGlobals "tupled" = some (some (.ref f_tupled)))
    (l_tupled : K.lookup f_tupled = some ⟨oc_tupled, od_tupled, .func (PySem.W.fnOf "tupled" "tupled" (defArgs s_tupled) (defBody s_tupled) (defScope s_tupled) .none kV_tupled dc_tupled pm_tupled an_tupled cd_tupled ct_tupled), sl_tupled⟩)
    (c_tupled : PySem.W.codeIn K cd_tupled "tupled" = true)
    (p_tupled : PySem.W.keepIn K (.ref f_tupled) = true)
    (a_is_web : PySem.W.nsIn K mainGlobals "is_web" = some (some (.ref f_is_web)))
    (l_is_web : K.lookup f_is_web = some ⟨oc_is_web, od_is_web, .func (PySem.W.fnOf "is_web" "is_web" (defArgs s_is_web) (defBody s_is_web) (defScope s_is_web) .none kV_is_web dc_is_web pm_is_web an_is_web cd_is_web ct_is_web), sl_is_web⟩)
    (c_is_web : PySem.W.codeIn K cd_is_web "is_web" = true)
    (p_is_web : PySem.W.keepIn K (.ref f_is_web) = true)
    (a_sure_web : PySem.W.nsIn K mainGlobals "sure_web" = some (some (.ref f_sure_web)))
    (l_sure_web : K.lookup f_sure_web = some ⟨oc_sure_web, od_sure_web, .func (PySem.W.fnOf "sure_web" "sure_web" (defArgs s_sure_web) (defBody s_sure_web) (defScope s_sure_web) .none kV_sure_web dc_sure_web pm_sure_web an_sure_web cd_sure_web ct_sure_web), sl_sure_web⟩)
    (c_sure_web : PySem.W.codeIn K cd_sure_web "sure_web" = true)
    (p_sure_web : PySem.W.keepIn K (.ref f_sure_web) = true)
    (a_sure_place : PySem.W.nsIn K mainGlobals "sure_place" = some (some (.ref f_sure_place)))
    (l_sure_place : K.lookup f_sure_place = some ⟨oc_sure_place, od_sure_place, .func (PySem.W.fnOf "sure_place" "sure_place" (defArgs s_sure_place) (defBody s_sure_place) (defScope s_sure_place) .none kV_sure_place dc_sure_place pm_sure_place an_sure_place cd_sure_place ct_sure_place), sl_sure_place⟩)
    (c_sure_place : PySem.W.codeIn K cd_sure_place "sure_place" = true)
    (p_sure_place : PySem.W.keepIn K (.ref f_sure_place) = true)
    (a_out_of : PySem.W.nsIn K mainGlobals "out_of" = some (some (.ref f_out_of)))
    (l_out_of : K.lookup f_out_of = some ⟨oc_out_of, od_out_of, .func (PySem.W.fnOf "out_of" "out_of" (defArgs s_out_of) (defBody s_out_of) (defScope s_out_of) .none kV_out_of dc_out_of pm_out_of an_out_of cd_out_of ct_out_of), sl_out_of⟩)
    (c_out_of : PySem.W.codeIn K cd_out_of "out_of" = true)
    (p_out_of : PySem.W.keepIn K (.ref f_out_of) = true)
    (a_are_roads : PySem.W.nsIn K mainGlobals "are_roads" = some (some (.ref f_are_roads)))
    (l_are_roads : K.lookup f_are_roads = some ⟨oc_are_roads, od_are_roads, .func (PySem.W.fnOf "are_roads" "are_roads" (defArgs s_are_roads) (defBody s_are_roads) (defScope s_are_roads) .none kV_are_roads dc_are_roads pm_are_roads an_are_roads cd_are_roads ct_are_roads), sl_are_roads⟩)
    (c_are_roads : PySem.W.codeIn K cd_are_roads "are_roads" = true)
    (p_are_roads : PySem.W.keepIn K (.ref f_are_roads) = true)
    (a_reached_in : PySem.W.nsIn K mainGlobals "reached_in" = some (some (.ref f_reached_in)))
    (l_reached_in : K.lookup f_reached_in = some ⟨oc_reached_in, od_reached_in, .func (PySem.W.fnOf "reached_in" "reached_in" (defArgs s_reached_in) (defBody s_reached_in) (defScope s_reached_in) .none kV_reached_in dc_reached_in pm_reached_in an_reached_in cd_reached_in ct_reached_in), sl_reached_in⟩)
    (c_reached_in : PySem.W.codeIn K cd_reached_in "reached_in" = true)
    (p_reached_in : PySem.W.keepIn K (.ref f_reached_in) = true)
    (a_is_round_in : PySem.W.nsIn K mainGlobals "is_round_in" = some (some (.ref f_is_round_in)))
    (l_is_round_in : K.lookup f_is_round_in = some ⟨oc_is_round_in, od_is_round_in, .func (PySem.W.fnOf "is_round_in" "is_round_in" (defArgs s_is_round_in) (defBody s_is_round_in) (defScope s_is_round_in) .none kV_is_round_in dc_is_round_in pm_is_round_in an_is_round_in cd_is_round_in ct_is_round_in), sl_is_round_in⟩)
    (c_is_round_in : PySem.W.codeIn K cd_is_round_in "is_round_in" = true)
    (p_is_round_in : PySem.W.keepIn K (.ref f_is_round_in) = true)
    (a_rounds_in : PySem.W.nsIn K mainGlobals "rounds_in" = some (some (.ref f_rounds_in)))
    (l_rounds_in : K.lookup f_rounds_in = some ⟨oc_rounds_in, od_rounds_in, .func (PySem.W.fnOf "rounds_in" "rounds_in" (defArgs s_rounds_in) (defBody s_rounds_in) (defScope s_rounds_in) .none kV_rounds_in dc_rounds_in pm_rounds_in an_rounds_in cd_rounds_in ct_rounds_in), sl_rounds_in⟩)
    (c_rounds_in : PySem.W.codeIn K cd_rounds_in "rounds_in" = true)
    (p_rounds_in : PySem.W.keepIn K (.ref f_rounds_in) = true)
    (a_is_round : PySem.W.nsIn K mainGlobals "is_round" = some (some (.ref f_is_round)))
    (l_is_round : K.lookup f_is_round = some ⟨oc_is_round, od_is_round, .func (PySem.W.fnOf "is_round" "is_round" (defArgs s_is_round) (defBody s_is_round) (defScope s_is_round) .none kV_is_round dc_is_round pm_is_round an_is_round cd_is_round ct_is_round), sl_is_round⟩)
    (c_is_round : PySem.W.codeIn K cd_is_round "is_round" = true)
    (p_is_round : PySem.W.keepIn K (.ref f_is_round) = true)
    (a_rounds : PySem.W.nsIn K mainGlobals "rounds" = some (some (.ref f_rounds)))
    (l_rounds : K.lookup f_rounds = some ⟨oc_rounds, od_rounds, .func (PySem.W.fnOf "rounds" "rounds" (defArgs s_rounds) (defBody s_rounds) (defScope s_rounds) .none kV_rounds dc_rounds pm_rounds an_rounds cd_rounds ct_rounds), sl_rounds⟩)
    (c_rounds : PySem.W.codeIn K cd_rounds "rounds" = true)
    (p_rounds : PySem.W.keepIn K (.ref f_rounds) = true)
    (a_exits_in : PySem.W.nsIn K mainGlobals "exits_in" = some (some (.ref f_exits_in)))
    (l_exits_in : K.lookup f_exits_in = some ⟨oc_exits_in, od_exits_in, .func (PySem.W.fnOf "exits_in" "exits_in" (defArgs s_exits_in) (defBody s_exits_in) (defScope s_exits_in) .none kV_exits_in dc_exits_in pm_exits_in an_exits_in cd_exits_in ct_exits_in), sl_exits_in⟩)
    (c_exits_in : PySem.W.codeIn K cd_exits_in "exits_in" = true)
    (p_exits_in : PySem.W.keepIn K (.ref f_exits_in) = true)
    (a_exits : PySem.W.nsIn K mainGlobals "exits" = some (some (.ref f_exits)))
    (l_exits : K.lookup f_exits = some ⟨oc_exits, od_exits, .func (PySem.W.fnOf "exits" "exits" (defArgs s_exits) (defBody s_exits) (defScope s_exits) .none kV_exits dc_exits pm_exits an_exits cd_exits ct_exits), sl_exits⟩)
    (c_exits : PySem.W.codeIn K cd_exits "exits" = true)
    (p_exits : PySem.W.keepIn K (.ref f_exits) = true)
    (a_lone_in : PySem.W.nsIn K mainGlobals "lone_in" = some (some (.ref f_lone_in)))
    (l_lone_in : K.lookup f_lone_in = some ⟨oc_lone_in, od_lone_in, .func (PySem.W.fnOf "lone_in" "lone_in" (defArgs s_lone_in) (defBody s_lone_in) (defScope s_lone_in) .none kV_lone_in dc_lone_in pm_lone_in an_lone_in cd_lone_in ct_lone_in), sl_lone_in⟩)
    (c_lone_in : PySem.W.codeIn K cd_lone_in "lone_in" = true)
    (p_lone_in : PySem.W.keepIn K (.ref f_lone_in) = true)
    (a_lone_rounds : PySem.W.nsIn K mainGlobals "lone_rounds" = some (some (.ref f_lone_rounds)))
    (l_lone_rounds : K.lookup f_lone_rounds = some ⟨oc_lone_rounds, od_lone_rounds, .func (PySem.W.fnOf "lone_rounds" "lone_rounds" (defArgs s_lone_rounds) (defBody s_lone_rounds) (defScope s_lone_rounds) .none kV_lone_rounds dc_lone_rounds pm_lone_rounds an_lone_rounds cd_lone_rounds ct_lone_rounds), sl_lone_rounds⟩)
    (c_lone_rounds : PySem.W.codeIn K cd_lone_rounds "lone_rounds" = true)
    (p_lone_rounds : PySem.W.keepIn K (.ref f_lone_rounds) = true)
    (a_on_round : PySem.W.nsIn K mainGlobals "on_round" = some (some (.ref f_on_round)))
    (l_on_round : K.lookup f_on_round = some ⟨oc_on_round, od_on_round, .func (PySem.W.fnOf "on_round" "on_round" (defArgs s_on_round) (defBody s_on_round) (defScope s_on_round) .none kV_on_round dc_on_round pm_on_round an_on_round cd_on_round ct_on_round), sl_on_round⟩)
    (c_on_round : PySem.W.codeIn K cd_on_round "on_round" = true)
    (p_on_round : PySem.W.keepIn K (.ref f_on_round) = true)
    (a_leads_to_round : PySem.W.nsIn K mainGlobals "leads_to_round" = some (some (.ref f_leads_to_round)))
    (l_leads_to_round : K.lookup f_leads_to_round = some ⟨oc_leads_to_round, od_leads_to_round, .func (PySem.W.fnOf "leads_to_round" "leads_to_round" (defArgs s_leads_to_round) (defBody s_leads_to_round) (defScope s_leads_to_round) .none kV_leads_to_round dc_leads_to_round pm_leads_to_round an_leads_to_round cd_leads_to_round ct_leads_to_round), sl_leads_to_round⟩)
    (c_leads_to_round : PySem.W.codeIn K cd_leads_to_round "leads_to_round" = true)
    (p_leads_to_round : PySem.W.keepIn K (.ref f_leads_to_round) = true)
    (a_has_rounds_in : PySem.W.nsIn K mainGlobals "has_rounds_in" = some (some (.ref f_has_rounds_in)))
    (l_has_rounds_in : K.lookup f_has_rounds_in = some ⟨oc_has_rounds_in, od_has_rounds_in, .func (PySem.W.fnOf "has_rounds_in" "has_rounds_in" (defArgs s_has_rounds_in) (defBody s_has_rounds_in) (defScope s_has_rounds_in) .none kV_has_rounds_in dc_has_rounds_in pm_has_rounds_in an_has_rounds_in cd_has_rounds_in ct_has_rounds_in), sl_has_rounds_in⟩)
    (c_has_rounds_in : PySem.W.codeIn K cd_has_rounds_in "has_rounds_in" = true)
    (p_has_rounds_in : PySem.W.keepIn K (.ref f_has_rounds_in) = true)
    (a_has_rounds : PySem.W.nsIn K mainGlobals "has_rounds" = some (some (.ref f_has_rounds)))
    (l_has_rounds : K.lookup f_has_rounds = some ⟨oc_has_rounds, od_has_rounds, .func (PySem.W.fnOf "has_rounds" "has_rounds" (defArgs s_has_rounds) (defBody s_has_rounds) (defScope s_has_rounds) .none kV_has_rounds dc_has_rounds pm_has_rounds an_has_rounds cd_has_rounds ct_has_rounds), sl_has_rounds⟩)
    (c_has_rounds : PySem.W.codeIn K cd_has_rounds "has_rounds" = true)
    (p_has_rounds : PySem.W.keepIn K (.ref f_has_rounds) = true)
    (a__law_box : PySem.W.nsIn K mainGlobals "_law_box" = some (some (.ref f__law_box)))
    (l__law_box : K.lookup f__law_box = some ⟨oc__law_box, od__law_box, .func (PySem.W.fnOf "_law_box" "_law_box" (defArgs s__law_box) (defBody s__law_box) (defScope s__law_box) .none kV__law_box dc__law_box pm__law_box an__law_box cd__law_box ct__law_box), sl__law_box⟩)
    (c__law_box : PySem.W.codeIn K cd__law_box "_law_box" = true)
    (p__law_box : PySem.W.keepIn K (.ref f__law_box) = true)
    (a__law_take : PySem.W.nsIn K mainGlobals "_law_take" = some (some (.ref f__law_take)))
    (l__law_take : K.lookup f__law_take = some ⟨oc__law_take, od__law_take, .func (PySem.W.fnOf "_law_take" "_law_take" (defArgs s__law_take) (defBody s__law_take) (defScope s__law_take) .none kV__law_take dc__law_take pm__law_take an__law_take cd__law_take ct__law_take), sl__law_take⟩)
    (c__law_take : PySem.W.codeIn K cd__law_take "_law_take" = true)
    (p__law_take : PySem.W.keepIn K (.ref f__law_take) = true)
    (a__law_cells : PySem.W.nsIn K mainGlobals "_law_cells" = some (some (.ref f__law_cells)))
    (l__law_cells : K.lookup f__law_cells = some ⟨oc__law_cells, od__law_cells, .func (PySem.W.fnOf "_law_cells" "_law_cells" (defArgs s__law_cells) (defBody s__law_cells) (defScope s__law_cells) .none kV__law_cells dc__law_cells pm__law_cells an__law_cells cd__law_cells ct__law_cells), sl__law_cells⟩)
    (c__law_cells : PySem.W.codeIn K cd__law_cells "_law_cells" = true)
    (p__law_cells : PySem.W.keepIn K (.ref f__law_cells) = true)
    (a__law_of : PySem.W.nsIn K mainGlobals "_law_of" = some (some (.ref f__law_of)))
    (l__law_of : K.lookup f__law_of = some ⟨oc__law_of, od__law_of, .func (PySem.W.fnOf "_law_of" "_law_of" (defArgs s__law_of) (defBody s__law_of) (defScope s__law_of) .none kV__law_of dc__law_of pm__law_of an__law_of cd__law_of ct__law_of), sl__law_of⟩)
    (c__law_of : PySem.W.codeIn K cd__law_of "_law_of" = true)
    (p__law_of : PySem.W.keepIn K (.ref f__law_of) = true)
    (a__law_mixed : PySem.W.nsIn K mainGlobals "_law_mixed" = some (some (.ref f__law_mixed)))
    (l__law_mixed : K.lookup f__law_mixed = some ⟨oc__law_mixed, od__law_mixed, .func (PySem.W.fnOf "_law_mixed" "_law_mixed" (defArgs s__law_mixed) (defBody s__law_mixed) (defScope s__law_mixed) .none kV__law_mixed dc__law_mixed pm__law_mixed an__law_mixed cd__law_mixed ct__law_mixed), sl__law_mixed⟩)
    (c__law_mixed : PySem.W.codeIn K cd__law_mixed "_law_mixed" = true)
    (p__law_mixed : PySem.W.keepIn K (.ref f__law_mixed) = true)
    (a__law_same : PySem.W.nsIn K mainGlobals "_law_same" = some (some (.ref f__law_same)))
    (l__law_same : K.lookup f__law_same = some ⟨oc__law_same, od__law_same, .func (PySem.W.fnOf "_law_same" "_law_same" (defArgs s__law_same) (defBody s__law_same) (defScope s__law_same) .none kV__law_same dc__law_same pm__law_same an__law_same cd__law_same ct__law_same), sl__law_same⟩)
    (c__law_same : PySem.W.codeIn K cd__law_same "_law_same" = true)
    (p__law_same : PySem.W.keepIn K (.ref f__law_same) = true)
    (a__law_web : PySem.W.nsIn K mainGlobals "_law_web" = some (some (.ref f__law_web)))
    (l__law_web : K.lookup f__law_web = some ⟨oc__law_web, od__law_web, .func (PySem.W.fnOf "_law_web" "_law_web" (defArgs s__law_web) (defBody s__law_web) (defScope s__law_web) .none kV__law_web dc__law_web pm__law_web an__law_web cd__law_web ct__law_web), sl__law_web⟩)
    (c__law_web : PySem.W.codeIn K cd__law_web "_law_web" = true)
    (p__law_web : PySem.W.keepIn K (.ref f__law_web) = true)
    (a__law_some_web : PySem.W.nsIn K mainGlobals "_law_some_web" = some (some (.ref f__law_some_web)))
    (l__law_some_web : K.lookup f__law_some_web = some ⟨oc__law_some_web, od__law_some_web, .func (PySem.W.fnOf "_law_some_web" "_law_some_web" (defArgs s__law_some_web) (defBody s__law_some_web) (defScope s__law_some_web) .none kV__law_some_web dc__law_some_web pm__law_some_web an__law_some_web cd__law_some_web ct__law_some_web), sl__law_some_web⟩)
    (c__law_some_web : PySem.W.codeIn K cd__law_some_web "_law_some_web" = true)
    (p__law_some_web : PySem.W.keepIn K (.ref f__law_some_web) = true)
    (a__law_outs : PySem.W.nsIn K mainGlobals "_law_outs" = some (some (.ref f__law_outs)))
    (l__law_outs : K.lookup f__law_outs = some ⟨oc__law_outs, od__law_outs, .func (PySem.W.fnOf "_law_outs" "_law_outs" (defArgs s__law_outs) (defBody s__law_outs) (defScope s__law_outs) .none kV__law_outs dc__law_outs pm__law_outs an__law_outs cd__law_outs ct__law_outs), sl__law_outs⟩)
    (c__law_outs : PySem.W.codeIn K cd__law_outs "_law_outs" = true)
    (p__law_outs : PySem.W.keepIn K (.ref f__law_outs) = true)
    (a__law_lead : PySem.W.nsIn K mainGlobals "_law_lead" = some (some (.ref f__law_lead)))
    (l__law_lead : K.lookup f__law_lead = some ⟨oc__law_lead, od__law_lead, .func (PySem.W.fnOf "_law_lead" "_law_lead" (defArgs s__law_lead) (defBody s__law_lead) (defScope s__law_lead) .none kV__law_lead dc__law_lead pm__law_lead an__law_lead cd__law_lead ct__law_lead), sl__law_lead⟩)
    (c__law_lead : PySem.W.codeIn K cd__law_lead "_law_lead" = true)
    (p__law_lead : PySem.W.keepIn K (.ref f__law_lead) = true)
    (a__law_walk : PySem.W.nsIn K mainGlobals "_law_walk" = some (some (.ref f__law_walk)))
    (l__law_walk : K.lookup f__law_walk = some ⟨oc__law_walk, od__law_walk, .func (PySem.W.fnOf "_law_walk" "_law_walk" (defArgs s__law_walk) (defBody s__law_walk) (defScope s__law_walk) .none kV__law_walk dc__law_walk pm__law_walk an__law_walk cd__law_walk ct__law_walk), sl__law_walk⟩)
    (c__law_walk : PySem.W.codeIn K cd__law_walk "_law_walk" = true)
    (p__law_walk : PySem.W.keepIn K (.ref f__law_walk) = true)
    (a__law_walks : PySem.W.nsIn K mainGlobals "_law_walks" = some (some (.ref f__law_walks)))
    (l__law_walks : K.lookup f__law_walks = some ⟨oc__law_walks, od__law_walks, .func (PySem.W.fnOf "_law_walks" "_law_walks" (defArgs s__law_walks) (defBody s__law_walks) (defScope s__law_walks) .none kV__law_walks dc__law_walks pm__law_walks an__law_walks cd__law_walks ct__law_walks), sl__law_walks⟩)
    (c__law_walks : PySem.W.codeIn K cd__law_walks "_law_walks" = true)
    (p__law_walks : PySem.W.keepIn K (.ref f__law_walks) = true)
    (a__law_reached : PySem.W.nsIn K mainGlobals "_law_reached" = some (some (.ref f__law_reached)))
    (l__law_reached : K.lookup f__law_reached = some ⟨oc__law_reached, od__law_reached, .func (PySem.W.fnOf "_law_reached" "_law_reached" (defArgs s__law_reached) (defBody s__law_reached) (defScope s__law_reached) .none kV__law_reached dc__law_reached pm__law_reached an__law_reached cd__law_reached ct__law_reached), sl__law_reached⟩)
    (c__law_reached : PySem.W.codeIn K cd__law_reached "_law_reached" = true)
    (p__law_reached : PySem.W.keepIn K (.ref f__law_reached) = true)
    (a__law_has_rounds : PySem.W.nsIn K mainGlobals "_law_has_rounds" = some (some (.ref f__law_has_rounds)))
    (l__law_has_rounds : K.lookup f__law_has_rounds = some ⟨oc__law_has_rounds, od__law_has_rounds, .func (PySem.W.fnOf "_law_has_rounds" "_law_has_rounds" (defArgs s__law_has_rounds) (defBody s__law_has_rounds) (defScope s__law_has_rounds) .none kV__law_has_rounds dc__law_has_rounds pm__law_has_rounds an__law_has_rounds cd__law_has_rounds ct__law_has_rounds), sl__law_has_rounds⟩)
    (c__law_has_rounds : PySem.W.codeIn K cd__law_has_rounds "_law_has_rounds" = true)
    (p__law_has_rounds : PySem.W.keepIn K (.ref f__law_has_rounds) = true)
    (a__law_is_round : PySem.W.nsIn K mainGlobals "_law_is_round" = some (some (.ref f__law_is_round)))
    (l__law_is_round : K.lookup f__law_is_round = some ⟨oc__law_is_round, od__law_is_round, .func (PySem.W.fnOf "_law_is_round" "_law_is_round" (defArgs s__law_is_round) (defBody s__law_is_round) (defScope s__law_is_round) .none kV__law_is_round dc__law_is_round pm__law_is_round an__law_is_round cd__law_is_round ct__law_is_round), sl__law_is_round⟩)
    (c__law_is_round : PySem.W.codeIn K cd__law_is_round "_law_is_round" = true)
    (p__law_is_round : PySem.W.keepIn K (.ref f__law_is_round) = true)
    (a__law_right : PySem.W.nsIn K mainGlobals "_law_right" = some (some (.ref f__law_right)))
    (l__law_right : K.lookup f__law_right = some ⟨oc__law_right, od__law_right, .func (PySem.W.fnOf "_law_right" "_law_right" (defArgs s__law_right) (defBody s__law_right) (defScope s__law_right) .none kV__law_right dc__law_right pm__law_right an__law_right cd__law_right ct__law_right), sl__law_right⟩)
    (c__law_right : PySem.W.codeIn K cd__law_right "_law_right" = true)
    (p__law_right : PySem.W.keepIn K (.ref f__law_right) = true)
    (a_law : PySem.W.nsIn K mainGlobals "law" = some (some (.ref f_law)))
    (l_law : K.lookup f_law = some ⟨oc_law, od_law, .func (PySem.W.fnOf "law" "law" (defArgs s_law) (defBody s_law) (defScope s_law) .none kV_law dc_law pm_law an_law cd_law ct_law), sl_law⟩)
    (c_law : PySem.W.codeIn K cd_law "law" = true)
    (p_law : PySem.W.keepIn K (.ref f_law) = true)
    : ∃ fd : FuncData, (∀ (s : Shared) (v : Value), BindsTo s fd ⟨[v], []⟩ [("script", v)]) ∧ ∀ base : Heap, K.In base → base.Ns mainGlobals mg → FnOk l.prog w K mg base (L2.CX l.prog w) 30 fa fd ["script"] (spLaw K) := by
  have T : Wd K mg := {
    n_abs := PySem.W.mg_none_of X G z_abs,
    n_all := PySem.W.mg_none_of X G z_all,
    n_any := PySem.W.mg_none_of X G z_any,
    n_bool := PySem.W.mg_none_of X G z_bool,
    n_enumerate := PySem.W.mg_none_of X G z_enumerate,
    n_int := PySem.W.mg_none_of X G z_int,
    n_isinstance := PySem.W.mg_none_of X G z_isinstance,
    n_len := PySem.W.mg_none_of X G z_len,
    n_list := PySem.W.mg_none_of X G z_list,
    n_min := PySem.W.mg_none_of X G z_min,
    n_range := PySem.W.mg_none_of X G z_range,
    n_set := PySem.W.mg_none_of X G z_set,
    n_sorted := PySem.W.mg_none_of X G z_sorted,
    n_str := PySem.W.mg_none_of X G z_str,
    n_tuple := PySem.W.mg_none_of X G z_tuple,
    n_zip := PySem.W.mg_none_of X G z_zip,
    c_MOST_PLACES := ⟨_, PySem.W.mg_of X G k_MOST_PLACES⟩,
    c_MOST_ROADS := ⟨_, PySem.W.mg_of X G k_MOST_ROADS⟩,
    c_MOST_ROUNDS := ⟨_, PySem.W.mg_of X G k_MOST_ROUNDS⟩,
    x_TooMany := ⟨⟨e_TooMany, [.type "ValueError", .type "Exception", .type "BaseException", .type "object"], "ValueError", "ValueError.__new__", "ValueError.__init__", PySem.F.excBase_ValueError, xq_TooMany, PySem.W.mg_of X G xa_TooMany, xk_TooMany, xs_TooMany, xt_TooMany⟩⟩,
    x_Unfit := ⟨⟨e_Unfit, [.type "ValueError", .type "Exception", .type "BaseException", .type "object"], "ValueError", "ValueError.__new__", "ValueError.__init__", PySem.F.excBase_ValueError, xq_Unfit, PySem.W.mg_of X G xa_Unfit, xk_Unfit, xs_Unfit, xt_Unfit⟩⟩,
    d_is_number := ⟨⟨f_is_number, _, PySem.W.mg_of X G a_is_number, fun_mk (st := s_is_number) l_is_number c_is_number p_is_number, (fun_mk (st := s_is_number) l_is_number c_is_number p_is_number).binds (ps := ["thing"]) fun _ _ _ _ _ _ us hl => match us, hl with | [_], _ => rfl⟩⟩,
    d_is_within := ⟨⟨f_is_within, _, PySem.W.mg_of X G a_is_within, fun_mk (st := s_is_within) l_is_within c_is_within p_is_within, (fun_mk (st := s_is_within) l_is_within c_is_within p_is_within).binds (ps := ["thing", "least", "most"]) fun _ _ _ _ _ _ us hl => match us, hl with | [_, _, _], _ => rfl⟩⟩,
    d_sure_within := ⟨⟨f_sure_within, _, PySem.W.mg_of X G a_sure_within, fun_mk (st := s_sure_within) l_sure_within c_sure_within p_sure_within, (fun_mk (st := s_sure_within) l_sure_within c_sure_within p_sure_within).binds (ps := ["value", "least", "most"]) fun _ _ _ _ _ _ us hl => match us, hl with | [_, _, _], _ => rfl⟩⟩,
    d_is_long := ⟨⟨f_is_long, _, PySem.W.mg_of X G a_is_long, fun_mk (st := s_is_long) l_is_long c_is_long p_is_long, (fun_mk (st := s_is_long) l_is_long c_is_long p_is_long).binds (ps := ["thing", "many"]) fun _ _ _ _ _ _ us hl => match us, hl with | [_, _], _ => rfl⟩⟩,
    d_tupled := ⟨⟨f_tupled, _, PySem.W.mg_of X G a_tupled, fun_mk (st := s_tupled) l_tupled c_tupled p_tupled, (fun_mk (st := s_tupled) l_tupled c_tupled p_tupled).binds (ps := ["value"]) fun _ _ _ _ _ _ us hl => match us, hl with | [_], _ => rfl⟩⟩,
    d_is_web := ⟨⟨f_is_web, _, PySem.W.mg_of X G a_is_web, fun_mk (st := s_is_web) l_is_web c_is_web p_is_web, (fun_mk (st := s_is_web) l_is_web c_is_web p_is_web).binds (ps := ["thing"]) fun _ _ _ _ _ _ us hl => match us, hl with | [_], _ => rfl⟩⟩,
    d_sure_web := ⟨⟨f_sure_web, _, PySem.W.mg_of X G a_sure_web, fun_mk (st := s_sure_web) l_sure_web c_sure_web p_sure_web, (fun_mk (st := s_sure_web) l_sure_web c_sure_web p_sure_web).binds (ps := ["value"]) fun _ _ _ _ _ _ us hl => match us, hl with | [_], _ => rfl⟩⟩,
    d_sure_place := ⟨⟨f_sure_place, _, PySem.W.mg_of X G a_sure_place, fun_mk (st := s_sure_place) l_sure_place c_sure_place p_sure_place, (fun_mk (st := s_sure_place) l_sure_place c_sure_place p_sure_place).binds (ps := ["web", "value"]) fun _ _ _ _ _ _ us hl => match us, hl with | [_, _], _ => rfl⟩⟩,
    d_out_of := ⟨⟨f_out_of, _, PySem.W.mg_of X G a_out_of, fun_mk (st := s_out_of) l_out_of c_out_of p_out_of, (fun_mk (st := s_out_of) l_out_of c_out_of p_out_of).binds (ps := ["web", "place"]) fun _ _ _ _ _ _ us hl => match us, hl with | [_, _], _ => rfl⟩⟩,
    d_are_roads := ⟨⟨f_are_roads, _, PySem.W.mg_of X G a_are_roads, fun_mk (st := s_are_roads) l_are_roads c_are_roads p_are_roads, (fun_mk (st := s_are_roads) l_are_roads c_are_roads p_are_roads).binds (ps := ["web", "thing"]) fun _ _ _ _ _ _ us hl => match us, hl with | [_, _], _ => rfl⟩⟩,
    d_reached_in := ⟨⟨f_reached_in, _, PySem.W.mg_of X G a_reached_in, fun_mk (st := s_reached_in) l_reached_in c_reached_in p_reached_in, (fun_mk (st := s_reached_in) l_reached_in c_reached_in p_reached_in).binds (ps := ["web", "place"]) fun _ _ _ _ _ _ us hl => match us, hl with | [_, _], _ => rfl⟩⟩,
    d_is_round_in := ⟨⟨f_is_round_in, _, PySem.W.mg_of X G a_is_round_in, fun_mk (st := s_is_round_in) l_is_round_in c_is_round_in p_is_round_in, (fun_mk (st := s_is_round_in) l_is_round_in c_is_round_in p_is_round_in).binds (ps := ["web", "thing"]) fun _ _ _ _ _ _ us hl => match us, hl with | [_, _], _ => rfl⟩⟩,
    d_rounds_in := ⟨⟨f_rounds_in, _, PySem.W.mg_of X G a_rounds_in, fun_mk (st := s_rounds_in) l_rounds_in c_rounds_in p_rounds_in, (fun_mk (st := s_rounds_in) l_rounds_in c_rounds_in p_rounds_in).binds (ps := ["web"]) fun _ _ _ _ _ _ us hl => match us, hl with | [_], _ => rfl⟩⟩,
    d_is_round := ⟨⟨f_is_round, _, PySem.W.mg_of X G a_is_round, fun_mk (st := s_is_round) l_is_round c_is_round p_is_round, (fun_mk (st := s_is_round) l_is_round c_is_round p_is_round).binds (ps := ["web", "thing"]) fun _ _ _ _ _ _ us hl => match us, hl with | [_, _], _ => rfl⟩⟩,
    d_rounds := ⟨⟨f_rounds, _, PySem.W.mg_of X G a_rounds, fun_mk (st := s_rounds) l_rounds c_rounds p_rounds, (fun_mk (st := s_rounds) l_rounds c_rounds p_rounds).binds (ps := ["web"]) fun _ _ _ _ _ _ us hl => match us, hl with | [_], _ => rfl⟩⟩,
    d_exits_in := ⟨⟨f_exits_in, _, PySem.W.mg_of X G a_exits_in, fun_mk (st := s_exits_in) l_exits_in c_exits_in p_exits_in, (fun_mk (st := s_exits_in) l_exits_in c_exits_in p_exits_in).binds (ps := ["web", "own"]) fun _ _ _ _ _ _ us hl => match us, hl with | [_, _], _ => rfl⟩⟩,
    d_exits := ⟨⟨f_exits, _, PySem.W.mg_of X G a_exits, fun_mk (st := s_exits) l_exits c_exits p_exits, (fun_mk (st := s_exits) l_exits c_exits p_exits).binds (ps := ["web", "roads"]) fun _ _ _ _ _ _ us hl => match us, hl with | [_, _], _ => rfl⟩⟩,
    d_lone_in := ⟨⟨f_lone_in, _, PySem.W.mg_of X G a_lone_in, fun_mk (st := s_lone_in) l_lone_in c_lone_in p_lone_in, (fun_mk (st := s_lone_in) l_lone_in c_lone_in p_lone_in).binds (ps := ["web"]) fun _ _ _ _ _ _ us hl => match us, hl with | [_], _ => rfl⟩⟩,
    d_lone_rounds := ⟨⟨f_lone_rounds, _, PySem.W.mg_of X G a_lone_rounds, fun_mk (st := s_lone_rounds) l_lone_rounds c_lone_rounds p_lone_rounds, (fun_mk (st := s_lone_rounds) l_lone_rounds c_lone_rounds p_lone_rounds).binds (ps := ["web"]) fun _ _ _ _ _ _ us hl => match us, hl with | [_], _ => rfl⟩⟩,
    d_on_round := ⟨⟨f_on_round, _, PySem.W.mg_of X G a_on_round, fun_mk (st := s_on_round) l_on_round c_on_round p_on_round, (fun_mk (st := s_on_round) l_on_round c_on_round p_on_round).binds (ps := ["web", "place"]) fun _ _ _ _ _ _ us hl => match us, hl with | [_, _], _ => rfl⟩⟩,
    d_leads_to_round := ⟨⟨f_leads_to_round, _, PySem.W.mg_of X G a_leads_to_round, fun_mk (st := s_leads_to_round) l_leads_to_round c_leads_to_round p_leads_to_round, (fun_mk (st := s_leads_to_round) l_leads_to_round c_leads_to_round p_leads_to_round).binds (ps := ["web", "place"]) fun _ _ _ _ _ _ us hl => match us, hl with | [_, _], _ => rfl⟩⟩,
    d_has_rounds_in := ⟨⟨f_has_rounds_in, _, PySem.W.mg_of X G a_has_rounds_in, fun_mk (st := s_has_rounds_in) l_has_rounds_in c_has_rounds_in p_has_rounds_in, (fun_mk (st := s_has_rounds_in) l_has_rounds_in c_has_rounds_in p_has_rounds_in).binds (ps := ["web"]) fun _ _ _ _ _ _ us hl => match us, hl with | [_], _ => rfl⟩⟩,
    d_has_rounds := ⟨⟨f_has_rounds, _, PySem.W.mg_of X G a_has_rounds, fun_mk (st := s_has_rounds) l_has_rounds c_has_rounds p_has_rounds, (fun_mk (st := s_has_rounds) l_has_rounds c_has_rounds p_has_rounds).binds (ps := ["web"]) fun _ _ _ _ _ _ us hl => match us, hl with | [_], _ => rfl⟩⟩,
    d__law_box := ⟨⟨f__law_box, _, PySem.W.mg_of X G a__law_box, fun_mk (st := s__law_box) l__law_box c__law_box p__law_box, (fun_mk (st := s__law_box) l__law_box c__law_box p__law_box).binds (ps := ["script", "k"]) fun _ _ _ _ _ _ us hl => match us, hl with | [_, _], _ => rfl⟩⟩,
    d__law_take := ⟨⟨f__law_take, _, PySem.W.mg_of X G a__law_take, fun_mk (st := s__law_take) l__law_take c__law_take p__law_take, (fun_mk (st := s__law_take) l__law_take c__law_take p__law_take).binds (ps := ["tin", "below_so"]) fun _ _ _ _ _ _ us hl => match us, hl with | [_, _], _ => rfl⟩⟩,
    d__law_cells := ⟨⟨f__law_cells, _, PySem.W.mg_of X G a__law_cells, fun_mk (st := s__law_cells) l__law_cells c__law_cells p__law_cells, (fun_mk (st := s__law_cells) l__law_cells c__law_cells p__law_cells).binds (ps := ["script", "most_so"]) fun _ _ _ _ _ _ us hl => match us, hl with | [_, _], _ => rfl⟩⟩,
    d__law_of := ⟨⟨f__law_of, _, PySem.W.mg_of X G a__law_of, fun_mk (st := s__law_of) l__law_of c__law_of p__law_of, (fun_mk (st := s__law_of) l__law_of c__law_of p__law_of).binds (ps := ["tin", "goods_so"]) fun _ _ _ _ _ _ us hl => match us, hl with | [_, _], _ => rfl⟩⟩,
    d__law_mixed := ⟨⟨f__law_mixed, _, PySem.W.mg_of X G a__law_mixed, fun_mk (st := s__law_mixed) l__law_mixed c__law_mixed p__law_mixed, (fun_mk (st := s__law_mixed) l__law_mixed c__law_mixed p__law_mixed).binds (ps := ["tin", "matter"]) fun _ _ _ _ _ _ us hl => match us, hl with | [_, _], _ => rfl⟩⟩,
    d__law_same := ⟨⟨f__law_same, _, PySem.W.mg_of X G a__law_same, fun_mk (st := s__law_same) l__law_same c__law_same p__law_same, (fun_mk (st := s__law_same) l__law_same c__law_same p__law_same).binds (ps := ["got", "due"]) fun _ _ _ _ _ _ us hl => match us, hl with | [_, _], _ => rfl⟩⟩,
    d__law_web := ⟨⟨f__law_web, _, PySem.W.mg_of X G a__law_web, fun_mk (st := s__law_web) l__law_web c__law_web p__law_web, (fun_mk (st := s__law_web) l__law_web c__law_web p__law_web).binds (ps := ["tin", "places_so", "roads_so"]) fun _ _ _ _ _ _ us hl => match us, hl with | [_, _, _], _ => rfl⟩⟩,
    d__law_some_web := ⟨⟨f__law_some_web, _, PySem.W.mg_of X G a__law_some_web, fun_mk (st := s__law_some_web) l__law_some_web c__law_some_web p__law_some_web, (fun_mk (st := s__law_some_web) l__law_some_web c__law_some_web p__law_some_web).binds (ps := ["tin"]) fun _ _ _ _ _ _ us hl => match us, hl with | [_], _ => rfl⟩⟩,
    d__law_outs := ⟨⟨f__law_outs, _, PySem.W.mg_of X G a__law_outs, fun_mk (st := s__law_outs) l__law_outs c__law_outs p__law_outs, (fun_mk (st := s__law_outs) l__law_outs c__law_outs p__law_outs).binds (ps := ["web_so", "place_so"]) fun _ _ _ _ _ _ us hl => match us, hl with | [_, _], _ => rfl⟩⟩,
    d__law_lead := ⟨⟨f__law_lead, _, PySem.W.mg_of X G a__law_lead, fun_mk (st := s__law_lead) l__law_lead c__law_lead p__law_lead, (fun_mk (st := s__law_lead) l__law_lead c__law_lead p__law_lead).binds (ps := ["web_so", "place_so", "roads_so"]) fun _ _ _ _ _ _ us hl => match us, hl with | [_, _, _], _ => rfl⟩⟩,
    d__law_walk := ⟨⟨f__law_walk, _, PySem.W.mg_of X G a__law_walk, fun_mk (st := s__law_walk) l__law_walk c__law_walk p__law_walk, (fun_mk (st := s__law_walk) l__law_walk c__law_walk p__law_walk).binds (ps := ["tin", "web_so", "place_so", "most_so"]) fun _ _ _ _ _ _ us hl => match us, hl with | [_, _, _, _], _ => rfl⟩⟩,
    d__law_walks := ⟨⟨f__law_walks, _, PySem.W.mg_of X G a__law_walks, fun_mk (st := s__law_walks) l__law_walks c__law_walks p__law_walks, (fun_mk (st := s__law_walks) l__law_walks c__law_walks p__law_walks).binds (ps := ["web_so", "place_so", "long_so"]) fun _ _ _ _ _ _ us hl => match us, hl with | [_, _, _], _ => rfl⟩⟩,
    d__law_reached := ⟨⟨f__law_reached, _, PySem.W.mg_of X G a__law_reached, fun_mk (st := s__law_reached) l__law_reached c__law_reached p__law_reached, (fun_mk (st := s__law_reached) l__law_reached c__law_reached p__law_reached).binds (ps := ["web_so", "place_so"]) fun _ _ _ _ _ _ us hl => match us, hl with | [_, _], _ => rfl⟩⟩,
    d__law_has_rounds := ⟨⟨f__law_has_rounds, _, PySem.W.mg_of X G a__law_has_rounds, fun_mk (st := s__law_has_rounds) l__law_has_rounds c__law_has_rounds p__law_has_rounds, (fun_mk (st := s__law_has_rounds) l__law_has_rounds c__law_has_rounds p__law_has_rounds).binds (ps := ["web_so"]) fun _ _ _ _ _ _ us hl => match us, hl with | [_], _ => rfl⟩⟩,
    d__law_is_round := ⟨⟨f__law_is_round, _, PySem.W.mg_of X G a__law_is_round, fun_mk (st := s__law_is_round) l__law_is_round c__law_is_round p__law_is_round, (fun_mk (st := s__law_is_round) l__law_is_round c__law_is_round p__law_is_round).binds (ps := ["web_so", "roads_so"]) fun _ _ _ _ _ _ us hl => match us, hl with | [_, _], _ => rfl⟩⟩,
    d__law_right := ⟨⟨f__law_right, _, PySem.W.mg_of X G a__law_right, fun_mk (st := s__law_right) l__law_right c__law_right p__law_right, (fun_mk (st := s__law_right) l__law_right c__law_right p__law_right).binds (ps := ["tin"]) fun _ _ _ _ _ _ us hl => match us, hl with | [_], _ => rfl⟩⟩,
    d_law := ⟨⟨f_law, _, PySem.W.mg_of X G a_law, fun_mk (st := s_law) l_law c_law p_law, (fun_mk (st := s_law) l_law c_law p_law).binds (ps := ["script"]) fun _ _ _ _ _ _ us hl => match us, hl with | [_], _ => rfl⟩⟩
  }
  exact law_end plain (fun base => ok_law T) (PySem.W.mg_of X G a_law) hfa (fun_mk (st := s_law) l_law c_law p_law) (fun s v => .of_eq rfl)
end K01
open PySem PySem.W PyProof.Rows in
set_option maxRecDepth 100000 in
set_option maxHeartbeats 0 in
theorem PySem.Challenge.cw_roadalgebras_k01_whole_rounds_holds : PySem.Challenge.rw_roadalgebras_k01_whole_rounds.Holds := by
  w_on; o_law; k_head; (case hw => w_witness2)
  k_fill
  refine L2.walk_of (l := PySem.Challenge.rw_roadalgebras_k01_whole_rounds) (n := 63) (k := 30) (x := "script") (CX := fun w => L2.CX (PySem.Challenge.rw_roadalgebras_k01_whole_rounds).prog w) (sp := fun w => DL.spLaw _) rfl (by decide) rfl ⟨rfl, by decide, by decide⟩ (fun w h Y => PySem.W.kIn_of Y) ?F (fun _ _ a ns hl _ hS => ⟨a, ns, rfl, hS, hl, fun _ => rfl⟩) (fun _ _ _ _ _ ⟨_, _, _, _, _, _, _, _, _, _, _, _, z⟩ => z)
  case F =>
    intro w mg fa h KX G hmg
    refine' K01.all_mk KX G hmg ?z_abs ?z_all ?z_any ?z_bool ?z_enumerate ?z_int ?z_isinstance ?z_len ?z_list ?z_min ?z_range ?z_set ?z_sorted ?z_str ?z_tuple ?z_zip ?k_MOST_PLACES ?k_MOST_ROADS ?k_MOST_ROUNDS ?xa_TooMany ?xq_TooMany ?xk_TooMany ?xs_TooMany ?xt_TooMany ?xa_Unfit ?xq_Unfit ?xk_Unfit ?xs_Unfit ?xt_Unfit ?a_is_number ?l_is_number ?c_is_number ?p_is_number ?a_is_within ?l_is_within ?c_is_within ?p_is_within ?a_sure_within ?l_sure_within ?c_sure_within ?p_sure_within ?a_is_long ?l_is_long ?c_is_long ?p_is_long ?a_tupled ?l_tupled ?c_tupled ?p_tupled ?a_is_web ?l_is_web ?c_is_web ?p_is_web ?a_sure_web ?l_sure_web ?c_sure_web ?p_sure_web ?a_sure_place ?l_sure_place ?c_sure_place ?p_sure_place ?a_out_of ?l_out_of ?c_out_of ?p_out_of ?a_are_roads ?l_are_roads ?c_are_roads ?p_are_roads ?a_reached_in ?l_reached_in ?c_reached_in ?p_reached_in ?a_is_round_in ?l_is_round_in ?c_is_round_in ?p_is_round_in ?a_rounds_in ?l_rounds_in ?c_rounds_in ?p_rounds_in ?a_is_round ?l_is_round ?c_is_round ?p_is_round ?a_rounds ?l_rounds ?c_rounds ?p_rounds ?a_exits_in ?l_exits_in ?c_exits_in ?p_exits_in ?a_exits ?l_exits ?c_exits ?p_exits ?a_lone_in ?l_lone_in ?c_lone_in ?p_lone_in ?a_lone_rounds ?l_lone_rounds ?c_lone_rounds ?p_lone_rounds ?a_on_round ?l_on_round ?c_on_round ?p_on_round ?a_leads_to_round ?l_leads_to_round ?c_leads_to_round ?p_leads_to_round ?a_has_rounds_in ?l_has_rounds_in ?c_has_rounds_in ?p_has_rounds_in ?a_has_rounds ?l_has_rounds ?c_has_rounds ?p_has_rounds ?a__law_box ?l__law_box ?c__law_box ?p__law_box ?a__law_take ?l__law_take ?c__law_take ?p__law_take ?a__law_cells ?l__law_cells ?c__law_cells ?p__law_cells ?a__law_of ?l__law_of ?c__law_of ?p__law_of ?a__law_mixed ?l__law_mixed ?c__law_mixed ?p__law_mixed ?a__law_same ?l__law_same ?c__law_same ?p__law_same ?a__law_web ?l__law_web ?c__law_web ?p__law_web ?a__law_some_web ?l__law_some_web ?c__law_some_web ?p__law_some_web ?a__law_outs ?l__law_outs ?c__law_outs ?p__law_outs ?a__law_lead ?l__law_lead ?c__law_lead ?p__law_lead ?a__law_walk ?l__law_walk ?c__law_walk ?p__law_walk ?a__law_walks ?l__law_walks ?c__law_walks ?p__law_walks ?a__law_reached ?l__law_reached ?c__law_reached ?p__law_reached ?a__law_has_rounds ?l__law_has_rounds ?c__law_has_rounds ?p__law_has_rounds ?a__law_is_round ?l__law_is_round ?c__law_is_round ?p__law_is_round ?a__law_right ?l__law_right ?c__law_right ?p__law_right ?a_law ?l_law ?c_law ?p_law
    (case z_abs => k_is)
    (case z_all => k_is)
    (case z_any => k_is)
    (case z_bool => k_is)
    (case z_enumerate => k_is)
    (case z_int => k_is)
    (case z_isinstance => k_is)
    (case z_len => k_is)
    (case z_list => k_is)
    (case z_min => k_is)
    (case z_range => k_is)
    (case z_set => k_is)
    (case z_sorted => k_is)
    (case z_str => k_is)
    (case z_tuple => k_is)
    (case z_zip => k_is)
    (case k_MOST_PLACES => k_is)
    (case k_MOST_ROADS => k_is)
    (case k_MOST_ROUNDS => k_is)
    (case xa_TooMany => k_is)
    (case xq_TooMany => k_exc)
    (case xk_TooMany => k_is)
    (case xs_TooMany => k_is)
    (case xt_TooMany => k_is)
    (case xa_Unfit => k_is)
    (case xq_Unfit => k_exc)
    (case xk_Unfit => k_is)
    (case xs_Unfit => k_is)
    (case xt_Unfit => k_is)
    (case a_is_number => k_is)
    (case l_is_number => k_is)
    (case c_is_number => k_is)
    (case p_is_number => k_is)
    (case a_is_within => k_is)
    (case l_is_within => k_is)
    (case c_is_within => k_is)
    (case p_is_within => k_is)
    (case a_sure_within => k_is)
    (case l_sure_within => k_is)
    (case c_sure_within => k_is)
    (case p_sure_within => k_is)
    (case a_is_long => k_is)
    (case l_is_long => k_is)
    (case c_is_long => k_is)
    (case p_is_long => k_is)
    (case a_tupled => k_is)
    (case l_tupled => k_is)
    (case c_tupled => k_is)
    (case p_tupled => k_is)
    (case a_is_web => k_is)
    (case l_is_web => k_is)
    (case c_is_web => k_is)
    (case p_is_web => k_is)
    (case a_sure_web => k_is)
    (case l_sure_web => k_is)
    (case c_sure_web => k_is)
    (case p_sure_web => k_is)
    (case a_sure_place => k_is)
    (case l_sure_place => k_is)
    (case c_sure_place => k_is)
    (case p_sure_place => k_is)
    (case a_out_of => k_is)
    (case l_out_of => k_is)
    (case c_out_of => k_is)
    (case p_out_of => k_is)
    (case a_are_roads => k_is)
    (case l_are_roads => k_is)
    (case c_are_roads => k_is)
    (case p_are_roads => k_is)
    (case a_reached_in => k_is)
    (case l_reached_in => k_is)
    (case c_reached_in => k_is)
    (case p_reached_in => k_is)
    (case a_is_round_in => k_is)
    (case l_is_round_in => k_is)
    (case c_is_round_in => k_is)
    (case p_is_round_in => k_is)
    (case a_rounds_in => k_is)
    (case l_rounds_in => k_is)
    (case c_rounds_in => k_is)
    (case p_rounds_in => k_is)
    (case a_is_round => k_is)
    (case l_is_round => k_is)
    (case c_is_round => k_is)
    (case p_is_round => k_is)
    (case a_rounds => k_is)
    (case l_rounds => k_is)
    (case c_rounds => k_is)
    (case p_rounds => k_is)
    (case a_exits_in => k_is)
    (case l_exits_in => k_is)
    (case c_exits_in => k_is)
    (case p_exits_in => k_is)
    (case a_exits => k_is)
    (case l_exits => k_is)
    (case c_exits => k_is)
    (case p_exits => k_is)
    (case a_lone_in => k_is)
    (case l_lone_in => k_is)
    (case c_lone_in => k_is)
    (case p_lone_in => k_is)
    (case a_lone_rounds => k_is)
    (case l_lone_rounds => k_is)
    (case c_lone_rounds => k_is)
    (case p_lone_rounds => k_is)
    (case a_on_round => k_is)
    (case l_on_round => k_is)
    (case c_on_round => k_is)
    (case p_on_round => k_is)
    (case a_leads_to_round => k_is)
    (case l_leads_to_round => k_is)
    (case c_leads_to_round => k_is)
    (case p_leads_to_round => k_is)
    (case a_has_rounds_in => k_is)
    (case l_has_rounds_in => k_is)
    (case c_has_rounds_in => k_is)
    (case p_has_rounds_in => k_is)
    (case a_has_rounds => k_is)
    (case l_has_rounds => k_is)
    (case c_has_rounds => k_is)
    (case p_has_rounds => k_is)
    (case a__law_box => k_is)
    (case l__law_box => k_is)
    (case c__law_box => k_is)
    (case p__law_box => k_is)
    (case a__law_take => k_is)
    (case l__law_take => k_is)
    (case c__law_take => k_is)
    (case p__law_take => k_is)
    (case a__law_cells => k_is)
    (case l__law_cells => k_is)
    (case c__law_cells => k_is)
    (case p__law_cells => k_is)
    (case a__law_of => k_is)
    (case l__law_of => k_is)
    (case c__law_of => k_is)
    (case p__law_of => k_is)
    (case a__law_mixed => k_is)
    (case l__law_mixed => k_is)
    (case c__law_mixed => k_is)
    (case p__law_mixed => k_is)
    (case a__law_same => k_is)
    (case l__law_same => k_is)
    (case c__law_same => k_is)
    (case p__law_same => k_is)
    (case a__law_web => k_is)
    (case l__law_web => k_is)
    (case c__law_web => k_is)
    (case p__law_web => k_is)
    (case a__law_some_web => k_is)
    (case l__law_some_web => k_is)
    (case c__law_some_web => k_is)
    (case p__law_some_web => k_is)
    (case a__law_outs => k_is)
    (case l__law_outs => k_is)
    (case c__law_outs => k_is)
    (case p__law_outs => k_is)
    (case a__law_lead => k_is)
    (case l__law_lead => k_is)
    (case c__law_lead => k_is)
    (case p__law_lead => k_is)
    (case a__law_walk => k_is)
    (case l__law_walk => k_is)
    (case c__law_walk => k_is)
    (case p__law_walk => k_is)
    (case a__law_walks => k_is)
    (case l__law_walks => k_is)
    (case c__law_walks => k_is)
    (case p__law_walks => k_is)
    (case a__law_reached => k_is)
    (case l__law_reached => k_is)
    (case c__law_reached => k_is)
    (case p__law_reached => k_is)
    (case a__law_has_rounds => k_is)
    (case l__law_has_rounds => k_is)
    (case c__law_has_rounds => k_is)
    (case p__law_has_rounds => k_is)
    (case a__law_is_round => k_is)
    (case l__law_is_round => k_is)
    (case c__law_is_round => k_is)
    (case p__law_is_round => k_is)
    (case a__law_right => k_is)
    (case l__law_right => k_is)
    (case c__law_right => k_is)
    (case p__law_right => k_is)
    (case a_law => k_is)
    (case l_law => k_is)
    (case c_law => k_is)
    (case p_law => k_is)

