import PyProof.Rows.All
import Wide.All
import OpenK.AllK
import Wide.FinOn
import HandS.ForMost
import HandS.Style
import HandS.IsInst
import HandS.SortKw
import HandS.SortRule
import HandS.Deep
import KE.DataMinMax
import HandS.ExcOwn
import HandS.WordsExc
import HandS.TryMany
import HandS.ExcIs
import HandS.FStr
import HandS.Text
import PySem.Challenge.RW_deadlinerun_k02_sound_or_refused
set_option Elab.async false
set_option linter.all false
set_option maxRecDepth 100000
set_option maxHeartbeats 4000000
/-! DL: a data calculus over the hand layer. A state is the list of what the slots hold as data (PyData); a reading is shown by big steps: Eb, Ep, En, Et, Ea (expressions), DX (statements). No heap is left in what one proves. -/
namespace DL
open PySem L2
/-- the written part (the script may be one of its lists) -/
class KK where
  K : PySem.W.Frag
variable [KK]
/-- the script's ints, as data: a list that is read alone -/
def frz (ns : List Int) : PyData := .dict (ns.map fun n => (.int n, .none))
def frzV (p : PyData × PyData) : V := match p.1 with
  | .int i => .int i
  | _ => .non
theorem frzV_map (ns : List Int) : (ns.map fun n => (PyData.int n, PyData.none)).map frzV = ns.map V.int := by
  rw [List.map_map]
  rfl

/-! ### data in a heap -/
mutual
def Da (H : Hp) : PyData → V → Prop
  | .none, v => v = .non
  | .bool b, v => v = .bl b
  | .int i, v => v = .int i
  | .str x, v => v = .str x
  | .list ds, v => ∃ a xs, v = .ref a ∧ H a = some (.lst xs) ∧ DaL H ds xs
  | .tuple ds, v => ∃ a xs, v = .ref a ∧ H a = some (.tup xs) ∧ DaL H ds xs
  | .dict kvs, v => ∃ a, v = .ref a ∧ SqL KK.K H a (kvs.map frzV)
def DaL (H : Hp) : List PyData → List V → Prop
  | [], xs => xs = []
  | d :: ds, xs => ∃ v vs, xs = v :: vs ∧ Da H d v ∧ DaL H ds vs
end
mutual
def imm : PyData → Bool
  | .list _ => false
  | .dict _ => false
  | .tuple ds => immL ds
  | .none => true
  | .bool _ => true
  | .int _ => true
  | .str _ => true
def immL : List PyData → Bool
  | [] => true
  | d :: ds => imm d && immL ds
end
mutual
theorem Da.mono {H H' : Hp} (e : Same H H') : ∀ (d : PyData) (v : V), Da H d v → Da H' d v
  | .none, _, h => h
  | .bool _, _, h => h
  | .int _, _, h => h
  | .str _, _, h => h
  | .list ds, _, h => by
    obtain ⟨a, xs, e1, h, q⟩ := h
    exact ⟨a, xs, e1, e a _ h, DaL.mono e ds xs q⟩
  | .tuple ds, _, h => by
    obtain ⟨a, xs, e1, h, q⟩ := h
    exact ⟨a, xs, e1, e a _ h, DaL.mono e ds xs q⟩
  | .dict kvs, _, h => by
    obtain ⟨a, e1, h⟩ := h
    exact ⟨a, e1, e.seq h⟩
theorem DaL.mono {H H' : Hp} (e : Same H H') : ∀ (ds : List PyData) (xs : List V), DaL H ds xs → DaL H' ds xs
  | [], _, h => h
  | d :: ds, _, h => by
    obtain ⟨v, vs, e1, h1, h2⟩ := h
    exact ⟨v, vs, e1, Da.mono e d v h1, DaL.mono e ds vs h2⟩
end
/-- what never changes hangs on the tuples alone -/
def Tups (H H' : Hp) : Prop := ∀ a xs, H a = some (.tup xs) → H' a = some (.tup xs)
mutual
theorem Da.tups {H H' : Hp} (e : Tups H H') : ∀ (d : PyData) (v : V), imm d = true → Da H d v → Da H' d v
  | .none, _, _, h => h
  | .bool _, _, _, h => h
  | .int _, _, _, h => h
  | .str _, _, _, h => h
  | .list ds, _, i, h => by cases i
  | .tuple ds, _, i, h => by
    obtain ⟨a, xs, e1, h, q⟩ := h
    exact ⟨a, xs, e1, e a _ h, DaL.tups e ds xs i q⟩
  | .dict _, _, i, h => by cases i
theorem DaL.tups {H H' : Hp} (e : Tups H H') : ∀ (ds : List PyData) (xs : List V), immL ds = true → DaL H ds xs → DaL H' ds xs
  | [], _, _, h => h
  | d :: ds, _, i, h => by
    obtain ⟨v, vs, e1, h1, h2⟩ := h
    have i' : (imm d && immL ds) = true := i
    rw [Bool.and_eq_true] at i'
    exact ⟨v, vs, e1, Da.tups e d v i'.1 h1, DaL.tups e ds vs i'.2 h2⟩
end
theorem DaL.length {H : Hp} : ∀ {ds : List PyData} {xs : List V}, DaL H ds xs → xs.length = ds.length
  | [], _, h => by
    have e : _ = [] := h
    rw [e]
    rfl
  | d :: ds, _, h => by
    obtain ⟨v, vs, e1, h1, h2⟩ := h
    rw [e1, List.length_cons, List.length_cons, DaL.length h2]
theorem DaL.get {H : Hp} : ∀ {ds : List PyData} {xs : List V} {i : Nat} {d : PyData}, DaL H ds xs → ds[i]? = some d → ∃ v, xs[i]? = some v ∧ Da H d v
  | [], _, _, _, _, e => by simp at e
  | d :: ds, _, 0, _, h, e => by
    obtain ⟨v, vs, e1, h1, h2⟩ := h
    have e' := Option.some.inj e
    subst e'
    exact ⟨v, by rw [e1]; rfl, h1⟩
  | d :: ds, _, i + 1, _, h, e => by
    obtain ⟨v, vs, e1, h1, h2⟩ := h
    obtain ⟨w, q1, q2⟩ := DaL.get (i := i) h2 (by simpa using e)
    exact ⟨w, by rw [e1]; simpa using q1, q2⟩
theorem DaL.get' {H : Hp} : ∀ {ds : List PyData} {xs : List V} {i : Nat} {v : V}, DaL H ds xs → xs[i]? = some v → ∃ d, ds[i]? = some d ∧ Da H d v := fun {ds xs i v} h e => by
  have hi : i < xs.length := (List.getElem?_eq_some_iff.mp e).1
  rw [h.length] at hi
  obtain ⟨w, q1, q2⟩ := h.get (List.getElem?_eq_getElem hi)
  rw [e] at q1
  cases q1
  exact ⟨_, List.getElem?_eq_getElem hi, q2⟩
theorem DaL.append {H : Hp} : ∀ {ds es : List PyData} {xs ys : List V}, DaL H ds xs → DaL H es ys → DaL H (ds ++ es) (xs ++ ys)
  | [], _, _, _, h, h' => by
    have e : _ = [] := h
    rw [e]
    exact h'
  | d :: ds, _, _, _, h, h' => by
    obtain ⟨v, vs, e1, h1, h2⟩ := h
    rw [e1]
    exact ⟨v, _, rfl, h1, DaL.append h2 h'⟩
theorem DaL.one {H : Hp} {d : PyData} {v : V} (h : Da H d v) : DaL H [d] [v] := ⟨v, [], rfl, h, rfl⟩
theorem DaL.take {H : Hp} : ∀ {ds : List PyData} {xs : List V} (n : Nat), DaL H ds xs → DaL H (ds.take n) (xs.take n)
  | [], _, n, h => by
    have e : _ = [] := h
    rw [e, List.take_nil, List.take_nil]
    rfl
  | d :: ds, _, 0, h => rfl
  | d :: ds, _, n + 1, h => by
    obtain ⟨v, vs, e1, h1, h2⟩ := h
    rw [e1]
    exact ⟨v, _, rfl, h1, DaL.take n h2⟩
theorem DaL.drop {H : Hp} : ∀ {ds : List PyData} {xs : List V} (n : Nat), DaL H ds xs → DaL H (ds.drop n) (xs.drop n)
  | [], _, n, h => by
    have e : _ = [] := h
    rw [e, List.drop_nil, List.drop_nil]
    rfl
  | d :: ds, _, 0, h => h
  | d :: ds, _, n + 1, h => by
    obtain ⟨v, vs, e1, h1, h2⟩ := h
    rw [e1]
    exact DaL.drop n h2
theorem DaL.set {H : Hp} : ∀ {ds : List PyData} {xs : List V} (n : Nat) {d : PyData} {v : V}, DaL H ds xs → Da H d v → DaL H (ds.set n d) (xs.set n v)
  | [], _, n, _, _, h, _ => by
    have e : _ = [] := h
    rw [e]
    rfl
  | d :: ds, _, 0, _, _, h, h' => by
    obtain ⟨v, vs, e1, h1, h2⟩ := h
    rw [e1]
    exact ⟨_, _, rfl, h', h2⟩
  | d :: ds, _, n + 1, _, _, h, h' => by
    obtain ⟨v, vs, e1, h1, h2⟩ := h
    rw [e1]
    exact ⟨_, _, rfl, h1, DaL.set n h2 h'⟩
theorem DaL.reverse {H : Hp} : ∀ {ds : List PyData} {xs : List V}, DaL H ds xs → DaL H ds.reverse xs.reverse
  | [], _, h => by
    have e : _ = [] := h
    rw [e]
    rfl
  | d :: ds, _, h => by
    obtain ⟨v, vs, e1, h1, h2⟩ := h
    rw [e1, List.reverse_cons, List.reverse_cons]
    exact DaL.append (DaL.reverse h2) (.one h1)
theorem DaL.rep {H : Hp} {ds : List PyData} {xs : List V} (h : DaL H ds xs) : ∀ n : Nat, DaL H (List.replicate n ds).flatten (List.replicate n xs).flatten
  | 0 => rfl
  | n + 1 => by
    rw [List.replicate_succ, List.replicate_succ, List.flatten_cons, List.flatten_cons]
    exact DaL.append h (DaL.rep h n)
theorem DaL.ints {H : Hp} : ∀ {ns : List Int} {xs : List V}, DaL H (ns.map PyData.int) xs → xs = ns.map V.int
  | [], _, h => h
  | n :: ns, _, h => by
    obtain ⟨v, vs, e1, h1, h2⟩ := h
    have e2 := DaL.ints (ns := ns) h2
    have e3 : v = .int n := h1
    rw [e1, e2, e3] <;> rfl
theorem DaL.of_ints {H : Hp} : ∀ {ns : List Int}, DaL H (ns.map PyData.int) (ns.map V.int)
  | [] => rfl
  | n :: ns => ⟨_, _, rfl, rfl, DaL.of_ints⟩
omit [KK] in
theorem immL_append {ds es : List PyData} (h : immL ds = true) (h' : immL es = true) : immL (ds ++ es) = true := by
  induction ds with
  | nil => exact h'
  | cons d ds ih =>
    have i' : (imm d && immL ds) = true := h
    rw [Bool.and_eq_true] at i'
    show (imm d && immL (ds ++ es)) = true
    rw [i'.1, ih i'.2] <;> rfl
omit [KK] in
theorem immL_iff {ds : List PyData} : immL ds = true ↔ ∀ d ∈ ds, imm d = true := by
  induction ds with
  | nil => exact ⟨fun _ d h => absurd h (by simp), fun _ => rfl⟩
  | cons d ds ih =>
    show (imm d && immL ds) = true ↔ _
    rw [Bool.and_eq_true, ih]
    simp
omit [KK] in
theorem immL_map {α : Type} {f : α → PyData} {l : List α} (h : ∀ x ∈ l, imm (f x) = true) : immL (l.map f) = true := by
  rw [immL_iff]
  intro d hd
  obtain ⟨x, hx, rfl⟩ := List.mem_map.mp hd
  exact h x hx
omit [KK] in
theorem immL_ints (ns : List Int) : immL (ns.map PyData.int) = true := immL_map fun _ _ => rfl

/-! ### what the slots hold -/
inductive Sl where
  | no
  /-- a value, told by its data -/
  | va (d : PyData)
  /-- a list that no one else holds -/
  | ow (ds : List PyData)
abbrev DSt := List Sl
def Own (σ : St) (S : DSt) (l : Addr) : Prop := ∃ (i : Nat) (ds : List PyData), S[i]? = some (.ow ds) ∧ σ[i]? = some (some (.ref l))
open Classical in
/-- the heap without the owned lists -/
noncomputable def Gm (σ : St) (S : DSt) (H : Hp) : Hp := fun a => if Own σ S a then none else H a
structure Rl (H : Hp) (σ : St) (S : DSt) : Prop where
  len : σ.length = S.length
  va : ∀ (i : Nat) d, S[i]? = some (.va d) → ∃ v, σ[i]? = some (some v) ∧ Da (Gm σ S H) d v
  ow : ∀ (i : Nat) ds, S[i]? = some (.ow ds) → ∃ l xs, σ[i]? = some (some (.ref l)) ∧ H l = some (.lst xs) ∧ DaL (Gm σ S H) ds xs ∧ immL ds = true
  sep : ∀ (i j : Nat) ds es l, S[i]? = some (.ow ds) → S[j]? = some (.ow es) → σ[i]? = some (some (.ref l)) → σ[j]? = some (some (.ref l)) → i = j

section
variable {H H1 H2 : Hp} {σ : St} {S : DSt}
theorem Gm_some {a : Addr} {o : HO} (h : Gm σ S H a = some o) : ¬ Own σ S a ∧ H a = some o := by
  unfold Gm at h
  split at h
  · cases h
  · exact ⟨by assumption, h⟩
theorem Gm_of {a : Addr} {o : HO} (n : ¬ Own σ S a) (h : H a = some o) : Gm σ S H a = some o := by
  unfold Gm
  rw [if_neg n]
  exact h
theorem Gm_le : Same (Gm σ S H) H := fun a o h => (Gm_some h).2
theorem Gm_mono (e : Same H H1) : Same (Gm σ S H) (Gm σ S H1) := fun a o h => Gm_of (Gm_some h).1 (e a o (Gm_some h).2)
theorem Rl.mono (r : Rl H σ S) (e : Same H H1) : Rl H1 σ S :=
  ⟨r.len, fun i d h => let ⟨v, h1, h2⟩ := r.va i d h; ⟨v, h1, Da.mono (Gm_mono e) d v h2⟩,
    fun i ds h => let ⟨l, xs, h1, h2, h3, h4⟩ := r.ow i ds h; ⟨l, xs, h1, e l _ h2, DaL.mono (Gm_mono e) ds xs h3, h4⟩, r.sep⟩
theorem Rl.owned (r : Rl H σ S) {l : Addr} (h : Own σ S l) : ∃ xs, H l = some (.lst xs) := by
  obtain ⟨i, ds, h1, h2⟩ := h
  obtain ⟨l', xs, h3, h4, _⟩ := r.ow i ds h1
  rw [h2] at h3
  cases h3
  exact ⟨xs, h4⟩
theorem Rl.notOwn (r : Rl H σ S) {l : Addr} (h : H l = none) : ¬ Own σ S l := fun o => by
  obtain ⟨xs, h'⟩ := r.owned o
  rw [h] at h'
  cases h'
theorem Rl.tups (r : Rl H σ S) : Tups H (Gm σ S H) := fun a xs h => Gm_of (fun o => by
  obtain ⟨ys, h'⟩ := r.owned o
  rw [h] at h'
  cases h') h
theorem Rl.imm (r : Rl H σ S) {d : PyData} {v : V} (i : imm d = true) (h : Da H d v) : Da (Gm σ S H) d v := Da.tups r.tups d v i h
theorem Rl.immL (r : Rl H σ S) {ds : List PyData} {xs : List V} (i : immL ds = true) (h : DaL H ds xs) : DaL (Gm σ S H) ds xs := DaL.tups r.tups ds xs i h
def noOw : DSt → Bool
  | [] => true
  | .ow _ :: _ => false
  | .no :: S => noOw S
  | .va _ :: S => noOw S
theorem noOw_get : ∀ {S : DSt}, noOw S = true → ∀ (i : Nat) ds, S[i]? ≠ some (.ow ds)
  | [], _, i, ds, h => by simp at h
  | .ow _ :: _, h, _, _, _ => by cases h
  | .no :: S, h, 0, _, e => by simp at e
  | .va _ :: S, h, 0, _, e => by simp at e
  | .no :: S, h, i + 1, ds, e => noOw_get (S := S) h i ds (by simpa using e)
  | .va _ :: S, h, i + 1, ds, e => noOw_get (S := S) h i ds (by simpa using e)
theorem Gm_free (h : noOw S = true) : Gm σ S H = H := by
  funext a
  unfold Gm
  rw [if_neg]
  rintro ⟨i, ds, h1, _⟩
  exact noOw_get h i ds h1
end

/-! ### judgements -/
/-- evaluates to (the value may reach owned lists: borrowed) -/
def Eb (te : TE) (S : DSt) (d : PyData) : Prop := ∀ H σ, Rl H σ S → ∀ Q : VK, (∀ v H1, Same H H1 → Da H1 d v → Q v H1) → te σ H Q
/-- evaluates to, and no owned list is reached from it -/
def Ep (te : TE) (S : DSt) (d : PyData) : Prop := ∀ H σ, Rl H σ S → ∀ Q : VK, (∀ v H1, Same H H1 → Da (Gm σ S H1) d v → Q v H1) → te σ H Q
/-- evaluates to a new list -/
def En (te : TE) (S : DSt) (ds : List PyData) : Prop := ∀ H σ, Rl H σ S → ∀ Q : VK, (∀ l H1, Same H H1 → H l = none → Da H1 (.list ds) (.ref l) → Q (.ref l) H1) → te σ H Q
def Et (tt : TT) (S : DSt) (b : Bool) : Prop := ∀ H σ, Rl H σ S → ∀ Q : Bool → Hp → Prop, (∀ H1, Same H H1 → Q b H1) → tt σ H Q
def Ea (ta : TA) (S : DSt) (ds : List PyData) : Prop := ∀ H σ, Rl H σ S → ∀ Q : List V → Hp → Prop, (∀ vs H1, Same H H1 → DaL H1 ds vs → Q vs H1) → ta σ H Q
def Eap (ta : TA) (S : DSt) (ds : List PyData) : Prop := ∀ H σ, Rl H σ S → ∀ Q : List V → Hp → Prop, (∀ vs H1, Same H H1 → DaL (Gm σ S H1) ds vs → Q vs H1) → ta σ H Q
/-- a slice's part -/
def Eo (to : TO) (S : DSt) (o : Option Int) : Prop := ∀ H σ, Rl H σ S → ∀ Q : Option Int → Hp → Prop, (∀ H1, Same H H1 → Q o H1) → to σ H Q

section
variable {S : DSt} {te ta tb tc : TE} {tt tu : TT} {d d1 d2 : PyData} {ds es : List PyData} {K : PySem.W.Frag}
theorem Ep.b (h : Ep te S d) : Eb te S d := fun H σ r Q q => h H σ r Q fun v H1 e h1 => q v H1 e (Da.mono Gm_le d v h1)
theorem Ep.imm (h : Eb te S d) (i : imm d = true) : Ep te S d := fun H σ r Q q => h H σ r Q fun v H1 e h1 => q v H1 e ((r.mono e).imm i h1)
theorem Ep.free (h : Eb te S d) (n : noOw S = true) : Ep te S d := fun H σ r Q q => h H σ r Q fun v H1 e h1 => q v H1 e (by rw [Gm_free n]; exact h1)
theorem En.b (h : En te S ds) : Eb te S (.list ds) := fun H σ r Q q => h H σ r Q fun l H1 e _ h1 => q _ H1 e h1
theorem Ep.new (h : En te S ds) (i : immL ds = true) : Ep te S (.list ds) := fun H σ r Q q => h H σ r Q fun l H1 e hl h1 => q _ H1 e (by
  obtain ⟨a, xs, e1, h2, h3⟩ := h1
  cases e1
  exact ⟨l, xs, rfl, Gm_of (r.notOwn hl) h2, (r.mono e).immL i h3⟩)
theorem Eb.to {d' : PyData} (h : Eb te S d) (e : d = d') : Eb te S d' := e ▸ h
theorem Ep.to {d' : PyData} (h : Ep te S d) (e : d = d') : Ep te S d' := e ▸ h
theorem En.to {ds' : List PyData} (h : En te S ds) (e : ds = ds') : En te S ds' := e ▸ h
theorem Et.to {b b' : Bool} (h : Et tt S b) (e : b = b') : Et tt S b' := e ▸ h

/-! names, constants -/
theorem e_var {i : Nat} (h : S[i]? = some (.va d)) : Ep (tVar i) S d := fun H σ r Q q => by
  obtain ⟨v, h1, h2⟩ := r.va i d h
  exact ⟨v, h1, q v H (Same.refl H) h2⟩
theorem e_own {i : Nat} (h : S[i]? = some (.ow ds)) : Eb (tVar i) S (.list ds) := fun H σ r Q q => by
  obtain ⟨l, xs, h1, h2, h3, _⟩ := r.ow i ds h
  exact ⟨.ref l, h1, q _ H (Same.refl H) ⟨l, xs, rfl, h2, DaL.mono Gm_le ds xs h3⟩⟩
theorem e_int {i : Int} : Eb (tC (.int i)) S (.int i) := fun H σ r Q q => q _ H (Same.refl H) rfl
theorem e_bl {b : Bool} : Eb (tC (.bl b)) S (.bool b) := fun H σ r Q q => q _ H (Same.refl H) rfl
theorem e_non : Eb (tC .non) S .none := fun H σ r Q q => q _ H (Same.refl H) rfl
theorem e_str {x : Str} : Eb (tC (.str x)) S (.str x) := fun H σ r Q q => q _ H (Same.refl H) rfl

/-! two operands -/
theorem e_op {r : R2} (ha : Eb ta S d1) (hb : Eb tb S d2) (hr : ∀ (x y : V) (H : Hp) (Q : VK), Da H d1 x → Da H d2 y → (∀ v H1, Same H H1 → Da H1 d v → Q v H1) → r x y H Q) : Eb (tOp r ta tb) S d := fun H σ rl Q q =>
  ha H σ rl _ fun x H1 e1 h1 => hb H1 σ (rl.mono e1) _ fun y H2 e2 h2 => hr x y H2 Q (Da.mono e2 _ _ h1) h2 fun v H3 e3 h3 => q v H3 ((e1.trans e2).trans e3) h3
theorem e_opN {r : R2} (ha : Eb ta S d1) (hb : Eb tb S d2) (hr : ∀ (x y : V) (H : Hp) (Q : VK), Da H d1 x → Da H d2 y → (∀ l H1, Same H H1 → H l = none → Da H1 (.list ds) (.ref l) → Q (.ref l) H1) → r x y H Q) : En (tOp r ta tb) S ds := fun H σ rl Q q =>
  ha H σ rl _ fun x H1 e1 h1 => hb H1 σ (rl.mono e1) _ fun y H2 e2 h2 => hr x y H2 Q (Da.mono e2 _ _ h1) h2 fun l H3 e3 hl h3 => q l H3 ((e1.trans e2).trans e3) ((e1.trans e2).free hl) h3
theorem e_un {r : V → Hp → VK → Prop} (ha : Eb ta S d1) (hr : ∀ (x : V) (H : Hp) (Q : VK), Da H d1 x → (∀ v H1, Same H H1 → Da H1 d v → Q v H1) → r x H Q) : Eb (tUn r ta) S d := fun H σ rl Q q =>
  ha H σ rl _ fun x H1 e1 h1 => hr x H1 Q h1 fun v H3 e3 h3 => q v H3 (e1.trans e3) h3
/-- two ints: an int; a bool -/
theorem e_ii {g : Int → Int → Int} {i j : Int} (ha : Eb ta S (.int i)) (hb : Eb tb S (.int j)) : Eb (tOp (rI0 fun i j => .int (g i j)) ta tb) S (.int (g i j)) :=
  e_op ha hb fun x y H Q h1 h2 q => ⟨i, j, h1, h2, q _ H (Same.refl H) rfl⟩
theorem e_ib {g : Int → Int → Bool} {i j : Int} (ha : Eb ta S (.int i)) (hb : Eb tb S (.int j)) : Eb (tOp (rI0 fun i j => .bl (g i j)) ta tb) S (.bool (g i j)) :=
  e_op ha hb fun x y H Q h1 h2 q => ⟨i, j, h1, h2, q _ H (Same.refl H) rfl⟩
theorem e_iic {C : Int → Int → Prop} {g : Int → Int → Int} {i j : Int} (ha : Eb ta S (.int i)) (hb : Eb tb S (.int j)) (hc : C i j) : Eb (tOp (rI C fun i j => .int (g i j)) ta tb) S (.int (g i j)) :=
  e_op ha hb fun x y H Q h1 h2 q => ⟨i, j, h1, h2, hc, q _ H (Same.refl H) rfl⟩
theorem e_neg {i : Int} (ha : Eb ta S (.int i)) : Eb (tUn (rU fun i => .int (-i)) ta) S (.int (-i)) := e_un ha fun x H Q h q => ⟨i, h, q _ H (Same.refl H) rfl⟩
omit [KK] in
/-- + : ints, lists, texts -/
def rAddStr : R2 := fun x y H Q => ∃ i j, x = .str i ∧ y = .str j ∧ i.length + j.length ≤ sizeLine ∧ Q (.str (i ++ j)) H
omit [KK] in
def rPlus : R2 := fun x y H Q => rI0 (fun i j => .int (i + j)) x y H Q ∨ (rCat x y H Q ∨ rAddStr x y H Q)
omit [KK] in
theorem op_plus {X : Cx} : OpR X (binaryOp .Add) rPlus := op_add.or (op_cat.or op_add_str)
theorem e_add {i j : Int} (ha : Eb ta S (.int i)) (hb : Eb tb S (.int j)) : Eb (tOp rPlus ta tb) S (.int (i + j)) :=
  e_op ha hb fun x y H Q h1 h2 q => .inl ⟨i, j, h1, h2, q _ H (Same.refl H) rfl⟩
omit [KK] in
theorem line_of {n : Nat} (h : n ≤ 100000) : n ≤ sizeLine := Nat.le_trans h (by decide)
theorem e_cat (ha : Eb ta S (.list ds)) (hb : Eb tb S (.list es)) (hz : ds.length + es.length ≤ 100000) : En (tOp rPlus ta tb) S (ds ++ es) :=
  e_opN ha hb fun x y H Q h1 h2 q => by
    obtain ⟨a, xs, rfl, h1, h3⟩ := h1
    obtain ⟨b, ys, rfl, h2, h4⟩ := h2
    refine .inr (.inl ⟨a, b, xs, ys, rfl, rfl, h1, h2, line_of (by rw [h3.length, h4.length]; exact hz), fun p hp => ?_⟩)
    have sm : Same H (upd H p (.lst (xs ++ ys))) := fun c o e => by rw [upd_ne (ne_of_none e hp)]; exact e
    exact q p _ sm hp ⟨p, _, rfl, upd_same, DaL.mono sm _ _ (h3.append h4)⟩
theorem e_addS {x y : Str} (ha : Eb ta S (.str x)) (hb : Eb tb S (.str y)) (hz : x.length + y.length ≤ 100000) : Eb (tOp rPlus ta tb) S (.str (x ++ y)) :=
  e_op ha hb fun _ _ H Q h1 h2 q => .inr (.inr ⟨x, y, h1, h2, line_of hz, q _ H (Same.refl H) rfl⟩)
omit [KK] in
/-- * : ints (one below 2 ^ 64), a list and a number -/
def rTimes : R2 := fun x y H Q => rI CMul (fun i j => .int (i * j)) x y H Q ∨ rRep x y H Q
omit [KK] in
theorem op_times {X : Cx} : OpR X (binaryOp .Mult) rTimes := op_mul.or op_rep
theorem e_mul {i j : Int} (ha : Eb ta S (.int i)) (hb : Eb tb S (.int j)) (hc : CMul i j) : Eb (tOp rTimes ta tb) S (.int (i * j)) :=
  e_op ha hb fun x y H Q h1 h2 q => .inl ⟨i, j, h1, h2, hc, q _ H (Same.refl H) rfl⟩
theorem e_rep {k : Int} (ha : Eb ta S (.list ds)) (hb : Eb tb S (.int k)) (hk : -1000 ≤ k ∧ k ≤ 1000) (hz : ds.length ≤ 10) : En (tOp rTimes ta tb) S (List.replicate k.toNat ds).flatten :=
  e_opN ha hb fun x y H Q h1 h2 q => by
    obtain ⟨a, xs, rfl, h1, h3⟩ := h1
    have e2 : y = .int k := h2
    subst e2
    refine .inr ⟨a, k, xs, rfl, rfl, h1, by omega, by omega, line_of (by
      rw [h3.length]
      have : ds.length * k.toNat ≤ 10 * 1000 := Nat.mul_le_mul hz (by omega)
      omega), fun p hp => ?_⟩
    have sm : Same H (upd H p (.lst (List.replicate k.toNat xs).flatten)) := fun c o e => by rw [upd_ne (ne_of_none e hp)]; exact e
    exact q p _ sm hp ⟨p, _, rfl, upd_same, DaL.mono sm _ _ (h3.rep _)⟩
/-! items -/
theorem e_ixL {i : Int} (ha : Eb ta S (.list ds)) (hb : Eb tb S (.int i)) (hd : atI ds i = some d) : Eb (tOp (rIx K) ta tb) S d :=
  e_op ha hb fun x y H Q h1 h2 q => by
    obtain ⟨a, xs, rfl, h1, h3⟩ := h1
    have hd' : (ixN ds.length i).bind (fun j => ds[j]?) = some d := hd
    obtain ⟨j, hj, hdj⟩ := Option.bind_eq_some_iff.mp hd'
    obtain ⟨v, hv, hdv⟩ := h3.get hdj
    refine .inl ⟨a, xs, i, v, rfl, h2, SqL.of h1, ?_, q v H (Same.refl H) hdv⟩
    show (ixN xs.length i).bind (fun j => xs[j]?) = some v
    rw [h3.length, hj]
    exact hv
theorem e_ixT {i : Int} (ha : Eb ta S (.tuple ds)) (hb : Eb tb S (.int i)) (hd : atI ds i = some d) : Eb (tOp (rIx K) ta tb) S d :=
  e_op ha hb fun x y H Q h1 h2 q => by
    obtain ⟨a, xs, rfl, h1, h3⟩ := h1
    have hd' : (ixN ds.length i).bind (fun j => ds[j]?) = some d := hd
    obtain ⟨j, hj, hdj⟩ := Option.bind_eq_some_iff.mp hd'
    obtain ⟨v, hv, hdv⟩ := h3.get hdj
    refine .inr (.inl ⟨a, xs, i, v, rfl, h2, SqT.of h1, ?_, q v H (Same.refl H) hdv⟩)
    show (ixN xs.length i).bind (fun j => xs[j]?) = some v
    rw [h3.length, hj]
    exact hv
/-- the script's length, an item -/
theorem e_ixF {ns : List Int} {i : Int} {n : Int} (ha : Eb ta S (frz ns)) (hb : Eb tb S (.int i)) (hd : atI ns i = some n) : Eb (tOp (rIx KK.K) ta tb) S (.int n) :=
  e_op ha hb fun x y H Q h1 h2 q => by
    obtain ⟨a, rfl, h1⟩ := h1
    have h1' : SqL KK.K H a (ns.map V.int) := by
      rw [← frzV_map]
      exact h1
    have hd' : (ixN ns.length i).bind (fun j => ns[j]?) = some n := hd
    obtain ⟨j, hj, hdj⟩ := Option.bind_eq_some_iff.mp hd'
    refine .inl ⟨a, _, i, .int n, rfl, h2, h1', ?_, q _ H (Same.refl H) rfl⟩
    show (ixN (ns.map V.int).length i).bind (fun j => (ns.map V.int)[j]?) = some (.int n)
    rw [List.length_map, hj]
    show (ns.map V.int)[j]? = _
    rw [List.getElem?_map, hdj]
    rfl
theorem e_ixS {x : Str} {i : Int} {c : Nat} (ha : Eb ta S (.str x)) (hb : Eb tb S (.int i)) (hz : x.length ≤ 100000) (hd : atI x.cps.toList i = some c) : Eb (tOp (rIx K) ta tb) S (.str ⟨#[c]⟩) :=
  e_op ha hb fun _ _ H Q h1 h2 q => .inr (.inr ⟨x, i, c, h1, h2, line_of hz, hd, q _ H (Same.refl H) rfl⟩)
end
end DL

namespace DL
open PySem L2
variable [KK]
section
variable {S : DSt} {te ta tb tc : TE} {tt tu : TT} {d d1 d2 : PyData} {ds es : List PyData} {K : PySem.W.Frag}
/-! comparisons of data -/
mutual
theorem Da.dp {K : PySem.W.Frag} {H : Hp} : ∀ (d : PyData) (v : V), d.canLay0 = true → Da H d v → Dp K H v d
  | .none, _, _, h => by
    have e : _ = V.non := h
    rw [e]
    exact .non
  | .bool b, _, _, h => by
    have e : _ = V.bl b := h
    rw [e]
    exact .bl b
  | .int i, _, _, h => by
    have e : _ = V.int i := h
    rw [e]
    exact .int i
  | .str x, _, _, h => by
    have e : _ = V.str x := h
    rw [e]
    exact .str x
  | .list ds, _, c, h => by
    obtain ⟨a, xs, e1, h, q⟩ := h
    rw [e1]
    exact .lst (SqL.of h) (DaL.dp ds xs (by simpa [PyData.canLay0] using c) q)
  | .tuple ds, _, c, h => by
    obtain ⟨a, xs, e1, h, q⟩ := h
    rw [e1]
    exact .tup (SqT.of h) (DaL.dp ds xs (by simpa [PyData.canLay0] using c) q)
  | .dict _, _, c, h => by simp [PyData.canLay0] at c
theorem DaL.dp {K : PySem.W.Frag} {H : Hp} : ∀ (ds : List PyData) (xs : List V), PyData.canLayAll0 ds = true → DaL H ds xs → DpAll K H xs ds
  | [], _, _, h => by
    have e : _ = [] := h
    rw [e]
    exact .nil
  | d :: ds, _, c, h => by
    obtain ⟨v, vs, e1, h1, h2⟩ := h
    have c' : d.canLay0 = true ∧ PyData.canLayAll0 ds = true := by simpa [PyData.canLayAll0] using c
    rw [e1]
    exact .cons (Da.dp d v c'.1 h1) (DaL.dp ds vs c'.2 h2)
end
theorem e_eq (ha : Eb ta S d1) (hb : Eb tb S d2) (h1 : SeqAt.shaped d1 = true) (h2 : SeqAt.shaped d2 = true) : Eb (tOp (rEqD K) ta tb) S (.bool (PyData.eqv d1 d2)) :=
  e_op ha hb fun x y H Q q1 q2 q => ⟨d1, d2, Da.dp _ _ (SeqAt.canLay_of_shaped h1) q1, Da.dp _ _ (SeqAt.canLay_of_shaped h2) q2, h1, h2, q _ H (Same.refl H) rfl⟩
theorem e_ne (ha : Eb ta S d1) (hb : Eb tb S d2) (h1 : SeqAt.shaped d1 = true) (h2 : SeqAt.shaped d2 = true) : Eb (tOp (rNeD K) ta tb) S (.bool (!PyData.eqv d1 d2)) :=
  e_op ha hb fun x y H Q q1 q2 q => ⟨d1, d2, Da.dp _ _ (SeqAt.canLay_of_shaped h1) q1, Da.dp _ _ (SeqAt.canLay_of_shaped h2) q2, h1, h2, q _ H (Same.refl H) rfl⟩
theorem e_eqI {i j : Int} (ha : Eb ta S (.int i)) (hb : Eb tb S (.int j)) : Eb (tOp (rEqD K) ta tb) S (.bool (decide (i = j))) := by
  have h := e_eq (K := K) ha hb rfl rfl
  exact h.to (by show PyData.bool (i == j) = _; rw [Bool.beq_eq_decide_eq])
theorem e_neI {i j : Int} (ha : Eb ta S (.int i)) (hb : Eb tb S (.int j)) : Eb (tOp (rNeD K) ta tb) S (.bool (!decide (i = j))) := by
  have h := e_ne (K := K) ha hb rfl rfl
  exact h.to (by show PyData.bool (!(i == j)) = _; rw [Bool.beq_eq_decide_eq])
/-! is None -/
omit [KK] in
def rIsNo : R2 := fun x y H Q => y = .non ∧ Q (.bl (decide (x = .non))) H
omit [KK] in
def rNotNo : R2 := fun x y H Q => y = .non ∧ Q (.bl (!decide (x = .non))) H
omit [KK] in
theorem op_isNo {X : Cx} : OpR X (compareOp .Is) rIsNo := op_isN
omit [KK] in
theorem op_notNo {X : Cx} : OpR X (compareOp .IsNot) rNotNo := op_notN
omit [KK] in
def isNo : PyData → Bool
  | .none => true
  | _ => false
theorem Da.isNo {H : Hp} {d : PyData} {v : V} (h : Da H d v) : decide (v = .non) = isNo d := by
  cases d with
  | none => have e : v = V.non := h; rw [e]; rfl
  | bool b => have e : v = V.bl b := h; rw [e]; rfl
  | int i => have e : v = V.int i := h; rw [e]; rfl
  | str x => have e : v = V.str x := h; rw [e]; rfl
  | list ds => obtain ⟨a, xs, e, _⟩ := h; rw [e]; rfl
  | tuple ds => obtain ⟨a, xs, e, _⟩ := h; rw [e]; rfl
  | dict _ => obtain ⟨a, e, _⟩ := h; rw [e]; rfl
theorem e_isN (ha : Eb ta S d) : Eb (tOp rIsNo ta (tC .non)) S (.bool (isNo d)) :=
  e_op ha e_non fun x y H Q q1 q2 q => ⟨q2, q _ H (Same.refl H) (by rw [q1.isNo]; rfl)⟩
theorem e_notN (ha : Eb ta S d) : Eb (tOp rNotNo ta (tC .non)) S (.bool (!isNo d)) :=
  e_op ha e_non fun x y H Q q1 q2 q => ⟨q2, q _ H (Same.refl H) (by rw [q1.isNo]; rfl)⟩
/-! a op b op c -/
theorem e_chain {a b c : Int} {g g' : Int → Int → Bool} (ha : Eb ta S (.int a)) (hb : Eb tb S (.int b)) (hc : Eb tc S (.int c)) :
    Eb (tChain (rI0 fun i j => .bl (g i j)) (rI0 fun i j => .bl (g' i j)) ta tb tc) S (.bool (g a b && g' b c)) := fun H σ r Q q =>
  ha H σ r _ fun x H1 e1 h1 => hb H1 σ (r.mono e1) _ fun y H2 e2 h2 => ⟨a, b, h1, h2, g a b, rfl, by
    cases hg : g a b with
    | false => exact q _ H2 (e1.trans e2) (by rw [hg]; rfl)
    | true => exact hc H2 σ ((r.mono e1).mono e2) _ fun z H3 e3 h3 => ⟨b, c, h2, h3, q _ H3 ((e1.trans e2).trans e3) (by rw [hg]; rfl)⟩⟩
/-! and, or, not, if as values -/
theorem e_and {a b : Bool} (h1 : Eb ta S (.bool a)) (h2 : a = true → Eb tb S (.bool b)) : Eb (tAndV ta tb) S (.bool (a && b)) := fun H σ r Q q =>
  h1 H σ r _ fun x H1 e1 q1 => ⟨a, q1, by
    cases a with
    | true => exact h2 rfl H1 σ (r.mono e1) Q fun v H2 e2 q2 => q v H2 (e1.trans e2) q2
    | false => exact q _ H1 e1 rfl⟩
theorem e_or {a b : Bool} (h1 : Eb ta S (.bool a)) (h2 : a = false → Eb tb S (.bool b)) : Eb (tOrV ta tb) S (.bool (a || b)) := fun H σ r Q q =>
  h1 H σ r _ fun x H1 e1 q1 => ⟨a, q1, by
    cases a with
    | false => exact h2 rfl H1 σ (r.mono e1) Q fun v H2 e2 q2 => q v H2 (e1.trans e2) q2
    | true => exact q _ H1 e1 rfl⟩
theorem e_not {a : Bool} (h1 : Eb ta S (.bool a)) : Eb (tNotV ta) S (.bool (!a)) := fun H σ r Q q =>
  h1 H σ r _ fun x H1 e1 q1 => ⟨a, q1, q _ H1 e1 rfl⟩
theorem e_if {b : Bool} (h : Et tt S b) (h1 : b = true → Eb ta S d) (h2 : b = false → Eb tb S d) : Eb (tIf tt ta tb) S d := fun H σ r Q q =>
  h H σ r _ fun H1 e1 => by
    cases b with
    | true => exact h1 rfl H1 σ (r.mono e1) Q fun v H2 e2 q2 => q v H2 (e1.trans e2) q2
    | false => exact h2 rfl H1 σ (r.mono e1) Q fun v H2 e2 q2 => q v H2 (e1.trans e2) q2
/-! tests -/
theorem t_test {b : Bool} (h : Eb te S (.bool b)) : Et (tTest te) S b := fun H σ r Q q => h H σ r _ fun x H1 e1 q1 => ⟨b, q1, q H1 e1⟩
theorem t_B {b : Bool} (h : Eb te S (.bool b)) : Et (tB te) S b := fun H σ r Q q => h H σ r _ fun x H1 e1 q1 => ⟨b, q1, q H1 e1⟩
theorem t_and {a b : Bool} (h1 : Et tt S a) (h2 : a = true → Et tu S b) : Et (tAnd tt tu) S (a && b) := fun H σ r Q q => h1 H σ r _ fun H1 e1 => by
  cases a with
  | true => exact h2 rfl H1 σ (r.mono e1) Q fun H2 e2 => q H2 (e1.trans e2)
  | false => exact q H1 e1
theorem t_or {a b : Bool} (h1 : Et tt S a) (h2 : a = false → Et tu S b) : Et (tOr tt tu) S (a || b) := fun H σ r Q q => h1 H σ r _ fun H1 e1 => by
  cases a with
  | false => exact h2 rfl H1 σ (r.mono e1) Q fun H2 e2 => q H2 (e1.trans e2)
  | true => exact q H1 e1
theorem t_not {a : Bool} (h1 : Et tt S a) : Et (tNot tt) S (!a) := fun H σ r Q q => h1 H σ r _ fun H1 e1 => q H1 e1
omit [KK] in
/-- a value's truth -/
def tTru (K : PySem.W.Frag) (ta : TE) : TT := fun σ H Q => ta σ H fun x H' => ∃ k, TruV K x H' k ∧ Q k H'
omit [KK] in
theorem pt_tru {X : Cx} {a : Expr} (ha : PE X a ta) (he : ∀ whole, isTrue a X.env whole = (do let v ← whole; standAt a.pos; holding [v] (truthy v)) := by intro _; rfl) : PT X a (tTru X.K ta) := pt_truth ha he
theorem t_truB {b : Bool} (h : Eb te S (.bool b)) : Et (tTru K te) S b := fun H σ r Q q => h H σ r _ fun x H1 e1 q1 => by
  have e : x = .bl b := q1
  subst e
  exact ⟨b, rfl, q H1 e1⟩
theorem t_truI {i : Int} (h : Eb te S (.int i)) : Et (tTru K te) S (i != 0) := fun H σ r Q q => h H σ r _ fun x H1 e1 q1 => by
  have e : x = .int i := q1
  subst e
  exact ⟨_, rfl, q H1 e1⟩
theorem t_truL (h : Eb te S (.list ds)) : Et (tTru K te) S (!ds.isEmpty) := fun H σ r Q q => h H σ r _ fun x H1 e1 q1 => by
  obtain ⟨a, xs, e, h1, h2⟩ := q1
  subst e
  refine ⟨_, .inl ⟨xs, SqL.of h1, rfl⟩, ?_⟩
  have hl := h2.length
  have e : xs.isEmpty = ds.isEmpty := by
    cases xs <;> cases ds <;> simp_all
  rw [e]
  exact q H1 e1
theorem t_truS {x : Str} (h : Eb te S (.str x)) (hz : x.length ≤ 100000) : Et (tTru K te) S ((x.length : Int) != 0) := fun H σ r Q q => h H σ r _ fun y H1 e1 q1 => by
  have e : y = .str x := q1
  subst e
  exact ⟨_, ⟨line_of hz, rfl⟩, q H1 e1⟩
/-! arguments, displays -/
theorem a_nil : Ea tNil S [] := fun H σ r Q q => q [] H (Same.refl H) rfl
theorem a_cons {tr : TA} (h : Eb te S d) (hr : Ea tr S ds) : Ea (tCons te tr) S (d :: ds) := fun H σ r Q q =>
  h H σ r _ fun x H1 e1 q1 => hr H1 σ (r.mono e1) _ fun xs H2 e2 q2 => q _ H2 (e1.trans e2) ⟨x, xs, rfl, Da.mono e2 _ _ q1, q2⟩
theorem ap_nil : Eap tNil S [] := fun H σ r Q q => q [] H (Same.refl H) rfl
theorem ap_cons {tr : TA} (h : Ep te S d) (hr : Eap tr S ds) : Eap (tCons te tr) S (d :: ds) := fun H σ r Q q =>
  h H σ r _ fun x H1 e1 q1 => hr H1 σ (r.mono e1) _ fun xs H2 e2 q2 => q _ H2 (e1.trans e2) ⟨x, xs, rfl, Da.mono (Gm_mono e2) _ _ q1, q2⟩
omit [KK] in
theorem same_new {H : Hp} {p : Addr} {o : HO} (hp : H p = none) : Same H (upd H p o) := fun c u e => by
  rw [upd_ne (ne_of_none e hp)]
  exact e
theorem e_tup {ta : TA} (h : Ea ta S ds) (hz : ds.length ≤ 100000) : Eb (tTup ta) S (.tuple ds) := fun H σ r Q q => h H σ r _ fun xs H1 e1 q1 =>
  ⟨line_of (by rw [q1.length]; exact hz), fun p hp => q _ _ (e1.trans (same_new hp)) ⟨p, xs, rfl, upd_same, DaL.mono (same_new hp) _ _ q1⟩⟩
theorem ep_tup {ta : TA} (h : Eap ta S ds) (hz : ds.length ≤ 100000) : Ep (tTup ta) S (.tuple ds) := fun H σ r Q q => h H σ r _ fun xs H1 e1 q1 =>
  ⟨line_of (by rw [q1.length]; exact hz), fun p hp => q _ _ (e1.trans (same_new hp)) ⟨p, xs, rfl, Gm_of ((r.mono e1).notOwn hp) upd_same, DaL.mono (Gm_mono (same_new hp)) _ _ q1⟩⟩
theorem n_lst {ta : TA} (h : Ea ta S ds) (hz : ds.length ≤ 100000) : En (tLst ta) S ds := fun H σ r Q q => h H σ r _ fun xs H1 e1 q1 =>
  ⟨line_of (by rw [q1.length]; exact hz), fun p hp => q _ _ (e1.trans (same_new hp)) (e1.free hp) ⟨p, xs, rfl, upd_same, DaL.mono (same_new hp) _ _ q1⟩⟩
/-! calls of built-ins by their rules -/
theorem e_cb {r : List V → Hp → VK → Prop} {ta : TA} (h : Ea ta S ds) (hr : ∀ (vs : List V) (H : Hp) (Q : VK), DaL H ds vs → (∀ v H1, Same H H1 → Da H1 d v → Q v H1) → r vs H Q) : Eb (tCB r ta) S d := fun H σ rl Q q =>
  h H σ rl _ fun vs H1 e1 q1 => hr vs H1 Q q1 fun v H2 e2 q2 => q v H2 (e1.trans e2) q2
theorem n_cb {r : List V → Hp → VK → Prop} {ta : TA} (h : Ea ta S ds) (hr : ∀ (vs : List V) (H : Hp) (Q : VK), DaL H ds vs → (∀ l H1, Same H H1 → H l = none → Da H1 (.list es) (.ref l) → Q (.ref l) H1) → r vs H Q) : En (tCB r ta) S es := fun H σ rl Q q =>
  h H σ rl _ fun vs H1 e1 q1 => hr vs H1 Q q1 fun l H2 e2 hl q2 => q l H2 (e1.trans e2) (e1.free hl) q2
theorem DaL.v1 {H : Hp} {d : PyData} {vs : List V} (h : DaL H [d] vs) : ∃ v, vs = [v] ∧ Da H d v := by
  obtain ⟨v, r, e, h1, h2⟩ := h
  have e2 : r = [] := h2
  subst e2
  exact ⟨v, e, h1⟩
theorem DaL.v2 {H : Hp} {d e : PyData} {vs : List V} (h : DaL H [d, e] vs) : ∃ v w, vs = [v, w] ∧ Da H d v ∧ Da H e w := by
  obtain ⟨v, r, e1, h1, h2⟩ := h
  obtain ⟨w, rfl, h3⟩ := h2.v1
  exact ⟨v, w, e1, h1, h3⟩
omit [KK] in
def rLen (K : PySem.W.Frag) : List V → Hp → VK → Prop := fun xs H Q => ∃ x n, xs = [x] ∧ LenV K x H n ∧ Q (.int n) H
omit [KK] in
theorem cr_len {X : Cx} : CallR X (.builtin "len") (rLen X.K) := call_len
theorem e_lenL (h : Eb te S (.list ds)) : Eb (tCB (rLen K) (tCons te tNil)) S (.int (ds.length : Nat)) := e_cb (a_cons h a_nil) fun vs H Q h q => by
  obtain ⟨v, rfl, h1⟩ := h.v1
  obtain ⟨a, xs, rfl, h2, h3⟩ := h1
  exact ⟨_, xs.length, rfl, .inl ⟨xs, SqL.of h2, rfl⟩, by rw [h3.length]; exact q _ H (Same.refl H) rfl⟩
theorem e_lenT (h : Eb te S (.tuple ds)) : Eb (tCB (rLen K) (tCons te tNil)) S (.int (ds.length : Nat)) := e_cb (a_cons h a_nil) fun vs H Q h q => by
  obtain ⟨v, rfl, h1⟩ := h.v1
  obtain ⟨a, xs, rfl, h2, h3⟩ := h1
  exact ⟨_, xs.length, rfl, .inr ⟨xs, SqT.of h2, rfl⟩, by rw [h3.length]; exact q _ H (Same.refl H) rfl⟩
theorem e_lenS {x : Str} (h : Eb te S (.str x)) (hz : x.length ≤ 100000) : Eb (tCB (rLen K) (tCons te tNil)) S (.int (x.length : Nat)) := e_cb (a_cons h a_nil) fun vs H Q h q => by
  obtain ⟨v, rfl, h1⟩ := h.v1
  exact ⟨_, x.length, rfl, by rw [show v = .str x from h1]; exact ⟨line_of hz, rfl⟩, q _ H (Same.refl H) rfl⟩
theorem e_lenF {ns : List Int} (h : Eb te S (frz ns)) : Eb (tCB (rLen KK.K) (tCons te tNil)) S (.int (ns.length : Nat)) := e_cb (a_cons h a_nil) fun vs H Q h q => by
  obtain ⟨v, rfl, h1⟩ := h.v1
  obtain ⟨a, rfl, h2⟩ := h1
  rw [frzV_map] at h2
  exact ⟨_, (ns.map V.int).length, rfl, .inl ⟨_, h2, rfl⟩, by rw [List.length_map]; exact q _ H (Same.refl H) rfl⟩
omit [KK] in
def rList (K : PySem.W.Frag) : List V → Hp → VK → Prop := fun xs H Q => ∃ p ys, xs = [.ref p] ∧ (SqL K H p ys ∨ SqT K H p ys) ∧ ∀ l, H l = none → Q (.ref l) (upd H l (.lst ys))
omit [KK] in
theorem cr_list {X : Cx} : CallR X (.type "list") (rList X.K) := call_list_of
theorem n_list (h : Eb te S (.list ds)) : En (tCB (rList K) (tCons te tNil)) S ds := n_cb (a_cons h a_nil) fun vs H Q h q => by
  obtain ⟨v, rfl, h1⟩ := h.v1
  obtain ⟨a, xs, rfl, h2, h3⟩ := h1
  exact ⟨a, xs, rfl, .inl (SqL.of h2), fun l hl => q l _ (same_new hl) hl ⟨l, xs, rfl, upd_same, DaL.mono (same_new hl) _ _ h3⟩⟩
omit [KK] in
def rTuple (K : PySem.W.Frag) : List V → Hp → VK → Prop := fun xs H Q => ∃ p ys, xs = [.ref p] ∧ ((SqL K H p ys ∧ ∀ l, H l = none → Q (.ref l) (upd H l (.tup ys))) ∨ (SqT K H p ys ∧ Q (.ref p) H))
omit [KK] in
theorem cr_tuple {X : Cx} : CallR X (.type "tuple") (rTuple X.K) := call_tuple_of
theorem e_tuple (h : Eb te S (.list ds)) : Eb (tCB (rTuple K) (tCons te tNil)) S (.tuple ds) := e_cb (a_cons h a_nil) fun vs H Q h q => by
  obtain ⟨v, rfl, h1⟩ := h.v1
  obtain ⟨a, xs, rfl, h2, h3⟩ := h1
  exact ⟨a, xs, rfl, .inl ⟨SqL.of h2, fun l hl => q (.ref l) _ (same_new hl) ⟨l, xs, rfl, upd_same, DaL.mono (same_new hl) _ _ h3⟩⟩⟩
theorem e_sum {ns : List Int} (h : Eb te S (.list (ns.map .int))) : Eb (tCB (rSum K) (tCons te tNil)) S (.int ns.sum) := e_cb (a_cons h a_nil) fun vs H Q h q => by
  obtain ⟨v, rfl, h1⟩ := h.v1
  obtain ⟨a, xs, rfl, h2, h3⟩ := h1
  exact ⟨a, ns, rfl, by rw [← h3.ints]; exact SqL.of h2, q _ H (Same.refl H) rfl⟩
theorem e_maxL {ns : List Int} {m : Int} (h : Eb te S (.list (ns.map .int))) (hm : m ∈ ns) (hle : ∀ y ∈ ns, y ≤ m) : Eb (tCB (rMax K) (tCons te tNil)) S (.int m) := e_cb (a_cons h a_nil) fun vs H Q h q => by
  obtain ⟨v, rfl, h1⟩ := h.v1
  obtain ⟨a, xs, rfl, h2, h3⟩ := h1
  refine ⟨a, ns, rfl, by rw [← h3.ints]; exact SqL.of h2, List.length_pos_of_mem hm, fun m' h1 h2 => ?_⟩
  have e : m' = m := Int.le_antisymm (hle m' h1) (h2 m hm)
  rw [e]
  exact q _ H (Same.refl H) rfl
omit [KK] in
def rMax2 : List V → Hp → VK → Prop := fun xs H Q => ∃ i j, xs = [.int i, .int j] ∧ Q (.int (if j > i then j else i)) H
omit [KK] in
def rMin2 : List V → Hp → VK → Prop := fun xs H Q => ∃ i j, xs = [.int i, .int j] ∧ Q (.int (if j < i then j else i)) H
omit [KK] in
theorem cr_max2 {X : Cx} (hc : X.calm = true) : CallR X (.builtin "max") rMax2 := call_max2 hc
omit [KK] in
theorem cr_min2 {X : Cx} (hc : X.calm = true) : CallR X (.builtin "min") rMin2 := call_min2 hc
theorem e_max2 {i j : Int} (ha : Eb ta S (.int i)) (hb : Eb tb S (.int j)) : Eb (tCB rMax2 (tCons ta (tCons tb tNil))) S (.int (max i j)) := e_cb (a_cons ha (a_cons hb a_nil)) fun vs H Q h q => by
  obtain ⟨v, w, rfl, h1, h2⟩ := h.v2
  refine ⟨i, j, by rw [show v = .int i from h1, show w = .int j from h2], ?_⟩
  have e : (if j > i then j else i) = max i j := by rw [Int.max_def]; split <;> split <;> omega
  rw [e]
  exact q _ H (Same.refl H) rfl
theorem e_min2 {i j : Int} (ha : Eb ta S (.int i)) (hb : Eb tb S (.int j)) : Eb (tCB rMin2 (tCons ta (tCons tb tNil))) S (.int (min i j)) := e_cb (a_cons ha (a_cons hb a_nil)) fun vs H Q h q => by
  obtain ⟨v, w, rfl, h1, h2⟩ := h.v2
  refine ⟨i, j, by rw [show v = .int i from h1, show w = .int j from h2], ?_⟩
  have e : (if j < i then j else i) = min i j := by rw [Int.min_def]; split <;> split <;> omega
  rw [e]
  exact q _ H (Same.refl H) rfl
theorem n_sorted {ns ms : List Int} (h : Eb te S (.list (ns.map .int))) (hz : ns.length < 64) (hu : ∀ ms', ms'.Perm ns → ms'.Pairwise (· ≤ ·) → ms' = ms) : En (tCB (rSorted K) (tCons te tNil)) S (ms.map .int) := n_cb (a_cons h a_nil) fun vs H Q h q => by
  obtain ⟨v, rfl, h1⟩ := h.v1
  obtain ⟨a, xs, rfl, h2, h3⟩ := h1
  refine ⟨a, ns, rfl, by rw [← h3.ints]; exact SqL.of h2, hz, fun ms' p h4 h5 hp => ?_⟩
  have e := hu ms' h4 h5
  subst e
  exact q p _ (same_new hp) hp ⟨p, _, rfl, upd_same, DaL.of_ints⟩
/-! isinstance(x, a built-in class) -/
omit [KK] in
def tyN : PyData → String
  | .none => "NoneType"
  | .bool _ => "bool"
  | .int _ => "int"
  | .str _ => "str"
  | .list _ => "list"
  | .tuple _ => "tuple"
  | .dict _ => "list"
theorem Da.ty {H : Hp} {d : PyData} {v : V} (h : Da H d v) : TyX KK.K H v (.type (tyN d)) := by
  cases d with
  | none => have e : v = V.non := h; rw [e]; exact .base .non
  | bool b => have e : v = V.bl b := h; rw [e]; exact .base (.bl b)
  | int i => have e : v = V.int i := h; rw [e]; exact .base (.int i)
  | str x => have e : v = V.str x := h; rw [e]; exact .base (.str x)
  | list ds => obtain ⟨a, xs, e, h1, _⟩ := h; rw [e]; exact .base (.lst h1)
  | tuple ds => obtain ⟨a, xs, e, h1, _⟩ := h; rw [e]; exact .base (.tup h1)
  | dict _ =>
    obtain ⟨a, e, h1⟩ := h
    rw [e]
    rcases h1 with (h1 | ⟨o, h1⟩) | ⟨o, its, n, hk, hc, _⟩
    · exact .base (.lst h1)
    · exact .base (.frz h1)
    · exact .kList hk hc
theorem e_isi {T : String} {b : Bool} (h : Eb te S d) (hk : PySem.W.kitOne KK.K (.type (tyN d)) (.type T) = some b) : Eb (tCB (rIsi KK.K) (tCons te (tCons (tC (.ty T)) tNil))) S (.bool b) := fun H σ r Q q =>
  h H σ r _ fun v H1 e1 q1 => ⟨v, .ty T, .type (tyN d), .type T, b, rfl, .ty T, q1.ty, hk, q _ H1 e1 rfl⟩
/-! slices -/
omit [KK] in
def rSl (K : PySem.W.Frag) : V → Option Int → Option Int → Hp → VK → Prop := fun x lo hi H Q => rSlL K x lo hi H Q ∨ rSlS x lo hi H Q
omit [KK] in
theorem sl_any {X : Cx} : SlR X (rSl X.K) := sl_list.or sl_str
theorem o_no : Eo tNoPart S none := fun H σ r Q q => q H (Same.refl H)
theorem o_some {i : Int} (h : Eb te S (.int i)) : Eo (tPart te) S (some i) := fun H σ r Q q => h H σ r _ fun v H1 e1 q1 => ⟨i, q1, q H1 e1⟩
omit [KK] in
def cutD (ds : List PyData) (lo hi : Option Int) : List PyData := (ds.drop (HT.sIx ds.length 0 lo)).take (HT.sIx ds.length ds.length hi - HT.sIx ds.length 0 lo)
theorem n_slL {tl th : TO} {lo hi : Option Int} (h : Eb te S (.list ds)) (h1 : Eo tl S lo) (h2 : Eo th S hi) : En (tSl (rSl K) te tl th) S (cutD ds lo hi) := fun H σ r Q q =>
  h H σ r _ fun v H1 e1 q1 => h1 H1 σ (r.mono e1) _ fun H2 e2 => h2 H2 σ ((r.mono e1).mono e2) _ fun H3 e3 => by
    obtain ⟨a, xs, rfl, h4, h5⟩ := q1
    have e13 := e2.trans e3
    refine .inl ⟨a, xs, rfl, SqL.of (e13 a _ h4), fun p hp => q p _ ((e1.trans e13).trans (same_new hp)) ((e1.trans e13).free hp) ⟨p, _, rfl, upd_same, ?_⟩⟩
    refine DaL.mono (same_new hp) _ _ ?_
    unfold cutV cutD
    rw [h5.length]
    exact ((DaL.mono e13 _ _ h5).drop _).take _
theorem e_slS {tl th : TO} {lo hi : Option Int} {x : Str} (h : Eb te S (.str x)) (h1 : Eo tl S lo) (h2 : Eo th S hi) (hz : x.length ≤ 100000) : Eb (tSl (rSl K) te tl th) S (.str (cutS x lo hi)) := fun H σ r Q q =>
  h H σ r _ fun v H1 e1 q1 => h1 H1 σ (r.mono e1) _ fun H2 e2 => h2 H2 σ ((r.mono e1).mono e2) _ fun H3 e3 => .inr ⟨x, q1, line_of hz, q _ H3 ((e1.trans e2).trans e3) rfl⟩
theorem n_rev (h : Eb te S (.list ds)) : En (tRevL K te) S ds.reverse := fun H σ r Q q =>
  h H σ r _ fun v H1 e1 q1 => by
    obtain ⟨a, xs, rfl, h4, h5⟩ := q1
    exact ⟨a, xs, rfl, SqL.of h4, fun p hp => q p _ (e1.trans (same_new hp)) (e1.free hp) ⟨p, _, rfl, upd_same, DaL.mono (same_new hp) _ _ h5.reverse⟩⟩
end
end DL

namespace DL
open PySem L2
variable [KK]
/-! ### outcomes -/
/-- what a def gives: a value, a new list; an exception of a class of the program's own -/
inductive Ro where
  | va (d : PyData)
  | nw (ds : List PyData)
  | ex (C : Addr)
inductive Ou where
  | nx (S : DSt)
  | ct (S : DSt)
  | bk (S : DSt)
  | rt (r : Ro)
def FinR (E : XK) (Qv : VK) (G : Hp) : Ro → Prop
  | .va d => ∀ v H', Same G H' → Da H' d v → Qv v H'
  | .nw ds => ∀ l H', Same G H' → G l = none → Da H' (.list ds) (.ref l) → Qv (.ref l) H'
  | .ex C => ∀ H', Same G H' → E (.ref C) none H'
def Fin (E : XK) (D : Ends) (G : Hp) : Ou → Prop
  | .nx S' => ∀ σ' H', Rl H' σ' S' → Same G (Gm σ' S' H') → D.nx σ' H'
  | .ct S' => ∀ σ' H', Rl H' σ' S' → Same G (Gm σ' S' H') → D.ct σ' H'
  | .bk S' => ∀ σ' H', Rl H' σ' S' → Same G (Gm σ' S' H') → D.bk σ' H'
  | .rt r => FinR E D.rt G r
theorem FinR.up {E : XK} {Qv : VK} {G G' : Hp} {r : Ro} (e : Same G G') (h : FinR E Qv G r) : FinR E Qv G' r := by
  cases r with
  | va d => exact fun v H' e' q => h v H' (e.trans e') q
  | nw ds => exact fun l H' e' hl q => h l H' (e.trans e') (e.free hl) q
  | ex C => exact fun H' e' => h H' (e.trans e')
theorem Fin.up {E : XK} {D : Ends} {G G' : Hp} {o : Ou} (e : Same G G') (h : Fin E D G o) : Fin E D G' o := by
  cases o with
  | nx S => exact fun σ H r q => h σ H r (e.trans q)
  | ct S => exact fun σ H r q => h σ H r (e.trans q)
  | bk S => exact fun σ H r q => h σ H r (e.trans q)
  | rt r => exact FinR.up e h
/-- a statement's reading, run from what the slots hold -/
def DX (E : XK) (t : TS) (S : DSt) (o : Ou) : Prop := ∀ D H σ, Rl H σ S → Fin E D (Gm σ S H) o → t D σ H

section
variable {E : XK} {S S1 S2 : DSt} {t u : TS} {o : Ou} {te ta tb : TE} {tt : TT} {d : PyData} {ds es : List PyData} {K : PySem.W.Frag} {r : Ro}
theorem x_seq (h1 : DX E t S (.nx S1)) (h2 : DX E u S1 o) : DX E (tSeq t u) S o := fun D H σ rl k =>
  h1 _ H σ rl fun σ' H' rl' e => h2 D H' σ' rl' (k.up e)
theorem x_seqR (h1 : DX E t S (.rt r)) : DX E (tSeq t u) S (.rt r) := fun D H σ rl k => h1 _ H σ rl k
theorem x_seqC (h1 : DX E t S (.ct S1)) : DX E (tSeq t u) S (.ct S1) := fun D H σ rl k => h1 _ H σ rl k
theorem x_seqB (h1 : DX E t S (.bk S1)) : DX E (tSeq t u) S (.bk S1) := fun D H σ rl k => h1 _ H σ rl k
theorem x_next : DX E tNext S (.nx S) := fun D H σ rl k => k σ H rl (Same.refl _)
theorem x_if {b : Bool} (hc : Et tt S b) (h1 : b = true → DX E t S o) (h2 : b = false → DX E u S o) : DX E (tIfS tt t u) S o := fun D H σ rl k =>
  hc H σ rl _ fun H1 e1 => by
    cases b with
    | true => exact h1 rfl D H1 σ (rl.mono e1) (k.up (Gm_mono e1))
    | false => exact h2 rfl D H1 σ (rl.mono e1) (k.up (Gm_mono e1))
theorem x_ret (h : Eb te S d) : DX E (tRet te) S (.rt (.va d)) := fun D H σ rl k => h H σ rl _ fun v H1 e1 q => k v H1 (Gm_le.trans e1) q
theorem x_retN (h : En te S ds) : DX E (tRet te) S (.rt (.nw ds)) := fun D H σ rl k => h H σ rl _ fun l H1 e1 hl q => k l H1 (Gm_le.trans e1) (Gm_le.free hl) q
theorem x_retNon : DX E tRetN S (.rt (.va .none)) := fun D H σ rl k => k _ H Gm_le rfl
/-- an owned list is given away -/
theorem x_retO {i : Nat} (h : S[i]? = some (.ow ds)) : DX E (tRet (tVar i)) S (.rt (.nw ds)) := fun D H σ rl k => by
  obtain ⟨l, xs, h1, h2, h3, _⟩ := rl.ow i ds h
  refine ⟨.ref l, h1, k l H Gm_le ?_ ⟨l, xs, rfl, h2, DaL.mono Gm_le ds xs h3⟩⟩
  unfold Gm
  rw [if_pos ⟨i, ds, h, h1⟩]
theorem x_drop (h : Eb te S d) : DX E (tDrop te) S (.nx S) := fun D H σ rl k => h H σ rl _ fun v H1 e1 q => k σ H1 (rl.mono e1) (Gm_mono e1)

/-! stores -/
omit [KK] in
theorem set_get {α : Type} {l : List α} {i j : Nat} {x y : α} (h : (l.set i x)[j]? = some y) : (j = i ∧ x = y ∧ i < l.length) ∨ (j ≠ i ∧ l[j]? = some y) := by
  by_cases e : j = i
  · subst e
    have hi : j < l.length := by
      have q := (List.getElem?_eq_some_iff.mp h).1
      rw [List.length_set] at q
      exact q
    rw [List.getElem?_set_self hi] at h
    exact .inl ⟨rfl, Option.some.inj h, hi⟩
  · rw [List.getElem?_set_ne (Ne.symm e)] at h
    exact .inr ⟨e, h⟩
theorem Own.set_va {σ : St} {S : DSt} {i : Nat} {v : V} {s : Sl} {l : Addr} (hs : ∀ ds, s ≠ .ow ds) (h : Own (σ.set i (some v)) (S.set i s) l) : Own σ S l := by
  obtain ⟨j, ds, h1, h2⟩ := h
  rcases set_get h1 with ⟨_, e, _⟩ | ⟨ne, h1⟩
  · exact absurd e (hs ds)
  · rcases set_get h2 with ⟨e, _⟩ | ⟨_, h2⟩
    · exact absurd e ne
    · exact ⟨j, ds, h1, h2⟩
theorem Gm_le_of {σ σ' : St} {S S' : DSt} {H : Hp} (h : ∀ l, Own σ' S' l → Own σ S l) : Same (Gm σ S H) (Gm σ' S' H) := fun a o q =>
  Gm_of (fun w => (Gm_some q).1 (h a w)) (Gm_some q).2
/-- slot i now holds v, told by d -/
theorem Rl.put {H : Hp} {σ : St} {S : DSt} {i : Nat} {v : V} {d : PyData} (rl : Rl H σ S) (h : Da (Gm σ S H) d v) : Rl H (σ.set i (some v)) (S.set i (.va d)) ∧ Same (Gm σ S H) (Gm (σ.set i (some v)) (S.set i (.va d)) H) := by
  have sm : Same (Gm σ S H) (Gm (σ.set i (some v)) (S.set i (.va d)) H) := Gm_le_of fun l w => Own.set_va (fun ds e => by cases e) w
  refine ⟨⟨by rw [List.length_set, List.length_set]; exact rl.len, fun j d' h' => ?_, fun j ds h' => ?_, fun j k ds es l h1 h2 h3 h4 => ?_⟩, sm⟩
  · rcases set_get h' with ⟨e, e2, hi⟩ | ⟨ne, h'⟩
    · cases e2
      subst e
      exact ⟨v, List.getElem?_set_self (by rw [rl.len]; exact hi), Da.mono sm _ _ h⟩
    · obtain ⟨w, h1, h2⟩ := rl.va j d' h'
      exact ⟨w, by rw [List.getElem?_set_ne (Ne.symm ne)]; exact h1, Da.mono sm _ _ h2⟩
  · rcases set_get h' with ⟨e, e2, hi⟩ | ⟨ne, h'⟩
    · cases e2
    · obtain ⟨l, xs, h1, h2, h3, h4⟩ := rl.ow j ds h'
      exact ⟨l, xs, by rw [List.getElem?_set_ne (Ne.symm ne)]; exact h1, h2, DaL.mono sm _ _ h3, h4⟩
  · rcases set_get h1 with ⟨_, e, _⟩ | ⟨n1, h1⟩
    · cases e
    rcases set_get h2 with ⟨_, e, _⟩ | ⟨n2, h2⟩
    · cases e
    rw [List.getElem?_set_ne (Ne.symm n1)] at h3
    rw [List.getElem?_set_ne (Ne.symm n2)] at h4
    exact rl.sep j k ds es l h1 h2 h3 h4
theorem x_set {i : Nat} (h : Ep te S d) : DX E (tAsg te (gName i)) S (.nx (S.set i (.va d))) := fun D H σ rl k => h H σ rl _ fun v H1 e1 q => by
  obtain ⟨h1, h2⟩ := (rl.mono e1).put (i := i) q
  exact k _ _ h1 ((Gm_mono e1).trans h2)
/-- slot i now holds a new list, that no one else holds -/
theorem x_setO {i : Nat} (h : En te S ds) (im : immL ds = true) : DX E (tAsg te (gName i)) S (.nx (S.set i (.ow ds))) := fun D H σ rl k => h H σ rl _ fun l H1 e1 hl q => by
  obtain ⟨a, xs, e, q1, q2⟩ := q
  cases e
  have rl1 := rl.mono e1
  have own : ∀ m, Own (σ.set i (some (.ref l))) (S.set i (.ow ds)) m → Own σ S m ∨ m = l := fun m ⟨j, es, h1, h2⟩ => by
    rcases set_get h1 with ⟨e, _, hi⟩ | ⟨ne, h1⟩
    · subst e
      rw [List.getElem?_set_self (by rw [rl.len]; exact hi)] at h2
      cases h2
      exact .inr rfl
    · rw [List.getElem?_set_ne (Ne.symm ne)] at h2
      exact .inl ⟨j, es, h1, h2⟩
  have sm : Same (Gm σ S H) (Gm (σ.set i (some (.ref l))) (S.set i (.ow ds)) H1) := fun a o q => by
    obtain ⟨n, q⟩ := Gm_some q
    refine Gm_of (fun w => ?_) (e1 a o q)
    rcases own a w with w | w
    · exact n w
    · rw [w, hl] at q
      cases q
  have tp : Tups H1 (Gm (σ.set i (some (.ref l))) (S.set i (.ow ds)) H1) := fun a ys q => Gm_of (fun w => by
    rcases own a w with w | w
    · obtain ⟨zs, z⟩ := rl1.owned w
      rw [q] at z
      cases z
    · rw [w, q1] at q
      cases q) q
  refine k _ H1 ⟨by rw [List.length_set, List.length_set]; exact rl.len, fun j d' h' => ?_, fun j es h' => ?_, fun j m es fs p h1 h2 h3 h4 => ?_⟩ sm
  · rcases set_get h' with ⟨_, e2, _⟩ | ⟨ne, h'⟩
    · cases e2
    · obtain ⟨w, z1, z2⟩ := rl.va j d' h'
      exact ⟨w, by rw [List.getElem?_set_ne (Ne.symm ne)]; exact z1, Da.mono sm _ _ z2⟩
  · rcases set_get h' with ⟨e, e2, hi⟩ | ⟨ne, h'⟩
    · cases e2
      subst e
      exact ⟨l, xs, List.getElem?_set_self (by rw [rl.len]; exact hi), q1, DaL.tups tp _ _ im q2, im⟩
    · obtain ⟨m, ys, z1, z2, z3, z4⟩ := rl.ow j es h'
      exact ⟨m, ys, by rw [List.getElem?_set_ne (Ne.symm ne)]; exact z1, e1 _ _ z2, DaL.mono sm _ _ z3, z4⟩
  · have nl : ∀ {j : Nat} {es : List PyData} {p : Addr}, S[j]? = some (Sl.ow es) → σ[j]? = some (some (V.ref p)) → p ≠ l := fun {j es p} z1 z2 z => by
      obtain ⟨m, ys, w1, w2, _⟩ := rl.ow j es z1
      rw [z2] at w1
      cases w1
      rw [z, hl] at w2
      cases w2
    rcases set_get h1 with ⟨e, _, hi⟩ | ⟨n1, g1⟩
    · rcases set_get h2 with ⟨e', _, hi'⟩ | ⟨n2, g2⟩
      · rw [e, e']
      · subst e
        rw [List.getElem?_set_self (by rw [rl.len]; exact hi)] at h3
        cases h3
        rw [List.getElem?_set_ne (Ne.symm n2)] at h4
        exact absurd rfl (nl g2 h4)
    · rw [List.getElem?_set_ne (Ne.symm n1)] at h3
      rcases set_get h2 with ⟨e', _, hi'⟩ | ⟨n2, g2⟩
      · subst e'
        rw [List.getElem?_set_self (by rw [rl.len]; exact hi')] at h4
        cases h4
        exact absurd rfl (nl g1 h3)
      · rw [List.getElem?_set_ne (Ne.symm n2)] at h4
        exact rl.sep j m es fs p g1 g2 h3 h4

/-! an owned list is changed -/
theorem Rl.change {H : Hp} {σ : St} {S : DSt} {i : Nat} {l : Addr} {xs ys : List V} {ds es : List PyData} (rl : Rl H σ S) (hi : S[i]? = some (.ow ds)) (hl : σ[i]? = some (some (.ref l))) (hx : H l = some (.lst xs)) (hy : DaL H es ys) (im : DL.immL es = true) :
    Rl (upd H l (.lst ys)) σ (S.set i (.ow es)) ∧ Same (Gm σ S H) (Gm σ (S.set i (.ow es)) (upd H l (.lst ys))) := by
  have hiS : i < S.length := (List.getElem?_eq_some_iff.mp hi).1
  have own : ∀ m, Own σ (S.set i (.ow es)) m → Own σ S m := fun m ⟨j, fs, h1, h2⟩ => by
    rcases set_get h1 with ⟨e, _, _⟩ | ⟨ne, h1⟩
    · subst e
      exact ⟨j, ds, hi, h2⟩
    · exact ⟨j, fs, h1, h2⟩
  have ol : Own σ S l := ⟨i, ds, hi, hl⟩
  have sm : Same (Gm σ S H) (Gm σ (S.set i (.ow es)) (upd H l (.lst ys))) := fun a o q => by
    obtain ⟨n, q⟩ := Gm_some q
    have ne : a ≠ l := fun z => n (z ▸ ol)
    exact Gm_of (fun w => n (own a w)) (by rw [upd_ne ne]; exact q)
  have tp : Tups H (Gm σ (S.set i (.ow es)) (upd H l (.lst ys))) := fun a zs q => sm a _ (rl.tups a zs q)
  refine ⟨⟨by rw [List.length_set]; exact rl.len, fun j d' h' => ?_, fun j fs h' => ?_, fun j m fs gs p h1 h2 h3 h4 => ?_⟩, sm⟩
  · rcases set_get h' with ⟨_, e2, _⟩ | ⟨ne, h'⟩
    · cases e2
    · obtain ⟨w, z1, z2⟩ := rl.va j d' h'
      exact ⟨w, z1, Da.mono sm _ _ z2⟩
  · rcases set_get h' with ⟨e, e2, _⟩ | ⟨ne, h'⟩
    · cases e2
      subst e
      exact ⟨l, ys, hl, upd_same, DaL.tups tp _ _ im hy, im⟩
    · obtain ⟨m, zs, z1, z2, z3, z4⟩ := rl.ow j fs h'
      refine ⟨m, zs, z1, ?_, DaL.mono sm _ _ z3, z4⟩
      rw [upd_ne]
      · exact z2
      · intro z
        subst z
        exact ne (rl.sep j i fs ds m h' hi z1 hl)
  · rcases set_get h1 with ⟨e, _, _⟩ | ⟨n1, h1⟩ <;> rcases set_get h2 with ⟨e', _, _⟩ | ⟨n2, h2⟩
    · rw [e, e']
    · rw [e] at h3 ⊢
      exact rl.sep i m ds gs p hi h2 h3 h4
    · rw [e'] at h4 ⊢
      exact rl.sep j i fs ds p h1 hi h3 h4
    · exact rl.sep j m fs gs p h1 h2 h3 h4
/-- xs.append(e) -/
theorem x_app {i : Nat} (hi : S[i]? = some (.ow ds)) (h : Eb te S d) (im : imm d = true) (hz : ds.length < 100000) : DX E (tDrop (tBM K "list" rAppend (tVar i) (tCons te tNil))) S (.nx (S.set i (.ow (ds ++ [d])))) := fun D H σ rl k => by
  obtain ⟨l, xs, h1, h2, h3, h4⟩ := rl.ow i ds hi
  refine ⟨.ref l, h1, .inl ⟨rfl, xs, SqL.of h2⟩, h H σ rl _ fun v H1 e1 q => ?_⟩
  have hx1 := e1 l _ h2
  refine ⟨l, xs, v, rfl, rfl, hx1, Nat.lt_of_lt_of_le (by rw [h3.length]; exact hz) (by decide : 100000 ≤ sizeLine), ?_⟩
  obtain ⟨r2, s2⟩ := (rl.mono e1).change hi h1 hx1 (ys := xs ++ [v]) (es := ds ++ [d]) ((DaL.mono (Gm_le.trans e1) _ _ h3).append (.one q)) (immL_append h4 (by show (imm d && immL []) = true; rw [im]; rfl))
  exact k _ _ r2 ((Gm_mono e1).trans s2)
/-- xs[j] = e -/
theorem x_put {i j : Nat} {z : Int} (hi : S[i]? = some (.ow ds)) (h : Eb te S d) (im : imm d = true) (hj : Eb tb S (.int z)) (hz : ixN ds.length z = some j) : DX E (tAsg te (gSub (tVar i) tb rSetL)) S (.nx (S.set i (.ow (ds.set j d)))) := fun D H σ rl k =>
  h H σ rl _ fun v H1 e1 q => by
    obtain ⟨l, xs, h1, h2, h3, h4⟩ := (rl.mono e1).ow i ds hi
    refine ⟨.ref l, h1, hj H1 σ (rl.mono e1) _ fun w H2 e2 q2 => ?_⟩
    have hx2 := e2 l _ h2
    refine ⟨l, xs, z, j, rfl, q2, hx2, by rw [h3.length]; exact hz, ?_⟩
    have imS : immL (ds.set j d) = true := by
      rw [immL_iff] at h4 ⊢
      intro x hx
      rcases List.mem_or_eq_of_mem_set hx with hx | hx
      · exact h4 x hx
      · rw [hx]
        exact im
    obtain ⟨r2, s2⟩ := ((rl.mono e1).mono e2).change hi h1 hx2 (ys := xs.set j v) (es := ds.set j d) ((DaL.mono (Gm_le.trans e2) _ _ h3).set j (Da.mono e2 _ _ q)) imS
    exact k _ _ r2 ((Gm_mono (e1.trans e2)).trans s2)

/-! ### knowing less -/
inductive Le : DSt → DSt → Prop
  | nil : Le [] []
  | eq {s S S'} : Le S S' → Le (s :: S) (s :: S')
  | va {d S S'} : Le S S' → Le (.va d :: S) (.no :: S')
  | ow {ds S S'} : Le S S' → Le (.ow ds :: S) (.no :: S')
  /-- an owned list becomes a value -/
  | fz {ds S S'} : Le S S' → Le (.ow ds :: S) (.va (.list ds) :: S')
theorem Le.rfl' : ∀ {S : DSt}, Le S S
  | [] => .nil
  | s :: S => .eq Le.rfl'
theorem Le.len {S S' : DSt} (h : Le S S') : S'.length = S.length := by
  induction h with
  | nil => rfl
  | eq _ ih => simpa using ih
  | va _ ih => simpa using ih
  | ow _ ih => simpa using ih
  | fz _ ih => simpa using ih
theorem Le.getO {S S' : DSt} (h : Le S S') : ∀ {i : Nat} {ds}, S'[i]? = some (.ow ds) → S[i]? = some (.ow ds) := by
  induction h with
  | nil => intro i ds e; exact e
  | eq _ ih => intro i ds e; cases i with
    | zero => exact e
    | succ i => exact ih (by simpa using e)
  | va _ ih => intro i ds e; cases i with
    | zero => cases e
    | succ i => exact ih (by simpa using e)
  | ow _ ih => intro i ds e; cases i with
    | zero => cases e
    | succ i => exact ih (by simpa using e)
  | fz _ ih => intro i ds e; cases i with
    | zero => cases e
    | succ i => exact ih (by simpa using e)
theorem Le.getV {S S' : DSt} (h : Le S S') : ∀ {i : Nat} {d}, S'[i]? = some (.va d) → S[i]? = some (.va d) ∨ ∃ ds, d = .list ds ∧ S[i]? = some (.ow ds) ∧ ∀ es, S'[i]? ≠ some (.ow es) := by
  induction h with
  | nil => intro i d e; exact .inl e
  | eq _ ih => intro i d e; cases i with
    | zero => exact .inl e
    | succ i => exact ih (by simpa using e)
  | va _ ih => intro i d e; cases i with
    | zero => cases e
    | succ i => exact ih (by simpa using e)
  | ow _ ih => intro i d e; cases i with
    | zero => cases e
    | succ i => exact ih (by simpa using e)
  | @fz ds _ _ _ ih => intro i d e; cases i with
    | zero =>
      have e' : Sl.va (.list ds) = .va d := Option.some.inj e
      cases e'
      exact .inr ⟨ds, rfl, rfl, fun es z => by cases z⟩
    | succ i => exact ih (by simpa using e)
theorem Rl.le {H : Hp} {σ : St} {S S' : DSt} (rl : Rl H σ S) (h : Le S S') : Rl H σ S' ∧ Same (Gm σ S H) (Gm σ S' H) := by
  have own : ∀ m, Own σ S' m → Own σ S m := fun m ⟨j, fs, h1, h2⟩ => ⟨j, fs, h.getO h1, h2⟩
  have sm : Same (Gm σ S H) (Gm σ S' H) := Gm_le_of own
  refine ⟨⟨by rw [rl.len, h.len], fun i d e => ?_, fun i ds e => ?_, fun i j ds es l h1 h2 => rl.sep i j ds es l (h.getO h1) (h.getO h2)⟩, sm⟩
  · rcases h.getV e with e | ⟨ds, rfl, e, ne⟩
    · obtain ⟨v, h1, h2⟩ := rl.va i d e
      exact ⟨v, h1, Da.mono sm _ _ h2⟩
    · obtain ⟨l, xs, h1, h2, h3, h4⟩ := rl.ow i ds e
      refine ⟨.ref l, h1, l, xs, rfl, Gm_of (fun ⟨j, fs, q1, q2⟩ => ?_) h2, DaL.mono sm _ _ h3⟩
      have hij := rl.sep i j ds fs l e (h.getO q1) h1 q2
      subst hij
      exact ne fs q1
  · obtain ⟨l, xs, h1, h2, h3, h4⟩ := rl.ow i ds (h.getO e)
    exact ⟨l, xs, h1, h2, DaL.mono sm _ _ h3, h4⟩
/-- from a state that is known better -/
theorem x_pre (h : DX E t S1 o) (l : Le S S1) : DX E t S o := fun D H σ rl k => let ⟨r1, s1⟩ := rl.le l; h D H σ r1 (k.up s1)
theorem x_post (h : DX E t S (.nx S1)) (l : Le S1 S2) : DX E t S (.nx S2) := fun D H σ rl k => h D H σ rl fun σ' H' r' e => let ⟨r1, s1⟩ := r'.le l; k σ' H' r1 (e.trans s1)
theorem Eb.pre (h : Eb te S1 d) (l : Le S S1) : Eb te S d := fun H σ rl Q q => h H σ (rl.le l).1 Q q
theorem Et.pre {b : Bool} (h : Et tt S1 b) (l : Le S S1) : Et tt S b := fun H σ rl Q q => h H σ (rl.le l).1 Q q

/-! ### targets -/
/-- d is stored: from S to S', only the slots ws change -/
def Dg (ws : List Nat) (g : TG) (d : PyData) (S S' : DSt) : Prop := ∀ H σ v, Rl H σ S → Da (Gm σ S H) d v →
  ∃ σ', Rl H σ' S' ∧ Same (Gm σ S H) (Gm σ' S' H) ∧ (σ'.length = σ.length ∧ ∀ j, j ∉ ws → σ'[j]? = σ[j]?) ∧ ∀ Q : St → Hp → Prop, Q σ' H → g v σ H Q
def DgL (ws : List Nat) (g : TGs) (ds : List PyData) (S S' : DSt) : Prop := ∀ H σ vs, Rl H σ S → DaL (Gm σ S H) ds vs →
  ∃ σ', Rl H σ' S' ∧ Same (Gm σ S H) (Gm σ' S' H) ∧ (σ'.length = σ.length ∧ ∀ j, j ∉ ws → σ'[j]? = σ[j]?) ∧ ∀ Q : St → Hp → Prop, Q σ' H → g vs σ H Q
theorem g_name {i : Nat} : Dg [i] (gName i) d S (S.set i (.va d)) := fun H σ v rl h => by
  obtain ⟨h1, h2⟩ := rl.put (i := i) h
  exact ⟨_, h1, h2, ⟨List.length_set, fun j hj => List.getElem?_set_ne (fun e => hj (by simp [e]))⟩, fun Q q => q⟩
theorem gs_nil : DgL [] gNil [] S S := fun H σ vs rl h => ⟨σ, rl, Same.refl _, ⟨rfl, fun _ _ => rfl⟩, fun Q q => ⟨h, q⟩⟩
theorem gs_cons {ws ws' : List Nat} {g : TG} {gs : TGs} (h1 : Dg ws g d S S1) (h2 : DgL ws' gs ds S1 S2) : DgL (ws ++ ws') (gCons g gs) (d :: ds) S S2 := fun H σ vs rl h => by
  obtain ⟨v, r, e, q1, q2⟩ := h
  obtain ⟨σ1, a1, a2, a3, a4⟩ := h1 H σ v rl q1
  obtain ⟨σ2, b1, b2, b3, b4⟩ := h2 H σ1 r a1 (DaL.mono a2 _ _ q2)
  exact ⟨σ2, b1, a2.trans b2, ⟨b3.1.trans a3.1, fun j hj => (b3.2 j fun z => hj (List.mem_append_right _ z)).trans (a3.2 j fun z => hj (List.mem_append_left _ z))⟩, fun Q q => ⟨v, r, e, a4 _ (b4 Q q)⟩⟩
theorem g_tup {ws : List Nat} {n : Nat} {gs : TGs} (h : DgL ws gs ds S S1) (hn : ds.length = n) : Dg ws (gTup K n gs) (.tuple ds) S S1 := fun H σ v rl hd => by
  obtain ⟨a, xs, e, q1, q2⟩ := hd
  obtain ⟨σ1, a1, a2, a3, a4⟩ := h H σ xs rl q2
  exact ⟨σ1, a1, a2, a3, fun Q q => ⟨a, xs, e, SqT.of (Gm_le a _ q1), by rw [q2.length]; exact hn, a4 Q q⟩⟩
theorem x_asg {ws : List Nat} {g : TG} (h : Ep te S d) (hg : Dg ws g d S S1) : DX E (tAsg te g) S (.nx S1) := fun D H σ rl k => h H σ rl _ fun v H1 e1 q => by
  obtain ⟨σ1, a1, a2, _, a4⟩ := hg H1 σ v (rl.mono e1) q
  exact a4 _ (k σ1 H1 a1 ((Gm_mono e1).trans a2))

/-! ### what a for walks -/
open Classical in
/-- what stood, and what is new in H' -/
noncomputable def gro (B H H' : Hp) : Hp := fun a => if H a = none then H' a else B a
structure Walk (J : It) (B : Hp) (ds : List PyData) : Prop where
  go : ∀ (i : Nat) H, i < ds.length → Same B H → J.go i H
  yl : ∀ (i : Nat) H x H', i < ds.length → Same B H → J.yld i H x H' → Same H H' ∧ ∃ d, ds[i]? = some d ∧ Da (gro B H H') d x
  st : ∀ H, Same B H → J.stop ds.length H
def Di (wi : TI) (S : DSt) (ds : List PyData) : Prop := ∀ H σ, Rl H σ S → ∀ R : It → Hp → Prop, (∀ J H1, Same H H1 → Walk J (Gm σ S H1) ds → R J H1) → wi σ H R
theorem gro_same {B H : Hp} (h : Same B H) : gro B H H = B := by
  funext a
  unfold gro
  split
  · rename_i e
    rw [e, (h.free e)]
  · rfl
theorem sqL_inj {H : Hp} {a : Addr} {xs ys : List V} (h : H a = some (.lst xs)) (h' : SqL K H a ys) : Rd H a (.lst ys) ∨ True := .inr trivial
theorem i_list (h : Ep te S (.list ds)) : Di (iList K te) S ds := fun H σ rl R k => h H σ rl _ fun v H1 e1 q => by
  obtain ⟨a, xs, e, q1, q2⟩ := q
  have q1' := (Gm_some q1).2
  refine ⟨a, e, ⟨xs, SqL.of q1'⟩, k _ H1 e1 ⟨fun i H' hi e' => ?_, fun i H' x H'' hi e' y => ?_, fun H' e' => ?_⟩⟩
  · have hx : i < xs.length := by rw [q2.length]; exact hi
    exact ⟨xs, xs[i], SqL.of (e' a _ q1), List.getElem?_eq_getElem hx⟩
  · obtain ⟨rfl, y⟩ := y
    obtain ⟨d, h1, h2⟩ := q2.get' (y xs (SqL.of (e' a _ q1)))
    exact ⟨Same.refl _, d, h1, by rw [gro_same e']; exact h2⟩
  · exact ⟨xs, SqL.of (e' a _ q1), by rw [q2.length]; exact Nat.le_refl _⟩
theorem i_tup (h : Ep te S (.tuple ds)) : Di (iTup K te) S ds := fun H σ rl R k => h H σ rl _ fun v H1 e1 q => by
  obtain ⟨a, xs, e, q1, q2⟩ := q
  have q1' := (Gm_some q1).2
  refine ⟨a, e, ⟨xs, SqT.of q1'⟩, k _ H1 e1 ⟨fun i H' hi e' => ?_, fun i H' x H'' hi e' y => ?_, fun H' e' => ?_⟩⟩
  · have hx : i < xs.length := by rw [q2.length]; exact hi
    exact ⟨xs, xs[i], SqT.of (e' a _ q1), List.getElem?_eq_getElem hx⟩
  · obtain ⟨rfl, y⟩ := y
    obtain ⟨d, h1, h2⟩ := q2.get' (y xs (SqT.of (e' a _ q1)))
    exact ⟨Same.refl _, d, h1, by rw [gro_same e']; exact h2⟩
  · exact ⟨xs, SqT.of (e' a _ q1), by rw [q2.length]; exact Nat.le_refl _⟩
theorem i_rng1 {ta : TA} {n : Int} (h : Ea ta S [.int n]) (hn : -100000 ≤ n ∧ n ≤ 100000) : Di (iRng1 ta) S ((List.range n.toNat).map fun (k : Nat) => .int (k : Int)) := fun H σ rl R k => h H σ rl _ fun vs H1 e1 q => by
  obtain ⟨v, rfl, q1⟩ := q.v1
  refine ⟨n, by rw [show v = .int n from q1], by omega, by omega, k _ H1 e1 ⟨fun i H' hi e' => ?_, fun i H' x H'' hi e' y => ?_, fun H' e' => ?_⟩⟩
  · show i < n.toNat
    simpa using hi
  · obtain ⟨rfl, rfl⟩ := y
    have hi' : i < n.toNat := by simpa using hi
    refine ⟨Same.refl _, .int (i : Int), by rw [List.getElem?_map, List.getElem?_range hi']; rfl, ?_⟩
    show V.int (0 + (i : Int)) = V.int i
    rw [Int.zero_add]
  · show n.toNat ≤ _
    simp
theorem i_enum (h : Ep te S (.list ds)) : Di (iEnum K (tCons te tNil)) S (ds.mapIdx fun (k : Nat) d => .tuple [.int (k : Int), d]) := fun H σ rl R k => h H σ rl _ fun v H1 e1 q => by
  obtain ⟨a, xs, e, q1, q2⟩ := q
  subst e
  have q1' := (Gm_some q1).2
  refine ⟨a, xs, rfl, SqL.of q1', k _ H1 e1 ⟨fun i H' hi e' => ?_, fun i H' x H'' hi e' y => ?_, fun H' e' => ?_⟩⟩
  · have hx : i < xs.length := by rw [q2.length]; simpa using hi
    exact ⟨xs, xs[i], SqL.of (e' a _ q1), List.getElem?_eq_getElem hx⟩
  · obtain ⟨T, x', rfl, hT, rfl, y⟩ := y
    obtain ⟨d, h1, h2⟩ := q2.get' (y xs (SqL.of (e' a _ q1)))
    refine ⟨same_new hT, .tuple [.int (i : Int), d], by rw [List.getElem?_mapIdx, h1]; rfl, T, [.int (i : Nat), x'], rfl, ?_, ?_⟩
    · unfold gro
      rw [if_pos hT]
      exact upd_same
    · refine ⟨_, _, rfl, rfl, x', _, rfl, Da.mono (fun b o hb => ?_) _ _ h2, rfl⟩
      unfold gro
      rw [if_neg (by rw [e' b o hb]; exact fun z => by cases z)]
      exact hb
  · exact ⟨xs, SqL.of (e' a _ q1), by rw [q2.length]; simp⟩
theorem i_zip {ta : TE} {es : List PyData} (h : Ep ta S (.list ds)) (h' : Ep tb S (.list es)) : Di (iZip K (tCons ta (tCons tb tNil))) S (List.zipWith (fun d e => .tuple [d, e]) ds es) := fun H σ rl R k => h H σ rl _ fun v H0 e0 q => h' H0 σ (rl.mono e0) _ fun w H1 e1 p => by
  obtain ⟨a, xs, e, q1, q2⟩ := q
  obtain ⟨b, ys, e', p1, p2⟩ := p
  subst e
  subst e'
  have q1 := Gm_mono e1 a _ q1
  have q2 := DaL.mono (Gm_mono e1) _ _ q2
  have q1' := (Gm_some q1).2
  have p1' := (Gm_some p1).2
  refine ⟨a, b, xs, ys, rfl, SqL.of q1', SqL.of p1', k _ H1 (e0.trans e1) ⟨fun i H' hi e' => ?_, fun i H' x H'' hi e' y => ?_, fun H' e' => ?_⟩⟩
  · have hi' : i < min ds.length es.length := by simpa using hi
    have hx : i < xs.length := by rw [q2.length]; omega
    have hy : i < ys.length := by rw [p2.length]; omega
    exact ⟨xs, ys, xs[i], ys[i], SqL.of (e' a _ q1), SqL.of (e' b _ p1), List.getElem?_eq_getElem hx, List.getElem?_eq_getElem hy⟩
  · obtain ⟨T, x', y', rfl, hT, rfl, yx, yy⟩ := y
    obtain ⟨d, h1, h2⟩ := q2.get' (yx xs (SqL.of (e' a _ q1)))
    obtain ⟨d', h1', h2'⟩ := p2.get' (yy ys (SqL.of (e' b _ p1)))
    have up : Same (Gm σ S H1) (gro (Gm σ S H1) H' (upd H' T (.tup [x', y']))) := fun c o hb => by
      unfold gro
      rw [if_neg (by rw [e' c o hb]; exact fun z => by cases z)]
      exact hb
    refine ⟨same_new hT, .tuple [d, d'], by rw [List.getElem?_zipWith, h1, h1'], T, [x', y'], rfl, ?_, ?_⟩
    · unfold gro
      rw [if_pos hT]
      exact upd_same
    · exact ⟨_, _, rfl, Da.mono up _ _ h2, y', _, rfl, Da.mono up _ _ h2', rfl⟩
  · refine ⟨xs, ys, SqL.of (e' a _ q1), SqL.of (e' b _ p1), ?_⟩
    rw [q2.length, p2.length, List.length_zipWith]
    omega
theorem i_str {x : Str} (h : Eb te S (.str x)) : Di (iStr te) S (x.cps.toList.map fun c => .str ⟨#[c]⟩) := fun H σ rl R k => h H σ rl _ fun v H1 e1 q => by
  refine ⟨x, q, k _ H1 e1 ⟨fun i H' hi e' => ?_, fun i H' y H'' hi e' z => ?_, fun H' e' => ?_⟩⟩
  · show i < x.cps.size
    simpa using hi
  · obtain ⟨rfl, c, hc, rfl⟩ := z
    refine ⟨Same.refl _, .str ⟨#[c]⟩, ?_, rfl⟩
    rw [List.getElem?_map, Array.getElem?_toList, hc]
    rfl
  · show x.cps.size ≤ _
    simp

/-! ### for -/
theorem gro_le {B H H' : Hp} {σ : St} {S : DSt} (rl : Rl H σ S) (h : Same B (Gm σ S H)) (e : Same H H') : Same (gro B H H') (Gm σ S H') := fun a o q => by
  unfold gro at q
  split at q
  · exact Gm_of (rl.notOwn (by assumption)) q
  · exact Gm_mono e a o (h a o q)
/-- the turns up to n go on (I i: what the slots hold ahead of turn i); then the walk ends, or turn n ends the loop by o -/
theorem x_forGen {wi : TI} {g : TG} {tb : TS} (hw : Di wi S ds) (n : Nat) (hn : n ≤ ds.length) (I : Nat → DSt) (h0 : Le S (I 0))
    (hs : ∀ (i : Nat) d, i < n → ds[i]? = some d → ∃ ws S1 S2, Dg ws g d (I i) S1 ∧ (DX E tb S1 (.nx S2) ∨ DX E tb S1 (.ct S2)) ∧ Le S2 (I (i + 1)))
    (he : n < ds.length → ∀ d, ds[n]? = some d → ∃ ws S1 r, o = .rt r ∧ Dg ws g d (I n) S1 ∧ DX E tb S1 (.rt r)) (hd : n = ds.length → o = .nx (I n)) : DX E (tFor wi g tb) S o := fun D H σ rl k => by
  refine hw H σ rl _ fun J H1 e1 wk => ?_
  have rl1 := rl.mono e1
  obtain ⟨r0, s0⟩ := rl1.le h0
  have k1 := k.up (Gm_mono e1)
  refine ⟨fun i m σ' H' => m = n + 1 - i ∧ i ≤ n ∧ Rl H' σ' (I i) ∧ Same (Gm σ S H1) (Gm σ' (I i) H'), ⟨n + 1, by omega, Nat.zero_le _, r0, s0⟩, ?_⟩
  rintro i m σ' H' ⟨rfl, hi, r', s'⟩
  have sH : Same (Gm σ S H1) H' := s'.trans Gm_le
  by_cases hlt : i < ds.length
  · refine .inr ⟨wk.go i H' hlt sH, fun σ2 H2 => (i + 1 ≤ n ∧ Rl H2 σ2 (I (i + 1)) ∧ Same (Gm σ S H1) (Gm σ2 (I (i + 1)) H2)), fun σ2 H2 ⟨h1, h2, h3⟩ => ⟨n + 1 - (i + 1), by omega, rfl, h1, h2, h3⟩, fun x H2 y => ?_⟩
    obtain ⟨s2, d, hd', q⟩ := wk.yl i H' x H2 hlt sH y
    have r2 := r'.mono s2
    have gl := gro_le r' s' s2
    have s12 : Same (Gm σ S H1) (Gm σ' (I i) H2) := s'.trans (Gm_mono s2)
    have q2 := Da.mono gl _ _ q
    by_cases hin : i < n
    · obtain ⟨ws, S1, S2, hg, hb, hle⟩ := hs i d hin hd'
      obtain ⟨σ3, a1, a2, _, a4⟩ := hg H2 σ' x r2 q2
      refine a4 _ ?_
      rcases hb with hb | hb
      · refine hb _ H2 σ3 a1 fun σ4 H4 r4 s4 => ?_
        obtain ⟨r5, s5⟩ := r4.le hle
        exact ⟨hin, r5, ((s12.trans a2).trans s4).trans s5⟩
      · refine hb _ H2 σ3 a1 fun σ4 H4 r4 s4 => ?_
        obtain ⟨r5, s5⟩ := r4.le hle
        exact ⟨hin, r5, ((s12.trans a2).trans s4).trans s5⟩
    · have ein : i = n := by omega
      subst ein
      obtain ⟨ws, S1, r, eo, hg, hb⟩ := he hlt d hd'
      subst eo
      obtain ⟨σ3, a1, a2, _, a4⟩ := hg H2 σ' x r2 q2
      refine a4 _ (hb _ H2 σ3 a1 ?_)
      exact FinR.up (s12.trans a2) k1
  · have ein : i = ds.length := by omega
    have enn : n = ds.length := by omega
    subst ein
    have eo := hd enn
    subst eo
    rw [enn] at k1
    exact .inl ⟨wk.st H' sH, k1 σ' H' r' s'⟩
/-- every turn goes on -/
theorem x_for {wi : TI} {g : TG} {tb : TS} (I : Nat → DSt) (hw : Di wi S ds) (h0 : Le S (I 0))
    (hs : ∀ (i : Nat) d, ds[i]? = some d → ∃ ws S1 S2, Dg ws g d (I i) S1 ∧ (DX E tb S1 (.nx S2) ∨ DX E tb S1 (.ct S2)) ∧ Le S2 (I (i + 1))) : DX E (tFor wi g tb) S (.nx (I ds.length)) :=
  x_forGen hw ds.length (Nat.le_refl _) I h0 (fun i d _ h => hs i d h) (fun z => absurd z (Nat.lt_irrefl _)) fun _ => rfl
/-- turn n ends the loop -/
theorem x_forX {wi : TI} {g : TG} {tb : TS} (I : Nat → DSt) (n : Nat) (hw : Di wi S ds) (hn : n < ds.length) (h0 : Le S (I 0))
    (hs : ∀ (i : Nat) d, i < n → ds[i]? = some d → ∃ ws S1 S2, Dg ws g d (I i) S1 ∧ (DX E tb S1 (.nx S2) ∨ DX E tb S1 (.ct S2)) ∧ Le S2 (I (i + 1)))
    (he : ∀ d, ds[n]? = some d → ∃ ws S1, Dg ws g d (I n) S1 ∧ DX E tb S1 (.rt r)) : DX E (tFor wi g tb) S (.rt r) :=
  x_forGen hw n (Nat.le_of_lt hn) I h0 hs (fun _ d h => let ⟨ws, S1, h1, h2⟩ := he d h; ⟨ws, S1, r, rfl, h1, h2⟩) fun z => absurd (z ▸ hn) (Nat.lt_irrefl _)
/-- while -/
theorem x_while {tb : TS} (I : Nat → DSt) (n : Nat) (h0 : Le S (I 0)) (ht : ∀ i, i < n → Et tt (I i) true) (hb : ∀ i, i < n → ∃ S2, DX E tb (I i) (.nx S2) ∧ Le S2 (I (i + 1))) (he : Et tt (I n) false) : DX E (tWhile tt tb) S (.nx (I n)) := fun D H σ rl k => by
  obtain ⟨r0, s0⟩ := rl.le h0
  refine ⟨fun m σ' H' => ∃ i, m = n - i ∧ i ≤ n ∧ Rl H' σ' (I i) ∧ Same (Gm σ S H) (Gm σ' (I i) H'), ⟨n, 0, by omega, Nat.zero_le _, r0, s0⟩, ?_⟩
  rintro m σ' H' ⟨i, rfl, hi, r', s'⟩
  by_cases hin : i < n
  · refine ht i hin H' σ' r' _ fun H2 e2 => ?_
    rw [if_pos rfl]
    obtain ⟨S2, h1, h2⟩ := hb i hin
    refine ⟨_, fun σ3 H3 q => q, h1 _ H2 σ' (r'.mono e2) fun σ4 H4 r4 s4 => ?_⟩
    obtain ⟨r5, s5⟩ := r4.le h2
    exact ⟨n - (i + 1), by omega, i + 1, rfl, hin, r5, ((s'.trans (Gm_mono e2)).trans s4).trans s5⟩
  · have e : i = n := by omega
    subst e
    refine he H' σ' r' _ fun H2 e2 => ?_
    rw [if_neg Bool.false_ne_true]
    exact k σ' H2 (r'.mono e2) (s'.trans (Gm_mono e2))
end
end DL

namespace DL
open PySem L2
variable [KK]
/-! ### comprehensions -/
def wipeS (S : DSt) : List Nat → DSt
  | [] => S
  | v :: vs => (wipeS S vs).set v .no
section
variable {E : XK} {S S1 S2 : DSt} {t u : TS} {o : Ou} {te ta tb : TE} {tt : TT} {d : PyData} {ds es : List PyData} {K : PySem.W.Frag} {r : Ro}
theorem Rl.wipe1 {H : Hp} {σ : St} {S : DSt} (rl : Rl H σ S) (i : Nat) : Rl H (σ.set i none) (S.set i .no) ∧ Same (Gm σ S H) (Gm (σ.set i none) (S.set i .no) H) := by
  have own : ∀ l, Own (σ.set i none) (S.set i .no) l → Own σ S l := fun l ⟨j, ds, h1, h2⟩ => by
    rcases set_get h1 with ⟨_, e, _⟩ | ⟨ne, h1⟩
    · cases e
    · rcases set_get h2 with ⟨e, _⟩ | ⟨_, h2⟩
      · exact absurd e ne
      · exact ⟨j, ds, h1, h2⟩
  have sm : Same (Gm σ S H) (Gm (σ.set i none) (S.set i .no) H) := Gm_le_of own
  refine ⟨⟨by rw [List.length_set, List.length_set]; exact rl.len, fun j d' h' => ?_, fun j ds h' => ?_, fun j k ds es l h1 h2 h3 h4 => ?_⟩, sm⟩
  · rcases set_get h' with ⟨_, e2, _⟩ | ⟨ne, h'⟩
    · cases e2
    · obtain ⟨w, h1, h2⟩ := rl.va j d' h'
      exact ⟨w, by rw [List.getElem?_set_ne (Ne.symm ne)]; exact h1, Da.mono sm _ _ h2⟩
  · rcases set_get h' with ⟨_, e2, _⟩ | ⟨ne, h'⟩
    · cases e2
    · obtain ⟨l, xs, h1, h2, h3, h4⟩ := rl.ow j ds h'
      exact ⟨l, xs, by rw [List.getElem?_set_ne (Ne.symm ne)]; exact h1, h2, DaL.mono sm _ _ h3, h4⟩
  · rcases set_get h1 with ⟨_, e, _⟩ | ⟨n1, g1⟩
    · cases e
    rcases set_get h2 with ⟨_, e, _⟩ | ⟨n2, g2⟩
    · cases e
    rw [List.getElem?_set_ne (Ne.symm n1)] at h3
    rw [List.getElem?_set_ne (Ne.symm n2)] at h4
    exact rl.sep j k ds es l g1 g2 h3 h4
theorem Rl.wipe {H : Hp} {σ : St} {S : DSt} (rl : Rl H σ S) : ∀ vs : List Nat, Rl H (L2.wipe σ vs) (wipeS S vs) ∧ Same (Gm σ S H) (Gm (L2.wipe σ vs) (wipeS S vs) H)
  | [] => ⟨rl, Same.refl _⟩
  | v :: vs => by
    obtain ⟨h1, h2⟩ := Rl.wipe rl vs
    obtain ⟨h3, h4⟩ := h1.wipe1 v
    exact ⟨h3, h2.trans h4⟩
theorem wipe_in {σ : St} {j : Nat} : ∀ {vs : List Nat}, j ∈ vs → j < σ.length → (L2.wipe σ vs)[j]? = some none
  | [], h, _ => absurd h (by simp)
  | v :: vs, h, hj => by
    unfold L2.wipe
    by_cases e : v = j
    · subst e
      exact List.getElem?_set_self (by rw [L2.wipe_length]; exact hj)
    · rw [List.getElem?_set_ne e]
      exact wipe_in ((List.mem_cons.mp h).resolve_left fun z => e z.symm) hj
theorem wipe_eq {σ τ : St} {vs ws : List Nat} (hl : τ.length = σ.length) (h : ∀ j, j ∉ ws → τ[j]? = (L2.wipe σ vs)[j]?) (hw : ∀ j ∈ ws, j ∈ vs) : L2.wipe τ vs = L2.wipe σ vs := by
  refine List.ext_getElem? fun j => ?_
  by_cases hj : j ∈ vs
  · by_cases hlt : j < σ.length
    · rw [wipe_in hj hlt, wipe_in hj (by rw [hl]; exact hlt)]
    · rw [List.getElem?_eq_none (by rw [L2.wipe_length]; omega), List.getElem?_eq_none (by rw [L2.wipe_length]; omega)]
  · rw [wipe_out hj]
    exact h j fun z => hj (hw j z)
theorem filterMap_take {α : Type} (p : α → Bool) (h : α → PyData) {xs : List α} {i : Nat} {x : α} (hx : xs[i]? = some x) : ((xs.take (i + 1)).filter p).map h = ((xs.take i).filter p).map h ++ (if p x = true then [h x] else []) := by
  have e : xs.take (i + 1) = xs.take i ++ [x] := by
    rw [List.take_succ, hx]
    rfl
  rw [e, List.filter_append, List.map_append]
  by_cases q : p x = true
  · rw [if_pos q, List.filter_cons_of_pos q]
    rfl
  · rw [if_neg q, List.filter_cons_of_neg q]
    rfl
/-- [te for g in wi if tt]: of the items f x, x in xs, those with p x, each h x -/
theorem n_lc {α : Type} {wi : TI} {g : TG} {vs : List Nat} (xs : List α) (f : α → PyData) (p : α → Bool) (h : α → PyData) (hw : Di wi S (xs.map f)) (hz : xs.length ≤ 100000)
    (hs : ∀ x, x ∈ xs → ∃ ws S1, (∀ j ∈ ws, j ∈ vs) ∧ Dg ws g (f x) (wipeS S vs) S1 ∧ Et tt S1 (p x) ∧ (p x = true → Eb te S1 (h x) ∧ imm (h x) = true)) :
    En (tLc wi g tt te vs) S ((xs.filter p).map h) := fun H σ rl Q k => by
  refine hw H σ rl _ fun J H1 e1 wk D hD => ?_
  have rl1 := rl.mono e1
  obtain ⟨rw1, sw1⟩ := rl1.wipe vs
  refine ⟨fun i m H' => m = xs.length - i ∧ i ≤ xs.length ∧ Same H1 H' ∧ ∃ acc, H' D = some (.lst acc) ∧ DaL H' (((xs.take i).filter p).map h) acc ∧ immL (((xs.take i).filter p).map h) = true, ⟨xs.length, by omega, Nat.zero_le _, same_new hD, [], upd_same, ?_, ?_⟩, ?_⟩
  · rw [List.take_zero]
    rfl
  · rw [List.take_zero]
    rfl
  rintro i m H' ⟨rfl, hi, s1, acc, hacc, hda, him⟩
  have sB : Same (Gm σ S H1) H' := Gm_le.trans s1
  by_cases hlt : i < xs.length
  · have hx : xs[i]? = some xs[i] := List.getElem?_eq_getElem hlt
    generalize xs[i] = x at hx
    have hmem : x ∈ xs := List.mem_of_getElem? hx
    refine .inr ⟨wk.go i H' (by simpa using hlt) sB, fun H2 => i + 1 ≤ xs.length ∧ Same H1 H2 ∧ ∃ acc, H2 D = some (.lst acc) ∧ DaL H2 (((xs.take (i + 1)).filter p).map h) acc ∧ immL (((xs.take (i + 1)).filter p).map h) = true, fun H2 ⟨a1, a2, a3⟩ => ⟨xs.length - (i + 1), by omega, rfl, a1, a2, a3⟩, fun v H2 y => ?_⟩
    obtain ⟨s2, d, hd', q⟩ := wk.yl i H' v H2 (by simpa using hlt) sB y
    have ed : d = f x := by
      rw [List.getElem?_map, hx] at hd'
      exact (Option.some.inj hd').symm
    subst ed
    obtain ⟨ws, S1, hws, hg, ht, he⟩ := hs x hmem
    have r' := rw1.mono s1
    have r2 := r'.mono s2
    have gl := gro_le r' (sw1.trans (Gm_mono s1)) s2
    obtain ⟨σ3, a1, a2, a3, a4⟩ := hg H2 (L2.wipe σ vs) v r2 (Da.mono gl _ _ q)
    refine a4 _ ⟨?_, ht H2 σ3 a1 _ fun H3 e3 => ?_⟩
    · have hl3 : σ3.length = σ.length := by
        rw [a3.1, L2.wipe_length]
      exact wipe_eq hl3 a3.2 hws
    · have s23 := s2.trans e3
      by_cases hp : p x = true
      · rw [if_pos hp]
        obtain ⟨he1, he2⟩ := he hp
        refine he1 H3 σ3 (a1.mono e3) _ fun w H4 e4 q4 => ?_
        have s24 := s23.trans e4
        have hacc4 : H4 D = some (.lst acc) := s24 D _ hacc
        refine ⟨acc, hacc4, ?_, hlt, fun b ob hb => ?_, acc ++ [w], upd_same, ?_, ?_⟩
        · rw [hda.length, List.length_map]
          have z1 := List.length_filter_le p (xs.take i)
          rw [List.length_take] at z1
          exact Nat.lt_of_lt_of_le (by omega : _ < 100000) (by decide : 100000 ≤ sizeLine)
        · rw [upd_ne (ne_of_none hb hD)]
          exact s24 b ob (s1 b ob hb)
        · rw [filterMap_take p h hx, if_pos hp]
          have tp : Tups H4 (upd H4 D (.lst (acc ++ [w]))) := fun a ys z => by
            rw [upd_ne]
            · exact z
            · intro e
              rw [e, hacc4] at z
              cases z
          have im2 : immL [h x] = true := by
            show (imm (h x) && immL []) = true
            rw [he2]
            rfl
          exact DaL.tups tp _ _ (immL_append him im2) ((DaL.mono s24 _ _ hda).append (.one q4))
        · rw [filterMap_take p h hx, if_pos hp]
          refine immL_append him ?_
          show (imm (h x) && immL []) = true
          rw [he2]
          rfl
      · have hp' : p x = false := by
          cases e : p x with
          | true => exact absurd e hp
          | false => rfl
        rw [hp', if_neg Bool.false_ne_true]
        refine ⟨hlt, s1.trans s23, acc, s23 D _ hacc, ?_, ?_⟩
        · rw [filterMap_take p h hx, if_neg hp, List.append_nil]
          exact DaL.mono s23 _ _ hda
        · rw [filterMap_take p h hx, if_neg hp, List.append_nil]
          exact him
  · have e : i = xs.length := by omega
    subst e
    rw [List.take_length] at hda him
    have st := wk.st H' sB
    rw [List.length_map] at st
    exact .inl ⟨st, k D H' (e1.trans s1) (e1.free hD) ⟨D, acc, rfl, hacc, hda⟩⟩

theorem t_yes : Et tYes S true := fun H σ rl Q q => q H (Same.refl H)

/-! ### calls -/
/-- the promise of a def of the program: on the data ds it gives r -/
def SpR (R : List PyData → Ro → Prop) : Sp := fun vs H Q E => ∃ ds r, DaL H ds vs ∧ R ds r ∧ FinR E Q H r
theorem e_call {R : List PyData → Ro → Prop} {ta : TA} (h : Ea ta S ds) (hR : R ds (.va d)) : Eb (tCall (SpR R) [] E ta) S d := fun H σ rl Q q => h H σ rl _ fun vs H1 e1 q1 =>
  ⟨ds, .va d, by rw [List.append_nil]; exact q1, hR, fun v H' e2 q2 => q v H' (e1.trans e2) q2⟩
theorem n_call {R : List PyData → Ro → Prop} {ta : TA} (h : Ea ta S ds) (hR : R ds (.nw es)) : En (tCall (SpR R) [] E ta) S es := fun H σ rl Q q => h H σ rl _ fun vs H1 e1 q1 =>
  ⟨ds, .nw es, by rw [List.append_nil]; exact q1, hR, fun l H' e2 hl q2 => q l H' (e1.trans e2) (e1.free hl) q2⟩

/-! ### a def's body -/
theorem start_rl : ∀ {ds : List PyData} {vs : List V} {H : Hp} (n : Nat), DaL H ds vs → Rl H (vs.map some ++ List.replicate n none) (ds.map Sl.va ++ List.replicate n Sl.no) := fun {ds vs H} n h => by
  have noo : ∀ (i : Nat) es, (ds.map Sl.va ++ List.replicate n Sl.no)[i]? ≠ some (.ow es) := fun i es e => by
    have hm := List.mem_of_getElem? e
    rcases List.mem_append.mp hm with z | z
    · obtain ⟨x, _, q⟩ := List.mem_map.mp z
      cases q
    · have := (List.mem_replicate.mp z).2
      cases this
  refine ⟨by simp [h.length], fun i d e => ?_, fun i es e => absurd e (noo i es), fun i j es fs l e => absurd e (noo i es)⟩
  have hi : i < ds.length := by
    by_cases hi : i < ds.length
    · exact hi
    · rw [List.getElem?_append_right (by simpa using hi)] at e
      rw [List.getElem?_replicate] at e
      split at e <;> cases e
  rw [List.getElem?_append_left (by simpa using hi), List.getElem?_map] at e
  have e' : ds[i]? = some d := by
    cases q : ds[i]? with
    | none => rw [q] at e; cases e
    | some x => rw [q] at e; cases e; rfl
  obtain ⟨v, h1, h2⟩ := h.get e'
  refine ⟨v, ?_, ?_⟩
  · rw [List.getElem?_append_left (by rw [List.length_map, h.length]; exact hi), List.getElem?_map, h1]
    rfl
  · refine Da.mono (fun b o q => Gm_of (fun ⟨j, fs, w, _⟩ => noo j fs w) q) _ _ h2
theorem run_of {R : List PyData → Ro → Prop} {N : List Str} {t : TS} {vs : List V} {H : Hp} {Q : VK} (h : SpR R vs H Q E)
    (hb : ∀ ds r, R ds r → DX E t (ds.map Sl.va ++ List.replicate (N.length - ds.length) Sl.no) (.rt r)) : t { nx := fun _ H' => Q .non H', rt := Q } (L2.start N vs) H := by
  obtain ⟨ds, r, h1, h2, h3⟩ := h
  have rl := start_rl (N.length - ds.length) h1
  have hb' := hb ds r h2
  have e : L2.start N vs = vs.map some ++ List.replicate (N.length - ds.length) none := by
    unfold L2.start
    rw [h1.length]
  rw [e]
  refine hb' _ H _ rl ?_
  have g : Gm (vs.map some ++ List.replicate (N.length - ds.length) none) (ds.map Sl.va ++ List.replicate (N.length - ds.length) Sl.no) H = H := Gm_free (by
    have : ∀ (l : List PyData) (n : Nat), noOw (l.map Sl.va ++ List.replicate n Sl.no) = true := fun l n => by
      induction l with
      | nil =>
        induction n with
        | zero => rfl
        | succ n ih => exact ih
      | cons a l ih => exact ih
    exact this ds _)
  rw [g]
  show FinR E Q H r
  exact h3
theorem SpR.len {R : List PyData → Ro → Prop} {n : Nat} (h : ∀ ds r, R ds r → ds.length = n) : ∀ vs H Q E, SpR R vs H Q E → vs.length = n := fun vs H Q E ⟨ds, r, h1, h2, _⟩ => by
  rw [h1.length]
  exact h ds r h2
end
end DL

namespace DL
open PySem L2
/-- a promise by its arguments' data: of x with pre x the def gives res x -/
def Rf {α : Type} (args : α → List PyData) (pre : α → Prop) (res : α → Ro) : List PyData → Ro → Prop := fun ds r => ∃ x, pre x ∧ ds = args x ∧ r = res x
/-- a def that is called by its name -/
structure Cal (P : Program) (w : World) (K : PySem.W.Frag) (mg : Str → Option Value) (base : Heap) (k : Nat) (x : Str) (ps : List Str) (R : List PyData → Ro → Prop) : Prop where
  ex : ∃ f fd, FnOk P w K mg base CX0 k f fd ps (@SpR ⟨K⟩ R) ∧ mg x = some (.ref f) ∧ PySem.W.keepIn K (.ref f) = true ∧ Binds K fd ps []
/-! the rules with the written part by name -/
section
variable {X : Cx} {k : Nat} {x : Str} {ps : List Str} {R : List PyData → Ro → Prop} {a b o e e1 e2 : Expr} {es : List Expr} {t : TA} {ta tb to te t1 t2 : TE} {tl th : TO} {lo hi : Option Expr} {tg : Expr} {p p2 pos tpos : Pos} {kk : Nat}
variable (K : PySem.W.Frag)
theorem Cal.pe {K : PySem.W.Frag} (C : Cal X.prog X.w K X.mg X.base k x ps R) (hr : Room k X.A) (hg : Gl X x) (ha : PA X (e :: es) t) (hK : X.K = K := by rfl) (hdb : (x == ("__debug__" : Str)) = false := by decide) (he : starEach (e :: es) X.env = (false, eval e X.env) :: starEach es X.env := by rfl) (hpl : (backTo pos (starEach es X.env)).any (·.1) = false := by rfl) :
    PE X (.Call (.Name x p) (e :: es) [] pos) (tCall (@SpR ⟨K⟩ R) [] E0 t) := by
  subst hK
  obtain ⟨f, fd, F, hm, hk, hb⟩ := C.ex
  exact pe_call F hr hg hm hk hb .nil pass0 ha hdb he hpl
theorem Cal.pe0 {K : PySem.W.Frag} (C : Cal X.prog X.w K X.mg X.base k x ps R) (hr : Room k X.A) (hg : Gl X x) (hK : X.K = K := by rfl) (hdb : (x == ("__debug__" : Str)) = false := by decide) :
    PE X (.Call (.Name x p) [] [] pos) (tCall (@SpR ⟨K⟩ R) [] E0 tNil) := by
  subst hK
  obtain ⟨f, fd, F, hm, hk, hb⟩ := C.ex
  exact pe_call0 F hr hg hm hk hb .nil pass0 hdb
theorem j_ix (ha : PE X a ta) (hb : PE X b tb) (hK : X.K = K := by rfl) (hs : PlainIx b := by intro _ _; rfl) : PE X (.Subscript a b pos) (tOp (rIx K) ta tb) := by
  subst hK
  exact pe_ix ix_seq ha hb hs
theorem j_sl (he : PE X e te) (hl : PO X lo tl) (hu : PO X hi th) (hK : X.K = K := by rfl) : PE X (.Subscript e (.Slice lo hi none p2) pos) (tSl (rSl K) te tl th) := by
  subst hK
  exact pe_slice sl_any he hl hu
theorem j_rev {p1 p3 : Pos} (he : PE X e te) (hK : X.K = K := by rfl) : PE X (.Subscript e (.Slice none none (some (.UnaryOp .USub (.Constant (.int 1) kk p1) p2)) p3) pos) (tRevL K te) := by
  subst hK
  exact pe_revL he
theorem j_eq (hu : X.A.units + 64 < cLine) (hK : X.K = K := by rfl) : OpR X (compareOp .Eq) (rEqD K) := by
  subst hK
  exact op_eqD hu
theorem j_ne (hu : X.A.units + 64 < cLine) (hK : X.K = K := by rfl) : OpR X (compareOp .NotEq) (rNeD K) := by
  subst hK
  exact op_neD hu
theorem j_isi (hK : X.K = K := by rfl) : CallR X (.builtin "isinstance") (rIsi K) := by
  subst hK
  exact call_isi
theorem j_len (hK : X.K = K := by rfl) : CallR X (.builtin "len") (rLen K) := by
  subst hK
  exact cr_len
theorem j_list (hK : X.K = K := by rfl) : CallR X (.type "list") (rList K) := by
  subst hK
  exact cr_list
theorem j_tuple (hK : X.K = K := by rfl) : CallR X (.type "tuple") (rTuple K) := by
  subst hK
  exact cr_tuple
theorem j_sum (hc : X.calm = true) (hK : X.K = K := by rfl) : CallR X (.builtin "sum") (rSum K) := by
  subst hK
  exact cr_sum hc
theorem j_max (hc : X.calm = true) (hK : X.K = K := by rfl) : CallR X (.builtin "max") (rMax K) := by
  subst hK
  exact cr_max hc
def rSortedJ (K : PySem.W.Frag) : List V → Hp → VK → Prop := fun vs H Q => rSorted K vs H Q ∨ rSortedPO K vs H Q
theorem j_sorted (hK : X.K = K := by rfl) : CallR X (.builtin "sorted") (rSortedJ K) := by
  subst hK
  exact cr_sorted.or cr_sortedPO
theorem j_tru (ha : PE X a ta) (hK : X.K = K := by rfl) (he : ∀ whole, isTrue a X.env whole = (do let v ← whole; standAt a.pos; holding [v] (truthy v)) := by intro _; rfl) : PT X a (tTru K ta) := by
  subst hK
  exact pt_tru ha he
theorem j_iList (hl : PE X e te) (hK : X.K = K := by rfl) : PI X tg e (iList K te) := by
  subst hK
  exact pi_list hl
theorem j_iTup (hl : PE X e te) (hK : X.K = K := by rfl) : PI X tg e (iTup K te) := by
  subst hK
  exact pi_tup hl
theorem j_enum (hg : Gl X "enumerate") (hm : X.mg "enumerate" = none) (ha : PA X [e] t) (hK : X.K = K := by rfl) (hs : starEach [e] X.env = [(false, eval e X.env)] := by rfl) : PI X (.Tuple es kk tpos) (.Call (.Name "enumerate" p) [e] [] pos) (iEnum K t) := by
  subst hK
  exact pi_enum hg hm ha hs
theorem j_zip (hg : Gl X "zip") (hm : X.mg "zip" = none) (ha : PA X [e, e2] t) (hK : X.K = K := by rfl) (hs : starEach [e, e2] X.env = (false, eval e X.env) :: starEach [e2] X.env := by rfl) (hpl : (backTo pos (starEach [e2] X.env)).any (·.1) = false := by rfl) :
    PI X (.Tuple es kk tpos) (.Call (.Name "zip" p) [e, e2] [] pos) (iZip K t) := by
  subst hK
  exact pi_zip hg hm ha hs hpl
theorem j_tup {tt : TGs} {n : Nat} (hc : X.calm = true) (h : PGs X es tt) (hK : X.K = K := by rfl) (hn : (assignEach es X.env).length = n := by rfl) (hst : (assignEach es X.env).findIdx? (·.1) = none := by rfl) : PG X (.Tuple es kk pos) (gTup K n tt) := by
  subst hK
  exact pg_tup hc h hn hst
theorem j_app {apos : Pos} (ho : PE X o to) (ha : PE X e te) (hK : X.K = K := by rfl) (hbase : attributeBase o "append" X.env (eval o X.env) = eval o X.env := by rfl)
    (hfew : ((backTo pos (starEach (e :: []) X.env)).all (fun x => !x.1) && (backToKw pos (keywordEach [] X.env)).all (fun x => x.1.isSome)
      && decide ((e :: []).length + ([] : List Keyword).length + (if ([] : List Keyword).isEmpty then 0 else 1) < 30)) = true := by rfl)
    (hline : (apos.endLine == pos.line) = true := by rfl) (hs : starEach (e :: []) X.env = (false, eval e X.env) :: starEach [] X.env := by rfl) (hplain : (backTo pos (starEach [] X.env)).any (·.1) = false := by rfl) :
    PE X (.Call (.Attribute o "append" apos) [e] [] pos) (tBM K "list" rAppend to (tCons te tNil)) := by
  subst hK
  exact pe_bm PySem.F.plainAttrs_list PySem.F.slot_list_append PySem.F.type_list_append mt_append ho (pa_cons ha pa_nil hs) hbase hfew hline hs hplain
end
/-! max(xs, default=d) of ints -/
def mxD : List Int → Int → Int
  | [], d => d
  | n :: ns, _ => ns.foldl max n
def rMaxD (K : PySem.W.Frag) : List V → List V → Hp → VK → Prop := fun vs zs H Q => ∃ (a : Addr) (ns : List Int) (d : Int), vs = [.ref a] ∧ zs = [.int d] ∧ SqL K H a (ns.map V.int) ∧ Q (.int (mxD ns d)) H
theorem reads_ints {h : Heap} : ∀ {ns : List Int} {us : List Value}, Vals (ns.map V.int) us → ∃ as, ReadsAll h us (ns.map PyData.int) as
  | [], _, .nil => ⟨_, .nil⟩
  | n :: ns, _, .cons ⟨t, e⟩ r => by
    obtain ⟨as, q⟩ := reads_ints (ns := ns) r
    subst e
    exact ⟨_, .cons (.int n t) q⟩
theorem depth_ints : ∀ ns : List Int, PyData.depthAll (ns.map PyData.int) = 0
  | [] => by simp [PyData.depthAll]
  | n :: ns => by simp [PyData.depthAll, PyData.depth, depth_ints ns]
theorem cr_maxD {X : Cx} (K : PySem.W.Frag) (hc : X.calm = true) (hu : X.A.units + 64 < cLine) (hK : X.K = K := by rfl) : CallRK X (.builtin "max") [Str.ofString "default"] (rMaxD K) := by
  subst hK
  intro pins s σ H vs zs us ws Q I r rz h
  obtain ⟨a, ns, d, rfl, rfl, hs, q⟩ := h
  obtain rfl := Vals.ref1 r
  obtain ⟨w1, rfl, t, e1⟩ := vals1 rz
  subst e1
  obtain ⟨its, rv, hl, _⟩ := I.list hs
  obtain ⟨as, hr⟩ := reads_ints (h := s.heap) rv
  have al : PySem.W.AlikeAll (ns.map PyData.int) := ⟨fun x hx y hy => by
    obtain ⟨i, _, rfl⟩ := List.mem_map.mp hx
    obtain ⟨j, _, rfl⟩ := List.mem_map.mp hy
    rfl, fun x hx => by
    obtain ⟨i, _, rfl⟩ := List.mem_map.mp hx
    exact fun z => nomatch z⟩
  refine PySem.W.max_list_default (I.ok.hd hc) hl.isList hr al (by rw [depth_ints]; omega) (fun hn h' tk hk => ?_) fun y ys i v h' tk bs hxs hv hrd hk => ?_
  · have e : ns = [] := by simpa using hn
    subst e
    exact ⟨.int d, H, I.kept hk, ⟨t, rfl⟩, q⟩
  · cases ns with
    | nil => cases hxs
    | cons n ns =>
      cases hxs
      rw [PySem.W.maxD_ints] at hrd
      cases hrd
      exact ⟨.int _, H, I.kept hk, ⟨_, rfl⟩, q⟩
theorem pe_maxD {X : Cx} {e d : Expr} {te td : TE} {p pos kpos : Pos} (K : PySem.W.Frag) (hc : X.calm = true) (hu : X.A.units + 64 < cLine) (hg : Gl X "max") (hm : X.mg "max" = none) (he : PE X e te) (hd : PE X d td) (hK : X.K = K := by rfl)
    (hs1 : starEach (e :: []) X.env = (false, eval e X.env) :: starEach [] X.env := by rfl)
    (hs2 : backTo pos (starEach (e :: []) X.env) = (false, eval e X.env) :: backTo pos (starEach [] X.env) := by rfl) (hpl : (backTo pos (starEach (e :: []) X.env)).any (·.1) = false := by rfl)
    (hall : (backToKw pos (keywordEach [⟨some "default", d, kpos⟩] X.env)).all (·.1.isSome) = true := by rfl) (hnone : (backToKw pos (keywordEach [⟨some "default", d, kpos⟩] X.env)).any (·.1.isNone) = false := by rfl) (hks : (backToKw pos (keywordEach [⟨some "default", d, kpos⟩] X.env)).filterMap (·.1) = [Str.ofString "default"] := by rfl) :
    PE X (.Call (.Name "max" p) [e] [⟨some "default", d, kpos⟩] pos) (tCKw (rMaxD K) (tCons te tNil) (tCons td tNil)) :=
  pe_callBK (cr_maxD K hc hu hK) hg hm (by decide +kernel) (pa_cons he pa_nil hs1) (pk_cons hd pk_nil) (by decide) (by decide) hs2 hpl hall hnone hks
/-! in, not in -/
theorem hu65 {k : Nat} {A : Around} (hr : Room k A) : A.units + 65 < cLine := by
  have := hr.un
  omega
def rInS (neg : Bool) : R2 := fun x y H Q => ∃ i j, x = .str i ∧ y = .str j ∧ Q (.bl (if neg then !(!(Builtin.Str.occurrences j i 0 j.length 1).isEmpty) else !(Builtin.Str.occurrences j i 0 j.length 1).isEmpty)) H
theorem op_inS0 {X : Cx} : OpR X (compareOp .In) (rInS false) := op_in_str
theorem op_inS1 {X : Cx} : OpR X (compareOp .NotIn) (rInS true) := op_notin_str
def rInJ (K : PySem.W.Frag) : R2 := fun x y H Q => rIn K false x y H Q ∨ (rInS false x y H Q ∨ rInD K x y H Q)
def rNotInJ (K : PySem.W.Frag) : R2 := fun x y H Q => rIn K true x y H Q ∨ (rInS true x y H Q ∨ rNotInD K x y H Q)
theorem j_in {X : Cx} (K : PySem.W.Frag) (hu : X.A.units + 65 < cLine) (hK : X.K = K := by rfl) : OpR X (compareOp .In) (rInJ K) := by
  subst hK
  exact op_in_seq.or (op_inS0.or (op_inD hu))
theorem j_notIn {X : Cx} (K : PySem.W.Frag) (hu : X.A.units + 65 < cLine) (hK : X.K = K := by rfl) : OpR X (compareOp .NotIn) (rNotInJ K) := by
  subst hK
  exact op_notIn_seq.or (op_inS1.or (op_notInD hu))
theorem flat_ints : ∀ ns : List Int, (ns.map V.int).all flatV = true
  | [] => rfl
  | n :: ns => by
    rw [List.map_cons, List.all_cons, flat_ints ns]
    rfl
theorem inV_ints (i : Int) : ∀ ns : List Int, inV (.int i) (ns.map V.int) = decide (i ∈ ns)
  | [] => by simp [inV]
  | n :: ns => by
    have ih := inV_ints i ns
    unfold inV at ih ⊢
    rw [List.map_cons, List.any_cons, ih]
    by_cases e : n = i
    · subst e
      simp [eqV]
    · have e' : (eqV (V.int n) (V.int i)) = false := by simp [eqV, e]
      rw [e']
      simp [Ne.symm e]
theorem cal_of {P : Program} {w : World} {K : PySem.W.Frag} {mg : Str → Option Value} {base : Heap} {k : Nat} {x : Str} {ps : List Str} {R : List PyData → Ro → Prop} {f : Addr} {fd : FuncData}
    (F : FnOk P w K mg base CX0 k f fd ps (@SpR ⟨K⟩ R)) (hm : mg x = some (.ref f)) (hk : PySem.W.keepIn K (.ref f) = true) (hb : Binds K fd ps []) : Cal P w K mg base k x ps R := ⟨f, fd, F, hm, hk, hb⟩
section
variable [KK] {E : XK} {S : DSt} {α : Type} {args : α → List PyData} {pre : α → Prop} {res : α → Ro} {d : PyData} {ds es : List PyData} {ta : TA}
theorem e_callR (x : α) (h : Ea ta S ds) (hx : ds = args x) (hp : pre x) (hr : res x = .va d) : Eb (tCall (SpR (Rf args pre res)) [] E ta) S d := e_call h ⟨x, hp, hx, hr.symm⟩
theorem n_callR (x : α) (h : Ea ta S ds) (hx : ds = args x) (hp : pre x) (hr : res x = .nw es) : En (tCall (SpR (Rf args pre res)) [] E ta) S es := n_call h ⟨x, hp, hx, hr.symm⟩
theorem len_of {n : Nat} (h : ∀ x, (args x).length = n) : ∀ vs H Q E, SpR (Rf args pre res) vs H Q E → vs.length = n := SpR.len fun ds r ⟨x, _, e, _⟩ => by
  rw [e]
  exact h x
theorem run_def {N : List Str} {t : TS} {vs : List V} {H : Hp} {Q : VK} (h : SpR (Rf args pre res) vs H Q E)
    (hb : ∀ x, pre x → DX E t ((args x).map Sl.va ++ List.replicate (N.length - (args x).length) Sl.no) (.rt (res x))) : t { nx := fun _ H' => Q .non H', rt := Q } (L2.start N vs) H :=
  run_of h fun ds r ⟨x, hp, e1, e2⟩ => by
    rw [e1, e2]
    exact hb x hp
/-! slices put together -/
omit [KK] in
theorem cutD_take {ds : List PyData} {i : Int} (h : 0 ≤ i) : cutD ds none (some i) = ds.take i.toNat := by
  obtain ⟨n, rfl⟩ := Int.eq_ofNat_of_zero_le h
  unfold cutD
  rw [HT.sIx_none, HT.sIx_nat]
  show (ds.drop 0).take (min n ds.length - 0) = ds.take n
  rw [List.drop_zero, Nat.sub_zero]
  by_cases q : n ≤ ds.length
  · rw [Nat.min_eq_left q]
  · rw [Nat.min_eq_right (by omega), List.take_length, List.take_of_length_le (by omega)]
omit [KK] in
theorem cutD_drop {ds : List PyData} {i : Int} (h : 0 ≤ i) : cutD ds (some i) none = ds.drop i.toNat := by
  obtain ⟨n, rfl⟩ := Int.eq_ofNat_of_zero_le h
  unfold cutD
  rw [HT.sIx_none, HT.sIx_nat]
  show (ds.drop (min n ds.length)).take (ds.length - min n ds.length) = ds.drop n
  by_cases q : n ≤ ds.length
  · rw [Nat.min_eq_left q, List.take_of_length_le (by rw [List.length_drop]; omega)]
  · rw [Nat.min_eq_right (by omega), Nat.sub_self, List.take_zero, List.drop_of_length_le (by omega)]
omit [KK] in
theorem cutD_init (ds : List PyData) : cutD ds none (some (-1)) = ds.dropLast := by
  unfold cutD
  rw [HT.sIx_none]
  have e : HT.sIx ds.length ds.length (some (-1)) = ds.length - 1 := by
    show (if (-1 : Int) < 0 then ((-1 : Int) + (ds.length : Int)).toNat else min (-1 : Int).toNat ds.length) = _
    rw [if_pos (by decide)]
    omega
  rw [e, List.drop_zero, Nat.sub_zero, List.dropLast_eq_take]
section
variable {K : PySem.W.Frag} {tj tj' tx tp tq : TE} {p q : Int}
/-- xs[:p] + [x] + xs[q:] -/
theorem n_splice (hj : Eb tj S (.list ds)) (hp : Eb tp S (.int p)) (hx : Eb tx S d) (hj' : Eb tj' S (.list ds)) (hq : Eb tq S (.int q)) (h0 : 0 ≤ p) (h1 : 0 ≤ q) (hz : ds.length ≤ 10000) :
    En (tOp rPlus (tOp rPlus (tSl (rSl K) tj tNoPart (tPart tp)) (tLst (tCons tx tNil))) (tSl (rSl K) tj' (tPart tq) tNoPart)) S (ds.take p.toNat ++ [d] ++ ds.drop q.toNat) := by
  have a1 := n_slL (K := K) hj o_no (o_some hp)
  have a2 := n_slL (K := K) hj' (o_some hq) o_no
  rw [cutD_take h0] at a1
  rw [cutD_drop h1] at a2
  have l1 : (ds.take p.toNat).length ≤ ds.length := by rw [List.length_take]; omega
  have l2 : (ds.drop q.toNat).length ≤ ds.length := by rw [List.length_drop]; omega
  refine e_cat (e_cat a1.b (n_lst (a_cons hx a_nil) (by simp)).b ?_).b a2.b ?_
  · rw [List.length_singleton]
    omega
  · rw [List.length_append, List.length_singleton]
    omega
/-- xs[:p] + xs[q:] -/
theorem n_cut (hj : Eb tj S (.list ds)) (hp : Eb tp S (.int p)) (hj' : Eb tj' S (.list ds)) (hq : Eb tq S (.int q)) (h0 : 0 ≤ p) (h1 : 0 ≤ q) (hz : ds.length ≤ 10000) :
    En (tOp rPlus (tSl (rSl K) tj tNoPart (tPart tp)) (tSl (rSl K) tj' (tPart tq) tNoPart)) S (ds.take p.toNat ++ ds.drop q.toNat) := by
  have a1 := n_slL (K := K) hj o_no (o_some hp)
  have a2 := n_slL (K := K) hj' (o_some hq) o_no
  rw [cutD_take h0] at a1
  rw [cutD_drop h1] at a2
  have l1 : (ds.take p.toNat).length ≤ ds.length := by rw [List.length_take]; omega
  have l2 : (ds.drop q.toNat).length ≤ ds.length := by rw [List.length_drop]; omega
  exact e_cat a1.b a2.b (by omega)
omit [KK] in
theorem set_splice {α : Type} : ∀ {l : List α} {n : Nat} {x : α}, n < l.length → l.take n ++ [x] ++ l.drop (n + 1) = l.set n x
  | [], n, _, h => by simp at h
  | a :: l, 0, x, _ => rfl
  | a :: l, n + 1, x, h => by
    show a :: (l.take n ++ [x] ++ l.drop (n + 1)) = a :: l.set n x
    rw [set_splice (by simpa using h)]
end
theorem e_maxD {K : PySem.W.Frag} {te td : TE} {ns : List Int} {m : Int} (h : Eb te S (.list (ns.map .int))) (hd : Eb td S (.int m)) : Eb (tCKw (rMaxD K) (tCons te tNil) (tCons td tNil)) S (.int (mxD ns m)) := fun H σ rl Q q =>
  h H σ rl _ fun v H1 e1 q1 => hd H1 σ (rl.mono e1) _ fun v2 H2 e2 q2 => by
    obtain ⟨a, xs, rfl, h2, h3⟩ := Da.mono e2 _ _ q1
    exact ⟨a, ns, m, rfl, by rw [show v2 = .int m from q2], by rw [← h3.ints]; exact SqL.of h2, q _ H2 (e1.trans e2) rfl⟩
/-! in a list, a tuple of ints -/
theorem e_inL {K : PySem.W.Frag} {ta tb : TE} {i : Int} {ns : List Int} (ha : Eb ta S (.int i)) (hb : Eb tb S (.list (ns.map .int))) : Eb (tOp (rInJ K) ta tb) S (.bool (decide (i ∈ ns))) :=
  e_op ha hb fun x y H Q h1 h2 q => by
    obtain ⟨a, xs, rfl, h2, h3⟩ := h2
    have e := h3.ints
    subst e
    rw [show x = .int i from h1]
    exact .inl ⟨a, _, rfl, .inl (SqL.of h2), rfl, flat_ints ns, q _ H (Same.refl H) (by rw [inV_ints]; rfl)⟩
theorem e_inT {K : PySem.W.Frag} {ta tb : TE} {i : Int} {ns : List Int} {es : List PyData} (ha : Eb ta S (.int i)) (hb : Eb tb S (.tuple es)) (he : es = ns.map .int) : Eb (tOp (rInJ K) ta tb) S (.bool (decide (i ∈ ns))) := by
  subst he
  exact e_op ha hb fun x y H Q h1 h2 q => by
    obtain ⟨a, xs, rfl, h2, h3⟩ := h2
    have e := h3.ints
    subst e
    rw [show x = .int i from h1]
    exact .inl ⟨a, _, rfl, .inr (SqT.of h2), rfl, flat_ints ns, q _ H (Same.refl H) (by rw [inV_ints]; rfl)⟩
theorem e_notInL {K : PySem.W.Frag} {ta tb : TE} {i : Int} {ns : List Int} (ha : Eb ta S (.int i)) (hb : Eb tb S (.list (ns.map .int))) : Eb (tOp (rNotInJ K) ta tb) S (.bool (!decide (i ∈ ns))) :=
  e_op ha hb fun x y H Q h1 h2 q => by
    obtain ⟨a, xs, rfl, h2, h3⟩ := h2
    have e := h3.ints
    subst e
    rw [show x = .int i from h1]
    exact .inl ⟨a, _, rfl, .inl (SqL.of h2), rfl, flat_ints ns, q _ H (Same.refl H) (by rw [inV_ints]; rfl)⟩
omit [KK] in
theorem flat_rep {α : Type} (a : α) : ∀ n : Nat, (List.replicate n [a]).flatten = List.replicate n a
  | 0 => rfl
  | n + 1 => by
    rw [List.replicate_succ, List.flatten_cons, flat_rep a n, List.replicate_succ]
    rfl
/-- [0] * n -/
theorem n_zeros {tn : TE} {n : Nat} (h : Eb tn S (.int (n : Int))) (hn : n ≤ 1000) : En (tOp rTimes (tLst (tCons (tC (.int 0)) tNil)) tn) S ((List.replicate n (0 : Int)).map .int) :=
  En.to (e_rep (ds := [.int 0]) (n_lst (a_cons e_int a_nil) (by simp)).b h (by omega) (by simp)) (by rw [Int.toNat_natCast, flat_rep, List.map_replicate])
/-! sorted -/
theorem n_sortedI {K : PySem.W.Frag} {te : TE} {ns ms : List Int} (h : Eb te S (.list (ns.map .int))) (hz : ns.length < 64) (hu : ∀ ms', ms'.Perm ns → ms'.Pairwise (· ≤ ·) → ms' = ms) : En (tCB (rSortedJ K) (tCons te tNil)) S (ms.map .int) := n_cb (a_cons h a_nil) fun vs H Q h q => by
  obtain ⟨v, rfl, h1⟩ := h.v1
  obtain ⟨a, xs, rfl, h2, h3⟩ := h1
  refine .inl ⟨a, ns, rfl, by rw [← h3.ints]; exact SqL.of h2, hz, fun ms' p h4 h5 hp => ?_⟩
  have e := hu ms' h4 h5
  subst e
  exact q p _ (same_new hp) hp ⟨p, _, rfl, upd_same, DaL.of_ints⟩
def prD (p : Int × Int) : PyData := .tuple [.int p.1, .int p.2]
/-- the pair that stands at a place -/
def prAt (H : Hp) : V → Int × Int
  | .ref t => match H t with
    | some (.tup [.int a, .int b]) => (a, b)
    | _ => (0, 0)
  | _ => (0, 0)
theorem prAt_of {H : Hp} {p : Int × Int} {v : V} (h : Da H (prD p) v) : prAt H v = p ∧ ∃ t, v = .ref t ∧ H t = some (.tup [.int p.1, .int p.2]) := by
  obtain ⟨a, xs, rfl, h1, v1, r, rfl, e1, v2, r2, rfl, e2, e3⟩ := h
  have e1 : v1 = .int p.1 := e1
  have e2 : v2 = .int p.2 := e2
  have e3 : r2 = [] := e3
  subst e1
  subst e2
  subst e3
  refine ⟨?_, a, rfl, h1⟩
  show (match H a with | some (.tup [.int a, .int b]) => (a, b) | _ => ((0, 0) : Int × Int)) = p
  rw [h1]
theorem pr_all {H : Hp} : ∀ {ps : List (Int × Int)} {xs : List V}, DaL H (ps.map prD) xs → xs.map (prAt H) = ps ∧ ∀ x ∈ xs, ∃ t, x = .ref t ∧ H t = some (.tup [.int (prAt H x).1, .int (prAt H x).2])
  | [], _, h => by
    have e : _ = [] := h
    rw [e]
    exact ⟨rfl, fun x hx => by cases hx⟩
  | p :: ps, _, h => by
    obtain ⟨v, vs, rfl, h1, h2⟩ := h
    obtain ⟨e1, t, e2, e3⟩ := prAt_of h1
    obtain ⟨i1, i2⟩ := pr_all (ps := ps) h2
    refine ⟨by rw [List.map_cons, e1, i1], fun x hx => ?_⟩
    rcases List.mem_cons.mp hx with e | hx
    · rw [e, e1]
      exact ⟨t, e2, e3⟩
    · exact i2 x hx
theorem pr_back {H : Hp} : ∀ {xs : List V}, (∀ x ∈ xs, ∃ t, x = .ref t ∧ H t = some (.tup [.int (prAt H x).1, .int (prAt H x).2])) → DaL H ((xs.map (prAt H)).map prD) xs
  | [], _ => rfl
  | x :: xs, h => by
    obtain ⟨t, e1, e2⟩ := h x List.mem_cons_self
    exact ⟨x, xs, rfl, ⟨t, _, e1, e2, _, _, rfl, rfl, _, _, rfl, rfl, rfl⟩, pr_back fun y hy => h y (List.mem_cons_of_mem _ hy)⟩
theorem n_sortedP {K : PySem.W.Frag} {te : TE} {ps ms : List (Int × Int)} (h : Eb te S (.list (ps.map prD))) (hu : ∀ ms' : List (Int × Int), ms'.Perm ps → ms'.Pairwise (fun x y => SrtO.lexB y x = false) → ms' = ms) : En (tCB (rSortedJ K) (tCons te tNil)) S (ms.map prD) := n_cb (a_cons h a_nil) fun vs H Q h q => by
  obtain ⟨v, rfl, h1⟩ := h.v1
  obtain ⟨a, xs, rfl, h2, h3⟩ := h1
  obtain ⟨e1, e2⟩ := pr_all h3
  refine .inr ⟨a, xs, prAt H, rfl, SqL.of h2, e2, fun ys p h4 h5 hp => ?_⟩
  have e3 : ys.map (prAt H) = ms := hu _ (by rw [← e1]; exact h5.perm.map _) (by rw [List.pairwise_map]; exact h4)
  refine q p _ (same_new hp) hp ⟨p, ys, rfl, upd_same, DaL.mono (same_new hp) _ _ ?_⟩
  rw [← e3]
  exact pr_back fun x hx => e2 x (h5.perm.mem_iff.mp hx)
/-! isinstance by the data -/
def isInt : PyData → Bool
  | .int _ => true
  | .bool _ => true
  | _ => false
def isBl : PyData → Bool
  | .bool _ => true
  | _ => false
def isTup : PyData → Bool
  | .tuple _ => true
  | _ => false
def isLst : PyData → Bool
  | .list _ => true
  | .dict _ => true
  | _ => false
def isStr : PyData → Bool
  | .str _ => true
  | _ => false
omit [KK] in
theorem kit_int {K : PySem.W.Frag} : ∀ d : PyData, PySem.W.kitOne K (.type (tyN d)) (.type "int") = some (isInt d)
  | .none => show _ = some false from kit_ty (a := "NoneType") (b := "int") (r := false) (by decide +kernel)
  | .bool _ => show _ = some true from kit_ty (a := "bool") (b := "int") (r := true) (by decide +kernel)
  | .int _ => show _ = some true from kit_ty (a := "int") (b := "int") (r := true) (by decide +kernel)
  | .str _ => show _ = some false from kit_ty (a := "str") (b := "int") (r := false) (by decide +kernel)
  | .list _ => show _ = some false from kit_ty (a := "list") (b := "int") (r := false) (by decide +kernel)
  | .tuple _ => show _ = some false from kit_ty (a := "tuple") (b := "int") (r := false) (by decide +kernel)
  | .dict _ => show _ = some false from kit_ty (a := "list") (b := "int") (r := false) (by decide +kernel)
omit [KK] in
theorem kit_bool {K : PySem.W.Frag} : ∀ d : PyData, PySem.W.kitOne K (.type (tyN d)) (.type "bool") = some (isBl d)
  | .none => show _ = some false from kit_ty (a := "NoneType") (b := "bool") (r := false) (by decide +kernel)
  | .bool _ => show _ = some true from kit_ty (a := "bool") (b := "bool") (r := true) (by decide +kernel)
  | .int _ => show _ = some false from kit_ty (a := "int") (b := "bool") (r := false) (by decide +kernel)
  | .str _ => show _ = some false from kit_ty (a := "str") (b := "bool") (r := false) (by decide +kernel)
  | .list _ => show _ = some false from kit_ty (a := "list") (b := "bool") (r := false) (by decide +kernel)
  | .tuple _ => show _ = some false from kit_ty (a := "tuple") (b := "bool") (r := false) (by decide +kernel)
  | .dict _ => show _ = some false from kit_ty (a := "list") (b := "bool") (r := false) (by decide +kernel)
omit [KK] in
theorem kit_tuple {K : PySem.W.Frag} : ∀ d : PyData, PySem.W.kitOne K (.type (tyN d)) (.type "tuple") = some (isTup d)
  | .none => show _ = some false from kit_ty (a := "NoneType") (b := "tuple") (r := false) (by decide +kernel)
  | .bool _ => show _ = some false from kit_ty (a := "bool") (b := "tuple") (r := false) (by decide +kernel)
  | .int _ => show _ = some false from kit_ty (a := "int") (b := "tuple") (r := false) (by decide +kernel)
  | .str _ => show _ = some false from kit_ty (a := "str") (b := "tuple") (r := false) (by decide +kernel)
  | .list _ => show _ = some false from kit_ty (a := "list") (b := "tuple") (r := false) (by decide +kernel)
  | .tuple _ => show _ = some true from kit_ty (a := "tuple") (b := "tuple") (r := true) (by decide +kernel)
  | .dict _ => show _ = some false from kit_ty (a := "list") (b := "tuple") (r := false) (by decide +kernel)
omit [KK] in
theorem kit_list {K : PySem.W.Frag} : ∀ d : PyData, PySem.W.kitOne K (.type (tyN d)) (.type "list") = some (isLst d)
  | .none => show _ = some false from kit_ty (a := "NoneType") (b := "list") (r := false) (by decide +kernel)
  | .bool _ => show _ = some false from kit_ty (a := "bool") (b := "list") (r := false) (by decide +kernel)
  | .int _ => show _ = some false from kit_ty (a := "int") (b := "list") (r := false) (by decide +kernel)
  | .str _ => show _ = some false from kit_ty (a := "str") (b := "list") (r := false) (by decide +kernel)
  | .list _ => show _ = some true from kit_ty (a := "list") (b := "list") (r := true) (by decide +kernel)
  | .tuple _ => show _ = some false from kit_ty (a := "tuple") (b := "list") (r := false) (by decide +kernel)
  | .dict _ => show _ = some true from kit_ty (a := "list") (b := "list") (r := true) (by decide +kernel)
omit [KK] in
theorem kit_str {K : PySem.W.Frag} : ∀ d : PyData, PySem.W.kitOne K (.type (tyN d)) (.type "str") = some (isStr d)
  | .none => show _ = some false from kit_ty (a := "NoneType") (b := "str") (r := false) (by decide +kernel)
  | .bool _ => show _ = some false from kit_ty (a := "bool") (b := "str") (r := false) (by decide +kernel)
  | .int _ => show _ = some false from kit_ty (a := "int") (b := "str") (r := false) (by decide +kernel)
  | .str _ => show _ = some true from kit_ty (a := "str") (b := "str") (r := true) (by decide +kernel)
  | .list _ => show _ = some false from kit_ty (a := "list") (b := "str") (r := false) (by decide +kernel)
  | .tuple _ => show _ = some false from kit_ty (a := "tuple") (b := "str") (r := false) (by decide +kernel)
  | .dict _ => show _ = some false from kit_ty (a := "list") (b := "str") (r := false) (by decide +kernel)
theorem e_isInt {te : TE} (h : Eb te S d) : Eb (tCB (rIsi KK.K) (tCons te (tCons (tC (.ty "int")) tNil))) S (.bool (isInt d)) := e_isi h (kit_int d)
theorem e_isBl {te : TE} (h : Eb te S d) : Eb (tCB (rIsi KK.K) (tCons te (tCons (tC (.ty "bool")) tNil))) S (.bool (isBl d)) := e_isi h (kit_bool d)
theorem e_isTup {te : TE} (h : Eb te S d) : Eb (tCB (rIsi KK.K) (tCons te (tCons (tC (.ty "tuple")) tNil))) S (.bool (isTup d)) := e_isi h (kit_tuple d)
theorem e_isLst {te : TE} (h : Eb te S d) : Eb (tCB (rIsi KK.K) (tCons te (tCons (tC (.ty "list")) tNil))) S (.bool (isLst d)) := e_isi h (kit_list d)
theorem e_isStr {te : TE} (h : Eb te S d) : Eb (tCB (rIsi KK.K) (tCons te (tCons (tC (.ty "str")) tNil))) S (.bool (isStr d)) := e_isi h (kit_str d)
theorem x_ret' {te : TE} {d' : PyData} (h : Eb te S d) (e : d = d') : DX E (tRet te) S (.rt (.va d')) := x_ret (h.to e)
/-- the law's promise: the script in, True out -/
def spLaw (K : PySem.W.Frag) : Sp := fun vs H Q _ => ∃ (a : Addr) (ns : List Int), vs = [.ref a] ∧ SqL K H a (ns.map V.int) ∧ ns.length ≤ 63 ∧ ∀ H', Q (.bl true) H'
theorem law_run {N : List Str} {t : TS} {vs : List V} {H : Hp} {Q : VK} (h : spLaw KK.K vs H Q E)
    (hb : ∀ ns : List Int, ns.length ≤ 63 → DX E t (.va (frz ns) :: List.replicate (N.length - 1) Sl.no) (.rt (.va (.bool true)))) : t { nx := fun _ H' => Q .non H', rt := Q } (L2.start N vs) H := by
  obtain ⟨a, ns, rfl, h1, h2, h3⟩ := h
  have hs : SpR (fun ds r => ∃ ns : List Int, ns.length ≤ 63 ∧ ds = [frz ns] ∧ r = .va (.bool true)) [.ref a] H Q E := ⟨[frz ns], .va (.bool true), ⟨.ref a, [], rfl, ⟨a, rfl, by rw [frzV_map]; exact h1⟩, rfl⟩, ⟨ns, h2, rfl, rfl⟩, fun v H' _ q => by
    have e : v = .bl true := q
    rw [e]
    exact h3 H'⟩
  refine run_of hs fun ds r ⟨ms, g1, g2, g3⟩ => ?_
  subst g2
  subst g3
  exact hb ms g1
end
end DL

namespace DL
open PySem L2
section
variable [KK] {E : XK} {S : DSt} {o : Ou}
/-- a for loop told along its list -/
inductive DFor (E : XK) (g : TG) (tb : TS) : List PyData → DSt → Ou → Prop
  | nil {S : DSt} : DFor E g tb [] S (.nx S)
  | go {d : PyData} {r : List PyData} {S S' : DSt} {o : Ou} : (∃ ws S1 S2, Dg ws g d S S1 ∧ (DX E tb S1 (.nx S2) ∨ DX E tb S1 (.ct S2)) ∧ Le S2 S') → DFor E g tb r S' o → DFor E g tb (d :: r) S o
  | out {d : PyData} {r : List PyData} {S : DSt} {q : Ro} : (∃ ws S1, Dg ws g d S S1 ∧ DX E tb S1 (.rt q)) → DFor E g tb (d :: r) S (.rt q)
theorem DFor.seq {g : TG} {tb : TS} {ds : List PyData} (h : DFor E g tb ds S o) : ∃ (n : Nat) (J : Nat → DSt), n ≤ ds.length ∧ J 0 = S ∧
    (∀ (i : Nat) d, i < n → ds[i]? = some d → ∃ ws S1 S2, Dg ws g d (J i) S1 ∧ (DX E tb S1 (.nx S2) ∨ DX E tb S1 (.ct S2)) ∧ Le S2 (J (i + 1))) ∧
    (n < ds.length → ∀ d, ds[n]? = some d → ∃ ws S1 r, o = .rt r ∧ Dg ws g d (J n) S1 ∧ DX E tb S1 (.rt r)) ∧ (n = ds.length → o = .nx (J n)) := by
  induction h with
  | @nil S => exact ⟨0, fun _ => S, Nat.le_refl _, rfl, fun i d hi => absurd hi (Nat.not_lt_zero i), fun hi => absurd hi (Nat.lt_irrefl _), fun _ => rfl⟩
  | @go d r S S' o h1 h2 ih =>
    obtain ⟨n, J, a1, a2, a3, a4, a5⟩ := ih
    refine ⟨n + 1, fun i => match i with | 0 => S | i + 1 => J i, Nat.succ_le_succ a1, rfl, fun i d' hi hd => ?_, fun hi d' hd => ?_, fun hi => ?_⟩
    · cases i with
      | zero =>
        cases hd
        show ∃ ws S1 S2, Dg ws g d S S1 ∧ _ ∧ Le S2 (J 0)
        rw [a2]
        exact h1
      | succ i => exact a3 i d' (Nat.lt_of_succ_lt_succ hi) hd
    · exact a4 (Nat.lt_of_succ_lt_succ hi) d' hd
    · exact a5 (Nat.succ.inj hi)
  | @out d r S q h1 =>
    obtain ⟨ws, S1, b1, b2⟩ := h1
    refine ⟨0, fun _ => S, Nat.zero_le _, rfl, fun i d hi => absurd hi (Nat.not_lt_zero i), fun hi d' hd => ?_, fun hi => ?_⟩
    · cases hd
      exact ⟨ws, S1, q, rfl, b1, b2⟩
    · cases hi
theorem x_forW {wi : TI} {g : TG} {tb : TS} {S' : DSt} {ds : List PyData} (hw : Di wi S ds) (h0 : Le S S') (h : DFor E g tb ds S' o) : DX E (tFor wi g tb) S o := by
  obtain ⟨n, J, a1, a2, a3, a4, a5⟩ := h.seq
  exact x_forGen hw n a1 J (by rw [a2]; exact h0) a3 a4 a5
theorem x_seqE {ι : Type} {t u : TS} {o : Ou} (I : ι → DSt) (P : ι → Prop) (h : ∃ i, P i ∧ DX E t S (.nx (I i))) (h2 : ∀ i, P i → DX E u (I i) o) : DX E (tSeq t u) S o :=
  let ⟨i, h3, h4⟩ := h
  x_seq h4 (h2 i h3)
theorem immL_prs (ps : List (Int × Int)) : immL (ps.map prD) = true := immL_map fun _ _ => rfl
/-- a turn goes on or gives -/
def goS {α β : Type} (step : β → α → β ⊕ Ro) : β → List α → β ⊕ Ro
  | b, [] => .inl b
  | b, x :: r => match step b x with
    | .inl b' => goS step b' r
    | .inr q => .inr q
theorem goS_for {α β : Type} {f : α → PyData} {g : TG} {tb : TS} (step : β → α → β ⊕ Ro) (I : β → DSt) (Inv : β → Prop) : ∀ (xs : List α) (b : β), Inv b →
    (∀ b x, Inv b → x ∈ xs → match step b x with
      | .inl b' => Inv b' ∧ ∃ ws S1 S2, Dg ws g (f x) (I b) S1 ∧ (DX E tb S1 (.nx S2) ∨ DX E tb S1 (.ct S2)) ∧ Le S2 (I b')
      | .inr q => ∃ ws S1, Dg ws g (f x) (I b) S1 ∧ DX E tb S1 (.rt q)) →
    match goS step b xs with
      | .inl b' => Inv b' ∧ DFor E g tb (xs.map f) (I b) (.nx (I b'))
      | .inr q => DFor E g tb (xs.map f) (I b) (.rt q)
  | [], b, hb, _ => ⟨hb, .nil⟩
  | x :: r, b, hb, hs => by
    have h1 := hs b x hb List.mem_cons_self
    unfold goS
    cases e : step b x with
    | inl b' =>
      rw [e] at h1
      obtain ⟨i1, i2⟩ := h1
      have ih := goS_for step I Inv r b' i1 fun b x hb hx => hs b x hb (List.mem_cons_of_mem _ hx)
      dsimp only
      cases e2 : goS step b' r with
      | inl b2 =>
        rw [e2] at ih
        exact ⟨ih.1, .go i2 ih.2⟩
      | inr q =>
        rw [e2] at ih
        exact .go i2 ih
    | inr q =>
      rw [e] at h1
      exact .out h1
theorem goS_all {α : Type} {P : α → Prop} [DecidablePred P] {q : Ro} : ∀ xs : List α, goS (fun (_ : Unit) x => if P x then .inl () else .inr q) () xs = if ∀ x ∈ xs, P x then .inl () else .inr q
  | [] => by
    rw [if_pos (fun x hx => (List.not_mem_nil hx).elim)]
    rfl
  | x :: r => by
    unfold goS
    by_cases h : P x
    · rw [if_pos h]
      dsimp only
      rw [goS_all r]
      by_cases h2 : ∀ y ∈ r, P y
      · rw [if_pos h2, if_pos (fun y hy => by
          rcases List.mem_cons.mp hy with e | hy
          · rw [e]; exact h
          · exact h2 y hy)]
      · rw [if_neg h2, if_neg (fun h3 => h2 fun y hy => h3 y (List.mem_cons_of_mem _ hy))]
    · rw [if_neg h, if_neg (fun h3 => h (h3 x List.mem_cons_self))]
theorem x_forQ {α β : Type} {xs : List α} {f : α → PyData} {wi : TI} {g : TG} {tb u : TS} {b0 : β} {q : Ro} (step : β → α → β ⊕ Ro) (I : β → DSt) (Inv : β → Prop) (hw : Di wi S (xs.map f)) (h0 : Le S (I b0)) (hI : Inv b0)
    (hs : ∀ b x, Inv b → x ∈ xs → match step b x with
      | .inl b' => Inv b' ∧ ∃ ws S1 S2, Dg ws g (f x) (I b) S1 ∧ (DX E tb S1 (.nx S2) ∨ DX E tb S1 (.ct S2)) ∧ Le S2 (I b')
      | .inr q => ∃ ws S1, Dg ws g (f x) (I b) S1 ∧ DX E tb S1 (.rt q))
    (hn : ∀ b, goS step b0 xs = .inl b → Inv b → DX E u (I b) (.rt q)) (ho : ∀ r, goS step b0 xs = .inr r → r = q) : DX E (tSeq (tFor wi g tb) u) S (.rt q) := by
  have h := goS_for (E := E) (f := f) (g := g) (tb := tb) step I Inv xs b0 hI hs
  cases e : goS step b0 xs with
  | inl b =>
    rw [e] at h
    exact x_seq (x_forW hw h0 h.2) (hn b e h.1)
  | inr r =>
    rw [e] at h
    rw [← ho r e]
    exact x_seqR (x_forW hw h0 h)
end
end DL

namespace DL
open PySem L2
/-! ### jobs, in plain Lean -/
abbrev Job := Int × Int × Int
abbrev jobD (j : Job) : PyData := .tuple [.int j.1, .int j.2.1, .int j.2.2]
abbrev jobsL (js : List Job) : List PyData := js.map fun j => .tuple [.int j.1, .int j.2.1, .int j.2.2]
abbrev jobsD (js : List Job) : PyData := .list (jobsL js)
abbrev intsD (ns : List Int) : PyData := .list (ns.map .int)
def Snd (j : Job) : Prop := 0 ≤ j.1 ∧ 1 ≤ j.2.1 ∧ j.1 < j.2.2
def AllS (js : List Job) : Prop := ∀ j ∈ js, Snd j
def wholeD : PyData → Bool
  | .int _ => true
  | _ => false
def soundD : PyData → Bool
  | .tuple [.int a, .int b, .int c] => decide (0 ≤ a) && decide (1 ≤ b) && decide (a < c)
  | _ => false
theorem soundD_job (j : Job) : soundD (jobD j) = true ↔ Snd j := by
  show (decide (0 ≤ j.1) && decide (1 ≤ j.2.1) && decide (j.1 < j.2.2)) = true ↔ _
  simp [Snd, and_assoc]
theorem immL_jobs (js : List Job) : immL (jobsL js) = true := immL_map fun _ _ => rfl
theorem at_map {α : Type} {f : α → PyData} {l : List α} {x : α} {i : Nat} (h : l[i]? = some x) : atI (l.map f) (i : Int) = some (f x) := atI_nat (by rw [List.getElem?_map, h]; rfl)
theorem atI_pos {α : Type} {l : List α} {k : Int} (h0 : 0 ≤ k) {x : α} (h : l[k.toNat]? = some x) : atI l k = some x := by
  obtain ⟨n, rfl⟩ := Int.eq_ofNat_of_zero_le h0
  exact atI_nat h
theorem getD_some {α : Type} {l : List α} {n : Nat} {d : α} (h : n < l.length) : l[n]? = some (l.getD n d) := by
  rw [List.getD_eq_getElem?_getD, List.getElem?_eq_getElem h]
  rfl
/-! ### the laws' builder of jobs -/
def cellAt (ns : List Int) (k : Int) : Int := if k < ns.length then ns.getD k.toNat 0 else 0
def mixed (cell k prime : Int) : Int := (cell + 7 * k + 1) * 48271 % prime
def countBy (c : Int) : Int := if c % 64 = 1 then 25 + c / 64 % 36 else if c % 8 = 5 then 8 + c / 8 % 17 else c / 8 % 12
theorem countBy_le (c : Int) : 0 ≤ countBy c ∧ countBy c ≤ 60 := by
  unfold countBy
  split
  · omega
  · split <;> omega
def wideBy (c : Int) : Int := if c % 4 = 3 then 2 + c / 4 % 10 ^ (56 : Int).toNat else 1
theorem wideBy_pos (c : Int) : 1 ≤ wideBy c := by
  unfold wideBy
  split
  · have h : 0 ≤ c / 4 % 10 ^ (56 : Int).toNat := Int.emod_nonneg _ (by decide)
    omega
  · decide
theorem wideBy_le (c : Int) : wideBy c ≤ 10 ^ 56 + 1 := by
  unfold wideBy
  split
  · have h : c / 4 % 10 ^ (56 : Int).toNat < 10 ^ (56 : Int).toNat := Int.emod_lt_of_pos _ (by decide)
    have e : (10 : Int) ^ (56 : Int).toNat = 10 ^ 56 := by decide
    omega
  · decide
def jobBy (come length due wide more : Int) : Job :=
  if wide < 2 then (come % (20 + 3 * more), 1 + length % 6, come % (20 + 3 * more) + 1 + due % (18 + 2 * more))
  else (come % (20 + 3 * more) * wide + length / 12 % wide, (1 + length / 2 % 6) * wide - length % 2, (come % (20 + 3 * more) + 1 + due % (18 + 2 * more)) * wide)
theorem jobBy_snd {come length due wide more : Int} (hw : 1 ≤ wide) (h0 : 0 ≤ more) (h1 : more ≤ 60) : Snd (jobBy come length due wide more) := by
  have a1 : 0 ≤ come % (20 + 3 * more) := Int.emod_nonneg _ (by omega)
  have a3 : 0 ≤ due % (18 + 2 * more) := Int.emod_nonneg _ (by omega)
  unfold jobBy
  split
  · exact ⟨a1, by show 1 ≤ 1 + length % 6; omega, by show come % (20 + 3 * more) < come % (20 + 3 * more) + 1 + due % (18 + 2 * more); omega⟩
  · have b1 : 0 ≤ length / 12 % wide := Int.emod_nonneg _ (by omega)
    have b2 : length / 12 % wide < wide := Int.emod_lt_of_pos _ (by omega)
    generalize come % (20 + 3 * more) = c at *
    generalize due % (18 + 2 * more) = d at *
    generalize length / 12 % wide = m at *
    have c1 : 0 ≤ c * wide := Int.mul_nonneg a1 (by omega)
    refine ⟨by show 0 ≤ c * wide + m; omega, ?_, ?_⟩
    · show 1 ≤ (1 + length / 2 % 6) * wide - length % 2
      have z : 0 ≤ length / 2 % 6 := Int.emod_nonneg _ (by decide)
      have z2 : wide ≤ (1 + length / 2 % 6) * wide := by
        rw [Int.add_mul, Int.one_mul]
        have := Int.mul_nonneg z (show 0 ≤ wide by omega)
        omega
      omega
    · show c * wide + m < (c + 1 + d) * wide
      have e : (c + 1 + d) * wide = c * wide + wide + d * wide := by rw [Int.add_mul, Int.add_mul, Int.one_mul]
      have := Int.mul_nonneg a3 (show 0 ≤ wide by omega)
      omega
def tMix (cell : Int) (k : Nat) : Int := mixed cell k 2147483647
def tBegin (cell : Int) (t : Int) (k : Nat) : Int := t + tMix cell k % 6 / 5
def tTime (cell : Int) (t : Int) (k : Nat) : Int := tBegin cell t k + 1 + tMix cell k / 6 % 4
def tNew (cell : Int) (t : Int) (k : Nat) : Job := (max 0 (tBegin cell t k - tMix cell k / 24 % 3), tTime cell t k - tBegin cell t k, tTime cell t k + tMix cell k / 72 % 3)
def tMore (cell : Int) (t : Int) (k : Nat) (j : Job) : Job := (j.1, j.2.1 + tTime cell t k - tBegin cell t k, max j.2.2 (tTime cell t k + tMix cell k / 72 % 2))
def tStep (cell count : Int) (s : List Job × Int) (k : Nat) : List Job × Int :=
  if (k : Int) < count then (s.1 ++ [tNew cell s.2 k], tTime cell s.2 k)
  else (s.1.set (tMix cell k / 24 % count).toNat (tMore cell s.2 k (s.1.getD (tMix cell k / 24 % count).toNat (0, 0, 0))), tTime cell s.2 k)
def tState (cell count : Int) : Nat → List Job × Int
  | 0 => ([], 0)
  | n + 1 => tStep cell count (tState cell count n) n
def tOk (n : Nat) (j : Job) : Prop := Snd j ∧ j.1 ≤ 5 * (n : Int) ∧ j.2.1 ≤ 5 * (n : Int) ∧ j.2.2 ≤ 5 * (n : Int) + 2
structure tInv (count : Int) (n : Nat) (s : List Job × Int) : Prop where
  len : (s.1.length : Int) = min (n : Int) count
  t0 : 0 ≤ s.2
  t1 : s.2 ≤ 5 * (n : Int)
  ok : ∀ j ∈ s.1, tOk n j
theorem mem_set_of {α : Type} {l : List α} {n : Nat} {x y : α} (h : y ∈ l.set n x) : y ∈ l ∨ y = x := List.mem_or_eq_of_mem_set h
theorem tInv_step {cell count : Int} {n : Nat} {s : List Job × Int} (hc : 0 ≤ count) (hn : (n : Int) < 2 * count) (h : tInv count n s) : tInv count (n + 1) (tStep cell count s n) := by
  obtain ⟨h1, h2, h3, h4⟩ := h
  have b0 : 0 ≤ tMix cell n % 6 / 5 ∧ tMix cell n % 6 / 5 ≤ 1 := by omega
  have b1 : 0 ≤ tMix cell n / 6 % 4 ∧ tMix cell n / 6 % 4 ≤ 3 := by omega
  have b2 : 0 ≤ tMix cell n / 72 % 3 ∧ tMix cell n / 72 % 3 ≤ 2 := by omega
  have b3 : 0 ≤ tMix cell n / 72 % 2 ∧ tMix cell n / 72 % 2 ≤ 1 := by omega
  have b4 : 0 ≤ tMix cell n / 24 % 3 ∧ tMix cell n / 24 % 3 ≤ 2 := by omega
  have e1 : tBegin cell s.2 n = s.2 + tMix cell n % 6 / 5 := rfl
  have e2 : tTime cell s.2 n = tBegin cell s.2 n + 1 + tMix cell n / 6 % 4 := rfl
  have up : ∀ j, tOk n j → tOk (n + 1) j := fun j ⟨a, b, c, d⟩ => ⟨a, by omega, by omega, by omega⟩
  unfold tStep
  by_cases q : (n : Int) < count
  · rw [if_pos q]
    refine ⟨?_, ?_, ?_, fun j hj => ?_⟩
    · show ((s.1 ++ [_]).length : Int) = _
      rw [List.length_append, List.length_singleton]
      omega
    · show 0 ≤ tTime cell s.2 n
      omega
    · show tTime cell s.2 n ≤ _
      omega
    · rcases List.mem_append.mp hj with hj | hj
      · exact up j (h4 j hj)
      · rw [List.mem_singleton] at hj
        subst hj
        refine ⟨⟨?_, ?_, ?_⟩, ?_, ?_, ?_⟩ <;> (simp only [tNew]; omega)
  · rw [if_neg q]
    have hc' : 0 < count := by omega
    have a0 : 0 ≤ tMix cell n / 24 % count := Int.emod_nonneg _ (by omega)
    have a1 : tMix cell n / 24 % count < count := Int.emod_lt_of_pos _ hc'
    refine ⟨?_, ?_, ?_, fun j hj => ?_⟩
    · show ((s.1.set _ _).length : Int) = _
      rw [List.length_set]
      omega
    · show 0 ≤ tTime cell s.2 n
      omega
    · show tTime cell s.2 n ≤ _
      omega
    · rcases mem_set_of hj with hj | hj
      · exact up j (h4 j hj)
      · have hlt : (tMix cell n / 24 % count).toNat < s.1.length := by omega
        have hm : s.1.getD (tMix cell n / 24 % count).toNat (0, 0, 0) ∈ s.1 := List.mem_of_getElem? (getD_some hlt)
        generalize s.1.getD (tMix cell n / 24 % count).toNat (0, 0, 0) = i at hj hm
        obtain ⟨⟨c1, c2, c3⟩, c4, c5, c6⟩ := h4 i hm
        subst hj
        refine ⟨⟨?_, ?_, ?_⟩, ?_, ?_, ?_⟩ <;> (simp only [tMore]; omega)
theorem tInv_at {cell count : Int} (hc : 0 ≤ count) : ∀ n : Nat, (n : Int) ≤ 2 * count → tInv count n (tState cell count n)
  | 0, _ => ⟨by show ((([] : List Job).length : Nat) : Int) = _; simp; omega, Int.le_refl 0, Int.le_refl 0, fun j h => by cases h⟩
  | n + 1, h => tInv_step hc (by omega) (tInv_at hc n (by omega))
def tScale (w : Int) (j : Job) : Job := (j.1 * w, j.2.1 * w, j.2.2 * w)
def tLess (j : Job) : Job := (j.1, j.2.1, max (j.1 + 1) (j.2.2 - 1))
def tightBy (cell count wide : Int) : List Job :=
  if 0 < count ∧ cell / 3 % 3 = 1 then
    (((tState cell count (2 * count).toNat).1.map (tScale wide)).set (cell / 9 % count).toNat (tLess (((tState cell count (2 * count).toNat).1.map (tScale wide)).getD (cell / 9 % count).toNat (0, 0, 0))))
  else (tState cell count (2 * count).toNat).1.map (tScale wide)
theorem tScale_snd {w : Int} {j : Job} (hw : 1 ≤ w) (h : Snd j) : Snd (tScale w j) := by
  obtain ⟨h1, h2, h3⟩ := h
  refine ⟨Int.mul_nonneg h1 (by omega), ?_, Int.mul_lt_mul_of_pos_right h3 (by omega)⟩
  show 1 ≤ j.2.1 * w
  have := Int.mul_le_mul h2 hw (by omega) (by omega)
  omega
theorem tLess_snd {j : Job} (h : Snd j) : Snd (tLess j) := by
  obtain ⟨h1, h2, h3⟩ := h
  exact ⟨h1, h2, by show j.1 < max (j.1 + 1) (j.2.2 - 1); omega⟩
theorem tight_len {cell count wide : Int} (hc : 0 ≤ count) : ((tightBy cell count wide).length : Int) = count := by
  have h := (tInv_at (cell := cell) hc (2 * count).toNat (by omega)).len
  unfold tightBy
  split
  · rw [List.length_set, List.length_map]
    omega
  · rw [List.length_map]
    omega
theorem tight_snd {cell count wide : Int} (hc : 0 ≤ count) (hw : 1 ≤ wide) : AllS (tightBy cell count wide) := by
  have h := tInv_at (cell := cell) hc (2 * count).toNat (by omega)
  have a : AllS ((tState cell count (2 * count).toNat).1.map (tScale wide)) := fun j hj => by
    obtain ⟨i, hi, rfl⟩ := List.mem_map.mp hj
    exact tScale_snd hw (h.ok i hi).1
  unfold tightBy
  split
  · rename_i q
    intro j hj
    rcases mem_set_of hj with hj | hj
    · exact a j hj
    · rw [hj]
      have a0 : 0 ≤ cell / 9 % count := Int.emod_nonneg _ (by omega)
      have a1 : cell / 9 % count < count := Int.emod_lt_of_pos _ q.1
      have hl := h.len
      exact tLess_snd (a _ (List.mem_of_getElem? (getD_some (by rw [List.length_map]; omega))))
  · exact a
def jobsBy (ns : List Int) (f : Int) : List Job :=
  let count := countBy (cellAt ns f)
  let wide := wideBy (cellAt ns (f + 1))
  let cell := cellAt ns (f + 2)
  if cell % 3 = 1 then tightBy cell count wide
  else (List.range count.toNat).map fun (k : Nat) =>
    let at_ := f + 3 + 3 * (k : Int)
    if count < 12 ∧ at_ + 2 < ns.length then jobBy (ns.getD at_.toNat 0) (ns.getD (at_ + 1).toNat 0) (ns.getD (at_ + 2).toNat 0) wide 0
    else jobBy (mixed cell k 2147483647) (mixed cell k 1000003) (mixed cell k 999983) wide count
theorem jobsBy_snd (ns : List Int) (f : Int) : AllS (jobsBy ns f) := by
  unfold jobsBy
  have hc := countBy_le (cellAt ns f)
  have hw := wideBy_pos (cellAt ns (f + 1))
  dsimp only
  split
  · exact tight_snd hc.1 hw
  · intro j hj
    obtain ⟨k, _, rfl⟩ := List.mem_map.mp hj
    split
    · exact jobBy_snd hw (by decide) (by decide)
    · exact jobBy_snd hw hc.1 hc.2
theorem jobsBy_len (ns : List Int) (f : Int) : (jobsBy ns f).length ≤ 60 := by
  unfold jobsBy
  have hc := countBy_le (cellAt ns f)
  dsimp only
  split
  · have := tight_len (cell := cellAt ns (f + 2)) (wide := wideBy (cellAt ns (f + 1))) hc.1
    omega
  · rw [List.length_map, List.length_range]
    omega
/-! ### equality of data -/
theorem eqvAll_map {α : Type} [DecidableEq α] {f : α → PyData} (h : ∀ x y, PyData.eqv (f x) (f y) = decide (x = y)) : ∀ l m : List α, PyData.eqvAll (l.map f) (m.map f) = decide (l = m)
  | [], [] => by simp [PyData.eqvAll]
  | [], y :: m => by simp [PyData.eqvAll]
  | x :: l, [] => by simp [PyData.eqvAll]
  | x :: l, y :: m => by
    show PyData.eqvAll (f x :: l.map f) (f y :: m.map f) = _
    rw [PyData.eqvAll, h, eqvAll_map h l m]
    by_cases e : x = y <;> by_cases e2 : l = m <;> simp [e, e2]
theorem eqv_listmap {α : Type} [DecidableEq α] {f : α → PyData} (h : ∀ x y, PyData.eqv (f x) (f y) = decide (x = y)) (l m : List α) : PyData.eqv (.list (l.map f)) (.list (m.map f)) = decide (l = m) := by
  rw [PyData.eqv]
  exact eqvAll_map h l m
theorem eqv_int (i j : Int) : PyData.eqv (.int i) (.int j) = decide (i = j) := by
  rw [PyData.eqv]
  exact Bool.beq_eq_decide_eq i j
theorem eqv_job (i j : Job) : PyData.eqv (jobD i) (jobD j) = decide (i = j) := by
  obtain ⟨a, b, c⟩ := i
  obtain ⟨a', b', c'⟩ := j
  simp [PyData.eqv, PyData.eqvAll, Bool.beq_eq_decide_eq]
theorem eqv_jobs (l m : List Job) : PyData.eqv (jobsD l) (jobsD m) = decide (l = m) := eqv_listmap eqv_job l m
theorem eqv_ints (l m : List Int) : PyData.eqv (intsD l) (intsD m) = decide (l = m) := eqv_listmap eqv_int l m
theorem canLay_map {α : Type} {f : α → PyData} : ∀ (l : List α), (∀ x ∈ l, (f x).canLay0 = true) → PyData.canLayAll0 (l.map f) = true
  | [], _ => by simp [PyData.canLayAll0]
  | x :: l, h => by
    have ih := canLay_map l fun y hy => h y (List.mem_cons_of_mem _ hy)
    simp [PyData.canLayAll0, h x List.mem_cons_self, ih]
theorem depth_map {α : Type} {f : α → PyData} {n : Nat} : ∀ (l : List α), (∀ x ∈ l, (f x).depth ≤ n) → PyData.depthAll (l.map f) ≤ n
  | [], _ => by simp [PyData.depthAll]
  | x :: l, h => by
    have ih := depth_map l fun y hy => h y (List.mem_cons_of_mem _ hy)
    have h0 := h x List.mem_cons_self
    simp only [List.map_cons, PyData.depthAll]
    omega
theorem shaped_map {α : Type} {f : α → PyData} (l : List α) (h1 : ∀ x ∈ l, (f x).canLay0 = true) (h2 : ∀ x ∈ l, (f x).depth ≤ 20) : SeqAt.shaped (.list (l.map f)) = true := by
  have a := canLay_map l h1
  have b := depth_map l h2
  unfold SeqAt.shaped
  rw [Bool.and_eq_true]
  refine ⟨by simpa [PyData.canLay0] using a, decide_eq_true ?_⟩
  rw [PyData.depth]
  omega
theorem shaped_str {x : Str} (h : PyData.strOk x = true) : SeqAt.shaped (.str x) = true := by
  unfold SeqAt.shaped
  simpa [PyData.canLay0, PyData.depth] using h
theorem shaped_jobs (js : List Job) : SeqAt.shaped (jobsD js) = true := shaped_map js (fun _ _ => by simp [PyData.canLay0, PyData.canLayAll0]) fun _ _ => by simp [PyData.depth, PyData.depthAll]
theorem shaped_ints (js : List Int) : SeqAt.shaped (intsD js) = true := shaped_map js (fun _ _ => by simp [PyData.canLay0]) fun _ _ => by simp [PyData.depth]
theorem shaped_plan (js : List Job) : SeqAt.shaped (.tuple [.str (Str.ofString "plan"), jobsD js]) = true := by
  have h := shaped_jobs js
  have h2 : SeqAt.shaped (.str (Str.ofString "plan")) = true := shaped_str (by decide +kernel)
  unfold SeqAt.shaped at h h2 ⊢
  rw [Bool.and_eq_true] at h h2 ⊢
  have d2 : PyData.depthAll (jobsL js) ≤ 1 := depth_map (n := 1) js (f := fun j => jobD j) fun _ _ => by simp [PyData.depth, PyData.depthAll]
  have h1 := h.1
  have h3 := h2.1
  refine ⟨by simp only [PyData.canLay0, PyData.canLayAll0, Bool.and_true, Bool.and_eq_true] at h1 h3 ⊢; exact ⟨h3, h1⟩, decide_eq_true ?_⟩
  simp only [PyData.depth, PyData.depthAll]
  omega
theorem eqv_plan (js : List Job) : PyData.eqv (.tuple [.str (Str.ofString "plan"), jobsD js]) (.tuple [.str (Str.ofString "plan"), jobsD js]) = true := by
  have h := eqv_jobs js js
  rw [decide_eq_true rfl] at h
  have h2 : PyData.eqv (.str (Str.ofString "plan")) (.str (Str.ofString "plan")) = true := by rfl
  rw [PyData.eqv, PyData.eqvAll, PyData.eqvAll, h, h2]
  simp [PyData.eqvAll]
theorem shaped_bool (b : Bool) : SeqAt.shaped (.bool b) = true := by
  unfold SeqAt.shaped
  simp [PyData.canLay0, PyData.depth]
theorem eqv_bool (b c : Bool) : PyData.eqv (.bool b) (.bool c) = decide (b = c) := by
  cases b <;> cases c <;> rfl
end DL

namespace DL
open PySem L2
/-! ### who is worked at -/
abbrev J0 : Job := (0, 1, 1)
abbrev jAt (js : List Job) (i : Nat) : Job := js.getD i J0
abbrev lAt (l : List Int) (i : Nat) : Int := l.getD i 0
theorem jAt_of {js : List Job} {i : Nat} {j : Job} (h : js[i]? = some j) : jAt js i = j := by
  rw [jAt, List.getD_eq_getElem?_getD, h]
  rfl
theorem lAt_of {l : List Int} {i : Nat} {x : Int} (h : l[i]? = some x) : lAt l i = x := by
  rw [lAt, List.getD_eq_getElem?_getD, h]
  rfl
def nearStep (js : List Job) (left : List Int) (t : Int) (b : Option Nat) (i : Nat) : Option Nat :=
  if (jAt js i).1 ≤ t ∧ 0 < lAt left i then
    match b with
    | none => some i
    | some p => if (jAt js i).2.2 < (jAt js p).2.2 then some i else some p
  else b
def nearUp (js : List Job) (left : List Int) (t : Int) : Nat → Option Nat
  | 0 => none
  | n + 1 => nearStep js left t (nearUp js left t n) n
def nearF (js : List Job) (left : List Int) (t : Int) : Option Nat := nearUp js left t js.length
/-- i is there, not done -/
def There (js : List Job) (left : List Int) (t : Int) (i : Nat) : Prop := (jAt js i).1 ≤ t ∧ 0 < lAt left i
/-- i ahead of k, or k itself: by due, of the same due by place -/
def Fst (js : List Job) (i k : Nat) : Prop := (jAt js i).2.2 < (jAt js k).2.2 ∨ ((jAt js i).2.2 = (jAt js k).2.2 ∧ i ≤ k)
def NearSpec (js : List Job) (left : List Int) (t : Int) (n : Nat) : Option Nat → Prop
  | none => ∀ i, i < n → ¬ There js left t i
  | some p => p < n ∧ There js left t p ∧ ∀ i, i < n → There js left t i → Fst js p i
theorem nearUp_spec (js : List Job) (left : List Int) (t : Int) : ∀ n, NearSpec js left t n (nearUp js left t n)
  | 0 => fun i h => absurd h (Nat.not_lt_zero i)
  | n + 1 => by
    have ih := nearUp_spec js left t n
    show NearSpec js left t (n + 1) (nearStep js left t (nearUp js left t n) n)
    generalize nearUp js left t n = b at ih
    unfold nearStep
    by_cases q : (jAt js n).1 ≤ t ∧ 0 < lAt left n
    · rw [if_pos q]
      cases b with
      | none =>
        refine ⟨Nat.lt_succ_self n, q, fun i hi ht => ?_⟩
        by_cases e : i = n
        · subst e
          exact .inr ⟨rfl, Nat.le_refl _⟩
        · exact absurd ht (ih i (by omega))
      | some p =>
        obtain ⟨h1, h2, h3⟩ := ih
        dsimp only
        by_cases c : (jAt js n).2.2 < (jAt js p).2.2
        · rw [if_pos c]
          refine ⟨Nat.lt_succ_self n, q, fun i hi ht => ?_⟩
          by_cases e : i = n
          · subst e
            exact .inr ⟨rfl, Nat.le_refl _⟩
          · have := h3 i (by omega) ht
            rcases this with z | ⟨z, _⟩
            · exact .inl (by omega)
            · exact .inl (by omega)
        · rw [if_neg c]
          refine ⟨by omega, h2, fun i hi ht => ?_⟩
          by_cases e : i = n
          · subst e
            by_cases c2 : (jAt js p).2.2 = (jAt js i).2.2
            · exact .inr ⟨c2, by omega⟩
            · exact .inl (by omega)
          · exact h3 i (by omega) ht
    · rw [if_neg q]
      cases b with
      | none =>
        intro i hi
        by_cases e : i = n
        · subst e
          exact q
        · exact ih i (by omega)
      | some p =>
        obtain ⟨h1, h2, h3⟩ := ih
        refine ⟨by omega, h2, fun i hi ht => ?_⟩
        by_cases e : i = n
        · subst e
          exact absurd ht q
        · exact h3 i (by omega) ht
theorem nearF_spec (js : List Job) (left : List Int) (t : Int) : NearSpec js left t js.length (nearF js left t) := nearUp_spec js left t js.length
theorem nearUp_lt {js : List Job} {left : List Int} {t : Int} {n p : Nat} (h : nearUp js left t n = some p) : p < n := by
  have := nearUp_spec js left t n
  rw [h] at this
  exact this.1
def optD : Option Nat → PyData
  | none => .none
  | some p => .int (p : Int)
def optI : Option Int → PyData
  | none => .none
  | some p => .int p
/-! ### the next come -/
def upStep (t : Int) (f : Option Int) (j : Job) : Option Int :=
  if t < j.1 then (match f with | none => some j.1 | some c => if j.1 < c then some j.1 else some c) else f
def upF (js : List Job) (t : Int) : Option Int := js.foldl (upStep t) none
def UpSpec (js : List Job) (t : Int) : Option Int → Prop
  | none => ∀ j ∈ js, j.1 ≤ t
  | some c => t < c ∧ (∃ j ∈ js, j.1 = c) ∧ ∀ j ∈ js, t < j.1 → c ≤ j.1
theorem upStep_spec {js : List Job} {t : Int} {f : Option Int} {j : Job} (h : UpSpec js t f) : UpSpec (js ++ [j]) t (upStep t f j) := by
  unfold upStep
  by_cases q : t < j.1
  · rw [if_pos q]
    cases f with
    | none =>
      refine ⟨q, ⟨j, by simp, rfl⟩, fun k hk hk2 => ?_⟩
      rcases List.mem_append.mp hk with hk | hk
      · have := h k hk
        omega
      · rw [List.mem_singleton.mp hk]
        exact Int.le_refl _
    | some c =>
      obtain ⟨h1, ⟨i, hi, h2⟩, h3⟩ := h
      dsimp only
      by_cases c2 : j.1 < c
      · rw [if_pos c2]
        refine ⟨q, ⟨j, by simp, rfl⟩, fun k hk hk2 => ?_⟩
        rcases List.mem_append.mp hk with hk | hk
        · have := h3 k hk hk2
          omega
        · rw [List.mem_singleton.mp hk]
          exact Int.le_refl _
      · rw [if_neg c2]
        refine ⟨h1, ⟨i, List.mem_append_left _ hi, h2⟩, fun k hk hk2 => ?_⟩
        rcases List.mem_append.mp hk with hk | hk
        · exact h3 k hk hk2
        · rw [List.mem_singleton.mp hk]
          omega
  · rw [if_neg q]
    cases f with
    | none =>
      intro k hk
      rcases List.mem_append.mp hk with hk | hk
      · exact h k hk
      · rw [List.mem_singleton.mp hk]
        omega
    | some c =>
      obtain ⟨h1, ⟨i, hi, h2⟩, h3⟩ := h
      refine ⟨h1, ⟨i, List.mem_append_left _ hi, h2⟩, fun k hk hk2 => ?_⟩
      rcases List.mem_append.mp hk with hk | hk
      · exact h3 k hk hk2
      · rw [List.mem_singleton.mp hk] at hk2
        exact absurd hk2 q
theorem up_fold (t : Int) : ∀ (js ks : List Job) (f : Option Int), UpSpec ks t f → UpSpec (ks ++ js) t (js.foldl (upStep t) f)
  | [], ks, f, h => by rw [List.append_nil]; exact h
  | j :: js, ks, f, h => by
    have := up_fold t js (ks ++ [j]) _ (upStep_spec (j := j) h)
    rw [List.append_assoc] at this
    exact this
theorem upF_spec (js : List Job) (t : Int) : UpSpec js t (upF js t) := by
  have := up_fold t js [] none (fun j h => by cases h)
  exact this
theorem upF_take {js : List Job} {t : Int} {i : Nat} {j : Job} (h : js[i]? = some j) : upF (js.take (i + 1)) t = upStep t (upF (js.take i) t) j := by
  have e : js.take (i + 1) = js.take i ++ [j] := by
    rw [List.take_succ, h]
    rfl
  unfold upF
  rw [e, List.foldl_append]
  rfl
/-! ### pieces put together -/
abbrev Piece := Int × Int × Int
def joinF (ps : List Piece) (p : Piece) : List Piece :=
  match ps.getLast? with
  | none => ps ++ [p]
  | some l => if l.1 = p.1 ∧ l.2.2 = p.2.1 then ps.dropLast ++ [(p.1, l.2.1, p.2.2)] else ps ++ [p]
theorem joinF_last {ps : List Piece} {l p : Piece} : joinF (ps ++ [l]) p = if l.1 = p.1 ∧ l.2.2 = p.2.1 then ps ++ [(p.1, l.2.1, p.2.2)] else ps ++ [l] ++ [p] := by
  unfold joinF
  rw [List.getLast?_concat, List.dropLast_concat]
/-! ### the run's steps -/
abbrev WS := List Int × List Piece × Int
def stopF (t l : Int) : Option Int → Int
  | none => t + l
  | some c => if c < t + l then c else t + l
def wStep (js : List Job) (w : WS) : WS :=
  match nearF js w.1 w.2.2 with
  | none => (w.1, w.2.1, (upF js w.2.2).getD 0)
  | some p => (w.1.set p (lAt w.1 p - (stopF w.2.2 (lAt w.1 p) (upF js w.2.2) - w.2.2)), joinF w.2.1 ((p : Int), w.2.2, stopF w.2.2 (lAt w.1 p) (upF js w.2.2)), stopF w.2.2 (lAt w.1 p) (upF js w.2.2))
def lens (js : List Job) : List Int := js.map fun j => j.2.1
def wIter (js : List Job) : Nat → WS
  | 0 => (lens js, [], 0)
  | n + 1 => wStep js (wIter js n)
def Busy (left : List Int) : Prop := ∃ x ∈ left, 0 < x
theorem foldl_max_lt : ∀ (l : List Int) (n : Int), 0 < l.foldl max n ↔ 0 < n ∨ ∃ x ∈ l, 0 < x
  | [], n => by simp
  | a :: l, n => by
    rw [List.foldl_cons, foldl_max_lt l]
    constructor
    · rintro (h | ⟨x, hx, h⟩)
      · by_cases q : 0 < n
        · exact .inl q
        · exact .inr ⟨a, List.mem_cons_self, by omega⟩
      · exact .inr ⟨x, List.mem_cons_of_mem _ hx, h⟩
    · rintro (h | ⟨x, hx, h⟩)
      · exact .inl (by omega)
      · rcases List.mem_cons.mp hx with e | hx
        · subst e
          exact .inl (by omega)
        · exact .inr ⟨x, hx, h⟩
theorem mxD_pos (l : List Int) : 0 < mxD l 0 ↔ Busy l := by
  cases l with
  | nil => simp [mxD, Busy]
  | cons n ns =>
    show 0 < ns.foldl max n ↔ _
    rw [foldl_max_lt]
    constructor
    · rintro (h | ⟨x, hx, h⟩)
      · exact ⟨n, List.mem_cons_self, h⟩
      · exact ⟨x, List.mem_cons_of_mem _ hx, h⟩
    · rintro ⟨x, hx, h⟩
      rcases List.mem_cons.mp hx with e | hx
      · subst e
        exact .inl h
      · exact .inr ⟨x, hx, h⟩
theorem busy_at {l : List Int} (h : Busy l) : ∃ i, i < l.length ∧ 0 < lAt l i := by
  obtain ⟨x, hx, h0⟩ := h
  obtain ⟨i, hi, e⟩ := List.getElem_of_mem hx
  exact ⟨i, hi, by rw [lAt_of (List.getElem?_eq_getElem hi), e]; exact h0⟩
theorem lAt_pos_lt {l : List Int} {i : Nat} (h : 0 < lAt l i) : i < l.length := by
  by_cases q : i < l.length
  · exact q
  · rw [lAt, List.getD_eq_getElem?_getD, List.getElem?_eq_none (by omega)] at h
    exact absurd h (by decide)
theorem busy_of {l : List Int} {i : Nat} (h : 0 < lAt l i) : Busy l :=
  ⟨lAt l i, List.mem_of_getElem? (getD_some (lAt_pos_lt h)), h⟩
theorem lAt_set {l : List Int} {i j : Nat} {x : Int} (hi : i < l.length) : lAt (l.set i x) j = if j = i then x else lAt l j := by
  by_cases e : j = i
  · subst e
    rw [if_pos rfl]
    exact lAt_of (List.getElem?_set_self hi)
  · rw [if_neg e, lAt, lAt, List.getD_eq_getElem?_getD, List.getD_eq_getElem?_getD, List.getElem?_set_ne (Ne.symm e)]
/-! ### what the pieces keep -/
def lastE (ps : List Piece) : Int := match ps.getLast? with
  | none => 0
  | some p => p.2.2
theorem lastE_snoc (ps : List Piece) (p : Piece) : lastE (ps ++ [p]) = p.2.2 := by
  unfold lastE
  rw [List.getLast?_concat]
def leftStep (l : List Int) (p : Piece) : List Int := l.set p.1.toNat (lAt l p.1.toNat - (p.2.2 - p.2.1))
def leftAf (js : List Job) (ps : List Piece) : List Int := ps.foldl leftStep (lens js)
theorem leftAf_snoc (js : List Job) (ps : List Piece) (p : Piece) : leftAf js (ps ++ [p]) = leftStep (leftAf js ps) p := by
  unfold leftAf
  rw [List.foldl_append]
  rfl
theorem leftAf_len (js : List Job) : ∀ ps : List Piece, (leftAf js ps).length = js.length := fun ps => by
  unfold leftAf
  have : ∀ (ps : List Piece) (l : List Int), (ps.foldl leftStep l).length = l.length := fun ps => by
    induction ps with
    | nil => intro l; rfl
    | cons p ps ih =>
      intro l
      rw [List.foldl_cons, ih]
      exact List.length_set
  rw [this, lens, List.length_map]
/-- a piece behind which left is what is not done, t the end of the piece ahead -/
structure Cond (js : List Job) (left : List Int) (t : Int) (p : Piece) : Prop where
  p0 : 0 ≤ p.1
  pn : p.1.toNat < js.length
  tb : t ≤ p.2.1
  be : p.2.1 < p.2.2
  come : (jAt js p.1.toNat).1 ≤ p.2.1
  much : p.2.2 - p.2.1 ≤ lAt left p.1.toNat
  gap : ∀ i, i < js.length → 0 < lAt left i → t < p.2.1 → p.2.1 ≤ (jAt js i).1
  fst : ∀ i, i < js.length → 0 < lAt left i → (jAt js i).1 < p.2.2 → Fst js p.1.toNat i
  beg : t = p.2.1 ∨ ∃ j ∈ js, j.1 = p.2.1
def GoodAll (js : List Job) (ps : List Piece) : Prop := ∀ (i : Nat) (p : Piece), ps[i]? = some p → Cond js (leftAf js (ps.take i)) (lastE (ps.take i)) p
theorem good_snoc {js : List Job} {ps : List Piece} {p : Piece} : GoodAll js (ps ++ [p]) ↔ GoodAll js ps ∧ Cond js (leftAf js ps) (lastE ps) p := by
  constructor
  · intro h
    refine ⟨fun i q hq => ?_, ?_⟩
    · have hi := (List.getElem?_eq_some_iff.mp hq).1
      have := h i q (by rw [List.getElem?_append_left hi]; exact hq)
      rw [List.take_append_of_le_length (by omega)] at this
      exact this
    · have := h ps.length p (by rw [List.getElem?_append_right (Nat.le_refl _), Nat.sub_self]; rfl)
      rw [List.take_append_of_le_length (Nat.le_refl _), List.take_length] at this
      exact this
  · rintro ⟨h1, h2⟩ i q hq
    by_cases hi : i < ps.length
    · rw [List.getElem?_append_left hi] at hq
      rw [List.take_append_of_le_length (by omega)]
      exact h1 i q hq
    · have hl := (List.getElem?_eq_some_iff.mp hq).1
      rw [List.length_append, List.length_singleton] at hl
      have e : i = ps.length := by omega
      subst e
      rw [List.getElem?_append_right (Nat.le_refl _), Nat.sub_self] at hq
      have e : p = q := Option.some.inj hq
      subst e
      rw [List.take_append_of_le_length (Nat.le_refl _), List.take_length]
      exact h2
/-- no two neighbours of one job touch -/
def Apart (ps : List Piece) : Prop := ∀ (i : Nat) (p q : Piece), ps[i]? = some p → ps[i + 1]? = some q → ¬ (p.1 = q.1 ∧ p.2.2 = q.2.1)
theorem apart_snoc {ps : List Piece} {p : Piece} (h : Apart ps) (hl : ∀ l, ps.getLast? = some l → ¬ (l.1 = p.1 ∧ l.2.2 = p.2.1)) : Apart (ps ++ [p]) := fun i a b ha hb => by
  have hi := (List.getElem?_eq_some_iff.mp hb).1
  rw [List.length_append, List.length_singleton] at hi
  rw [List.getElem?_append_left (by omega)] at ha
  by_cases q : i + 1 < ps.length
  · rw [List.getElem?_append_left q] at hb
    exact h i a b ha hb
  · have e : i + 1 = ps.length := by omega
    rw [List.getElem?_append_right (by omega), show i + 1 - ps.length = 0 by omega] at hb
    have e2 : p = b := Option.some.inj hb
    subst e2
    refine hl a ?_
    rw [List.getLast?_eq_getElem?, ← e]
    exact ha
theorem apart_init {ps : List Piece} {p : Piece} (h : Apart (ps ++ [p])) : Apart ps := fun i a b ha hb => by
  have hi := (List.getElem?_eq_some_iff.mp hb).1
  exact h i a b (by rw [List.getElem?_append_left (by omega)]; exact ha) (by rw [List.getElem?_append_left hi]; exact hb)
def cntA (js : List Job) (t : Int) : Nat := js.countP fun j => decide (t < j.1)
def cntB (left : List Int) : Nat := left.countP fun x => decide (0 < x)
theorem countP_lt {α : Type} {p q : α → Bool} : ∀ {l : List α}, (∀ x ∈ l, p x = true → q x = true) → (∃ x ∈ l, q x = true ∧ p x = false) → l.countP p < l.countP q
  | [], _, ⟨x, hx, _⟩ => by cases hx
  | a :: l, h, ⟨x, hx, h1, h2⟩ => by
    have le : l.countP p ≤ l.countP q := List.countP_mono_left fun y hy => h y (List.mem_cons_of_mem _ hy)
    rcases List.mem_cons.mp hx with e | hx
    · subst e
      rw [List.countP_cons_of_neg (by rw [h2]; decide), List.countP_cons_of_pos h1]
      omega
    · have ih := countP_lt (fun y hy => h y (List.mem_cons_of_mem _ hy)) ⟨x, hx, h1, h2⟩
      have ha := h a List.mem_cons_self
      by_cases c : p a = true
      · rw [List.countP_cons_of_pos c, List.countP_cons_of_pos (ha c)]
        omega
      · rw [List.countP_cons_of_neg c]
        have : l.countP q ≤ (a :: l).countP q := by rw [List.countP_cons]; omega
        omega
theorem cntA_le {js : List Job} {t u : Int} (h : t ≤ u) : cntA js u ≤ cntA js t := List.countP_mono_left fun x _ hx => by
  rw [decide_eq_true_eq] at hx ⊢
  omega
theorem cntA_lt {js : List Job} {t u : Int} (h : t < u) (hj : ∃ j ∈ js, j.1 = u) : cntA js u < cntA js t := by
  obtain ⟨j, hj, e⟩ := hj
  refine countP_lt (fun x _ hx => ?_) ⟨j, hj, ?_, ?_⟩
  · rw [decide_eq_true_eq] at hx ⊢
    omega
  · rw [decide_eq_true_eq]
    omega
  · rw [decide_eq_false_iff_not]
    omega
theorem cntB_set : ∀ {l : List Int} {i : Nat} {x : Int}, i < l.length → x ≤ lAt l i → cntB (l.set i x) ≤ cntB l ∧ (0 < lAt l i → x ≤ 0 → cntB (l.set i x) < cntB l)
  | [], i, _, h, _ => absurd h (Nat.not_lt_zero i)
  | a :: l, 0, x, _, h => by
    have h : x ≤ a := h
    show (x :: l).countP _ ≤ (a :: l).countP _ ∧ (0 < a → x ≤ 0 → (x :: l).countP _ < (a :: l).countP _)
    rw [List.countP_cons, List.countP_cons]
    by_cases q : 0 < x <;> by_cases q2 : 0 < a <;> simp [q, q2] <;> omega
  | a :: l, i + 1, x, h, h2 => by
    have ih := cntB_set (l := l) (i := i) (x := x) (by simpa using h) h2
    show (a :: l.set i x).countP _ ≤ (a :: l).countP _ ∧ (0 < lAt l i → x ≤ 0 → (a :: l.set i x).countP _ < (a :: l).countP _)
    unfold cntB at ih
    rw [List.countP_cons, List.countP_cons]
    omega
structure RInv (js : List Job) (w : WS) : Prop where
  lf : w.1 = leftAf js w.2.1
  nn : ∀ i, 0 ≤ lAt w.1 i
  good : GoodAll js w.2.1
  le : lastE w.2.1 ≤ w.2.2
  wait : lastE w.2.1 < w.2.2 → (∀ i, i < js.length → 0 < lAt w.1 i → w.2.2 ≤ (jAt js i).1) ∧ ∃ j ∈ js, j.1 = w.2.2
  apart : Apart w.2.1
  few : w.2.1.length + (cntA js w.2.2 + cntB w.1) ≤ 2 * js.length
  few2 : (∃ j ∈ js, j.1 ≤ w.2.2) → w.2.1.length + (cntA js w.2.2 + cntB w.1) + 1 ≤ 2 * js.length
theorem RInv.len {js : List Job} {w : WS} (h : RInv js w) : w.1.length = js.length := by
  rw [h.lf]
  exact leftAf_len js _
theorem jAt_mem {js : List Job} {i : Nat} (h : i < js.length) : jAt js i ∈ js := List.mem_of_getElem? (getD_some h)
theorem lAt_lens {js : List Job} {i : Nat} (h : i < js.length) : lAt (lens js) i = (jAt js i).2.1 := by
  refine lAt_of ?_
  rw [lens, List.getElem?_map, getD_some (d := J0) h]
  rfl
theorem rinv_start {js : List Job} (hs : AllS js) : RInv js (wIter js 0) := by
  have cB : cntB (lens js) ≤ js.length := by
    have := List.countP_le_length (p := fun x : Int => decide (0 < x)) (l := lens js)
    rw [lens, List.length_map] at this
    exact this
  have cA : cntA js 0 ≤ js.length := List.countP_le_length
  refine ⟨rfl, fun i => ?_, fun i p h => (by cases i <;> cases h), Int.le_refl 0, fun h => absurd h (Int.lt_irrefl 0), fun i p q h => (by cases i <;> cases h), ?_, fun ⟨j, hj, h0⟩ => ?_⟩
  · show 0 ≤ lAt (lens js) i
    by_cases q : i < js.length
    · rw [lAt_lens q]
      have := (hs _ (jAt_mem q)).2.1
      omega
    · rw [lAt, List.getD_eq_getElem?_getD, List.getElem?_eq_none (by rw [lens, List.length_map]; omega)]
      decide
  · show 0 + (cntA js 0 + cntB (lens js)) ≤ _
    omega
  · show 0 + (cntA js 0 + cntB (lens js)) + 1 ≤ _
    have : cntA js 0 < js.length := by
      have h1 := countP_lt (l := js) (p := fun j : Job => decide (0 < j.1)) (q := fun _ => true) (fun _ _ _ => rfl) ⟨j, hj, rfl, by rw [decide_eq_false_iff_not]; have h0 : j.1 ≤ 0 := h0; omega⟩
      have h2 := List.countP_le_length (p := fun _ : Job => true) (l := js)
      unfold cntA
      omega
    omega
theorem mem_jAt {js : List Job} {j : Job} (h : j ∈ js) : ∃ i, i < js.length ∧ jAt js i = j := by
  obtain ⟨i, hi, e⟩ := List.getElem_of_mem h
  exact ⟨i, hi, by rw [jAt_of (List.getElem?_eq_getElem hi), e]⟩
/-- one step: the invariant stays, the counts fall -/
theorem rinv_step {js : List Job} {w : WS} (h : RInv js w) (hb : Busy w.1) : RInv js (wStep js w) ∧ cntA js (wStep js w).2.2 + cntB (wStep js w).1 < cntA js w.2.2 + cntB w.1 := by
  obtain ⟨left, ps, t⟩ := w
  obtain ⟨h1, h2, h3, h4, h5, h6, h7, h8⟩ := h
  have hl : left.length = js.length := by
    have h1 : left = leftAf js ps := h1
    rw [h1]
    exact leftAf_len js _
  have hn := nearF_spec js left t
  have hu := upF_spec js t
  simp only at h1 h2 h3 h4 h5 h6 h7 h8 hb
  unfold wStep
  dsimp only
  generalize nearF js left t = b at hn
  generalize upF js t = c at hu
  cases b with
  | none =>
    -- nobody is there
    obtain ⟨i, hi, hp⟩ := busy_at hb
    rw [hl] at hi
    have hc : t < (jAt js i).1 := by
      by_cases q : (jAt js i).1 ≤ t
      · exact absurd ⟨q, hp⟩ (hn i hi)
      · omega
    cases c with
    | none => exact absurd (hu _ (jAt_mem hi)) (by omega)
    | some c =>
      obtain ⟨u1, u2, u3⟩ := hu
      have lt := cntA_lt (js := js) u1 u2
      refine ⟨⟨h1, h2, h3, by show lastE ps ≤ c; omega, fun _ => ⟨fun k hk hk2 => ?_, u2⟩, h6, ?_, fun _ => ?_⟩, ?_⟩
      · show c ≤ (jAt js k).1
        refine u3 _ (jAt_mem hk) ?_
        by_cases q : (jAt js k).1 ≤ t
        · exact absurd ⟨q, hk2⟩ (hn k hk)
        · omega
      · show ps.length + (cntA js c + cntB left) ≤ _
        omega
      · show ps.length + (cntA js c + cntB left) + 1 ≤ _
        omega
      · show cntA js c + cntB left < cntA js t + cntB left
        omega
  | some p =>
    obtain ⟨n1, ⟨n2, n3⟩, n4⟩ := hn
    dsimp only
    -- when it stops
    have hst : ∃ e, stopF t (lAt left p) c = e ∧ t < e ∧ e ≤ t + lAt left p ∧ (∀ j ∈ js, t < j.1 → e ≤ j.1) ∧ ((∃ j ∈ js, j.1 = e) ∨ e = t + lAt left p) := by
      refine ⟨_, rfl, ?_⟩
      cases c with
      | none =>
        refine ⟨by show t < t + lAt left p; omega, Int.le_refl _, fun j hj hj2 => ?_, .inr rfl⟩
        have := hu j hj
        omega
      | some c =>
        obtain ⟨u1, u2, u3⟩ := hu
        show t < (if c < t + lAt left p then c else t + lAt left p) ∧ (if c < t + lAt left p then c else t + lAt left p) ≤ t + lAt left p ∧ (∀ j ∈ js, t < j.1 → (if c < t + lAt left p then c else t + lAt left p) ≤ j.1) ∧ ((∃ j ∈ js, j.1 = (if c < t + lAt left p then c else t + lAt left p)) ∨ (if c < t + lAt left p then c else t + lAt left p) = t + lAt left p)
        by_cases q : c < t + lAt left p
        · rw [if_pos q]
          exact ⟨u1, by omega, u3, .inl u2⟩
        · rw [if_neg q]
          refine ⟨by omega, Int.le_refl _, fun j hj hj2 => ?_, .inr rfl⟩
          have := u3 j hj hj2
          omega
    obtain ⟨e, he, e1, e2, e3, e4⟩ := hst
    rw [he]
    have hpl : p < left.length := by omega
    have hx : lAt left p - (e - t) ≤ lAt left p := by omega
    obtain ⟨cb1, cb2⟩ := cntB_set (l := left) (i := p) (x := lAt left p - (e - t)) hpl hx
    have ca := cntA_le (js := js) (show t ≤ e by omega)
    have fall : cntA js e + cntB (left.set p (lAt left p - (e - t))) < cntA js t + cntB left := by
      rcases e4 with e4 | e4
      · have := cntA_lt (js := js) e1 e4
        omega
      · have := cb2 n3 (by omega)
        omega
    -- the chosen one is ahead of all that come before e
    have ahead : ∀ i, i < js.length → 0 < lAt left i → (jAt js i).1 < e → Fst js p i := fun i hi hi2 hi3 => by
      refine n4 i hi ⟨?_, hi2⟩
      by_cases q : (jAt js i).1 ≤ t
      · exact q
      · have := e3 _ (jAt_mem hi) (by omega)
        omega
    have nn' : ∀ i, 0 ≤ lAt (left.set p (lAt left p - (e - t))) i := fun i => by
      rw [lAt_set hpl]
      split
      · omega
      · exact h2 i
    have there : ∃ j ∈ js, j.1 ≤ t := ⟨_, jAt_mem n1, n2⟩
    have f8 := h8 there
    -- the piece joined, or put behind
    have main : leftAf js (joinF ps ((p : Int), t, e)) = left.set p (lAt left p - (e - t)) ∧ GoodAll js (joinF ps ((p : Int), t, e)) ∧ lastE (joinF ps ((p : Int), t, e)) = e ∧ Apart (joinF ps ((p : Int), t, e)) ∧ (joinF ps ((p : Int), t, e)).length ≤ ps.length + 1 := by
      have new : Cond js left (lastE ps) ((p : Int), t, e) := by
        refine ⟨by show (0 : Int) ≤ (p : Int); omega, by show (p : Int).toNat < _; simpa using n1, h4, e1, by simpa using n2, by show e - t ≤ lAt left (p : Int).toNat; rw [Int.toNat_natCast]; omega, fun i hi hi2 hi3 => (h5 hi3).1 i hi hi2, fun i hi hi2 hi3 => ?_, ?_⟩
        · show Fst js (p : Int).toNat i
          rw [Int.toNat_natCast]
          exact ahead i hi hi2 hi3
        · by_cases q : lastE ps = t
          · exact .inl q
          · exact .inr (h5 (by omega)).2
      have put : leftAf js (ps ++ [((p : Int), t, e)]) = left.set p (lAt left p - (e - t)) := by
        rw [leftAf_snoc, ← h1]
        show left.set (p : Int).toNat (lAt left (p : Int).toNat - (e - t)) = _
        rw [Int.toNat_natCast]
      have put2 : GoodAll js (ps ++ [((p : Int), t, e)]) := good_snoc.mpr ⟨h3, by rw [← h1]; exact new⟩
      rcases List.eq_nil_or_concat ps with e0 | ⟨qs, l, e0⟩
      · subst e0
        exact ⟨put, put2, rfl, apart_snoc h6 (fun l hl => by cases hl), by simp [joinF]⟩
      · rw [List.concat_eq_append] at e0
        subst e0
        rw [joinF_last]
        by_cases q : l.1 = ((p : Int), t, e).1 ∧ l.2.2 = ((p : Int), t, e).2.1
        · rw [if_pos q]
          obtain ⟨q1, q2⟩ := q
          obtain ⟨lp, lb, le⟩ := l
          have q1 : lp = (p : Int) := q1
          have q2 : le = t := q2
          subst q1
          subst q2
          obtain ⟨g1, g2⟩ := good_snoc.mp h3
          have hL : left = leftStep (leftAf js qs) ((p : Int), lb, le) := by rw [h1, leftAf_snoc]
          have hql : p < (leftAf js qs).length := by rw [leftAf_len]; exact n1
          have hLp : lAt left p = lAt (leftAf js qs) p - (le - lb) := by
            rw [hL]
            show lAt ((leftAf js qs).set (p : Int).toNat _) p = _
            rw [Int.toNat_natCast, lAt_set hql, if_pos rfl]
          have hLo : ∀ i, i ≠ p → lAt left i = lAt (leftAf js qs) i := fun i hi => by
            rw [hL]
            show lAt ((leftAf js qs).set (p : Int).toNat _) i = _
            rw [Int.toNat_natCast, lAt_set hql, if_neg hi]
          have gb : lb < le := g2.be
          refine ⟨?_, good_snoc.mpr ⟨g1, ?_⟩, by rw [lastE_snoc], ?_, by simp⟩
          · rw [leftAf_snoc]
            show (leftAf js qs).set (p : Int).toNat (lAt (leftAf js qs) (p : Int).toNat - (e - lb)) = _
            rw [Int.toNat_natCast, hLp, hL]
            show _ = ((leftAf js qs).set (p : Int).toNat _).set p _
            rw [Int.toNat_natCast, List.set_set]
            congr 1
            omega
          · refine ⟨g2.p0, g2.pn, g2.tb, by show lb < e; omega, g2.come, ?_, g2.gap, fun i hi hi2 hi3 => ?_, g2.beg⟩
            · show e - lb ≤ lAt (leftAf js qs) (p : Int).toNat
              rw [Int.toNat_natCast]
              omega
            · show Fst js (p : Int).toNat i
              rw [Int.toNat_natCast]
              by_cases ip : i = p
              · subst ip
                exact .inr ⟨rfl, Nat.le_refl _⟩
              · exact ahead i hi (by rw [hLo i ip]; exact hi2) hi3
          · refine apart_snoc (apart_init h6) fun m hm hm2 => ?_
            -- the joined piece begins where the last one did
            have hq : qs[qs.length - 1]? = some m := by
              rw [List.getLast?_eq_getElem?] at hm
              exact hm
            have hne : 0 < qs.length := by
              cases qs with
              | nil => cases hm
              | cons a r => exact Nat.zero_lt_succ _
            refine h6 (qs.length - 1) m ((p : Int), lb, le) (by rw [List.getElem?_append_left (by omega)]; exact hq) ?_ hm2
            rw [show qs.length - 1 + 1 = qs.length by omega, List.getElem?_append_right (Nat.le_refl _), Nat.sub_self]
            rfl
        · rw [if_neg q]
          refine ⟨put, put2, by rw [lastE_snoc], apart_snoc h6 fun m hm => ?_, by simp⟩
          rw [List.getLast?_concat] at hm
          have em : l = m := Option.some.inj hm
          subst em
          exact q
    obtain ⟨m1, m2, m3, m4, m5⟩ := main
    refine ⟨⟨m1.symm, nn', m2, Int.le_of_eq m3, fun z => absurd z (by show ¬ lastE (joinF ps ((p : Int), t, e)) < e; omega), m4, ?_, fun _ => ?_⟩, fall⟩
    · show (joinF ps ((p : Int), t, e)).length + (cntA js e + cntB (left.set p (lAt left p - (e - t)))) ≤ _
      omega
    · show (joinF ps ((p : Int), t, e)).length + (cntA js e + cntB (left.set p (lAt left p - (e - t)))) + 1 ≤ _
      omega
theorem rinv_at {js : List Job} (hs : AllS js) : ∀ n, (∀ i, i < n → Busy (wIter js i).1) → RInv js (wIter js n) ∧ n + (cntA js (wIter js n).2.2 + cntB (wIter js n).1) ≤ 2 * js.length
  | 0, _ => by
    have h := rinv_start hs
    refine ⟨h, ?_⟩
    have := h.few
    omega
  | n + 1, hb => by
    obtain ⟨h1, h2⟩ := rinv_at hs n fun i hi => hb i (by omega)
    obtain ⟨h3, h4⟩ := rinv_step h1 (hb n (Nat.lt_succ_self n))
    refine ⟨h3, ?_⟩
    show n + 1 + (cntA js (wStep js (wIter js n)).2.2 + cntB (wStep js (wIter js n)).1) ≤ _
    omega
theorem w_stops {js : List Job} (hs : AllS js) : ∃ N, (∀ i, i < N → Busy (wIter js i).1) ∧ ¬ Busy (wIter js N).1 := by
  have go : ∀ k n, n + k = 2 * js.length + 1 → (∀ i, i < n → Busy (wIter js i).1) → ∃ N, (∀ i, i < N → Busy (wIter js i).1) ∧ ¬ Busy (wIter js N).1 := by
    intro k
    induction k with
    | zero =>
      intro n hn hb
      have := (rinv_at hs n hb).2
      omega
    | succ k ih =>
      intro n hn hb
      by_cases q : Busy (wIter js n).1
      · exact ih (n + 1) (by omega) fun i hi => by
          by_cases e : i = n
          · subst e
            exact q
          · exact hb i (by omega)
      · exact ⟨n, hb, q⟩
  exact go (2 * js.length + 1) 0 (by omega) fun i hi => absurd hi (Nat.not_lt_zero i)
open Classical in
noncomputable def wN (js : List Job) : Nat := if h : ∃ N, (∀ i, i < N → Busy (wIter js i).1) ∧ ¬ Busy (wIter js N).1 then Classical.choose h else 0
theorem wN_spec {js : List Job} (hs : AllS js) : (∀ i, i < wN js → Busy (wIter js i).1) ∧ ¬ Busy (wIter js (wN js)).1 := by
  have h := w_stops hs
  unfold wN
  rw [dif_pos h]
  exact Classical.choose_spec h
/-- the pieces of the run -/
noncomputable def workedF (js : List Job) : List Piece := (wIter js (wN js)).2.1
structure Ran (js : List Job) (ps : List Piece) : Prop where
  good : GoodAll js ps
  done : ∀ i, lAt (leftAf js ps) i = 0
  apart : Apart ps
  few : js ≠ [] → ps.length < 2 * js.length
theorem ran {js : List Job} (hs : AllS js) : Ran js (workedF js) := by
  obtain ⟨h1, h2⟩ := wN_spec hs
  have h := (rinv_at hs (wN js) h1).1
  refine ⟨h.good, fun i => ?_, h.apart, fun hn => ?_⟩
  · show lAt (leftAf js (wIter js (wN js)).2.1) i = 0
    rw [← h.lf]
    have a := h.nn i
    by_cases q : 0 < lAt (wIter js (wN js)).1 i
    · exact absurd (busy_of q) h2
    · omega
  · show (wIter js (wN js)).2.1.length < _
    have hp : 0 < js.length := by
      cases js with
      | nil => exact absurd rfl hn
      | cons a l => exact Nat.zero_lt_succ _
    rcases List.eq_nil_or_concat (wIter js (wN js)).2.1 with e | ⟨qs, l, e⟩
    · rw [e]
      show 0 < _
      omega
    · rw [List.concat_eq_append] at e
      have g := h.good
      have le := h.le
      rw [e] at g le
      rw [lastE_snoc] at le
      have c := (good_snoc.mp g).2
      have := h.few2 ⟨_, jAt_mem c.pn, by have := c.come; have := c.be; omega⟩
      omega
theorem ran_len {js : List Job} (hs : AllS js) : (workedF js).length ≤ 2 * js.length := by
  obtain ⟨h1, h2⟩ := wN_spec hs
  have h := (rinv_at hs (wN js) h1).1.few
  show (wIter js (wN js)).2.1.length ≤ _
  omega
theorem leftAf_take {js : List Job} {ps : List Piece} {i : Nat} {p : Piece} (h : ps[i]? = some p) : leftAf js (ps.take (i + 1)) = leftStep (leftAf js (ps.take i)) p := by
  have e : ps.take (i + 1) = ps.take i ++ [p] := by
    rw [List.take_succ, h]
    rfl
  rw [e, leftAf_snoc]
theorem lastE_take {ps : List Piece} {i : Nat} {p : Piece} (h : ps[i]? = some p) : lastE (ps.take (i + 1)) = p.2.2 := by
  have e : ps.take (i + 1) = ps.take i ++ [p] := by
    rw [List.take_succ, h]
    rfl
  rw [e, lastE_snoc]
theorem zeros_of {l : List Int} {n : Nat} (hl : l.length = n) (h : ∀ i, lAt l i = 0) : l = List.replicate n 0 := by
  refine List.ext_getElem? fun i => ?_
  by_cases q : i < n
  · rw [List.getElem?_replicate, if_pos q, getD_some (d := (0 : Int)) (by omega)]
    exact congrArg some (h i)
  · rw [List.getElem?_eq_none (by omega), List.getElem?_eq_none (by rw [List.length_replicate]; omega)]
theorem ixN_pos {n : Nat} {z : Int} (h0 : 0 ≤ z) (h1 : z.toNat < n) : ixN n z = some z.toNat := by
  unfold ixN
  rw [if_pos h0, if_pos (by omega)]
theorem snoc_ind {α : Type} {P : List α → Prop} (h0 : P []) (h1 : ∀ l a, P l → P (l ++ [a])) (l : List α) : P l := by
  have : ∀ n (l : List α), l.length = n → P l := by
    intro n
    induction n with
    | zero => intro l h; cases l with
      | nil => exact h0
      | cons a r => cases h
    | succ n ih =>
      intro l h
      rcases List.eq_nil_or_concat l with e | ⟨r, a, e⟩
      · subst e
        exact h0
      · rw [List.concat_eq_append] at e
        subst e
        rw [List.length_append, List.length_singleton] at h
        exact h1 r a (ih r (by omega))
  exact this l.length l rfl
/-! ### when each job ends, who is late -/
def endStep (l : List Int) (p : Piece) : List Int := l.set p.1.toNat p.2.2
def endsAf (n : Nat) (ps : List Piece) : List Int := ps.foldl endStep (List.replicate n 0)
theorem endsAf_snoc (n : Nat) (ps : List Piece) (p : Piece) : endsAf n (ps ++ [p]) = endStep (endsAf n ps) p := by
  unfold endsAf
  rw [List.foldl_append]
  rfl
theorem endsAf_take {n : Nat} {ps : List Piece} {i : Nat} {p : Piece} (h : ps[i]? = some p) : endsAf n (ps.take (i + 1)) = endStep (endsAf n (ps.take i)) p := by
  have e : ps.take (i + 1) = ps.take i ++ [p] := by
    rw [List.take_succ, h]
    rfl
  rw [e, endsAf_snoc]
theorem endsAf_len (n : Nat) (ps : List Piece) : (endsAf n ps).length = n := by
  revert ps
  refine fun ps => snoc_ind (P := fun ps => (endsAf n ps).length = n) ?_ ?_ ps
  · exact List.length_replicate
  · intro ps p ih
    show (endsAf n (ps ++ [p])).length = n
    rw [endsAf_snoc, endStep, List.length_set, ih]
/-- places of jobs -/
def PlacesIn (n : Nat) (ps : List Piece) : Prop := ∀ p ∈ ps, 0 ≤ p.1 ∧ p.1.toNat < n
theorem good_places {js : List Job} {ps : List Piece} (h : GoodAll js ps) : PlacesIn js.length ps := fun p hp => by
  obtain ⟨i, hi, e⟩ := List.getElem_of_mem hp
  have c := h i p (by rw [List.getElem?_eq_getElem hi, e])
  exact ⟨c.p0, c.pn⟩
noncomputable def endsF (js : List Job) : List Int := endsAf js.length (workedF js)
theorem endsF_len (js : List Job) : (endsF js).length = js.length := endsAf_len _ _
/-- late, in the order of the places: (due, place) -/
def latePr (js : List Job) (es : List Int) : List (Int × Int) := ((List.range js.length).filter fun k => decide ((jAt js k).2.2 < lAt es k)).map fun k => ((jAt js k).2.2, (k : Int))
def lexLe (x y : Int × Int) : Bool := !SrtO.lexB y x
theorem lexLe_iff {x y : Int × Int} : lexLe x y = true ↔ x.1 < y.1 ∨ (x.1 = y.1 ∧ x.2 ≤ y.2) := by
  unfold lexLe
  rw [Bool.not_eq_true', SrtO.lexB_no]
  omega
def lateSrt (js : List Job) (es : List Int) : List (Int × Int) := (latePr js es).mergeSort lexLe
theorem lateSrt_pw (js : List Job) (es : List Int) : (lateSrt js es).Pairwise fun x y => SrtO.lexB y x = false := by
  have h := List.pairwise_mergeSort (le := lexLe) (fun a b c h1 h2 => by rw [lexLe_iff] at *; omega) (fun a b => by rw [Bool.or_eq_true, lexLe_iff, lexLe_iff]; omega) (latePr js es)
  refine List.Pairwise.imp (fun {a b} h => ?_) h
  unfold lexLe at h
  simpa using h
theorem lateSrt_perm (js : List Job) (es : List Int) : (lateSrt js es).Perm (latePr js es) := List.mergeSort_perm _ _
theorem srt_uniq {l m : List (Int × Int)} (hp : l.Perm m) (h1 : l.Pairwise fun x y => SrtO.lexB y x = false) (h2 : m.Pairwise fun x y => SrtO.lexB y x = false) : l = m :=
  List.Perm.eq_of_pairwise (fun a b _ _ h3 h4 => by
    rw [SrtO.lexB_no] at h3 h4
    obtain ⟨a1, a2⟩ := a
    obtain ⟨b1, b2⟩ := b
    have e1 : a1 = b1 := by simp only at h3 h4; omega
    have e2 : a2 = b2 := by simp only at h3 h4; omega
    rw [e1, e2]) h1 h2 hp
def lateF (js : List Job) (es : List Int) : List Int := (lateSrt js es).map (·.2)
theorem mem_lateSrt {js : List Job} {es : List Int} {x : Int × Int} : x ∈ lateSrt js es ↔ ∃ k, k < js.length ∧ (jAt js k).2.2 < lAt es k ∧ x = ((jAt js k).2.2, (k : Int)) := by
  rw [(lateSrt_perm js es).mem_iff, latePr, List.mem_map]
  constructor
  · rintro ⟨k, hk, rfl⟩
    rw [List.mem_filter, List.mem_range, decide_eq_true_eq] at hk
    exact ⟨k, hk.1, hk.2, rfl⟩
  · rintro ⟨k, h1, h2, rfl⟩
    exact ⟨k, by rw [List.mem_filter, List.mem_range, decide_eq_true_eq]; exact ⟨h1, h2⟩, rfl⟩
/-- the late places as the plain law tells them -/
def lateIx (js : List Job) (es : List Int) : List Int := ((List.range js.length).filter fun k => decide ((jAt js k).2.2 < lAt es k)).map fun k : Nat => (k : Int)
theorem lateF_perm (js : List Job) (es : List Int) : (lateF js es).Perm (lateIx js es) := by
  refine ((lateSrt_perm js es).map _).trans (List.Perm.of_eq ?_)
  rw [latePr, List.map_map]
  rfl
theorem lateIx_pw (js : List Job) (es : List Int) : (lateIx js es).Pairwise (· ≤ ·) := by
  rw [lateIx, List.pairwise_map]
  refine List.Pairwise.imp (fun {a b} (h : a < b) => by omega) (List.Pairwise.filter _ List.pairwise_lt_range)
theorem ints_uniq {l m : List Int} (hp : l.Perm m) (h1 : l.Pairwise (· ≤ ·)) (h2 : m.Pairwise (· ≤ ·)) : l = m :=
  List.Perm.eq_of_pairwise (fun a b _ _ h3 h4 => by omega) h1 h2 hp
theorem lateF_len (js : List Job) (es : List Int) : (lateF js es).length ≤ js.length := by
  rw [(lateF_perm js es).length_eq, lateIx, List.length_map]
  exact Nat.le_trans (List.length_filter_le _ _) (Nat.le_of_eq List.length_range)
theorem lateF_at {js : List Job} {es : List Int} {i : Nat} {a : Int} (h : (lateF js es)[i]? = some a) : ∃ k : Nat, a = (k : Int) ∧ k < js.length ∧ (jAt js k).2.2 < lAt es k ∧ (lateSrt js es)[i]? = some ((jAt js k).2.2, (k : Int)) := by
  rw [lateF, List.getElem?_map] at h
  obtain ⟨x, hx, rfl⟩ := Option.map_eq_some_iff.mp h
  obtain ⟨k, h1, h2, rfl⟩ := mem_lateSrt.mp (List.mem_of_getElem? hx)
  exact ⟨k, rfl, h1, h2, hx⟩
theorem lateSrt_le {js : List Job} {es : List Int} {i j : Nat} {x y : Int × Int} (h : i < j) (h1 : (lateSrt js es)[i]? = some x) (h2 : (lateSrt js es)[j]? = some y) : x.1 < y.1 ∨ (x.1 = y.1 ∧ x.2 ≤ y.2) := by
  obtain ⟨b1, e1⟩ := List.getElem?_eq_some_iff.mp h1
  obtain ⟨b2, e2⟩ := List.getElem?_eq_some_iff.mp h2
  have hp := List.pairwise_iff_getElem.mp (lateSrt_pw js es) i j b1 b2 h
  rw [e1, e2, SrtO.lexB_no] at hp
  omega
end DL

namespace DL
open PySem L2
/-! ### nearest due first meets all dues, or a stretch asks too much -/
abbrev Piece.has (p : Piece) (t : Int) : Prop := p.2.1 ≤ t ∧ t < p.2.2
structure Ordered (ps : List Piece) : Prop where
  pw : ps.Pairwise fun p q => p.2.2 ≤ q.2.1
  all : ∀ p ∈ ps, 0 ≤ p.2.1 ∧ p.2.1 < p.2.2 ∧ p.2.2 ≤ lastE ps
  nn : 0 ≤ lastE ps
theorem good_ordered {js : List Job} : ∀ ps : List Piece, GoodAll js ps → Ordered ps := by
  refine snoc_ind ?_ ?_
  · exact fun _ => ⟨List.Pairwise.nil, fun p h => (List.not_mem_nil h).elim, Int.le_refl _⟩
  · intro ps p ih h
    obtain ⟨h1, c⟩ := good_snoc.mp h
    obtain ⟨i1, i2, i3⟩ := ih h1
    have tb := c.tb
    have be := c.be
    refine ⟨?_, fun q hq => ?_, ?_⟩
    · rw [List.pairwise_append]
      refine ⟨i1, List.pairwise_singleton _ _, fun a ha b hb => ?_⟩
      rw [List.mem_singleton.mp hb]
      have := i2 a ha
      omega
    · rw [lastE_snoc]
      rcases List.mem_append.mp hq with hq | hq
      · have := i2 q hq
        omega
      · rw [List.mem_singleton.mp hq]
        omega
    · rw [lastE_snoc]
      omega
theorem has_uniq {ps : List Piece} (h : Ordered ps) {p q : Piece} {t : Int} (hp : p ∈ ps) (hq : q ∈ ps) (h1 : Piece.has p t) (h2 : Piece.has q t) : p = q := by
  obtain ⟨i, hi, e1⟩ := List.getElem_of_mem hp
  obtain ⟨j, hj, e2⟩ := List.getElem_of_mem hq
  have pw := List.pairwise_iff_getElem.mp h.pw
  rcases Nat.lt_trichotomy i j with l | l | l
  · have := pw i j hi hj l
    rw [e1, e2] at this
    have a := h1.2
    have b := h2.1
    omega
  · subst l
    exact e1.symm.trans e2
  · have := pw j i hj hi l
    rw [e1, e2] at this
    have a := h2.2
    have b := h1.1
    omega
theorem left_snoc_le {js : List Job} {ps : List Piece} {p : Piece} (c : Cond js (leftAf js ps) (lastE ps) p) (k : Nat) : lAt (leftAf js (ps ++ [p])) k ≤ lAt (leftAf js ps) k := by
  have be := c.be
  rw [leftAf_snoc, leftStep, lAt_set (by rw [leftAf_len]; exact c.pn)]
  by_cases e : k = p.1.toNat
  · rw [if_pos e, e]
    omega
  · rw [if_neg e]
    exact Int.le_refl _
/-- as long as a job is there that is not done, one due no later is worked at -/
theorem edf_gen {js : List Job} {k : Nat} {t : Int} (hk : k < js.length) (hc : (jAt js k).1 ≤ t) : ∀ ps : List Piece, GoodAll js ps → t < lastE ps → (0 < lAt (leftAf js ps) k ∨ ∃ q ∈ ps, q.1.toNat = k ∧ t < q.2.2) → (0 ≤ t) → ∃ p ∈ ps, Piece.has p t ∧ Fst js p.1.toNat k := by
  refine snoc_ind ?_ ?_
  · intro _ h _ h0
    exact absurd h (Int.not_lt.mpr h0)
  · intro ps p ih hg ht h h0
    obtain ⟨g1, c⟩ := good_snoc.mp hg
    rw [lastE_snoc] at ht
    have be := c.be
    have hm := c.much
    have h' : 0 < lAt (leftAf js ps) k ∨ ∃ q ∈ ps, q.1.toNat = k ∧ t < q.2.2 := by
      rcases h with h | ⟨q, hq, h1, h2⟩
      · have := left_snoc_le c k
        exact .inl (by omega)
      · rcases List.mem_append.mp hq with hq | hq
        · exact .inr ⟨q, hq, h1, h2⟩
        · rw [List.mem_singleton.mp hq] at h1
          rw [h1] at hm
          exact .inl (by omega)
    by_cases l : t < lastE ps
    · obtain ⟨q, hq, h1⟩ := ih g1 l h' h0
      exact ⟨q, List.mem_append_left _ hq, h1⟩
    · have hl : 0 < lAt (leftAf js ps) k := by
        rcases h' with h' | ⟨q, hq, _, h2⟩
        · exact h'
        · have := ((good_ordered ps g1).all q hq).2.2
          omega
      have hb : p.2.1 ≤ t := by
        by_cases q : p.2.1 ≤ t
        · exact q
        · have := c.gap k hk hl (by omega)
          omega
      exact ⟨p, List.mem_append_right _ List.mem_cons_self, ⟨hb, ht⟩, c.fst k hk hl (by omega)⟩
theorem edf {js : List Job} {ps : List Piece} (hg : GoodAll js ps) (hs : AllS js) {k : Nat} {t : Int} {q : Piece} (hq : q ∈ ps) (e : q.1.toNat = k) (hc : (jAt js k).1 ≤ t) (ht : t < q.2.2) : ∃ p ∈ ps, Piece.has p t ∧ Fst js p.1.toNat k := by
  have hk : k < js.length := e ▸ (good_places hg q hq).2
  have h0 := (hs _ (jAt_mem hk)).1
  have hl := ((good_ordered ps hg).all q hq).2.2
  exact edf_gen hk hc ps hg (by omega) (.inr ⟨q, hq, e, ht⟩) (by omega)
/-- the least time from which up to e the run works at what is due by then -/
def crowdR (js : List Job) (e : Int) : Int → List Piece → Int
  | b, [] => b
  | b, p :: r => if p.2.1 < b ∧ b ≤ p.2.2 then (if e < (jAt js p.1.toNat).2.2 then b else crowdR js e p.2.1 r) else crowdR js e b r
def crowdF (js : List Job) (ps : List Piece) (e : Int) : Int := crowdR js e e ps.reverse
structure Crowd (js : List Job) (ps : List Piece) (e b : Int) : Prop where
  b0 : 0 ≤ b
  be : b ≤ e
  cov : ∀ t, b ≤ t → t < e → ∃ p ∈ ps, Piece.has p t ∧ (jAt js p.1.toNat).2.2 ≤ e
  stop : (∀ p ∈ ps, b ≤ p.2.1 ∨ p.2.2 < b) ∨ ∃ p ∈ ps, p.2.1 < b ∧ b ≤ p.2.2 ∧ e < (jAt js p.1.toNat).2.2
theorem crowdR_spec {js : List Job} {ps : List Piece} {e : Int} (ho : Ordered ps) : ∀ (r suf : List Piece) (b : Int), r.reverse ++ suf = ps → 0 ≤ b → b ≤ e →
    (∀ t, b ≤ t → t < e → ∃ p ∈ ps, Piece.has p t ∧ (jAt js p.1.toNat).2.2 ≤ e) → (∀ p ∈ suf, b ≤ p.2.1 ∨ p.2.2 < b) → Crowd js ps e (crowdR js e b r)
  | [], suf, b, h, b0, be, cov, hst => ⟨b0, be, cov, .inl (by
      have h : suf = ps := h
      rw [← h]
      exact hst)⟩
  | p :: r, suf, b, h, b0, be, cov, hst => by
    have h' : r.reverse ++ (p :: suf) = ps := by
      rw [← h, List.reverse_cons, List.append_assoc]
      rfl
    have hp : p ∈ ps := h' ▸ List.mem_append_right _ List.mem_cons_self
    obtain ⟨p1, p2, _⟩ := ho.all p hp
    unfold crowdR
    by_cases q : p.2.1 < b ∧ b ≤ p.2.2
    · rw [if_pos q]
      by_cases l : e < (jAt js p.1.toNat).2.2
      · rw [if_pos l]
        exact ⟨b0, be, cov, .inr ⟨p, hp, q.1, q.2, l⟩⟩
      · rw [if_neg l]
        refine crowdR_spec ho r (p :: suf) p.2.1 h' p1 (by omega) (fun t h1 h2 => ?_) (fun s hsu => ?_)
        · by_cases z : b ≤ t
          · exact cov t z h2
          · exact ⟨p, hp, ⟨h1, by omega⟩, by omega⟩
        · rcases List.mem_cons.mp hsu with z | z
          · rw [z]
            exact .inl (Int.le_refl _)
          · have pw := ho.pw
            rw [← h', List.pairwise_append] at pw
            have := (List.pairwise_cons.mp pw.2.1).1 s z
            exact .inl (by omega)
    · rw [if_neg q]
      refine crowdR_spec ho r (p :: suf) b h' b0 be cov (fun s hsu => ?_)
      rcases List.mem_cons.mp hsu with z | z
      · rw [z]
        omega
      · exact hst s z
theorem crowdF_spec {js : List Job} {ps : List Piece} {e : Int} (ho : Ordered ps) (he : 0 ≤ e) : Crowd js ps e (crowdF js ps e) :=
  crowdR_spec ho ps.reverse [] e (by rw [List.reverse_reverse, List.append_nil]) he (Int.le_refl _) (fun t h1 h2 => by omega) (fun p hp => by cases hp)
/-- who has a piece behind b and is due by e comes within -/
theorem crowd_in {js : List Job} {ps : List Piece} {e b : Int} (hg : GoodAll js ps) (hs : AllS js) (c : Crowd js ps e b) {q : Piece} (hq : q ∈ ps) (hd : (jAt js q.1.toNat).2.2 ≤ e) (hb : b < q.2.2 ∨ b ≤ q.2.2) : b ≤ (jAt js q.1.toNat).1 := by
  by_cases z : b ≤ (jAt js q.1.toNat).1
  · exact z
  · exfalso
    obtain ⟨p, hp, h1, h2⟩ := edf (t := b - 1) hg hs hq rfl (by omega) (by omega)
    have o := good_ordered ps hg
    have a1 := h1.1
    have a2 := h1.2
    rcases c.stop with st | ⟨p', hp', g1, g2, g3⟩
    · have := st p hp
      omega
    · have e1 := has_uniq o hp hp' h1 ⟨by omega, by omega⟩
      subst e1
      rcases h2 with h2 | h2 <;> omega
/-! sums -/
theorem sum_le {α : Type} {f g : α → Int} : ∀ {l : List α}, (∀ x ∈ l, f x ≤ g x) → (l.map f).sum ≤ (l.map g).sum
  | [], _ => Int.le_refl _
  | a :: l, h => by
    rw [List.map_cons, List.map_cons, List.sum_cons, List.sum_cons]
    have := sum_le (l := l) fun x hx => h x (List.mem_cons_of_mem _ hx)
    have := h a List.mem_cons_self
    omega
theorem sum_lt {α : Type} {f g : α → Int} {y : α} : ∀ {l : List α}, (∀ x ∈ l, f x ≤ g x) → y ∈ l → f y < g y → (l.map f).sum < (l.map g).sum
  | [], _, hy, _ => by cases hy
  | a :: l, h, hy, hl => by
    rw [List.map_cons, List.map_cons, List.sum_cons, List.sum_cons]
    have h1 := sum_le (l := l) fun x hx => h x (List.mem_cons_of_mem _ hx)
    have h2 := h a List.mem_cons_self
    rcases List.mem_cons.mp hy with e | hy
    · subst e
      omega
    · have := sum_lt (l := l) (fun x hx => h x (List.mem_cons_of_mem _ hx)) hy hl
      omega
def ov (b c : Int) (p : Piece) : Int := max 0 (min p.2.2 c - max p.2.1 b)
theorem cov_sum {ps : List Piece} {P : Piece → Bool} {b : Int} : ∀ n : Nat, (∀ t, b ≤ t → t < b + n → ∃ p ∈ ps, Piece.has p t ∧ P p = true) → (n : Int) ≤ (ps.map fun p => if P p = true then ov b (b + n) p else 0).sum
  | 0, _ => by
    have : (ps.map fun _ => (0 : Int)).sum ≤ (ps.map fun p => if P p = true then ov b (b + (0 : Nat)) p else 0).sum := sum_le fun p _ => by
      unfold ov
      by_cases q : P p = true
      · rw [if_pos q]
        omega
      · rw [if_neg q]
        exact Int.le_refl _
    have h0 : ∀ l : List Piece, (l.map fun _ => (0 : Int)).sum = 0 := fun l => by
      induction l with
      | nil => rfl
      | cons a r ih => rw [List.map_cons, List.sum_cons, ih]; rfl
    rw [h0] at this
    omega
  | n + 1, h => by
    have ih := cov_sum (P := P) n fun t h1 h2 => h t h1 (by omega)
    obtain ⟨p, hp, ⟨h1, h2⟩, h3⟩ := h (b + n) (by omega) (by omega)
    have : (ps.map fun p => if P p = true then ov b (b + n) p else 0).sum < (ps.map fun p => if P p = true then ov b (b + (n + 1 : Nat)) p else 0).sum := by
      refine sum_lt (y := p) (fun q _ => ?_) hp ?_
      · by_cases z : P q = true
        · rw [if_pos z, if_pos z]
          unfold ov
          omega
        · rw [if_neg z, if_neg z]
          exact Int.le_refl _
      · rw [if_pos h3, if_pos h3]
        unfold ov
        omega
    omega
/-- all that is chosen of a list beside the jobs -/
def selS (P : Job → Bool) : List Job → List Int → Int
  | j :: js, x :: l => (if P j = true then x else 0) + selS P js l
  | _, _ => 0
theorem selS_lens (P : Job → Bool) : ∀ js : List Job, selS P js (lens js) = ((js.filter P).map fun j => j.2.1).sum
  | [] => rfl
  | j :: js => by
    show (if P j = true then j.2.1 else 0) + selS P js (lens js) = _
    rw [selS_lens P js]
    by_cases q : P j = true
    · rw [if_pos q, List.filter_cons_of_pos q, List.map_cons, List.sum_cons]
    · rw [if_neg q, List.filter_cons_of_neg q, Int.zero_add]
theorem selS_zero (P : Job → Bool) : ∀ (js : List Job) (n : Nat), selS P js (List.replicate n 0) = 0
  | [], _ => by unfold selS; rfl
  | _ :: _, 0 => rfl
  | j :: js, n + 1 => by
    show (if P j = true then (0 : Int) else 0) + selS P js (List.replicate n 0) = 0
    rw [selS_zero P js n]
    by_cases q : P j = true
    · rw [if_pos q]; rfl
    · rw [if_neg q]; rfl
theorem selS_set (P : Job → Bool) : ∀ (js : List Job) (l : List Int) (k : Nat) (x : Int), k < js.length → k < l.length → selS P js (l.set k x) = selS P js l + (if P (jAt js k) = true then x - lAt l k else 0)
  | [], _, _, _, h, _ => absurd h (Nat.not_lt_zero _)
  | _ :: _, [], _, _, _, h => absurd h (Nat.not_lt_zero _)
  | j :: js, y :: l, 0, x, _, _ => by
    show (if P j = true then x else 0) + selS P js l = (if P j = true then y else 0) + selS P js l + (if P j = true then x - y else 0)
    by_cases q : P j = true
    · rw [if_pos q, if_pos q, if_pos q]; omega
    · rw [if_neg q, if_neg q, if_neg q]; omega
  | j :: js, y :: l, k + 1, x, h, h' => by
    have ih := selS_set P js l k x (by simpa using h) (by simpa using h')
    show (if P j = true then y else 0) + selS P js (l.set k x) = (if P j = true then y else 0) + selS P js l + (if P (jAt js k) = true then x - lAt l k else 0)
    rw [ih]
    omega
theorem sel_left {js : List Job} (P : Job → Bool) : ∀ ps : List Piece, GoodAll js ps → selS P js (leftAf js ps) + (ps.map fun p => if P (jAt js p.1.toNat) = true then p.2.2 - p.2.1 else 0).sum = selS P js (lens js) := by
  refine snoc_ind ?_ ?_
  · intro _
    show selS P js (lens js) + 0 = _
    omega
  · intro ps p ih h
    obtain ⟨h1, c⟩ := good_snoc.mp h
    have ih := ih h1
    rw [leftAf_snoc, leftStep, selS_set P js _ _ _ c.pn (by rw [leftAf_len]; exact c.pn), List.map_append, List.sum_append, List.map_cons, List.sum_cons]
    show _ + ((ps.map fun p => if P (jAt js p.1.toNat) = true then p.2.2 - p.2.1 else 0).sum + (_ + 0)) = _
    by_cases q : P (jAt js p.1.toNat) = true
    · rw [if_pos q, if_pos q]
      omega
    · rw [if_neg q, if_neg q]
      omega
theorem sel_ran {js : List Job} {ps : List Piece} (rn : Ran js ps) (P : Job → Bool) : ((js.filter P).map fun j => j.2.1).sum = (ps.map fun p => if P (jAt js p.1.toNat) = true then p.2.2 - p.2.1 else 0).sum := by
  have h := sel_left P ps rn.good
  rw [zeros_of (leftAf_len js ps) rn.done, selS_zero, Int.zero_add] at h
  rw [← selS_lens]
  exact h.symm
/-- a job that ends past its due: the stretch asks too much -/
theorem crowd_much {js : List Job} {ps : List Piece} {e b : Int} (rn : Ran js ps) (hs : AllS js) (c : Crowd js ps e b) {q : Piece} (hq : q ∈ ps) (hd : (jAt js q.1.toNat).2.2 ≤ e) (hl : e < q.2.2) :
    e - b < ((js.filter fun j => decide (b ≤ j.1) && decide (j.2.2 ≤ e)).map fun j => j.2.1).sum := by
  have o := good_ordered ps rn.good
  have cb := c.be
  rw [sel_ran rn]
  have hn : b + ((e - b).toNat : Nat) = e := by omega
  have h1 : ((e - b).toNat : Int) ≤ (ps.map fun p => if (decide (b ≤ (jAt js p.1.toNat).1) && decide ((jAt js p.1.toNat).2.2 ≤ e)) = true then ov b (b + ((e - b).toNat : Nat)) p else 0).sum := by
    refine cov_sum (ps := ps) (P := fun p => decide (b ≤ (jAt js p.1.toNat).1) && decide ((jAt js p.1.toNat).2.2 ≤ e)) (b := b) _ fun t t1 t2 => ?_
    obtain ⟨p, hp, ph, pd⟩ := c.cov t t1 (by omega)
    have := crowd_in rn.good hs c hp pd (.inl (by have := ph.2; omega))
    exact ⟨p, hp, ph, by rw [decide_eq_true this, decide_eq_true pd]; rfl⟩
  rw [hn] at h1
  have h2 : (ps.map fun p => if (decide (b ≤ (jAt js p.1.toNat).1) && decide ((jAt js p.1.toNat).2.2 ≤ e)) = true then ov b e p else 0).sum < (ps.map fun p => if (decide (b ≤ (jAt js p.1.toNat).1) && decide ((jAt js p.1.toNat).2.2 ≤ e)) = true then p.2.2 - p.2.1 else 0).sum := by
    refine sum_lt (y := q) (fun p hp => ?_) hq ?_
    · have := o.all p hp
      by_cases z : (decide (b ≤ (jAt js p.1.toNat).1) && decide ((jAt js p.1.toNat).2.2 ≤ e)) = true
      · rw [if_pos z, if_pos z]
        unfold ov
        omega
      · rw [if_neg z, if_neg z]
        exact Int.le_refl _
    · have := o.all q hq
      have hc := crowd_in rn.good hs c hq hd (.inl (by omega))
      have z : (decide (b ≤ (jAt js q.1.toNat).1) && decide ((jAt js q.1.toNat).2.2 ≤ e)) = true := by rw [decide_eq_true hc, decide_eq_true hd]; rfl
      rw [if_pos z, if_pos z]
      unfold ov
      omega
  omega
/-! the ends -/
theorem ends_ge {js : List Job} : ∀ ps : List Piece, GoodAll js ps → ∀ p ∈ ps, p.2.2 ≤ lAt (endsAf js.length ps) p.1.toNat := by
  refine snoc_ind ?_ ?_
  · intro _ p hp
    cases hp
  · intro ps p ih hg q hq
    obtain ⟨g1, c⟩ := good_snoc.mp hg
    rw [endsAf_snoc, endStep, lAt_set (by rw [endsAf_len]; exact c.pn)]
    have tb := c.tb
    have be := c.be
    rcases List.mem_append.mp hq with hq | hq
    · have h1 := ih g1 q hq
      have h2 := ((good_ordered ps g1).all q hq).2.2
      by_cases e : q.1.toNat = p.1.toNat
      · rw [if_pos e]
        omega
      · rw [if_neg e]
        exact h1
    · rw [List.mem_singleton.mp hq, if_pos rfl]
      exact Int.le_refl _
theorem ends_ex {js : List Job} {k : Nat} : ∀ ps : List Piece, GoodAll js ps → lAt (endsAf js.length ps) k ≠ 0 → ∃ p ∈ ps, p.1.toNat = k ∧ p.2.2 = lAt (endsAf js.length ps) k := by
  refine snoc_ind ?_ ?_
  · intro _ h
    exfalso
    refine h ?_
    show (List.replicate js.length (0 : Int)).getD k 0 = 0
    rw [List.getD_eq_getElem?_getD, List.getElem?_replicate]
    by_cases q : k < js.length
    · rw [if_pos q]; rfl
    · rw [if_neg q]; rfl
  · intro ps p ih hg h
    obtain ⟨g1, c⟩ := good_snoc.mp hg
    rw [endsAf_snoc, endStep, lAt_set (by rw [endsAf_len]; exact c.pn)] at h ⊢
    by_cases e : k = p.1.toNat
    · rw [if_pos e]
      exact ⟨p, List.mem_append_right _ List.mem_cons_self, e.symm, rfl⟩
    · rw [if_neg e] at h ⊢
      obtain ⟨q, hq, h1, h2⟩ := ih g1 h
      exact ⟨q, List.mem_append_left _ hq, h1, h2⟩
/-! ### the answer -/
def dueF (js : List Job) (k : Int) : Int := (jAt js k.toNat).2.2
noncomputable def answerD (js : List Job) : PyData :=
  match lateF js (endsF js) with
  | [] => .tuple [.str (Str.ofString "plan"), jobsD (workedF js)]
  | k :: _ => .tuple [.str (Str.ofString "late"), .int k, .int (crowdF js (workedF js) (dueF js k)), .int (dueF js k)]
/-- a way that meets the jobs -/
def FitsAll (js : List Job) (ps : List Piece) : Prop := (∀ (i : Nat) (p : Piece), ps[i]? = some p → 0 ≤ p.1 ∧ p.1.toNat < js.length ∧ lastE (ps.take i) ≤ p.2.1 ∧ p.2.1 < p.2.2 ∧ (jAt js p.1.toNat).1 ≤ p.2.1 ∧ p.2.2 ≤ (jAt js p.1.toNat).2.2) ∧ ∀ k, lAt (leftAf js ps) k = 0
/-- a late job and a stretch that asks too much -/
def TooMuch (js : List Job) (k b e : Int) : Prop := 0 ≤ k ∧ k.toNat < js.length ∧ 0 ≤ b ∧ b ≤ (jAt js k.toNat).1 ∧ e = (jAt js k.toNat).2.2 ∧ e - b < ((js.filter fun j => decide (b ≤ j.1) && decide (j.2.2 ≤ e)).map fun j => j.2.1).sum
def RightD (js : List Job) (d : PyData) : Prop := (∃ ps, d = .tuple [.str (Str.ofString "plan"), jobsD ps] ∧ FitsAll js ps) ∨ ∃ k b e, d = .tuple [.str (Str.ofString "late"), .int k, .int b, .int e] ∧ TooMuch js k b e
theorem lateF_nil {js : List Job} {es : List Int} (h : lateF js es = []) {k : Nat} (hk : k < js.length) : lAt es k ≤ (jAt js k).2.2 := by
  by_cases q : lAt es k ≤ (jAt js k).2.2
  · exact q
  · exfalso
    have hm : ((jAt js k).2.2, (k : Int)) ∈ lateSrt js es := mem_lateSrt.mpr ⟨k, hk, by omega, rfl⟩
    have : (k : Int) ∈ lateF js es := List.mem_map_of_mem hm
    rw [h] at this
    cases this
theorem plan_fits {js : List Job} (hs : AllS js) (h : lateF js (endsF js) = []) : FitsAll js (workedF js) := by
  have rn := ran hs
  refine ⟨fun i p hp => ?_, rn.done⟩
  have c := rn.good i p hp
  have hm := List.mem_of_getElem? hp
  have h1 := ends_ge _ rn.good p hm
  have h2 := lateF_nil h c.pn
  have h2 : lAt (endsAf js.length (workedF js)) p.1.toNat ≤ (jAt js p.1.toNat).2.2 := h2
  exact ⟨c.p0, c.pn, c.tb, c.be, c.come, by omega⟩
/-- what a late job tells -/
theorem late_facts {js : List Job} (hs : AllS js) {k : Nat} (hk : k < js.length) (hl : (jAt js k).2.2 < lAt (endsF js) k) :
    ∃ q ∈ workedF js, q.1.toNat = k ∧ (jAt js k).2.2 < q.2.2 ∧ Crowd js (workedF js) (jAt js k).2.2 (crowdF js (workedF js) (jAt js k).2.2) := by
  have rn := ran hs
  obtain ⟨s1, s2, s3⟩ := hs _ (jAt_mem hk)
  obtain ⟨q, hq, e1, e2⟩ := ends_ex (k := k) _ rn.good (by
    show lAt (endsF js) k ≠ 0
    omega)
  have e2 : q.2.2 = lAt (endsF js) k := e2
  exact ⟨q, hq, e1, by omega, crowdF_spec (good_ordered _ rn.good) (by omega)⟩
theorem late_much {js : List Job} (hs : AllS js) {k : Nat} (hk : k < js.length) (hl : (jAt js k).2.2 < lAt (endsF js) k) : TooMuch js (k : Int) (crowdF js (workedF js) (jAt js k).2.2) (jAt js k).2.2 := by
  have rn := ran hs
  obtain ⟨q, hq, e1, h2, c⟩ := late_facts hs hk hl
  have hd : (jAt js q.1.toNat).2.2 ≤ (jAt js k).2.2 := by rw [e1]; exact Int.le_refl _
  have c1 := crowd_in rn.good hs c hq hd (.inl (by have := c.be; omega))
  rw [e1] at c1
  refine ⟨by omega, by rw [Int.toNat_natCast]; exact hk, c.b0, by rw [Int.toNat_natCast]; exact c1, by rw [Int.toNat_natCast], crowd_much rn hs c hq hd h2⟩
theorem answer_right {js : List Job} (hs : AllS js) : RightD js (answerD js) := by
  unfold answerD
  generalize hlt : lateF js (endsF js) = ls
  cases ls with
  | nil => exact .inl ⟨_, rfl, plan_fits hs hlt⟩
  | cons k r =>
    have h0 : (lateF js (endsF js))[0]? = some k := by rw [hlt]; rfl
    obtain ⟨m, rfl, hm, hl, _⟩ := lateF_at h0
    have ed : dueF js (m : Int) = (jAt js m).2.2 := by unfold dueF; rw [Int.toNat_natCast]
    dsimp only
    rw [ed]
    exact .inr ⟨_, _, _, rfl, late_much hs hm hl⟩
theorem answerD_plan {js : List Job} (h : lateF js (endsF js) = []) : answerD js = .tuple [.str (Str.ofString "plan"), jobsD (workedF js)] := by
  unfold answerD
  rw [h]
/-! ### dues made later -/
def laterF (js : List Job) (m : Int) : List Job := js.map fun j => (j.1, j.2.1, j.2.2 + m)
theorem laterF_len (js : List Job) (m : Int) : (laterF js m).length = js.length := List.length_map _
theorem jAt_later {js : List Job} {m : Int} {k : Nat} (h : k < js.length) : jAt (laterF js m) k = ((jAt js k).1, (jAt js k).2.1, (jAt js k).2.2 + m) := by
  refine jAt_of ?_
  rw [laterF, List.getElem?_map, getD_some (d := J0) h]
  rfl
theorem laterF_snd {js : List Job} {m : Int} (hs : AllS js) (h : 0 ≤ m) : AllS (laterF js m) := fun j hj => by
  obtain ⟨i, hi, rfl⟩ := List.mem_map.mp hj
  obtain ⟨h1, h2, h3⟩ := hs i hi
  exact ⟨h1, h2, by show i.1 < i.2.2 + m; omega⟩
theorem nearUp_later {js : List Job} {m : Int} {left : List Int} {t : Int} : ∀ n, n ≤ js.length → nearUp (laterF js m) left t n = nearUp js left t n
  | 0, _ => rfl
  | n + 1, h => by
    have ih := nearUp_later (js := js) (m := m) (left := left) (t := t) n (by omega)
    show nearStep (laterF js m) left t (nearUp (laterF js m) left t n) n = nearStep js left t (nearUp js left t n) n
    rw [ih]
    unfold nearStep
    rw [jAt_later (by omega)]
    by_cases q : (jAt js n).1 ≤ t ∧ 0 < lAt left n
    · rw [if_pos q, if_pos q]
      cases hb : nearUp js left t n with
      | none => rfl
      | some p =>
        have hp := nearUp_lt hb
        dsimp only
        rw [jAt_later (by omega)]
        by_cases c : (jAt js n).2.2 < (jAt js p).2.2
        · rw [if_pos c, if_pos (by show (jAt js n).2.2 + m < (jAt js p).2.2 + m; omega)]
        · rw [if_neg c, if_neg (by show ¬ (jAt js n).2.2 + m < (jAt js p).2.2 + m; omega)]
    · rw [if_neg q, if_neg q]
theorem nearF_later {js : List Job} {m : Int} {left : List Int} {t : Int} : nearF (laterF js m) left t = nearF js left t := by
  unfold nearF
  rw [laterF_len]
  exact nearUp_later _ (Nat.le_refl _)
theorem upF_later {js : List Job} {m t : Int} : upF (laterF js m) t = upF js t := by
  unfold upF laterF
  rw [List.foldl_map]
  rfl
theorem wStep_later {js : List Job} {m : Int} (w : WS) : wStep (laterF js m) w = wStep js w := by
  unfold wStep
  rw [nearF_later, upF_later]
theorem lens_later {js : List Job} {m : Int} : lens (laterF js m) = lens js := by
  unfold lens laterF
  rw [List.map_map]
  rfl
theorem wIter_later {js : List Job} {m : Int} : wIter (laterF js m) = wIter js := by
  funext n
  induction n with
  | zero =>
    show (lens (laterF js m), _, _) = (lens js, _, _)
    rw [lens_later]
  | succ n ih =>
    show wStep (laterF js m) (wIter (laterF js m) n) = wStep js (wIter js n)
    rw [ih, wStep_later]
theorem worked_later {js : List Job} {m : Int} : workedF (laterF js m) = workedF js := by
  unfold workedF wN
  rw [wIter_later]
theorem endsF_later {js : List Job} {m : Int} : endsF (laterF js m) = endsF js := by
  unfold endsF
  rw [worked_later, laterF_len]
def needUp (js : List Job) (es : List Int) : Nat → Int
  | 0 => 0
  | n + 1 => max (needUp js es n) (lAt es n - (jAt js n).2.2)
theorem needUp_spec (js : List Job) (es : List Int) : ∀ n, 0 ≤ needUp js es n ∧ (∀ k, k < n → lAt es k - (jAt js k).2.2 ≤ needUp js es n) ∧ (0 < needUp js es n → ∃ k, k < n ∧ lAt es k - (jAt js k).2.2 = needUp js es n)
  | 0 => ⟨Int.le_refl _, fun k h => absurd h (Nat.not_lt_zero k), fun h => absurd h (Int.lt_irrefl _)⟩
  | n + 1 => by
    obtain ⟨h1, h2, h3⟩ := needUp_spec js es n
    unfold needUp
    refine ⟨by omega, fun k hk => ?_, fun hp => ?_⟩
    · by_cases e : k = n
      · subst e
        omega
      · have := h2 k (by omega)
        omega
    · by_cases q : needUp js es n ≤ lAt es n - (jAt js n).2.2
      · exact ⟨n, Nat.lt_succ_self n, by omega⟩
      · obtain ⟨k, hk, e⟩ := h3 (by omega)
        exact ⟨k, by omega, by omega⟩
noncomputable def needF (js : List Job) : Int := needUp js (endsF js) js.length
theorem needF_spec {js : List Job} (hs : AllS js) : 0 ≤ needF js ∧ (AllS (laterF js (needF js)) ∧ lateF (laterF js (needF js)) (endsF (laterF js (needF js))) = []) ∧
    (0 < needF js → AllS (laterF js (needF js - 1)) ∧ ∃ k b e, answerD (laterF js (needF js - 1)) = .tuple [.str (Str.ofString "late"), .int k, .int b, .int e]) := by
  obtain ⟨h1, h2, h3⟩ := needUp_spec js (endsF js) js.length
  refine ⟨h1, ⟨laterF_snd hs h1, ?_⟩, fun hp => ⟨laterF_snd hs (by omega), ?_⟩⟩
  · cases e : lateF (laterF js (needF js)) (endsF (laterF js (needF js))) with
    | nil => rfl
    | cons a r =>
      exfalso
      obtain ⟨k, _, hk, hl, _⟩ := lateF_at (i := 0) (a := a) (by rw [e]; rfl)
      rw [laterF_len] at hk
      rw [jAt_later hk, endsF_later] at hl
      have := h2 k hk
      have hl : (jAt js k).2.2 + needUp js (endsF js) js.length < lAt (endsF js) k := hl
      omega
  · obtain ⟨k, hk, e⟩ := h3 hp
    unfold answerD
    cases hc : lateF (laterF js (needF js - 1)) (endsF (laterF js (needF js - 1))) with
    | nil =>
      exfalso
      have := lateF_nil hc (k := k) (by rw [laterF_len]; exact hk)
      rw [jAt_later hk, endsF_later] at this
      have this : lAt (endsF js) k ≤ (jAt js k).2.2 + (needUp js (endsF js) js.length - 1) := this
      omega
    | cons a r => exact ⟨_, _, _, rfl⟩
/-! ### the answer, told by the run -/
theorem good_take {js : List Job} {ps : List Piece} (h : GoodAll js ps) (n : Nat) : GoodAll js (ps.take n) := fun i p hp => by
  rw [List.getElem?_take] at hp
  by_cases q : i < n
  · rw [if_pos q] at hp
    rw [List.take_take, Nat.min_eq_left (by omega)]
    exact h i p hp
  · rw [if_neg q] at hp
    cases hp
theorem lastE_ge {js : List Job} {ps : List Piece} (h : GoodAll js ps) {i : Nat} {p q : Piece} (hp : ps[i]? = some p) (hq : q ∈ ps) (hl : q.2.1 < p.2.1) : q.2.2 ≤ lastE (ps.take i) := by
  have o := good_ordered ps h
  obtain ⟨j, hj, e⟩ := List.getElem_of_mem hq
  obtain ⟨hi, e2⟩ := List.getElem?_eq_some_iff.mp hp
  have pw := List.pairwise_iff_getElem.mp o.pw
  have hji : j < i := by
    rcases Nat.lt_trichotomy i j with l | l | l
    · have := pw i j hi hj l
      rw [e, e2] at this
      have := (o.all p (List.mem_of_getElem? hp)).2.1
      omega
    · subst l
      rw [e] at e2
      rw [e2] at hl
      omega
    · exact l
  refine ((good_ordered _ (good_take h i)).all q ?_).2.2
  refine List.mem_of_getElem? (i := j) ?_
  rw [List.getElem?_take, if_pos hji, List.getElem?_eq_getElem hj, e]
def Cov (js : List Job) (ps : List Piece) (b e : Int) : Prop := b < e ∧ 0 ≤ b ∧ GoodAll js ps ∧ ∀ t, b ≤ t → t < e → ∃ p ∈ ps, Piece.has p t ∧ (jAt js p.1.toNat).2.2 ≤ e
def clampF (b e x : Int) : Int := max b (min e x)
theorem within_hit {js : List Job} {ps : List Piece} {b e : Int} (h : Cov js ps b e) {i : Nat} {p : Piece} (hp : ps[i]? = some p) (h1 : b < p.2.2) (h2 : p.2.1 < e) :
    max p.2.1 b = clampF b e (lastE (ps.take i)) ∧ (jAt js p.1.toNat).2.2 ≤ e := by
  obtain ⟨hb, _, hg, hc⟩ := h
  have o := good_ordered ps hg
  have hm := List.mem_of_getElem? hp
  have hall := o.all p hm
  have c := hg i p hp
  have tb := c.tb
  refine ⟨?_, ?_⟩
  · unfold clampF
    by_cases q : p.2.1 ≤ b
    · omega
    · obtain ⟨p', m', ⟨g1, g2⟩, _⟩ := hc (p.2.1 - 1) (by omega) (by omega)
      have := lastE_ge hg hp m' (by omega)
      omega
  · obtain ⟨p', m', g1, g2⟩ := hc (max p.2.1 b) (by omega) (by omega)
    have : p = p' := has_uniq o hm m' (t := max p.2.1 b) ⟨by omega, by omega⟩ g1
    rw [this]
    exact g2
theorem within_miss {js : List Job} {ps : List Piece} {b e : Int} (h : Cov js ps b e) {i : Nat} {p : Piece} (hp : ps[i]? = some p) (h1 : ¬ (b < p.2.2 ∧ p.2.1 < e)) : clampF b e p.2.2 = clampF b e (lastE (ps.take i)) := by
  obtain ⟨hb, _, hg, hc⟩ := h
  have o := good_ordered ps hg
  have hm := List.mem_of_getElem? hp
  have hall := o.all p hm
  have tb := (hg i p hp).tb
  unfold clampF
  by_cases q : b < p.2.2
  · obtain ⟨p', m', ⟨g1, g2⟩, _⟩ := hc (e - 1) (by omega) (by omega)
    have := lastE_ge hg hp m' (by omega)
    omega
  · omega
theorem within_end {js : List Job} {ps : List Piece} {b e : Int} (h : Cov js ps b e) : clampF b e (lastE ps) = e := by
  obtain ⟨hb, _, hg, hc⟩ := h
  obtain ⟨p', m', ⟨g1, g2⟩, _⟩ := hc (e - 1) (by omega) (by omega)
  have := ((good_ordered ps hg).all p' m').2.2
  unfold clampF
  omega
theorem crowd_ahead {js : List Job} {ps : List Piece} {e b : Int} (hg : GoodAll js ps) (c : Crowd js ps e b) (hb : b < e) {p : Piece} (hp : p ∈ ps) (h1 : p.2.1 < b) (h2 : b ≤ p.2.2) : p.2.2 = b ∧ e < (jAt js p.1.toNat).2.2 := by
  have o := good_ordered ps hg
  rcases c.stop with st | ⟨p', hp', g1, g2, g3⟩
  · have := st p hp
    omega
  · have e1 : p = p' := has_uniq o hp hp' (t := b - 1) ⟨by omega, by omega⟩ ⟨by omega, by omega⟩
    subst e1
    refine ⟨?_, g3⟩
    obtain ⟨q, hq, ⟨k1, k2⟩, k3⟩ := c.cov b (Int.le_refl _) hb
    by_cases z : p.2.2 = b
    · exact z
    · exfalso
      have e2 : p = q := has_uniq o hp hq (t := b) ⟨by omega, by omega⟩ ⟨k1, k2⟩
      subst e2
      omega
theorem left_none {js : List Job} {k : Nat} : ∀ ps : List Piece, GoodAll js ps → (∀ p ∈ ps, p.1.toNat ≠ k) → lAt (leftAf js ps) k = lAt (lens js) k := by
  refine snoc_ind ?_ ?_
  · intro _ _
    rfl
  · intro ps p ih hg h
    obtain ⟨g1, c⟩ := good_snoc.mp hg
    rw [leftAf_snoc, leftStep, lAt_set (by rw [leftAf_len]; exact c.pn), if_neg (fun e => h p (List.mem_append_right _ List.mem_cons_self) e.symm)]
    exact ih g1 fun q hq => h q (List.mem_append_left _ hq)
/-- each job's end is the greatest of its pieces' ends -/
theorem ends_max {js : List Job} (hs : AllS js) {k : Nat} (hk : k < js.length) : lAt (endsF js) k ∈ ((workedF js).filter fun p => decide (p.1 = (k : Int))).map (fun p => p.2.2) ∧ ∀ y ∈ ((workedF js).filter fun p => decide (p.1 = (k : Int))).map (fun p => p.2.2), y ≤ lAt (endsF js) k := by
  have rn := ran hs
  have hz : ∃ p ∈ workedF js, p.1.toNat = k := by
    by_cases q : ∃ p ∈ workedF js, p.1.toNat = k
    · exact q
    · exfalso
      have h := left_none (k := k) _ rn.good fun p hp e => q ⟨p, hp, e⟩
      rw [rn.done, lAt_lens hk] at h
      have := (hs _ (jAt_mem hk)).2.1
      omega
  obtain ⟨p, hp, e⟩ := hz
  have h1 := ends_ge _ rn.good p hp
  rw [e] at h1
  have h1 : p.2.2 ≤ lAt (endsF js) k := h1
  have h2 := (good_ordered _ rn.good).all p hp
  obtain ⟨q, hq, e1, e2⟩ := ends_ex (k := k) _ rn.good (by show lAt (endsF js) k ≠ 0; omega)
  refine ⟨List.mem_map.mpr ⟨q, List.mem_filter.mpr ⟨hq, decide_eq_true ?_⟩, e2⟩, fun y hy => ?_⟩
  · have := (good_places rn.good q hq).1
    omega
  · obtain ⟨r, hr, rfl⟩ := List.mem_map.mp hy
    obtain ⟨hr, e3⟩ := List.mem_filter.mp hr
    have e3 := of_decide_eq_true e3
    have h3 := ends_ge _ rn.good r hr
    rw [e3, Int.toNat_natCast] at h3
    exact h3
/-- the late one due first, of several at the least place -/
def lateStep (js : List Job) (es : List Int) (b : Option Nat) (i : Nat) : Option Nat :=
  if (jAt js i).2.2 < lAt es i then
    match b with
    | none => some i
    | some p => if (jAt js i).2.2 < (jAt js p).2.2 then some i else some p
  else b
def lateUp (js : List Job) (es : List Int) : Nat → Option Nat
  | 0 => none
  | n + 1 => lateStep js es (lateUp js es n) n
def LateSpec (js : List Job) (es : List Int) (n : Nat) : Option Nat → Prop
  | none => ∀ i, i < n → ¬ (jAt js i).2.2 < lAt es i
  | some p => p < n ∧ (jAt js p).2.2 < lAt es p ∧ ∀ i, i < n → (jAt js i).2.2 < lAt es i → Fst js p i
theorem lateUp_spec (js : List Job) (es : List Int) : ∀ n, LateSpec js es n (lateUp js es n)
  | 0 => fun i h => absurd h (Nat.not_lt_zero i)
  | n + 1 => by
    have ih := lateUp_spec js es n
    show LateSpec js es (n + 1) (lateStep js es (lateUp js es n) n)
    generalize lateUp js es n = b at ih
    unfold lateStep
    by_cases q : (jAt js n).2.2 < lAt es n
    · rw [if_pos q]
      cases b with
      | none =>
        refine ⟨Nat.lt_succ_self n, q, fun i hi ht => ?_⟩
        by_cases e : i = n
        · subst e
          exact .inr ⟨rfl, Nat.le_refl _⟩
        · exact absurd ht (ih i (by omega))
      | some p =>
        obtain ⟨h1, h2, h3⟩ := ih
        dsimp only
        by_cases c : (jAt js n).2.2 < (jAt js p).2.2
        · rw [if_pos c]
          refine ⟨Nat.lt_succ_self n, q, fun i hi ht => ?_⟩
          by_cases e : i = n
          · subst e
            exact .inr ⟨rfl, Nat.le_refl _⟩
          · have := h3 i (by omega) ht
            rcases this with z | ⟨z, _⟩
            · exact .inl (by omega)
            · exact .inl (by omega)
        · rw [if_neg c]
          refine ⟨by omega, h2, fun i hi ht => ?_⟩
          by_cases e : i = n
          · subst e
            by_cases c2 : (jAt js p).2.2 = (jAt js i).2.2
            · exact .inr ⟨c2, by omega⟩
            · exact .inl (by omega)
          · exact h3 i (by omega) ht
    · rw [if_neg q]
      cases b with
      | none =>
        intro i hi
        by_cases e : i = n
        · subst e
          exact q
        · exact ih i (by omega)
      | some p =>
        obtain ⟨h1, h2, h3⟩ := ih
        refine ⟨by omega, h2, fun i hi ht => ?_⟩
        by_cases e : i = n
        · subst e
          exact absurd ht q
        · exact h3 i (by omega) ht
theorem lateUp_lt {js : List Job} {es : List Int} {n p : Nat} (h : lateUp js es n = some p) : p < n := by
  have := lateUp_spec js es n
  rw [h] at this
  exact this.1
theorem lateUp_none {js : List Job} {es : List Int} (h : lateUp js es js.length = none) : lateF js es = [] := by
  have sp := lateUp_spec js es js.length
  rw [h] at sp
  cases e : lateF js es with
  | nil => rfl
  | cons a r =>
    exfalso
    obtain ⟨k, _, hk, hl, _⟩ := lateF_at (js := js) (es := es) (i := 0) (a := a) (by rw [e]; rfl)
    exact sp k hk hl
theorem lateUp_some {js : List Job} {es : List Int} {p : Nat} (h : lateUp js es js.length = some p) : p < js.length ∧ (jAt js p).2.2 < lAt es p ∧ ∃ r, lateF js es = (p : Int) :: r := by
  have sp := lateUp_spec js es js.length
  rw [h] at sp
  obtain ⟨h1, h2, h3⟩ := sp
  refine ⟨h1, h2, ?_⟩
  have hm : ((jAt js p).2.2, (p : Int)) ∈ lateSrt js es := mem_lateSrt.mpr ⟨p, h1, h2, rfl⟩
  have pw := lateSrt_pw js es
  have hmm := @mem_lateSrt js es
  unfold lateF
  generalize lateSrt js es = l at *
  cases l with
  | nil => cases hm
  | cons x r =>
    refine ⟨r.map (·.2), ?_⟩
    obtain ⟨k, k1, k2, rfl⟩ := hmm.mp List.mem_cons_self
    have f1 := h3 k k1 k2
    have f2 : (jAt js k).2.2 < (jAt js p).2.2 ∨ ((jAt js k).2.2 = (jAt js p).2.2 ∧ (k : Int) ≤ (p : Int)) := by
      rcases List.mem_cons.mp hm with e | hm
      · have e1 := (Prod.mk.inj e).1
        have e2 := (Prod.mk.inj e).2
        exact .inr ⟨e1.symm, by omega⟩
      · have := (List.pairwise_cons.mp pw).1 _ hm
        rw [SrtO.lexB_no] at this
        omega
    have : k = p := by
      rcases f1 with f1 | ⟨f1, f3⟩ <;> omega
    subst this
    rfl
end DL

namespace DL
open PySem L2
/-! ### ways looked at -/
def Fit (js : List Job) (t : Int) (p : Piece) : Prop := (0 ≤ p.1 ∧ p.1 < js.length) ∧ (t ≤ p.2.1 ∧ p.2.1 < p.2.2) ∧ (jAt js p.1.toNat).1 ≤ p.2.1 ∧ p.2.2 ≤ (jAt js p.1.toNat).2.2
instance (js : List Job) (t : Int) (p : Piece) : Decidable (Fit js t p) := inferInstanceAs (Decidable ((0 ≤ p.1 ∧ p.1 < js.length) ∧ (t ≤ p.2.1 ∧ p.2.1 < p.2.2) ∧ (jAt js p.1.toNat).1 ≤ p.2.1 ∧ p.2.2 ≤ (jAt js p.1.toNat).2.2))
def walkB (js : List Job) : Int → List Piece → Bool
  | _, [] => true
  | t, p :: r => if Fit js t p then walkB js p.2.2 r else false
def sumOf (way : List Piece) (k : Nat) : Int := ((way.filter fun p => decide (p.1 = (k : Int))).map fun p => p.2.2 - p.2.1).sum
def firstB : List Piece → Int
  | [] => 0
  | p :: _ => p.2.1
def allB (js : List Job) (way : List Piece) : Bool := decide (∀ k ∈ List.range js.length, sumOf way k = (jAt js k).2.1)
def meetsB (js : List Job) (way : List Piece) : Bool := if walkB js 0 way = true then decide (leftAf js way = List.replicate js.length 0) else false
def dueB (js : List Job) (way : List Piece) : Bool := if walkB js (firstB way) way = true then allB js way else false
theorem walk_places {js : List Job} : ∀ (way : List Piece) (t : Int), walkB js t way = true → PlacesIn js.length way
  | [], _, _ => fun p hp => by cases hp
  | p :: r, t, h => by
    unfold walkB at h
    by_cases q : Fit js t p
    · rw [if_pos q] at h
      intro x hx
      rcases List.mem_cons.mp hx with e | hx
      · rw [e]
        obtain ⟨⟨h1, h2⟩, _⟩ := q
        exact ⟨h1, by omega⟩
      · exact walk_places r _ h x hx
    · rw [if_neg q] at h
      cases h
theorem walk_first {js : List Job} (hs : AllS js) : ∀ way : List Piece, walkB js 0 way = walkB js (firstB way) way
  | [] => rfl
  | p :: r => by
    show (if Fit js 0 p then walkB js p.2.2 r else false) = (if Fit js p.2.1 p then walkB js p.2.2 r else false)
    have e : Fit js 0 p ↔ Fit js p.2.1 p := by
      constructor
      · rintro ⟨h1, ⟨_, h2⟩, h3⟩
        exact ⟨h1, ⟨Int.le_refl _, h2⟩, h3⟩
      · rintro ⟨⟨h1, h1'⟩, ⟨_, h2⟩, h3, h4⟩
        have := (hs _ (jAt_mem (i := p.1.toNat) (by omega))).1
        exact ⟨⟨h1, h1'⟩, ⟨by omega, h2⟩, h3, h4⟩
    by_cases q : Fit js 0 p
    · rw [if_pos q, if_pos (e.mp q)]
    · rw [if_neg q, if_neg (fun z => q (e.mpr z))]
theorem left_sum {js : List Job} {k : Nat} (hk : k < js.length) : ∀ ps : List Piece, PlacesIn js.length ps → lAt (leftAf js ps) k = (jAt js k).2.1 - sumOf ps k := by
  refine snoc_ind ?_ ?_
  · intro _
    show lAt (lens js) k = _ - 0
    rw [lAt_lens hk]
    omega
  · intro ps p ih h
    have ih := ih fun q hq => h q (List.mem_append_left _ hq)
    obtain ⟨p0, pn⟩ := h p (List.mem_append_right _ List.mem_cons_self)
    rw [leftAf_snoc, leftStep, lAt_set (by rw [leftAf_len]; exact pn)]
    unfold sumOf
    rw [List.filter_append, List.map_append, List.sum_append]
    have ih : lAt (leftAf js ps) k = (jAt js k).2.1 - ((ps.filter fun p => decide (p.1 = (k : Int))).map fun p => p.2.2 - p.2.1).sum := ih
    by_cases e : k = p.1.toNat
    · rw [if_pos e]
      have e2 : p.1 = (k : Int) := by omega
      rw [List.filter_cons_of_pos (by exact decide_eq_true e2)]
      show _ = _ - (_ + ((p.2.2 - p.2.1) + 0))
      rw [← e, ih]
      omega
    · rw [if_neg e]
      have e2 : ¬ p.1 = (k : Int) := by omega
      rw [List.filter_cons_of_neg (by simpa using e2)]
      show _ = _ - (_ + 0)
      rw [ih]
      omega
theorem meets_due {js : List Job} (hs : AllS js) (way : List Piece) : meetsB js way = dueB js way := by
  unfold meetsB dueB
  rw [← walk_first hs]
  by_cases q : walkB js 0 way = true
  · rw [if_pos q, if_pos q]
    have hp := walk_places way 0 q
    unfold allB
    refine decide_eq_decide.mpr ⟨fun h k hk => ?_, fun h => zeros_of (leftAf_len js way) fun i => ?_⟩
    · have hk := List.mem_range.mp hk
      have := left_sum hk way hp
      rw [h] at this
      have hz : lAt (List.replicate js.length (0 : Int)) k = 0 := by
        show (List.replicate js.length (0 : Int)).getD k 0 = 0
        rw [List.getD_eq_getElem?_getD, List.getElem?_replicate, if_pos hk]
        rfl
      omega
    · by_cases hk : i < js.length
      · have := left_sum hk way hp
        have := h i (List.mem_range.mpr hk)
        omega
      · show (leftAf js way).getD i 0 = 0
        rw [List.getD_eq_getElem?_getD, List.getElem?_eq_none (by rw [leftAf_len]; omega)]
        rfl
  · rw [if_neg q, if_neg q]
/-! ### the ways that are handed in -/
def pbCell (ns : List Int) (k : Nat) : Int := if 12 ≤ (k : Int) then (cellAt ns 3 + (k : Int)) * 48271 % 2147483647 else cellAt ns (4 + (k : Int))
def pbPlace (ns : List Int) (count : Int) (k : Nat) : Int := if count ≤ (k : Int) then pbCell ns k / 12 % count else (k : Int)
def pbBegin (ns : List Int) (wide t : Int) (k : Nat) : Int := t + pbCell ns k % 3 * wide
def pbEnd (ns : List Int) (wide t : Int) (k : Nat) : Int := pbBegin ns wide t k + (1 + pbCell ns k / 3 % 4) * wide
def pbUp (ns : List Int) (count wide : Int) : Nat → List Piece × Int
  | 0 => ([], 0)
  | k + 1 => ((pbUp ns count wide k).1 ++ [(pbPlace ns count k, pbBegin ns wide (pbUp ns count wide k).2 k, pbEnd ns wide (pbUp ns count wide k).2 k)], pbEnd ns wide (pbUp ns count wide k).2 k)
structure PbInv (count : Int) (n : Nat) (s : List Piece × Int) : Prop where
  len : s.1.length = n
  t0 : 0 ≤ s.2
  pw : s.1.Pairwise fun p q => p.2.2 ≤ q.2.1
  all : ∀ p ∈ s.1, 0 ≤ p.1 ∧ p.1 < count ∧ 0 ≤ p.2.1 ∧ p.2.1 < p.2.2 ∧ p.2.2 ≤ s.2
  own : ∀ k : Nat, k < n → (k : Int) < count → ∃ p ∈ s.1, p.1 = (k : Int)
theorem pb_inv (ns : List Int) {count wide : Int} (hc : 0 < count) (hw : 1 ≤ wide) : ∀ n, PbInv count n (pbUp ns count wide n)
  | 0 => ⟨rfl, Int.le_refl _, List.Pairwise.nil, fun p hp => (List.not_mem_nil hp).elim, fun k hk => absurd hk (Nat.not_lt_zero k)⟩
  | n + 1 => by
    obtain ⟨h1, h2, h3, h4, h5⟩ := pb_inv ns hc hw n
    have b0 : (0 : Int) ≤ pbCell ns n % 3 * wide := Int.mul_nonneg (by omega) (by omega)
    have b1 : (0 : Int) < (1 + pbCell ns n / 3 % 4) * wide := Int.mul_pos (by omega) (by omega)
    have b2 : 0 ≤ pbPlace ns count n ∧ pbPlace ns count n < count := by
      unfold pbPlace
      by_cases q : count ≤ (n : Int)
      · rw [if_pos q]
        exact ⟨Int.emod_nonneg _ (by omega), Int.emod_lt_of_pos _ hc⟩
      · rw [if_neg q]
        omega
    have b3 : pbBegin ns wide (pbUp ns count wide n).2 n = (pbUp ns count wide n).2 + pbCell ns n % 3 * wide := rfl
    have b4 : pbEnd ns wide (pbUp ns count wide n).2 n = pbBegin ns wide (pbUp ns count wide n).2 n + (1 + pbCell ns n / 3 % 4) * wide := rfl
    have e : pbUp ns count wide (n + 1) = ((pbUp ns count wide n).1 ++ [(pbPlace ns count n, pbBegin ns wide (pbUp ns count wide n).2 n, pbEnd ns wide (pbUp ns count wide n).2 n)], pbEnd ns wide (pbUp ns count wide n).2 n) := rfl
    rw [e]
    have hpl : (n : Int) < count → pbPlace ns count n = (n : Int) := fun z => by
      unfold pbPlace
      rw [if_neg (by omega)]
    generalize pbUp ns count wide n = s at *
    refine ⟨by rw [List.length_append, h1]; rfl, by show 0 ≤ pbEnd ns wide s.2 n; omega, ?_, fun p hp => ?_, fun k hk hkc => ?_⟩
    · show (s.1 ++ [_]).Pairwise _
      rw [List.pairwise_append]
      refine ⟨h3, List.pairwise_singleton _ _, fun a ha b hb => ?_⟩
      rw [List.mem_singleton.mp hb]
      have := h4 a ha
      show a.2.2 ≤ pbBegin ns wide s.2 n
      omega
    · have hp : p ∈ s.1 ++ [(pbPlace ns count n, pbBegin ns wide s.2 n, pbEnd ns wide s.2 n)] := hp
      show _ ∧ _ ∧ _ ∧ _ ∧ p.2.2 ≤ pbEnd ns wide s.2 n
      rcases List.mem_append.mp hp with hp | hp
      · have := h4 p hp
        omega
      · rw [List.mem_singleton.mp hp]
        dsimp only
        omega
    · by_cases z : k < n
      · obtain ⟨p, hp, e2⟩ := h5 k z hkc
        exact ⟨p, List.mem_append_left _ hp, e2⟩
      · have : k = n := by omega
        subst this
        exact ⟨_, List.mem_append_right _ List.mem_cons_self, hpl hkc⟩
abbrev P0 : Piece := (0, 0, 1)
def ownOf (ps : List Piece) (k : Nat) : List Piece := ps.filter fun p => decide (p.1 = (k : Int))
def jobOf (ps : List Piece) (cell wide : Int) (k : Nat) : Job := (max 0 (((ownOf ps k).headD P0).2.1 - (cell + (k : Int)) % 3 * wide), sumOf ps k, ((ownOf ps k).getLastD P0).2.2 + (cell / 3 + (k : Int)) % 3 * wide)
def jobsOf (ps : List Piece) (cell wide : Int) (n : Nat) : List Job := (List.range n).map (jobOf ps cell wide)
theorem sum_pos : ∀ l : List Int, (∀ x ∈ l, 1 ≤ x) → 0 ≤ l.sum ∧ (l ≠ [] → 1 ≤ l.sum)
  | [], _ => ⟨Int.le_refl _, fun h => absurd rfl h⟩
  | a :: l, h => by
    have := (sum_pos l fun x hx => h x (List.mem_cons_of_mem _ hx)).1
    have := h a List.mem_cons_self
    rw [List.sum_cons]
    exact ⟨by omega, fun _ => by omega⟩
theorem own_ne {count : Int} {n : Nat} {s : List Piece × Int} (h : PbInv count n s) {k : Nat} (hk : k < n) (hc : (k : Int) < count) : ownOf s.1 k ≠ [] := fun e => by
  obtain ⟨p, hp, e2⟩ := h.own k hk hc
  have : p ∈ ownOf s.1 k := List.mem_filter.mpr ⟨hp, decide_eq_true e2⟩
  rw [e] at this
  cases this
theorem head_last {l : List Piece} (h : l ≠ []) (pw : l.Pairwise fun p q => p.2.2 ≤ q.2.1) (ha : ∀ p ∈ l, 0 ≤ p.2.1 ∧ p.2.1 < p.2.2) : 0 ≤ (l.headD P0).2.1 ∧ (l.headD P0).2.1 < (l.getLastD P0).2.2 := by
  cases l with
  | nil => exact absurd rfl h
  | cons a r =>
    have h1 := ha a List.mem_cons_self
    refine ⟨h1.1, ?_⟩
    show a.2.1 < ((a :: r).getLastD P0).2.2
    rcases List.eq_nil_or_concat r with e | ⟨r', b, e⟩
    · subst e
      exact h1.2
    · rw [List.concat_eq_append] at e
      subst e
      have hb : ((a :: (r' ++ [b])).getLastD P0) = b := by
        rw [List.getLastD_eq_getLast?, ← List.cons_append, List.getLast?_concat]
        rfl
      rw [hb]
      have := (List.pairwise_cons.mp pw).1 b (List.mem_append_right _ List.mem_cons_self)
      have := ha b (List.mem_cons_of_mem _ (List.mem_append_right _ List.mem_cons_self))
      omega
theorem jobsOf_snd {count cell wide : Int} {n : Nat} {s : List Piece × Int} (h : PbInv count n s) (hn : count.toNat ≤ n) (hw : 1 ≤ wide) : AllS (jobsOf s.1 cell wide count.toNat) := fun j hj => by
  obtain ⟨k, hk, rfl⟩ := List.mem_map.mp hj
  have hk := List.mem_range.mp hk
  have hne := own_ne h (k := k) (by omega) (by omega)
  have hsub : ∀ p ∈ ownOf s.1 k, p ∈ s.1 := fun p hp => (List.mem_filter.mp hp).1
  obtain ⟨a1, a2⟩ := head_last hne (List.Pairwise.filter _ h.pw) fun p hp => by have := h.all p (hsub p hp); omega
  have b1 : (0 : Int) ≤ (cell + (k : Int)) % 3 * wide := Int.mul_nonneg (by omega) (by omega)
  have b2 : (0 : Int) ≤ (cell / 3 + (k : Int)) % 3 * wide := Int.mul_nonneg (by omega) (by omega)
  have b3 : 1 ≤ sumOf s.1 k := by
    refine (sum_pos _ fun x hx => ?_).2 ?_
    · obtain ⟨p, hp, rfl⟩ := List.mem_map.mp hx
      have := h.all p (hsub p hp)
      omega
    · intro e
      exact hne (List.map_eq_nil_iff.mp e)
  unfold jobOf
  refine ⟨by dsimp only; omega, b3, ?_⟩
  dsimp only
  omega
theorem jobsOf_len (ps : List Piece) (cell wide : Int) (n : Nat) : (jobsOf ps cell wide n).length = n := by
  unfold jobsOf
  rw [List.length_map, List.length_range]
/-- one piece off -/
def spOthers (count cell : Int) (p : Piece) : List Piece :=
  [(p.1, p.2.1 + 1, p.2.2), (p.1, p.2.1 - 1, p.2.2), (p.1, p.2.1, p.2.2 + 1), (p.1, p.2.1, p.2.2 - 1), (if cell / 81 % 2 = 0 then (p.1 + cell / 162) % (count + 2) - 1 else p.1 - count, p.2.1, p.2.2), (p.1, p.2.1 + 1, p.2.2 + 1)]
def spoilt (ps : List Piece) (cell count : Int) : List Piece :=
  let n := (cell / 9 % ps.length).toNat
  let p := ps.getD n P0
  if cell % 9 < 6 then ps.take n ++ [(spOthers count cell p).getD (cell % 9).toNat P0] ++ ps.drop (n + 1)
  else if cell % 9 = 6 then ps.take n ++ ps.drop (n + 1)
  else if cell % 9 = 7 then ps.take n ++ [p, (p.1, p.2.2, p.2.2)] ++ ps.drop (n + 1)
  else [p] ++ ps.take n ++ ps.drop (n + 1)
/-- one job off -/
def offOthers (j : Job) : List Job :=
  [(j.1 + 1, j.2.1, j.2.2 + 1), (j.1, j.2.1 + 1, j.2.2), (j.1, max 1 (j.2.1 - 1), j.2.2), (j.1, j.2.1, max (j.1 + 1) (j.2.2 - 1)), (j.1, j.2.1, max (j.1 + 1) (j.2.2 - 2))]
def jobOff (js : List Job) (cell : Int) : List Job :=
  js.set (cell / 5 % js.length).toNat ((offOthers (jAt js (cell / 5 % js.length).toNat)).getD (cell % 5).toNat J0)
theorem off_snd {j x : Job} (h : Snd j) (hx : x ∈ offOthers j) : Snd x := by
  obtain ⟨h1, h2, h3⟩ := h
  unfold offOthers at hx
  simp only [List.mem_cons, List.not_mem_nil, or_false] at hx
  rcases hx with e | e | e | e | e <;> subst e <;> refine ⟨?_, ?_, ?_⟩ <;> dsimp only <;> omega
theorem jobOff_snd {js : List Job} {cell : Int} (hs : AllS js) (hn : js ≠ []) : AllS (jobOff js cell) := fun j hj => by
  have hl : 0 < js.length := List.length_pos_iff.mpr hn
  have a0 : 0 ≤ cell / 5 % (js.length : Int) := Int.emod_nonneg _ (by omega)
  have a1 : cell / 5 % (js.length : Int) < js.length := Int.emod_lt_of_pos _ (by omega)
  rcases List.mem_or_eq_of_mem_set hj with h | h
  · exact hs j h
  · have hm : (offOthers (jAt js (cell / 5 % js.length).toNat)).getD (cell % 5).toNat J0 ∈ offOthers (jAt js (cell / 5 % js.length).toNat) := by
      have hlen : (offOthers (jAt js (cell / 5 % js.length).toNat)).length = 5 := rfl
      exact List.mem_of_getElem? (getD_some (by rw [hlen]; omega))
    rw [h]
    exact off_snd (hs _ (jAt_mem (by omega))) hm
theorem jobOff_len (js : List Job) (cell : Int) : (jobOff js cell).length = js.length := List.length_set
theorem enum_range (js : List Job) : ((jobsL js).mapIdx fun (k : Nat) x => PyData.tuple [.int (k : Int), x]) = (List.range js.length).map fun k => .tuple [.int (k : Int), jobD (jAt js k)] := by
  refine List.ext_getElem? fun i => ?_
  rw [List.getElem?_mapIdx, List.getElem?_map, List.getElem?_map]
  by_cases q : i < js.length
  · rw [getD_some (d := J0) q, List.getElem?_range q]
    rfl
  · rw [List.getElem?_eq_none (by omega), List.getElem?_eq_none (by rw [List.length_range]; omega)]
    rfl
theorem take_drop_len {α : Type} (l : List α) (n : Nat) : (l.take n).length + (l.drop (n + 1)).length ≤ l.length := by
  rw [List.length_take, List.length_drop]
  omega
theorem spoilt_len (ps : List Piece) (cell count : Int) : (spoilt ps cell count).length ≤ ps.length + 2 := by
  unfold spoilt
  have h := take_drop_len ps (cell / 9 % ps.length).toNat
  dsimp only
  split
  · simp only [List.length_append, List.length_cons, List.length_nil]
    omega
  · split
    · simp only [List.length_append]
      omega
    · split
      · simp only [List.length_append, List.length_cons, List.length_nil]
        omega
      · simp only [List.length_append, List.length_cons, List.length_nil]
        omega
end DL

namespace DL
open PySem L2
/-! ### refusals -/
/-- where the classes stand -/
class EK where
  (RunError BadJob TooMany OutOfPlace NoRow : Addr)
/-- what the written part says of a class of errors -/
structure ExF (K : PySem.W.Frag) (mg : Str → Option Value) (x : Str) (C : Addr) : Prop where
  g : mg x = some (.ref C)
  x : PySem.W.excIn K C [.type "ValueError", .type "Exception", .type "BaseException", .type "object"] "ValueError.__new__" = true
  k : PySem.W.keepIn K (.ref C) = true
  b : PySem.W.subIn K (.ref C) (.type "BaseException") = some true
  t : PySem.W.typeIn K (.ref C) = some (.type "type")
theorem exm_of {K : PySem.W.Frag} {A B : Addr} {b : Bool} (h1 : PySem.W.subIn K (.ref B) (.type "BaseException") = some true) (h2 : PySem.W.isClsIn K B = true) (h3 : PySem.W.typeIn K (.ref B) = some (.type "type")) (h4 : PySem.W.subIn K (.ref A) (.ref B) = some b) :
    PySem.W.exmOne K (.ref A) (.ref B) = some b := by
  have e1 : (PySem.W.subIn K (.ref B) (.type "BaseException") == some true) = true := by rw [h1] <;> rfl
  have e2 : ((PySem.W.clsIn K B).isSome && PySem.W.typeIn K (.ref B) == some (.type "type")) = true := by
    have h2' : (PySem.W.clsIn K B).isSome = true := h2
    rw [h2', h3] <;> rfl
  show (if (PySem.W.subIn K (.ref B) (.type "BaseException") == some true) = true then (if ((PySem.W.clsIn K B).isSome && PySem.W.typeIn K (.ref B) == some (.type "type")) = true then PySem.W.subIn K (.ref A) (.ref B) else none) else none) = some b
  rw [if_pos e1, if_pos e2]
  exact h4
/-- a def that may refuse, called by its name -/
structure CalX (P : Program) (w : World) (K : PySem.W.Frag) (mg : Str → Option Value) (base : Heap) (k : Nat) (x : Str) (ps : List Str) (R : List PyData → Ro → Prop) : Prop where
  ex : ∃ f fd, FnOk P w K mg base (L2.CX P w) k f fd ps (@SpR ⟨K⟩ R) ∧ mg x = some (.ref f) ∧ PySem.W.keepIn K (.ref f) = true ∧ Binds K fd ps []
theorem calX_of {P : Program} {w : World} {K : PySem.W.Frag} {mg : Str → Option Value} {base : Heap} {k : Nat} {x : Str} {ps : List Str} {R : List PyData → Ro → Prop} {f : Addr} {fd : FuncData}
    (F : FnOk P w K mg base (L2.CX P w) k f fd ps (@SpR ⟨K⟩ R)) (hm : mg x = some (.ref f)) (hk : PySem.W.keepIn K (.ref f) = true) (hb : Binds K fd ps []) : CalX P w K mg base k x ps R := ⟨f, fd, F, hm, hk, hb⟩
section
variable {X : Cx} {k : Nat} {x : Str} {ps : List Str} {R : List PyData → Ro → Prop} {e : Expr} {es : List Expr} {t : TA} {p pos : Pos} {K : PySem.W.Frag}
theorem CalX.pe {E : XK} (C : CalX X.prog X.w K X.mg X.base k x ps R) (hr : Room k X.A) (hg : Gl X x) (hx : Passes (L2.CX X.prog X.w) X E) (ha : PA X (e :: es) t) (hK : X.K = K := by rfl) (hdb : (x == ("__debug__" : Str)) = false := by decide) (he : starEach (e :: es) X.env = (false, eval e X.env) :: starEach es X.env := by rfl) (hpl : (backTo pos (starEach es X.env)).any (·.1) = false := by rfl) :
    PE X (.Call (.Name x p) (e :: es) [] pos) (tCall (@SpR ⟨K⟩ R) [] E t) := by
  subst hK
  obtain ⟨f, fd, F, hm, hk, hb⟩ := C.ex
  exact pe_call F hr hg hm hk hb .nil hx ha hdb he hpl
theorem CalX.peS {W : WX} (C : CalX X.prog X.w K X.mg X.base k x ps R) (hr : Room k X.A) (hg : Gl X x) (tk : Takes X W) (ha : PA X (e :: es) t) (hK : X.K = K := by rfl) (hdb : (x == ("__debug__" : Str)) = false := by decide) (he : starEach (e :: es) X.env = (false, eval e X.env) :: starEach es X.env := by rfl) (hpl : (backTo pos (starEach es X.env)).any (·.1) = false := by rfl) :
    PE X (.Call (.Name x p) (e :: es) [] pos) (tCallS (@SpR ⟨K⟩ R) (WE W) t) := by
  subst hK
  obtain ⟨f, fd, F, hm, hk, hb⟩ := C.ex
  exact pe_callS F hr hg hm hk hb (fun σ => passAt tk σ) ha hdb he hpl
theorem ps_raiseE {m : Str} {j : Nat} {p2 pos' : Pos} {W : WX} {C : Addr} (hc : X.calm = true) (tk : Takes X W) (h : ExF K X.mg x C) (hg : Gl X x) (hK : X.K = K := by rfl) (hdb : (x == ("__debug__" : Str)) = false := by decide) :
    PS X (.Raise (some (.Call (.Name x p) [.Constant (.str m) j p2] [] pos)) none pos') (fun _ σ H => W (.ref C) none σ H) := by
  subst hK
  exact ps_raise hc tk (pmk_own PySem.F.excBase_ValueError h.x h.g h.k (raises_own h.b h.t) hg hdb)
end
section
variable [KK] {E : XK} {S : DSt} {ta : TA} {ds : List PyData} {o : Ou} {u : TS}
theorem x_raise {C : Addr} : DX E (fun _ σ H => E (.ref C) none H) S (.rt (.ex C)) := fun D H σ rl k => k H Gm_le
/-- a call that refuses -/
def Rz (E : XK) (te : TE) (S : DSt) (C : Addr) : Prop := ∀ H σ, Rl H σ S → (∀ H', Same (Gm σ S H) H' → E (.ref C) none H') → ∀ Q, te σ H Q
theorem z_call {R : List PyData → Ro → Prop} {C : Addr} (h : Ea ta S ds) (hR : R ds (.ex C)) : Rz E (tCall (SpR R) [] E ta) S C := fun H σ rl k Q => h H σ rl _ fun vs H1 e1 q1 =>
  ⟨ds, .ex C, by rw [List.append_nil]; exact q1, hR, fun H' e2 => k H' (Gm_le.trans (e1.trans e2))⟩
theorem z_callR {α : Type} {args : α → List PyData} {pre : α → Prop} {res : α → Ro} {C : Addr} (x : α) (h : Ea ta S ds) (hx : ds = args x) (hp : pre x) (hr : res x = .ex C) : Rz E (tCall (SpR (Rf args pre res)) [] E ta) S C := z_call h ⟨x, hp, hx, hr.symm⟩
theorem z_drop {te : TE} {C : Addr} (h : Rz E te S C) : DX E (tDrop te) S (.rt (.ex C)) := fun D H σ rl k => h H σ rl (fun H' e => k H' e) _
theorem z_asg {te : TE} {C : Addr} {g : TG} (h : Rz E te S C) : DX E (tAsg te g) S (.rt (.ex C)) := fun D H σ rl k => h H σ rl (fun H' e => k H' e) _
theorem z_ret {te : TE} {C : Addr} (h : Rz E te S C) : DX E (tRet te) S (.rt (.ex C)) := fun D H σ rl k => h H σ rl (fun H' e => k H' e) _
/-! try, clause by clause -/
/-- what is done with a refusal of class C by the clauses l -/
def Caught (E : XK) (K : PySem.W.Frag) (S : DSt) (C : Addr) (o : Ou) : List (Value × (Addr → Value → Option Addr → TS)) → Prop
  | [] => False
  | (c, ts) :: r => (PySem.W.exmOne K (.ref C) c = some true ∧ ∀ a, DX E (ts a (.ref C) none) S o) ∨ (PySem.W.exmOne K (.ref C) c = some false ∧ Caught E K S C o r)
theorem caught_W {K : PySem.W.Frag} {C : Addr} {Wout : WX} {D : Ends} {σ : St} {H : Hp} {G : Hp} (rl : Rl H σ S) (k : Fin E D G o) (e : Same G (Gm σ S H)) : ∀ l, Caught E K S C o l → wMany K Wout D l (.ref C) none σ H
  | (c, ts) :: r, h => by
    rcases h with ⟨h1, h2⟩ | ⟨h1, h2⟩
    · exact ⟨true, h1, fun _ a _ => h2 a D H σ rl (k.up e), fun z => nomatch z⟩
    · exact ⟨false, h1, (fun z => nomatch z), fun _ => caught_W rl k e r h2⟩
theorem t_tryX {R : List PyData → Ro → Prop} {K : PySem.W.Frag} {C : Addr} {Wout : WX} {l : List (Value × (Addr → Value → Option Addr → TS))} (h : Ea ta S ds) (hR : R ds (.ex C)) (hc : Caught E K S C o l) :
    DX E (fun D σ H => (fun W : WX => tDrop (tCallS (SpR R) (WE W) ta)) (wMany K Wout D l) D σ H) S o := fun D H σ rl k => h H σ rl _ fun vs H1 e1 q1 =>
  ⟨ds, .ex C, q1, hR, fun H' e2 => by
    have e := e1.trans e2
    exact caught_W (rl.mono e) k (Gm_mono e) l hc⟩
theorem t_tryN {R : List PyData → Ro → Prop} {K : PySem.W.Frag} {Wout : WX} {d : PyData} {l : List (Value × (Addr → Value → Option Addr → TS))} (h : Ea ta S ds) (hR : R ds (.va d)) :
    DX E (fun D σ H => (fun W : WX => tDrop (tCallS (SpR R) (WE W) ta)) (wMany K Wout D l) D σ H) S (.nx S) := fun D H σ rl k => h H σ rl _ fun vs H1 e1 q1 =>
  ⟨ds, .va d, q1, hR, fun v H' e2 _ => k σ H' (rl.mono (e1.trans e2)) (Gm_mono (e1.trans e2))⟩
end
end DL

namespace DL
open PySem L2
/-! ### room for one job more -/
def loadP (js : List Job) (a b : Int) : Int := ((js.filter fun j => decide (a ≤ j.1) && decide (j.2.2 ≤ b)).map fun j => j.2.1).sum
theorem span_sum {js : List Job} {b e : Int} : ∀ ps : List Piece, GoodAll js ps → (∀ p ∈ ps, (jAt js p.1.toNat).1 ≤ p.2.1 ∧ p.2.2 ≤ (jAt js p.1.toNat).2.2) →
    (ps.map fun p => if (decide (b ≤ (jAt js p.1.toNat).1) && decide ((jAt js p.1.toNat).2.2 ≤ e)) = true then p.2.2 - p.2.1 else 0).sum ≤ max 0 (min (lastE ps) e - b) := by
  refine snoc_ind ?_ ?_
  · intro _ _
    show (0 : Int) ≤ _
    omega
  · intro ps p ih hg h
    obtain ⟨g1, c⟩ := good_snoc.mp hg
    have ih := ih g1 fun q hq => h q (List.mem_append_left _ hq)
    obtain ⟨h1, h2⟩ := h p (List.mem_append_right _ List.mem_cons_self)
    rw [List.map_append, List.sum_append, List.map_cons, List.sum_cons, lastE_snoc]
    show _ + (_ + (0 : Int)) ≤ _
    have tb := c.tb
    have be := c.be
    by_cases q : (decide (b ≤ (jAt js p.1.toNat).1) && decide ((jAt js p.1.toNat).2.2 ≤ e)) = true
    · rw [if_pos q]
      rw [Bool.and_eq_true, decide_eq_true_eq, decide_eq_true_eq] at q
      omega
    · rw [if_neg q]
      omega
/-- where a plan is, no stretch asks for more than it has -/
theorem load_span {js : List Job} (hs : AllS js) (hl : lateF js (endsF js) = []) {b e : Int} (h : b ≤ e) : loadP js b e ≤ e - b := by
  have rn := ran hs
  have hf := plan_fits hs hl
  have := span_sum (b := b) (e := e) _ rn.good fun p hp => by
    obtain ⟨i, hi, e⟩ := List.getElem_of_mem hp
    obtain ⟨_, _, _, _, c5, c6⟩ := hf.1 i p (by rw [List.getElem?_eq_getElem hi, e])
    exact ⟨c5, c6⟩
  unfold loadP
  rw [sel_ran rn]
  omega
theorem load_mono {js : List Job} {a b a' b' : Int} (h : ∀ j ∈ js, 0 ≤ j.2.1 ∧ (a ≤ j.1 → j.2.2 ≤ b → a' ≤ j.1 ∧ j.2.2 ≤ b')) : loadP js a b ≤ loadP js a' b' := by
  unfold loadP
  induction js with
  | nil => exact Int.le_refl _
  | cons j r ih =>
    have ih := ih fun x hx => h x (List.mem_cons_of_mem _ hx)
    obtain ⟨h1, h2⟩ := h j List.mem_cons_self
    by_cases q : (decide (a ≤ j.1) && decide (j.2.2 ≤ b)) = true
    · have q' := q
      rw [Bool.and_eq_true, decide_eq_true_eq, decide_eq_true_eq] at q'
      obtain ⟨h3, h4⟩ := h2 q'.1 q'.2
      rw [List.filter_cons_of_pos (by exact q), List.filter_cons_of_pos (by rw [decide_eq_true h3, decide_eq_true h4]; rfl), List.map_cons, List.map_cons, List.sum_cons, List.sum_cons]
      omega
    · rw [List.filter_cons_of_neg (by exact q)]
      by_cases q2 : (decide (a' ≤ j.1) && decide (j.2.2 ≤ b')) = true
      · rw [List.filter_cons_of_pos (by exact q2), List.map_cons, List.sum_cons]
        omega
      · rw [List.filter_cons_of_neg (by exact q2)]
        exact ih
def withF (js : List Job) (k : Nat) (j : Job) : List Job := js.take k ++ [j] ++ js.drop k
theorem load_with {js : List Job} {k : Nat} {j : Job} {a b : Int} : loadP (withF js k j) a b = loadP js a b + (if a ≤ j.1 ∧ j.2.2 ≤ b then j.2.1 else 0) := by
  have e : loadP js a b = loadP (js.take k) a b + loadP (js.drop k) a b := by
    unfold loadP
    rw [← List.sum_append, ← List.map_append, ← List.filter_append, List.take_append_drop]
  rw [e]
  unfold withF loadP
  rw [List.filter_append, List.filter_append, List.map_append, List.map_append, List.sum_append, List.sum_append]
  by_cases q : a ≤ j.1 ∧ j.2.2 ≤ b
  · rw [if_pos q, List.filter_cons_of_pos (by rw [decide_eq_true q.1, decide_eq_true q.2]; rfl)]
    show _ + (j.2.1 + 0) + _ = _
    omega
  · rw [if_neg q, List.filter_cons_of_neg (by rw [← Bool.decide_and]; simpa using q)]
    show _ + 0 + _ = _
    omega
theorem with_snd {js : List Job} {k : Nat} {j : Job} (hs : AllS js) (h : Snd j) : AllS (withF js k j) := fun x hx => by
  unfold withF at hx
  rcases List.mem_append.mp hx with hx | hx
  · rcases List.mem_append.mp hx with hx | hx
    · exact hs x (List.mem_of_mem_take hx)
    · rw [List.mem_singleton.mp hx]
      exact h
  · exact hs x (List.mem_of_mem_drop hx)
theorem with_len (js : List Job) (k : Nat) (j : Job) : (withF js k j).length = js.length + 1 := by
  unfold withF
  rw [List.length_append, List.length_append, List.length_take, List.length_drop, List.length_singleton]
  omega
/-! the least of what is left -/
def roomIn (js : List Job) (b : Int) (es : List Int) (m : Int) : Int := es.foldl (fun m e => min m (e - b - loadP js b e)) m
def roomAll (js : List Job) (bs es : List Int) (m : Int) : Int := bs.foldl (fun m b => roomIn js b es m) m
def beginsF (js : List Job) (a : Int) : List Int := a :: (js.filter fun j => decide (j.1 < a)).map fun j => j.1
def stopsF (js : List Job) (d : Int) : List Int := d :: (js.filter fun j => decide (d < j.2.2)).map fun j => j.2.2
def roomF (js : List Job) (a d : Int) : Int := roomAll js (beginsF js a) (stopsF js d) (d - a)
theorem roomIn_spec (js : List Job) (b : Int) : ∀ (es : List Int) (m : Int), roomIn js b es m ≤ m ∧ (∀ e ∈ es, roomIn js b es m ≤ e - b - loadP js b e) ∧ (roomIn js b es m = m ∨ ∃ e ∈ es, roomIn js b es m = e - b - loadP js b e)
  | [], m => ⟨Int.le_refl _, fun e h => (List.not_mem_nil h).elim, .inl rfl⟩
  | e :: es, m => by
    obtain ⟨h1, h2, h3⟩ := roomIn_spec js b es (min m (e - b - loadP js b e))
    have hd : roomIn js b (e :: es) m = roomIn js b es (min m (e - b - loadP js b e)) := rfl
    rw [hd]
    refine ⟨by omega, fun x hx => ?_, ?_⟩
    · rcases List.mem_cons.mp hx with z | z
      · rw [z]
        omega
      · exact h2 x z
    · rcases h3 with h3 | ⟨x, hx, h3⟩
      · by_cases q : m ≤ e - b - loadP js b e
        · exact .inl (by omega)
        · exact .inr ⟨e, List.mem_cons_self, by omega⟩
      · exact .inr ⟨x, List.mem_cons_of_mem _ hx, h3⟩
theorem roomAll_spec (js : List Job) (es : List Int) : ∀ (bs : List Int) (m : Int), roomAll js bs es m ≤ m ∧ (∀ b ∈ bs, ∀ e ∈ es, roomAll js bs es m ≤ e - b - loadP js b e) ∧ (roomAll js bs es m = m ∨ ∃ b ∈ bs, ∃ e ∈ es, roomAll js bs es m = e - b - loadP js b e)
  | [], m => ⟨Int.le_refl _, fun e h => (List.not_mem_nil h).elim, .inl rfl⟩
  | b :: bs, m => by
    obtain ⟨h1, h2, h3⟩ := roomAll_spec js es bs (roomIn js b es m)
    obtain ⟨g1, g2, g3⟩ := roomIn_spec js b es m
    have hd : roomAll js (b :: bs) es m = roomAll js bs es (roomIn js b es m) := rfl
    rw [hd]
    refine ⟨by omega, fun x hx e he => ?_, ?_⟩
    · rcases List.mem_cons.mp hx with z | z
      · rw [z]
        have := g2 e he
        omega
      · exact h2 x z e he
    · rcases h3 with h3 | ⟨x, hx, e, he, h3⟩
      · rcases g3 with g3 | ⟨e, he, g3⟩
        · exact .inl (by omega)
        · exact .inr ⟨b, List.mem_cons_self, e, he, by omega⟩
      · exact .inr ⟨x, List.mem_cons_of_mem _ hx, e, he, h3⟩
theorem begins_le {js : List Job} {a b : Int} (h : b ∈ beginsF js a) : b ≤ a := by
  rcases List.mem_cons.mp h with e | h
  · omega
  · obtain ⟨j, hj, rfl⟩ := List.mem_map.mp h
    have := of_decide_eq_true (List.mem_filter.mp hj).2
    omega
theorem stops_ge {js : List Job} {d e : Int} (h : e ∈ stopsF js d) : d ≤ e := by
  rcases List.mem_cons.mp h with z | h
  · omega
  · obtain ⟨j, hj, rfl⟩ := List.mem_map.mp h
    have := of_decide_eq_true (List.mem_filter.mp hj).2
    omega
theorem room_pos {js : List Job} (hs : AllS js) (hl : lateF js (endsF js) = []) {a d : Int} (h : a < d) : 0 ≤ roomF js a d ∧ roomF js a d ≤ d - a := by
  obtain ⟨h1, _, h3⟩ := roomAll_spec js (stopsF js d) (beginsF js a) (d - a)
  refine ⟨?_, h1⟩
  rcases h3 with h3 | ⟨b, hb, e, he, h3⟩
  · unfold roomF
    omega
  · have := begins_le hb
    have := stops_ge he
    have := load_span hs hl (b := b) (e := e) (by omega)
    unfold roomF
    omega
/-- the least of a list no less than b -/
theorem least_of {b a : Int} : ∀ l : List Int, b ≤ a → ∃ x, x ∈ a :: l ∧ b ≤ x ∧ x ≤ a ∧ ∀ y ∈ l, b ≤ y → x ≤ y
  | [], h => ⟨a, List.mem_cons_self, h, Int.le_refl _, fun y hy => (List.not_mem_nil hy).elim⟩
  | c :: l, h => by
    obtain ⟨x, h1, h2, h3, h4⟩ := least_of l h
    by_cases q : b ≤ c ∧ c < x
    · refine ⟨c, by simp, q.1, by omega, fun y hy hb => ?_⟩
      rcases List.mem_cons.mp hy with e | hy
      · omega
      · have := h4 y hy hb
        omega
    · refine ⟨x, ?_, h2, h3, fun y hy hb => ?_⟩
      · rcases List.mem_cons.mp h1 with e | h1
        · rw [e]; exact List.mem_cons_self
        · exact List.mem_cons_of_mem _ (List.mem_cons_of_mem _ h1)
      · rcases List.mem_cons.mp hy with e | hy
        · subst e
          omega
        · exact h4 y hy hb
theorem most_of {b a : Int} : ∀ l : List Int, a ≤ b → ∃ x, x ∈ a :: l ∧ x ≤ b ∧ a ≤ x ∧ ∀ y ∈ l, y ≤ b → y ≤ x
  | [], h => ⟨a, List.mem_cons_self, h, Int.le_refl _, fun y hy => (List.not_mem_nil hy).elim⟩
  | c :: l, h => by
    obtain ⟨x, h1, h2, h3, h4⟩ := most_of l h
    by_cases q : c ≤ b ∧ x < c
    · refine ⟨c, by simp, q.1, by omega, fun y hy hb => ?_⟩
      rcases List.mem_cons.mp hy with e | hy
      · omega
      · have := h4 y hy hb
        omega
    · refine ⟨x, ?_, h2, h3, fun y hy hb => ?_⟩
      · rcases List.mem_cons.mp h1 with e | h1
        · rw [e]; exact List.mem_cons_self
        · exact List.mem_cons_of_mem _ (List.mem_cons_of_mem _ h1)
      · rcases List.mem_cons.mp hy with e | hy
        · subst e
          omega
        · exact h4 y hy hb
theorem late_some {js : List Job} (hs : AllS js) (h : lateF js (endsF js) ≠ []) : ∃ k b e, answerD js = .tuple [.str (Str.ofString "late"), .int k, .int b, .int e] ∧ b ≤ e ∧ e - b < loadP js b e := by
  unfold answerD
  cases hlt : lateF js (endsF js) with
  | nil => exact absurd hlt h
  | cons k r =>
    have h0 : (lateF js (endsF js))[0]? = some k := by rw [hlt]; rfl
    obtain ⟨m, rfl, hm, hl, _⟩ := lateF_at h0
    have ed : dueF js (m : Int) = (jAt js m).2.2 := by unfold dueF; rw [Int.toNat_natCast]
    dsimp only
    rw [ed]
    obtain ⟨_, _, _, h4, _, h6⟩ := late_much hs hm hl
    rw [Int.toNat_natCast] at h4
    have := (hs _ (jAt_mem hm)).2.2
    exact ⟨_, _, _, rfl, by omega, h6⟩
theorem room_fits {js : List Job} (hs : AllS js) (hl : lateF js (endsF js) = []) {a d : Int} {k : Nat} (ha : 0 ≤ a) (h : a < d) (hr : 0 < roomF js a d) : lateF (withF js k (a, roomF js a d, d)) (endsF (withF js k (a, roomF js a d, d))) = [] := by
  have hs' : AllS (withF js k (a, roomF js a d, d)) := with_snd hs ⟨ha, by show 1 ≤ roomF js a d; omega, h⟩
  by_cases z : lateF (withF js k (a, roomF js a d, d)) (endsF (withF js k (a, roomF js a d, d))) = []
  · exact z
  · exfalso
    obtain ⟨_, b, e, _, h1, h2⟩ := late_some hs' z
    rw [load_with] at h2
    have hsp := load_span hs hl h1
    by_cases q : b ≤ a ∧ d ≤ e
    · rw [if_pos q] at h2
      obtain ⟨b', m1, m2, m3, m4⟩ := least_of ((js.filter fun j => decide (j.1 < a)).map fun j => j.1) q.1
      obtain ⟨e', n1, n2, n3, n4⟩ := most_of ((js.filter fun j => decide (d < j.2.2)).map fun j => j.2.2) q.2
      have hm : loadP js b e ≤ loadP js b' e' := load_mono fun j hj => ⟨by have := (hs j hj).2.1; omega, fun g1 g2 => by
        constructor
        · by_cases c : j.1 < a
          · exact m4 _ (List.mem_map.mpr ⟨j, List.mem_filter.mpr ⟨hj, decide_eq_true c⟩, rfl⟩) g1
          · omega
        · by_cases c : d < j.2.2
          · exact n4 _ (List.mem_map.mpr ⟨j, List.mem_filter.mpr ⟨hj, decide_eq_true c⟩, rfl⟩) g2
          · omega⟩
      have := (roomAll_spec js (stopsF js d) (beginsF js a) (d - a)).2.1 b' m1 e' n1
      have this : roomF js a d ≤ e' - b' - loadP js b' e' := this
      have h2 : e - b < loadP js b e + roomF js a d := h2
      omega
    · rw [if_neg q] at h2
      omega
theorem room_most {js : List Job} (hs : AllS js) (hl : lateF js (endsF js) = []) {a d : Int} {k : Nat} (ha : 0 ≤ a) (h : a < d) : lateF (withF js k (a, roomF js a d + 1, d)) (endsF (withF js k (a, roomF js a d + 1, d))) ≠ [] := fun z => by
  have h0 := room_pos hs hl h
  have hs' : AllS (withF js k (a, roomF js a d + 1, d)) := with_snd hs ⟨ha, by show 1 ≤ roomF js a d + 1; omega, h⟩
  obtain ⟨_, _, h3⟩ := roomAll_spec js (stopsF js d) (beginsF js a) (d - a)
  have h3 : roomF js a d = d - a ∨ ∃ b ∈ beginsF js a, ∃ e ∈ stopsF js d, roomF js a d = e - b - loadP js b e := h3
  have nn : ∀ b e, 0 ≤ loadP js b e := fun b e => by
    unfold loadP
    have : (((js.filter fun j => decide (b ≤ j.1) && decide (j.2.2 ≤ e)).map fun _ => (0 : Int))).sum ≤ ((js.filter fun j => decide (b ≤ j.1) && decide (j.2.2 ≤ e)).map fun j => j.2.1).sum := sum_le fun j hj => by
      have := (hs j (List.mem_filter.mp hj).1).2.1
      omega
    have e0 : ∀ l : List Job, (l.map fun _ => (0 : Int)).sum = 0 := fun l => by
      induction l with
      | nil => rfl
      | cons x r ih => rw [List.map_cons, List.sum_cons, ih]; rfl
    rw [e0] at this
    exact this
  rcases h3 with h3 | ⟨b, hb, e, he, h3⟩
  · have := load_span hs' z (b := a) (e := d) (by omega)
    rw [load_with, if_pos ⟨Int.le_refl _, Int.le_refl _⟩] at this
    have this : loadP js a d + (roomF js a d + 1) ≤ d - a := this
    have := nn a d
    omega
  · have hb' := begins_le hb
    have he' := stops_ge he
    have := load_span hs' z (b := b) (e := e) (by omega)
    rw [load_with, if_pos ⟨hb', he'⟩] at this
    have this : loadP js b e + (roomF js a d + 1) ≤ e - b := this
    omega
end DL

namespace DL
open PySem L2 PySem.Spec PyProof.Rows
/-! ### try with several clauses, some with names -/
/-- an exception of a body (at a, its class cls, its dict d) has come to rest in X -/
structure Rest (X : Cx) (pins : List (Addr × Obj)) (σ : L2.St) (H : Hp) (a : Addr) (cls : Value) (d : Option Addr) (B : Heap) (sI s : Shared) : Prop where
  I : Inv X pins σ H sI
  nb : ∀ b o, sI.heap.get? b = some o → b ∉ frs X.stack → B.get? b = some o
  up : sI.heap.UpToSlots s.heap
  fl : HandSPX.FlyingZ B (X.env :: X.outer) a (Zc cls d) s.heap
  na : H a = none
  os : s.os = sI.os
  ag : AllBare s.gens
section
variable {X : Cx} {pins : List (Addr × Obj)} {σ : L2.St} {H : Hp} {a : Addr} {cls : Value} {d : Option Addr} {B : Heap} {sI s : Shared}
theorem Rest.suite (R : Rest X pins σ H a cls d B sI s) (hs : X.stack = X.env :: X.outer) (hf : X.env.frame = some X.env.locals) : ∃ (oe : Obj) (vs : Array Value), s.heap.get? a = some oe ∧ Zc cls d oe ∧ oe.data = .fields vs ∧ Inv (X.suite a ((a, oe) :: (X.pn ++ pins))) [] σ H s := by
  obtain ⟨I, nb, up, fl, na, os, ag⟩ := R
  obtain ⟨oe, vs, he, hz, hd⟩ := fl.there
  have J : Inv X pins σ H s := I.landed nb fl.1 up os ag
  have out : a ∉ frs (X.env :: X.outer) := fun hm => by
    obtain ⟨_, o', e', hnf⟩ := fl.2.2.1.mem hm
    rw [he] at e'
    cases e'
    exact hnf _ hd
  have nL : a ≠ X.env.locals := fun z => out (List.mem_filterMap.mpr ⟨X.env, List.mem_cons_self, by rw [hf, z]⟩)
  have nF : a ∉ X.fs := fun hm => by
    obtain ⟨e, hm, q⟩ := List.mem_filterMap.mp hm
    exact out (List.mem_filterMap.mpr ⟨e, List.mem_cons_of_mem _ hm, q⟩)
  exact ⟨oe, vs, he, hz, hd, J.suite he hd na nL nF⟩
theorem Rest.with (R : Rest X pins σ H a cls d B sI s) {h : Heap} (fl : HandSPX.FlyingZ B (X.env :: X.outer) a (Zc cls d) h) (up : s.heap.UpToSlots h) : Rest X pins σ H a cls d B sI { s with heap := h } :=
  ⟨R.I, R.nb, R.up.trans up, fl, R.na, R.os, R.ag⟩
/-- no clause takes it -/
theorem Rest.out (R : Rest X pins σ H a cls d B sI s) (hs : X.stack = X.env :: X.outer) (hf : X.env.frame = some X.env.locals) {Wout : WX} (tk : Takes X Wout) (w : Wout cls d σ H) {D : Ends} :
    wpAny (model X.prog X.w) X.A (handleBy (.ref a) X.env []) (SP X pins D) X.xe s := by
  refine wpAny_handleBy_nil ?_
  obtain ⟨_, _, _, oe, vs, T, oT, ts', he, hz, hd, h1, hr⟩ := id R.fl
  unfold PySem.passOn
  refine wpAny_bind (wpAny_field he hd h1 ?_)
  rw [if_neg (show ¬ ((Value.ref T == Value.none) = true) from by simp)]
  have fin : wpAny (model X.prog X.w) X.A (setFlight (.ref a) X.env.frame) (fun _ s4 => wpAny (model X.prog X.w) X.A (throw (.ref a) : Sem Flow) (SP X pins D) X.xe s4) X.xe s := by
    rw [hf]
    refine HandSPX.setFlight_upZ R.fl fun h4 hh4 up4 => wpAny_throw (tk _ _ ?_)
    exact ⟨a, B, sI, pins, σ, H, cls, d, rfl, R.I, R.nb, R.up.trans up4, .inr (.inr (by rw [hs]; exact hh4)), R.na, R.os, R.ag, w⟩
  first
    | exact wpAny_bind (wpAny_pure (wpAny_bind fin))
    | exact wpAny_bind fin
end
/-- a clause: the class it names, the slot of its name if it has one, its suite -/
abbrev Cl := Value × Option Nat × (Addr → Value → Option Addr → TS)
def endsN (i : Nat) (D : Ends) : Ends := { nx := fun σ' H' => D.nx (σ'.set i none) H', rt := D.rt, bk := fun σ' H' => D.bk (σ'.set i none) H', ct := fun σ' H' => D.ct (σ'.set i none) H' }
def suiteW (D : Ends) (i : Option Nat) (ts : Addr → Value → Option Addr → TS) (cls : Value) (d : Option Addr) (σ : L2.St) (H : Hp) : Prop :=
  ∀ a, H a = none → match i with
    | none => ts a cls d D σ H
    | some i => ts a cls d (endsN i D) (σ.set i (some (.ref a))) H
def wCl (K : PySem.W.Frag) (Wout : WX) (D : Ends) : List Cl → WX
  | [] => Wout
  | (c, i, ts) :: r => fun cls d σ H => ∃ b, PySem.W.exmOne K cls c = some b ∧ (b = true → suiteW D i ts cls d σ H) ∧ (b = false → wCl K Wout D r cls d σ H)
def NameAt (X : Cx) : Option Str → Option Nat → Prop
  | none, none => True
  | some n, some i => X.N[i]? = some n ∧ X.env.kindOf n = some .local
  | _, _ => False
inductive ClsOk (X : Cx) : List ExceptHandler → List Cl → Prop
  | nil : ClsOk X [] []
  | cons {x : Str} {n : Option Str} {i : Option Nat} {c : Value} {ts : Addr → Value → Option Addr → TS} {b₀ : Stmt} {suite : List Stmt} {np pos' : Pos} {hds : List ExceptHandler} {l : List Cl} (hc : Names X x c) (hn : NameAt X n i)
      (hsu : ∀ (a : Addr) (oe : Obj) (cls : Value) (d : Option Addr) (pn : List (Addr × Obj)), Zc cls d oe → (∃ vs, oe.data = .fields vs) → PSs (X.suite a ((a, oe) :: pn)) (b₀ :: suite) (ts a cls d)) (r : ClsOk X hds l) :
      ClsOk X (.ExceptHandler (some (.Name x np)) n (b₀ :: suite) pos' :: hds) ((c, i, ts) :: l)
section
variable {X : Cx} {body : List Stmt} {h₀ : ExceptHandler} {hds : List ExceptHandler} {l : List Cl} {pos : Pos} {tb : WX → TS} {Wout : WX}
theorem cls_run (hs : X.stack = X.env :: X.outer) (hf : X.env.frame = some X.env.locals) (hN : X.N.Nodup) (tk : Takes X Wout) {pins : List (Addr × Obj)} {D : Ends} {a : Addr} {cls : Value} {d : Option Addr} {B : Heap} {sI : Shared} {σ : L2.St} {H : Hp} :
    ∀ {hds : List ExceptHandler} {l : List Cl}, ClsOk X hds l → wCl X.K Wout D l cls d σ H → ∀ s, Rest X pins σ H a cls d B sI s → wpAny (model X.prog X.w) X.A (handleBy (.ref a) X.env hds) (SP X pins D) X.xe s := by
  intro hds l h
  induction h with
  | nil => exact fun w s R => R.out hs hf tk w
  | @cons x n i c ts b₀ suite np pos' hds2 l2 hc hn hsu r ih =>
    intro w s R
    obtain ⟨b, hb1, hyes, hno⟩ := w
    obtain ⟨oe, vs, he, hz, hd, S⟩ := R.suite hs hf
    have ok := R.I.ok
    refine wpAny_handleBy_cons (codeAny_handlers_test ?_) (by intro q; cases q)
    have LM := PySem.W.exm_one (M := model X.prog X.w) (h := s.heap) (S.kIn) (fun A Q E s k q => wpAny_typeOf_ref (k _ _ he) (by rw [hz.1]; exact q)) hb1
    have test : ∀ {Q : Value → Shared → Prop} {E : Value → Shared → Prop}, Q c s → wpAny (model X.prog X.w) (X.A.mark (some (.ref a))) (eval (.Name x np) X.env) Q E s := fun {Q E} q => by
      obtain ⟨hg, hdbg, hm | ⟨hm, hv, hnn⟩⟩ := hc
      · exact ld_glob (X := X.suite a ((a, oe) :: (X.pn ++ pins))) S hg hm q hdbg
      · exact ld_blt (X := X.suite a ((a, oe) :: (X.pn ++ pins))) S hg hm hv q hnn hdbg
    refine test (LM.here ?_)
    cases b with
    | false => exact ih (hno rfl) s R
    | true =>
      have hy := hyes rfl a R.na
      cases n with
      | none =>
        cases i with
        | some i => exact hn.elim
        | none =>
          refine codeAny_handlers_suite (HandSPX.lands_againZ R.fl fun h4 fl4 up4 => ?_)
          obtain ⟨oe4, vs4, he4, hz4, hd4, S4⟩ := (R.with fl4 up4).suite hs hf
          refine wpAny_mono ((hsu a oe4 cls d (X.pn ++ pins) hz4 ⟨_, hd4⟩).run [] _ _ H _ S4 hy) (fun f s6 hsp => ?_) (fun _ _ z => False.elim z)
          cases f with
          | next => exact let ⟨σ6, H6, S6, q6⟩ := hsp; ⟨σ6, H6, S6.unsuite ok, q6⟩
          | brk => exact let ⟨σ6, H6, S6, q6⟩ := hsp; ⟨σ6, H6, S6.unsuite ok, q6⟩
          | cont => exact let ⟨σ6, H6, S6, q6⟩ := hsp; ⟨σ6, H6, S6.unsuite ok, q6⟩
          | ret u => exact let ⟨v6, σ6, H6, S6, r6, q6⟩ := hsp; ⟨v6, σ6, H6, S6.unsuite ok, r6, q6⟩
      | some n =>
        cases i with
        | none => exact hn.elim
        | some i =>
          obtain ⟨hi, hln⟩ := hn
          refine codeAny_handlers_suite_as (HandSPX.lands_againZ R.fl fun h4 fl4 up4 => ?_)
          obtain ⟨oe4, vs4, he4, hz4, hd4, S4⟩ := (R.with fl4 up4).suite hs hf
          refine store_ok (X := X.suite a ((a, oe4) :: (X.pn ++ pins))) (v := .ref a) S4 hN hi (.inl hln) rfl (fun s5 S5 => ?_) (.inr hln)
          refine wpAny_mono ((hsu a oe4 cls d (X.pn ++ pins) hz4 ⟨_, hd4⟩).run [] s5 _ H _ S5 hy) (fun f s6 hsp => ?_) (fun _ _ z => False.elim z)
          cases f with
          | next => exact let ⟨σ6, H6, S6, q6⟩ := hsp; gone_ok (S6.unsuite ok) hN hi hln fun s7 J7 => ⟨_, _, J7, q6⟩
          | brk => exact let ⟨σ6, H6, S6, q6⟩ := hsp; gone_ok (S6.unsuite ok) hN hi hln fun s7 J7 => ⟨_, _, J7, q6⟩
          | cont => exact let ⟨σ6, H6, S6, q6⟩ := hsp; gone_ok (S6.unsuite ok) hN hi hln fun s7 J7 => ⟨_, _, J7, q6⟩
          | ret u => exact let ⟨v6, σ6, H6, S6, r6, q6⟩ := hsp; gone_ok (S6.unsuite ok) hN hi hln fun s7 J7 => ⟨_, _, _, J7, r6, q6⟩
theorem ps_tryC (hs : X.stack = X.env :: X.outer) (hf : X.env.frame = some X.env.locals) (hN : X.N.Nodup) (tk : Takes X Wout)
    (hb : ∀ (W : WX) (pn : List (Addr × Obj)) (xe : Value → Shared → Prop), Takes (X.tr pn xe) W → PassesOwn (model X.prog X.w) X.A X.env xe → PSs (X.tr pn xe) body (tb W))
    (hh : ClsOk X (h₀ :: hds) l) : PS X (.Try body (h₀ :: hds) [] [] pos) (fun D σ H => tb (wCl X.K Wout D l) D σ H) := by
  refine ⟨fun pins s σ H D I h => ?_⟩
  have ok := I.ok
  have hfr : X.A.frames = some (X.env :: X.outer) := by rw [ok.frames, hs]
  have run := (hb (wCl X.K Wout D l) (X.pn ++ pins) (fun e s₁ => wpAny (model X.prog X.w) X.A (noteFrame e X.env) (fun _ s₂ => wpAny (model X.prog X.w) X.A (setFlight e none) (fun _ s₃ =>
    wpAny (model X.prog X.w) X.A (handleBy e X.env (h₀ :: hds)) (SP X pins D) X.xe s₃) X.xe s₂) X.xe s₁) (fun u s' xx => by
      obtain ⟨a, B, sI, pins', σ', H', cls, d, rfl, J', nb, up, sky, na, os, ag, w⟩ := xx
      refine Sky.land Zc.steady hfr hf (by rw [← hs]; exact sky) fun h3 fl3 up3 => ?_
      exact cls_run hs hf hN tk hh w _ ⟨J'.ofTry ok, nb, up.trans up3, fl3, na, os, ag⟩) PassesOwn.looking).run [] s σ H D (I.toTry _) h
  refine wpAny_Try_except (wpAny_mono run (fun f s1 hsp => ?_) (fun e s1 he => he))
  cases f with
  | next => exact let ⟨σ', H', J', q⟩ := hsp; wpAny_execs_nil ⟨σ', H', J'.ofTry ok, q⟩
  | brk => exact let ⟨σ', H', J', q⟩ := hsp; ⟨σ', H', J'.ofTry ok, q⟩
  | cont => exact let ⟨σ', H', J', q⟩ := hsp; ⟨σ', H', J'.ofTry ok, q⟩
  | ret u => exact let ⟨v, σ', H', J', r, q⟩ := hsp; ⟨v, σ', H', J'.ofTry ok, r, q⟩
end
end DL

namespace DL
open PySem L2
section
variable [KK] {E E' : XK} {S : DSt} {ta : TA} {te tb : TE} {ds : List PyData} {o : Ou} {u : TS} {C : Addr} {K : PySem.W.Frag}
theorem z_arg1 {sp : Sp} {dvs : List V} (h : Rz E te S C) : Rz E (tCall sp dvs E' (tCons te ta)) S C := fun H σ rl k Q => h H σ rl k _
theorem z_forL {g : TG} {t : TS} (h : Rz E te S C) : DX E (tFor (iList K te) g t) S (.rt (.ex C)) := fun D H σ rl k => h H σ rl (fun H' e => k H' e) _
theorem z_zip2 {g : TG} {t : TS} {d : PyData} {tx : TE} (h0 : Eb tx S d) (h : Rz E te S C) : DX E (tFor (iZip K (tCons tx (tCons te tNil))) g t) S (.rt (.ex C)) := fun D H σ rl k => h0 H σ rl _ fun v H1 e1 _ => h H1 σ (rl.mono e1) (fun H' e => k H' ((Gm_mono e1).trans e)) _
/-! a list with a thing that is no job, or too long a list -/
def Bad (ds : List PyData) : Prop := ¬ (ds.length ≤ 60 ∧ ∀ d ∈ ds, soundD d = true)
def badC [EK] (ds : List PyData) : Addr := if ds.length ≤ 60 then EK.BadJob else EK.TooMany
theorem good_jobs : ∀ {ds : List PyData}, (∀ d ∈ ds, soundD d = true) → ∃ js : List Job, ds = jobsL js ∧ AllS js
  | [], _ => ⟨[], rfl, fun j h => (List.not_mem_nil h).elim⟩
  | d :: ds, h => by
    obtain ⟨js, e, hs⟩ := good_jobs fun x hx => h x (List.mem_cons_of_mem _ hx)
    have h1 := h d List.mem_cons_self
    obtain ⟨a, b, c, rfl⟩ : ∃ a b c, d = .tuple [.int a, .int b, .int c] := by
      unfold soundD at h1
      split at h1
      · exact ⟨_, _, _, rfl⟩
      · cases h1
    refine ⟨(a, b, c) :: js, by rw [e]; rfl, fun j hj => ?_⟩
    rcases List.mem_cons.mp hj with z | z
    · rw [z]
      exact (soundD_job (a, b, c)).mp h1
    · exact hs j z
/-- promises of a def of a list of jobs (and of 0, 1, 2 things more): good jobs, or a refusal -/
def RX0 [EK] {α : Type} (args : α → List PyData) (pre : α → Prop) (res : α → Ro) : List PyData → Ro → Prop :=
  Rf (α := α ⊕ List PyData) (Sum.elim args fun y => [.list y]) (Sum.elim pre fun y => Bad y) (Sum.elim res fun y => .ex (badC y))
def RX1 [EK] {α : Type} (args : α → List PyData) (pre : α → Prop) (res : α → Ro) : List PyData → Ro → Prop :=
  Rf (α := α ⊕ (List PyData × PyData)) (Sum.elim args fun y => [.list y.1, y.2]) (Sum.elim pre fun y => Bad y.1) (Sum.elim res fun y => .ex (badC y.1))
def RX2 [EK] {α : Type} (args : α → List PyData) (pre : α → Prop) (res : α → Ro) : List PyData → Ro → Prop :=
  Rf (α := α ⊕ (List PyData × PyData × PyData)) (Sum.elim args fun y => [.list y.1, y.2.1, y.2.2]) (Sum.elim pre fun y => Bad y.1) (Sum.elim res fun y => .ex (badC y.1))
section
variable [EK] {α : Type} {args : α → List PyData} {pre : α → Prop} {res : α → Ro} {d a b : PyData} {es : List PyData}
theorem e_call0 (x : α) (h : Ea ta S ds) (hx : ds = args x) (hp : pre x) (hr : res x = .va d) : Eb (tCall (SpR (RX0 args pre res)) [] E ta) S d := e_call h ⟨.inl x, hp, hx, hr.symm⟩
theorem n_call0 (x : α) (h : Ea ta S ds) (hx : ds = args x) (hp : pre x) (hr : res x = .nw es) : En (tCall (SpR (RX0 args pre res)) [] E ta) S es := n_call h ⟨.inl x, hp, hx, hr.symm⟩
theorem z_call0 (h : Ea ta S [.list ds]) (hb : Bad ds) : Rz E (tCall (SpR (RX0 args pre res)) [] E ta) S (badC ds) := z_call h ⟨.inr ds, hb, rfl, rfl⟩
theorem e_call1 (x : α) (h : Ea ta S ds) (hx : ds = args x) (hp : pre x) (hr : res x = .va d) : Eb (tCall (SpR (RX1 args pre res)) [] E ta) S d := e_call h ⟨.inl x, hp, hx, hr.symm⟩
theorem z_call1 (h : Ea ta S [.list ds, a]) (hb : Bad ds) : Rz E (tCall (SpR (RX1 args pre res)) [] E ta) S (badC ds) := z_call h ⟨.inr (ds, a), hb, rfl, rfl⟩
theorem e_call2 (x : α) (h : Ea ta S ds) (hx : ds = args x) (hp : pre x) (hr : res x = .va d) : Eb (tCall (SpR (RX2 args pre res)) [] E ta) S d := e_call h ⟨.inl x, hp, hx, hr.symm⟩
theorem z_call2 (h : Ea ta S [.list ds, a, b]) (hb : Bad ds) : Rz E (tCall (SpR (RX2 args pre res)) [] E ta) S (badC ds) := z_call h ⟨.inr (ds, a, b), hb, rfl, rfl⟩
theorem len_of0 {n : Nat} (h : ∀ x, (args x).length = n) (hn : n = 1 := by rfl) : ∀ vs H Q E, SpR (RX0 args pre res) vs H Q E → vs.length = n := len_of fun x => by
  cases x with
  | inl x => exact h x
  | inr y => exact hn.symm
theorem len_of1 {n : Nat} (h : ∀ x, (args x).length = n) (hn : n = 2 := by rfl) : ∀ vs H Q E, SpR (RX1 args pre res) vs H Q E → vs.length = n := len_of fun x => by
  cases x with
  | inl x => exact h x
  | inr y => exact hn.symm
theorem len_of2 {n : Nat} (h : ∀ x, (args x).length = n) (hn : n = 3 := by rfl) : ∀ vs H Q E, SpR (RX2 args pre res) vs H Q E → vs.length = n := len_of fun x => by
  cases x with
  | inl x => exact h x
  | inr y => exact hn.symm
theorem run_def0 {N : List Str} {t : TS} {vs : List V} {H : Hp} {Q : VK} (h : SpR (RX0 args pre res) vs H Q E)
    (hb : (∀ x, pre x → DX E t ((args x).map Sl.va ++ List.replicate (N.length - (args x).length) Sl.no) (.rt (res x))) ∧ ∀ ds, Bad ds → DX E t (.va (.list ds) :: List.replicate (N.length - 1) Sl.no) (.rt (.ex (badC ds)))) : t { nx := fun _ H' => Q .non H', rt := Q } (L2.start N vs) H :=
  run_def h fun x hx => by
    cases x with
    | inl x => exact hb.1 x hx
    | inr y => exact hb.2 y hx
theorem run_def1 {N : List Str} {t : TS} {vs : List V} {H : Hp} {Q : VK} (h : SpR (RX1 args pre res) vs H Q E)
    (hb : (∀ x, pre x → DX E t ((args x).map Sl.va ++ List.replicate (N.length - (args x).length) Sl.no) (.rt (res x))) ∧ ∀ ds a, Bad ds → DX E t (.va (.list ds) :: .va a :: List.replicate (N.length - 2) Sl.no) (.rt (.ex (badC ds)))) : t { nx := fun _ H' => Q .non H', rt := Q } (L2.start N vs) H :=
  run_def h fun x hx => by
    cases x with
    | inl x => exact hb.1 x hx
    | inr y => exact hb.2 y.1 y.2 hx
theorem run_def2 {N : List Str} {t : TS} {vs : List V} {H : Hp} {Q : VK} (h : SpR (RX2 args pre res) vs H Q E)
    (hb : (∀ x, pre x → DX E t ((args x).map Sl.va ++ List.replicate (N.length - (args x).length) Sl.no) (.rt (res x))) ∧ ∀ ds a b, Bad ds → DX E t (.va (.list ds) :: .va a :: .va b :: List.replicate (N.length - 3) Sl.no) (.rt (.ex (badC ds)))) : t { nx := fun _ H' => Q .non H', rt := Q } (L2.start N vs) H :=
  run_def h fun x hx => by
    cases x with
    | inl x => exact hb.1 x hx
    | inr y => exact hb.2 y.1 y.2.1 y.2.2 hx
end
/-! f-strings, join -/
def EJ (ts : List TE) (acc : Str) (S : DSt) (out : Str) : Prop := ∀ H σ, Rl H σ S → ∀ Q : Str → Hp → Prop, (∀ H', Same H H' → Q out H') → tJs ts acc σ H Q
theorem ej_nil {acc : Str} : EJ [] acc S acc := fun H σ rl Q q => q H (Same.refl H)
theorem ej_cons {t : TE} {ts : List TE} {acc y out : Str} (h : Eb t S (.str y)) (hz : (acc ++ y).length ≤ sizeLine) (r : EJ ts (acc ++ y) S out) : EJ (t :: ts) acc S out := fun H σ rl Q q => h H σ rl _ fun v H1 e1 q1 =>
  ⟨y, q1, hz, r H1 σ (rl.mono e1) Q fun H' e2 => q H' (e1.trans e2)⟩
theorem e_fmtI {i : Int} (h : Eb te S (.int i)) (hz : i.natAbs.log2 < 1920) : Eb (tFmt te) S (.str (Str.ofString (toString i))) := fun H σ rl Q q => h H σ rl _ fun v H1 e1 q1 =>
  .inr ⟨i, q1, hz, q _ H1 e1 rfl⟩
theorem e_joined {ts : List TE} {out : Str} (h : EJ ts Str.empty S out) : Eb (fun σ H Q => tJs ts Str.empty σ H fun out H1 => Q (.str out) H1) S (.str out) := fun H σ rl Q q => h H σ rl _ fun H' e => q _ H' e rfl
theorem strs_of {H : Hp} : ∀ {ys : List Str} {xs : List V}, DaL H (ys.map .str) xs → xs = ys.map V.str
  | [], _, h => h
  | y :: ys, _, h => by
    obtain ⟨v, vs, rfl, h1, h2⟩ := h
    have h1 : v = .str y := h1
    rw [h1, strs_of (ys := ys) h2]
    rfl
def rJoin (K : PySem.W.Frag) : V → List V → Hp → VK → Prop := fun x xs H Q => ∃ a p, ∃ ys : List Str, x = .str a ∧ xs = [.ref p] ∧ (SqL K H p (ys.map V.str) ∨ SqT K H p (ys.map V.str)) ∧
      (ys.map (·.length)).sum + ys.length * a.length ≤ 16777216 ∧ Q (.str (Txt.join a ys)) H
theorem e_join {a : Str} {ys : List Str} (ho : Eb te S (.str a)) (h : Eb tb S (.list (ys.map .str))) (hz : (ys.map (·.length)).sum + ys.length * a.length ≤ 16777216) : Eb (tM1 (rJoin K) te tb) S (.str (Txt.join a ys)) := fun H σ rl Q q =>
  ho H σ rl _ fun v H1 e1 q1 => ⟨⟨a, q1⟩, h H1 σ (rl.mono e1) _ fun w H2 e2 q2 => by
    obtain ⟨p, xs, rfl, h3, h4⟩ := q2
    have e := strs_of h4
    subst e
    exact ⟨a, p, ys, q1, rfl, .inl (SqL.of h3), hz, q _ H2 (e1.trans e2) rfl⟩⟩
end
section
variable {X : Cx} {o e : Expr} {to te : TE} (K : PySem.W.Frag)
theorem j_join {apos pos : Pos} (ho : PE X o to) (he : PE X e te) (hK : X.K = K := by rfl) (hs : starEach [e] X.env = [(false, eval e X.env)] := by rfl) (hbase : attributeBase o "join" X.env (eval o X.env) = eval o X.env := by rfl) (hline : (apos.endLine == pos.line) = true := by rfl) :
    PE X (.Call (.Attribute o "join" apos) [e] [] pos) (tM1 (rJoin K) to te) := by
  subst hK
  exact pe_join ho he hs hbase hline
/-- isinstance of the exception that a clause holds -/
def rIsX (K : PySem.W.Frag) (a : Addr) (cls : Value) (d : Option Addr) : List V → Hp → VK → Prop := fun xs H Q => ∃ D, cls = .ref D ∧ d = none ∧ ExcC K D ∧ rIsE K D a xs H Q
theorem j_isE {a : Addr} {oe : Obj} {cls : Value} {d : Option Addr} {pn : List (Addr × Obj)} (hz : Zc cls d oe) (hf : ∃ vs, oe.data = .fields vs) (hK : X.K = K := by rfl) : CallR (X.suite a ((a, oe) :: pn)) (.builtin "isinstance") (rIsX K a cls d) := by
  subst hK
  intro pins s σ H xs us Q I r h
  obtain ⟨D, rfl, rfl, hC, h⟩ := h
  exact call_isE hC hz hf pins s σ H xs us Q I r h
end
end DL

namespace DL
open PySem L2
section
variable [KK] {E : XK} {S : DSt} {ta : TA} {te tb : TE} {tt tu : TT} {ds : List PyData} {o : Ou} {t u : TS} {C : Addr} {K : PySem.W.Frag} {i : Nat} {a : Addr} {b c : Bool} {r : Ro}
/-- a list of a length that no owned list has -/
theorem Ep.lone (h : Eb te S (.list ds)) (im : immL ds = true) (n : ∀ (j : Nat) es, S[j]? = some (.ow es) → es.length ≠ ds.length) : Ep te S (.list ds) := fun H σ r Q q => h H σ r Q fun v H1 e h1 => q v H1 e (by
  obtain ⟨a, xs, rfl, h2, h3⟩ := h1
  refine ⟨a, xs, rfl, Gm_of (fun ⟨j, es, w1, w2⟩ => ?_) h2, (r.mono e).immL im h3⟩
  obtain ⟨l, ys, z1, z2, z3, _⟩ := (r.mono e).ow j es w1
  rw [w2] at z1
  cases z1
  rw [h2] at z2
  cases z2
  exact n j es w1 (by rw [← z3.length, h3.length]))
/-! suites that hold the exception by a name (slot i holds it, at a) -/
def DXa (E : XK) (i : Nat) (a : Addr) (t : TS) (S : DSt) (o : Ou) : Prop := ∀ D H σ, Rl H σ S → σ[i]? = some (some (.ref a)) → Fin E D (Gm σ S H) o → t D σ H
def Eta (i : Nat) (a : Addr) (tt : TT) (b : Bool) : Prop := ∀ H (σ : St) (Q : Bool → Hp → Prop), σ[i]? = some (some (.ref a)) → Q b H → tt σ H Q
theorem xa_of (h : DX E t S o) : DXa E i a t S o := fun D H σ rl _ k => h D H σ rl k
theorem xa_yes (h : Eta i a tt true) (h1 : DXa E i a t S (.rt r)) {v : TS} : DXa E i a (tSeq (tIfS tt t u) v) S (.rt r) := fun D H σ rl e k => h H σ _ e (h1 _ H σ rl e k)
theorem xa_no (h : Eta i a tt false) (h1 : DXa E i a u S o) : DXa E i a (tSeq (tIfS tt t tNext) u) S o := fun D H σ rl e k => h H σ _ e (h1 D H σ rl e k)
theorem xa_retIf {d : PyData} (h : Eta i a tt b) (h1 : b = true → Eb te S d) (h2 : b = false → Eb tb S d) : DXa E i a (tRet (tIf tt te tb)) S (.rt (.va d)) := fun D H σ rl e k => h H σ _ e (by
  cases b with
  | true => exact h1 rfl H σ rl _ fun v H1 e1 q => k v H1 (Gm_le.trans e1) q
  | false => exact h2 rfl H σ rl _ fun v H1 e1 q => k v H1 (Gm_le.trans e1) q)
omit [KK] in
theorem eta_or (h1 : Eta i a tt b) (h2 : b = false → Eta i a tu c) : Eta i a (tOr tt tu) (b || c) := fun H σ Q e q => h1 H σ _ e (by
  cases b with
  | true => exact q
  | false => exact h2 rfl H σ _ e q)
omit [KK] in
theorem eta_and (h1 : Eta i a tt b) (h2 : b = true → Eta i a tu c) : Eta i a (tAnd tt tu) (b && c) := fun H σ Q e q => h1 H σ _ e (by
  cases b with
  | false => exact q
  | true => exact h2 rfl H σ _ e q)
omit [KK] in
theorem eta_not (h : Eta i a tt b) : Eta i a (tNot tt) (!b) := fun H σ Q e q => h H σ _ e q
omit [KK] in
theorem Eta.to (h : Eta i a tt b) (e : b = c) : Eta i a tt c := e ▸ h
omit [KK] in
theorem eta_is {c : V} {cv : Value} (h : PySem.W.kitOne K (.ref C) cv = some b) (hx : ExcC K C) (hc : ∀ u, RelV c u → u = cv) : Eta i a (tTru K (tCB (rIsX K a (.ref C) none) (tCons (tVar i) (tCons (tC c) tNil)))) b := fun H σ Q e q =>
  ⟨.ref a, e, C, rfl, rfl, hx, c, cv, b, rfl, hc, h, b, rfl, q⟩
omit [KK] in
theorem eta_isO {D : Addr} (h : PySem.W.kitOne K (.ref C) (.ref D) = some b) (hx : ExcC K C) : Eta i a (tTru K (tCB (rIsX K a (.ref C) none) (tCons (tVar i) (tCons (tC (.ref D)) tNil)))) b := eta_is h hx fun _ r => r
omit [KK] in
theorem eta_isT {T : String} (h : PySem.W.kitOne K (.ref C) (.type T) = some b) (hx : ExcC K C) : Eta i a (tTru K (tCB (rIsX K a (.ref C) none) (tCons (tVar i) (tCons (tC (.ty T)) tNil)))) b := eta_is h hx fun _ r => r
/-! try with named clauses -/
def CaughtC (E : XK) (K : PySem.W.Frag) (S : DSt) (C : Addr) (o : Ou) : List Cl → Prop
  | [] => False
  | (c, none, ts) :: r => (PySem.W.exmOne K (.ref C) c = some true ∧ ∀ a, DX E (ts a (.ref C) none) S o) ∨ (PySem.W.exmOne K (.ref C) c = some false ∧ CaughtC E K S C o r)
  | (c, some i, ts) :: r => (PySem.W.exmOne K (.ref C) c = some true ∧ S[i]? = some .no ∧ ∃ q, o = .rt q ∧ ∀ a, DXa E i a (ts a (.ref C) none) S o) ∨ (PySem.W.exmOne K (.ref C) c = some false ∧ CaughtC E K S C o r)
theorem Rl.any1 {H : Hp} {σ : St} {S : DSt} (rl : Rl H σ S) {i : Nat} {v : Option V} (hS : S[i]? = some .no) : Rl H (σ.set i v) S ∧ Same (Gm σ S H) (Gm (σ.set i v) S H) := by
  have nn : ∀ {j : Nat} {s : Sl}, s ≠ .no → S[j]? = some s → j ≠ i := fun {j s} hs h e => by
    rw [e, hS] at h
    exact hs (Option.some.inj h).symm
  have own : ∀ l, Own (σ.set i v) S l → Own σ S l := fun l ⟨j, ds, h1, h2⟩ =>
    ⟨j, ds, h1, by rw [List.getElem?_set_ne (Ne.symm (nn (fun z => by cases z) h1))] at h2; exact h2⟩
  have sm : Same (Gm σ S H) (Gm (σ.set i v) S H) := Gm_le_of own
  refine ⟨⟨by rw [List.length_set]; exact rl.len, fun j d' h' => ?_, fun j ds h' => ?_, fun j k ds es l h1 h2 h3 h4 => ?_⟩, sm⟩
  · obtain ⟨w, h1, h2⟩ := rl.va j d' h'
    exact ⟨w, by rw [List.getElem?_set_ne (Ne.symm (nn (fun z => by cases z) h'))]; exact h1, Da.mono sm _ _ h2⟩
  · obtain ⟨l, xs, h1, h2, h3, h4⟩ := rl.ow j ds h'
    exact ⟨l, xs, by rw [List.getElem?_set_ne (Ne.symm (nn (fun z => by cases z) h'))]; exact h1, h2, DaL.mono sm _ _ h3, h4⟩
  · rw [List.getElem?_set_ne (Ne.symm (nn (fun z => by cases z) h1))] at h3
    rw [List.getElem?_set_ne (Ne.symm (nn (fun z => by cases z) h2))] at h4
    exact rl.sep j k ds es l h1 h2 h3 h4
theorem caughtC_W {K : PySem.W.Frag} {C : Addr} {Wout : WX} {D : Ends} {σ : St} {H : Hp} {G : Hp} (rl : Rl H σ S) (k : Fin E D G o) (e : Same G (Gm σ S H)) : ∀ l, CaughtC E K S C o l → wCl K Wout D l (.ref C) none σ H
  | (c, none, ts) :: r, h => by
    rcases h with ⟨h1, h2⟩ | ⟨h1, h2⟩
    · exact ⟨true, h1, fun _ a _ => h2 a D H σ rl (k.up e), fun z => nomatch z⟩
    · exact ⟨false, h1, (fun z => nomatch z), fun _ => caughtC_W rl k e r h2⟩
  | (c, some i, ts) :: r, h => by
    rcases h with ⟨h1, hS, q, eo, h2⟩ | ⟨h1, h2⟩
    · refine ⟨true, h1, fun _ a _ => ?_, fun z => nomatch z⟩
      obtain ⟨r1, s1⟩ := rl.any1 (v := some (.ref a)) hS
      have hlt : i < σ.length := by
        rw [rl.len]
        exact (List.getElem?_eq_some_iff.mp hS).1
      subst eo
      exact h2 a (endsN i D) H _ r1 (List.getElem?_set_self hlt) (FinR.up (e.trans s1) k)
    · exact ⟨false, h1, (fun z => nomatch z), fun _ => caughtC_W rl k e r h2⟩
/-- a body that refuses, whatever is wished of refusals -/
def Tz (t : WX → TS) (S : DSt) (C : Addr) : Prop := ∀ (W : WX) (D : Ends) H σ, Rl H σ S → (∀ H', Same H H' → W (.ref C) none σ H') → t W D σ H
/-- a body that does not -/
def Tn (E : XK) (t : WX → TS) (S : DSt) (o : Ou) : Prop := ∀ (W : WX), DX E (t W) S o
theorem t_tryC {Wout : WX} {l : List Cl} {t : WX → TS} (h : Tz t S C) (hc : CaughtC E K S C o l) : DX E (fun D σ H => t (wCl K Wout D l) D σ H) S o := fun D H σ rl k =>
  h _ D H σ rl fun H' e => caughtC_W (rl.mono e) k (Gm_mono e) l hc
theorem t_tryCN {Wout : WX} {l : List Cl} {t : WX → TS} (h : Tn E t S o) : DX E (fun D σ H => t (wCl K Wout D l) D σ H) S o := fun D H σ rl k => h _ D H σ rl k
theorem tz_drop {R : List PyData → Ro → Prop} (h : Ea ta S ds) (hR : R ds (.ex C)) : Tz (fun W : WX => tDrop (tCallS (SpR R) (WE W) ta)) S C := fun W D H σ rl k => h H σ rl _ fun vs H1 e1 q1 => ⟨ds, .ex C, q1, hR, fun H' e2 => k H' (e1.trans e2)⟩
theorem tz_ret {R : List PyData → Ro → Prop} (h : Ea ta S ds) (hR : R ds (.ex C)) : Tz (fun W : WX => tRet (tCallS (SpR R) (WE W) ta)) S C := fun W D H σ rl k => h H σ rl _ fun vs H1 e1 q1 => ⟨ds, .ex C, q1, hR, fun H' e2 => k H' (e1.trans e2)⟩
theorem tn_drop {R : List PyData → Ro → Prop} {d : PyData} (h : Ea ta S ds) (hR : R ds (.va d)) : Tn E (fun W : WX => tDrop (tCallS (SpR R) (WE W) ta)) S (.nx S) := fun W D H σ rl k => h H σ rl _ fun vs H1 e1 q1 =>
  ⟨ds, .va d, q1, hR, fun v H' e2 _ => k σ H' (rl.mono (e1.trans e2)) (Gm_mono (e1.trans e2))⟩
theorem tn_ret {R : List PyData → Ro → Prop} {d : PyData} (h : Ea ta S ds) (hR : R ds (.va d)) : Tn E (fun W : WX => tRet (tCallS (SpR R) (WE W) ta)) S (.rt (.va d)) := fun W D H σ rl k => h H σ rl _ fun vs H1 e1 q1 =>
  ⟨ds, .va d, q1, hR, fun v H' e2 q2 => k v H' (Gm_le.trans (e1.trans e2)) q2⟩
theorem tn_retN {R : List PyData → Ro → Prop} {es : List PyData} (h : Ea ta S ds) (hR : R ds (.nw es)) : Tn E (fun W : WX => tRet (tCallS (SpR R) (WE W) ta)) S (.rt (.nw es)) := fun W D H σ rl k => h H σ rl _ fun vs H1 e1 q1 =>
  ⟨ds, .nw es, q1, hR, fun l H' e2 hl q2 => k l H' (Gm_le.trans (e1.trans e2)) (Gm_le.free (e1.free hl)) q2⟩
end
end DL

namespace DL
open PySem L2
def topS (i : Nat) : Stmt := PySem.Challenge.pw_deadlinerun_k02_sound_or_refused.main.body.getD i (.Pass ⟨0, 0, 0, 0⟩)
/-! short words: readings by the tree's head -/
local macro_rules | `(tactic| walk_at "side") => `(tactic| first | assumption | exact shaped_jobs _ | exact shaped_ints _ | exact shaped_bool _ | exact shaped_str (by decide +kernel) | rfl | decide | omega | (solve | simp) | (solve | (constructor <;> omega)))
local macro_rules | `(tactic| walk_at "at") => `(tactic| first | assumption | rfl)
local macro_rules | `(tactic| walk_at "Eo") => `(tactic| first | exact o_no | (apply o_some; walk_at "Eb"))
local macro_rules | `(tactic| walk_at "Ea") => `(tactic| first | exact a_nil | (apply a_cons; (walk_at "Eb"); (walk_at "Ea")))
local macro_rules | `(tactic| walk_at "Eap") => `(tactic| first | exact ap_nil | (apply ap_cons; (walk_at "Ep"); (walk_at "Eap")))
local macro_rules | `(tactic| walk_at "Ep") => `(tactic| first
  | exact e_var rfl
  | (apply Ep.imm (d := PyData.int _); (walk_at "Eb"); exact rfl)
  | (apply Ep.new; (walk_at "En"); (walk_at "imm"))
  | (apply ep_tup; (walk_at "Eap"); (walk_at "side"))
  | (apply Ep.free; (walk_at "Eb"); exact rfl)
  | (apply Ep.imm; (walk_at "Eb"); (walk_at "imm")))
local macro_rules | `(tactic| walk_at "imm") => `(tactic| first | rfl | assumption | (exact immL_ints _) | (exact immL_jobs _))
local macro_rules | `(tactic| walk_at "Et") => `(tactic| first
  | (apply t_test; walk_at "Eb")
  | (apply t_B; walk_at "Eb")
  | (apply t_and; (walk_at "Et"); (intro _; walk_at "Et"))
  | (apply t_or; (walk_at "Et"); (intro _; walk_at "Et"))
  | (apply t_not; walk_at "Et")
  | (apply t_truB; walk_at "Eb")
  | (apply t_truL; walk_at "Eb")
  | (apply t_truI; walk_at "Eb")
  | (apply t_truS; (walk_at "Eb"); (walk_at "side")))
local macro_rules | `(tactic| walk_at "En") => `(tactic| first
  | (apply n_lst; (walk_at "Ea"); (walk_at "side"))
  | (apply e_cat; (walk_at "Eb"); (walk_at "Eb"); (walk_at "side"))
  | (apply n_zeros; (walk_at "Eb"); (walk_at "side"))
  | (apply e_rep; (walk_at "Eb"); (walk_at "Eb"); (walk_at "side"); (walk_at "side"))
  | (apply n_list; (walk_at "Eb"))
  | (apply n_slL; (walk_at "Eb"); (walk_at "Eo"); (walk_at "Eo"))
  | (apply n_rev; (walk_at "Eb"))
  | (walk_at "call"))
local macro_rules | `(tactic| walk_at "call") => `(tactic| fail)
local macro_rules | `(tactic| walk_at "Eb") => `(tactic| first
  | exact (e_var rfl).b
  | exact e_own rfl
  | exact e_int
  | exact e_str
  | exact e_bl
  | exact e_non
  | (apply e_add; (walk_at "Eb"); (walk_at "Eb"))
  | (apply e_ii (g := fun i j => i - j); (walk_at "Eb"); (walk_at "Eb"))
  | (apply e_ib (g := fun i j => decide (i < j)); (walk_at "Eb"); (walk_at "Eb"))
  | (apply e_ib (g := fun i j => decide (i ≤ j)); (walk_at "Eb"); (walk_at "Eb"))
  | (apply e_ib (g := fun i j => decide (j < i)); (walk_at "Eb"); (walk_at "Eb"))
  | (apply e_ib (g := fun i j => decide (j ≤ i)); (walk_at "Eb"); (walk_at "Eb"))
  | (apply e_mul; (walk_at "Eb"); (walk_at "Eb"); (walk_at "mul"))
  | (apply e_iic (C := CDiv) (g := fun i j => i / j); (walk_at "Eb"); (walk_at "Eb"); exact ⟨by decide, by decide⟩)
  | (apply e_iic (C := fun _ j => 0 < j) (g := fun i j => i % j); (walk_at "Eb"); (walk_at "Eb"); (walk_at "pos"))
  | (apply e_iic (C := CPow) (g := fun i j => i ^ j.toNat); (walk_at "Eb"); (walk_at "Eb"); exact ⟨by decide, by decide, by decide⟩)
  | (apply e_ixT; (walk_at "Eb"); (walk_at "Eb"); (walk_at "at"))
  | (apply e_ixL; (walk_at "Eb"); (walk_at "Eb"); (walk_at "at"))
  | (apply e_ixF; (walk_at "Eb"); (walk_at "Eb"); (walk_at "at"))
  | (apply e_ixS; (walk_at "Eb"); (walk_at "Eb"); (walk_at "side"); (walk_at "at"))
  | (apply e_eqI; (walk_at "Eb"); (walk_at "Eb"))
  | (apply e_neI; (walk_at "Eb"); (walk_at "Eb"))
  | (apply e_eq; (walk_at "Eb"); (walk_at "Eb"); (walk_at "side"); (walk_at "side"))
  | (apply e_ne; (walk_at "Eb"); (walk_at "Eb"); (walk_at "side"); (walk_at "side"))
  | (apply e_inL; (walk_at "Eb"); (walk_at "Eb"))
  | (apply e_notInL; (walk_at "Eb"); (walk_at "Eb"))
  | (apply e_maxD; (walk_at "Eb"); (walk_at "Eb"))
  | (apply e_isN; (walk_at "Eb"))
  | (apply e_notN; (walk_at "Eb"))
  | (apply e_chain (g := fun i j => decide (i ≤ j)) (g' := fun i j => decide (i < j)); (walk_at "Eb"); (walk_at "Eb"); (walk_at "Eb"))
  | (apply e_chain (g := fun i j => decide (i ≤ j)) (g' := fun i j => decide (i ≤ j)); (walk_at "Eb"); (walk_at "Eb"); (walk_at "Eb"))
  | (apply e_chain (g := fun i j => decide (i < j)) (g' := fun i j => decide (i ≤ j)); (walk_at "Eb"); (walk_at "Eb"); (walk_at "Eb"))
  | (apply e_and; (walk_at "Eb"); (intro _; walk_at "Eb"))
  | (apply e_or; (walk_at "Eb"); (intro _; walk_at "Eb"))
  | (apply e_not; (walk_at "Eb"))
  | (apply e_neg; (walk_at "Eb"))
  | (apply e_tup; (walk_at "Ea"); (walk_at "side"))
  | (apply e_lenL; (walk_at "Eb"))
  | (apply e_lenF; (walk_at "Eb"))
  | (apply e_lenT; (walk_at "Eb"))
  | (apply e_lenS; (walk_at "Eb"); (walk_at "side"))
  | (apply e_sum; (walk_at "Eb"))
  | (apply e_max2; (walk_at "Eb"); (walk_at "Eb"))
  | (apply e_min2; (walk_at "Eb"); (walk_at "Eb"))
  | (apply e_isInt; (walk_at "Eb"))
  | (apply e_isBl; (walk_at "Eb"))
  | (apply e_isTup; (walk_at "Eb"))
  | (apply e_isLst; (walk_at "Eb"))
  | (apply e_isStr; (walk_at "Eb"))
  | (apply En.b; (walk_at "En"))
  | (walk_at "call"))
local macro_rules | `(tactic| walk_at "mul") => `(tactic| first | exact .inl ⟨by decide, by decide⟩ | exact .inr ⟨by decide, by decide⟩ | (refine .inl ⟨?_, ?_⟩ <;> omega) | (refine .inr ⟨?_, ?_⟩ <;> omega))
local macro_rules | `(tactic| walk_at "pos") => `(tactic| first | assumption | (show (0 : Int) < _; first | assumption | decide | omega))
/-- targets -/
local macro_rules | `(tactic| walk_at "Dg") => `(tactic| first | exact g_name | (apply g_tup; (walk_at "DgL"); (first | rfl | (solve | simp))))
local macro_rules | `(tactic| walk_at "DgL") => `(tactic| first | exact gs_nil | (apply gs_cons; (walk_at "Dg"); (walk_at "DgL")))
local macro_rules | `(tactic| walk_at "Le") => `(tactic| repeat (first | exact Le.nil | exact Le.rfl' | apply Le.eq | apply Le.va | apply Le.ow | apply Le.fz))
section
variable [EK]
variable {P : Program} {w : World} {K : PySem.W.Frag} {mg : Str → Option Value} {base : Heap}
/-! ### _law_thing_by -/
abbrev s_L_thing_by : Stmt := topS 36
abbrev n_L_thing_by : List Str := ["_law_cell", "_law_come", "_law_length", "_law_more", "_law_good", "_law_things"]
theorem sc_L_thing_by : FnScope n_L_thing_by ["_law_cell", "_law_come", "_law_length", "_law_more"] (defScope s_L_thing_by) := ⟨rfl, rfl, rfl, by decide +kernel, rfl, by decide +kernel, by decide +kernel⟩
def thingsL (a b m : Int) : List PyData :=
  [.tuple [.int a, .int b, .int (a + m)], .tuple [.int a, .int b, .int (a + m)], .tuple [.int a, .int b, .int (a + m)], .tuple [.int (-1 - a), .int b, .int m],
   .tuple [.int a, .int 0, .int (a + m)], .tuple [.int a, .int b, .int a], .tuple [.int a, .bool true, .int (a + m)], .tuple [.bool false, .int b, .int m],
   .tuple [.int a, .int b, .str (Str.ofString "9")], .tuple [.int a, .none, .int (a + m)], .tuple [.int a, .int b], .tuple [.int a, .int b, .int (a + m), .int 1],
   .list [.int a, .int b, .int (a + m)], .str (Str.ofString ""), .tuple [.int 0, .int b, .bool true], .tuple [.int a, .int b, .none],
   .tuple [.int a, .int (-b), .int (a + m)], .tuple [.int (a + m), .int b, .int a]]
def thingF (c a b m : Int) : PyData := (thingsL a b m).getD (c % 18).toNat .none
theorem thing_at (c a b m : Int) : atI (thingsL a b m) (c % 18) = some (thingF c a b m) :=
  atI_pos (by omega) (getD_some (by show (c % 18).toNat < 18; omega))
/-- what may stand in a list at last: small numbers, no owned list -/
def smlD : PyData → Prop
  | .int i => i.natAbs < 2 ^ 400
  | _ => True
theorem thing_jobs {c a b m : Int} (ha : a.natAbs < 2 ^ 300) (hb : b.natAbs < 2 ^ 300) (hm : m.natAbs < 2 ^ 300) : ∀ i j k, thingF c a b m = .tuple [.int i, .int j, .int k] → i.natAbs < 2 ^ 400 ∧ j.natAbs < 2 ^ 400 ∧ k.natAbs < 2 ^ 400 := by
  intro i j k h
  have hc : (c % 18).toNat < 18 := by omega
  unfold thingF at h
  generalize (c % 18).toNat = n at *
  have p3 : (2 : Nat) ^ 300 + 2 ^ 300 + 2 < 2 ^ 400 := by decide +kernel
  generalize (2 : Nat) ^ 300 = P at *
  generalize (2 : Nat) ^ 400 = Q at *
  have : ∀ x ∈ thingsL a b m, x = .tuple [.int i, .int j, .int k] → i.natAbs < Q ∧ j.natAbs < Q ∧ k.natAbs < Q := by
    intro x hx
    simp only [thingsL, List.mem_cons, List.not_mem_nil, or_false] at hx
    rcases hx with e | e | e | e | e | e | e | e | e | e | e | e | e | e | e | e | e | e <;> subst e <;> intro z <;> first | (cases z; done) | (cases z; refine ⟨?_, ?_, ?_⟩ <;> omega)
  exact this _ (List.mem_of_getElem? (getD_some (d := PyData.none) (l := thingsL a b m) hc)) h
abbrev R_L_thing_by := Rf (fun x : Int × Int × Int × Int => [.int x.1, .int x.2.1, .int x.2.2.1, .int x.2.2.2]) (fun _ => True) (fun x => .va (thingF x.1 x.2.1 x.2.2.1 x.2.2.2))
theorem k_L_thing_by [KK] {E : XK} {S : DSt} {ta : TA} {c a b m : Int} (h : Ea ta S [.int c, .int a, .int b, .int m]) : Eb (tCall (SpR R_L_thing_by) [] E ta) S (thingF c a b m) := e_callR (c, a, b, m) h rfl trivial rfl
theorem things_len (n : Nat) (a b m : Int) : ((thingsL a b m).take n).length ≤ 18 := by
  rw [List.length_take]
  exact Nat.min_le_right _ _
theorem ok_L_thing_by {f : Addr} {fd : FuncData} (F : Fun K "_law_thing_by" "_law_thing_by" s_L_thing_by f fd) (m_f : mg "_law_thing_by" = some (.ref f)) : Cal P w K mg base 1 "_law_thing_by" ["_law_cell", "_law_come", "_law_length", "_law_more"] R_L_thing_by := by
  letI : KK := ⟨K⟩
  refine cal_of (F.ok sc_L_thing_by (len_of fun _ => rfl) (fun cdv A outer s H vs Q E hr h => ⟨_,
      (pss_cons (ps_set (i := 4) sc_L_thing_by.nd rfl (Or.inl rfl) (pe_tup (pa_cons (pv 1) (pa_cons (pv 2) (pa_cons (pe_op op_plus (pv 1) (pv 3)) pa_nil)))))
      (pss_cons (ps_set (i := 5) sc_L_thing_by.nd rfl (Or.inl rfl) (pe_lst (pa_cons (pv 4) (pa_cons (pv 4) (pa_cons (pv 4) (pa_cons (pe_tup (pa_cons (pe_op op_sub (pe_un un_neg pe_int) (pv 1)) (pa_cons (pv 2) (pa_cons (pv 3) pa_nil)))) pa_nil))))))
      (pss_cons (ps_set (i := 5) sc_L_thing_by.nd rfl (Or.inl rfl) (pe_op op_plus (pv 5) (pe_lst (pa_cons (pe_tup (pa_cons (pv 1) (pa_cons pe_int (pa_cons (pe_op op_plus (pv 1) (pv 3)) pa_nil)))) (pa_cons (pe_tup (pa_cons (pv 1) (pa_cons (pv 2) (pa_cons (pv 1) pa_nil)))) (pa_cons (pe_tup (pa_cons (pv 1) (pa_cons pe_bl (pa_cons (pe_op op_plus (pv 1) (pv 3)) pa_nil)))) (pa_cons (pe_tup (pa_cons pe_bl (pa_cons (pv 2) (pa_cons (pv 3) pa_nil)))) pa_nil)))))))
      (pss_cons (ps_set (i := 5) sc_L_thing_by.nd rfl (Or.inl rfl) (pe_op op_plus (pv 5) (pe_lst (pa_cons (pe_tup (pa_cons (pv 1) (pa_cons (pv 2) (pa_cons pe_str pa_nil)))) (pa_cons (pe_tup (pa_cons (pv 1) (pa_cons pe_non (pa_cons (pe_op op_plus (pv 1) (pv 3)) pa_nil)))) (pa_cons (pe_tup (pa_cons (pv 1) (pa_cons (pv 2) pa_nil))) (pa_cons (pe_tup (pa_cons (pv 1) (pa_cons (pv 2) (pa_cons (pe_op op_plus (pv 1) (pv 3)) (pa_cons pe_int pa_nil))))) pa_nil)))))))
      (pss_cons (ps_set (i := 5) sc_L_thing_by.nd rfl (Or.inl rfl) (pe_op op_plus (pv 5) (pe_lst (pa_cons (pe_lst (pa_cons (pv 1) (pa_cons (pv 2) (pa_cons (pe_op op_plus (pv 1) (pv 3)) pa_nil)))) (pa_cons pe_str (pa_cons (pe_tup (pa_cons pe_int (pa_cons (pv 2) (pa_cons pe_bl pa_nil)))) (pa_cons (pe_tup (pa_cons (pv 1) (pa_cons (pv 2) (pa_cons pe_non pa_nil)))) pa_nil)))))))
      (pss_cons (ps_set (i := 5) sc_L_thing_by.nd rfl (Or.inl rfl) (pe_op op_plus (pv 5) (pe_lst (pa_cons (pe_tup (pa_cons (pv 1) (pa_cons (pe_un un_neg (pv 2)) (pa_cons (pe_op op_plus (pv 1) (pv 3)) pa_nil)))) (pa_cons (pe_tup (pa_cons (pe_op op_plus (pv 1) (pv 3)) (pa_cons (pv 2) (pa_cons (pv 1) pa_nil)))) pa_nil)))))
      (pss_one (ps_ret (j_ix K (pv 5) (pe_op op_mod (pv 0) pe_int)))))))))), ?_⟩)) m_f F.kp (F.binds (ps := ["_law_cell", "_law_come", "_law_length", "_law_more"]) fun _ _ _ _ _ _ us hl => match us, hl with | [_, _, _, _], _ => rfl)
  refine run_def (N := n_L_thing_by) h fun x hx => ?_

  obtain ⟨c, a, b, m⟩ := x
  show DX _ _ [.va (.int c), .va (.int a), .va (.int b), .va (.int m), .no, .no] (.rt (.va (thingF c a b m)))
  refine x_seq (x_set (i := 4) (d := .tuple [.int a, .int b, .int (a + m)]) (Ep.free (by walk_at "Eb") rfl)) ?_
  refine x_seq (x_set (i := 5) (d := .list ((thingsL a b m).take 4)) (Ep.free (Eb.to (by walk_at "Eb") (by rfl)) rfl)) ?_
  have l4 := things_len 4 a b m
  have l8 := things_len 8 a b m
  have l12 := things_len 12 a b m
  have l16 := things_len 16 a b m
  refine x_seq (x_set (i := 5) (d := .list ((thingsL a b m).take 8)) (Ep.free (Eb.to (e_cat (by walk_at "Eb") (by walk_at "Eb") (by show _ + 4 ≤ _; omega)).b (by rfl)) rfl)) ?_
  refine x_seq (x_set (i := 5) (d := .list ((thingsL a b m).take 12)) (Ep.free (Eb.to (e_cat (by walk_at "Eb") (by walk_at "Eb") (by show _ + 4 ≤ _; omega)).b (by rfl)) rfl)) ?_
  refine x_seq (x_set (i := 5) (d := .list ((thingsL a b m).take 16)) (Ep.free (Eb.to (e_cat (by walk_at "Eb") (by walk_at "Eb") (by show _ + 4 ≤ _; omega)).b (by rfl)) rfl)) ?_
  refine x_seq (x_set (i := 5) (d := .list (thingsL a b m)) (Ep.free (Eb.to (e_cat (by walk_at "Eb") (by walk_at "Eb") (by show _ + 2 ≤ _; omega)).b (by rfl)) rfl)) ?_
  have ha := thing_at c a b m
  exact x_ret (by walk_at "Eb")
/-! ### _law_odd_by -/
abbrev s_L_odd_by : Stmt := topS 37
abbrev n_L_odd_by : List Str := ["_law_cell", "_law_thing"]
theorem sc_L_odd_by : FnScope n_L_odd_by ["_law_cell", "_law_thing"] (defScope s_L_odd_by) := ⟨rfl, rfl, rfl, by decide +kernel, rfl, by decide +kernel, by decide +kernel⟩
def oddF (c : Int) (d : PyData) : PyData := if c % 9 = 1 then .none else if c % 9 = 2 then .int 7 else if c % 9 = 3 then .tuple [] else d
abbrev R_L_odd_by := Rf (fun x : Int × PyData => [.int x.1, x.2]) (fun _ => True) (fun x => .va (oddF x.1 x.2))
theorem k_L_odd_by [KK] {E : XK} {S : DSt} {ta : TA} {c : Int} {d : PyData} (h : Ea ta S [.int c, d]) : Eb (tCall (SpR R_L_odd_by) [] E ta) S (oddF c d) := e_callR (c, d) h rfl trivial rfl
theorem ok_L_odd_by {f : Addr} {fd : FuncData} (F : Fun K "_law_odd_by" "_law_odd_by" s_L_odd_by f fd) (m_f : mg "_law_odd_by" = some (.ref f)) : Cal P w K mg base 1 "_law_odd_by" ["_law_cell", "_law_thing"] R_L_odd_by := by
  letI : KK := ⟨K⟩
  refine cal_of (F.ok sc_L_odd_by (len_of fun _ => rfl) (fun cdv A outer s H vs Q E hr h => ⟨_,
      (pss_cons (ps_if (pt_cmpR (j_eq K hr.units) (pe_op op_mod (pv 0) pe_int) pe_int (nomark _)) (pss_one (ps_ret pe_non)) pss_nil)
      (pss_cons (ps_if (pt_cmpR (j_eq K hr.units) (pe_op op_mod (pv 0) pe_int) pe_int (nomark _)) (pss_one (ps_ret pe_int)) pss_nil)
      (pss_cons (ps_if (pt_cmpR (j_eq K hr.units) (pe_op op_mod (pv 0) pe_int) pe_int (nomark _)) (pss_one (ps_ret (pe_tup pa_nil))) pss_nil)
      (pss_one (ps_ret (pv 1)))))), ?_⟩)) m_f F.kp (F.binds (ps := ["_law_cell", "_law_thing"]) fun _ _ _ _ _ _ us hl => match us, hl with | [_, _], _ => rfl)
  refine run_def (N := n_L_odd_by) h fun x hx => ?_

  obtain ⟨c, d⟩ := x
  show DX _ _ [.va (.int c), .va d] (.rt (.va (oddF c d)))
  unfold oddF
  by_cases q1 : c % 9 = 1
  · rw [if_pos q1]
    exact x_seqR (x_if (b := true) (Et.to (by walk_at "Et") (by exact decide_eq_true q1)) (fun _ => x_ret (by walk_at "Eb")) fun h => nomatch h)
  rw [if_neg q1]
  refine x_seq (x_if (b := false) (Et.to (by walk_at "Et") (by exact decide_eq_false q1)) (fun h => nomatch h) fun _ => x_next) ?_
  by_cases q2 : c % 9 = 2
  · rw [if_pos q2]
    exact x_seqR (x_if (b := true) (Et.to (by walk_at "Et") (by exact decide_eq_true q2)) (fun _ => x_ret (by walk_at "Eb")) fun h => nomatch h)
  rw [if_neg q2]
  refine x_seq (x_if (b := false) (Et.to (by walk_at "Et") (by exact decide_eq_false q2)) (fun h => nomatch h) fun _ => x_next) ?_
  by_cases q3 : c % 9 = 3
  · rw [if_pos q3]
    exact x_seqR (x_if (b := true) (Et.to (by walk_at "Et") (by exact decide_eq_true q3)) (fun _ => x_ret (by walk_at "Eb")) fun h => nomatch h)
  rw [if_neg q3]
  refine x_seq (x_if (b := false) (Et.to (by walk_at "Et") (by exact decide_eq_false q3)) (fun h => nomatch h) fun _ => x_next) ?_
  exact x_ret (by walk_at "Eb")
/-! ### _law_whole -/
abbrev s_L_whole : Stmt := topS 34
abbrev n_L_whole : List Str := ["_law_found"]
theorem sc_L_whole : FnScope n_L_whole ["_law_found"] (defScope s_L_whole) := ⟨rfl, rfl, rfl, by decide +kernel, rfl, by decide +kernel, by decide +kernel⟩
abbrev R_L_whole := Rf (fun d : PyData => [d]) (fun _ => True) (fun d => .va (.bool (wholeD d)))
theorem k_L_whole [KK] {E : XK} {S : DSt} {ta : TA} {d : PyData} (h : Ea ta S [d]) : Eb (tCall (SpR R_L_whole) [] E ta) S (.bool (wholeD d)) := e_callR d h rfl trivial rfl
local macro_rules | `(tactic| walk_at "call") => `(tactic| (apply k_L_whole; walk_at "Ea"))
theorem ok_L_whole {f : Addr} {fd : FuncData} (F : Fun K "_law_whole" "_law_whole" s_L_whole f fd) (m_f : mg "_law_whole" = some (.ref f)) (b_isinstance : mg "isinstance" = none) (b_bool : mg "bool" = none) (b_int : mg "int" = none) : Cal P w K mg base 1 "_law_whole" ["_law_found"] R_L_whole := by
  letI : KK := ⟨K⟩
  refine cal_of (F.ok sc_L_whole (len_of fun _ => rfl) (fun cdv A outer s H vs Q E hr h => ⟨_,
      (pss_one (ps_ret (pe_and (pe_callB (j_isi K) (by rfl) b_isinstance (by decide +kernel) (pa_cons (pv 0) (pa_cons (pe_bltn (v := .ty "int") (by rfl) b_int (by decide +kernel) rfl) pa_nil))) (pe_one (pe_not (pe_callB (j_isi K) (by rfl) b_isinstance (by decide +kernel) (pa_cons (pv 0) (pa_cons (pe_bltn (v := .ty "bool") (by rfl) b_bool (by decide +kernel) rfl) pa_nil)))))))), ?_⟩)) m_f F.kp (F.binds (ps := ["_law_found"]) fun _ _ _ _ _ _ us hl => match us, hl with | [_], _ => rfl)
  refine run_def (N := n_L_whole) h fun x hx => ?_

  exact x_ret' (by walk_at "Eb") (by cases x <;> rfl)
/-! ### _law_sound -/
abbrev s_L_sound : Stmt := topS 38
abbrev n_L_sound : List Str := ["_law_thing", "_law_part"]
theorem sc_L_sound : FnScope n_L_sound ["_law_thing"] (defScope s_L_sound) := ⟨rfl, rfl, rfl, by decide +kernel, rfl, by decide +kernel, by decide +kernel⟩
abbrev R_L_sound := Rf (fun d : PyData => [d]) (fun _ => True) (fun d => .va (.bool (soundD d)))
theorem k_L_sound [KK] {E : XK} {S : DSt} {ta : TA} {d : PyData} (h : Ea ta S [d]) : Eb (tCall (SpR R_L_sound) [] E ta) S (.bool (soundD d)) := e_callR d h rfl trivial rfl
local macro_rules | `(tactic| walk_at "call") => `(tactic| (apply k_L_sound; walk_at "Ea"))
theorem ok_L_sound {f : Addr} {fd : FuncData} (F : Fun K "_law_sound" "_law_sound" s_L_sound f fd) (m_f : mg "_law_sound" = some (.ref f)) (b_len : mg "len" = none) (b_isinstance : mg "isinstance" = none) (b_tuple : mg "tuple" = none) (c_L_whole : Cal P w K mg base 1 "_law_whole" ["_law_found"] R_L_whole) : Cal P w K mg base 2 "_law_sound" ["_law_thing"] R_L_sound := by
  letI : KK := ⟨K⟩
  refine cal_of (F.ok sc_L_sound (len_of fun _ => rfl) (fun cdv A outer s H vs Q E hr h => ⟨_,
      (pss_cons (ps_if (PW.pt (pw_or (pt_not (j_tru K (pe_callB (j_isi K) (by rfl) b_isinstance (by decide +kernel) (pa_cons (pv 0) (pa_cons (pe_bltn (v := .ty "tuple") (by rfl) b_tuple (by decide +kernel) rfl) pa_nil))))) (pw_or1 (pt_cmpR (j_ne K hr.units) (pe_callB (j_len K) (by rfl) b_len (by decide +kernel) (pa_cons (pv 0) pa_nil)) pe_int (nomark _))))) (pss_one (ps_ret pe_bl)) pss_nil)
      (pss_cons (ps_for PassesOwn.never rfl (j_iTup K (pv 0)) (pg_name (i := 1) sc_L_sound.nd rfl (Or.inl rfl))
        (pss_one (ps_if (pt_not (j_tru K (c_L_whole.pe (hr.mono (by decide)) rfl (pa_cons (pv 1) pa_nil)))) (pss_one (ps_ret pe_bl)) pss_nil)))
      (pss_one (ps_ret (pe_and (pe_cmpR op_ge (j_ix K (pv 0) pe_int) pe_int (nomark _)) (pe_and (pe_cmpR op_ge (j_ix K (pv 0) pe_int) pe_int (nomark _)) (pe_one (pe_cmpR op_gt (j_ix K (pv 0) pe_int) (j_ix K (pv 0) pe_int) (nomark _))))))))), ?_⟩)) m_f F.kp (F.binds (ps := ["_law_thing"]) fun _ _ _ _ _ _ us hl => match us, hl with | [_], _ => rfl)
  refine run_def (N := n_L_sound) h fun x hx => ?_

  show DX _ _ [.va x, .no] (.rt (.va (.bool (soundD x))))
  have no : ∀ d : PyData, isTup d = false → soundD d = false := fun d h => by
    unfold soundD
    split
    · cases h
    · rfl
  by_cases ht : isTup x = true
  · obtain ⟨ds, rfl⟩ : ∃ ds, x = .tuple ds := by
      cases x <;> first | exact ⟨_, rfl⟩ | cases ht
    by_cases h3 : ds.length = 3
    · obtain ⟨a, b, c, rfl⟩ : ∃ a b c, ds = [a, b, c] := by
        match ds, h3 with
        | [a, b, c], _ => exact ⟨a, b, c, rfl⟩
      refine x_seq (x_if (b := false) (Et.to (by walk_at "Et") (by rfl)) (fun h => nomatch h) fun _ => x_next) ?_
      have hgo := goS_all (P := fun d => wholeD d = true) (q := .va (.bool false)) [a, b, c]
      by_cases hw : ∀ d ∈ [a, b, c], wholeD d = true
      · rw [if_pos hw] at hgo
        have hi : ∀ d : PyData, wholeD d = true → ∃ i, d = .int i := fun d h => by
          cases d <;> first | exact ⟨_, rfl⟩ | cases h
        obtain ⟨i, rfl⟩ := hi a (hw a (by simp))
        obtain ⟨j, rfl⟩ := hi b (hw b (by simp))
        obtain ⟨k, rfl⟩ := hi c (hw c (by simp))
        refine x_forQ (xs := [PyData.int i, .int j, .int k]) (f := fun d => d) (b0 := ()) (fun _ d => if wholeD d = true then .inl () else .inr (.va (.bool false))) (fun _ => [.va (.tuple [.int i, .int j, .int k]), .no]) (fun _ => True) (by rw [List.map_id']; exact i_tup (by walk_at "Ep")) (by walk_at "Le") trivial (fun u d _ hd => ?_) (fun u h _ => ?_) (fun r h => ?_)
        · have q := hw d hd
          rw [if_pos q]
          exact ⟨trivial, _, [.va (.tuple [.int i, .int j, .int k]), .va d], [.va (.tuple [.int i, .int j, .int k]), .no], g_name, .inl (x_if (b := false) (Et.to (by walk_at "Et") (by rw [q]; rfl)) (fun h => nomatch h) fun _ => x_post x_next (by walk_at "Le")), Le.rfl'⟩
        · exact x_ret' (by walk_at "Eb") (by show PyData.bool _ = PyData.bool (decide (0 ≤ i) && decide (1 ≤ j) && decide (i < k)); rw [Bool.and_assoc])
        · rw [h] at hgo
          cases hgo
      · rw [if_neg hw] at hgo
        have e : soundD (.tuple [a, b, c]) = false := by
          unfold soundD
          split
          · rename_i h
            cases h
            exact absurd (by intro d hd; simp at hd; rcases hd with e | e | e <;> subst e <;> rfl) hw
          · rfl
        rw [e]
        refine x_forQ (xs := [a, b, c]) (f := fun d => d) (b0 := ()) (fun _ d => if wholeD d = true then .inl () else .inr (.va (.bool false))) (fun _ => [.va (.tuple [a, b, c]), .no]) (fun _ => True) (by rw [List.map_id']; exact i_tup (by walk_at "Ep")) (by walk_at "Le") trivial (fun u d _ hd => ?_) (fun u h _ => ?_) (fun r h => ?_)
        · by_cases q : wholeD d = true
          · rw [if_pos q]
            exact ⟨trivial, _, [.va (.tuple [a, b, c]), .va d], [.va (.tuple [a, b, c]), .no], g_name, .inl (x_if (b := false) (Et.to (by walk_at "Et") (by rw [q]; rfl)) (fun h => nomatch h) fun _ => x_post x_next (by walk_at "Le")), Le.rfl'⟩
          · rw [if_neg q]
            exact ⟨_, [.va (.tuple [a, b, c]), .va d], g_name, x_if (b := true) (Et.to (by walk_at "Et") (by simpa using q)) (fun _ => x_ret (by walk_at "Eb")) fun h => nomatch h⟩
        · rw [h] at hgo
          cases hgo
        · rw [h] at hgo
          exact Sum.inr.inj hgo
    · have e : soundD (.tuple ds) = false := by
        unfold soundD
        split
        · rename_i h
          cases h
          exact absurd rfl h3
        · rfl
      rw [e]
      have hn : (!decide (((ds.length : Nat) : Int) = 3)) = true := by
        rw [decide_eq_false (by omega)]
        rfl
      exact x_seqR (x_if (b := true) (Et.to (by walk_at "Et") (by rw [hn]; rfl)) (fun _ => x_ret (by walk_at "Eb")) fun h => nomatch h)
  · have ht' : isTup x = false := by simpa using ht
    rw [no x ht']
    refine x_seqR (x_if (b := true) (Et.to (t_or (a := !isTup x) (b := false) (by walk_at "Et") fun h => ?_) (by rw [ht']; rfl)) (fun _ => x_ret (by walk_at "Eb")) fun h => nomatch h)
    rw [ht'] at h
    cases h
/-! ### whole -/
abbrev s_whole : Stmt := topS 8
abbrev n_whole : List Str := ["thing"]
theorem sc_whole : FnScope n_whole ["thing"] (defScope s_whole) := ⟨rfl, rfl, rfl, by decide +kernel, rfl, by decide +kernel, by decide +kernel⟩
abbrev R_whole := Rf (fun d : PyData => [d]) (fun _ => True) (fun d => .va (.bool (wholeD d)))
theorem k_whole [KK] {E : XK} {S : DSt} {ta : TA} {d : PyData} (h : Ea ta S [d]) : Eb (tCall (SpR R_whole) [] E ta) S (.bool (wholeD d)) := e_callR d h rfl trivial rfl
local macro_rules | `(tactic| walk_at "call") => `(tactic| (apply k_whole; walk_at "Ea"))
theorem ok_whole {f : Addr} {fd : FuncData} (F : Fun K "whole" "whole" s_whole f fd) (m_f : mg "whole" = some (.ref f)) (b_isinstance : mg "isinstance" = none) (b_bool : mg "bool" = none) (b_int : mg "int" = none) : Cal P w K mg base 1 "whole" ["thing"] R_whole := by
  letI : KK := ⟨K⟩
  refine cal_of (F.ok sc_whole (len_of fun _ => rfl) (fun cdv A outer s H vs Q E hr h => ⟨_,
      (pss_one (ps_ret (pe_and (pe_callB (j_isi K) (by rfl) b_isinstance (by decide +kernel) (pa_cons (pv 0) (pa_cons (pe_bltn (v := .ty "int") (by rfl) b_int (by decide +kernel) rfl) pa_nil))) (pe_one (pe_not (pe_callB (j_isi K) (by rfl) b_isinstance (by decide +kernel) (pa_cons (pv 0) (pa_cons (pe_bltn (v := .ty "bool") (by rfl) b_bool (by decide +kernel) rfl) pa_nil)))))))), ?_⟩)) m_f F.kp (F.binds (ps := ["thing"]) fun _ _ _ _ _ _ us hl => match us, hl with | [_], _ => rfl)
  refine run_def (N := n_whole) h fun x hx => ?_

  exact x_ret' (by walk_at "Eb") (by cases x <;> rfl)
/-! ### sound -/
abbrev s_sound : Stmt := topS 9
abbrev n_sound : List Str := ["job"]
theorem sc_sound : FnScope n_sound ["job"] (defScope s_sound) := ⟨rfl, rfl, rfl, by decide +kernel, rfl, by decide +kernel, by decide +kernel⟩
abbrev R_sound := Rf (fun d : PyData => [d]) (fun _ => True) (fun d => .va (.bool (soundD d)))
theorem k_sound [KK] {E : XK} {S : DSt} {ta : TA} {d : PyData} (h : Ea ta S [d]) : Eb (tCall (SpR R_sound) [] E ta) S (.bool (soundD d)) := e_callR d h rfl trivial rfl
local macro_rules | `(tactic| walk_at "call") => `(tactic| (apply k_sound; walk_at "Ea"))
theorem ok_sound {f : Addr} {fd : FuncData} (F : Fun K "sound" "sound" s_sound f fd) (m_f : mg "sound" = some (.ref f)) (b_len : mg "len" = none) (b_isinstance : mg "isinstance" = none) (b_tuple : mg "tuple" = none) (c_whole : Cal P w K mg base 1 "whole" ["thing"] R_whole) : Cal P w K mg base 2 "sound" ["job"] R_sound := by
  letI : KK := ⟨K⟩
  refine cal_of (F.ok sc_sound (len_of fun _ => rfl) (fun cdv A outer s H vs Q E hr h => ⟨_,
      (pss_cons (ps_if (PW.pt (pw_or (pt_not (j_tru K (pe_callB (j_isi K) (by rfl) b_isinstance (by decide +kernel) (pa_cons (pv 0) (pa_cons (pe_bltn (v := .ty "tuple") (by rfl) b_tuple (by decide +kernel) rfl) pa_nil))))) (pw_or1 (pt_cmpR (j_ne K hr.units) (pe_callB (j_len K) (by rfl) b_len (by decide +kernel) (pa_cons (pv 0) pa_nil)) pe_int (nomark _))))) (pss_one (ps_ret pe_bl)) pss_nil)
      (pss_cons (ps_if (PW.pt (pw_or (pt_not (j_tru K (c_whole.pe (hr.mono (by decide)) rfl (pa_cons (j_ix K (pv 0) pe_int) pa_nil)))) (pw_or (pt_not (j_tru K (c_whole.pe (hr.mono (by decide)) rfl (pa_cons (j_ix K (pv 0) pe_int) pa_nil)))) (pw_or1 (pt_not (j_tru K (c_whole.pe (hr.mono (by decide)) rfl (pa_cons (j_ix K (pv 0) pe_int) pa_nil)))))))) (pss_one (ps_ret pe_bl)) pss_nil)
      (pss_one (ps_ret (pe_and (pe_cmpR op_ge (j_ix K (pv 0) pe_int) pe_int (nomark _)) (pe_and (pe_cmpR op_ge (j_ix K (pv 0) pe_int) pe_int (nomark _)) (pe_one (pe_cmpR op_gt (j_ix K (pv 0) pe_int) (j_ix K (pv 0) pe_int) (nomark _))))))))), ?_⟩)) m_f F.kp (F.binds (ps := ["job"]) fun _ _ _ _ _ _ us hl => match us, hl with | [_], _ => rfl)
  refine run_def (N := n_sound) h fun x hx => ?_

  have no : ∀ d : PyData, isTup d = false → soundD d = false := fun d h => by
    unfold soundD
    split
    · cases h
    · rfl
  by_cases ht : isTup x = true
  · obtain ⟨ds, rfl⟩ : ∃ ds, x = .tuple ds := by
      cases x <;> first | exact ⟨_, rfl⟩ | cases ht
    by_cases h3 : ds.length = 3
    · obtain ⟨a, b, c, rfl⟩ : ∃ a b c, ds = [a, b, c] := by
        match ds, h3 with
        | [a, b, c], _ => exact ⟨a, b, c, rfl⟩
      refine x_seq (x_if (b := false) (Et.to (by walk_at "Et") (by rfl)) (fun h => nomatch h) fun _ => x_next) ?_
      by_cases hw : (!wholeD a || (!wholeD b || !wholeD c)) = true
      · have e : soundD (.tuple [a, b, c]) = false := by
          unfold soundD
          split
          · rename_i h
            cases h
            cases hw
          · rfl
        show DX _ _ _ (.rt (.va (.bool (soundD (.tuple [a, b, c])))))
        rw [e]
        exact x_seqR (x_if (b := true) (Et.to (by walk_at "Et") hw) (fun _ => x_ret (by walk_at "Eb")) fun h => nomatch h)
      · have hw' : (!wholeD a || (!wholeD b || !wholeD c)) = false := by simpa using hw
        refine x_seq (x_if (b := false) (Et.to (by walk_at "Et") hw') (fun h => nomatch h) fun _ => x_next) ?_
        have hi : ∀ d : PyData, wholeD d = true → ∃ i, d = .int i := fun d h => by
          cases d <;> first | exact ⟨_, rfl⟩ | cases h
        simp only [Bool.or_eq_false_iff, Bool.not_eq_false'] at hw'
        obtain ⟨i, rfl⟩ := hi a hw'.1
        obtain ⟨j, rfl⟩ := hi b hw'.2.1
        obtain ⟨k, rfl⟩ := hi c hw'.2.2
        exact x_ret' (by walk_at "Eb") (by show PyData.bool _ = PyData.bool (decide (0 ≤ i) && decide (1 ≤ j) && decide (i < k)); rw [Bool.and_assoc])
    · have e : soundD (.tuple ds) = false := by
        unfold soundD
        split
        · rename_i h
          cases h
          exact absurd rfl h3
        · rfl
      show DX _ _ _ (.rt (.va (.bool (soundD (.tuple ds)))))
      rw [e]
      have hn : (!decide (((ds.length : Nat) : Int) = 3)) = true := by
        rw [decide_eq_false (by omega)]
        rfl
      exact x_seqR (x_if (b := true) (Et.to (by walk_at "Et") (by rw [hn]; rfl)) (fun _ => x_ret (by walk_at "Eb")) fun h => nomatch h)
  · have ht' : isTup x = false := by simpa using ht
    show DX _ _ _ (.rt (.va (.bool (soundD x))))
    rw [no x ht']
    refine x_seqR (x_if (b := true) (Et.to (t_or (a := !isTup x) (b := false) (by walk_at "Et") fun h => ?_) (by rw [ht']; rfl)) (fun _ => x_ret (by walk_at "Eb")) fun h => nomatch h)
    rw [ht'] at h
    cases h
/-! ### _law_cell_at -/
abbrev s_L_cell_at : Stmt := topS 35
abbrev n_L_cell_at : List Str := ["_law_script", "_law_k"]
theorem sc_L_cell_at : FnScope n_L_cell_at ["_law_script", "_law_k"] (defScope s_L_cell_at) := ⟨rfl, rfl, rfl, by decide +kernel, rfl, by decide +kernel, by decide +kernel⟩
abbrev R_L_cell_at := Rf (fun x : List Int × Int => [frz x.1, .int x.2]) (fun x => 0 ≤ x.2) (fun x => .va (.int (cellAt x.1 x.2)))
theorem ok_L_cell_at {f : Addr} {fd : FuncData} (F : Fun K "_law_cell_at" "_law_cell_at" s_L_cell_at f fd) (m_f : mg "_law_cell_at" = some (.ref f)) (b_len : mg "len" = none) : Cal P w K mg base 1 "_law_cell_at" ["_law_script", "_law_k"] R_L_cell_at := by
  letI : KK := ⟨K⟩
  refine cal_of (F.ok sc_L_cell_at (len_of fun _ => rfl) (fun cdv A outer s H vs Q E hr h => ⟨_,
      (pss_cons (ps_if (pt_cmpR op_lt (pv 1) (pe_callB (j_len K) (by rfl) b_len (by decide +kernel) (pa_cons (pv 0) pa_nil)) (nomark _)) (pss_one (ps_ret (j_ix K (pv 0) (pv 1)))) pss_nil)
      (pss_one (ps_ret pe_int))), ?_⟩)) m_f F.kp (F.binds (ps := ["_law_script", "_law_k"]) fun _ _ _ _ _ _ us hl => match us, hl with | [_, _], _ => rfl)
  refine run_def (N := n_L_cell_at) h fun x hx => ?_

  obtain ⟨ns, k⟩ := x
  have hk : 0 ≤ k := hx
  show DX _ _ _ (.rt (.va (.int (cellAt ns k))))
  unfold cellAt
  by_cases h1 : k < (ns.length : Int)
  · rw [if_pos h1]
    have ha : atI ns k = some (ns.getD k.toNat 0) := atI_pos hk (getD_some (by omega))
    exact x_seqR (x_if (by walk_at "Et") (fun _ => x_ret (by walk_at "Eb")) fun h => absurd h1 (of_decide_eq_false h))
  · rw [if_neg h1]
    refine x_seq (x_if (by walk_at "Et") (fun h => absurd (of_decide_eq_true h) h1) fun _ => x_next) ?_
    exact x_ret (by walk_at "Eb")
/-! ### looked -/
abbrev s_looked : Stmt := topS 10
abbrev n_looked : List Str := ["jobs", "job"]
theorem sc_looked : FnScope n_looked ["jobs"] (defScope s_looked) := ⟨rfl, rfl, rfl, by decide +kernel, rfl, by decide +kernel, by decide +kernel⟩
abbrev R_looked [EK] := RX0 (fun js : List Job => [jobsD js]) (fun js => js.length ≤ 60 ∧ AllS js) (fun js => .va (jobsD js))
theorem k_looked [KK] [EK] {E : XK} {S : DSt} {ta : TA} {js : List Job} (h : Ea ta S [jobsD js]) (hl : js.length ≤ 60) (hs : AllS js) : Eb (tCall (SpR R_looked) [] E ta) S (jobsD js) := e_call0 js h rfl ⟨hl, hs⟩ rfl
theorem z_looked [KK] [EK] {E : XK} {S : DSt} {ta : TA} {ds : List PyData} (h : Ea ta S [.list ds]) (hb : Bad ds) : Rz E (tCall (SpR R_looked) [] E ta) S (badC ds) := z_call0 h hb
local macro_rules | `(tactic| walk_at "call") => `(tactic| (apply k_looked; (walk_at "Ea"); (walk_at "side"); (walk_at "side")))
theorem ok_looked {f : Addr} {fd : FuncData} (F : Fun K "looked" "looked" s_looked f fd) (m_f : mg "looked" = some (.ref f)) (b_len : mg "len" = none) {t_LIMIT : Tok} (m_LIMIT : mg "LIMIT" = some (.int 60 t_LIMIT)) (e_TooMany : ExF K mg "TooMany" EK.TooMany) (e_BadJob : ExF K mg "BadJob" EK.BadJob) (c_sound : Cal P w K mg base 2 "sound" ["job"] R_sound) : CalX P w K mg base 3 "looked" ["jobs"] R_looked := by
  letI : KK := ⟨K⟩
  refine calX_of (F.okX sc_looked (len_of0 fun _ => rfl) (fun cdv A outer s H vs Q E hr h => ⟨_,
      (pss_cons (ps_if (pt_cmpR op_gt (pe_callB (j_len K) (by rfl) b_len (by decide +kernel) (pa_cons (pv 0) pa_nil)) (pe_glob (v := .int 60) rfl m_LIMIT ⟨_, rfl⟩) (nomark _)) (pss_one (ps_raiseE rfl (takes_of rfl rfl rfl rfl) e_TooMany rfl)) pss_nil)
      (pss_cons (ps_for (passes_of rfl) rfl (j_iList K (pv 0)) (pg_name (i := 1) sc_looked.nd rfl (Or.inl rfl))
        (pss_one (ps_if (pt_not (j_tru K (c_sound.pe (hr.mono (by decide)) rfl (pa_cons (pv 1) pa_nil)))) (pss_one (ps_raiseE rfl (takes_of rfl rfl rfl rfl) e_BadJob rfl)) pss_nil)))
      (pss_one (ps_ret (pv 0))))), ?_⟩)) m_f F.kp (F.binds (ps := ["jobs"]) fun _ _ _ _ _ _ us hl => match us, hl with | [_], _ => rfl)
  refine run_def0 (N := n_looked) h ⟨fun x hx => ?gd, ?bd⟩

  case gd =>
    obtain ⟨hl, hs⟩ := hx
    refine x_seq (x_if (b := false) (Et.to (by walk_at "Et") (decide_eq_false (by simp only [List.length_map]; omega))) (fun h => nomatch h) fun _ => x_next) ?_
    refine x_seq (x_for (fun _ => [.va (jobsD x), .no]) (i_list (by walk_at "Ep")) Le.rfl' fun i d hd => ?_) (x_ret (by walk_at "Eb"))
    rw [List.getElem?_map] at hd
    obtain ⟨j, hj, rfl⟩ := Option.map_eq_some_iff.mp hd
    have h1 := hs j (List.mem_of_getElem? hj)
    refine ⟨_, _, _, g_name, .inl (x_if (b := false) (Et.to (by walk_at "Et") ?_) (fun h => nomatch h) fun _ => x_next), by walk_at "Le"⟩
    rw [(soundD_job j).mpr h1]
    rfl
  case bd =>
    intro ds hb
    by_cases hl : ds.length ≤ 60
    · have e : badC ds = EK.BadJob := if_pos hl
      rw [e]
      have hb2 : ¬ ∀ d ∈ ds, soundD d = true := fun h => hb ⟨hl, h⟩
      have hgo := goS_all (P := fun d => soundD d = true) (q := .ex EK.BadJob) ds
      rw [if_neg hb2] at hgo
      refine x_seq (x_if (b := false) (Et.to (by walk_at "Et") (decide_eq_false (by omega))) (fun h => nomatch h) fun _ => x_next) ?_
      refine x_forQ (xs := ds) (f := fun d => d) (b0 := ()) (fun _ d => if soundD d = true then .inl () else .inr (.ex EK.BadJob)) (fun _ => [.va (.list ds), .no]) (fun _ => True) (by rw [List.map_id']; exact i_list (by walk_at "Ep")) (by walk_at "Le") trivial (fun u d _ _ => ?_) (fun u h _ => ?_) (fun r h => ?_)
      · by_cases q : soundD d = true
        · rw [if_pos q]
          exact ⟨trivial, _, [.va (.list ds), .va d], [.va (.list ds), .no], g_name, .inl (x_if (b := false) (Et.to (by walk_at "Et") (by rw [q]; rfl)) (fun h => nomatch h) fun _ => x_post x_next (by walk_at "Le")), Le.rfl'⟩
        · rw [if_neg q]
          exact ⟨_, [.va (.list ds), .va d], g_name, x_if (b := true) (Et.to (by walk_at "Et") (by simpa using q)) (fun _ => x_raise) fun h => nomatch h⟩
      · rw [h] at hgo
        cases hgo
      · rw [h] at hgo
        exact Sum.inr.inj hgo
    · have e : badC ds = EK.TooMany := if_neg hl
      rw [e]
      exact x_seqR (x_if (b := true) (Et.to (by walk_at "Et") (decide_eq_true (by omega))) (fun _ => x_raise) fun h => nomatch h)
/-! ### written -/
abbrev s_written : Stmt := topS 30
abbrev n_written : List Str := ["jobs", "rows", "come", "length", "due"]
theorem sc_written : FnScope n_written ["jobs"] (defScope s_written) := ⟨rfl, rfl, rfl, by decide +kernel, rfl, by decide +kernel, by decide +kernel⟩
def txtI (i : Int) : Str := Str.ofString (toString i)
def rowF (j : Job) : Str := (((((Str.empty ++ txtI j.1) ++ Str.ofString " ") ++ txtI j.2.1) ++ Str.ofString " ") ++ txtI j.2.2) ++ Str.ofString "\n"
def writtenF (js : List Job) : Str := Txt.join (Str.ofString "") (js.map rowF)
def Sml (j : Job) : Prop := j.1.natAbs.log2 < 1920 ∧ j.2.1.natAbs.log2 < 1920 ∧ j.2.2.natAbs.log2 < 1920
theorem txtI_len {i : Int} (h : i.natAbs.log2 < 1920) : (txtI i).length ≤ 1921 := PyProof.Rows.int_text_len_1921 h
theorem add_len (a b : Str) : (a ++ b).length = a.length + b.length := by
  exact Str.length_append a b
theorem rowF_len {j : Job} (h : Sml j) : (rowF j).length ≤ 5766 := by
  obtain ⟨h1, h2, h3⟩ := h
  have a := txtI_len h1
  have b := txtI_len h2
  have c := txtI_len h3
  have e1 : (Str.ofString " ").length = 1 := by decide +kernel
  have e2 : (Str.ofString "\n").length = 1 := by decide +kernel
  have e0 : Str.empty.length = 0 := rfl
  unfold rowF
  rw [add_len, add_len, add_len, add_len, add_len, add_len]
  omega
abbrev R_written [EK] := RX0 (fun js : List Job => [jobsD js]) (fun js => (js.length ≤ 60 ∧ AllS js) ∧ ∀ j ∈ js, Sml j) (fun js => .va (.str (writtenF js)))
theorem k_written [KK] [EK] {E : XK} {S : DSt} {ta : TA} {js : List Job} (h : Ea ta S [jobsD js]) (hp : js.length ≤ 60 ∧ AllS js) (hm : ∀ j ∈ js, Sml j) : Eb (tCall (SpR R_written) [] E ta) S (.str (writtenF js)) := e_call0 js h rfl ⟨hp, hm⟩ rfl
theorem z_written [KK] [EK] {E : XK} {S : DSt} {ta : TA} {ds : List PyData} (h : Ea ta S [.list ds]) (hb : Bad ds) : Rz E (tCall (SpR R_written) [] E ta) S (badC ds) := z_call0 h hb
local macro_rules | `(tactic| walk_at "call") => `(tactic| (apply k_written; (walk_at "Ea"); (walk_at "side"); (walk_at "side")))
theorem ok_written {f : Addr} {fd : FuncData} (F : Fun K "written" "written" s_written f fd) (m_f : mg "written" = some (.ref f)) (c_looked : CalX P w K mg base 3 "looked" ["jobs"] R_looked) : CalX P w K mg base 4 "written" ["jobs"] R_written := by
  letI : KK := ⟨K⟩
  refine calX_of (F.okX sc_written (len_of0 fun _ => rfl) (fun cdv A outer s H vs Q E hr h => ⟨_,
      (pss_cons (ps_set (i := 1) sc_written.nd rfl (Or.inl rfl) (pe_lst pa_nil))
      (pss_cons (ps_for (passes_of rfl) rfl (j_iList K (c_looked.pe (E := E) (hr.mono (by decide)) rfl (passes_call (takes_of rfl rfl rfl rfl) (fun _ _ _ _ h => h)) (pa_cons (pv 0) pa_nil))) (j_tup K (n := 3) rfl (pgs_cons (pg_name (i := 2) sc_written.nd rfl (Or.inl rfl)) (pgs_cons (pg_name (i := 3) sc_written.nd rfl (Or.inl rfl)) (pgs_cons (pg_name (i := 4) sc_written.nd rfl (Or.inl rfl)) pgs_nil))))
        (pss_one (ps_expr (j_app K (pv 1) (pe_joined (PJ.cons (pe_fmt (pv 2)) (PJ.cons pe_str (PJ.cons (pe_fmt (pv 3)) (PJ.cons pe_str (PJ.cons (pe_fmt (pv 4)) (PJ.cons pe_str PJ.nil)))))))))))
      (pss_one (ps_ret (j_join K pe_str (pv 1)))))), ?_⟩)) m_f F.kp (F.binds (ps := ["jobs"]) fun _ _ _ _ _ _ us hl => match us, hl with | [_], _ => rfl)
  refine run_def0 (N := n_written) h ⟨fun x hx => ?gd, ?bd⟩

  case gd =>
    obtain ⟨⟨hl, hs⟩, hm⟩ : (x.length ≤ 60 ∧ AllS x) ∧ ∀ j ∈ x, Sml j := hx
    show DX _ _ [.va (jobsD x), .no, .no, .no, .no] (.rt (.va (.str (writtenF x))))
    by_cases hx0 : x = []
    · subst hx0
      refine x_seq (x_set (i := 1) (d := .list []) (Ep.new (by walk_at "En") rfl)) ?_
      refine x_seq (x_for (fun i => [.va (jobsD []), .va (.list []), .no, .no, .no]) (i_list (ds := []) (Ep.free (k_looked (js := []) (by walk_at "Ea") hl hs) rfl)) (by walk_at "Le") fun i d hd => (nomatch hd)) ?_
      exact x_ret (e_join (ys := []) (by walk_at "Eb") (by walk_at "Eb") (by decide))
    refine x_seq (x_setO (i := 1) (ds := []) (by walk_at "En") rfl) ?_
    refine x_seq (x_for (fun i => [.va (jobsD x), .ow (((x.take i).map rowF).map .str), .no, .no, .no]) (i_list (Ep.lone (k_looked (by walk_at "Ea") hl hs) (immL_jobs _) (fun j es h => ?lone))) (by walk_at "Le") fun i d hd => ?_) ?_
    case lone =>
      have hl0 : x.length ≠ 0 := fun z => hx0 (List.length_eq_zero_iff.mp z)
      match j, h with
      | 1, h =>
        cases h
        rw [List.length_map]
        exact fun z => hl0 z.symm
      | j + 5, h => cases h
    · rw [List.getElem?_map] at hd
      obtain ⟨j, hj, rfl⟩ := Option.map_eq_some_iff.mp hd
      have hsm := hm j (List.mem_of_getElem? hj)
      obtain ⟨m1, m2, m3⟩ := hsm
      have et : (((x.take (i + 1)).map rowF).map PyData.str) = ((x.take i).map rowF).map PyData.str ++ [.str (rowF j)] := by
        rw [List.take_succ, hj, List.map_append, List.map_append]
        rfl
      rw [et]
      have hlz : (((x.take i).map rowF).map PyData.str).length < 100000 := by rw [List.length_map, List.length_map, List.length_take]; omega
      generalize ((x.take i).map rowF).map PyData.str = rows at *
      have a := txtI_len m1
      have b := txtI_len m2
      have c := txtI_len m3
      have s1 : (Str.ofString " ").length = 1 := by decide +kernel
      have s2 : (Str.ofString "\n").length = 1 := by decide +kernel
      have s0 : Str.empty.length = 0 := rfl
      have sz : sizeLine = 16777216 := sizeLine_eq
      refine ⟨_, [.va (jobsD x), .ow rows, .va (.int j.1), .va (.int j.2.1), .va (.int j.2.2)], [.va (jobsD x), .ow (rows ++ [.str (rowF j)]), .no, .no, .no], g_tup (gs_cons g_name (gs_cons g_name (gs_cons g_name gs_nil))) rfl, .inl ?_, Le.rfl'⟩
      refine x_post (x_app (i := 1) (d := .str (rowF j)) rfl (e_joined (ej_cons (e_fmtI (by walk_at "Eb") m1) (by rw [add_len]; show 0 + (txtI j.1).length ≤ _; omega) (ej_cons e_str (by rw [add_len, add_len]; show 0 + (txtI j.1).length + (Str.ofString " ").length ≤ _; omega) (ej_cons (e_fmtI (by walk_at "Eb") m2) (by rw [add_len, add_len, add_len]; show 0 + (txtI j.1).length + (Str.ofString " ").length + (txtI j.2.1).length ≤ _; omega) (ej_cons e_str (by rw [add_len, add_len, add_len, add_len]; show 0 + (txtI j.1).length + (Str.ofString " ").length + (txtI j.2.1).length + (Str.ofString " ").length ≤ _; omega) (ej_cons (e_fmtI (by walk_at "Eb") m3) (by rw [add_len, add_len, add_len, add_len, add_len]; show 0 + (txtI j.1).length + (Str.ofString " ").length + (txtI j.2.1).length + (Str.ofString " ").length + (txtI j.2.2).length ≤ _; omega) (ej_cons e_str (by rw [add_len, add_len, add_len, add_len, add_len, add_len]; show 0 + (txtI j.1).length + (Str.ofString " ").length + (txtI j.2.1).length + (Str.ofString " ").length + (txtI j.2.2).length + (Str.ofString "\n").length ≤ _; omega) ej_nil))))))) rfl hlz) (by walk_at "Le")
    · rw [List.length_map, List.take_length]
      refine x_ret (e_join (ys := x.map rowF) (by walk_at "Eb") (by walk_at "Eb") ?_)
      have hsum : ∀ l : List Job, (∀ j ∈ l, Sml j) → ((l.map rowF).map (·.length)).sum ≤ l.length * 5766 := fun l => by
        induction l with
        | nil => exact fun _ => Nat.le_refl _
        | cons j r ih =>
          intro h
          have := ih fun y hy => h y (List.mem_cons_of_mem _ hy)
          have := rowF_len (h j List.mem_cons_self)
          rw [List.map_cons, List.map_cons, List.sum_cons, List.length_cons]
          omega
      have := hsum x hm
      have e0 : (Str.ofString "").length = 0 := by decide +kernel
      rw [e0]
      omega
  case bd =>
    intro ds hb
    refine x_seq (x_setO (i := 1) (ds := []) (by walk_at "En") rfl) ?_
    exact x_seqR (z_forL (z_looked (by walk_at "Ea") hb))
/-! ### load -/
abbrev s_load : Stmt := topS 11
abbrev n_load : List Str := ["jobs", "begin", "end", "total", "job"]
theorem sc_load : FnScope n_load ["jobs", "begin", "end"] (defScope s_load) := ⟨rfl, rfl, rfl, by decide +kernel, rfl, by decide +kernel, by decide +kernel⟩
theorem loadP_take {js : List Job} {i : Nat} {j : Job} {a b : Int} (h : js[i]? = some j) : loadP (js.take (i + 1)) a b = loadP (js.take i) a b + (if (decide (a ≤ j.1) && decide (j.2.2 ≤ b)) = true then j.2.1 else 0) := by
  unfold loadP
  have e : js.take (i + 1) = js.take i ++ [j] := by
    rw [List.take_succ, h]
    rfl
  rw [e, List.filter_append, List.map_append, List.sum_append]
  congr 1
  by_cases q : (decide (a ≤ j.1) && decide (j.2.2 ≤ b)) = true
  · rw [if_pos q, List.filter_cons_of_pos (p := fun j : Job => decide (a ≤ j.1) && decide (j.2.2 ≤ b)) q]
    simp
  · rw [if_neg q, List.filter_cons_of_neg (p := fun j : Job => decide (a ≤ j.1) && decide (j.2.2 ≤ b)) q]
    rfl
abbrev R_load := Rf (fun x : List Job × Int × Int => [jobsD x.1, .int x.2.1, .int x.2.2]) (fun _ => True) (fun x => .va (.int (loadP x.1 x.2.1 x.2.2)))
theorem k_load [KK] {E : XK} {S : DSt} {ta : TA} {js : List Job} {a b : Int} (h : Ea ta S [jobsD js, .int a, .int b]) : Eb (tCall (SpR R_load) [] E ta) S (.int (loadP js a b)) := e_callR (js, a, b) h rfl trivial rfl
local macro_rules | `(tactic| walk_at "call") => `(tactic| (apply k_load; walk_at "Ea"))
theorem ok_load {f : Addr} {fd : FuncData} (F : Fun K "load" "load" s_load f fd) (m_f : mg "load" = some (.ref f)) : Cal P w K mg base 1 "load" ["jobs", "begin", "end"] R_load := by
  letI : KK := ⟨K⟩
  refine cal_of (F.ok sc_load (len_of fun _ => rfl) (fun cdv A outer s H vs Q E hr h => ⟨_,
      (pss_cons (ps_set (i := 3) sc_load.nd rfl (Or.inl rfl) pe_int)
      (pss_cons (ps_for PassesOwn.never rfl (j_iList K (pv 0)) (pg_name (i := 4) sc_load.nd rfl (Or.inl rfl))
        (pss_one (ps_if (PW.pt (pw_and (pt_cmpR op_ge (j_ix K (pv 4) pe_int) (pv 1) (nomark _)) (pw_and1 (pt_cmpR op_le (j_ix K (pv 4) pe_int) (pv 2) (nomark _))))) (pss_one (ps_set (i := 3) sc_load.nd rfl (Or.inl rfl) (pe_op op_plus (pv 3) (j_ix K (pv 4) pe_int)))) pss_nil)))
      (pss_one (ps_ret (pv 3))))), ?_⟩)) m_f F.kp (F.binds (ps := ["jobs", "begin", "end"]) fun _ _ _ _ _ _ us hl => match us, hl with | [_, _, _], _ => rfl)
  refine run_def (N := n_load) h fun x hx => ?_

  obtain ⟨js, a, b⟩ := x
  refine x_seq (x_set (by walk_at "Ep")) ?_
  refine x_seq (x_for (fun i => [.va (jobsD js), .va (.int a), .va (.int b), .va (.int (loadP (js.take i) a b)), .no]) (i_list (by walk_at "Ep")) (by walk_at "Le") fun i d hd => ?_) (x_ret' (by walk_at "Eb") ?_)
  · rw [List.getElem?_map] at hd
    obtain ⟨j, hj, rfl⟩ := Option.map_eq_some_iff.mp hd
    rw [loadP_take hj]
    by_cases q : (decide (a ≤ j.1) && decide (j.2.2 ≤ b)) = true
    · rw [if_pos q]
      exact ⟨_, _, _, g_name, .inl (x_if (b := true) (Et.to (by walk_at "Et") q) (fun _ => x_set (by walk_at "Ep")) (fun h => nomatch h)), by walk_at "Le"⟩
    · rw [if_neg q, Int.add_zero]
      exact ⟨_, _, _, g_name, .inl (x_if (b := false) (Et.to (by walk_at "Et") (by simpa using q)) (fun h => nomatch h) (fun _ => x_next)), by walk_at "Le"⟩
  · rw [List.length_map, List.take_length]
/-! ### asked -/
abbrev s_asked : Stmt := topS 12
abbrev n_asked : List Str := ["jobs", "begin", "end"]
theorem sc_asked : FnScope n_asked ["jobs", "begin", "end"] (defScope s_asked) := ⟨rfl, rfl, rfl, by decide +kernel, rfl, by decide +kernel, by decide +kernel⟩
abbrev R_asked [EK] := RX2 (fun x : List Job × Int × Int => [jobsD x.1, .int x.2.1, .int x.2.2]) (fun x => x.1.length ≤ 60 ∧ AllS x.1) (fun x => .va (.int (loadP x.1 x.2.1 x.2.2)))
theorem k_asked [KK] [EK] {E : XK} {S : DSt} {ta : TA} {js : List Job} {a b : Int} (h : Ea ta S [jobsD js, .int a, .int b]) (hl : js.length ≤ 60) (hs : AllS js) : Eb (tCall (SpR R_asked) [] E ta) S (.int (loadP js a b)) := e_call2 (js, a, b) h rfl ⟨hl, hs⟩ rfl
theorem z_asked [KK] [EK] {E : XK} {S : DSt} {ta : TA} {ds : List PyData} {a b : PyData} (h : Ea ta S [.list ds, a, b]) (hb : Bad ds) : Rz E (tCall (SpR R_asked) [] E ta) S (badC ds) := z_call2 h hb
local macro_rules | `(tactic| walk_at "call") => `(tactic| (apply k_asked; (walk_at "Ea"); (walk_at "side"); (walk_at "side")))
theorem ok_asked {f : Addr} {fd : FuncData} (F : Fun K "asked" "asked" s_asked f fd) (m_f : mg "asked" = some (.ref f)) (c_load : Cal P w K mg base 1 "load" ["jobs", "begin", "end"] R_load) (c_looked : CalX P w K mg base 3 "looked" ["jobs"] R_looked) : CalX P w K mg base 4 "asked" ["jobs", "begin", "end"] R_asked := by
  letI : KK := ⟨K⟩
  refine calX_of (F.okX sc_asked (len_of2 fun _ => rfl) (fun cdv A outer s H vs Q E hr h => ⟨_,
      (pss_one (ps_ret (c_load.pe (hr.mono (by decide)) rfl (pa_cons (c_looked.pe (E := E) (hr.mono (by decide)) rfl (passes_call (takes_of rfl rfl rfl rfl) (fun _ _ _ _ h => h)) (pa_cons (pv 0) pa_nil)) (pa_cons (pv 1) (pa_cons (pv 2) pa_nil)))))), ?_⟩)) m_f F.kp (F.binds (ps := ["jobs", "begin", "end"]) fun _ _ _ _ _ _ us hl => match us, hl with | [_, _, _], _ => rfl)
  refine run_def2 (N := n_asked) h ⟨fun x hx => ?gd, ?bd⟩

  case gd =>
    obtain ⟨js, a, b⟩ := x
    obtain ⟨hl, hs⟩ : js.length ≤ 60 ∧ AllS js := hx
    exact x_ret (by walk_at "Eb")
  case bd =>
    intro ds a b hb
    exact z_ret (z_arg1 (z_looked (by walk_at "Ea") hb))
/-! ### nearest -/
abbrev s_nearest : Stmt := topS 14
abbrev n_nearest : List Str := ["jobs", "left", "time", "best", "place", "job"]
theorem sc_nearest : FnScope n_nearest ["jobs", "left", "time"] (defScope s_nearest) := ⟨rfl, rfl, rfl, by decide +kernel, rfl, by decide +kernel, by decide +kernel⟩
abbrev R_nearest := Rf (fun x : List Job × List Int × Int => [jobsD x.1, intsD x.2.1, .int x.2.2]) (fun x => x.2.1.length = x.1.length) (fun x => .va (optD (nearF x.1 x.2.1 x.2.2)))
theorem k_nearest [KK] {E : XK} {S : DSt} {ta : TA} {js : List Job} {left : List Int} {t : Int} (h : Ea ta S [jobsD js, intsD left, .int t]) (hl : left.length = js.length) : Eb (tCall (SpR R_nearest) [] E ta) S (optD (nearF js left t)) := e_callR (js, left, t) h rfl hl rfl
local macro_rules | `(tactic| walk_at "call") => `(tactic| (apply k_nearest; (walk_at "Ea"); (walk_at "side")))
theorem ok_nearest {f : Addr} {fd : FuncData} (F : Fun K "nearest" "nearest" s_nearest f fd) (m_f : mg "nearest" = some (.ref f)) (b_enumerate : mg "enumerate" = none) : Cal P w K mg base 1 "nearest" ["jobs", "left", "time"] R_nearest := by
  letI : KK := ⟨K⟩
  refine cal_of (F.ok sc_nearest (len_of fun _ => rfl) (fun cdv A outer s H vs Q E hr h => ⟨_,
      (pss_cons (ps_set (i := 3) sc_nearest.nd rfl (Or.inl rfl) pe_non)
      (pss_cons (ps_for PassesOwn.never rfl (j_enum K rfl b_enumerate (pa_cons (pv 0) pa_nil)) (j_tup K (n := 2) rfl (pgs_cons (pg_name (i := 4) sc_nearest.nd rfl (Or.inl rfl)) (pgs_cons (pg_name (i := 5) sc_nearest.nd rfl (Or.inl rfl)) pgs_nil)))
        (pss_one (ps_if (PW.pt (pw_and (pt_cmpR op_le (j_ix K (pv 5) pe_int) (pv 2) (nomark _)) (pw_and1 (pt_cmpR op_gt (j_ix K (pv 1) (pv 4)) pe_int (nomark _))))) (pss_one (ps_if (PW.pt (pw_or (pt_cmpR op_isNo (pv 3) pe_non (nomark _)) (pw_or1 (pt_cmpR op_lt (j_ix K (pv 5) pe_int) (j_ix K (j_ix K (pv 0) (pv 3)) pe_int) (nomark _))))) (pss_one (ps_set (i := 3) sc_nearest.nd rfl (Or.inl rfl) (pv 4))) pss_nil)) pss_nil)))
      (pss_one (ps_ret (pv 3))))), ?_⟩)) m_f F.kp (F.binds (ps := ["jobs", "left", "time"]) fun _ _ _ _ _ _ us hl => match us, hl with | [_, _, _], _ => rfl)
  refine run_def (N := n_nearest) h fun x hx => ?_

  obtain ⟨js, left, t⟩ := x
  have hl : left.length = js.length := hx
  show DX _ _ _ (.rt (.va (optD (nearF js left t))))
  refine x_seq (x_set (d := .none) (by walk_at "Ep")) ?_
  refine x_seq (x_for (fun i => [.va (jobsD js), .va (intsD left), .va (.int t), .va (optD (nearUp js left t i)), .no, .no]) (i_enum (by walk_at "Ep")) (by walk_at "Le") fun i d hd => ?_) ?_
  · rw [List.getElem?_mapIdx, List.getElem?_map, Option.map_map] at hd
    obtain ⟨j, hj, rfl⟩ := Option.map_eq_some_iff.mp hd
    have hi : i < js.length := (List.getElem?_eq_some_iff.mp hj).1
    have ej := jAt_of hj
    have hat : atI (left.map PyData.int) (i : Int) = some (.int (lAt left i)) := at_map (getD_some (by omega))
    have hlt : ∀ p, nearUp js left t i = some p → p < i := fun p h => nearUp_lt h
    show ∃ ws S1 S2, Dg ws _ (.tuple [.int (i : Int), jobD j]) _ S1 ∧ _ ∧ Le S2 [.va (jobsD js), .va (intsD left), .va (.int t), .va (optD (nearStep js left t (nearUp js left t i) i)), .no, .no]
    generalize nearUp js left t i = b at *
    refine ⟨_, _, [.va (jobsD js), .va (intsD left), .va (.int t), .va (optD (nearStep js left t b i)), .va (.int (i : Int)), .va (jobD j)], g_tup (gs_cons g_name (gs_cons g_name gs_nil)) rfl, .inl ?_, by walk_at "Le"⟩
    unfold nearStep
    rw [ej]
    by_cases q : j.1 ≤ t ∧ 0 < lAt left i
    · rw [if_pos q]
      refine x_if (b := true) (Et.to (by walk_at "Et") (by rw [decide_eq_true q.1, decide_eq_true q.2]; rfl)) (fun _ => ?_) (fun h => nomatch h)
      cases b with
      | none =>
        exact x_if (b := true) (Et.to (t_or (a := true) (b := false) (Et.to (by walk_at "Et") (by rfl)) (fun h => nomatch h)) (by rfl)) (fun _ => x_post (x_set (d := .int (i : Int)) (by walk_at "Ep")) (by walk_at "Le")) (fun h => nomatch h)
      | some p =>
        have hp : p < js.length := by have := hlt p rfl; omega
        have hat2 : atI (jobsL js) (p : Int) = some (jobD (jAt js p)) := at_map (getD_some hp)
        by_cases c : j.2.2 < (jAt js p).2.2
        · show DX _ _ _ (.nx [.va (jobsD js), .va (intsD left), .va (.int t), .va (optD (if j.2.2 < (jAt js p).2.2 then some i else some p)), .va (.int (i : Int)), .va (jobD j)])
          rw [if_pos c]
          exact x_if (b := true) (Et.to (t_or (a := false) (b := true) (Et.to (by walk_at "Et") (by rfl)) (fun _ => Et.to (by walk_at "Et") (by exact decide_eq_true c))) (by rfl)) (fun _ => x_post (x_set (d := .int (i : Int)) (by walk_at "Ep")) (by walk_at "Le")) (fun h => nomatch h)
        · show DX _ _ _ (.nx [.va (jobsD js), .va (intsD left), .va (.int t), .va (optD (if j.2.2 < (jAt js p).2.2 then some i else some p)), .va (.int (i : Int)), .va (jobD j)])
          rw [if_neg c]
          exact x_if (b := false) (Et.to (t_or (a := false) (b := false) (Et.to (by walk_at "Et") (by rfl)) (fun _ => Et.to (by walk_at "Et") (by exact decide_eq_false c))) (by rfl)) (fun h => nomatch h) (fun _ => x_next)
    · rw [if_neg q]
      refine x_if (b := false) (Et.to (by walk_at "Et") (by rw [← Bool.decide_and]; exact decide_eq_false q)) (fun h => nomatch h) (fun _ => x_next)
  · rw [List.length_mapIdx, List.length_map]
    exact x_ret (by walk_at "Eb")
/-! ### chosen -/
abbrev s_chosen : Stmt := topS 15
abbrev n_chosen : List Str := ["jobs", "left", "time"]
theorem sc_chosen : FnScope n_chosen ["jobs", "left", "time"] (defScope s_chosen) := ⟨rfl, rfl, rfl, by decide +kernel, rfl, by decide +kernel, by decide +kernel⟩
abbrev R_chosen [EK] := RX2 (fun x : List Job × List Int × Int => [jobsD x.1, intsD x.2.1, .int x.2.2]) (fun x => x.2.1.length = x.1.length ∧ x.1.length ≤ 60 ∧ AllS x.1) (fun x => .va (optD (nearF x.1 x.2.1 x.2.2)))
theorem k_chosen [KK] [EK] {E : XK} {S : DSt} {ta : TA} {js : List Job} {left : List Int} {t : Int} (h : Ea ta S [jobsD js, intsD left, .int t]) (hp : left.length = js.length ∧ js.length ≤ 60 ∧ AllS js) : Eb (tCall (SpR R_chosen) [] E ta) S (optD (nearF js left t)) := e_call2 (js, left, t) h rfl hp rfl
theorem z_chosen [KK] [EK] {E : XK} {S : DSt} {ta : TA} {ds : List PyData} {a b : PyData} (h : Ea ta S [.list ds, a, b]) (hb : Bad ds) : Rz E (tCall (SpR R_chosen) [] E ta) S (badC ds) := z_call2 h hb
local macro_rules | `(tactic| walk_at "call") => `(tactic| (apply k_chosen; (walk_at "Ea"); (walk_at "side")))
theorem ok_chosen {f : Addr} {fd : FuncData} (F : Fun K "chosen" "chosen" s_chosen f fd) (m_f : mg "chosen" = some (.ref f)) (c_nearest : Cal P w K mg base 1 "nearest" ["jobs", "left", "time"] R_nearest) (c_looked : CalX P w K mg base 3 "looked" ["jobs"] R_looked) : CalX P w K mg base 4 "chosen" ["jobs", "left", "time"] R_chosen := by
  letI : KK := ⟨K⟩
  refine calX_of (F.okX sc_chosen (len_of2 fun _ => rfl) (fun cdv A outer s H vs Q E hr h => ⟨_,
      (pss_one (ps_ret (c_nearest.pe (hr.mono (by decide)) rfl (pa_cons (c_looked.pe (E := E) (hr.mono (by decide)) rfl (passes_call (takes_of rfl rfl rfl rfl) (fun _ _ _ _ h => h)) (pa_cons (pv 0) pa_nil)) (pa_cons (pv 1) (pa_cons (pv 2) pa_nil)))))), ?_⟩)) m_f F.kp (F.binds (ps := ["jobs", "left", "time"]) fun _ _ _ _ _ _ us hl => match us, hl with | [_, _, _], _ => rfl)
  refine run_def2 (N := n_chosen) h ⟨fun x hx => ?gd, ?bd⟩

  case gd =>
    obtain ⟨js, left, t⟩ := x
    obtain ⟨hl, h60, hs⟩ : left.length = js.length ∧ js.length ≤ 60 ∧ AllS js := hx
    exact x_ret (by walk_at "Eb")
  case bd =>
    intro ds a b hb
    exact z_ret (z_arg1 (z_looked (by walk_at "Ea") hb))
/-! ### upcoming -/
abbrev s_upcoming : Stmt := topS 16
abbrev n_upcoming : List Str := ["jobs", "time", "found", "job"]
theorem sc_upcoming : FnScope n_upcoming ["jobs", "time"] (defScope s_upcoming) := ⟨rfl, rfl, rfl, by decide +kernel, rfl, by decide +kernel, by decide +kernel⟩
abbrev R_upcoming := Rf (fun x : List Job × Int => [jobsD x.1, .int x.2]) (fun _ => True) (fun x => .va (optI (upF x.1 x.2)))
theorem k_upcoming [KK] {E : XK} {S : DSt} {ta : TA} {js : List Job} {t : Int} (h : Ea ta S [jobsD js, .int t]) : Eb (tCall (SpR R_upcoming) [] E ta) S (optI (upF js t)) := e_callR (js, t) h rfl trivial rfl
local macro_rules | `(tactic| walk_at "call") => `(tactic| (apply k_upcoming; (walk_at "Ea")))
theorem ok_upcoming {f : Addr} {fd : FuncData} (F : Fun K "upcoming" "upcoming" s_upcoming f fd) (m_f : mg "upcoming" = some (.ref f)) : Cal P w K mg base 1 "upcoming" ["jobs", "time"] R_upcoming := by
  letI : KK := ⟨K⟩
  refine cal_of (F.ok sc_upcoming (len_of fun _ => rfl) (fun cdv A outer s H vs Q E hr h => ⟨_,
      (pss_cons (ps_set (i := 2) sc_upcoming.nd rfl (Or.inl rfl) pe_non)
      (pss_cons (ps_for PassesOwn.never rfl (j_iList K (pv 0)) (pg_name (i := 3) sc_upcoming.nd rfl (Or.inl rfl))
        (pss_one (ps_if (PW.pt (pw_and (pt_cmpR op_gt (j_ix K (pv 3) pe_int) (pv 1) (nomark _)) (pw_and1 (PW.pt (pw_or (pt_cmpR op_isNo (pv 2) pe_non (nomark _)) (pw_or1 (pt_cmpR op_lt (j_ix K (pv 3) pe_int) (pv 2) (nomark _)))))))) (pss_one (ps_set (i := 2) sc_upcoming.nd rfl (Or.inl rfl) (j_ix K (pv 3) pe_int))) pss_nil)))
      (pss_one (ps_ret (pv 2))))), ?_⟩)) m_f F.kp (F.binds (ps := ["jobs", "time"]) fun _ _ _ _ _ _ us hl => match us, hl with | [_, _], _ => rfl)
  refine run_def (N := n_upcoming) h fun x hx => ?_

  obtain ⟨js, t⟩ := x
  show DX _ _ _ (.rt (.va (optI (upF js t))))
  refine x_seq (x_set (d := .none) (by walk_at "Ep")) ?_
  refine x_seq (x_for (fun i => [.va (jobsD js), .va (.int t), .va (optI (upF (js.take i) t)), .no]) (i_list (by walk_at "Ep")) (by walk_at "Le") fun i d hd => ?_) ?_
  · rw [List.getElem?_map] at hd
    obtain ⟨j, hj, rfl⟩ := Option.map_eq_some_iff.mp hd
    rw [upF_take hj]
    generalize upF (js.take i) t = b
    refine ⟨_, _, [.va (jobsD js), .va (.int t), .va (optI (upStep t b j)), .va (jobD j)], g_name, .inl ?_, by walk_at "Le"⟩
    unfold upStep
    by_cases q : t < j.1
    · rw [if_pos q]
      cases b with
      | none =>
        exact x_if (b := true) (Et.to (t_and (a := true) (b := true) (Et.to (by walk_at "Et") (by exact decide_eq_true q)) (fun _ => Et.to (t_or (a := true) (b := false) (Et.to (by walk_at "Et") (by rfl)) (fun h => nomatch h)) (by rfl))) (by rfl)) (fun _ => x_post (x_set (d := .int j.1) (by walk_at "Ep")) (by walk_at "Le")) (fun h => nomatch h)
      | some c =>
        show DX _ _ _ (.nx [.va (jobsD js), .va (.int t), .va (optI (if j.1 < c then some j.1 else some c)), .va (jobD j)])
        by_cases c2 : j.1 < c
        · rw [if_pos c2]
          exact x_if (b := true) (Et.to (t_and (a := true) (b := true) (Et.to (by walk_at "Et") (by exact decide_eq_true q)) (fun _ => Et.to (t_or (a := false) (b := true) (Et.to (by walk_at "Et") (by rfl)) (fun _ => Et.to (by walk_at "Et") (by exact decide_eq_true c2))) (by rfl))) (by rfl)) (fun _ => x_post (x_set (d := .int j.1) (by walk_at "Ep")) (by walk_at "Le")) (fun h => nomatch h)
        · rw [if_neg c2]
          exact x_if (b := false) (Et.to (t_and (a := true) (b := false) (Et.to (by walk_at "Et") (by exact decide_eq_true q)) (fun _ => Et.to (t_or (a := false) (b := false) (Et.to (by walk_at "Et") (by rfl)) (fun _ => Et.to (by walk_at "Et") (by exact decide_eq_false c2))) (by rfl))) (by rfl)) (fun h => nomatch h) (fun _ => x_next)
    · rw [if_neg q]
      exact x_if (b := false) (Et.to (t_and (a := false) (b := false) (Et.to (by walk_at "Et") (by exact decide_eq_false q)) (fun h => nomatch h)) (by rfl)) (fun h => nomatch h) (fun _ => x_next)
  · rw [List.length_map, List.take_length]
    exact x_ret (by walk_at "Eb")
/-! ### joined -/
abbrev s_joined : Stmt := topS 17
abbrev n_joined : List Str := ["pieces", "piece"]
theorem sc_joined : FnScope n_joined ["pieces", "piece"] (defScope s_joined) := ⟨rfl, rfl, rfl, by decide +kernel, rfl, by decide +kernel, by decide +kernel⟩
abbrev R_joined := Rf (fun x : List Piece × Piece => [jobsD x.1, jobD x.2]) (fun x => x.1.length ≤ 1000) (fun x => .nw (jobsL (joinF x.1 x.2)))
theorem k_joined [KK] {E : XK} {S : DSt} {ta : TA} {ps : List Piece} {p : Piece} (h : Ea ta S [jobsD ps, jobD p]) (hl : ps.length ≤ 1000) : En (tCall (SpR R_joined) [] E ta) S (jobsL (joinF ps p)) := n_callR (ps, p) h rfl hl rfl
local macro_rules | `(tactic| walk_at "call") => `(tactic| (apply k_joined; (walk_at "Ea"); (walk_at "side")))
theorem ok_joined {f : Addr} {fd : FuncData} (F : Fun K "joined" "joined" s_joined f fd) (m_f : mg "joined" = some (.ref f)) : Cal P w K mg base 1 "joined" ["pieces", "piece"] R_joined := by
  letI : KK := ⟨K⟩
  refine cal_of (F.ok sc_joined (len_of fun _ => rfl) (fun cdv A outer s H vs Q E hr h => ⟨_,
      (pss_cons (ps_if (PW.pt (pw_and (j_tru K (pv 0)) (pw_and (pt_cmpR (j_eq K hr.units) (j_ix K (j_ix K (pv 0) (pe_un un_neg pe_int)) pe_int) (j_ix K (pv 1) pe_int) (nomark _)) (pw_and1 (pt_cmpR (j_eq K hr.units) (j_ix K (j_ix K (pv 0) (pe_un un_neg pe_int)) pe_int) (j_ix K (pv 1) pe_int) (nomark _)))))) (pss_one (ps_ret (pe_op op_plus (j_sl K (pv 0) po_none (po_some (pe_un un_neg pe_int))) (pe_lst (pa_cons (pe_tup (pa_cons (j_ix K (pv 1) pe_int) (pa_cons (j_ix K (j_ix K (pv 0) (pe_un un_neg pe_int)) pe_int) (pa_cons (j_ix K (pv 1) pe_int) pa_nil)))) pa_nil))))) pss_nil)
      (pss_one (ps_ret (pe_op op_plus (pv 0) (pe_lst (pa_cons (pv 1) pa_nil)))))), ?_⟩)) m_f F.kp (F.binds (ps := ["pieces", "piece"]) fun _ _ _ _ _ _ us hl => match us, hl with | [_, _], _ => rfl)
  refine run_def (N := n_joined) h fun x hx => ?_

  obtain ⟨ps, p⟩ := x
  have hl : ps.length ≤ 1000 := hx
  have hl2 : (jobsL ps).length ≤ 1000 := by rw [List.length_map]; exact hl
  show DX _ _ _ (.rt (.nw (jobsL (joinF ps p))))
  have put : ∀ qs : List Piece, jobsL qs ++ [jobD p] = jobsL (qs ++ [p]) := fun qs => by
    rw [jobsL, jobsL, List.map_append]
    rfl
  rcases List.eq_nil_or_concat ps with e | ⟨qs, l, e⟩
  · subst e
    refine x_seq (x_if (b := false) (Et.to (t_and (a := false) (b := false) (Et.to (by walk_at "Et") (by rfl)) (fun h => nomatch h)) (by rfl)) (fun h => nomatch h) (fun _ => x_next)) ?_
    exact x_retN (En.to (by walk_at "En") (by rfl))
  · rw [List.concat_eq_append] at e
    subst e
    rw [joinF_last]
    have hat : atI (jobsL (qs ++ [l])) (-1) = some (jobD l) := by
      rw [jobsL, List.map_append]
      exact atI_last _ _
    have hz : (!(jobsL (qs ++ [l])).isEmpty) = true := by
      rw [jobsL, List.map_append]
      cases qs <;> rfl
    by_cases c : l.1 = p.1 ∧ l.2.2 = p.2.1
    · rw [if_pos c]
      refine x_seqR (x_if (b := true) (Et.to (by walk_at "Et") (by rw [hz, decide_eq_true c.1, decide_eq_true c.2]; rfl)) (fun _ => ?_) (fun h => nomatch h))
      refine x_retN (En.to (e_cat (ds := cutD (jobsL (qs ++ [l])) none (some (-1))) (es := [jobD (p.1, l.2.1, p.2.2)]) (by walk_at "Eb") (by walk_at "Eb") ?_) ?_)
      · rw [cutD_init, List.length_dropLast]
        show _ + 1 ≤ _
        omega
      · rw [cutD_init, jobsL, List.map_append, List.dropLast_append_of_ne_nil (by simp), jobsL, List.map_append]
        simp
    · rw [if_neg c]
      refine x_seq (x_if (b := false) (Et.to (by walk_at "Et") (by
        rw [hz, ← Bool.decide_and, Bool.true_and]
        exact decide_eq_false c)) (fun h => nomatch h) (fun _ => x_next)) ?_
      rw [← put]
      have hl3 : (jobsL (qs ++ [l])).length + [jobD p].length ≤ 100000 := by
        show _ + 1 ≤ _
        omega
      exact x_retN (by walk_at "En")
/-! ### worked -/
abbrev s_worked : Stmt := topS 18
abbrev n_worked : List Str := ["jobs", "left", "pieces", "time", "place", "coming", "stop", "job"]
theorem sc_worked : FnScope n_worked ["jobs"] (defScope s_worked) := ⟨rfl, rfl, rfl, by decide +kernel, rfl, by decide +kernel, by decide +kernel⟩
abbrev R_worked := Rf (fun js : List Job => [jobsD js]) (fun js => js.length ≤ 60 ∧ AllS js) (fun js => .nw (jobsL (workedF js)))
theorem k_worked [KK] {E : XK} {S : DSt} {ta : TA} {js : List Job} (h : Ea ta S [jobsD js]) (hp : js.length ≤ 60 ∧ AllS js) : En (tCall (SpR R_worked) [] E ta) S (jobsL (workedF js)) := n_callR js h rfl hp rfl
local macro_rules | `(tactic| walk_at "call") => `(tactic| (apply k_worked; (walk_at "Ea"); (walk_at "side")))
def wSl (js : List Job) (w : WS) : DSt := [.va (jobsD js), .ow (w.1.map .int), .ow (jobsL w.2.1), .va (.int w.2.2), .no, .no, .no, .no]
theorem ok_worked {f : Addr} {fd : FuncData} (F : Fun K "worked" "worked" s_worked f fd) (m_f : mg "worked" = some (.ref f)) (b_max : mg "max" = none) (c_nearest : Cal P w K mg base 1 "nearest" ["jobs", "left", "time"] R_nearest) (c_upcoming : Cal P w K mg base 1 "upcoming" ["jobs", "time"] R_upcoming) (c_joined : Cal P w K mg base 1 "joined" ["pieces", "piece"] R_joined) : Cal P w K mg base 2 "worked" ["jobs"] R_worked := by
  letI : KK := ⟨K⟩
  refine cal_of (F.ok sc_worked (len_of fun _ => rfl) (fun cdv A outer s H vs Q E hr h => ⟨_,
      (pss_cons (ps_setLc (i := 1) (own := [("job", 7)]) rfl sc_worked.nd rfl rfl (sw_true rfl rfl rfl (by decide +kernel)) (j_iList K (pv 0)) (blkOk_by (own := [("job", 7)]) (N := n_worked) (sc := (defScope s_worked)) (by decide +kernel)) (fun _ _ _ _ _ => (pg_name (i := 7) sc_worked.nd rfl (Or.inl rfl))) (fun _ _ _ _ _ => pts_nil) (fun _ _ _ _ _ => (j_ix K (pv 7) pe_int)))
      (pss_cons (ps_set (i := 2) sc_worked.nd rfl (Or.inl rfl) (pe_lst pa_nil))
      (pss_cons (ps_set (i := 3) sc_worked.nd rfl (Or.inl rfl) pe_int)
      (pss_cons (ps_while PassesOwn.never (pt_cmpR op_gt (pe_maxD K rfl hr.units (by rfl) b_max (pv 1) pe_int) pe_int (nomark _)) (pss_cons (ps_set (i := 4) sc_worked.nd rfl (Or.inl rfl) (c_nearest.pe (hr.mono (by decide)) rfl (pa_cons (pv 0) (pa_cons (pv 1) (pa_cons (pv 3) pa_nil)))))
        (pss_cons (ps_set (i := 5) sc_worked.nd rfl (Or.inl rfl) (c_upcoming.pe (hr.mono (by decide)) rfl (pa_cons (pv 0) (pa_cons (pv 3) pa_nil))))
        (pss_one (ps_if (pt_cmpR op_isNo (pv 4) pe_non (nomark _)) (pss_one (ps_set (i := 3) sc_worked.nd rfl (Or.inl rfl) (pv 5))) (pss_cons (ps_set (i := 6) sc_worked.nd rfl (Or.inl rfl) (pe_op op_plus (pv 3) (j_ix K (pv 1) (pv 4))))
          (pss_cons (ps_if (PW.pt (pw_and (pt_cmpR op_notNo (pv 5) pe_non (nomark _)) (pw_and1 (pt_cmpR op_lt (pv 5) (pv 6) (nomark _))))) (pss_one (ps_set (i := 6) sc_worked.nd rfl (Or.inl rfl) (pv 5))) pss_nil)
          (pss_cons (ps_set (i := 2) sc_worked.nd rfl (Or.inl rfl) (c_joined.pe (hr.mono (by decide)) rfl (pa_cons (pv 2) (pa_cons (pe_tup (pa_cons (pv 4) (pa_cons (pv 3) (pa_cons (pv 6) pa_nil)))) pa_nil))))
          (pss_cons (ps_asg (pe_op op_sub (j_ix K (pv 1) (pv 4)) (pe_op op_sub (pv 6) (pv 3))) (pg_sub (pv 1) (pv 4) set_list))
          (pss_one (ps_set (i := 3) sc_worked.nd rfl (Or.inl rfl) (pv 6))))))))))))
      (pss_one (ps_ret (pv 2))))))), ?_⟩)) m_f F.kp (F.binds (ps := ["jobs"]) fun _ _ _ _ _ _ us hl => match us, hl with | [_], _ => rfl)
  refine run_def (N := n_worked) h fun x hx => ?_

  obtain ⟨hl, hs⟩ : x.length ≤ 60 ∧ AllS x := hx
  show DX _ _ _ (.rt (.nw (jobsL (workedF x))))
  refine x_seq (x_setO (i := 1) (ds := (lens x).map .int) (En.to (n_lc x (fun j => jobD j) (fun _ => true) (fun j => .int j.2.1) (i_list (by walk_at "Ep")) (by omega) fun j hj => ⟨_, _, by simp, g_name, t_yes, fun _ => ⟨by walk_at "Eb", rfl⟩⟩) (by rw [List.filter_eq_self.mpr (fun _ _ => rfl), lens, List.map_map]; rfl)) (immL_ints _)) ?_
  refine x_seq (x_setO (i := 2) (ds := jobsL []) (by walk_at "En") rfl) ?_
  refine x_seq (x_set (d := .int 0) (by walk_at "Ep")) ?_
  obtain ⟨n1, n2⟩ := wN_spec hs
  refine x_seq (S1 := wSl x (wIter x (wN x))) (x_while (fun i => wSl x (wIter x i)) (wN x) (by walk_at "Le") (fun i hi => ?_) (fun i hi => ?_) ?_) ?_
  · exact Et.to (by walk_at "Et") (by exact decide_eq_true ((mxD_pos _).mpr (n1 i hi)))
  · obtain ⟨iv, lv⟩ := rinv_at hs i fun k hk => n1 k (by omega)
    have hlen := iv.len
    have hb := n1 i hi
    have fw := iv.few
    show ∃ S2, DX _ _ (wSl x (wIter x i)) (.nx S2) ∧ Le S2 (wSl x (wStep x (wIter x i)))
    generalize wIter x i = w at *
    obtain ⟨left, ps, t⟩ := w
    have hlen : left.length = x.length := hlen
    refine ⟨wSl x (wStep x (left, ps, t)), ?_, Le.rfl'⟩
    show DX _ _ [.va (jobsD x), .ow (left.map .int), .ow (jobsL ps), .va (.int t), .no, .no, .no, .no] _
    refine x_seq (x_set (i := 4) (d := optD (nearF x left t)) (Ep.imm (k_nearest (by walk_at "Ea") hlen) (by cases nearF x left t <;> rfl))) ?_
    refine x_seq (x_set (i := 5) (d := optI (upF x t)) (Ep.imm (k_upcoming (by walk_at "Ea")) (by cases upF x t <;> rfl))) ?_
    have hn := nearF_spec x left t
    have hu := upF_spec x t
    unfold wStep
    dsimp only
    generalize nearF x left t = b at hn
    generalize upF x t = c at hu
    cases b with
    | none =>
      obtain ⟨k, hk, hp⟩ := busy_at hb
      have hk : k < left.length := hk
      obtain ⟨c0, ec⟩ : ∃ c0, c = some c0 := by
        cases c with
        | some c0 => exact ⟨c0, rfl⟩
        | none => exact absurd ⟨hu _ (jAt_mem (by omega)), hp⟩ (hn k (by omega))
      subst ec
      refine x_if (b := true) (Et.to (by walk_at "Et") (by rfl)) (fun _ => ?_) (fun h => nomatch h)
      refine x_post (x_set (i := 3) (d := .int c0) (by walk_at "Ep")) (by walk_at "Le")
    | some p =>
      dsimp only
      have hpl : p < left.length := by have := hn.1; omega
      have hat : atI (left.map PyData.int) (p : Int) = some (.int (lAt left p)) := at_map (getD_some hpl)
      refine x_if (b := false) (Et.to (by walk_at "Et") (by rfl)) (fun h => nomatch h) (fun _ => ?_)
      refine x_seq (x_set (i := 6) (d := .int (t + lAt left p)) (by walk_at "Ep")) ?_
      refine x_seq (S1 := [.va (jobsD x), .ow (left.map .int), .ow (jobsL ps), .va (.int t), .va (.int (p : Int)), .no, .va (.int (stopF t (lAt left p) c)), .no]) ?_ ?_
      · cases c with
        | none => exact x_if (b := false) (Et.to (t_and (a := false) (b := false) (Et.to (by walk_at "Et") (by rfl)) (fun h => nomatch h)) (by rfl)) (fun h => nomatch h) (fun _ => x_post x_next (by walk_at "Le"))
        | some c0 =>
          show DX _ _ _ (.nx [.va (jobsD x), .ow (left.map .int), .ow (jobsL ps), .va (.int t), .va (.int (p : Int)), .no, .va (.int (if c0 < t + lAt left p then c0 else t + lAt left p)), .no])
          by_cases q : c0 < t + lAt left p
          · rw [if_pos q]
            exact x_if (b := true) (Et.to (t_and (a := true) (b := true) (Et.to (by walk_at "Et") (by rfl)) (fun _ => Et.to (by walk_at "Et") (by exact decide_eq_true q))) (by rfl)) (fun _ => x_post (x_set (i := 6) (d := .int c0) (by walk_at "Ep")) (by walk_at "Le")) (fun h => nomatch h)
          · rw [if_neg q]
            exact x_if (b := false) (Et.to (t_and (a := true) (b := false) (Et.to (by walk_at "Et") (by rfl)) (fun _ => Et.to (by walk_at "Et") (by exact decide_eq_false q))) (by rfl)) (fun h => nomatch h) (fun _ => x_post x_next (by walk_at "Le"))
      · generalize stopF t (lAt left p) c = e
        have hps : ps.length ≤ 1000 := by
          have fw : ps.length + (cntA x t + cntB left) ≤ 2 * x.length := fw
          omega
        refine x_seq (x_setO (i := 2) (ds := jobsL (joinF ps ((p : Int), t, e))) (k_joined (p := ((p : Int), t, e)) (by walk_at "Ea") hps) (immL_jobs _)) ?_
        have hix : ixN (left.map PyData.int).length (p : Int) = some p := by
          rw [List.length_map]
          unfold ixN
          rw [if_pos (by omega), if_pos (by omega)]
          simp
        refine x_seq (x_put (i := 1) (j := p) (z := (p : Int)) (d := .int (lAt left p - (e - t))) rfl (by walk_at "Eb") rfl (by walk_at "Eb") hix) ?_
        refine x_post (x_set (i := 3) (d := .int e) (by walk_at "Ep")) ?_
        rw [← List.map_set]
        walk_at "Le"
  · exact Et.to (by walk_at "Et") (by exact decide_eq_false fun h => n2 ((mxD_pos _).mp h))
  · exact x_retO (i := 2) rfl
/-! ### run -/
abbrev s_run : Stmt := topS 19
abbrev n_run : List Str := ["jobs"]
theorem sc_run : FnScope n_run ["jobs"] (defScope s_run) := ⟨rfl, rfl, rfl, by decide +kernel, rfl, by decide +kernel, by decide +kernel⟩
abbrev R_run [EK] := RX0 (fun js : List Job => [jobsD js]) (fun js => js.length ≤ 60 ∧ AllS js) (fun js => .nw (jobsL (workedF js)))
theorem k_run [KK] [EK] {E : XK} {S : DSt} {ta : TA} {js : List Job} (h : Ea ta S [jobsD js]) (hp : js.length ≤ 60 ∧ AllS js) : En (tCall (SpR R_run) [] E ta) S (jobsL (workedF js)) := n_call0 js h rfl hp rfl
theorem z_run [KK] [EK] {E : XK} {S : DSt} {ta : TA} {ds : List PyData} (h : Ea ta S [.list ds]) (hb : Bad ds) : Rz E (tCall (SpR R_run) [] E ta) S (badC ds) := z_call0 h hb
local macro_rules | `(tactic| walk_at "call") => `(tactic| (apply k_run; (walk_at "Ea"); (walk_at "side")))
theorem ok_run {f : Addr} {fd : FuncData} (F : Fun K "run" "run" s_run f fd) (m_f : mg "run" = some (.ref f)) (c_worked : Cal P w K mg base 2 "worked" ["jobs"] R_worked) (c_looked : CalX P w K mg base 3 "looked" ["jobs"] R_looked) : CalX P w K mg base 4 "run" ["jobs"] R_run := by
  letI : KK := ⟨K⟩
  refine calX_of (F.okX sc_run (len_of0 fun _ => rfl) (fun cdv A outer s H vs Q E hr h => ⟨_,
      (pss_one (ps_ret (c_worked.pe (hr.mono (by decide)) rfl (pa_cons (c_looked.pe (E := E) (hr.mono (by decide)) rfl (passes_call (takes_of rfl rfl rfl rfl) (fun _ _ _ _ h => h)) (pa_cons (pv 0) pa_nil)) pa_nil)))), ?_⟩)) m_f F.kp (F.binds (ps := ["jobs"]) fun _ _ _ _ _ _ us hl => match us, hl with | [_], _ => rfl)
  refine run_def0 (N := n_run) h ⟨fun x hx => ?gd, ?bd⟩

  case gd =>
    obtain ⟨hl, hs⟩ : x.length ≤ 60 ∧ AllS x := hx
    have hp : x.length ≤ 60 ∧ AllS x := ⟨hl, hs⟩
    exact x_retN (by walk_at "En")
  case bd =>
    intro ds hb
    exact z_ret (z_arg1 (z_looked (by walk_at "Ea") hb))
/-! ### meets -/
abbrev s_meets : Stmt := topS 21
abbrev n_meets : List Str := ["jobs", "way", "left", "time", "place", "begin", "end", "job"]
theorem sc_meets : FnScope n_meets ["jobs", "way"] (defScope s_meets) := ⟨rfl, rfl, rfl, by decide +kernel, rfl, by decide +kernel, by decide +kernel⟩
def meetStp (js : List Job) (s : List Int × Int) (p : Piece) : (List Int × Int) ⊕ Ro := if Fit js s.2 p then .inl (leftStep s.1 p, p.2.2) else .inr (.va (.bool false))
theorem meet_go (js : List Job) : ∀ (way : List Piece) (l : List Int) (t : Int), (∀ s, goS (meetStp js) (l, t) way = .inl s → walkB js t way = true ∧ s.1 = way.foldl leftStep l) ∧ ∀ q, goS (meetStp js) (l, t) way = .inr q → q = .va (.bool false) ∧ ¬ walkB js t way = true
  | [], l, t => ⟨fun s h => ⟨rfl, by rw [← Sum.inl.inj h]; rfl⟩, fun q h => (nomatch h)⟩
  | p :: r, l, t => by
    unfold goS meetStp walkB
    dsimp only
    by_cases q : Fit js t p
    · rw [if_pos q, if_pos q]
      exact meet_go js r (leftStep l p) p.2.2
    · rw [if_neg q, if_neg q]
      exact ⟨fun s h => (nomatch h), fun z h => ⟨(Sum.inr.inj h).symm, by decide⟩⟩
abbrev R_meets [EK] := RX1 (fun x : List Job × List Piece => [jobsD x.1, jobsD x.2]) (fun x => x.1.length ≤ 60 ∧ AllS x.1) (fun x => .va (.bool (meetsB x.1 x.2)))
theorem k_meets [KK] [EK] {E : XK} {S : DSt} {ta : TA} {js : List Job} {way : List Piece} (h : Ea ta S [jobsD js, jobsD way]) (hp : js.length ≤ 60 ∧ AllS js) : Eb (tCall (SpR R_meets) [] E ta) S (.bool (meetsB js way)) := e_call1 (js, way) h rfl hp rfl
theorem z_meets [KK] [EK] {E : XK} {S : DSt} {ta : TA} {ds : List PyData} {a : PyData} (h : Ea ta S [.list ds, a]) (hb : Bad ds) : Rz E (tCall (SpR R_meets) [] E ta) S (badC ds) := z_call1 h hb
local macro_rules | `(tactic| walk_at "call") => `(tactic| (apply k_meets; (walk_at "Ea"); (walk_at "side")))
theorem ok_meets {f : Addr} {fd : FuncData} (F : Fun K "meets" "meets" s_meets f fd) (m_f : mg "meets" = some (.ref f)) (b_len : mg "len" = none) (c_looked : CalX P w K mg base 3 "looked" ["jobs"] R_looked) : CalX P w K mg base 4 "meets" ["jobs", "way"] R_meets := by
  letI : KK := ⟨K⟩
  refine calX_of (F.okX sc_meets (len_of1 fun _ => rfl) (fun cdv A outer s H vs Q E hr h => ⟨_,
      (pss_cons (ps_expr (c_looked.pe (E := E) (hr.mono (by decide)) rfl (passes_call (takes_of rfl rfl rfl rfl) (fun _ _ _ _ h => h)) (pa_cons (pv 0) pa_nil)))
      (pss_cons (ps_setLc (i := 2) (own := [("job", 7)]) rfl sc_meets.nd rfl rfl (sw_true rfl rfl rfl (by decide +kernel)) (j_iList K (pv 0)) (blkOk_by (own := [("job", 7)]) (N := n_meets) (sc := (defScope s_meets)) (by decide +kernel)) (fun _ _ _ _ _ => (pg_name (i := 7) sc_meets.nd rfl (Or.inl rfl))) (fun _ _ _ _ _ => pts_nil) (fun _ _ _ _ _ => (j_ix K (pv 7) pe_int)))
      (pss_cons (ps_set (i := 3) sc_meets.nd rfl (Or.inl rfl) pe_int)
      (pss_cons (ps_for (passes_of rfl) rfl (j_iList K (pv 1)) (j_tup K (n := 3) rfl (pgs_cons (pg_name (i := 4) sc_meets.nd rfl (Or.inl rfl)) (pgs_cons (pg_name (i := 5) sc_meets.nd rfl (Or.inl rfl)) (pgs_cons (pg_name (i := 6) sc_meets.nd rfl (Or.inl rfl)) pgs_nil))))
        (pss_cons (ps_if (PW.pt (pw_or (pt_not (pt_chain op_le op_lt pe_int (pv 4) (pe_callB (j_len K) (by rfl) b_len (by decide +kernel) (pa_cons (pv 0) pa_nil)))) (pw_or1 (pt_not (pt_chain op_le op_lt (pv 3) (pv 5) (pv 6)))))) (pss_one (ps_ret pe_bl)) pss_nil)
        (pss_cons (ps_if (PW.pt (pw_or (pt_cmpR op_lt (pv 5) (j_ix K (j_ix K (pv 0) (pv 4)) pe_int) (nomark _)) (pw_or1 (pt_cmpR op_gt (pv 6) (j_ix K (j_ix K (pv 0) (pv 4)) pe_int) (nomark _))))) (pss_one (ps_ret pe_bl)) pss_nil)
        (pss_cons (ps_asg (pe_op op_sub (j_ix K (pv 2) (pv 4)) (pe_op op_sub (pv 6) (pv 5))) (pg_sub (pv 2) (pv 4) set_list))
        (pss_one (ps_set (i := 3) sc_meets.nd rfl (Or.inl rfl) (pv 6)))))))
      (pss_one (ps_ret (pe_cmpR (j_eq K hr.units) (pv 2) (pe_op op_times (pe_lst (pa_cons pe_int pa_nil)) (pe_callB (j_len K) (by rfl) b_len (by decide +kernel) (pa_cons (pv 0) pa_nil))) (nomark _)))))))), ?_⟩)) m_f F.kp (F.binds (ps := ["jobs", "way"]) fun _ _ _ _ _ _ us hl => match us, hl with | [_, _], _ => rfl)
  refine run_def1 (N := n_meets) h ⟨fun x hx => ?gd, ?bd⟩

  case gd =>
    obtain ⟨js, way⟩ := x
    obtain ⟨hl, hs⟩ : js.length ≤ 60 ∧ AllS js := hx
    show DX _ _ [.va (jobsD js), .va (jobsD way), .no, .no, .no, .no, .no, .no] (.rt (.va (.bool (meetsB js way))))
    refine x_seq (x_drop (by walk_at "Eb")) ?_
    refine x_seq (x_setO (i := 2) (ds := (lens js).map .int) (En.to (n_lc js (fun j => jobD j) (fun _ => true) (fun j => .int j.2.1) (i_list (by walk_at "Ep")) (by omega) fun j hj => ⟨_, _, by simp, g_name, t_yes, fun _ => ⟨by walk_at "Eb", rfl⟩⟩) (by rw [List.filter_eq_self.mpr (fun _ _ => rfl), lens, List.map_map]; rfl)) (immL_ints _)) ?_
    refine x_seq (x_set (i := 3) (d := .int 0) (by walk_at "Ep")) ?_
    refine x_forQ (xs := way) (f := fun p => jobD p) (b0 := (lens js, 0)) (meetStp js) (fun s => [.va (jobsD js), .va (jobsD way), .ow (s.1.map .int), .va (.int s.2), .no, .no, .no, .no]) (fun s => s.1.length = js.length) (i_list (by walk_at "Ep")) (by walk_at "Le") (List.length_map _) (fun s p hinv _ => ?_) (fun s h hinv => ?_) (fun r h => ?_)
    · obtain ⟨left, t⟩ := s
      have hlen : left.length = js.length := hinv
      unfold meetStp
      have b1 : (decide (p.1 < ((js.map fun j : Job => jobD j).length : Int))) = decide (p.1 < (js.length : Int)) := by rw [List.length_map]
      have gt : ∃ ws, Dg ws (gTup K 3 (gCons (gName 4) (gCons (gName 5) (gCons (gName 6) gNil)))) (jobD p) [.va (jobsD js), .va (jobsD way), .ow (left.map .int), .va (.int t), .no, .no, .no, .no] [.va (jobsD js), .va (jobsD way), .ow (left.map .int), .va (.int t), .va (.int p.1), .va (.int p.2.1), .va (.int p.2.2), .no] := ⟨_, g_tup (gs_cons g_name (gs_cons g_name (gs_cons g_name gs_nil))) rfl⟩
      obtain ⟨ws, gt⟩ := gt
      by_cases q1 : (0 ≤ p.1 ∧ p.1 < js.length) ∧ (t ≤ p.2.1 ∧ p.2.1 < p.2.2)
      · have c2 : p.1.toNat < js.length := by omega
        have a1 : atI (jobsL js) p.1 = some (jobD (jAt js p.1.toNat)) := atI_pos q1.1.1 (by rw [List.getElem?_map, getD_some (d := J0) c2]; rfl)
        have a2 : atI (left.map PyData.int) p.1 = some (.int (lAt left p.1.toNat)) := atI_pos q1.1.1 (by rw [List.getElem?_map, getD_some (d := (0 : Int)) (by rw [hlen]; exact c2)]; rfl)
        have a3 : ixN (left.map PyData.int).length p.1 = some p.1.toNat := ixN_pos q1.1.1 (by rw [List.length_map, hlen]; exact c2)
        by_cases q2 : (jAt js p.1.toNat).1 ≤ p.2.1 ∧ p.2.2 ≤ (jAt js p.1.toNat).2.2
        · rw [if_pos (show Fit js t p from ⟨q1.1, q1.2, q2⟩)]
          refine ⟨by show (leftStep left p).length = _; rw [leftStep, List.length_set]; exact hlen, ws, _, [.va (jobsD js), .va (jobsD way), .ow ((leftStep left p).map .int), .va (.int p.2.2), .no, .no, .no, .no], gt, .inl ?_, Le.rfl'⟩
          refine x_seq (x_if (b := false) (Et.to (by walk_at "Et") (by
            rw [b1, decide_eq_true q1.1.1, decide_eq_true q1.1.2, decide_eq_true q1.2.1, decide_eq_true q1.2.2]
            rfl)) (fun h => nomatch h) (fun _ => x_next)) ?_
          refine x_seq (x_if (b := false) (Et.to (by walk_at "Et") (by
            rw [decide_eq_false (Int.not_lt.mpr q2.1), decide_eq_false (Int.not_lt.mpr q2.2)]
            rfl)) (fun h => nomatch h) (fun _ => x_next)) ?_
          refine x_seq (x_put (i := 2) (j := p.1.toNat) (z := p.1) (d := .int (lAt left p.1.toNat - (p.2.2 - p.2.1))) rfl (by walk_at "Eb") rfl (by walk_at "Eb") a3) ?_
          refine x_post (x_set (d := .int p.2.2) (by walk_at "Ep")) ?_
          unfold leftStep
          rw [List.map_set]
          walk_at "Le"
        · rw [if_neg (show ¬ Fit js t p from fun h => q2 h.2.2)]
          refine ⟨ws, _, gt, ?_⟩
          refine x_seq (x_if (b := false) (Et.to (by walk_at "Et") (by
            rw [b1, decide_eq_true q1.1.1, decide_eq_true q1.1.2, decide_eq_true q1.2.1, decide_eq_true q1.2.2]
            rfl)) (fun h => nomatch h) (fun _ => x_next)) ?_
          exact x_seqR (x_if (b := true) (Et.to (by walk_at "Et") (by
            rw [← Bool.decide_or]
            exact decide_eq_true (by omega))) (fun _ => x_ret (by walk_at "Eb")) (fun h => nomatch h))
      · rw [if_neg (show ¬ Fit js t p from fun h => q1 ⟨h.1, h.2.1⟩)]
        refine ⟨ws, _, gt, ?_⟩
        exact x_seqR (x_if (b := true) (Et.to (by walk_at "Et") (by
            rw [b1, ← Bool.decide_and, ← Bool.decide_and, ← decide_not, ← decide_not, ← Bool.decide_or]
            exact decide_eq_true (by omega))) (fun _ => x_ret (by walk_at "Eb")) (fun h => nomatch h))
    · obtain ⟨h1, h2⟩ := (meet_go js way (lens js) 0).1 s h
      have h2 : s.1 = leftAf js way := h2
      have ez : En (tOp rTimes (tLst (tCons (tC (.int 0)) tNil)) (tCB (rLen K) (tCons (tVar 0) tNil))) [.va (jobsD js), .va (jobsD way), .ow (s.1.map .int), .va (.int s.2), .no, .no, .no, .no] ((List.replicate js.length (0 : Int)).map .int) :=
        n_zeros (Eb.to (by walk_at "Eb") (by rw [List.length_map])) (by omega)
      refine x_ret' (e_eq (by walk_at "Eb") ez.b (shaped_ints _) (shaped_ints _)) ?_
      rw [eqv_ints, h2]
      unfold meetsB
      rw [if_pos h1]
    · obtain ⟨h1, h2⟩ := (meet_go js way (lens js) 0).2 r h
      rw [h1]
      unfold meetsB
      rw [if_neg h2]
  case bd =>
    intro ds a hb
    exact x_seqR (z_drop (z_looked (by walk_at "Ea") hb))
/-! ### last_ends -/
abbrev s_last_ends : Stmt := topS 22
abbrev n_last_ends : List Str := ["jobs", "pieces", "found", "place", "begin", "end"]
theorem sc_last_ends : FnScope n_last_ends ["jobs", "pieces"] (defScope s_last_ends) := ⟨rfl, rfl, rfl, by decide +kernel, rfl, by decide +kernel, by decide +kernel⟩
abbrev R_last_ends := Rf (fun x : List Job × List Piece => [jobsD x.1, jobsD x.2]) (fun x => x.1.length ≤ 60 ∧ PlacesIn x.1.length x.2) (fun x => .nw ((endsAf x.1.length x.2).map .int))
theorem k_last_ends [KK] {E : XK} {S : DSt} {ta : TA} {js : List Job} {ps : List Piece} (h : Ea ta S [jobsD js, jobsD ps]) (hl : js.length ≤ 60) (hp : PlacesIn js.length ps) : En (tCall (SpR R_last_ends) [] E ta) S ((endsAf js.length ps).map .int) := n_callR (js, ps) h rfl ⟨hl, hp⟩ rfl
local macro_rules | `(tactic| walk_at "call") => `(tactic| (apply k_last_ends; (walk_at "Ea"); (walk_at "side"); (walk_at "side")))
theorem ok_last_ends {f : Addr} {fd : FuncData} (F : Fun K "last_ends" "last_ends" s_last_ends f fd) (m_f : mg "last_ends" = some (.ref f)) (b_len : mg "len" = none) : Cal P w K mg base 1 "last_ends" ["jobs", "pieces"] R_last_ends := by
  letI : KK := ⟨K⟩
  refine cal_of (F.ok sc_last_ends (len_of fun _ => rfl) (fun cdv A outer s H vs Q E hr h => ⟨_,
      (pss_cons (ps_set (i := 2) sc_last_ends.nd rfl (Or.inl rfl) (pe_op op_times (pe_lst (pa_cons pe_int pa_nil)) (pe_callB (j_len K) (by rfl) b_len (by decide +kernel) (pa_cons (pv 0) pa_nil))))
      (pss_cons (ps_for PassesOwn.never rfl (j_iList K (pv 1)) (j_tup K (n := 3) rfl (pgs_cons (pg_name (i := 3) sc_last_ends.nd rfl (Or.inl rfl)) (pgs_cons (pg_name (i := 4) sc_last_ends.nd rfl (Or.inl rfl)) (pgs_cons (pg_name (i := 5) sc_last_ends.nd rfl (Or.inl rfl)) pgs_nil))))
        (pss_one (ps_asg (pv 5) (pg_sub (pv 2) (pv 3) set_list))))
      (pss_one (ps_ret (pv 2))))), ?_⟩)) m_f F.kp (F.binds (ps := ["jobs", "pieces"]) fun _ _ _ _ _ _ us hl => match us, hl with | [_, _], _ => rfl)
  refine run_def (N := n_last_ends) h fun x hx => ?_

  obtain ⟨js, ps⟩ := x
  obtain ⟨hl, hp⟩ : js.length ≤ 60 ∧ PlacesIn js.length ps := hx
  have ez : En (tOp rTimes (tLst (tCons (tC (.int 0)) tNil)) (tCB (rLen K) (tCons (tVar 0) tNil))) ([.va (jobsD js), .va (jobsD ps), .no, .no, .no, .no]) ((List.replicate js.length (0 : Int)).map .int) :=
    n_zeros (Eb.to (by walk_at "Eb") (by rw [List.length_map])) (by omega)
  refine x_seq (x_setO (i := 2) ez (immL_ints _)) ?_
  refine x_seq (x_for (fun i => [.va (jobsD js), .va (jobsD ps), .ow ((endsAf js.length (ps.take i)).map .int), .no, .no, .no]) (i_list (by walk_at "Ep")) (by walk_at "Le") fun i d hd => ?_) ?_
  · rw [List.getElem?_map] at hd
    obtain ⟨p, hpi, rfl⟩ := Option.map_eq_some_iff.mp hd
    obtain ⟨p0, pn⟩ := hp p (List.mem_of_getElem? hpi)
    have hlen := endsAf_len js.length (ps.take i)
    rw [endsAf_take hpi]
    unfold endStep
    generalize endsAf js.length (ps.take i) = es at *
    have a3 : ixN (es.map PyData.int).length p.1 = some p.1.toNat := ixN_pos p0 (by rw [List.length_map, hlen]; exact pn)
    refine ⟨_, _, [.va (jobsD js), .va (jobsD ps), .ow ((es.set p.1.toNat p.2.2).map .int), .no, .no, .no], g_tup (gs_cons g_name (gs_cons g_name (gs_cons g_name gs_nil))) rfl, .inl ?_, Le.rfl'⟩
    refine x_post (x_put (i := 2) (j := p.1.toNat) (z := p.1) (d := .int p.2.2) rfl (by walk_at "Eb") rfl (by walk_at "Eb") a3) ?_
    rw [List.map_set]
    walk_at "Le"
  · rw [List.length_map, List.take_length]
    exact x_retO (i := 2) rfl
/-! ### ends -/
abbrev s_ends : Stmt := topS 23
abbrev n_ends : List Str := ["jobs"]
theorem sc_ends : FnScope n_ends ["jobs"] (defScope s_ends) := ⟨rfl, rfl, rfl, by decide +kernel, rfl, by decide +kernel, by decide +kernel⟩
abbrev R_ends [EK] := RX0 (fun js : List Job => [jobsD js]) (fun js => js.length ≤ 60 ∧ AllS js) (fun js => .nw ((endsF js).map .int))
theorem k_ends [KK] [EK] {E : XK} {S : DSt} {ta : TA} {js : List Job} (h : Ea ta S [jobsD js]) (hp : js.length ≤ 60 ∧ AllS js) : En (tCall (SpR R_ends) [] E ta) S ((endsF js).map .int) := n_call0 js h rfl hp rfl
theorem z_ends [KK] [EK] {E : XK} {S : DSt} {ta : TA} {ds : List PyData} (h : Ea ta S [.list ds]) (hb : Bad ds) : Rz E (tCall (SpR R_ends) [] E ta) S (badC ds) := z_call0 h hb
local macro_rules | `(tactic| walk_at "call") => `(tactic| (apply k_ends; (walk_at "Ea"); (walk_at "side")))
theorem ok_ends {f : Addr} {fd : FuncData} (F : Fun K "ends" "ends" s_ends f fd) (m_f : mg "ends" = some (.ref f)) (c_last_ends : Cal P w K mg base 1 "last_ends" ["jobs", "pieces"] R_last_ends) (c_worked : Cal P w K mg base 2 "worked" ["jobs"] R_worked) (c_looked : CalX P w K mg base 3 "looked" ["jobs"] R_looked) : CalX P w K mg base 4 "ends" ["jobs"] R_ends := by
  letI : KK := ⟨K⟩
  refine calX_of (F.okX sc_ends (len_of0 fun _ => rfl) (fun cdv A outer s H vs Q E hr h => ⟨_,
      (pss_one (ps_ret (c_last_ends.pe (hr.mono (by decide)) rfl (pa_cons (c_looked.pe (E := E) (hr.mono (by decide)) rfl (passes_call (takes_of rfl rfl rfl rfl) (fun _ _ _ _ h => h)) (pa_cons (pv 0) pa_nil)) (pa_cons (c_worked.pe (hr.mono (by decide)) rfl (pa_cons (pv 0) pa_nil)) pa_nil))))), ?_⟩)) m_f F.kp (F.binds (ps := ["jobs"]) fun _ _ _ _ _ _ us hl => match us, hl with | [_], _ => rfl)
  refine run_def0 (N := n_ends) h ⟨fun x hx => ?gd, ?bd⟩

  case gd =>
    obtain ⟨hl, hs⟩ : x.length ≤ 60 ∧ AllS x := hx
    have hp : x.length ≤ 60 ∧ AllS x := ⟨hl, hs⟩
    have hq : PlacesIn x.length (workedF x) := good_places (ran hs).good
    exact x_retN (by walk_at "En")
  case bd =>
    intro ds hb
    exact z_ret (z_arg1 (z_looked (by walk_at "Ea") hb))
/-! ### late -/
abbrev s_late : Stmt := topS 24
abbrev n_late : List Str := ["jobs", "found", "pairs", "place", "due"]
theorem sc_late : FnScope n_late ["jobs"] (defScope s_late) := ⟨rfl, rfl, rfl, by decide +kernel, rfl, by decide +kernel, by decide +kernel⟩
abbrev R_late [EK] := RX0 (fun js : List Job => [jobsD js]) (fun js => js.length ≤ 60 ∧ AllS js) (fun js => .nw ((lateF js (endsF js)).map .int))
theorem k_late [KK] [EK] {E : XK} {S : DSt} {ta : TA} {js : List Job} (h : Ea ta S [jobsD js]) (hp : js.length ≤ 60 ∧ AllS js) : En (tCall (SpR R_late) [] E ta) S ((lateF js (endsF js)).map .int) := n_call0 js h rfl hp rfl
theorem z_late [KK] [EK] {E : XK} {S : DSt} {ta : TA} {ds : List PyData} (h : Ea ta S [.list ds]) (hb : Bad ds) : Rz E (tCall (SpR R_late) [] E ta) S (badC ds) := z_call0 h hb
local macro_rules | `(tactic| walk_at "call") => `(tactic| (apply k_late; (walk_at "Ea"); (walk_at "side")))
theorem ok_late {f : Addr} {fd : FuncData} (F : Fun K "late" "late" s_late f fd) (m_f : mg "late" = some (.ref f)) (b_range : mg "range" = none) (b_len : mg "len" = none) (b_sorted : mg "sorted" = none) (c_ends : CalX P w K mg base 4 "ends" ["jobs"] R_ends) : CalX P w K mg base 5 "late" ["jobs"] R_late := by
  letI : KK := ⟨K⟩
  refine calX_of (F.okX sc_late (len_of0 fun _ => rfl) (fun cdv A outer s H vs Q E hr h => ⟨_,
      (pss_cons (ps_set (i := 1) sc_late.nd rfl (Or.inr rfl) (c_ends.pe (E := E) (hr.mono (by decide)) rfl (passes_call (takes_of rfl rfl rfl rfl) (fun _ _ _ _ h => h)) (pa_cons (pv 0) pa_nil)))
      (pss_cons (ps_setLc (i := 2) (own := [("place", 3)]) rfl sc_late.nd rfl rfl (sw_true rfl rfl rfl (by decide +kernel)) (pi_range1 rfl b_range (pa_cons (pe_callB (j_len K) (by rfl) b_len (by decide +kernel) (pa_cons (pv 0) pa_nil)) pa_nil)) (blkOk_by (own := [("place", 3)]) (N := n_late) (sc := (defScope s_late)) (by decide +kernel)) (fun _ _ _ _ _ => (pg_name (i := 3) sc_late.nd rfl (Or.inl rfl))) (fun _ _ _ _ _ => (pts_one (pt_cmpR op_gt (j_ix K (pv 1) (pv 3)) (j_ix K (j_ix K (pv 0) (pv 3)) pe_int) (nomark _)))) (fun _ _ _ _ _ => (pe_tup (pa_cons (j_ix K (j_ix K (pv 0) (pv 3)) pe_int) (pa_cons (pv 3) pa_nil)))))
      (pss_one (ps_ret (pe_lc (own := [("due", 4), ("place", 3)]) rfl sc_late.nd (j_iList K (pe_callB (j_sorted K) (by rfl) b_sorted (by decide +kernel) (pa_cons (pv 2) pa_nil))) (blkOk_by (own := [("due", 4), ("place", 3)]) (N := n_late) (sc := (defScope s_late)) (by decide +kernel)) (fun _ _ _ _ _ => (j_tup K (n := 2) rfl (pgs_cons (pg_name (i := 4) sc_late.nd rfl (Or.inl rfl)) (pgs_cons (pg_name (i := 3) sc_late.nd rfl (Or.inl rfl)) pgs_nil)))) (fun _ _ _ _ _ => pts_nil) (fun _ _ _ _ _ => (pv 3))))))), ?_⟩)) m_f F.kp (F.binds (ps := ["jobs"]) fun _ _ _ _ _ _ us hl => match us, hl with | [_], _ => rfl)
  refine run_def0 (N := n_late) h ⟨fun x hx => ?gd, ?bd⟩

  case gd =>
    obtain ⟨hl, hs⟩ : x.length ≤ 60 ∧ AllS x := hx
    have hp : x.length ≤ 60 ∧ AllS x := ⟨hl, hs⟩
    refine x_seq (x_set (i := 1) (d := intsD (endsF x)) (Ep.new (by walk_at "En") (immL_ints _))) ?_
    have hel := endsF_len x
    generalize endsF x = es at *
    refine x_seq (x_set (i := 2) (d := .list ((latePr x es).map prD)) (Ep.new (En.to (n_lc (List.range x.length) (fun k => .int (k : Int)) (fun k => decide ((jAt x k).2.2 < lAt es k)) (fun k => prD ((jAt x k).2.2, (k : Int))) ?a1 (by rw [List.length_range]; omega) fun k hk => ?a2) ?a3) ?a4)) ?_
    case a1 =>
      have h := i_rng1 (S := [.va (jobsD x), .va (intsD es), .no, .no, .no]) (n := (x.length : Int)) (ta := tCons (tCB (rLen K) (tCons (tVar 0) tNil)) tNil) (a_cons (Eb.to (by walk_at "Eb") (by rw [List.length_map])) a_nil) (by omega)
      rw [Int.toNat_natCast] at h
      exact h
    case a2 =>
      have hk' : k < x.length := List.mem_range.mp hk
      have a1 : atI (jobsL x) (k : Int) = some (jobD (jAt x k)) := at_map (getD_some hk')
      have a2 : atI (es.map PyData.int) (k : Int) = some (.int (lAt es k)) := at_map (getD_some (by omega))
      exact ⟨_, _, by simp, g_name, by walk_at "Et", fun _ => ⟨by walk_at "Eb", rfl⟩⟩
    case a3 => rw [latePr, List.map_map]; rfl
    case a4 => exact immL_map fun _ _ => rfl
    have hls : (lateSrt x es).length ≤ x.length := by
      rw [(lateSrt_perm x es).length_eq, latePr, List.length_map]
      exact Nat.le_trans (List.length_filter_le _ _) (Nat.le_of_eq List.length_range)
    have ey : En (tCB (rSortedJ K) (tCons (tVar 2) tNil)) ([.va (jobsD x), .va (intsD es), .va (.list ((latePr x es).map prD)), .no, .no]) ((lateSrt x es).map prD) := n_sortedP (by walk_at "Eb") fun ms h1 h2 => srt_uniq (h1.trans (lateSrt_perm x es).symm) h2 (lateSrt_pw x es)
    refine x_retN (En.to (n_lc (lateSrt x es) prD (fun _ => true) (fun p => .int p.2) (i_list (Ep.new ey (immL_map fun _ _ => rfl))) (by omega) fun p hp => ⟨_, _, by simp, g_tup (gs_cons g_name (gs_cons g_name gs_nil)) rfl, t_yes, fun _ => ⟨by walk_at "Eb", rfl⟩⟩) ?_)
    rw [List.filter_eq_self.mpr (fun _ _ => rfl), lateF, List.map_map]
    rfl
  case bd =>
    intro ds hb
    exact x_seqR (z_asg (z_ends (by walk_at "Ea") hb))
/-! ### crowded -/
abbrev s_crowded : Stmt := topS 26
abbrev n_crowded : List Str := ["jobs", "pieces", "end", "begin", "place", "since", "until"]
theorem sc_crowded : FnScope n_crowded ["jobs", "pieces", "end"] (defScope s_crowded) := ⟨rfl, rfl, rfl, by decide +kernel, rfl, by decide +kernel, by decide +kernel⟩
def crowdStp (js : List Job) (e : Int) (b : Int) (p : Piece) : Int ⊕ Ro := if p.2.1 < b ∧ b ≤ p.2.2 then (if e < (jAt js p.1.toNat).2.2 then .inr (.va (.int b)) else .inl p.2.1) else .inl b
theorem crowd_go (js : List Job) (e : Int) : ∀ (r : List Piece) (b : Int), (∀ b', goS (crowdStp js e) b r = .inl b' → crowdR js e b r = b') ∧ ∀ q, goS (crowdStp js e) b r = .inr q → q = .va (.int (crowdR js e b r))
  | [], b => ⟨fun b' h => Sum.inl.inj h, fun q h => (nomatch h)⟩
  | p :: r, b => by
    unfold goS crowdR crowdStp
    by_cases q : p.2.1 < b ∧ b ≤ p.2.2
    · rw [if_pos q, if_pos q]
      by_cases l : e < (jAt js p.1.toNat).2.2
      · rw [if_pos l, if_pos l]
        exact ⟨fun b' h => (nomatch h), fun q h => (Sum.inr.inj h).symm⟩
      · rw [if_neg l, if_neg l]
        exact crowd_go js e r p.2.1
    · rw [if_neg q, if_neg q]
      exact crowd_go js e r b
abbrev R_crowded := Rf (fun x : List Job × List Piece × Int => [jobsD x.1, jobsD x.2.1, .int x.2.2]) (fun x => PlacesIn x.1.length x.2.1) (fun x => .va (.int (crowdF x.1 x.2.1 x.2.2)))
theorem k_crowded [KK] {E : XK} {S : DSt} {ta : TA} {js : List Job} {ps : List Piece} {e : Int} (h : Ea ta S [jobsD js, jobsD ps, .int e]) (hp : PlacesIn js.length ps) : Eb (tCall (SpR R_crowded) [] E ta) S (.int (crowdF js ps e)) := e_callR (js, ps, e) h rfl hp rfl
local macro_rules | `(tactic| walk_at "call") => `(tactic| (apply k_crowded; (walk_at "Ea"); (walk_at "side")))
theorem ok_crowded {f : Addr} {fd : FuncData} (F : Fun K "crowded" "crowded" s_crowded f fd) (m_f : mg "crowded" = some (.ref f)) : Cal P w K mg base 1 "crowded" ["jobs", "pieces", "end"] R_crowded := by
  letI : KK := ⟨K⟩
  refine cal_of (F.ok sc_crowded (len_of fun _ => rfl) (fun cdv A outer s H vs Q E hr h => ⟨_,
      (pss_cons (ps_set (i := 3) sc_crowded.nd rfl (Or.inl rfl) (pv 2))
      (pss_cons (ps_for PassesOwn.never rfl (j_iList K (j_rev K (pv 1))) (j_tup K (n := 3) rfl (pgs_cons (pg_name (i := 4) sc_crowded.nd rfl (Or.inl rfl)) (pgs_cons (pg_name (i := 5) sc_crowded.nd rfl (Or.inl rfl)) (pgs_cons (pg_name (i := 6) sc_crowded.nd rfl (Or.inl rfl)) pgs_nil))))
        (pss_one (ps_if (PW.pt (pw_and (pt_cmpR op_lt (pv 5) (pv 3) (nomark _)) (pw_and1 (pt_cmpR op_ge (pv 6) (pv 3) (nomark _))))) (pss_cons (ps_if (pt_cmpR op_gt (j_ix K (j_ix K (pv 0) (pv 4)) pe_int) (pv 2) (nomark _)) (pss_one (ps_ret (pv 3))) pss_nil)
          (pss_one (ps_set (i := 3) sc_crowded.nd rfl (Or.inl rfl) (pv 5)))) pss_nil)))
      (pss_one (ps_ret (pv 3))))), ?_⟩)) m_f F.kp (F.binds (ps := ["jobs", "pieces", "end"]) fun _ _ _ _ _ _ us hl => match us, hl with | [_, _, _], _ => rfl)
  refine run_def (N := n_crowded) h fun x hx => ?_

  obtain ⟨js, ps, e⟩ := x
  have hp : PlacesIn js.length ps := hx
  refine x_seq (x_set (d := .int e) (by walk_at "Ep")) ?_
  refine x_forQ (xs := ps.reverse) (f := fun p => jobD p) (b0 := e) (crowdStp js e) (fun b => [.va (jobsD js), .va (jobsD ps), .va (.int e), .va (.int b), .no, .no, .no]) (fun _ => True) (i_list (Ep.new (En.to (by walk_at "En") (by exact List.map_reverse.symm)) (immL_jobs _))) (by walk_at "Le") trivial (fun b p _ hpm => ?_) (fun b h _ => x_ret' (by walk_at "Eb") (by rw [← (crowd_go js e _ _).1 b h]; rfl)) (fun r h => (crowd_go js e _ _).2 r h)
  obtain ⟨p0, pn⟩ := hp p (List.mem_reverse.mp hpm)
  have a1 : atI (jobsL js) p.1 = some (jobD (jAt js p.1.toNat)) := atI_pos p0 (by rw [List.getElem?_map, getD_some (d := J0) pn]; rfl)
  unfold crowdStp
  by_cases q : p.2.1 < b ∧ b ≤ p.2.2
  · rw [if_pos q]
    by_cases l : e < (jAt js p.1.toNat).2.2
    · rw [if_pos l]
      exact ⟨_, [.va (jobsD js), .va (jobsD ps), .va (.int e), .va (.int b), .va (.int p.1), .va (.int p.2.1), .va (.int p.2.2)], g_tup (gs_cons g_name (gs_cons g_name (gs_cons g_name gs_nil))) rfl, x_if (b := true) (Et.to (by walk_at "Et") (by rw [decide_eq_true q.1, decide_eq_true q.2]; rfl)) (fun _ => x_seqR (x_if (b := true) (Et.to (by walk_at "Et") (by exact decide_eq_true l)) (fun _ => x_ret (by walk_at "Eb")) (fun h => nomatch h))) (fun h => nomatch h)⟩
    · rw [if_neg l]
      exact ⟨trivial, _, [.va (jobsD js), .va (jobsD ps), .va (.int e), .va (.int b), .va (.int p.1), .va (.int p.2.1), .va (.int p.2.2)], [.va (jobsD js), .va (jobsD ps), .va (.int e), .va (.int p.2.1), .no, .no, .no], g_tup (gs_cons g_name (gs_cons g_name (gs_cons g_name gs_nil))) rfl, .inl (x_if (b := true) (Et.to (by walk_at "Et") (by rw [decide_eq_true q.1, decide_eq_true q.2]; rfl)) (fun _ => x_seq (x_if (b := false) (Et.to (by walk_at "Et") (by exact decide_eq_false l)) (fun h => nomatch h) (fun _ => x_next)) (x_post (x_set (d := .int p.2.1) (by walk_at "Ep")) (by walk_at "Le"))) (fun h => nomatch h)), Le.rfl'⟩
  · rw [if_neg q]
    exact ⟨trivial, _, [.va (jobsD js), .va (jobsD ps), .va (.int e), .va (.int b), .va (.int p.1), .va (.int p.2.1), .va (.int p.2.2)], [.va (jobsD js), .va (jobsD ps), .va (.int e), .va (.int b), .no, .no, .no], g_tup (gs_cons g_name (gs_cons g_name (gs_cons g_name gs_nil))) rfl, .inl (x_if (b := false) (Et.to (by walk_at "Et") (by rw [← Bool.decide_and]; exact decide_eq_false q)) (fun h => nomatch h) (fun _ => x_post x_next (by walk_at "Le"))), Le.rfl'⟩
/-! ### answer -/
abbrev s_answer : Stmt := topS 27
abbrev n_answer : List Str := ["jobs", "pieces", "places", "end"]
theorem sc_answer : FnScope n_answer ["jobs"] (defScope s_answer) := ⟨rfl, rfl, rfl, by decide +kernel, rfl, by decide +kernel, by decide +kernel⟩
abbrev R_answer [EK] := RX0 (fun js : List Job => [jobsD js]) (fun js => js.length ≤ 60 ∧ AllS js) (fun js => .va (answerD js))
theorem k_answer [KK] [EK] {E : XK} {S : DSt} {ta : TA} {js : List Job} (h : Ea ta S [jobsD js]) (hp : js.length ≤ 60 ∧ AllS js) : Eb (tCall (SpR R_answer) [] E ta) S (answerD js) := e_call0 js h rfl hp rfl
theorem z_answer [KK] [EK] {E : XK} {S : DSt} {ta : TA} {ds : List PyData} (h : Ea ta S [.list ds]) (hb : Bad ds) : Rz E (tCall (SpR R_answer) [] E ta) S (badC ds) := z_call0 h hb
local macro_rules | `(tactic| walk_at "call") => `(tactic| (apply k_answer; (walk_at "Ea"); (walk_at "side")))
theorem ok_answer {f : Addr} {fd : FuncData} (F : Fun K "answer" "answer" s_answer f fd) (m_f : mg "answer" = some (.ref f)) (c_looked : CalX P w K mg base 3 "looked" ["jobs"] R_looked) (c_worked : Cal P w K mg base 2 "worked" ["jobs"] R_worked) (c_late : CalX P w K mg base 5 "late" ["jobs"] R_late) (c_crowded : Cal P w K mg base 1 "crowded" ["jobs", "pieces", "end"] R_crowded) : CalX P w K mg base 6 "answer" ["jobs"] R_answer := by
  letI : KK := ⟨K⟩
  refine calX_of (F.okX sc_answer (len_of0 fun _ => rfl) (fun cdv A outer s H vs Q E hr h => ⟨_,
      (pss_cons (ps_expr (c_looked.pe (E := E) (hr.mono (by decide)) rfl (passes_call (takes_of rfl rfl rfl rfl) (fun _ _ _ _ h => h)) (pa_cons (pv 0) pa_nil)))
      (pss_cons (ps_set (i := 1) sc_answer.nd rfl (Or.inl rfl) (c_worked.pe (hr.mono (by decide)) rfl (pa_cons (pv 0) pa_nil)))
      (pss_cons (ps_set (i := 2) sc_answer.nd rfl (Or.inl rfl) (c_late.pe (E := E) (hr.mono (by decide)) rfl (passes_call (takes_of rfl rfl rfl rfl) (fun _ _ _ _ h => h)) (pa_cons (pv 0) pa_nil)))
      (pss_cons (ps_if (pt_not (j_tru K (pv 2))) (pss_one (ps_ret (pe_tup (pa_cons pe_str (pa_cons (pv 1) pa_nil))))) pss_nil)
      (pss_cons (ps_set (i := 3) sc_answer.nd rfl (Or.inl rfl) (j_ix K (j_ix K (pv 0) (j_ix K (pv 2) pe_int)) pe_int))
      (pss_one (ps_ret (pe_tup (pa_cons pe_str (pa_cons (j_ix K (pv 2) pe_int) (pa_cons (c_crowded.pe (hr.mono (by decide)) rfl (pa_cons (pv 0) (pa_cons (pv 1) (pa_cons (pv 3) pa_nil)))) (pa_cons (pv 3) pa_nil)))))))))))), ?_⟩)) m_f F.kp (F.binds (ps := ["jobs"]) fun _ _ _ _ _ _ us hl => match us, hl with | [_], _ => rfl)
  refine run_def0 (N := n_answer) h ⟨fun x hx => ?gd, ?bd⟩

  case gd =>
    obtain ⟨hl, hs⟩ : x.length ≤ 60 ∧ AllS x := hx
    have hp : x.length ≤ 60 ∧ AllS x := ⟨hl, hs⟩
    have hq : PlacesIn x.length (workedF x) := good_places (ran hs).good
    show DX _ _ _ (.rt (.va (answerD x)))
    refine x_seq (S1 := [.va (jobsD x), .no, .no, .no]) (x_drop (by walk_at "Eb")) ?_
    refine x_seq (x_set (d := jobsD (workedF x)) (Ep.new (by walk_at "En") (immL_jobs _))) ?_
    refine x_seq (x_set (d := intsD (lateF x (endsF x))) (Ep.new (by walk_at "En") (immL_ints _))) ?_
    unfold answerD
    generalize hlt : lateF x (endsF x) = ls
    cases ls with
    | nil => exact x_seqR (x_if (b := true) (Et.to (by walk_at "Et") (by rfl)) (fun _ => x_ret (by walk_at "Eb")) (fun h => nomatch h))
    | cons k r =>
      have h0 : (lateF x (endsF x))[0]? = some k := by rw [hlt]; rfl
      obtain ⟨m, rfl, hm, _, _⟩ := lateF_at h0
      have a0 : atI (List.map PyData.int ((m : Int) :: r)) 0 = some (.int (m : Int)) := by
        show atI _ ((0 : Nat) : Int) = _
        exact atI_nat rfl
      have a1 : atI (jobsL x) (m : Int) = some (jobD (jAt x m)) := at_map (getD_some hm)
      have ed : dueF x (m : Int) = (jAt x m).2.2 := by unfold dueF; rw [Int.toNat_natCast]
      refine x_seq (x_if (b := false) (Et.to (by walk_at "Et") (by rfl)) (fun h => nomatch h) (fun _ => x_next)) ?_
      dsimp only
      rw [ed]
      refine x_seq (x_set (d := .int (jAt x m).2.2) (by walk_at "Ep")) ?_
      exact x_ret (by walk_at "Eb")
  case bd =>
    intro ds hb
    exact x_seqR (z_drop (z_looked (by walk_at "Ea") hb))
/-! ### needed -/
abbrev s_needed : Stmt := topS 28
abbrev n_needed : List Str := ["jobs", "most", "job", "end"]
theorem sc_needed : FnScope n_needed ["jobs"] (defScope s_needed) := ⟨rfl, rfl, rfl, by decide +kernel, rfl, by decide +kernel, by decide +kernel⟩
abbrev R_needed [EK] := RX0 (fun js : List Job => [jobsD js]) (fun js => js.length ≤ 60 ∧ AllS js) (fun js => .va (.int (needF js)))
theorem k_needed [KK] [EK] {E : XK} {S : DSt} {ta : TA} {js : List Job} (h : Ea ta S [jobsD js]) (hp : js.length ≤ 60 ∧ AllS js) : Eb (tCall (SpR R_needed) [] E ta) S (.int (needF js)) := e_call0 js h rfl hp rfl
theorem z_needed [KK] [EK] {E : XK} {S : DSt} {ta : TA} {ds : List PyData} (h : Ea ta S [.list ds]) (hb : Bad ds) : Rz E (tCall (SpR R_needed) [] E ta) S (badC ds) := z_call0 h hb
local macro_rules | `(tactic| walk_at "call") => `(tactic| (apply k_needed; (walk_at "Ea"); (walk_at "side")))
theorem ok_needed {f : Addr} {fd : FuncData} (F : Fun K "needed" "needed" s_needed f fd) (m_f : mg "needed" = some (.ref f)) (b_zip : mg "zip" = none) (b_max : mg "max" = none) (c_ends : CalX P w K mg base 4 "ends" ["jobs"] R_ends) : CalX P w K mg base 5 "needed" ["jobs"] R_needed := by
  letI : KK := ⟨K⟩
  refine calX_of (F.okX sc_needed (len_of0 fun _ => rfl) (fun cdv A outer s H vs Q E hr h => ⟨_,
      (pss_cons (ps_set (i := 1) sc_needed.nd rfl (Or.inl rfl) pe_int)
      (pss_cons (ps_for (passes_of rfl) rfl (j_zip K (by rfl) b_zip (pa_cons (pv 0) (pa_cons (c_ends.pe (E := E) (hr.mono (by decide)) rfl (passes_call (takes_of rfl rfl rfl rfl) (fun _ _ _ _ h => h)) (pa_cons (pv 0) pa_nil)) pa_nil))) (j_tup K (n := 2) rfl (pgs_cons (pg_name (i := 2) sc_needed.nd rfl (Or.inl rfl)) (pgs_cons (pg_name (i := 3) sc_needed.nd rfl (Or.inl rfl)) pgs_nil)))
        (pss_one (ps_set (i := 1) sc_needed.nd rfl (Or.inl rfl) (pe_callB (cr_max2 rfl) (by rfl) b_max (by decide +kernel) (pa_cons (pv 1) (pa_cons (pe_op op_sub (pv 3) (j_ix K (pv 2) pe_int)) pa_nil))))))
      (pss_one (ps_ret (pv 1))))), ?_⟩)) m_f F.kp (F.binds (ps := ["jobs"]) fun _ _ _ _ _ _ us hl => match us, hl with | [_], _ => rfl)
  refine run_def0 (N := n_needed) h ⟨fun x hx => ?gd, ?bd⟩

  case gd =>
    obtain ⟨hl, hs⟩ : x.length ≤ 60 ∧ AllS x := hx
    have hp : x.length ≤ 60 ∧ AllS x := ⟨hl, hs⟩
    have hel := endsF_len x
    refine x_seq (x_set (d := .int 0) (by walk_at "Ep")) ?_
    refine x_seq (x_for (fun i => [.va (jobsD x), .va (.int (needUp x (endsF x) i)), .no, .no]) (i_zip (ds := jobsL x) (es := (endsF x).map .int) (by walk_at "Ep") (Ep.new (by walk_at "En") (immL_ints _))) (by walk_at "Le") fun i d hd => ?_) (x_ret' (by walk_at "Eb") ?_)
    · rw [List.getElem?_zipWith] at hd
      rw [List.getElem?_map, List.getElem?_map] at hd
      cases e1 : x[i]? with
      | none =>
        rw [e1] at hd
        cases hd
      | some j =>
        cases e2 : (endsF x)[i]? with
        | none =>
          rw [e1, e2] at hd
          cases hd
        | some z =>
          rw [e1, e2] at hd
          have hd : PyData.tuple [jobD j, .int z] = d := Option.some.inj hd
          subst hd
          have f1 : jAt x i = j := jAt_of e1
          have f2 : lAt (endsF x) i = z := lAt_of e2
          refine ⟨_, _, [.va (jobsD x), .va (.int (needUp x (endsF x) (i + 1))), .no, .no], g_tup (gs_cons g_name (gs_cons g_name gs_nil)) rfl, .inl (x_post (x_set (i := 1) (d := .int (max (needUp x (endsF x) i) (z - j.2.2))) (by walk_at "Ep")) ?_), Le.rfl'⟩
          have en : needUp x (endsF x) (i + 1) = max (needUp x (endsF x) i) (lAt (endsF x) i - (jAt x i).2.2) := rfl
          rw [en, f1, f2]
          walk_at "Le"
    · rw [List.length_zipWith, List.length_map, List.length_map, hel, Nat.min_self]
      rfl
  case bd =>
    intro ds hb
    refine x_seq (x_set (i := 1) (d := .int 0) (by walk_at "Ep")) ?_
    exact x_seqR (z_zip2 (by walk_at "Eb") (z_ends (by walk_at "Ea") hb))
/-! ### room -/
abbrev s_room : Stmt := topS 32
abbrev n_room : List Str := ["jobs", "come", "due", "found", "begins", "stops", "most", "begin", "end", "job"]
theorem sc_room : FnScope n_room ["jobs", "come", "due"] (defScope s_room) := ⟨rfl, rfl, rfl, by decide +kernel, rfl, by decide +kernel, by decide +kernel⟩
noncomputable def roomD (js : List Job) : PyData → PyData → PyData
  | .int a, .int d => if lateF js (endsF js) = [] then .int (roomF js a d) else .none
  | _, _ => .none
abbrev R_room [EK] := RX2 (fun x : List Job × Int × Int => [jobsD x.1, .int x.2.1, .int x.2.2]) (fun x => (x.1.length ≤ 60 ∧ AllS x.1) ∧ (0 ≤ x.2.1 ∧ x.2.1 < x.2.2)) (fun x => .va (roomD x.1 (.int x.2.1) (.int x.2.2)))
theorem k_room [KK] [EK] {E : XK} {S : DSt} {ta : TA} {js : List Job} {a d : Int} (h : Ea ta S [jobsD js, .int a, .int d]) (hp : js.length ≤ 60 ∧ AllS js) (hj : 0 ≤ a ∧ a < d) : Eb (tCall (SpR R_room) [] E ta) S (roomD js (.int a) (.int d)) := e_call2 (js, a, d) h rfl ⟨hp, hj⟩ rfl
theorem z_room [KK] [EK] {E : XK} {S : DSt} {ta : TA} {ds : List PyData} {a b : PyData} (h : Ea ta S [.list ds, a, b]) (hb : Bad ds) : Rz E (tCall (SpR R_room) [] E ta) S (badC ds) := z_call2 h hb
local macro_rules | `(tactic| walk_at "call") => `(tactic| (apply k_room; (walk_at "Ea"); (walk_at "side"); (walk_at "side")))
theorem ok_room {f : Addr} {fd : FuncData} (F : Fun K "room" "room" s_room f fd) (m_f : mg "room" = some (.ref f)) (b_min : mg "min" = none) (e_BadJob : ExF K mg "BadJob" EK.BadJob) (c_answer : CalX P w K mg base 6 "answer" ["jobs"] R_answer) (c_sound : Cal P w K mg base 2 "sound" ["job"] R_sound) (c_load : Cal P w K mg base 1 "load" ["jobs", "begin", "end"] R_load) : CalX P w K mg base 7 "room" ["jobs", "come", "due"] R_room := by
  letI : KK := ⟨K⟩
  refine calX_of (F.okX sc_room (len_of2 fun _ => rfl) (fun cdv A outer s H vs Q E hr h => ⟨_,
      (pss_cons (ps_set (i := 3) sc_room.nd rfl (Or.inl rfl) (c_answer.pe (E := E) (hr.mono (by decide)) rfl (passes_call (takes_of rfl rfl rfl rfl) (fun _ _ _ _ h => h)) (pa_cons (pv 0) pa_nil)))
      (pss_cons (ps_if (pt_not (j_tru K (c_sound.pe (hr.mono (by decide)) rfl (pa_cons (pe_tup (pa_cons (pv 1) (pa_cons pe_int (pa_cons (pv 2) pa_nil)))) pa_nil)))) (pss_one (ps_raiseE rfl (takes_of rfl rfl rfl rfl) e_BadJob rfl)) pss_nil)
      (pss_cons (ps_if (pt_cmpR (j_eq K hr.units) (j_ix K (pv 3) pe_int) pe_str (nomark _)) (pss_one (ps_ret pe_non)) pss_nil)
      (pss_cons (ps_set (i := 4) sc_room.nd rfl (Or.inl rfl) (pe_op op_plus (pe_lst (pa_cons (pv 1) pa_nil)) (pe_lc (own := [("job", 9)]) rfl sc_room.nd (j_iList K (pv 0)) (blkOk_by (own := [("job", 9)]) (N := n_room) (sc := (defScope s_room)) (by decide +kernel)) (fun _ _ _ _ _ => (pg_name (i := 9) sc_room.nd rfl (Or.inl rfl))) (fun _ _ _ _ _ => (pts_one (pt_cmpR op_lt (j_ix K (pv 9) pe_int) (pv 1) (nomark _)))) (fun _ _ _ _ _ => (j_ix K (pv 9) pe_int)))))
      (pss_cons (ps_set (i := 5) sc_room.nd rfl (Or.inl rfl) (pe_op op_plus (pe_lst (pa_cons (pv 2) pa_nil)) (pe_lc (own := [("job", 9)]) rfl sc_room.nd (j_iList K (pv 0)) (blkOk_by (own := [("job", 9)]) (N := n_room) (sc := (defScope s_room)) (by decide +kernel)) (fun _ _ _ _ _ => (pg_name (i := 9) sc_room.nd rfl (Or.inl rfl))) (fun _ _ _ _ _ => (pts_one (pt_cmpR op_gt (j_ix K (pv 9) pe_int) (pv 2) (nomark _)))) (fun _ _ _ _ _ => (j_ix K (pv 9) pe_int)))))
      (pss_cons (ps_set (i := 6) sc_room.nd rfl (Or.inl rfl) (pe_op op_sub (pv 2) (pv 1)))
      (pss_cons (ps_for (passes_of rfl) rfl (j_iList K (pv 4)) (pg_name (i := 7) sc_room.nd rfl (Or.inl rfl))
        (pss_one (ps_for (passes_of rfl) rfl (j_iList K (pv 5)) (pg_name (i := 8) sc_room.nd rfl (Or.inl rfl))
          (pss_one (ps_set (i := 6) sc_room.nd rfl (Or.inl rfl) (pe_callB (cr_min2 rfl) (by rfl) b_min (by decide +kernel) (pa_cons (pv 6) (pa_cons (pe_op op_sub (pe_op op_sub (pv 8) (pv 7)) (c_load.pe (hr.mono (by decide)) rfl (pa_cons (pv 0) (pa_cons (pv 7) (pa_cons (pv 8) pa_nil))))) pa_nil))))))))
      (pss_one (ps_ret (pv 6)))))))))), ?_⟩)) m_f F.kp (F.binds (ps := ["jobs", "come", "due"]) fun _ _ _ _ _ _ us hl => match us, hl with | [_, _, _], _ => rfl)
  refine run_def2 (N := n_room) h ⟨fun x hx => ?gd, ?bd⟩

  case gd =>
    obtain ⟨js, a, b⟩ := x
    obtain ⟨⟨hl, hs⟩, hj⟩ : (js.length ≤ 60 ∧ AllS js) ∧ (0 ≤ a ∧ a < b) := hx
    have hp : js.length ≤ 60 ∧ AllS js := ⟨hl, hs⟩
    show DX _ _ [.va (jobsD js), .va (.int a), .va (.int b), .no, .no, .no, .no, .no, .no, .no] (.rt (.va (roomD js (.int a) (.int b))))
    refine x_seq (x_set (i := 3) (d := answerD js) (Ep.free (by walk_at "Eb") rfl)) ?_
    have hj2 : soundD (.tuple [.int a, .int 1, .int b]) = true := by
      show (decide (0 ≤ a) && decide ((1 : Int) ≤ 1) && decide (a < b)) = true
      rw [decide_eq_true hj.1, decide_eq_true hj.2]
      rfl
    refine x_seq (x_if (b := false) (Et.to (by walk_at "Et") (by rw [hj2]; rfl)) (fun h => nomatch h) fun _ => x_next) ?_
    by_cases hlt : lateF js (endsF js) = []
    case neg =>
      obtain ⟨k, x, e, ea, _, _⟩ := late_some hs hlt
      rw [ea]
      show DX _ _ _ (.rt (.va (if lateF js (endsF js) = [] then .int (roomF js a b) else .none)))
      rw [if_neg hlt]
      exact x_seqR (x_if (b := true) (Et.to (by walk_at "Et") (by rfl)) (fun _ => x_ret (by walk_at "Eb")) fun h => nomatch h)
    rw [answerD_plan hlt]
    show DX _ _ _ (.rt (.va (if lateF js (endsF js) = [] then .int (roomF js a b) else .none)))
    rw [if_pos hlt]
    refine x_seq (x_if (b := false) (Et.to (by walk_at "Et") (by rfl)) (fun h => nomatch h) fun _ => x_next) ?_
    generalize PyData.tuple [.str (Str.ofString "plan"), jobsD (workedF js)] = fd at *
    show DX _ _ [.va (jobsD js), .va (.int a), .va (.int b), .va fd, .no, .no, .no, .no, .no, .no] _
    have lb : ((js.filter fun j => decide (j.1 < a)).map fun j => j.1).length ≤ js.length := by rw [List.length_map]; exact List.length_filter_le _ _
    have le : ((js.filter fun j => decide (b < j.2.2)).map fun j => j.2.2).length ≤ js.length := by rw [List.length_map]; exact List.length_filter_le _ _
    have y1 : En (tLc (iList K (tVar 0)) (gName 9) (tTest (tOp (rI0 fun i j => .bl (decide (i < j))) (tOp (rIx K) (tVar 9) (tC (.int 0))) (tVar 1))) (tOp (rIx K) (tVar 9) (tC (.int 0))) [9]) [.va (jobsD js), .va (.int a), .va (.int b), .va fd, .no, .no, .no, .no, .no, .no] (((js.filter fun j => decide (j.1 < a)).map fun j => j.1).map .int) :=
      En.to (n_lc js (fun j => jobD j) (fun j => decide (j.1 < a)) (fun j => .int j.1) (i_list (by walk_at "Ep")) (by omega) fun j hj => ⟨_, _, by simp, g_name, by walk_at "Et", fun _ => ⟨by walk_at "Eb", rfl⟩⟩) (by rw [List.map_map]; rfl)
    refine x_seq (x_set (i := 4) (d := intsD (beginsF js a)) (Ep.new (En.to (e_cat (ds := [.int a]) (by walk_at "Eb") y1.b (by rw [List.length_map]; simp only [List.length_cons, List.length_nil]; omega)) (by rfl)) (immL_ints _))) ?_
    have y2 : En (tLc (iList K (tVar 0)) (gName 9) (tTest (tOp (rI0 fun i j => .bl (decide (j < i))) (tOp (rIx K) (tVar 9) (tC (.int 2))) (tVar 2))) (tOp (rIx K) (tVar 9) (tC (.int 2))) [9]) [.va (jobsD js), .va (.int a), .va (.int b), .va fd, .va (intsD (beginsF js a)), .no, .no, .no, .no, .no] (((js.filter fun j => decide (b < j.2.2)).map fun j => j.2.2).map .int) :=
      En.to (n_lc js (fun j => jobD j) (fun j => decide (b < j.2.2)) (fun j => .int j.2.2) (i_list (by walk_at "Ep")) (by omega) fun j hj => ⟨_, _, by simp, g_name, by walk_at "Et", fun _ => ⟨by walk_at "Eb", rfl⟩⟩) (by rw [List.map_map]; rfl)
    refine x_seq (x_set (i := 5) (d := intsD (stopsF js b)) (Ep.new (En.to (e_cat (ds := [.int b]) (by walk_at "Eb") y2.b (by rw [List.length_map]; simp only [List.length_cons, List.length_nil]; omega)) (by rfl)) (immL_ints _))) ?_
    unfold roomF
    generalize beginsF js a = bs
    generalize stopsF js b = es
    refine x_seq (x_set (i := 6) (d := .int (b - a)) (by walk_at "Ep")) ?_
    refine x_seq (x_for (fun i => [.va (jobsD js), .va (.int a), .va (.int b), .va fd, .va (intsD bs), .va (intsD es), .va (.int (roomAll js (bs.take i) es (b - a))), .no, .no, .no]) (i_list (by walk_at "Ep")) (by walk_at "Le") fun i x hx => ?_) (x_ret' (by walk_at "Eb") (by rw [List.length_map, List.take_length]))
    rw [List.getElem?_map] at hx
    obtain ⟨bg, hbg, rfl⟩ := Option.map_eq_some_iff.mp hx
    have e1 : roomAll js (bs.take (i + 1)) es (b - a) = roomIn js bg es (roomAll js (bs.take i) es (b - a)) := by
      unfold roomAll
      rw [List.take_succ, hbg, List.foldl_append]
      rfl
    rw [e1]
    generalize roomAll js (bs.take i) es (b - a) = m
    refine ⟨_, [.va (jobsD js), .va (.int a), .va (.int b), .va fd, .va (intsD bs), .va (intsD es), .va (.int m), .va (.int bg), .no, .no], [.va (jobsD js), .va (.int a), .va (.int b), .va fd, .va (intsD bs), .va (intsD es), .va (.int (roomIn js bg es m)), .va (.int bg), .no, .no], g_name, .inl ?_, by walk_at "Le"⟩
    refine x_post (x_for (fun i => [.va (jobsD js), .va (.int a), .va (.int b), .va fd, .va (intsD bs), .va (intsD es), .va (.int (roomIn js bg (es.take i) m)), .va (.int bg), .no, .no]) (i_list (by walk_at "Ep")) (by walk_at "Le") fun i x hx => ?_) (by rw [List.length_map, List.take_length]; walk_at "Le")
    rw [List.getElem?_map] at hx
    obtain ⟨en, hen, rfl⟩ := Option.map_eq_some_iff.mp hx
    have e2 : roomIn js bg (es.take (i + 1)) m = min (roomIn js bg (es.take i) m) (en - bg - loadP js bg en) := by
      unfold roomIn
      rw [List.take_succ, hen, List.foldl_append]
      rfl
    rw [e2]
    exact ⟨_, _, [.va (jobsD js), .va (.int a), .va (.int b), .va fd, .va (intsD bs), .va (intsD es), .va (.int (min (roomIn js bg (es.take i) m) (en - bg - loadP js bg en))), .va (.int bg), .no, .no], g_name, .inl (x_post (x_set (i := 6) (d := .int (min (roomIn js bg (es.take i) m) (en - bg - loadP js bg en))) (by walk_at "Ep")) (by walk_at "Le")), Le.rfl'⟩
  case bd =>
    intro ds a b hb
    exact x_seqR (z_asg (z_answer (by walk_at "Ea") hb))
/-! ### _law_done -/
abbrev s_L_done : Stmt := topS 39
abbrev n_L_done : List Str := ["_law_which", "_law_jobs", "_law_more"]
theorem sc_L_done : FnScope n_L_done ["_law_which", "_law_jobs", "_law_more"] (defScope s_L_done) := ⟨rfl, rfl, rfl, by decide +kernel, rfl, by decide +kernel, by decide +kernel⟩
def pick3 (xs : List Int) (m : Int) : Int := xs.getD (m % 3).toNat 0
theorem pick3_at {a b c : Int} (m : Int) : atI [PyData.int a, .int b, .int c] (m % 3) = some (.int (pick3 [a, b, c] m)) := by
  have h : atI ([a, b, c].map PyData.int) (m % 3) = some (.int (pick3 [a, b, c] m)) := atI_pos (by omega) (by rw [List.getElem?_map, getD_some (d := (0 : Int)) (by show (m % 3).toNat < 3; omega)]; rfl)
  exact h
def pick2 (xs : List Int) (m : Int) : Int := xs.getD (m / 2 % 2).toNat 0
theorem pick2_at {a b : Int} (m : Int) : atI [PyData.int a, .int b] (m / 2 % 2) = some (.int (pick2 [a, b] m)) := by
  have h : atI ([a, b].map PyData.int) (m / 2 % 2) = some (.int (pick2 [a, b] m)) := atI_pos (by omega) (by rw [List.getElem?_map, getD_some (d := (0 : Int)) (by show (m / 2 % 2).toNat < 2; omega)]; rfl)
  exact h
def ways5 : List (List Piece) := [[], [(0, 0, 1)], [(99, 0, 1)], [(0, 2, 1)], [(-1, 3, 5)]]
def way5 (m : Int) : List Piece := ways5.getD (m % 5).toNat []
theorem way5_at (m : Int) : atI [PyData.list [], .list [.tuple [.int 0, .int 0, .int 1]], .list [.tuple [.int 99, .int 0, .int 1]], .list [.tuple [.int 0, .int 2, .int 1]], .list [.tuple [.int (-1), .int 3, .int 5]]] (m % 5) = some (jobsD (way5 m)) := by
  have h : atI (ways5.map jobsD) (m % 5) = some (jobsD (way5 m)) := atI_pos (by omega) (by rw [List.getElem?_map, getD_some (d := ([] : List Piece)) (by show (m % 5).toNat < 5; omega)]; rfl)
  exact h
noncomputable def doneF (w : Int) (js : List Job) (m : Int) : PyData :=
  if w = 0 then .int (loadP js (pick3 [0, 5, 3] m) (pick3 [5, 0, 3] m)) else if w = 1 then optD (nearF js (List.replicate js.length (m % 2)) (pick2 [3, 0] m)) else if w = 2 then jobsD (workedF js)
  else if w = 3 then .bool (meetsB js (way5 m)) else if w = 4 then intsD (endsF js) else if w = 5 then intsD (lateF js (endsF js)) else if w = 6 then answerD js else if w = 7 then .int (needF js) else if w = 8 then roomD js (.int 1) (.int 4) else .str (writtenF js)
def GoodJ (js : List Job) : Prop := (js.length ≤ 60 ∧ AllS js) ∧ ∀ j ∈ js, Sml j
abbrev R_L_done [EK] := Rf (α := (Int × List Job × Int) ⊕ (Int × List PyData × Int)) (Sum.elim (fun x => [.int x.1, jobsD x.2.1, .int x.2.2]) fun y => [.int y.1, .list y.2.1, .int y.2.2]) (Sum.elim (fun x => GoodJ x.2.1) fun y => Bad y.2.1 ∧ y.2.1.length ≤ 1000) (Sum.elim (fun x => .va (doneF x.1 x.2.1 x.2.2)) fun y => .ex (badC y.2.1))
theorem rep_list {α : Type} (a : α) (n : Nat) : (List.replicate ((n : Nat) : Int).toNat [a]).flatten = List.replicate n a := by
  rw [Int.toNat_natCast, flat_rep]
theorem ok_L_done {f : Addr} {fd : FuncData} (F : Fun K "_law_done" "_law_done" s_L_done f fd) (m_f : mg "_law_done" = some (.ref f)) (b_len : mg "len" = none) (c_asked : CalX P w K mg base 4 "asked" ["jobs", "begin", "end"] R_asked) (c_chosen : CalX P w K mg base 4 "chosen" ["jobs", "left", "time"] R_chosen) (c_run : CalX P w K mg base 4 "run" ["jobs"] R_run) (c_meets : CalX P w K mg base 4 "meets" ["jobs", "way"] R_meets) (c_ends : CalX P w K mg base 4 "ends" ["jobs"] R_ends) (c_late : CalX P w K mg base 5 "late" ["jobs"] R_late) (c_answer : CalX P w K mg base 6 "answer" ["jobs"] R_answer) (c_needed : CalX P w K mg base 5 "needed" ["jobs"] R_needed) (c_room : CalX P w K mg base 7 "room" ["jobs", "come", "due"] R_room) (c_written : CalX P w K mg base 4 "written" ["jobs"] R_written) : CalX P w K mg base 8 "_law_done" ["_law_which", "_law_jobs", "_law_more"] R_L_done := by
  letI : KK := ⟨K⟩
  refine calX_of (F.okX sc_L_done (len_of fun x => by first | rfl | (cases x <;> rfl)) (fun cdv A outer s H vs Q E hr h => ⟨_,
      (pss_cons (ps_if (pt_cmpR (j_eq K hr.units) (pv 0) pe_int (nomark _)) (pss_one (ps_ret (c_asked.pe (E := E) (hr.mono (by decide)) rfl (passes_call (takes_of rfl rfl rfl rfl) (fun _ _ _ _ h => h)) (pa_cons (pv 1) (pa_cons (j_ix K (pe_lst (pa_cons pe_int (pa_cons pe_int (pa_cons pe_int pa_nil)))) (pe_op op_mod (pv 2) pe_int)) (pa_cons (j_ix K (pe_lst (pa_cons pe_int (pa_cons pe_int (pa_cons pe_int pa_nil)))) (pe_op op_mod (pv 2) pe_int)) pa_nil)))))) pss_nil)
      (pss_cons (ps_if (pt_cmpR (j_eq K hr.units) (pv 0) pe_int (nomark _)) (pss_one (ps_ret (c_chosen.pe (E := E) (hr.mono (by decide)) rfl (passes_call (takes_of rfl rfl rfl rfl) (fun _ _ _ _ h => h)) (pa_cons (pv 1) (pa_cons (pe_op op_times (pe_lst (pa_cons (pe_op op_mod (pv 2) pe_int) pa_nil)) (pe_callB (j_len K) (by rfl) b_len (by decide +kernel) (pa_cons (pv 1) pa_nil))) (pa_cons (j_ix K (pe_lst (pa_cons pe_int (pa_cons pe_int pa_nil))) (pe_op op_mod (pe_op op_fdiv (pv 2) pe_int) pe_int)) pa_nil)))))) pss_nil)
      (pss_cons (ps_if (pt_cmpR (j_eq K hr.units) (pv 0) pe_int (nomark _)) (pss_one (ps_ret (c_run.pe (E := E) (hr.mono (by decide)) rfl (passes_call (takes_of rfl rfl rfl rfl) (fun _ _ _ _ h => h)) (pa_cons (pv 1) pa_nil)))) pss_nil)
      (pss_cons (ps_if (pt_cmpR (j_eq K hr.units) (pv 0) pe_int (nomark _)) (pss_one (ps_ret (c_meets.pe (E := E) (hr.mono (by decide)) rfl (passes_call (takes_of rfl rfl rfl rfl) (fun _ _ _ _ h => h)) (pa_cons (pv 1) (pa_cons (j_ix K (pe_lst (pa_cons (pe_lst pa_nil) (pa_cons (pe_lst (pa_cons (pe_tup (pa_cons pe_int (pa_cons pe_int (pa_cons pe_int pa_nil)))) pa_nil)) (pa_cons (pe_lst (pa_cons (pe_tup (pa_cons pe_int (pa_cons pe_int (pa_cons pe_int pa_nil)))) pa_nil)) (pa_cons (pe_lst (pa_cons (pe_tup (pa_cons pe_int (pa_cons pe_int (pa_cons pe_int pa_nil)))) pa_nil)) (pa_cons (pe_lst (pa_cons (pe_tup (pa_cons (pe_un un_neg pe_int) (pa_cons pe_int (pa_cons pe_int pa_nil)))) pa_nil)) pa_nil)))))) (pe_op op_mod (pv 2) pe_int)) pa_nil))))) pss_nil)
      (pss_cons (ps_if (pt_cmpR (j_eq K hr.units) (pv 0) pe_int (nomark _)) (pss_one (ps_ret (c_ends.pe (E := E) (hr.mono (by decide)) rfl (passes_call (takes_of rfl rfl rfl rfl) (fun _ _ _ _ h => h)) (pa_cons (pv 1) pa_nil)))) pss_nil)
      (pss_cons (ps_if (pt_cmpR (j_eq K hr.units) (pv 0) pe_int (nomark _)) (pss_one (ps_ret (c_late.pe (E := E) (hr.mono (by decide)) rfl (passes_call (takes_of rfl rfl rfl rfl) (fun _ _ _ _ h => h)) (pa_cons (pv 1) pa_nil)))) pss_nil)
      (pss_cons (ps_if (pt_cmpR (j_eq K hr.units) (pv 0) pe_int (nomark _)) (pss_one (ps_ret (c_answer.pe (E := E) (hr.mono (by decide)) rfl (passes_call (takes_of rfl rfl rfl rfl) (fun _ _ _ _ h => h)) (pa_cons (pv 1) pa_nil)))) pss_nil)
      (pss_cons (ps_if (pt_cmpR (j_eq K hr.units) (pv 0) pe_int (nomark _)) (pss_one (ps_ret (c_needed.pe (E := E) (hr.mono (by decide)) rfl (passes_call (takes_of rfl rfl rfl rfl) (fun _ _ _ _ h => h)) (pa_cons (pv 1) pa_nil)))) pss_nil)
      (pss_cons (ps_if (pt_cmpR (j_eq K hr.units) (pv 0) pe_int (nomark _)) (pss_one (ps_ret (c_room.pe (E := E) (hr.mono (by decide)) rfl (passes_call (takes_of rfl rfl rfl rfl) (fun _ _ _ _ h => h)) (pa_cons (pv 1) (pa_cons pe_int (pa_cons pe_int pa_nil)))))) pss_nil)
      (pss_one (ps_ret (c_written.pe (E := E) (hr.mono (by decide)) rfl (passes_call (takes_of rfl rfl rfl rfl) (fun _ _ _ _ h => h)) (pa_cons (pv 1) pa_nil))))))))))))), ?_⟩)) m_f F.kp (F.binds (ps := ["_law_which", "_law_jobs", "_law_more"]) fun _ _ _ _ _ _ us hl => match us, hl with | [_, _, _], _ => rfl)
  refine run_def (N := n_L_done) h fun x hx => ?_

  cases x with
  | inl x =>
    obtain ⟨w, js, m⟩ := x
    obtain ⟨⟨hl, hs⟩, hm⟩ : (js.length ≤ 60 ∧ AllS js) ∧ ∀ j ∈ js, Sml j := hx
    have hp : js.length ≤ 60 ∧ AllS js := ⟨hl, hs⟩
    have hjl : (jobsL js).length = js.length := List.length_map _
    have a1 := pick3_at (a := 0) (b := 5) (c := 3) m
    have a2 := pick3_at (a := 5) (b := 0) (c := 3) m
    have a3 := pick2_at (a := 3) (b := 0) m
    have a4 := way5_at m
    show DX _ _ [.va (.int w), .va (jobsD js), .va (.int m)] (.rt (.va (doneF w js m)))
    unfold doneF
    by_cases q0 : w = 0
    · subst q0
      exact x_seqR (x_if (b := true) (Et.to (by walk_at "Et") (by rfl)) (fun _ => x_ret (k_asked (by walk_at "Ea") hl hs)) fun h => nomatch h)
    rw [if_neg q0]
    refine x_seq (x_if (b := false) (Et.to (by walk_at "Et") (by exact decide_eq_false q0)) (fun h => nomatch h) fun _ => x_next) ?_
    by_cases q1 : w = 1
    · subst q1
      exact x_seqR (x_if (b := true) (Et.to (by walk_at "Et") (by rfl)) (fun _ => x_ret (k_chosen (a_cons (by walk_at "Eb") (a_cons (En.to (e_rep (by walk_at "Eb") (by walk_at "Eb") (by have := hjl; omega) (by have := hjl; simp only [List.length_singleton]; omega)) (by rw [rep_list, List.length_map, ← List.map_replicate])).b (by walk_at "Ea"))) ⟨by rw [List.length_replicate], hl, hs⟩)) fun h => nomatch h)
    rw [if_neg q1]
    refine x_seq (x_if (b := false) (Et.to (by walk_at "Et") (by exact decide_eq_false q1)) (fun h => nomatch h) fun _ => x_next) ?_
    by_cases q2 : w = 2
    · subst q2
      exact x_seqR (x_if (b := true) (Et.to (by walk_at "Et") (by rfl)) (fun _ => x_ret (k_run (by walk_at "Ea") hp).b) fun h => nomatch h)
    rw [if_neg q2]
    refine x_seq (x_if (b := false) (Et.to (by walk_at "Et") (by exact decide_eq_false q2)) (fun h => nomatch h) fun _ => x_next) ?_
    by_cases q3 : w = 3
    · subst q3
      exact x_seqR (x_if (b := true) (Et.to (by walk_at "Et") (by rfl)) (fun _ => x_ret (k_meets (by walk_at "Ea") hp)) fun h => nomatch h)
    rw [if_neg q3]
    refine x_seq (x_if (b := false) (Et.to (by walk_at "Et") (by exact decide_eq_false q3)) (fun h => nomatch h) fun _ => x_next) ?_
    by_cases q4 : w = 4
    · subst q4
      exact x_seqR (x_if (b := true) (Et.to (by walk_at "Et") (by rfl)) (fun _ => x_ret (k_ends (by walk_at "Ea") hp).b) fun h => nomatch h)
    rw [if_neg q4]
    refine x_seq (x_if (b := false) (Et.to (by walk_at "Et") (by exact decide_eq_false q4)) (fun h => nomatch h) fun _ => x_next) ?_
    by_cases q5 : w = 5
    · subst q5
      exact x_seqR (x_if (b := true) (Et.to (by walk_at "Et") (by rfl)) (fun _ => x_ret (k_late (by walk_at "Ea") hp).b) fun h => nomatch h)
    rw [if_neg q5]
    refine x_seq (x_if (b := false) (Et.to (by walk_at "Et") (by exact decide_eq_false q5)) (fun h => nomatch h) fun _ => x_next) ?_
    by_cases q6 : w = 6
    · subst q6
      exact x_seqR (x_if (b := true) (Et.to (by walk_at "Et") (by rfl)) (fun _ => x_ret (k_answer (by walk_at "Ea") hp)) fun h => nomatch h)
    rw [if_neg q6]
    refine x_seq (x_if (b := false) (Et.to (by walk_at "Et") (by exact decide_eq_false q6)) (fun h => nomatch h) fun _ => x_next) ?_
    by_cases q7 : w = 7
    · subst q7
      exact x_seqR (x_if (b := true) (Et.to (by walk_at "Et") (by rfl)) (fun _ => x_ret (k_needed (by walk_at "Ea") hp)) fun h => nomatch h)
    rw [if_neg q7]
    refine x_seq (x_if (b := false) (Et.to (by walk_at "Et") (by exact decide_eq_false q7)) (fun h => nomatch h) fun _ => x_next) ?_
    by_cases q8 : w = 8
    · subst q8
      exact x_seqR (x_if (b := true) (Et.to (by walk_at "Et") (by rfl)) (fun _ => x_ret (k_room (by walk_at "Ea") hp ⟨by decide, by decide⟩)) fun h => nomatch h)
    rw [if_neg q8]
    refine x_seq (x_if (b := false) (Et.to (by walk_at "Et") (by exact decide_eq_false q8)) (fun h => nomatch h) fun _ => x_next) ?_
    exact x_ret (k_written (by walk_at "Ea") hp hm)
  | inr y =>
    obtain ⟨w, ds, m⟩ := y
    obtain ⟨hb, hl⟩ : Bad ds ∧ ds.length ≤ 1000 := hx
    have a1 := pick3_at (a := 0) (b := 5) (c := 3) m
    have a2 := pick3_at (a := 5) (b := 0) (c := 3) m
    have a3 := pick2_at (a := 3) (b := 0) m
    have a4 := way5_at m
    show DX _ _ [.va (.int w), .va (.list ds), .va (.int m)] (.rt (.ex (badC ds)))
    by_cases q0 : w = 0
    · subst q0
      exact x_seqR (x_if (b := true) (Et.to (by walk_at "Et") (by rfl)) (fun _ => z_ret (z_asked (by walk_at "Ea") hb)) fun h => nomatch h)
    refine x_seq (x_if (b := false) (Et.to (by walk_at "Et") (by exact decide_eq_false q0)) (fun h => nomatch h) fun _ => x_next) ?_
    by_cases q1 : w = 1
    · subst q1
      exact x_seqR (x_if (b := true) (Et.to (by walk_at "Et") (by rfl)) (fun _ => z_ret (z_chosen (a_cons (by walk_at "Eb") (a_cons (e_rep (by walk_at "Eb") (by walk_at "Eb") (by omega) (by simp only [List.length_singleton]; omega)).b (by walk_at "Ea"))) hb)) fun h => nomatch h)
    refine x_seq (x_if (b := false) (Et.to (by walk_at "Et") (by exact decide_eq_false q1)) (fun h => nomatch h) fun _ => x_next) ?_
    by_cases q2 : w = 2
    · subst q2
      exact x_seqR (x_if (b := true) (Et.to (by walk_at "Et") (by rfl)) (fun _ => z_ret (z_run (by walk_at "Ea") hb)) fun h => nomatch h)
    refine x_seq (x_if (b := false) (Et.to (by walk_at "Et") (by exact decide_eq_false q2)) (fun h => nomatch h) fun _ => x_next) ?_
    by_cases q3 : w = 3
    · subst q3
      exact x_seqR (x_if (b := true) (Et.to (by walk_at "Et") (by rfl)) (fun _ => z_ret (z_meets (by walk_at "Ea") hb)) fun h => nomatch h)
    refine x_seq (x_if (b := false) (Et.to (by walk_at "Et") (by exact decide_eq_false q3)) (fun h => nomatch h) fun _ => x_next) ?_
    by_cases q4 : w = 4
    · subst q4
      exact x_seqR (x_if (b := true) (Et.to (by walk_at "Et") (by rfl)) (fun _ => z_ret (z_ends (by walk_at "Ea") hb)) fun h => nomatch h)
    refine x_seq (x_if (b := false) (Et.to (by walk_at "Et") (by exact decide_eq_false q4)) (fun h => nomatch h) fun _ => x_next) ?_
    by_cases q5 : w = 5
    · subst q5
      exact x_seqR (x_if (b := true) (Et.to (by walk_at "Et") (by rfl)) (fun _ => z_ret (z_late (by walk_at "Ea") hb)) fun h => nomatch h)
    refine x_seq (x_if (b := false) (Et.to (by walk_at "Et") (by exact decide_eq_false q5)) (fun h => nomatch h) fun _ => x_next) ?_
    by_cases q6 : w = 6
    · subst q6
      exact x_seqR (x_if (b := true) (Et.to (by walk_at "Et") (by rfl)) (fun _ => z_ret (z_answer (by walk_at "Ea") hb)) fun h => nomatch h)
    refine x_seq (x_if (b := false) (Et.to (by walk_at "Et") (by exact decide_eq_false q6)) (fun h => nomatch h) fun _ => x_next) ?_
    by_cases q7 : w = 7
    · subst q7
      exact x_seqR (x_if (b := true) (Et.to (by walk_at "Et") (by rfl)) (fun _ => z_ret (z_needed (by walk_at "Ea") hb)) fun h => nomatch h)
    refine x_seq (x_if (b := false) (Et.to (by walk_at "Et") (by exact decide_eq_false q7)) (fun h => nomatch h) fun _ => x_next) ?_
    by_cases q8 : w = 8
    · subst q8
      exact x_seqR (x_if (b := true) (Et.to (by walk_at "Et") (by rfl)) (fun _ => z_ret (z_room (by walk_at "Ea") hb)) fun h => nomatch h)
    refine x_seq (x_if (b := false) (Et.to (by walk_at "Et") (by exact decide_eq_false q8)) (fun h => nomatch h) fun _ => x_next) ?_
    exact z_ret (z_written (by walk_at "Ea") hb)
/-! ### _law_refused -/
abbrev s_L_refused : Stmt := topS 40
abbrev n_L_refused : List Str := ["_law_which", "_law_jobs", "_law_more", "e"]
theorem sc_L_refused : FnScope n_L_refused ["_law_which", "_law_jobs", "_law_more"] (defScope s_L_refused) := ⟨rfl, rfl, rfl, by decide +kernel, rfl, by decide +kernel, by decide +kernel⟩
def dueT [EK] (ds : List PyData) : Str := if ds.length ≤ 60 then (if ∀ d ∈ ds, soundD d = true then Str.ofString "" else Str.ofString "job") else Str.ofString "many"
abbrev R_L_refused [EK] := Rf (fun x : Int × List PyData × Int => [.int x.1, .list x.2.1, .int x.2.2]) (fun x => (Bad x.2.1 ∧ x.2.1.length ≤ 1000) ∨ ∃ js, x.2.1 = jobsL js ∧ GoodJ js) (fun x => .va (.str (dueT x.2.1)))
theorem k_L_refused [KK] [EK] {E : XK} {S : DSt} {ta : TA} {w m : Int} {ds : List PyData} (h : Ea ta S [.int w, .list ds, .int m]) (hp : (Bad ds ∧ ds.length ≤ 1000) ∨ ∃ js, ds = jobsL js ∧ GoodJ js) : Eb (tCall (SpR R_L_refused) [] E ta) S (.str (dueT ds)) := e_callR (w, ds, m) h rfl hp rfl
theorem ok_L_refused {f : Addr} {fd : FuncData} (F : Fun K "_law_refused" "_law_refused" s_L_refused f fd) (m_f : mg "_law_refused" = some (.ref f)) (b_ValueError : mg "ValueError" = none) (b_isinstance : mg "isinstance" = none) (e_RunError : ExF K mg "RunError" EK.RunError) (e_BadJob : ExF K mg "BadJob" EK.BadJob) (e_TooMany : ExF K mg "TooMany" EK.TooMany) (e_NoRow : ExF K mg "NoRow" EK.NoRow) (e_OutOfPlace : ExF K mg "OutOfPlace" EK.OutOfPlace) (xm_TooMany_RunError : PySem.W.exmOne K (.ref EK.TooMany) (.ref EK.RunError) = some true) (xm_BadJob_RunError : PySem.W.exmOne K (.ref EK.BadJob) (.ref EK.RunError) = some true) (xm_TooMany_TooMany : PySem.W.exmOne K (.ref EK.TooMany) (.ref EK.TooMany) = some true) (xm_BadJob_TooMany : PySem.W.exmOne K (.ref EK.BadJob) (.ref EK.TooMany) = some false) (xm_TooMany_NoRow : PySem.W.exmOne K (.ref EK.TooMany) (.ref EK.NoRow) = some false) (xm_BadJob_NoRow : PySem.W.exmOne K (.ref EK.BadJob) (.ref EK.NoRow) = some false) (xm_TooMany_OutOfPlace : PySem.W.exmOne K (.ref EK.TooMany) (.ref EK.OutOfPlace) = some false) (xm_BadJob_OutOfPlace : PySem.W.exmOne K (.ref EK.BadJob) (.ref EK.OutOfPlace) = some false) (ec_TooMany : ExcC K EK.TooMany) (ec_BadJob : ExcC K EK.BadJob) (kt_TooMany_ValueError : PySem.W.kitOne K (.ref EK.TooMany) (.type "ValueError") = some true) (kt_BadJob_ValueError : PySem.W.kitOne K (.ref EK.BadJob) (.type "ValueError") = some true) (kt_TooMany_BadJob : PySem.W.kitOne K (.ref EK.TooMany) (.ref EK.BadJob) = some false) (kt_BadJob_BadJob : PySem.W.kitOne K (.ref EK.BadJob) (.ref EK.BadJob) = some true) (kt_TooMany_RunError : PySem.W.kitOne K (.ref EK.TooMany) (.ref EK.RunError) = some true) (kt_BadJob_RunError : PySem.W.kitOne K (.ref EK.BadJob) (.ref EK.RunError) = some true) (c_L_done : CalX P w K mg base 8 "_law_done" ["_law_which", "_law_jobs", "_law_more"] R_L_done) : Cal P w K mg base 9 "_law_refused" ["_law_which", "_law_jobs", "_law_more"] R_L_refused := by
  letI : KK := ⟨K⟩
  refine cal_of (F.ok sc_L_refused (len_of fun _ => rfl) (fun cdv A outer s H vs Q E hr h => ⟨_,
      (pss_cons (ps_tryC rfl rfl sc_L_refused.nd takes0 (fun W pn xe tk _ => (pss_one (ps_expr (c_L_done.peS (hr.mono (by decide)) rfl tk (pa_cons (pv 0) (pa_cons (pv 1) (pa_cons (pv 2) pa_nil))))))) (ClsOk.cons (c := .ref EK.OutOfPlace) (n := none) (i := none) ⟨rfl, by decide, Or.inl e_OutOfPlace.g⟩ trivial (fun a oe cls d pn hz hf => (pss_one (ps_ret pe_str))) (ClsOk.cons (c := .ref EK.NoRow) (n := none) (i := none) ⟨rfl, by decide, Or.inl e_NoRow.g⟩ trivial (fun a oe cls d pn hz hf => (pss_one (ps_ret pe_str))) (ClsOk.cons (c := .ref EK.TooMany) (n := some "e") (i := some 3) ⟨rfl, by decide, Or.inl e_TooMany.g⟩ ⟨rfl, rfl⟩ (fun a oe cls d pn hz hf => (pss_cons (ps_if (PW.pt (pw_or (j_tru K (pe_callB (j_isE K hz hf) (by rfl) b_isinstance (by decide +kernel) (pa_cons (pv 3) (pa_cons (pe_glob (v := .ref EK.BadJob) rfl e_BadJob.g rfl) pa_nil)))) (pw_or1 (pt_not (j_tru K (pe_callB (j_isE K hz hf) (by rfl) b_isinstance (by decide +kernel) (pa_cons (pv 3) (pa_cons (pe_glob (v := .ref EK.RunError) rfl e_RunError.g rfl) pa_nil)))))))) (pss_one (ps_ret pe_str)) pss_nil)
          (pss_one (ps_ret pe_str)))) (ClsOk.cons (c := .ref EK.RunError) (n := some "e") (i := some 3) ⟨rfl, by decide, Or.inl e_RunError.g⟩ ⟨rfl, rfl⟩ (fun a oe cls d pn hz hf => (pss_cons (ps_if (PW.pt (pw_and (j_tru K (pe_callB (j_isE K hz hf) (by rfl) b_isinstance (by decide +kernel) (pa_cons (pv 3) (pa_cons (pe_glob (v := .ref EK.BadJob) rfl e_BadJob.g rfl) pa_nil)))) (pw_and1 (j_tru K (pe_callB (j_isE K hz hf) (by rfl) b_isinstance (by decide +kernel) (pa_cons (pv 3) (pa_cons (pe_bltn (v := .ty "ValueError") (by rfl) b_ValueError (by decide +kernel) rfl) pa_nil))))))) (pss_one (ps_ret pe_str)) pss_nil)
          (pss_one (ps_ret pe_str)))) ClsOk.nil)))))
      (pss_one (ps_ret pe_str))), ?_⟩)) m_f F.kp (F.binds (ps := ["_law_which", "_law_jobs", "_law_more"]) fun _ _ _ _ _ _ us hl => match us, hl with | [_, _, _], _ => rfl)
  refine run_def (N := n_L_refused) h fun x hx => ?_

  obtain ⟨w, ds, m⟩ := x
  show DX _ _ [.va (.int w), .va (.list ds), .va (.int m), .no] (.rt (.va (.str (dueT ds))))
  have ea : Ea (tCons (tVar 0) (tCons (tVar 1) (tCons (tVar 2) tNil))) [.va (.int w), .va (.list ds), .va (.int m), .no] [.int w, .list ds, .int m] := by walk_at "Ea"
  rcases hx with ⟨hb, hl⟩ | ⟨js, ej, hg⟩
  · have hR : R_L_done [.int w, .list ds, .int m] (.ex (badC ds)) := ⟨.inr (w, ds, m), ⟨hb, hl⟩, rfl, rfl⟩
    unfold dueT
    by_cases hz : ds.length ≤ 60
    · have e : badC ds = EK.BadJob := if_pos hz
      have hn : ¬ ∀ d ∈ ds, soundD d = true := fun h => hb ⟨hz, h⟩
      rw [if_pos hz, if_neg hn]
      rw [e] at hR
      exact x_seqR (t_tryC (tz_drop ea hR) (.inr ⟨xm_BadJob_OutOfPlace, .inr ⟨xm_BadJob_NoRow, .inr ⟨xm_BadJob_TooMany, .inl ⟨xm_BadJob_RunError, rfl, _, rfl, fun a => xa_yes (eta_and (b := true) (c := true) (eta_isO kt_BadJob_BadJob ec_BadJob) fun _ => eta_isT kt_BadJob_ValueError ec_BadJob) (xa_of (x_ret e_str))⟩⟩⟩⟩))
    · have e : badC ds = EK.TooMany := if_neg hz
      rw [if_neg hz]
      rw [e] at hR
      exact x_seqR (t_tryC (tz_drop ea hR) (.inr ⟨xm_TooMany_OutOfPlace, .inr ⟨xm_TooMany_NoRow, .inl ⟨xm_TooMany_TooMany, rfl, _, rfl, fun a => xa_no (eta_or (b := false) (c := false) (eta_isO kt_TooMany_BadJob ec_TooMany) fun _ => eta_not (b := true) (eta_isO kt_TooMany_RunError ec_TooMany)) (xa_of (x_ret e_str))⟩⟩⟩))
  · have ej : ds = jobsL js := ej
    subst ej
    have hR : R_L_done [.int w, jobsD js, .int m] (.va (doneF w js m)) := ⟨.inl (w, js, m), hg, rfl, rfl⟩
    have hz : (jobsL js).length ≤ 60 := by rw [List.length_map]; exact hg.1.1
    have hn : ∀ d ∈ jobsL js, soundD d = true := fun d hd => by
      obtain ⟨j, hj, rfl⟩ := List.mem_map.mp hd
      exact (soundD_job j).mpr (hg.1.2 j hj)
    unfold dueT
    rw [if_pos hz, if_pos hn]
    exact x_seq (t_tryCN (tn_drop ea hR)) (x_ret e_str)
/-! ### law -/
abbrev s_law : Stmt := topS 41
abbrev n_law : List Str := ["_law_script", "_law_come", "_law_length", "_law_thing", "_law_which", "_law_count", "_law_place", "_law_jobs", "_law_due", "_law_found"]
theorem sc_law : FnScope n_law ["_law_script"] (defScope s_law) := ⟨rfl, rfl, rfl, by decide +kernel, rfl, by decide +kernel, by decide +kernel⟩
theorem k_cell02 [KK] {E : XK} {S : DSt} {ta : TA} {ns : List Int} {k : Int} (h : Ea ta S [frz ns, .int k]) (hk : 0 ≤ k) : Eb (tCall (SpR R_L_cell_at) [] E ta) S (.int (cellAt ns k)) := e_callR (ns, k) h rfl hk rfl
local macro_rules | `(tactic| walk_at "call") => `(tactic| (apply k_cell02; (walk_at "Ea"); (walk_at "side")))
theorem log_of {n : Nat} (h : n < 2 ^ 400) : n.log2 < 1920 := by
  by_cases z : n = 0
  · subst z
    decide
  · rw [Nat.log2_lt z]
    exact Nat.lt_of_lt_of_le h (Nat.pow_le_pow_right (by decide) (by decide))
def dueA (t : PyData) (n : Int) : Str := if 60 < n then Str.ofString "many" else if soundD t = true then Str.ofString "" else Str.ofString "job"
theorem due_eq [KK] [EK] {t : PyData} {n p : Nat} (hp : p < n) : dueT ((jobsL (List.replicate n (1, 2, 4))).set p t) = dueA t n ∧
    ((Bad ((jobsL (List.replicate n (1, 2, 4))).set p t)) ∨ ∃ js, (jobsL (List.replicate n (1, 2, 4))).set p t = jobsL js ∧ (js.length ≤ 60 ∧ AllS js) ∧ ∀ j ∈ js, jobD j = t ∨ j = (1, 2, 4)) := by
  have hl : ((jobsL (List.replicate n (1, 2, 4))).set p t).length = n := by rw [List.length_set, List.length_map, List.length_replicate]
  have hmem : t ∈ (jobsL (List.replicate n (1, 2, 4))).set p t := List.mem_of_getElem? (i := p) (List.getElem?_set_self (by rw [List.length_map, List.length_replicate]; exact hp))
  have hoth : ∀ d ∈ (jobsL (List.replicate n (1, 2, 4))).set p t, d = t ∨ d = jobD (1, 2, 4) := fun d hd => by
    rcases List.mem_or_eq_of_mem_set hd with h | h
    · obtain ⟨j, hj, rfl⟩ := List.mem_map.mp h
      rw [List.eq_of_mem_replicate hj]
      exact .inr rfl
    · exact .inl h
  have hall : (∀ d ∈ (jobsL (List.replicate n (1, 2, 4))).set p t, soundD d = true) ↔ soundD t = true := ⟨fun h => h t hmem, fun h d hd => by
    rcases hoth d hd with e | e
    · rw [e]; exact h
    · rw [e]; rfl⟩
  constructor
  · unfold dueT dueA
    rw [hl]
    by_cases h : n ≤ 60
    · rw [if_pos h, if_neg (show ¬ (60 : Int) < n by omega)]
      by_cases q : soundD t = true
      · rw [if_pos (hall.mpr q), if_pos q]
      · rw [if_neg (fun z => q (hall.mp z)), if_neg q]
    · rw [if_neg h, if_pos (show (60 : Int) < n by omega)]
  · by_cases h : n ≤ 60 ∧ soundD t = true
    · obtain ⟨js, e, hs⟩ := good_jobs (hall.mpr h.2)
      refine .inr ⟨js, e, ⟨?_, hs⟩, fun j hj => ?_⟩
      · have := congrArg List.length e
        rw [hl, List.length_map] at this
        omega
      · have hd : jobD j ∈ (jobsL (List.replicate n (1, 2, 4))).set p t := by
          rw [e]
          exact List.mem_map_of_mem hj
        rcases hoth _ hd with z | z
        · exact .inl z
        · refine .inr ?_
          obtain ⟨a, b, c⟩ := j
          cases z
          rfl
    · refine .inl fun z => h ⟨?_, hall.mp z.2⟩
      rw [← hl]
      exact z.1
theorem ok_law {f : Addr} {fd : FuncData} (F : Fun K "law" "law" s_law f fd) (b_isinstance : mg "isinstance" = none) (b_bool : mg "bool" = none) (c_L_cell_at : Cal P w K mg base 1 "_law_cell_at" ["_law_script", "_law_k"] R_L_cell_at) (c_L_thing_by : Cal P w K mg base 1 "_law_thing_by" ["_law_cell", "_law_come", "_law_length", "_law_more"] R_L_thing_by) (c_L_odd_by : Cal P w K mg base 1 "_law_odd_by" ["_law_cell", "_law_thing"] R_L_odd_by) (c_L_sound : Cal P w K mg base 2 "_law_sound" ["_law_thing"] R_L_sound) (c_sound : Cal P w K mg base 2 "sound" ["job"] R_sound) (c_L_refused : Cal P w K mg base 9 "_law_refused" ["_law_which", "_law_jobs", "_law_more"] R_L_refused) : FnOk P w K mg base CX0 10 f fd ["_law_script"] (spLaw K) := by
  refine F.ok sc_law (fun vs H Q E h => by obtain ⟨a, ns, rfl, _⟩ := h; rfl) (fun cdv A outer s H vs Q E hr h => ⟨_,
      (pss_cons (ps_set (i := 1) sc_law.nd rfl (Or.inl rfl) (pe_op op_mod (c_L_cell_at.pe (hr.mono (by decide)) rfl (pa_cons (pv 0) (pa_cons pe_int pa_nil))) (pe_op op_pow pe_int pe_int)))
      (pss_cons (ps_set (i := 2) sc_law.nd rfl (Or.inl rfl) (pe_op op_plus pe_int (pe_op op_mod (c_L_cell_at.pe (hr.mono (by decide)) rfl (pa_cons (pv 0) (pa_cons pe_int pa_nil))) (pe_op op_pow pe_int pe_int))))
      (pss_cons (ps_set (i := 3) sc_law.nd rfl (Or.inl rfl) (c_L_thing_by.pe (hr.mono (by decide)) rfl (pa_cons (c_L_cell_at.pe (hr.mono (by decide)) rfl (pa_cons (pv 0) (pa_cons pe_int pa_nil))) (pa_cons (pv 1) (pa_cons (pv 2) (pa_cons (pe_op op_plus pe_int (pe_op op_mod (c_L_cell_at.pe (hr.mono (by decide)) rfl (pa_cons (pv 0) (pa_cons pe_int pa_nil))) (pe_op op_pow pe_int pe_int))) pa_nil))))))
      (pss_cons (ps_set (i := 3) sc_law.nd rfl (Or.inl rfl) (c_L_odd_by.pe (hr.mono (by decide)) rfl (pa_cons (c_L_cell_at.pe (hr.mono (by decide)) rfl (pa_cons (pv 0) (pa_cons pe_int pa_nil))) (pa_cons (pv 3) pa_nil))))
      (pss_cons (ps_set (i := 4) sc_law.nd rfl (Or.inl rfl) (pe_op op_mod (c_L_cell_at.pe (hr.mono (by decide)) rfl (pa_cons (pv 0) (pa_cons pe_int pa_nil))) pe_int))
      (pss_cons (ps_set (i := 5) sc_law.nd rfl (Or.inl rfl) (pe_op op_plus pe_int (pe_op op_mod (c_L_cell_at.pe (hr.mono (by decide)) rfl (pa_cons (pv 0) (pa_cons pe_int pa_nil))) pe_int)))
      (pss_cons (ps_if (pt_cmpR (j_eq K hr.units) (pe_op op_mod (pe_op op_fdiv (c_L_cell_at.pe (hr.mono (by decide)) rfl (pa_cons (pv 0) (pa_cons pe_int pa_nil))) pe_int) pe_int) pe_int (nomark _)) (pss_one (ps_set (i := 5) sc_law.nd rfl (Or.inl rfl) (pe_op op_plus pe_int (pe_op op_times (pe_op op_mod (pe_op op_fdiv (c_L_cell_at.pe (hr.mono (by decide)) rfl (pa_cons (pv 0) (pa_cons pe_int pa_nil))) pe_int) pe_int) pe_int)))) pss_nil)
      (pss_cons (ps_if (PW.pt (pw_and (pt_cmpR (j_eq K hr.units) (pe_op op_mod (pe_op op_fdiv (c_L_cell_at.pe (hr.mono (by decide)) rfl (pa_cons (pv 0) (pa_cons pe_int pa_nil))) pe_int) pe_int) pe_int (nomark _)) (pw_and1 (pt_cmpR (j_in K (hu65 hr)) (pv 4) (pe_tup (pa_cons pe_int (pa_cons pe_int (pa_cons pe_int (pa_cons pe_int pa_nil))))) rfl)))) (pss_one (ps_set (i := 5) sc_law.nd rfl (Or.inl rfl) pe_int)) pss_nil)
      (pss_cons (ps_set (i := 6) sc_law.nd rfl (Or.inl rfl) (pe_op op_mod (c_L_cell_at.pe (hr.mono (by decide)) rfl (pa_cons (pv 0) (pa_cons pe_int pa_nil))) (pv 5)))
      (pss_cons (ps_set (i := 7) sc_law.nd rfl (Or.inl rfl) (pe_op op_times (pe_lst (pa_cons (pe_tup (pa_cons pe_int (pa_cons pe_int (pa_cons pe_int pa_nil)))) pa_nil)) (pv 5)))
      (pss_cons (ps_set (i := 7) sc_law.nd rfl (Or.inl rfl) (pe_op op_plus (pe_op op_plus (j_sl K (pv 7) po_none (po_some (pv 6))) (pe_lst (pa_cons (pv 3) pa_nil))) (j_sl K (pv 7) (po_some (pe_op op_plus (pv 6) pe_int)) po_none)))
      (pss_cons (ps_set (i := 8) sc_law.nd rfl (Or.inl rfl) pe_str)
      (pss_cons (ps_if (j_tru K (c_L_sound.pe (hr.mono (by decide)) rfl (pa_cons (pv 3) pa_nil))) (pss_one (ps_set (i := 8) sc_law.nd rfl (Or.inl rfl) pe_str)) pss_nil)
      (pss_cons (ps_if (pt_cmpR op_gt (pv 5) pe_int (nomark _)) (pss_one (ps_set (i := 8) sc_law.nd rfl (Or.inl rfl) pe_str)) pss_nil)
      (pss_cons (ps_set (i := 9) sc_law.nd rfl (Or.inl rfl) (c_sound.pe (hr.mono (by decide)) rfl (pa_cons (pv 3) pa_nil)))
      (pss_cons (ps_if (PW.pt (pw_or (pt_not (j_tru K (pe_callB (j_isi K) (by rfl) b_isinstance (by decide +kernel) (pa_cons (pv 9) (pa_cons (pe_bltn (v := .ty "bool") (by rfl) b_bool (by decide +kernel) rfl) pa_nil))))) (pw_or1 (pt_cmpR (j_ne K hr.units) (pv 9) (c_L_sound.pe (hr.mono (by decide)) rfl (pa_cons (pv 3) pa_nil)) (nomark _))))) (pss_one (ps_ret pe_bl)) pss_nil)
      (pss_one (ps_ret (pe_cmpR (j_eq K hr.units) (c_L_refused.pe (hr.mono (by decide)) rfl (pa_cons (pv 4) (pa_cons (pv 7) (pa_cons (c_L_cell_at.pe (hr.mono (by decide)) rfl (pa_cons (pv 0) (pa_cons pe_int pa_nil))) pa_nil)))) (pv 8) (nomark _)))))))))))))))))))), ?_⟩)
  letI : KK := ⟨K⟩
  refine law_run (N := n_law) h fun ns hns => ?_

  refine x_seq (x_set (i := 1) (d := .int (cellAt ns 3 % 10 ^ (59 : Int).toNat)) (by walk_at "Ep")) ?_
  refine x_seq (x_set (i := 2) (d := .int (1 + cellAt ns 4 % 10 ^ (59 : Int).toNat)) (by walk_at "Ep")) ?_
  refine x_seq (x_set (i := 3) (d := thingF (cellAt ns 0) (cellAt ns 3 % 10 ^ (59 : Int).toNat) (1 + cellAt ns 4 % 10 ^ (59 : Int).toNat) (1 + cellAt ns 5 % 10 ^ (59 : Int).toNat)) (Ep.free (k_L_thing_by (by walk_at "Ea")) rfl)) ?_
  have big : ∀ x : Int, (x % 10 ^ (59 : Int).toNat).natAbs < 2 ^ 300 ∧ (1 + x % 10 ^ (59 : Int).toNat).natAbs < 2 ^ 300 := fun x => by
    have h0 : (0 : Int) < 10 ^ (59 : Int).toNat := by decide +kernel
    have h1 := Int.emod_nonneg x (Int.ne_of_gt h0)
    have h2 := Int.emod_lt_of_pos x h0
    have h3 : (10 : Int) ^ (59 : Int).toNat + 2 < ((2 ^ 300 : Nat) : Int) := by decide +kernel
    omega
  have hth := thing_jobs (c := cellAt ns 0) (big (cellAt ns 3)).1 (big (cellAt ns 4)).2 (big (cellAt ns 5)).2
  generalize hgt : thingF (cellAt ns 0) (cellAt ns 3 % 10 ^ (59 : Int).toNat) (1 + cellAt ns 4 % 10 ^ (59 : Int).toNat) (1 + cellAt ns 5 % 10 ^ (59 : Int).toNat) = th0 at *
  refine x_seq (x_set (i := 3) (d := oddF (cellAt ns 6) th0) (Ep.free (k_L_odd_by (by walk_at "Ea")) rfl)) ?_
  have hth2 : ∀ i j k, oddF (cellAt ns 6) th0 = .tuple [.int i, .int j, .int k] → i.natAbs < 2 ^ 400 ∧ j.natAbs < 2 ^ 400 ∧ k.natAbs < 2 ^ 400 := by
    intro i j k
    unfold oddF
    split
    · intro h; cases h
    · split
      · intro h; cases h
      · split
        · intro h; cases h
        · exact hth i j k
  generalize oddF (cellAt ns 6) th0 = th at *
  refine x_seq (x_set (i := 4) (d := .int (cellAt ns 1 % 10)) (by walk_at "Ep")) ?_
  generalize cellAt ns 1 % 10 = w at *
  refine x_seq (x_set (i := 5) (d := .int (1 + cellAt ns 2 % 5)) (by walk_at "Ep")) ?_
  generalize hcome : cellAt ns 3 % 10 ^ (59 : Int).toNat = come at *
  generalize hlen : 1 + cellAt ns 4 % 10 ^ (59 : Int).toNat = len at *
  show DX _ _ [.va (frz ns), .va (.int come), .va (.int len), .va th, .va (.int w), .va (.int (1 + cellAt ns 2 % 5)), .no, .no, .no, .no] _
  refine x_seqE (fun n : Nat => [.va (frz ns), .va (.int come), .va (.int len), .va th, .va (.int w), .va (.int (n : Int)), .no, .no, .no, .no]) (fun n => 1 ≤ n ∧ n ≤ 141) ?_ ?_
  · by_cases q : cellAt ns 2 / 5 % 4 = 1
    · refine ⟨(61 + cellAt ns 2 / 20 % 3 * 40).toNat, by omega, x_if (b := true) (Et.to (by walk_at "Et") (by exact decide_eq_true q)) (fun _ => x_post (x_set (i := 5) (d := .int (61 + cellAt ns 2 / 20 % 3 * 40)) (by walk_at "Ep")) ?_) (fun h => nomatch h)⟩
      rw [Int.toNat_of_nonneg (by omega)]
      exact Le.rfl'
    · refine ⟨(1 + cellAt ns 2 % 5).toNat, by omega, x_if (b := false) (Et.to (by walk_at "Et") (by exact decide_eq_false q)) (fun h => nomatch h) (fun _ => x_post x_next ?_)⟩
      rw [Int.toNat_of_nonneg (by omega)]
      exact Le.rfl'
  intro n0 hn0
  refine x_seqE (fun n : Nat => [.va (frz ns), .va (.int come), .va (.int len), .va th, .va (.int w), .va (.int (n : Int)), .no, .no, .no, .no]) (fun n => 1 ≤ n ∧ n ≤ 141) ?_ ?_
  · cases q : (decide (cellAt ns 2 / 5 % 16 = 2) && decide (w ∈ [(0 : Int), 1, 3, 9])) with
    | true => exact ⟨60, by omega, x_if (b := true) (Et.to (t_and (by walk_at "Et") (fun _ => t_test (e_inT (ns := [(0 : Int), 1, 3, 9]) (by walk_at "Eb") (by walk_at "Eb") (by rfl)))) (by exact q)) (fun _ => x_set (i := 5) (d := .int 60) (by walk_at "Ep")) (fun h => nomatch h)⟩
    | false => exact ⟨n0, hn0, x_if (b := false) (Et.to (t_and (by walk_at "Et") (fun _ => t_test (e_inT (ns := [(0 : Int), 1, 3, 9]) (by walk_at "Eb") (by walk_at "Eb") (by rfl)))) (by exact q)) (fun h => nomatch h) (fun _ => x_next)⟩
  intro n hn
  have hnp : (0 : Int) < (n : Int) := by omega
  obtain ⟨p, hp⟩ := Int.eq_ofNat_of_zero_le (Int.emod_nonneg (cellAt ns 7) (b := (n : Int)) (by omega))
  have hpn : p < n := by
    have := Int.emod_lt_of_pos (cellAt ns 7) hnp
    omega
  refine x_seq (x_set (i := 6) (d := .int (p : Int)) (Ep.imm (Eb.to (by walk_at "Eb") (by exact congrArg PyData.int hp)) rfl)) ?_
  have em : Eb (tOp rTimes (tLst (tCons (tTup (tCons (tC (.int 1)) (tCons (tC (.int 2)) (tCons (tC (.int 4)) tNil)))) tNil)) (tVar 5)) [.va (frz ns), .va (.int come), .va (.int len), .va th, .va (.int w), .va (.int (n : Int)), .va (.int (p : Int)), .no, .no, .no] (jobsD (List.replicate n (1, 2, 4))) := by
    refine (En.to (e_rep (by walk_at "Eb") (by walk_at "Eb") (by omega) (by simp only [List.length_singleton]; omega)) ?_).b
    rw [Int.toNat_natCast, flat_rep]
    exact (List.map_replicate (f := fun j : Job => jobD j) (n := n) (a := (1, 2, 4))).symm
  refine x_seq (x_set (i := 7) (d := jobsD (List.replicate n (1, 2, 4))) (Ep.free em rfl)) ?_
  have hlr : (jobsL (List.replicate n (1, 2, 4))).length = n := by rw [List.length_map, List.length_replicate]
  refine x_seq (x_set (i := 7) (d := .list ((jobsL (List.replicate n (1, 2, 4))).set p th)) (Ep.free (Eb.to (n_splice (by walk_at "Eb") (by walk_at "Eb") (by walk_at "Eb") (by walk_at "Eb") (by walk_at "Eb") (by omega) (by omega) (by omega)).b (by
    rw [show ((p : Int) + 1).toNat = p + 1 by omega, Int.toNat_natCast, set_splice (by omega)])) rfl)) ?_
  obtain ⟨hd1, hd2⟩ := due_eq (t := th) hpn
  have hbl : ((jobsL (List.replicate n (1, 2, 4))).set p th).length ≤ 1000 := by rw [List.length_set]; omega
  have hpre : (Bad ((jobsL (List.replicate n (1, 2, 4))).set p th) ∧ ((jobsL (List.replicate n (1, 2, 4))).set p th).length ≤ 1000) ∨ ∃ js, (jobsL (List.replicate n (1, 2, 4))).set p th = jobsL js ∧ GoodJ js := by
    rcases hd2 with h | ⟨js, e, hs, hj⟩
    · exact .inl ⟨h, hbl⟩
    · refine .inr ⟨js, e, hs, fun j hm => ?_⟩
      rcases hj j hm with z | z
      · obtain ⟨z1, z2, z3⟩ := hth2 _ _ _ z.symm
        exact ⟨log_of z1, log_of z2, log_of z3⟩
      · rw [z]
        exact ⟨by decide, by decide, by decide⟩
  generalize (jobsL (List.replicate n (1, 2, 4))).set p th = ds at *
  refine x_seq (x_set (i := 8) (d := .str (Str.ofString "job")) (Ep.free (by walk_at "Eb") rfl)) ?_
  refine x_seq (S1 := [.va (frz ns), .va (.int come), .va (.int len), .va th, .va (.int w), .va (.int (n : Int)), .va (.int (p : Int)), .va (.list ds), .va (.str (if soundD th = true then Str.ofString "" else Str.ofString "job")), .no]) (by
    by_cases q : soundD th = true
    · rw [if_pos q]
      exact x_if (b := true) (Et.to (by walk_at "Et") (by exact q)) (fun _ => x_set (Ep.free (by walk_at "Eb") rfl)) (fun h => nomatch h)
    · rw [if_neg q]
      exact x_if (b := false) (Et.to (by walk_at "Et") (by simpa using q)) (fun h => nomatch h) (fun _ => x_next)) ?_
  refine x_seq (S1 := [.va (frz ns), .va (.int come), .va (.int len), .va th, .va (.int w), .va (.int (n : Int)), .va (.int (p : Int)), .va (.list ds), .va (.str (dueA th n)), .no]) (by
    unfold dueA
    by_cases q : (60 : Int) < n
    · rw [if_pos q]
      exact x_if (b := true) (Et.to (by walk_at "Et") (by exact decide_eq_true q)) (fun _ => x_set (Ep.free (by walk_at "Eb") rfl)) (fun h => nomatch h)
    · rw [if_neg q]
      exact x_if (b := false) (Et.to (by walk_at "Et") (by exact decide_eq_false q)) (fun h => nomatch h) (fun _ => x_next)) ?_
  refine x_seq (x_set (i := 9) (d := .bool (soundD th)) (Ep.free (k_sound (by walk_at "Ea")) rfl)) ?_
  refine x_seq (x_if (b := false) (Et.to (t_or (a := false) (b := false) (Et.to (by walk_at "Et") (by rfl)) (fun _ => Et.to (by walk_at "Et") (by rw [eqv_bool, decide_eq_true rfl]; rfl))) (by rfl)) (fun h => nomatch h) (fun _ => x_next)) ?_
  have sh : SeqAt.shaped (.str (dueA th n)) = true := by
    unfold dueA
    split
    · exact shaped_str (by decide +kernel)
    · split <;> exact shaped_str (by decide +kernel)
  refine x_ret' (e_eq (k_L_refused (by walk_at "Ea") hpre) (by walk_at "Eb") (by rw [hd1]; exact sh) sh) ?_
  rw [hd1, SeqAt.eqv_refl]
  exact SeqAt.canLay_of_shaped sh
end
theorem all_mk {l : PySem.W.OpenLaw} {w : World} {K : PySem.W.Frag} {h : Heap} {mg : Str → Option Value} {fa f0 f1 f2 f3 f4 f5 f6 f7 f8 f9 f10 f11 f12 f13 f14 f15 f16 f17 f18 f19 f20 f21 f22 f23 f24 f25 f26 f27 : Addr} (X : K.In h) (G : h.Ns mainGlobals mg) (hfa : mg "law" = some (.ref fa))
    {od0 an0 od1 an1 od2 an2 od3 an3 od4 an4 od5 an5 od6 an6 od7 an7 od8 an8 od9 an9 od10 an10 od11 an11 od12 an12 od13 an13 od14 an14 od15 an15 od16 an16 od17 an17 od18 an18 od19 an19 od20 an20 od21 an21 od22 an22 od23 an23 od24 an24 od25 an25 od26 an26 od27 an27 : Option Addr}
    {sl0 sl1 sl2 sl3 sl4 sl5 sl6 sl7 sl8 sl9 sl10 sl11 sl12 sl13 sl14 sl15 sl16 sl17 sl18 sl19 sl20 sl21 sl22 sl23 sl24 sl25 sl26 sl27 : Array (Option Value)}
    {oc0 kV0 dc0 pm0 cd0 ct0 oc1 kV1 dc1 pm1 cd1 ct1 oc2 kV2 dc2 pm2 cd2 ct2 oc3 kV3 dc3 pm3 cd3 ct3 oc4 kV4 dc4 pm4 cd4 ct4 oc5 kV5 dc5 pm5 cd5 ct5 oc6 kV6 dc6 pm6 cd6 ct6 oc7 kV7 dc7 pm7 cd7 ct7 oc8 kV8 dc8 pm8 cd8 ct8 oc9 kV9 dc9 pm9 cd9 ct9 oc10 kV10 dc10 pm10 cd10 ct10 oc11 kV11 dc11 pm11 cd11 ct11 oc12 kV12 dc12 pm12 cd12 ct12 oc13 kV13 dc13 pm13 cd13 ct13 oc14 kV14 dc14 pm14 cd14 ct14 oc15 kV15 dc15 pm15 cd15 ct15 oc16 kV16 dc16 pm16 cd16 ct16 oc17 kV17 dc17 pm17 cd17 ct17 oc18 kV18 dc18 pm18 cd18 ct18 oc19 kV19 dc19 pm19 cd19 ct19 oc20 kV20 dc20 pm20 cd20 ct20 oc21 kV21 dc21 pm21 cd21 ct21 oc22 kV22 dc22 pm22 cd22 ct22 oc23 kV23 dc23 pm23 cd23 ct23 oc24 kV24 dc24 pm24 cd24 ct24 oc25 kV25 dc25 pm25 cd25 ct25 oc26 kV26 dc26 pm26 cd26 ct26 oc27 kV27 dc27 pm27 cd27 ct27 : Value}
    (a0 : PySem.W.nsIn K mainGlobals "_law_thing_by" = some (some (.ref f0))) (l0 : K.lookup f0 = some ⟨oc0, od0, .func (PySem.W.fnOf "_law_thing_by" "_law_thing_by" (defArgs s_L_thing_by) (defBody s_L_thing_by) (defScope s_L_thing_by) .none kV0 dc0 pm0 an0 cd0 ct0), sl0⟩) (c0 : PySem.W.codeIn K cd0 "_law_thing_by" = true) (k0 : PySem.W.keepIn K (.ref f0) = true)
    (a1 : PySem.W.nsIn K mainGlobals "_law_odd_by" = some (some (.ref f1))) (l1 : K.lookup f1 = some ⟨oc1, od1, .func (PySem.W.fnOf "_law_odd_by" "_law_odd_by" (defArgs s_L_odd_by) (defBody s_L_odd_by) (defScope s_L_odd_by) .none kV1 dc1 pm1 an1 cd1 ct1), sl1⟩) (c1 : PySem.W.codeIn K cd1 "_law_odd_by" = true) (k1 : PySem.W.keepIn K (.ref f1) = true)
    (a2 : PySem.W.nsIn K mainGlobals "_law_whole" = some (some (.ref f2))) (l2 : K.lookup f2 = some ⟨oc2, od2, .func (PySem.W.fnOf "_law_whole" "_law_whole" (defArgs s_L_whole) (defBody s_L_whole) (defScope s_L_whole) .none kV2 dc2 pm2 an2 cd2 ct2), sl2⟩) (c2 : PySem.W.codeIn K cd2 "_law_whole" = true) (k2 : PySem.W.keepIn K (.ref f2) = true)
    (a3 : PySem.W.nsIn K mainGlobals "_law_sound" = some (some (.ref f3))) (l3 : K.lookup f3 = some ⟨oc3, od3, .func (PySem.W.fnOf "_law_sound" "_law_sound" (defArgs s_L_sound) (defBody s_L_sound) (defScope s_L_sound) .none kV3 dc3 pm3 an3 cd3 ct3), sl3⟩) (c3 : PySem.W.codeIn K cd3 "_law_sound" = true) (k3 : PySem.W.keepIn K (.ref f3) = true)
    (a4 : PySem.W.nsIn K mainGlobals "whole" = some (some (.ref f4))) (l4 : K.lookup f4 = some ⟨oc4, od4, .func (PySem.W.fnOf "whole" "whole" (defArgs s_whole) (defBody s_whole) (defScope s_whole) .none kV4 dc4 pm4 an4 cd4 ct4), sl4⟩) (c4 : PySem.W.codeIn K cd4 "whole" = true) (k4 : PySem.W.keepIn K (.ref f4) = true)
    (a5 : PySem.W.nsIn K mainGlobals "sound" = some (some (.ref f5))) (l5 : K.lookup f5 = some ⟨oc5, od5, .func (PySem.W.fnOf "sound" "sound" (defArgs s_sound) (defBody s_sound) (defScope s_sound) .none kV5 dc5 pm5 an5 cd5 ct5), sl5⟩) (c5 : PySem.W.codeIn K cd5 "sound" = true) (k5 : PySem.W.keepIn K (.ref f5) = true)
    (a6 : PySem.W.nsIn K mainGlobals "_law_cell_at" = some (some (.ref f6))) (l6 : K.lookup f6 = some ⟨oc6, od6, .func (PySem.W.fnOf "_law_cell_at" "_law_cell_at" (defArgs s_L_cell_at) (defBody s_L_cell_at) (defScope s_L_cell_at) .none kV6 dc6 pm6 an6 cd6 ct6), sl6⟩) (c6 : PySem.W.codeIn K cd6 "_law_cell_at" = true) (k6 : PySem.W.keepIn K (.ref f6) = true)
    (a7 : PySem.W.nsIn K mainGlobals "looked" = some (some (.ref f7))) (l7 : K.lookup f7 = some ⟨oc7, od7, .func (PySem.W.fnOf "looked" "looked" (defArgs s_looked) (defBody s_looked) (defScope s_looked) .none kV7 dc7 pm7 an7 cd7 ct7), sl7⟩) (c7 : PySem.W.codeIn K cd7 "looked" = true) (k7 : PySem.W.keepIn K (.ref f7) = true)
    (a8 : PySem.W.nsIn K mainGlobals "written" = some (some (.ref f8))) (l8 : K.lookup f8 = some ⟨oc8, od8, .func (PySem.W.fnOf "written" "written" (defArgs s_written) (defBody s_written) (defScope s_written) .none kV8 dc8 pm8 an8 cd8 ct8), sl8⟩) (c8 : PySem.W.codeIn K cd8 "written" = true) (k8 : PySem.W.keepIn K (.ref f8) = true)
    (a9 : PySem.W.nsIn K mainGlobals "load" = some (some (.ref f9))) (l9 : K.lookup f9 = some ⟨oc9, od9, .func (PySem.W.fnOf "load" "load" (defArgs s_load) (defBody s_load) (defScope s_load) .none kV9 dc9 pm9 an9 cd9 ct9), sl9⟩) (c9 : PySem.W.codeIn K cd9 "load" = true) (k9 : PySem.W.keepIn K (.ref f9) = true)
    (a10 : PySem.W.nsIn K mainGlobals "asked" = some (some (.ref f10))) (l10 : K.lookup f10 = some ⟨oc10, od10, .func (PySem.W.fnOf "asked" "asked" (defArgs s_asked) (defBody s_asked) (defScope s_asked) .none kV10 dc10 pm10 an10 cd10 ct10), sl10⟩) (c10 : PySem.W.codeIn K cd10 "asked" = true) (k10 : PySem.W.keepIn K (.ref f10) = true)
    (a11 : PySem.W.nsIn K mainGlobals "nearest" = some (some (.ref f11))) (l11 : K.lookup f11 = some ⟨oc11, od11, .func (PySem.W.fnOf "nearest" "nearest" (defArgs s_nearest) (defBody s_nearest) (defScope s_nearest) .none kV11 dc11 pm11 an11 cd11 ct11), sl11⟩) (c11 : PySem.W.codeIn K cd11 "nearest" = true) (k11 : PySem.W.keepIn K (.ref f11) = true)
    (a12 : PySem.W.nsIn K mainGlobals "chosen" = some (some (.ref f12))) (l12 : K.lookup f12 = some ⟨oc12, od12, .func (PySem.W.fnOf "chosen" "chosen" (defArgs s_chosen) (defBody s_chosen) (defScope s_chosen) .none kV12 dc12 pm12 an12 cd12 ct12), sl12⟩) (c12 : PySem.W.codeIn K cd12 "chosen" = true) (k12 : PySem.W.keepIn K (.ref f12) = true)
    (a13 : PySem.W.nsIn K mainGlobals "upcoming" = some (some (.ref f13))) (l13 : K.lookup f13 = some ⟨oc13, od13, .func (PySem.W.fnOf "upcoming" "upcoming" (defArgs s_upcoming) (defBody s_upcoming) (defScope s_upcoming) .none kV13 dc13 pm13 an13 cd13 ct13), sl13⟩) (c13 : PySem.W.codeIn K cd13 "upcoming" = true) (k13 : PySem.W.keepIn K (.ref f13) = true)
    (a14 : PySem.W.nsIn K mainGlobals "joined" = some (some (.ref f14))) (l14 : K.lookup f14 = some ⟨oc14, od14, .func (PySem.W.fnOf "joined" "joined" (defArgs s_joined) (defBody s_joined) (defScope s_joined) .none kV14 dc14 pm14 an14 cd14 ct14), sl14⟩) (c14 : PySem.W.codeIn K cd14 "joined" = true) (k14 : PySem.W.keepIn K (.ref f14) = true)
    (a15 : PySem.W.nsIn K mainGlobals "worked" = some (some (.ref f15))) (l15 : K.lookup f15 = some ⟨oc15, od15, .func (PySem.W.fnOf "worked" "worked" (defArgs s_worked) (defBody s_worked) (defScope s_worked) .none kV15 dc15 pm15 an15 cd15 ct15), sl15⟩) (c15 : PySem.W.codeIn K cd15 "worked" = true) (k15 : PySem.W.keepIn K (.ref f15) = true)
    (a16 : PySem.W.nsIn K mainGlobals "run" = some (some (.ref f16))) (l16 : K.lookup f16 = some ⟨oc16, od16, .func (PySem.W.fnOf "run" "run" (defArgs s_run) (defBody s_run) (defScope s_run) .none kV16 dc16 pm16 an16 cd16 ct16), sl16⟩) (c16 : PySem.W.codeIn K cd16 "run" = true) (k16 : PySem.W.keepIn K (.ref f16) = true)
    (a17 : PySem.W.nsIn K mainGlobals "meets" = some (some (.ref f17))) (l17 : K.lookup f17 = some ⟨oc17, od17, .func (PySem.W.fnOf "meets" "meets" (defArgs s_meets) (defBody s_meets) (defScope s_meets) .none kV17 dc17 pm17 an17 cd17 ct17), sl17⟩) (c17 : PySem.W.codeIn K cd17 "meets" = true) (k17 : PySem.W.keepIn K (.ref f17) = true)
    (a18 : PySem.W.nsIn K mainGlobals "last_ends" = some (some (.ref f18))) (l18 : K.lookup f18 = some ⟨oc18, od18, .func (PySem.W.fnOf "last_ends" "last_ends" (defArgs s_last_ends) (defBody s_last_ends) (defScope s_last_ends) .none kV18 dc18 pm18 an18 cd18 ct18), sl18⟩) (c18 : PySem.W.codeIn K cd18 "last_ends" = true) (k18 : PySem.W.keepIn K (.ref f18) = true)
    (a19 : PySem.W.nsIn K mainGlobals "ends" = some (some (.ref f19))) (l19 : K.lookup f19 = some ⟨oc19, od19, .func (PySem.W.fnOf "ends" "ends" (defArgs s_ends) (defBody s_ends) (defScope s_ends) .none kV19 dc19 pm19 an19 cd19 ct19), sl19⟩) (c19 : PySem.W.codeIn K cd19 "ends" = true) (k19 : PySem.W.keepIn K (.ref f19) = true)
    (a20 : PySem.W.nsIn K mainGlobals "late" = some (some (.ref f20))) (l20 : K.lookup f20 = some ⟨oc20, od20, .func (PySem.W.fnOf "late" "late" (defArgs s_late) (defBody s_late) (defScope s_late) .none kV20 dc20 pm20 an20 cd20 ct20), sl20⟩) (c20 : PySem.W.codeIn K cd20 "late" = true) (k20 : PySem.W.keepIn K (.ref f20) = true)
    (a21 : PySem.W.nsIn K mainGlobals "crowded" = some (some (.ref f21))) (l21 : K.lookup f21 = some ⟨oc21, od21, .func (PySem.W.fnOf "crowded" "crowded" (defArgs s_crowded) (defBody s_crowded) (defScope s_crowded) .none kV21 dc21 pm21 an21 cd21 ct21), sl21⟩) (c21 : PySem.W.codeIn K cd21 "crowded" = true) (k21 : PySem.W.keepIn K (.ref f21) = true)
    (a22 : PySem.W.nsIn K mainGlobals "answer" = some (some (.ref f22))) (l22 : K.lookup f22 = some ⟨oc22, od22, .func (PySem.W.fnOf "answer" "answer" (defArgs s_answer) (defBody s_answer) (defScope s_answer) .none kV22 dc22 pm22 an22 cd22 ct22), sl22⟩) (c22 : PySem.W.codeIn K cd22 "answer" = true) (k22 : PySem.W.keepIn K (.ref f22) = true)
    (a23 : PySem.W.nsIn K mainGlobals "needed" = some (some (.ref f23))) (l23 : K.lookup f23 = some ⟨oc23, od23, .func (PySem.W.fnOf "needed" "needed" (defArgs s_needed) (defBody s_needed) (defScope s_needed) .none kV23 dc23 pm23 an23 cd23 ct23), sl23⟩) (c23 : PySem.W.codeIn K cd23 "needed" = true) (k23 : PySem.W.keepIn K (.ref f23) = true)
    (a24 : PySem.W.nsIn K mainGlobals "room" = some (some (.ref f24))) (l24 : K.lookup f24 = some ⟨oc24, od24, .func (PySem.W.fnOf "room" "room" (defArgs s_room) (defBody s_room) (defScope s_room) .none kV24 dc24 pm24 an24 cd24 ct24), sl24⟩) (c24 : PySem.W.codeIn K cd24 "room" = true) (k24 : PySem.W.keepIn K (.ref f24) = true)
    (a25 : PySem.W.nsIn K mainGlobals "_law_done" = some (some (.ref f25))) (l25 : K.lookup f25 = some ⟨oc25, od25, .func (PySem.W.fnOf "_law_done" "_law_done" (defArgs s_L_done) (defBody s_L_done) (defScope s_L_done) .none kV25 dc25 pm25 an25 cd25 ct25), sl25⟩) (c25 : PySem.W.codeIn K cd25 "_law_done" = true) (k25 : PySem.W.keepIn K (.ref f25) = true)
    (a26 : PySem.W.nsIn K mainGlobals "_law_refused" = some (some (.ref f26))) (l26 : K.lookup f26 = some ⟨oc26, od26, .func (PySem.W.fnOf "_law_refused" "_law_refused" (defArgs s_L_refused) (defBody s_L_refused) (defScope s_L_refused) .none kV26 dc26 pm26 an26 cd26 ct26), sl26⟩) (c26 : PySem.W.codeIn K cd26 "_law_refused" = true) (k26 : PySem.W.keepIn K (.ref f26) = true)
    (a27 : PySem.W.nsIn K mainGlobals "law" = some (some (.ref f27))) (l27 : K.lookup f27 = some ⟨oc27, od27, .func (PySem.W.fnOf "law" "law" (defArgs s_law) (defBody s_law) (defScope s_law) .none kV27 dc27 pm27 an27 cd27 ct27), sl27⟩) (c27 : PySem.W.codeIn K cd27 "law" = true) (k27 : PySem.W.keepIn K (.ref f27) = true)
    (z_isinstance : PySem.W.nsIn K mainGlobals "isinstance" = some none)
    (z_bool : PySem.W.nsIn K mainGlobals "bool" = some none)
    (z_int : PySem.W.nsIn K mainGlobals "int" = some none)
    (z_len : PySem.W.nsIn K mainGlobals "len" = some none)
    (z_tuple : PySem.W.nsIn K mainGlobals "tuple" = some none)
    (z_enumerate : PySem.W.nsIn K mainGlobals "enumerate" = some none)
    (z_max : PySem.W.nsIn K mainGlobals "max" = some none)
    (z_range : PySem.W.nsIn K mainGlobals "range" = some none)
    (z_sorted : PySem.W.nsIn K mainGlobals "sorted" = some none)
    (z_zip : PySem.W.nsIn K mainGlobals "zip" = some none)
    (z_min : PySem.W.nsIn K mainGlobals "min" = some none)
    (z_ValueError : PySem.W.nsIn K mainGlobals "ValueError" = some none)
    {t_LIMIT : Tok} (y_LIMIT : PySem.W.nsIn K mainGlobals "LIMIT" = some (some (.int 60 t_LIMIT)))
    {qTooMany : Addr} (qa_TooMany : PySem.W.nsIn K mainGlobals "TooMany" = some (some (.ref qTooMany))) (qx_TooMany : PySem.W.excIn K qTooMany [.type "ValueError", .type "Exception", .type "BaseException", .type "object"] "ValueError.__new__" = true) (qk_TooMany : PySem.W.keepIn K (.ref qTooMany) = true) (qb_TooMany : PySem.W.subIn K (.ref qTooMany) (.type "BaseException") = some true) (qt_TooMany : PySem.W.typeIn K (.ref qTooMany) = some (.type "type")) (qi_TooMany : PySem.W.isClsIn K qTooMany = true)
    {qBadJob : Addr} (qa_BadJob : PySem.W.nsIn K mainGlobals "BadJob" = some (some (.ref qBadJob))) (qx_BadJob : PySem.W.excIn K qBadJob [.type "ValueError", .type "Exception", .type "BaseException", .type "object"] "ValueError.__new__" = true) (qk_BadJob : PySem.W.keepIn K (.ref qBadJob) = true) (qb_BadJob : PySem.W.subIn K (.ref qBadJob) (.type "BaseException") = some true) (qt_BadJob : PySem.W.typeIn K (.ref qBadJob) = some (.type "type")) (qi_BadJob : PySem.W.isClsIn K qBadJob = true)
    {qRunError : Addr} (qa_RunError : PySem.W.nsIn K mainGlobals "RunError" = some (some (.ref qRunError))) (qx_RunError : PySem.W.excIn K qRunError [.type "ValueError", .type "Exception", .type "BaseException", .type "object"] "ValueError.__new__" = true) (qk_RunError : PySem.W.keepIn K (.ref qRunError) = true) (qb_RunError : PySem.W.subIn K (.ref qRunError) (.type "BaseException") = some true) (qt_RunError : PySem.W.typeIn K (.ref qRunError) = some (.type "type")) (qi_RunError : PySem.W.isClsIn K qRunError = true)
    {qNoRow : Addr} (qa_NoRow : PySem.W.nsIn K mainGlobals "NoRow" = some (some (.ref qNoRow))) (qx_NoRow : PySem.W.excIn K qNoRow [.type "ValueError", .type "Exception", .type "BaseException", .type "object"] "ValueError.__new__" = true) (qk_NoRow : PySem.W.keepIn K (.ref qNoRow) = true) (qb_NoRow : PySem.W.subIn K (.ref qNoRow) (.type "BaseException") = some true) (qt_NoRow : PySem.W.typeIn K (.ref qNoRow) = some (.type "type")) (qi_NoRow : PySem.W.isClsIn K qNoRow = true)
    {qOutOfPlace : Addr} (qa_OutOfPlace : PySem.W.nsIn K mainGlobals "OutOfPlace" = some (some (.ref qOutOfPlace))) (qx_OutOfPlace : PySem.W.excIn K qOutOfPlace [.type "ValueError", .type "Exception", .type "BaseException", .type "object"] "ValueError.__new__" = true) (qk_OutOfPlace : PySem.W.keepIn K (.ref qOutOfPlace) = true) (qb_OutOfPlace : PySem.W.subIn K (.ref qOutOfPlace) (.type "BaseException") = some true) (qt_OutOfPlace : PySem.W.typeIn K (.ref qOutOfPlace) = some (.type "type")) (qi_OutOfPlace : PySem.W.isClsIn K qOutOfPlace = true)
    (qs_TooMany_RunError : PySem.W.subIn K (.ref qTooMany) (.ref qRunError) = some true)
    (qs_BadJob_RunError : PySem.W.subIn K (.ref qBadJob) (.ref qRunError) = some true)
    (qs_TooMany_TooMany : PySem.W.subIn K (.ref qTooMany) (.ref qTooMany) = some true)
    (qs_BadJob_TooMany : PySem.W.subIn K (.ref qBadJob) (.ref qTooMany) = some false)
    (qs_TooMany_NoRow : PySem.W.subIn K (.ref qTooMany) (.ref qNoRow) = some false)
    (qs_BadJob_NoRow : PySem.W.subIn K (.ref qBadJob) (.ref qNoRow) = some false)
    (qs_TooMany_OutOfPlace : PySem.W.subIn K (.ref qTooMany) (.ref qOutOfPlace) = some false)
    (qs_BadJob_OutOfPlace : PySem.W.subIn K (.ref qBadJob) (.ref qOutOfPlace) = some false)
    (r1_TooMany : PySem.W.findIn K (.ref qTooMany) "__getattribute__" = some (some (.builtin "BaseException.__getattribute__"))) (r2_TooMany : PySem.W.findIn K (.ref qTooMany) "__getattr__" = some none) (r3_TooMany : PySem.W.hasDictIn K qTooMany = true) (r4_TooMany : PySem.W.findIn K (.ref qTooMany) "__class__" = some (some (.builtin "object.__class__"))) (r5_TooMany : PySem.W.mroIn K qTooMany (.type "object") = some true)
    (r1_BadJob : PySem.W.findIn K (.ref qBadJob) "__getattribute__" = some (some (.builtin "BaseException.__getattribute__"))) (r2_BadJob : PySem.W.findIn K (.ref qBadJob) "__getattr__" = some none) (r3_BadJob : PySem.W.hasDictIn K qBadJob = true) (r4_BadJob : PySem.W.findIn K (.ref qBadJob) "__class__" = some (some (.builtin "object.__class__"))) (r5_BadJob : PySem.W.mroIn K qBadJob (.type "object") = some true)
    (r6 : PySem.W.specialIn K (.builtin "object.__class__") "__get__" = some (some (.builtin "getset_descriptor.__get__"))) (r7 : PySem.W.takesIn K (.builtin "object.__class__") = some true)
    (kt_TooMany_ValueError : PySem.W.kitOne K (.ref qTooMany) (.type "ValueError") = some true)
    (kt_BadJob_ValueError : PySem.W.kitOne K (.ref qBadJob) (.type "ValueError") = some true)
    (kt_TooMany_BadJob : PySem.W.kitOne K (.ref qTooMany) (.ref qBadJob) = some false)
    (kt_BadJob_BadJob : PySem.W.kitOne K (.ref qBadJob) (.ref qBadJob) = some true)
    (kt_TooMany_RunError : PySem.W.kitOne K (.ref qTooMany) (.ref qRunError) = some true)
    (kt_BadJob_RunError : PySem.W.kitOne K (.ref qBadJob) (.ref qRunError) = some true)
    : ∃ fd : FuncData, (∀ (s : Shared) (v : Value), BindsTo s fd ⟨[v], []⟩ [("_law_script", v)]) ∧ ∀ base : Heap, K.In base → base.Ns mainGlobals mg → FnOk l.prog w K mg base CX0 10 fa fd ["_law_script"] (spLaw K) := by
  have e := hfa.symm.trans (PySem.W.mg_of X G a27)
  cases e
  refine ⟨PySem.W.fnOf "law" "law" (defArgs s_law) (defBody s_law) (defScope s_law) .none kV27 dc27 pm27 an27 cd27 ct27, fun s v => .of_eq rfl, fun base _ _ => ?_⟩
  letI : EK := ⟨qRunError, qBadJob, qTooMany, qOutOfPlace, qNoRow⟩
  have e_TooMany : ExF K mg "TooMany" EK.TooMany := ⟨PySem.W.mg_of X G qa_TooMany, qx_TooMany, qk_TooMany, qb_TooMany, qt_TooMany⟩
  have e_BadJob : ExF K mg "BadJob" EK.BadJob := ⟨PySem.W.mg_of X G qa_BadJob, qx_BadJob, qk_BadJob, qb_BadJob, qt_BadJob⟩
  have e_RunError : ExF K mg "RunError" EK.RunError := ⟨PySem.W.mg_of X G qa_RunError, qx_RunError, qk_RunError, qb_RunError, qt_RunError⟩
  have e_NoRow : ExF K mg "NoRow" EK.NoRow := ⟨PySem.W.mg_of X G qa_NoRow, qx_NoRow, qk_NoRow, qb_NoRow, qt_NoRow⟩
  have e_OutOfPlace : ExF K mg "OutOfPlace" EK.OutOfPlace := ⟨PySem.W.mg_of X G qa_OutOfPlace, qx_OutOfPlace, qk_OutOfPlace, qb_OutOfPlace, qt_OutOfPlace⟩
  have xm_TooMany_RunError : PySem.W.exmOne K (.ref EK.TooMany) (.ref EK.RunError) = some true := exm_of qb_RunError qi_RunError qt_RunError qs_TooMany_RunError
  have xm_BadJob_RunError : PySem.W.exmOne K (.ref EK.BadJob) (.ref EK.RunError) = some true := exm_of qb_RunError qi_RunError qt_RunError qs_BadJob_RunError
  have xm_TooMany_TooMany : PySem.W.exmOne K (.ref EK.TooMany) (.ref EK.TooMany) = some true := exm_of qb_TooMany qi_TooMany qt_TooMany qs_TooMany_TooMany
  have xm_BadJob_TooMany : PySem.W.exmOne K (.ref EK.BadJob) (.ref EK.TooMany) = some false := exm_of qb_TooMany qi_TooMany qt_TooMany qs_BadJob_TooMany
  have xm_TooMany_NoRow : PySem.W.exmOne K (.ref EK.TooMany) (.ref EK.NoRow) = some false := exm_of qb_NoRow qi_NoRow qt_NoRow qs_TooMany_NoRow
  have xm_BadJob_NoRow : PySem.W.exmOne K (.ref EK.BadJob) (.ref EK.NoRow) = some false := exm_of qb_NoRow qi_NoRow qt_NoRow qs_BadJob_NoRow
  have xm_TooMany_OutOfPlace : PySem.W.exmOne K (.ref EK.TooMany) (.ref EK.OutOfPlace) = some false := exm_of qb_OutOfPlace qi_OutOfPlace qt_OutOfPlace qs_TooMany_OutOfPlace
  have xm_BadJob_OutOfPlace : PySem.W.exmOne K (.ref EK.BadJob) (.ref EK.OutOfPlace) = some false := exm_of qb_OutOfPlace qi_OutOfPlace qt_OutOfPlace qs_BadJob_OutOfPlace
  have ec_TooMany : ExcC K EK.TooMany := ⟨r1_TooMany, r2_TooMany, qb_TooMany, r3_TooMany, r4_TooMany, r6, r7, r5_TooMany⟩
  have ec_BadJob : ExcC K EK.BadJob := ⟨r1_BadJob, r2_BadJob, qb_BadJob, r3_BadJob, r4_BadJob, r6, r7, r5_BadJob⟩
  have b_isinstance := PySem.W.mg_none_of X G z_isinstance
  have b_bool := PySem.W.mg_none_of X G z_bool
  have b_int := PySem.W.mg_none_of X G z_int
  have b_len := PySem.W.mg_none_of X G z_len
  have b_tuple := PySem.W.mg_none_of X G z_tuple
  have b_enumerate := PySem.W.mg_none_of X G z_enumerate
  have b_max := PySem.W.mg_none_of X G z_max
  have b_range := PySem.W.mg_none_of X G z_range
  have b_sorted := PySem.W.mg_none_of X G z_sorted
  have b_zip := PySem.W.mg_none_of X G z_zip
  have b_min := PySem.W.mg_none_of X G z_min
  have b_ValueError := PySem.W.mg_none_of X G z_ValueError
  have m_LIMIT := PySem.W.mg_of X G y_LIMIT
  have c_L_thing_by := ok_L_thing_by (P := l.prog) (w := w) (base := base) (fun_mk (st := s_L_thing_by) l0 c0 k0) (PySem.W.mg_of X G a0)
  have c_L_odd_by := ok_L_odd_by (P := l.prog) (w := w) (base := base) (fun_mk (st := s_L_odd_by) l1 c1 k1) (PySem.W.mg_of X G a1)
  have c_L_whole := ok_L_whole (P := l.prog) (w := w) (base := base) (fun_mk (st := s_L_whole) l2 c2 k2) (PySem.W.mg_of X G a2) b_isinstance b_bool b_int
  have c_L_sound := ok_L_sound (P := l.prog) (w := w) (base := base) (fun_mk (st := s_L_sound) l3 c3 k3) (PySem.W.mg_of X G a3) b_len b_isinstance b_tuple c_L_whole
  have c_whole := ok_whole (P := l.prog) (w := w) (base := base) (fun_mk (st := s_whole) l4 c4 k4) (PySem.W.mg_of X G a4) b_isinstance b_bool b_int
  have c_sound := ok_sound (P := l.prog) (w := w) (base := base) (fun_mk (st := s_sound) l5 c5 k5) (PySem.W.mg_of X G a5) b_len b_isinstance b_tuple c_whole
  have c_L_cell_at := ok_L_cell_at (P := l.prog) (w := w) (base := base) (fun_mk (st := s_L_cell_at) l6 c6 k6) (PySem.W.mg_of X G a6) b_len
  have c_looked := ok_looked (P := l.prog) (w := w) (base := base) (fun_mk (st := s_looked) l7 c7 k7) (PySem.W.mg_of X G a7) b_len m_LIMIT e_TooMany e_BadJob c_sound
  have c_written := ok_written (P := l.prog) (w := w) (base := base) (fun_mk (st := s_written) l8 c8 k8) (PySem.W.mg_of X G a8) c_looked
  have c_load := ok_load (P := l.prog) (w := w) (base := base) (fun_mk (st := s_load) l9 c9 k9) (PySem.W.mg_of X G a9)
  have c_asked := ok_asked (P := l.prog) (w := w) (base := base) (fun_mk (st := s_asked) l10 c10 k10) (PySem.W.mg_of X G a10) c_load c_looked
  have c_nearest := ok_nearest (P := l.prog) (w := w) (base := base) (fun_mk (st := s_nearest) l11 c11 k11) (PySem.W.mg_of X G a11) b_enumerate
  have c_chosen := ok_chosen (P := l.prog) (w := w) (base := base) (fun_mk (st := s_chosen) l12 c12 k12) (PySem.W.mg_of X G a12) c_nearest c_looked
  have c_upcoming := ok_upcoming (P := l.prog) (w := w) (base := base) (fun_mk (st := s_upcoming) l13 c13 k13) (PySem.W.mg_of X G a13)
  have c_joined := ok_joined (P := l.prog) (w := w) (base := base) (fun_mk (st := s_joined) l14 c14 k14) (PySem.W.mg_of X G a14)
  have c_worked := ok_worked (P := l.prog) (w := w) (base := base) (fun_mk (st := s_worked) l15 c15 k15) (PySem.W.mg_of X G a15) b_max c_nearest c_upcoming c_joined
  have c_run := ok_run (P := l.prog) (w := w) (base := base) (fun_mk (st := s_run) l16 c16 k16) (PySem.W.mg_of X G a16) c_worked c_looked
  have c_meets := ok_meets (P := l.prog) (w := w) (base := base) (fun_mk (st := s_meets) l17 c17 k17) (PySem.W.mg_of X G a17) b_len c_looked
  have c_last_ends := ok_last_ends (P := l.prog) (w := w) (base := base) (fun_mk (st := s_last_ends) l18 c18 k18) (PySem.W.mg_of X G a18) b_len
  have c_ends := ok_ends (P := l.prog) (w := w) (base := base) (fun_mk (st := s_ends) l19 c19 k19) (PySem.W.mg_of X G a19) c_last_ends c_worked c_looked
  have c_late := ok_late (P := l.prog) (w := w) (base := base) (fun_mk (st := s_late) l20 c20 k20) (PySem.W.mg_of X G a20) b_range b_len b_sorted c_ends
  have c_crowded := ok_crowded (P := l.prog) (w := w) (base := base) (fun_mk (st := s_crowded) l21 c21 k21) (PySem.W.mg_of X G a21)
  have c_answer := ok_answer (P := l.prog) (w := w) (base := base) (fun_mk (st := s_answer) l22 c22 k22) (PySem.W.mg_of X G a22) c_looked c_worked c_late c_crowded
  have c_needed := ok_needed (P := l.prog) (w := w) (base := base) (fun_mk (st := s_needed) l23 c23 k23) (PySem.W.mg_of X G a23) b_zip b_max c_ends
  have c_room := ok_room (P := l.prog) (w := w) (base := base) (fun_mk (st := s_room) l24 c24 k24) (PySem.W.mg_of X G a24) b_min e_BadJob c_answer c_sound c_load
  have c_L_done := ok_L_done (P := l.prog) (w := w) (base := base) (fun_mk (st := s_L_done) l25 c25 k25) (PySem.W.mg_of X G a25) b_len c_asked c_chosen c_run c_meets c_ends c_late c_answer c_needed c_room c_written
  have c_L_refused := ok_L_refused (P := l.prog) (w := w) (base := base) (fun_mk (st := s_L_refused) l26 c26 k26) (PySem.W.mg_of X G a26) b_ValueError b_isinstance e_RunError e_BadJob e_TooMany e_NoRow e_OutOfPlace xm_TooMany_RunError xm_BadJob_RunError xm_TooMany_TooMany xm_BadJob_TooMany xm_TooMany_NoRow xm_BadJob_NoRow xm_TooMany_OutOfPlace xm_BadJob_OutOfPlace ec_TooMany ec_BadJob kt_TooMany_ValueError kt_BadJob_ValueError kt_TooMany_BadJob kt_BadJob_BadJob kt_TooMany_RunError kt_BadJob_RunError c_L_done
  exact ok_law (fun_mk (st := s_law) l27 c27 k27) b_isinstance b_bool c_L_cell_at c_L_thing_by c_L_odd_by c_L_sound c_sound c_L_refused
theorem walk {l : PySem.W.OpenLaw} {q : Program} {loose : List Str} {XP : (Str → Option Value) → Heap → Prop} {YP : World → Heap → Prop} {d : DefRec} {K : Params → PySem.W.Frag} (hn : l.most = some 63) (hdf : d.params.defaults = [])
    (hY : ∀ (w : World) (h : Heap), YP w h → (K w.params).In h)
    (F : ∀ (w : World) (mg : Str → Option Value) (fa : Addr) (h : Heap), (K w.params).In h → h.Ns mainGlobals mg → mg d.name = some (.ref fa) →
      ∃ fd : FuncData, (∀ (s : Shared) (u : Value), BindsTo s fd ⟨[u], []⟩ [("_law_script", u)]) ∧ ∀ base : Heap, (K w.params).In base → base.Ns mainGlobals mg → FnOk l.prog w (K w.params) mg base CX0 10 fa fd ["_law_script"] (spLaw (K w.params))) :
    PySem.W.WalkO q loose XP YP l.row.toRowW d [] (fun f vs => PySem.call f vs) :=
  L2.walk_of (n := 63) (k := 10) (x := "_law_script") (CX := fun _ => CX0) (sp := fun w => spLaw (K w.params)) hn (by decide) hdf ⟨rfl, by decide, by decide⟩ hY F (fun _ _ a ns hl _ hS => ⟨a, ns, rfl, hS, hl, fun _ => rfl⟩) fun _ _ _ _ _ z => z
end DL

open PySem PySem.W PyProof.Rows in
set_option maxRecDepth 100000 in
set_option maxHeartbeats 0 in
theorem PySem.Challenge.cw_deadlinerun_k02_sound_or_refused_holds : PySem.Challenge.rw_deadlinerun_k02_sound_or_refused.Holds := by
  w_on; o_law; k_head; (case hw => w_witness2)
  k_fill
  refine DL.walk (l := PySem.Challenge.rw_deadlinerun_k02_sound_or_refused) rfl rfl (fun w h Y => PySem.W.kIn_of Y) ?F
  case F =>
    intro w mg fa h KX G hmg
    refine' DL.all_mk KX G hmg ?a0 ?l0 ?c0 ?k0 ?a1 ?l1 ?c1 ?k1 ?a2 ?l2 ?c2 ?k2 ?a3 ?l3 ?c3 ?k3 ?a4 ?l4 ?c4 ?k4 ?a5 ?l5 ?c5 ?k5 ?a6 ?l6 ?c6 ?k6 ?a7 ?l7 ?c7 ?k7 ?a8 ?l8 ?c8 ?k8 ?a9 ?l9 ?c9 ?k9 ?a10 ?l10 ?c10 ?k10 ?a11 ?l11 ?c11 ?k11 ?a12 ?l12 ?c12 ?k12 ?a13 ?l13 ?c13 ?k13 ?a14 ?l14 ?c14 ?k14 ?a15 ?l15 ?c15 ?k15 ?a16 ?l16 ?c16 ?k16 ?a17 ?l17 ?c17 ?k17 ?a18 ?l18 ?c18 ?k18 ?a19 ?l19 ?c19 ?k19 ?a20 ?l20 ?c20 ?k20 ?a21 ?l21 ?c21 ?k21 ?a22 ?l22 ?c22 ?k22 ?a23 ?l23 ?c23 ?k23 ?a24 ?l24 ?c24 ?k24 ?a25 ?l25 ?c25 ?k25 ?a26 ?l26 ?c26 ?k26 ?a27 ?l27 ?c27 ?k27 ?z_isinstance ?z_bool ?z_int ?z_len ?z_tuple ?z_enumerate ?z_max ?z_range ?z_sorted ?z_zip ?z_min ?z_ValueError ?y_LIMIT ?qa_TooMany ?qx_TooMany ?qk_TooMany ?qb_TooMany ?qt_TooMany ?qi_TooMany ?qa_BadJob ?qx_BadJob ?qk_BadJob ?qb_BadJob ?qt_BadJob ?qi_BadJob ?qa_RunError ?qx_RunError ?qk_RunError ?qb_RunError ?qt_RunError ?qi_RunError ?qa_NoRow ?qx_NoRow ?qk_NoRow ?qb_NoRow ?qt_NoRow ?qi_NoRow ?qa_OutOfPlace ?qx_OutOfPlace ?qk_OutOfPlace ?qb_OutOfPlace ?qt_OutOfPlace ?qi_OutOfPlace ?qs_TooMany_RunError ?qs_BadJob_RunError ?qs_TooMany_TooMany ?qs_BadJob_TooMany ?qs_TooMany_NoRow ?qs_BadJob_NoRow ?qs_TooMany_OutOfPlace ?qs_BadJob_OutOfPlace ?r1_TooMany ?r2_TooMany ?r3_TooMany ?r4_TooMany ?r5_TooMany ?r1_BadJob ?r2_BadJob ?r3_BadJob ?r4_BadJob ?r5_BadJob ?r6 ?r7 ?kt_TooMany_ValueError ?kt_BadJob_ValueError ?kt_TooMany_BadJob ?kt_BadJob_BadJob ?kt_TooMany_RunError ?kt_BadJob_RunError
    (case a0 => k_is)
    (case l0 => k_is)
    (case c0 => k_is)
    (case k0 => k_is)
    (case a1 => k_is)
    (case l1 => k_is)
    (case c1 => k_is)
    (case k1 => k_is)
    (case a2 => k_is)
    (case l2 => k_is)
    (case c2 => k_is)
    (case k2 => k_is)
    (case a3 => k_is)
    (case l3 => k_is)
    (case c3 => k_is)
    (case k3 => k_is)
    (case a4 => k_is)
    (case l4 => k_is)
    (case c4 => k_is)
    (case k4 => k_is)
    (case a5 => k_is)
    (case l5 => k_is)
    (case c5 => k_is)
    (case k5 => k_is)
    (case a6 => k_is)
    (case l6 => k_is)
    (case c6 => k_is)
    (case k6 => k_is)
    (case a7 => k_is)
    (case l7 => k_is)
    (case c7 => k_is)
    (case k7 => k_is)
    (case a8 => k_is)
    (case l8 => k_is)
    (case c8 => k_is)
    (case k8 => k_is)
    (case a9 => k_is)
    (case l9 => k_is)
    (case c9 => k_is)
    (case k9 => k_is)
    (case a10 => k_is)
    (case l10 => k_is)
    (case c10 => k_is)
    (case k10 => k_is)
    (case a11 => k_is)
    (case l11 => k_is)
    (case c11 => k_is)
    (case k11 => k_is)
    (case a12 => k_is)
    (case l12 => k_is)
    (case c12 => k_is)
    (case k12 => k_is)
    (case a13 => k_is)
    (case l13 => k_is)
    (case c13 => k_is)
    (case k13 => k_is)
    (case a14 => k_is)
    (case l14 => k_is)
    (case c14 => k_is)
    (case k14 => k_is)
    (case a15 => k_is)
    (case l15 => k_is)
    (case c15 => k_is)
    (case k15 => k_is)
    (case a16 => k_is)
    (case l16 => k_is)
    (case c16 => k_is)
    (case k16 => k_is)
    (case a17 => k_is)
    (case l17 => k_is)
    (case c17 => k_is)
    (case k17 => k_is)
    (case a18 => k_is)
    (case l18 => k_is)
    (case c18 => k_is)
    (case k18 => k_is)
    (case a19 => k_is)
    (case l19 => k_is)
    (case c19 => k_is)
    (case k19 => k_is)
    (case a20 => k_is)
    (case l20 => k_is)
    (case c20 => k_is)
    (case k20 => k_is)
    (case a21 => k_is)
    (case l21 => k_is)
    (case c21 => k_is)
    (case k21 => k_is)
    (case a22 => k_is)
    (case l22 => k_is)
    (case c22 => k_is)
    (case k22 => k_is)
    (case a23 => k_is)
    (case l23 => k_is)
    (case c23 => k_is)
    (case k23 => k_is)
    (case a24 => k_is)
    (case l24 => k_is)
    (case c24 => k_is)
    (case k24 => k_is)
    (case a25 => k_is)
    (case l25 => k_is)
    (case c25 => k_is)
    (case k25 => k_is)
    (case a26 => k_is)
    (case l26 => k_is)
    (case c26 => k_is)
    (case k26 => k_is)
    (case a27 => k_is)
    (case l27 => k_is)
    (case c27 => k_is)
    (case k27 => k_is)
    (case z_isinstance => k_is)
    (case z_bool => k_is)
    (case z_int => k_is)
    (case z_len => k_is)
    (case z_tuple => k_is)
    (case z_enumerate => k_is)
    (case z_max => k_is)
    (case z_range => k_is)
    (case z_sorted => k_is)
    (case z_zip => k_is)
    (case z_min => k_is)
    (case z_ValueError => k_is)
    (case y_LIMIT => k_is)
    (case qa_TooMany => k_is)
    (case qx_TooMany => k_exc)
    (case qk_TooMany => k_is)
    (case qb_TooMany => k_is)
    (case qt_TooMany => k_is)
    (case qi_TooMany => k_is)
    (case qa_BadJob => k_is)
    (case qx_BadJob => k_exc)
    (case qk_BadJob => k_is)
    (case qb_BadJob => k_is)
    (case qt_BadJob => k_is)
    (case qi_BadJob => k_is)
    (case qa_RunError => k_is)
    (case qx_RunError => k_exc)
    (case qk_RunError => k_is)
    (case qb_RunError => k_is)
    (case qt_RunError => k_is)
    (case qi_RunError => k_is)
    (case qa_NoRow => k_is)
    (case qx_NoRow => k_exc)
    (case qk_NoRow => k_is)
    (case qb_NoRow => k_is)
    (case qt_NoRow => k_is)
    (case qi_NoRow => k_is)
    (case qa_OutOfPlace => k_is)
    (case qx_OutOfPlace => k_exc)
    (case qk_OutOfPlace => k_is)
    (case qb_OutOfPlace => k_is)
    (case qt_OutOfPlace => k_is)
    (case qi_OutOfPlace => k_is)
    (case qs_TooMany_RunError => first | rfl | k_is)
    (case qs_BadJob_RunError => first | rfl | k_is)
    (case qs_TooMany_TooMany => first | rfl | k_is)
    (case qs_BadJob_TooMany => first | rfl | k_is)
    (case qs_TooMany_NoRow => first | rfl | k_is)
    (case qs_BadJob_NoRow => first | rfl | k_is)
    (case qs_TooMany_OutOfPlace => first | rfl | k_is)
    (case qs_BadJob_OutOfPlace => first | rfl | k_is)
    (case r1_TooMany => k_is)
    (case r2_TooMany => k_is)
    (case r3_TooMany => k_is)
    (case r4_TooMany => k_is)
    (case r5_TooMany => k_is)
    (case r1_BadJob => k_is)
    (case r2_BadJob => k_is)
    (case r3_BadJob => k_is)
    (case r4_BadJob => k_is)
    (case r5_BadJob => k_is)
    (case r6 => k_is)
    (case r7 => k_is)
    (case kt_TooMany_ValueError => first | rfl | k_is)
    (case kt_BadJob_ValueError => first | rfl | k_is)
    (case kt_TooMany_BadJob => first | rfl | k_is)
    (case kt_BadJob_BadJob => first | rfl | k_is)
    (case kt_TooMany_RunError => first | rfl | k_is)
    (case kt_BadJob_RunError => first | rfl | k_is)
#print axioms PySem.Challenge.cw_deadlinerun_k02_sound_or_refused_holds
