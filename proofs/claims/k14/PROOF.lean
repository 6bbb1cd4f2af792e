import PyProof.Rows.All
import Wide.All
import OpenK.AllK
import Wide.FinOn
import HandS.ForMost
import HandS.Style
import HandS.IsInst
import HandS.SortKw
import HandS.SortRule
import HandS.Deep
import KE.DataMinMax
import HandS.ExcOwn
import HandS.WordsExc
import HandS.TryMany
import HandS.ExcIs
import HandS.FStr
import HandS.Text
import HandS.Codes
import KE.GoesComp
import PySem.Challenge.RW_deadlinerun_k14_notes
set_option Elab.async false
set_option linter.all false
set_option maxRecDepth 100000
set_option maxHeartbeats 4000000
/-! DL: a data calculus over the hand layer. A state is the list of what the slots hold as data (PyData); a reading is shown by big steps: Eb, Ep, En, Et, Ea (expressions), DX (statements). No heap is left in what one proves. -/
namespace DL
open PySem L2
/-- the written part (the script may be one of its lists) -/
class KK where
  K : PySem.W.Frag
variable [KK]
/-- the script's ints, as data: a list that is read alone -/
def frz (ns : List Int) : PyData := .dict (ns.map fun n => (.int n, .none))
def frzV (p : PyData × PyData) : V := match p.1 with
  | .int i => .int i
  | _ => .non
theorem frzV_map (ns : List Int) : (ns.map fun n => (PyData.int n, PyData.none)).map frzV = ns.map V.int := by
  rw [List.map_map]
  rfl

/-! ### data in a heap -/
mutual
def Da (H : Hp) : PyData → V → Prop
  | .none, v => v = .non
  | .bool b, v => v = .bl b
  | .int i, v => v = .int i
  | .str x, v => v = .str x
  | .list ds, v => ∃ a xs, v = .ref a ∧ H a = some (.lst xs) ∧ DaL H ds xs
  | .tuple ds, v => ∃ a xs, v = .ref a ∧ H a = some (.tup xs) ∧ DaL H ds xs
  | .dict kvs, v => ∃ a, v = .ref a ∧ SqL KK.K H a (kvs.map frzV)
def DaL (H : Hp) : List PyData → List V → Prop
  | [], xs => xs = []
  | d :: ds, xs => ∃ v vs, xs = v :: vs ∧ Da H d v ∧ DaL H ds vs
end
mutual
def imm : PyData → Bool
  | .list _ => false
  | .dict _ => false
  | .tuple ds => immL ds
  | .none => true
  | .bool _ => true
  | .int _ => true
  | .str _ => true
def immL : List PyData → Bool
  | [] => true
  | d :: ds => imm d && immL ds
end
mutual
theorem Da.mono {H H' : Hp} (e : Same H H') : ∀ (d : PyData) (v : V), Da H d v → Da H' d v
  | .none, _, h => h
  | .bool _, _, h => h
  | .int _, _, h => h
  | .str _, _, h => h
  | .list ds, _, h => by
    obtain ⟨a, xs, e1, h, q⟩ := h
    exact ⟨a, xs, e1, e a _ h, DaL.mono e ds xs q⟩
  | .tuple ds, _, h => by
    obtain ⟨a, xs, e1, h, q⟩ := h
    exact ⟨a, xs, e1, e a _ h, DaL.mono e ds xs q⟩
  | .dict kvs, _, h => by
    obtain ⟨a, e1, h⟩ := h
    exact ⟨a, e1, e.seq h⟩
theorem DaL.mono {H H' : Hp} (e : Same H H') : ∀ (ds : List PyData) (xs : List V), DaL H ds xs → DaL H' ds xs
  | [], _, h => h
  | d :: ds, _, h => by
    obtain ⟨v, vs, e1, h1, h2⟩ := h
    exact ⟨v, vs, e1, Da.mono e d v h1, DaL.mono e ds vs h2⟩
end
/-- what never changes hangs on the tuples alone -/
def Tups (H H' : Hp) : Prop := ∀ a xs, H a = some (.tup xs) → H' a = some (.tup xs)
mutual
theorem Da.tups {H H' : Hp} (e : Tups H H') : ∀ (d : PyData) (v : V), imm d = true → Da H d v → Da H' d v
  | .none, _, _, h => h
  | .bool _, _, _, h => h
  | .int _, _, _, h => h
  | .str _, _, _, h => h
  | .list ds, _, i, h => by cases i
  | .tuple ds, _, i, h => by
    obtain ⟨a, xs, e1, h, q⟩ := h
    exact ⟨a, xs, e1, e a _ h, DaL.tups e ds xs i q⟩
  | .dict _, _, i, h => by cases i
theorem DaL.tups {H H' : Hp} (e : Tups H H') : ∀ (ds : List PyData) (xs : List V), immL ds = true → DaL H ds xs → DaL H' ds xs
  | [], _, _, h => h
  | d :: ds, _, i, h => by
    obtain ⟨v, vs, e1, h1, h2⟩ := h
    have i' : (imm d && immL ds) = true := i
    rw [Bool.and_eq_true] at i'
    exact ⟨v, vs, e1, Da.tups e d v i'.1 h1, DaL.tups e ds vs i'.2 h2⟩
end
theorem DaL.length {H : Hp} : ∀ {ds : List PyData} {xs : List V}, DaL H ds xs → xs.length = ds.length
  | [], _, h => by
    have e : _ = [] := h
    rw [e]
    rfl
  | d :: ds, _, h => by
    obtain ⟨v, vs, e1, h1, h2⟩ := h
    rw [e1, List.length_cons, List.length_cons, DaL.length h2]
theorem DaL.get {H : Hp} : ∀ {ds : List PyData} {xs : List V} {i : Nat} {d : PyData}, DaL H ds xs → ds[i]? = some d → ∃ v, xs[i]? = some v ∧ Da H d v
  | [], _, _, _, _, e => by simp at e
  | d :: ds, _, 0, _, h, e => by
    obtain ⟨v, vs, e1, h1, h2⟩ := h
    have e' := Option.some.inj e
    subst e'
    exact ⟨v, by rw [e1]; rfl, h1⟩
  | d :: ds, _, i + 1, _, h, e => by
    obtain ⟨v, vs, e1, h1, h2⟩ := h
    obtain ⟨w, q1, q2⟩ := DaL.get (i := i) h2 (by simpa using e)
    exact ⟨w, by rw [e1]; simpa using q1, q2⟩
theorem DaL.get' {H : Hp} : ∀ {ds : List PyData} {xs : List V} {i : Nat} {v : V}, DaL H ds xs → xs[i]? = some v → ∃ d, ds[i]? = some d ∧ Da H d v := fun {ds xs i v} h e => by
  have hi : i < xs.length := (List.getElem?_eq_some_iff.mp e).1
  rw [h.length] at hi
  obtain ⟨w, q1, q2⟩ := h.get (List.getElem?_eq_getElem hi)
  rw [e] at q1
  cases q1
  exact ⟨_, List.getElem?_eq_getElem hi, q2⟩
theorem DaL.append {H : Hp} : ∀ {ds es : List PyData} {xs ys : List V}, DaL H ds xs → DaL H es ys → DaL H (ds ++ es) (xs ++ ys)
  | [], _, _, _, h, h' => by
    have e : _ = [] := h
    rw [e]
    exact h'
  | d :: ds, _, _, _, h, h' => by
    obtain ⟨v, vs, e1, h1, h2⟩ := h
    rw [e1]
    exact ⟨v, _, rfl, h1, DaL.append h2 h'⟩
theorem DaL.one {H : Hp} {d : PyData} {v : V} (h : Da H d v) : DaL H [d] [v] := ⟨v, [], rfl, h, rfl⟩
theorem DaL.take {H : Hp} : ∀ {ds : List PyData} {xs : List V} (n : Nat), DaL H ds xs → DaL H (ds.take n) (xs.take n)
  | [], _, n, h => by
    have e : _ = [] := h
    rw [e, List.take_nil, List.take_nil]
    rfl
  | d :: ds, _, 0, h => rfl
  | d :: ds, _, n + 1, h => by
    obtain ⟨v, vs, e1, h1, h2⟩ := h
    rw [e1]
    exact ⟨v, _, rfl, h1, DaL.take n h2⟩
theorem DaL.drop {H : Hp} : ∀ {ds : List PyData} {xs : List V} (n : Nat), DaL H ds xs → DaL H (ds.drop n) (xs.drop n)
  | [], _, n, h => by
    have e : _ = [] := h
    rw [e, List.drop_nil, List.drop_nil]
    rfl
  | d :: ds, _, 0, h => h
  | d :: ds, _, n + 1, h => by
    obtain ⟨v, vs, e1, h1, h2⟩ := h
    rw [e1]
    exact DaL.drop n h2
theorem DaL.set {H : Hp} : ∀ {ds : List PyData} {xs : List V} (n : Nat) {d : PyData} {v : V}, DaL H ds xs → Da H d v → DaL H (ds.set n d) (xs.set n v)
  | [], _, n, _, _, h, _ => by
    have e : _ = [] := h
    rw [e]
    rfl
  | d :: ds, _, 0, _, _, h, h' => by
    obtain ⟨v, vs, e1, h1, h2⟩ := h
    rw [e1]
    exact ⟨_, _, rfl, h', h2⟩
  | d :: ds, _, n + 1, _, _, h, h' => by
    obtain ⟨v, vs, e1, h1, h2⟩ := h
    rw [e1]
    exact ⟨_, _, rfl, h1, DaL.set n h2 h'⟩
theorem DaL.reverse {H : Hp} : ∀ {ds : List PyData} {xs : List V}, DaL H ds xs → DaL H ds.reverse xs.reverse
  | [], _, h => by
    have e : _ = [] := h
    rw [e]
    rfl
  | d :: ds, _, h => by
    obtain ⟨v, vs, e1, h1, h2⟩ := h
    rw [e1, List.reverse_cons, List.reverse_cons]
    exact DaL.append (DaL.reverse h2) (.one h1)
theorem DaL.rep {H : Hp} {ds : List PyData} {xs : List V} (h : DaL H ds xs) : ∀ n : Nat, DaL H (List.replicate n ds).flatten (List.replicate n xs).flatten
  | 0 => rfl
  | n + 1 => by
    rw [List.replicate_succ, List.replicate_succ, List.flatten_cons, List.flatten_cons]
    exact DaL.append h (DaL.rep h n)
theorem DaL.ints {H : Hp} : ∀ {ns : List Int} {xs : List V}, DaL H (ns.map PyData.int) xs → xs = ns.map V.int
  | [], _, h => h
  | n :: ns, _, h => by
    obtain ⟨v, vs, e1, h1, h2⟩ := h
    have e2 := DaL.ints (ns := ns) h2
    have e3 : v = .int n := h1
    rw [e1, e2, e3] <;> rfl
theorem DaL.of_ints {H : Hp} : ∀ {ns : List Int}, DaL H (ns.map PyData.int) (ns.map V.int)
  | [] => rfl
  | n :: ns => ⟨_, _, rfl, rfl, DaL.of_ints⟩
omit [KK] in
theorem immL_append {ds es : List PyData} (h : immL ds = true) (h' : immL es = true) : immL (ds ++ es) = true := by
  induction ds with
  | nil => exact h'
  | cons d ds ih =>
    have i' : (imm d && immL ds) = true := h
    rw [Bool.and_eq_true] at i'
    show (imm d && immL (ds ++ es)) = true
    rw [i'.1, ih i'.2] <;> rfl
omit [KK] in
theorem immL_iff {ds : List PyData} : immL ds = true ↔ ∀ d ∈ ds, imm d = true := by
  induction ds with
  | nil => exact ⟨fun _ d h => absurd h (by simp), fun _ => rfl⟩
  | cons d ds ih =>
    show (imm d && immL ds) = true ↔ _
    rw [Bool.and_eq_true, ih]
    simp
omit [KK] in
theorem immL_map {α : Type} {f : α → PyData} {l : List α} (h : ∀ x ∈ l, imm (f x) = true) : immL (l.map f) = true := by
  rw [immL_iff]
  intro d hd
  obtain ⟨x, hx, rfl⟩ := List.mem_map.mp hd
  exact h x hx
omit [KK] in
theorem immL_ints (ns : List Int) : immL (ns.map PyData.int) = true := immL_map fun _ _ => rfl

/-! ### what the slots hold -/
inductive Sl where
  | no
  /-- a value, told by its data -/
  | va (d : PyData)
  /-- a list that no one else holds -/
  | ow (ds : List PyData)
abbrev DSt := List Sl
def Own (σ : St) (S : DSt) (l : Addr) : Prop := ∃ (i : Nat) (ds : List PyData), S[i]? = some (.ow ds) ∧ σ[i]? = some (some (.ref l))
open Classical in
/-- the heap without the owned lists -/
noncomputable def Gm (σ : St) (S : DSt) (H : Hp) : Hp := fun a => if Own σ S a then none else H a
structure Rl (H : Hp) (σ : St) (S : DSt) : Prop where
  len : σ.length = S.length
  va : ∀ (i : Nat) d, S[i]? = some (.va d) → ∃ v, σ[i]? = some (some v) ∧ Da (Gm σ S H) d v
  ow : ∀ (i : Nat) ds, S[i]? = some (.ow ds) → ∃ l xs, σ[i]? = some (some (.ref l)) ∧ H l = some (.lst xs) ∧ DaL (Gm σ S H) ds xs ∧ immL ds = true
  sep : ∀ (i j : Nat) ds es l, S[i]? = some (.ow ds) → S[j]? = some (.ow es) → σ[i]? = some (some (.ref l)) → σ[j]? = some (some (.ref l)) → i = j

section
variable {H H1 H2 : Hp} {σ : St} {S : DSt}
theorem Gm_some {a : Addr} {o : HO} (h : Gm σ S H a = some o) : ¬ Own σ S a ∧ H a = some o := by
  unfold Gm at h
  split at h
  · cases h
  · exact ⟨by assumption, h⟩
theorem Gm_of {a : Addr} {o : HO} (n : ¬ Own σ S a) (h : H a = some o) : Gm σ S H a = some o := by
  unfold Gm
  rw [if_neg n]
  exact h
theorem Gm_le : Same (Gm σ S H) H := fun a o h => (Gm_some h).2
theorem Gm_mono (e : Same H H1) : Same (Gm σ S H) (Gm σ S H1) := fun a o h => Gm_of (Gm_some h).1 (e a o (Gm_some h).2)
theorem Rl.mono (r : Rl H σ S) (e : Same H H1) : Rl H1 σ S :=
  ⟨r.len, fun i d h => let ⟨v, h1, h2⟩ := r.va i d h; ⟨v, h1, Da.mono (Gm_mono e) d v h2⟩,
    fun i ds h => let ⟨l, xs, h1, h2, h3, h4⟩ := r.ow i ds h; ⟨l, xs, h1, e l _ h2, DaL.mono (Gm_mono e) ds xs h3, h4⟩, r.sep⟩
theorem Rl.owned (r : Rl H σ S) {l : Addr} (h : Own σ S l) : ∃ xs, H l = some (.lst xs) := by
  obtain ⟨i, ds, h1, h2⟩ := h
  obtain ⟨l', xs, h3, h4, _⟩ := r.ow i ds h1
  rw [h2] at h3
  cases h3
  exact ⟨xs, h4⟩
theorem Rl.notOwn (r : Rl H σ S) {l : Addr} (h : H l = none) : ¬ Own σ S l := fun o => by
  obtain ⟨xs, h'⟩ := r.owned o
  rw [h] at h'
  cases h'
theorem Rl.tups (r : Rl H σ S) : Tups H (Gm σ S H) := fun a xs h => Gm_of (fun o => by
  obtain ⟨ys, h'⟩ := r.owned o
  rw [h] at h'
  cases h') h
theorem Rl.imm (r : Rl H σ S) {d : PyData} {v : V} (i : imm d = true) (h : Da H d v) : Da (Gm σ S H) d v := Da.tups r.tups d v i h
theorem Rl.immL (r : Rl H σ S) {ds : List PyData} {xs : List V} (i : immL ds = true) (h : DaL H ds xs) : DaL (Gm σ S H) ds xs := DaL.tups r.tups ds xs i h
def noOw : DSt → Bool
  | [] => true
  | .ow _ :: _ => false
  | .no :: S => noOw S
  | .va _ :: S => noOw S
theorem noOw_get : ∀ {S : DSt}, noOw S = true → ∀ (i : Nat) ds, S[i]? ≠ some (.ow ds)
  | [], _, i, ds, h => by simp at h
  | .ow _ :: _, h, _, _, _ => by cases h
  | .no :: S, h, 0, _, e => by simp at e
  | .va _ :: S, h, 0, _, e => by simp at e
  | .no :: S, h, i + 1, ds, e => noOw_get (S := S) h i ds (by simpa using e)
  | .va _ :: S, h, i + 1, ds, e => noOw_get (S := S) h i ds (by simpa using e)
theorem Gm_free (h : noOw S = true) : Gm σ S H = H := by
  funext a
  unfold Gm
  rw [if_neg]
  rintro ⟨i, ds, h1, _⟩
  exact noOw_get h i ds h1
end

/-! ### judgements -/
/-- evaluates to (the value may reach owned lists: borrowed) -/
def Eb (te : TE) (S : DSt) (d : PyData) : Prop := ∀ H σ, Rl H σ S → ∀ Q : VK, (∀ v H1, Same H H1 → Da H1 d v → Q v H1) → te σ H Q
/-- evaluates to, and no owned list is reached from it -/
def Ep (te : TE) (S : DSt) (d : PyData) : Prop := ∀ H σ, Rl H σ S → ∀ Q : VK, (∀ v H1, Same H H1 → Da (Gm σ S H1) d v → Q v H1) → te σ H Q
/-- evaluates to a new list -/
def En (te : TE) (S : DSt) (ds : List PyData) : Prop := ∀ H σ, Rl H σ S → ∀ Q : VK, (∀ l H1, Same H H1 → H l = none → Da H1 (.list ds) (.ref l) → Q (.ref l) H1) → te σ H Q
def Et (tt : TT) (S : DSt) (b : Bool) : Prop := ∀ H σ, Rl H σ S → ∀ Q : Bool → Hp → Prop, (∀ H1, Same H H1 → Q b H1) → tt σ H Q
def Ea (ta : TA) (S : DSt) (ds : List PyData) : Prop := ∀ H σ, Rl H σ S → ∀ Q : List V → Hp → Prop, (∀ vs H1, Same H H1 → DaL H1 ds vs → Q vs H1) → ta σ H Q
def Eap (ta : TA) (S : DSt) (ds : List PyData) : Prop := ∀ H σ, Rl H σ S → ∀ Q : List V → Hp → Prop, (∀ vs H1, Same H H1 → DaL (Gm σ S H1) ds vs → Q vs H1) → ta σ H Q
/-- a slice's part -/
def Eo (to : TO) (S : DSt) (o : Option Int) : Prop := ∀ H σ, Rl H σ S → ∀ Q : Option Int → Hp → Prop, (∀ H1, Same H H1 → Q o H1) → to σ H Q

section
variable {S : DSt} {te ta tb tc : TE} {tt tu : TT} {d d1 d2 : PyData} {ds es : List PyData} {K : PySem.W.Frag}
theorem Ep.b (h : Ep te S d) : Eb te S d := fun H σ r Q q => h H σ r Q fun v H1 e h1 => q v H1 e (Da.mono Gm_le d v h1)
theorem Ep.imm (h : Eb te S d) (i : imm d = true) : Ep te S d := fun H σ r Q q => h H σ r Q fun v H1 e h1 => q v H1 e ((r.mono e).imm i h1)
theorem Ep.free (h : Eb te S d) (n : noOw S = true) : Ep te S d := fun H σ r Q q => h H σ r Q fun v H1 e h1 => q v H1 e (by rw [Gm_free n]; exact h1)
theorem En.b (h : En te S ds) : Eb te S (.list ds) := fun H σ r Q q => h H σ r Q fun l H1 e _ h1 => q _ H1 e h1
theorem Ep.new (h : En te S ds) (i : immL ds = true) : Ep te S (.list ds) := fun H σ r Q q => h H σ r Q fun l H1 e hl h1 => q _ H1 e (by
  obtain ⟨a, xs, e1, h2, h3⟩ := h1
  cases e1
  exact ⟨l, xs, rfl, Gm_of (r.notOwn hl) h2, (r.mono e).immL i h3⟩)
theorem Eb.to {d' : PyData} (h : Eb te S d) (e : d = d') : Eb te S d' := e ▸ h
theorem Ep.to {d' : PyData} (h : Ep te S d) (e : d = d') : Ep te S d' := e ▸ h
theorem En.to {ds' : List PyData} (h : En te S ds) (e : ds = ds') : En te S ds' := e ▸ h
theorem Et.to {b b' : Bool} (h : Et tt S b) (e : b = b') : Et tt S b' := e ▸ h

/-! names, constants -/
theorem e_var {i : Nat} (h : S[i]? = some (.va d)) : Ep (tVar i) S d := fun H σ r Q q => by
  obtain ⟨v, h1, h2⟩ := r.va i d h
  exact ⟨v, h1, q v H (Same.refl H) h2⟩
theorem e_own {i : Nat} (h : S[i]? = some (.ow ds)) : Eb (tVar i) S (.list ds) := fun H σ r Q q => by
  obtain ⟨l, xs, h1, h2, h3, _⟩ := r.ow i ds h
  exact ⟨.ref l, h1, q _ H (Same.refl H) ⟨l, xs, rfl, h2, DaL.mono Gm_le ds xs h3⟩⟩
theorem e_int {i : Int} : Eb (tC (.int i)) S (.int i) := fun H σ r Q q => q _ H (Same.refl H) rfl
theorem e_bl {b : Bool} : Eb (tC (.bl b)) S (.bool b) := fun H σ r Q q => q _ H (Same.refl H) rfl
theorem e_non : Eb (tC .non) S .none := fun H σ r Q q => q _ H (Same.refl H) rfl
theorem e_str {x : Str} : Eb (tC (.str x)) S (.str x) := fun H σ r Q q => q _ H (Same.refl H) rfl

/-! two operands -/
theorem e_op {r : R2} (ha : Eb ta S d1) (hb : Eb tb S d2) (hr : ∀ (x y : V) (H : Hp) (Q : VK), Da H d1 x → Da H d2 y → (∀ v H1, Same H H1 → Da H1 d v → Q v H1) → r x y H Q) : Eb (tOp r ta tb) S d := fun H σ rl Q q =>
  ha H σ rl _ fun x H1 e1 h1 => hb H1 σ (rl.mono e1) _ fun y H2 e2 h2 => hr x y H2 Q (Da.mono e2 _ _ h1) h2 fun v H3 e3 h3 => q v H3 ((e1.trans e2).trans e3) h3
theorem e_opN {r : R2} (ha : Eb ta S d1) (hb : Eb tb S d2) (hr : ∀ (x y : V) (H : Hp) (Q : VK), Da H d1 x → Da H d2 y → (∀ l H1, Same H H1 → H l = none → Da H1 (.list ds) (.ref l) → Q (.ref l) H1) → r x y H Q) : En (tOp r ta tb) S ds := fun H σ rl Q q =>
  ha H σ rl _ fun x H1 e1 h1 => hb H1 σ (rl.mono e1) _ fun y H2 e2 h2 => hr x y H2 Q (Da.mono e2 _ _ h1) h2 fun l H3 e3 hl h3 => q l H3 ((e1.trans e2).trans e3) ((e1.trans e2).free hl) h3
theorem e_un {r : V → Hp → VK → Prop} (ha : Eb ta S d1) (hr : ∀ (x : V) (H : Hp) (Q : VK), Da H d1 x → (∀ v H1, Same H H1 → Da H1 d v → Q v H1) → r x H Q) : Eb (tUn r ta) S d := fun H σ rl Q q =>
  ha H σ rl _ fun x H1 e1 h1 => hr x H1 Q h1 fun v H3 e3 h3 => q v H3 (e1.trans e3) h3
/-- two ints: an int; a bool -/
theorem e_ii {g : Int → Int → Int} {i j : Int} (ha : Eb ta S (.int i)) (hb : Eb tb S (.int j)) : Eb (tOp (rI0 fun i j => .int (g i j)) ta tb) S (.int (g i j)) :=
  e_op ha hb fun x y H Q h1 h2 q => ⟨i, j, h1, h2, q _ H (Same.refl H) rfl⟩
theorem e_ib {g : Int → Int → Bool} {i j : Int} (ha : Eb ta S (.int i)) (hb : Eb tb S (.int j)) : Eb (tOp (rI0 fun i j => .bl (g i j)) ta tb) S (.bool (g i j)) :=
  e_op ha hb fun x y H Q h1 h2 q => ⟨i, j, h1, h2, q _ H (Same.refl H) rfl⟩
theorem e_iic {C : Int → Int → Prop} {g : Int → Int → Int} {i j : Int} (ha : Eb ta S (.int i)) (hb : Eb tb S (.int j)) (hc : C i j) : Eb (tOp (rI C fun i j => .int (g i j)) ta tb) S (.int (g i j)) :=
  e_op ha hb fun x y H Q h1 h2 q => ⟨i, j, h1, h2, hc, q _ H (Same.refl H) rfl⟩
theorem e_neg {i : Int} (ha : Eb ta S (.int i)) : Eb (tUn (rU fun i => .int (-i)) ta) S (.int (-i)) := e_un ha fun x H Q h q => ⟨i, h, q _ H (Same.refl H) rfl⟩
omit [KK] in
/-- + : ints, lists, texts -/
def rAddStr : R2 := fun x y H Q => ∃ i j, x = .str i ∧ y = .str j ∧ i.length + j.length ≤ sizeLine ∧ Q (.str (i ++ j)) H
omit [KK] in
def rPlus : R2 := fun x y H Q => rI0 (fun i j => .int (i + j)) x y H Q ∨ (rCat x y H Q ∨ rAddStr x y H Q)
omit [KK] in
theorem op_plus {X : Cx} : OpR X (binaryOp .Add) rPlus := op_add.or (op_cat.or op_add_str)
theorem e_add {i j : Int} (ha : Eb ta S (.int i)) (hb : Eb tb S (.int j)) : Eb (tOp rPlus ta tb) S (.int (i + j)) :=
  e_op ha hb fun x y H Q h1 h2 q => .inl ⟨i, j, h1, h2, q _ H (Same.refl H) rfl⟩
omit [KK] in
theorem line_of {n : Nat} (h : n ≤ 100000) : n ≤ sizeLine := Nat.le_trans h (by decide)
theorem e_cat (ha : Eb ta S (.list ds)) (hb : Eb tb S (.list es)) (hz : ds.length + es.length ≤ 100000) : En (tOp rPlus ta tb) S (ds ++ es) :=
  e_opN ha hb fun x y H Q h1 h2 q => by
    obtain ⟨a, xs, rfl, h1, h3⟩ := h1
    obtain ⟨b, ys, rfl, h2, h4⟩ := h2
    refine .inr (.inl ⟨a, b, xs, ys, rfl, rfl, h1, h2, line_of (by rw [h3.length, h4.length]; exact hz), fun p hp => ?_⟩)
    have sm : Same H (upd H p (.lst (xs ++ ys))) := fun c o e => by rw [upd_ne (ne_of_none e hp)]; exact e
    exact q p _ sm hp ⟨p, _, rfl, upd_same, DaL.mono sm _ _ (h3.append h4)⟩
theorem e_addS {x y : Str} (ha : Eb ta S (.str x)) (hb : Eb tb S (.str y)) (hz : x.length + y.length ≤ 100000) : Eb (tOp rPlus ta tb) S (.str (x ++ y)) :=
  e_op ha hb fun _ _ H Q h1 h2 q => .inr (.inr ⟨x, y, h1, h2, line_of hz, q _ H (Same.refl H) rfl⟩)
omit [KK] in
/-- * : ints (one below 2 ^ 64), a list and a number -/
def rTimes : R2 := fun x y H Q => rI CMul (fun i j => .int (i * j)) x y H Q ∨ rRep x y H Q
omit [KK] in
theorem op_times {X : Cx} : OpR X (binaryOp .Mult) rTimes := op_mul.or op_rep
theorem e_mul {i j : Int} (ha : Eb ta S (.int i)) (hb : Eb tb S (.int j)) (hc : CMul i j) : Eb (tOp rTimes ta tb) S (.int (i * j)) :=
  e_op ha hb fun x y H Q h1 h2 q => .inl ⟨i, j, h1, h2, hc, q _ H (Same.refl H) rfl⟩
theorem e_rep {k : Int} (ha : Eb ta S (.list ds)) (hb : Eb tb S (.int k)) (hk : -1000 ≤ k ∧ k ≤ 1000) (hz : ds.length ≤ 10) : En (tOp rTimes ta tb) S (List.replicate k.toNat ds).flatten :=
  e_opN ha hb fun x y H Q h1 h2 q => by
    obtain ⟨a, xs, rfl, h1, h3⟩ := h1
    have e2 : y = .int k := h2
    subst e2
    refine .inr ⟨a, k, xs, rfl, rfl, h1, by omega, by omega, line_of (by
      rw [h3.length]
      have : ds.length * k.toNat ≤ 10 * 1000 := Nat.mul_le_mul hz (by omega)
      omega), fun p hp => ?_⟩
    have sm : Same H (upd H p (.lst (List.replicate k.toNat xs).flatten)) := fun c o e => by rw [upd_ne (ne_of_none e hp)]; exact e
    exact q p _ sm hp ⟨p, _, rfl, upd_same, DaL.mono sm _ _ (h3.rep _)⟩
/-! items -/
theorem e_ixL {i : Int} (ha : Eb ta S (.list ds)) (hb : Eb tb S (.int i)) (hd : atI ds i = some d) : Eb (tOp (rIx K) ta tb) S d :=
  e_op ha hb fun x y H Q h1 h2 q => by
    obtain ⟨a, xs, rfl, h1, h3⟩ := h1
    have hd' : (ixN ds.length i).bind (fun j => ds[j]?) = some d := hd
    obtain ⟨j, hj, hdj⟩ := Option.bind_eq_some_iff.mp hd'
    obtain ⟨v, hv, hdv⟩ := h3.get hdj
    refine .inl ⟨a, xs, i, v, rfl, h2, SqL.of h1, ?_, q v H (Same.refl H) hdv⟩
    show (ixN xs.length i).bind (fun j => xs[j]?) = some v
    rw [h3.length, hj]
    exact hv
theorem e_ixT {i : Int} (ha : Eb ta S (.tuple ds)) (hb : Eb tb S (.int i)) (hd : atI ds i = some d) : Eb (tOp (rIx K) ta tb) S d :=
  e_op ha hb fun x y H Q h1 h2 q => by
    obtain ⟨a, xs, rfl, h1, h3⟩ := h1
    have hd' : (ixN ds.length i).bind (fun j => ds[j]?) = some d := hd
    obtain ⟨j, hj, hdj⟩ := Option.bind_eq_some_iff.mp hd'
    obtain ⟨v, hv, hdv⟩ := h3.get hdj
    refine .inr (.inl ⟨a, xs, i, v, rfl, h2, SqT.of h1, ?_, q v H (Same.refl H) hdv⟩)
    show (ixN xs.length i).bind (fun j => xs[j]?) = some v
    rw [h3.length, hj]
    exact hv
/-- the script's length, an item -/
theorem e_ixF {ns : List Int} {i : Int} {n : Int} (ha : Eb ta S (frz ns)) (hb : Eb tb S (.int i)) (hd : atI ns i = some n) : Eb (tOp (rIx KK.K) ta tb) S (.int n) :=
  e_op ha hb fun x y H Q h1 h2 q => by
    obtain ⟨a, rfl, h1⟩ := h1
    have h1' : SqL KK.K H a (ns.map V.int) := by
      rw [← frzV_map]
      exact h1
    have hd' : (ixN ns.length i).bind (fun j => ns[j]?) = some n := hd
    obtain ⟨j, hj, hdj⟩ := Option.bind_eq_some_iff.mp hd'
    refine .inl ⟨a, _, i, .int n, rfl, h2, h1', ?_, q _ H (Same.refl H) rfl⟩
    show (ixN (ns.map V.int).length i).bind (fun j => (ns.map V.int)[j]?) = some (.int n)
    rw [List.length_map, hj]
    show (ns.map V.int)[j]? = _
    rw [List.getElem?_map, hdj]
    rfl
theorem e_ixS {x : Str} {i : Int} {c : Nat} (ha : Eb ta S (.str x)) (hb : Eb tb S (.int i)) (hz : x.length ≤ 100000) (hd : atI x.cps.toList i = some c) : Eb (tOp (rIx K) ta tb) S (.str ⟨#[c]⟩) :=
  e_op ha hb fun _ _ H Q h1 h2 q => .inr (.inr ⟨x, i, c, h1, h2, line_of hz, hd, q _ H (Same.refl H) rfl⟩)
end
end DL

namespace DL
open PySem L2
variable [KK]
section
variable {S : DSt} {te ta tb tc : TE} {tt tu : TT} {d d1 d2 : PyData} {ds es : List PyData} {K : PySem.W.Frag}
/-! comparisons of data -/
mutual
theorem Da.dp {K : PySem.W.Frag} {H : Hp} : ∀ (d : PyData) (v : V), d.canLay0 = true → Da H d v → Dp K H v d
  | .none, _, _, h => by
    have e : _ = V.non := h
    rw [e]
    exact .non
  | .bool b, _, _, h => by
    have e : _ = V.bl b := h
    rw [e]
    exact .bl b
  | .int i, _, _, h => by
    have e : _ = V.int i := h
    rw [e]
    exact .int i
  | .str x, _, _, h => by
    have e : _ = V.str x := h
    rw [e]
    exact .str x
  | .list ds, _, c, h => by
    obtain ⟨a, xs, e1, h, q⟩ := h
    rw [e1]
    exact .lst (SqL.of h) (DaL.dp ds xs (by simpa [PyData.canLay0] using c) q)
  | .tuple ds, _, c, h => by
    obtain ⟨a, xs, e1, h, q⟩ := h
    rw [e1]
    exact .tup (SqT.of h) (DaL.dp ds xs (by simpa [PyData.canLay0] using c) q)
  | .dict _, _, c, h => by simp [PyData.canLay0] at c
theorem DaL.dp {K : PySem.W.Frag} {H : Hp} : ∀ (ds : List PyData) (xs : List V), PyData.canLayAll0 ds = true → DaL H ds xs → DpAll K H xs ds
  | [], _, _, h => by
    have e : _ = [] := h
    rw [e]
    exact .nil
  | d :: ds, _, c, h => by
    obtain ⟨v, vs, e1, h1, h2⟩ := h
    have c' : d.canLay0 = true ∧ PyData.canLayAll0 ds = true := by simpa [PyData.canLayAll0] using c
    rw [e1]
    exact .cons (Da.dp d v c'.1 h1) (DaL.dp ds vs c'.2 h2)
end
theorem e_eq (ha : Eb ta S d1) (hb : Eb tb S d2) (h1 : SeqAt.shaped d1 = true) (h2 : SeqAt.shaped d2 = true) : Eb (tOp (rEqD K) ta tb) S (.bool (PyData.eqv d1 d2)) :=
  e_op ha hb fun x y H Q q1 q2 q => ⟨d1, d2, Da.dp _ _ (SeqAt.canLay_of_shaped h1) q1, Da.dp _ _ (SeqAt.canLay_of_shaped h2) q2, h1, h2, q _ H (Same.refl H) rfl⟩
theorem e_ne (ha : Eb ta S d1) (hb : Eb tb S d2) (h1 : SeqAt.shaped d1 = true) (h2 : SeqAt.shaped d2 = true) : Eb (tOp (rNeD K) ta tb) S (.bool (!PyData.eqv d1 d2)) :=
  e_op ha hb fun x y H Q q1 q2 q => ⟨d1, d2, Da.dp _ _ (SeqAt.canLay_of_shaped h1) q1, Da.dp _ _ (SeqAt.canLay_of_shaped h2) q2, h1, h2, q _ H (Same.refl H) rfl⟩
theorem e_eqI {i j : Int} (ha : Eb ta S (.int i)) (hb : Eb tb S (.int j)) : Eb (tOp (rEqD K) ta tb) S (.bool (decide (i = j))) := by
  have h := e_eq (K := K) ha hb rfl rfl
  exact h.to (by show PyData.bool (i == j) = _; rw [Bool.beq_eq_decide_eq])
theorem e_neI {i j : Int} (ha : Eb ta S (.int i)) (hb : Eb tb S (.int j)) : Eb (tOp (rNeD K) ta tb) S (.bool (!decide (i = j))) := by
  have h := e_ne (K := K) ha hb rfl rfl
  exact h.to (by show PyData.bool (!(i == j)) = _; rw [Bool.beq_eq_decide_eq])
/-! is None -/
omit [KK] in
def rIsNo : R2 := fun x y H Q => y = .non ∧ Q (.bl (decide (x = .non))) H
omit [KK] in
def rNotNo : R2 := fun x y H Q => y = .non ∧ Q (.bl (!decide (x = .non))) H
omit [KK] in
theorem op_isNo {X : Cx} : OpR X (compareOp .Is) rIsNo := op_isN
omit [KK] in
theorem op_notNo {X : Cx} : OpR X (compareOp .IsNot) rNotNo := op_notN
omit [KK] in
def isNo : PyData → Bool
  | .none => true
  | _ => false
theorem Da.isNo {H : Hp} {d : PyData} {v : V} (h : Da H d v) : decide (v = .non) = isNo d := by
  cases d with
  | none => have e : v = V.non := h; rw [e]; rfl
  | bool b => have e : v = V.bl b := h; rw [e]; rfl
  | int i => have e : v = V.int i := h; rw [e]; rfl
  | str x => have e : v = V.str x := h; rw [e]; rfl
  | list ds => obtain ⟨a, xs, e, _⟩ := h; rw [e]; rfl
  | tuple ds => obtain ⟨a, xs, e, _⟩ := h; rw [e]; rfl
  | dict _ => obtain ⟨a, e, _⟩ := h; rw [e]; rfl
theorem e_isN (ha : Eb ta S d) : Eb (tOp rIsNo ta (tC .non)) S (.bool (isNo d)) :=
  e_op ha e_non fun x y H Q q1 q2 q => ⟨q2, q _ H (Same.refl H) (by rw [q1.isNo]; rfl)⟩
theorem e_notN (ha : Eb ta S d) : Eb (tOp rNotNo ta (tC .non)) S (.bool (!isNo d)) :=
  e_op ha e_non fun x y H Q q1 q2 q => ⟨q2, q _ H (Same.refl H) (by rw [q1.isNo]; rfl)⟩
/-! a op b op c -/
theorem e_chain {a b c : Int} {g g' : Int → Int → Bool} (ha : Eb ta S (.int a)) (hb : Eb tb S (.int b)) (hc : Eb tc S (.int c)) :
    Eb (tChain (rI0 fun i j => .bl (g i j)) (rI0 fun i j => .bl (g' i j)) ta tb tc) S (.bool (g a b && g' b c)) := fun H σ r Q q =>
  ha H σ r _ fun x H1 e1 h1 => hb H1 σ (r.mono e1) _ fun y H2 e2 h2 => ⟨a, b, h1, h2, g a b, rfl, by
    cases hg : g a b with
    | false => exact q _ H2 (e1.trans e2) (by rw [hg]; rfl)
    | true => exact hc H2 σ ((r.mono e1).mono e2) _ fun z H3 e3 h3 => ⟨b, c, h2, h3, q _ H3 ((e1.trans e2).trans e3) (by rw [hg]; rfl)⟩⟩
/-! and, or, not, if as values -/
theorem e_and {a b : Bool} (h1 : Eb ta S (.bool a)) (h2 : a = true → Eb tb S (.bool b)) : Eb (tAndV ta tb) S (.bool (a && b)) := fun H σ r Q q =>
  h1 H σ r _ fun x H1 e1 q1 => ⟨a, q1, by
    cases a with
    | true => exact h2 rfl H1 σ (r.mono e1) Q fun v H2 e2 q2 => q v H2 (e1.trans e2) q2
    | false => exact q _ H1 e1 rfl⟩
theorem e_or {a b : Bool} (h1 : Eb ta S (.bool a)) (h2 : a = false → Eb tb S (.bool b)) : Eb (tOrV ta tb) S (.bool (a || b)) := fun H σ r Q q =>
  h1 H σ r _ fun x H1 e1 q1 => ⟨a, q1, by
    cases a with
    | false => exact h2 rfl H1 σ (r.mono e1) Q fun v H2 e2 q2 => q v H2 (e1.trans e2) q2
    | true => exact q _ H1 e1 rfl⟩
theorem e_not {a : Bool} (h1 : Eb ta S (.bool a)) : Eb (tNotV ta) S (.bool (!a)) := fun H σ r Q q =>
  h1 H σ r _ fun x H1 e1 q1 => ⟨a, q1, q _ H1 e1 rfl⟩
theorem e_if {b : Bool} (h : Et tt S b) (h1 : b = true → Eb ta S d) (h2 : b = false → Eb tb S d) : Eb (tIf tt ta tb) S d := fun H σ r Q q =>
  h H σ r _ fun H1 e1 => by
    cases b with
    | true => exact h1 rfl H1 σ (r.mono e1) Q fun v H2 e2 q2 => q v H2 (e1.trans e2) q2
    | false => exact h2 rfl H1 σ (r.mono e1) Q fun v H2 e2 q2 => q v H2 (e1.trans e2) q2
/-! tests -/
theorem t_test {b : Bool} (h : Eb te S (.bool b)) : Et (tTest te) S b := fun H σ r Q q => h H σ r _ fun x H1 e1 q1 => ⟨b, q1, q H1 e1⟩
theorem t_B {b : Bool} (h : Eb te S (.bool b)) : Et (tB te) S b := fun H σ r Q q => h H σ r _ fun x H1 e1 q1 => ⟨b, q1, q H1 e1⟩
theorem t_and {a b : Bool} (h1 : Et tt S a) (h2 : a = true → Et tu S b) : Et (tAnd tt tu) S (a && b) := fun H σ r Q q => h1 H σ r _ fun H1 e1 => by
  cases a with
  | true => exact h2 rfl H1 σ (r.mono e1) Q fun H2 e2 => q H2 (e1.trans e2)
  | false => exact q H1 e1
theorem t_or {a b : Bool} (h1 : Et tt S a) (h2 : a = false → Et tu S b) : Et (tOr tt tu) S (a || b) := fun H σ r Q q => h1 H σ r _ fun H1 e1 => by
  cases a with
  | false => exact h2 rfl H1 σ (r.mono e1) Q fun H2 e2 => q H2 (e1.trans e2)
  | true => exact q H1 e1
theorem t_not {a : Bool} (h1 : Et tt S a) : Et (tNot tt) S (!a) := fun H σ r Q q => h1 H σ r _ fun H1 e1 => q H1 e1
omit [KK] in
/-- a value's truth -/
def tTru (K : PySem.W.Frag) (ta : TE) : TT := fun σ H Q => ta σ H fun x H' => ∃ k, TruV K x H' k ∧ Q k H'
omit [KK] in
theorem pt_tru {X : Cx} {a : Expr} (ha : PE X a ta) (he : ∀ whole, isTrue a X.env whole = (do let v ← whole; standAt a.pos; holding [v] (truthy v)) := by intro _; rfl) : PT X a (tTru X.K ta) := pt_truth ha he
theorem t_truB {b : Bool} (h : Eb te S (.bool b)) : Et (tTru K te) S b := fun H σ r Q q => h H σ r _ fun x H1 e1 q1 => by
  have e : x = .bl b := q1
  subst e
  exact ⟨b, rfl, q H1 e1⟩
theorem t_truI {i : Int} (h : Eb te S (.int i)) : Et (tTru K te) S (i != 0) := fun H σ r Q q => h H σ r _ fun x H1 e1 q1 => by
  have e : x = .int i := q1
  subst e
  exact ⟨_, rfl, q H1 e1⟩
theorem t_truL (h : Eb te S (.list ds)) : Et (tTru K te) S (!ds.isEmpty) := fun H σ r Q q => h H σ r _ fun x H1 e1 q1 => by
  obtain ⟨a, xs, e, h1, h2⟩ := q1
  subst e
  refine ⟨_, .inl ⟨xs, SqL.of h1, rfl⟩, ?_⟩
  have hl := h2.length
  have e : xs.isEmpty = ds.isEmpty := by
    cases xs <;> cases ds <;> simp_all
  rw [e]
  exact q H1 e1
theorem t_truS {x : Str} (h : Eb te S (.str x)) (hz : x.length ≤ 100000) : Et (tTru K te) S ((x.length : Int) != 0) := fun H σ r Q q => h H σ r _ fun y H1 e1 q1 => by
  have e : y = .str x := q1
  subst e
  exact ⟨_, ⟨line_of hz, rfl⟩, q H1 e1⟩
/-! arguments, displays -/
theorem a_nil : Ea tNil S [] := fun H σ r Q q => q [] H (Same.refl H) rfl
theorem a_cons {tr : TA} (h : Eb te S d) (hr : Ea tr S ds) : Ea (tCons te tr) S (d :: ds) := fun H σ r Q q =>
  h H σ r _ fun x H1 e1 q1 => hr H1 σ (r.mono e1) _ fun xs H2 e2 q2 => q _ H2 (e1.trans e2) ⟨x, xs, rfl, Da.mono e2 _ _ q1, q2⟩
theorem ap_nil : Eap tNil S [] := fun H σ r Q q => q [] H (Same.refl H) rfl
theorem ap_cons {tr : TA} (h : Ep te S d) (hr : Eap tr S ds) : Eap (tCons te tr) S (d :: ds) := fun H σ r Q q =>
  h H σ r _ fun x H1 e1 q1 => hr H1 σ (r.mono e1) _ fun xs H2 e2 q2 => q _ H2 (e1.trans e2) ⟨x, xs, rfl, Da.mono (Gm_mono e2) _ _ q1, q2⟩
omit [KK] in
theorem same_new {H : Hp} {p : Addr} {o : HO} (hp : H p = none) : Same H (upd H p o) := fun c u e => by
  rw [upd_ne (ne_of_none e hp)]
  exact e
theorem e_tup {ta : TA} (h : Ea ta S ds) (hz : ds.length ≤ 100000) : Eb (tTup ta) S (.tuple ds) := fun H σ r Q q => h H σ r _ fun xs H1 e1 q1 =>
  ⟨line_of (by rw [q1.length]; exact hz), fun p hp => q _ _ (e1.trans (same_new hp)) ⟨p, xs, rfl, upd_same, DaL.mono (same_new hp) _ _ q1⟩⟩
theorem ep_tup {ta : TA} (h : Eap ta S ds) (hz : ds.length ≤ 100000) : Ep (tTup ta) S (.tuple ds) := fun H σ r Q q => h H σ r _ fun xs H1 e1 q1 =>
  ⟨line_of (by rw [q1.length]; exact hz), fun p hp => q _ _ (e1.trans (same_new hp)) ⟨p, xs, rfl, Gm_of ((r.mono e1).notOwn hp) upd_same, DaL.mono (Gm_mono (same_new hp)) _ _ q1⟩⟩
theorem n_lst {ta : TA} (h : Ea ta S ds) (hz : ds.length ≤ 100000) : En (tLst ta) S ds := fun H σ r Q q => h H σ r _ fun xs H1 e1 q1 =>
  ⟨line_of (by rw [q1.length]; exact hz), fun p hp => q _ _ (e1.trans (same_new hp)) (e1.free hp) ⟨p, xs, rfl, upd_same, DaL.mono (same_new hp) _ _ q1⟩⟩
/-! calls of built-ins by their rules -/
theorem e_cb {r : List V → Hp → VK → Prop} {ta : TA} (h : Ea ta S ds) (hr : ∀ (vs : List V) (H : Hp) (Q : VK), DaL H ds vs → (∀ v H1, Same H H1 → Da H1 d v → Q v H1) → r vs H Q) : Eb (tCB r ta) S d := fun H σ rl Q q =>
  h H σ rl _ fun vs H1 e1 q1 => hr vs H1 Q q1 fun v H2 e2 q2 => q v H2 (e1.trans e2) q2
theorem n_cb {r : List V → Hp → VK → Prop} {ta : TA} (h : Ea ta S ds) (hr : ∀ (vs : List V) (H : Hp) (Q : VK), DaL H ds vs → (∀ l H1, Same H H1 → H l = none → Da H1 (.list es) (.ref l) → Q (.ref l) H1) → r vs H Q) : En (tCB r ta) S es := fun H σ rl Q q =>
  h H σ rl _ fun vs H1 e1 q1 => hr vs H1 Q q1 fun l H2 e2 hl q2 => q l H2 (e1.trans e2) (e1.free hl) q2
theorem DaL.v1 {H : Hp} {d : PyData} {vs : List V} (h : DaL H [d] vs) : ∃ v, vs = [v] ∧ Da H d v := by
  obtain ⟨v, r, e, h1, h2⟩ := h
  have e2 : r = [] := h2
  subst e2
  exact ⟨v, e, h1⟩
theorem DaL.v2 {H : Hp} {d e : PyData} {vs : List V} (h : DaL H [d, e] vs) : ∃ v w, vs = [v, w] ∧ Da H d v ∧ Da H e w := by
  obtain ⟨v, r, e1, h1, h2⟩ := h
  obtain ⟨w, rfl, h3⟩ := h2.v1
  exact ⟨v, w, e1, h1, h3⟩
omit [KK] in
def rLen (K : PySem.W.Frag) : List V → Hp → VK → Prop := fun xs H Q => ∃ x n, xs = [x] ∧ LenV K x H n ∧ Q (.int n) H
omit [KK] in
theorem cr_len {X : Cx} : CallR X (.builtin "len") (rLen X.K) := call_len
theorem e_lenL (h : Eb te S (.list ds)) : Eb (tCB (rLen K) (tCons te tNil)) S (.int (ds.length : Nat)) := e_cb (a_cons h a_nil) fun vs H Q h q => by
  obtain ⟨v, rfl, h1⟩ := h.v1
  obtain ⟨a, xs, rfl, h2, h3⟩ := h1
  exact ⟨_, xs.length, rfl, .inl ⟨xs, SqL.of h2, rfl⟩, by rw [h3.length]; exact q _ H (Same.refl H) rfl⟩
theorem e_lenT (h : Eb te S (.tuple ds)) : Eb (tCB (rLen K) (tCons te tNil)) S (.int (ds.length : Nat)) := e_cb (a_cons h a_nil) fun vs H Q h q => by
  obtain ⟨v, rfl, h1⟩ := h.v1
  obtain ⟨a, xs, rfl, h2, h3⟩ := h1
  exact ⟨_, xs.length, rfl, .inr ⟨xs, SqT.of h2, rfl⟩, by rw [h3.length]; exact q _ H (Same.refl H) rfl⟩
theorem e_lenS {x : Str} (h : Eb te S (.str x)) (hz : x.length ≤ 100000) : Eb (tCB (rLen K) (tCons te tNil)) S (.int (x.length : Nat)) := e_cb (a_cons h a_nil) fun vs H Q h q => by
  obtain ⟨v, rfl, h1⟩ := h.v1
  exact ⟨_, x.length, rfl, by rw [show v = .str x from h1]; exact ⟨line_of hz, rfl⟩, q _ H (Same.refl H) rfl⟩
theorem e_lenF {ns : List Int} (h : Eb te S (frz ns)) : Eb (tCB (rLen KK.K) (tCons te tNil)) S (.int (ns.length : Nat)) := e_cb (a_cons h a_nil) fun vs H Q h q => by
  obtain ⟨v, rfl, h1⟩ := h.v1
  obtain ⟨a, rfl, h2⟩ := h1
  rw [frzV_map] at h2
  exact ⟨_, (ns.map V.int).length, rfl, .inl ⟨_, h2, rfl⟩, by rw [List.length_map]; exact q _ H (Same.refl H) rfl⟩
omit [KK] in
def rList (K : PySem.W.Frag) : List V → Hp → VK → Prop := fun xs H Q => ∃ p ys, xs = [.ref p] ∧ (SqL K H p ys ∨ SqT K H p ys) ∧ ∀ l, H l = none → Q (.ref l) (upd H l (.lst ys))
omit [KK] in
theorem cr_list {X : Cx} : CallR X (.type "list") (rList X.K) := call_list_of
theorem n_list (h : Eb te S (.list ds)) : En (tCB (rList K) (tCons te tNil)) S ds := n_cb (a_cons h a_nil) fun vs H Q h q => by
  obtain ⟨v, rfl, h1⟩ := h.v1
  obtain ⟨a, xs, rfl, h2, h3⟩ := h1
  exact ⟨a, xs, rfl, .inl (SqL.of h2), fun l hl => q l _ (same_new hl) hl ⟨l, xs, rfl, upd_same, DaL.mono (same_new hl) _ _ h3⟩⟩
omit [KK] in
def rTuple (K : PySem.W.Frag) : List V → Hp → VK → Prop := fun xs H Q => ∃ p ys, xs = [.ref p] ∧ ((SqL K H p ys ∧ ∀ l, H l = none → Q (.ref l) (upd H l (.tup ys))) ∨ (SqT K H p ys ∧ Q (.ref p) H))
omit [KK] in
theorem cr_tuple {X : Cx} : CallR X (.type "tuple") (rTuple X.K) := call_tuple_of
theorem e_tuple (h : Eb te S (.list ds)) : Eb (tCB (rTuple K) (tCons te tNil)) S (.tuple ds) := e_cb (a_cons h a_nil) fun vs H Q h q => by
  obtain ⟨v, rfl, h1⟩ := h.v1
  obtain ⟨a, xs, rfl, h2, h3⟩ := h1
  exact ⟨a, xs, rfl, .inl ⟨SqL.of h2, fun l hl => q (.ref l) _ (same_new hl) ⟨l, xs, rfl, upd_same, DaL.mono (same_new hl) _ _ h3⟩⟩⟩
theorem e_sum {ns : List Int} (h : Eb te S (.list (ns.map .int))) : Eb (tCB (rSum K) (tCons te tNil)) S (.int ns.sum) := e_cb (a_cons h a_nil) fun vs H Q h q => by
  obtain ⟨v, rfl, h1⟩ := h.v1
  obtain ⟨a, xs, rfl, h2, h3⟩ := h1
  exact ⟨a, ns, rfl, by rw [← h3.ints]; exact SqL.of h2, q _ H (Same.refl H) rfl⟩
theorem e_maxL {ns : List Int} {m : Int} (h : Eb te S (.list (ns.map .int))) (hm : m ∈ ns) (hle : ∀ y ∈ ns, y ≤ m) : Eb (tCB (rMax K) (tCons te tNil)) S (.int m) := e_cb (a_cons h a_nil) fun vs H Q h q => by
  obtain ⟨v, rfl, h1⟩ := h.v1
  obtain ⟨a, xs, rfl, h2, h3⟩ := h1
  refine ⟨a, ns, rfl, by rw [← h3.ints]; exact SqL.of h2, List.length_pos_of_mem hm, fun m' h1 h2 => ?_⟩
  have e : m' = m := Int.le_antisymm (hle m' h1) (h2 m hm)
  rw [e]
  exact q _ H (Same.refl H) rfl
omit [KK] in
def rMax2 : List V → Hp → VK → Prop := fun xs H Q => ∃ i j, xs = [.int i, .int j] ∧ Q (.int (if j > i then j else i)) H
omit [KK] in
def rMin2 : List V → Hp → VK → Prop := fun xs H Q => ∃ i j, xs = [.int i, .int j] ∧ Q (.int (if j < i then j else i)) H
omit [KK] in
theorem cr_max2 {X : Cx} (hc : X.calm = true) : CallR X (.builtin "max") rMax2 := call_max2 hc
omit [KK] in
theorem cr_min2 {X : Cx} (hc : X.calm = true) : CallR X (.builtin "min") rMin2 := call_min2 hc
theorem e_max2 {i j : Int} (ha : Eb ta S (.int i)) (hb : Eb tb S (.int j)) : Eb (tCB rMax2 (tCons ta (tCons tb tNil))) S (.int (max i j)) := e_cb (a_cons ha (a_cons hb a_nil)) fun vs H Q h q => by
  obtain ⟨v, w, rfl, h1, h2⟩ := h.v2
  refine ⟨i, j, by rw [show v = .int i from h1, show w = .int j from h2], ?_⟩
  have e : (if j > i then j else i) = max i j := by rw [Int.max_def]; split <;> split <;> omega
  rw [e]
  exact q _ H (Same.refl H) rfl
theorem e_min2 {i j : Int} (ha : Eb ta S (.int i)) (hb : Eb tb S (.int j)) : Eb (tCB rMin2 (tCons ta (tCons tb tNil))) S (.int (min i j)) := e_cb (a_cons ha (a_cons hb a_nil)) fun vs H Q h q => by
  obtain ⟨v, w, rfl, h1, h2⟩ := h.v2
  refine ⟨i, j, by rw [show v = .int i from h1, show w = .int j from h2], ?_⟩
  have e : (if j < i then j else i) = min i j := by rw [Int.min_def]; split <;> split <;> omega
  rw [e]
  exact q _ H (Same.refl H) rfl
theorem n_sorted {ns ms : List Int} (h : Eb te S (.list (ns.map .int))) (hz : ns.length < 64) (hu : ∀ ms', ms'.Perm ns → ms'.Pairwise (· ≤ ·) → ms' = ms) : En (tCB (rSorted K) (tCons te tNil)) S (ms.map .int) := n_cb (a_cons h a_nil) fun vs H Q h q => by
  obtain ⟨v, rfl, h1⟩ := h.v1
  obtain ⟨a, xs, rfl, h2, h3⟩ := h1
  refine ⟨a, ns, rfl, by rw [← h3.ints]; exact SqL.of h2, hz, fun ms' p h4 h5 hp => ?_⟩
  have e := hu ms' h4 h5
  subst e
  exact q p _ (same_new hp) hp ⟨p, _, rfl, upd_same, DaL.of_ints⟩
/-! isinstance(x, a built-in class) -/
omit [KK] in
def tyN : PyData → String
  | .none => "NoneType"
  | .bool _ => "bool"
  | .int _ => "int"
  | .str _ => "str"
  | .list _ => "list"
  | .tuple _ => "tuple"
  | .dict _ => "list"
theorem Da.ty {H : Hp} {d : PyData} {v : V} (h : Da H d v) : TyX KK.K H v (.type (tyN d)) := by
  cases d with
  | none => have e : v = V.non := h; rw [e]; exact .base .non
  | bool b => have e : v = V.bl b := h; rw [e]; exact .base (.bl b)
  | int i => have e : v = V.int i := h; rw [e]; exact .base (.int i)
  | str x => have e : v = V.str x := h; rw [e]; exact .base (.str x)
  | list ds => obtain ⟨a, xs, e, h1, _⟩ := h; rw [e]; exact .base (.lst h1)
  | tuple ds => obtain ⟨a, xs, e, h1, _⟩ := h; rw [e]; exact .base (.tup h1)
  | dict _ =>
    obtain ⟨a, e, h1⟩ := h
    rw [e]
    rcases h1 with (h1 | ⟨o, h1⟩) | ⟨o, its, n, hk, hc, _⟩
    · exact .base (.lst h1)
    · exact .base (.frz h1)
    · exact .kList hk hc
theorem e_isi {T : String} {b : Bool} (h : Eb te S d) (hk : PySem.W.kitOne KK.K (.type (tyN d)) (.type T) = some b) : Eb (tCB (rIsi KK.K) (tCons te (tCons (tC (.ty T)) tNil))) S (.bool b) := fun H σ r Q q =>
  h H σ r _ fun v H1 e1 q1 => ⟨v, .ty T, .type (tyN d), .type T, b, rfl, .ty T, q1.ty, hk, q _ H1 e1 rfl⟩
/-! slices -/
omit [KK] in
def rSl (K : PySem.W.Frag) : V → Option Int → Option Int → Hp → VK → Prop := fun x lo hi H Q => rSlL K x lo hi H Q ∨ rSlS x lo hi H Q
omit [KK] in
theorem sl_any {X : Cx} : SlR X (rSl X.K) := sl_list.or sl_str
theorem o_no : Eo tNoPart S none := fun H σ r Q q => q H (Same.refl H)
theorem o_some {i : Int} (h : Eb te S (.int i)) : Eo (tPart te) S (some i) := fun H σ r Q q => h H σ r _ fun v H1 e1 q1 => ⟨i, q1, q H1 e1⟩
omit [KK] in
def cutD (ds : List PyData) (lo hi : Option Int) : List PyData := (ds.drop (HT.sIx ds.length 0 lo)).take (HT.sIx ds.length ds.length hi - HT.sIx ds.length 0 lo)
theorem n_slL {tl th : TO} {lo hi : Option Int} (h : Eb te S (.list ds)) (h1 : Eo tl S lo) (h2 : Eo th S hi) : En (tSl (rSl K) te tl th) S (cutD ds lo hi) := fun H σ r Q q =>
  h H σ r _ fun v H1 e1 q1 => h1 H1 σ (r.mono e1) _ fun H2 e2 => h2 H2 σ ((r.mono e1).mono e2) _ fun H3 e3 => by
    obtain ⟨a, xs, rfl, h4, h5⟩ := q1
    have e13 := e2.trans e3
    refine .inl ⟨a, xs, rfl, SqL.of (e13 a _ h4), fun p hp => q p _ ((e1.trans e13).trans (same_new hp)) ((e1.trans e13).free hp) ⟨p, _, rfl, upd_same, ?_⟩⟩
    refine DaL.mono (same_new hp) _ _ ?_
    unfold cutV cutD
    rw [h5.length]
    exact ((DaL.mono e13 _ _ h5).drop _).take _
theorem e_slS {tl th : TO} {lo hi : Option Int} {x : Str} (h : Eb te S (.str x)) (h1 : Eo tl S lo) (h2 : Eo th S hi) (hz : x.length ≤ 100000) : Eb (tSl (rSl K) te tl th) S (.str (cutS x lo hi)) := fun H σ r Q q =>
  h H σ r _ fun v H1 e1 q1 => h1 H1 σ (r.mono e1) _ fun H2 e2 => h2 H2 σ ((r.mono e1).mono e2) _ fun H3 e3 => .inr ⟨x, q1, line_of hz, q _ H3 ((e1.trans e2).trans e3) rfl⟩
theorem n_rev (h : Eb te S (.list ds)) : En (tRevL K te) S ds.reverse := fun H σ r Q q =>
  h H σ r _ fun v H1 e1 q1 => by
    obtain ⟨a, xs, rfl, h4, h5⟩ := q1
    exact ⟨a, xs, rfl, SqL.of h4, fun p hp => q p _ (e1.trans (same_new hp)) (e1.free hp) ⟨p, _, rfl, upd_same, DaL.mono (same_new hp) _ _ h5.reverse⟩⟩
end
end DL

namespace DL
open PySem L2
variable [KK]
/-! ### outcomes -/
/-- what a def gives: a value, a new list; an exception of a class of the program's own -/
inductive Ro where
  | va (d : PyData)
  | nw (ds : List PyData)
  | ex (C : Addr)
inductive Ou where
  | nx (S : DSt)
  | ct (S : DSt)
  | bk (S : DSt)
  | rt (r : Ro)
def FinR (E : XK) (Qv : VK) (G : Hp) : Ro → Prop
  | .va d => ∀ v H', Same G H' → Da H' d v → Qv v H'
  | .nw ds => ∀ l H', Same G H' → G l = none → Da H' (.list ds) (.ref l) → Qv (.ref l) H'
  | .ex C => ∀ H', Same G H' → E (.ref C) none H'
def Fin (E : XK) (D : Ends) (G : Hp) : Ou → Prop
  | .nx S' => ∀ σ' H', Rl H' σ' S' → Same G (Gm σ' S' H') → D.nx σ' H'
  | .ct S' => ∀ σ' H', Rl H' σ' S' → Same G (Gm σ' S' H') → D.ct σ' H'
  | .bk S' => ∀ σ' H', Rl H' σ' S' → Same G (Gm σ' S' H') → D.bk σ' H'
  | .rt r => FinR E D.rt G r
theorem FinR.up {E : XK} {Qv : VK} {G G' : Hp} {r : Ro} (e : Same G G') (h : FinR E Qv G r) : FinR E Qv G' r := by
  cases r with
  | va d => exact fun v H' e' q => h v H' (e.trans e') q
  | nw ds => exact fun l H' e' hl q => h l H' (e.trans e') (e.free hl) q
  | ex C => exact fun H' e' => h H' (e.trans e')
theorem Fin.up {E : XK} {D : Ends} {G G' : Hp} {o : Ou} (e : Same G G') (h : Fin E D G o) : Fin E D G' o := by
  cases o with
  | nx S => exact fun σ H r q => h σ H r (e.trans q)
  | ct S => exact fun σ H r q => h σ H r (e.trans q)
  | bk S => exact fun σ H r q => h σ H r (e.trans q)
  | rt r => exact FinR.up e h
/-- a statement's reading, run from what the slots hold -/
def DX (E : XK) (t : TS) (S : DSt) (o : Ou) : Prop := ∀ D H σ, Rl H σ S → Fin E D (Gm σ S H) o → t D σ H

section
variable {E : XK} {S S1 S2 : DSt} {t u : TS} {o : Ou} {te ta tb : TE} {tt : TT} {d : PyData} {ds es : List PyData} {K : PySem.W.Frag} {r : Ro}
theorem x_seq (h1 : DX E t S (.nx S1)) (h2 : DX E u S1 o) : DX E (tSeq t u) S o := fun D H σ rl k =>
  h1 _ H σ rl fun σ' H' rl' e => h2 D H' σ' rl' (k.up e)
theorem x_seqR (h1 : DX E t S (.rt r)) : DX E (tSeq t u) S (.rt r) := fun D H σ rl k => h1 _ H σ rl k
theorem x_seqC (h1 : DX E t S (.ct S1)) : DX E (tSeq t u) S (.ct S1) := fun D H σ rl k => h1 _ H σ rl k
theorem x_seqB (h1 : DX E t S (.bk S1)) : DX E (tSeq t u) S (.bk S1) := fun D H σ rl k => h1 _ H σ rl k
theorem x_next : DX E tNext S (.nx S) := fun D H σ rl k => k σ H rl (Same.refl _)
theorem x_if {b : Bool} (hc : Et tt S b) (h1 : b = true → DX E t S o) (h2 : b = false → DX E u S o) : DX E (tIfS tt t u) S o := fun D H σ rl k =>
  hc H σ rl _ fun H1 e1 => by
    cases b with
    | true => exact h1 rfl D H1 σ (rl.mono e1) (k.up (Gm_mono e1))
    | false => exact h2 rfl D H1 σ (rl.mono e1) (k.up (Gm_mono e1))
theorem x_ret (h : Eb te S d) : DX E (tRet te) S (.rt (.va d)) := fun D H σ rl k => h H σ rl _ fun v H1 e1 q => k v H1 (Gm_le.trans e1) q
theorem x_retN (h : En te S ds) : DX E (tRet te) S (.rt (.nw ds)) := fun D H σ rl k => h H σ rl _ fun l H1 e1 hl q => k l H1 (Gm_le.trans e1) (Gm_le.free hl) q
theorem x_retNon : DX E tRetN S (.rt (.va .none)) := fun D H σ rl k => k _ H Gm_le rfl
/-- an owned list is given away -/
theorem x_retO {i : Nat} (h : S[i]? = some (.ow ds)) : DX E (tRet (tVar i)) S (.rt (.nw ds)) := fun D H σ rl k => by
  obtain ⟨l, xs, h1, h2, h3, _⟩ := rl.ow i ds h
  refine ⟨.ref l, h1, k l H Gm_le ?_ ⟨l, xs, rfl, h2, DaL.mono Gm_le ds xs h3⟩⟩
  unfold Gm
  rw [if_pos ⟨i, ds, h, h1⟩]
theorem x_drop (h : Eb te S d) : DX E (tDrop te) S (.nx S) := fun D H σ rl k => h H σ rl _ fun v H1 e1 q => k σ H1 (rl.mono e1) (Gm_mono e1)

/-! stores -/
omit [KK] in
theorem set_get {α : Type} {l : List α} {i j : Nat} {x y : α} (h : (l.set i x)[j]? = some y) : (j = i ∧ x = y ∧ i < l.length) ∨ (j ≠ i ∧ l[j]? = some y) := by
  by_cases e : j = i
  · subst e
    have hi : j < l.length := by
      have q := (List.getElem?_eq_some_iff.mp h).1
      rw [List.length_set] at q
      exact q
    rw [List.getElem?_set_self hi] at h
    exact .inl ⟨rfl, Option.some.inj h, hi⟩
  · rw [List.getElem?_set_ne (Ne.symm e)] at h
    exact .inr ⟨e, h⟩
theorem Own.set_va {σ : St} {S : DSt} {i : Nat} {v : V} {s : Sl} {l : Addr} (hs : ∀ ds, s ≠ .ow ds) (h : Own (σ.set i (some v)) (S.set i s) l) : Own σ S l := by
  obtain ⟨j, ds, h1, h2⟩ := h
  rcases set_get h1 with ⟨_, e, _⟩ | ⟨ne, h1⟩
  · exact absurd e (hs ds)
  · rcases set_get h2 with ⟨e, _⟩ | ⟨_, h2⟩
    · exact absurd e ne
    · exact ⟨j, ds, h1, h2⟩
theorem Gm_le_of {σ σ' : St} {S S' : DSt} {H : Hp} (h : ∀ l, Own σ' S' l → Own σ S l) : Same (Gm σ S H) (Gm σ' S' H) := fun a o q =>
  Gm_of (fun w => (Gm_some q).1 (h a w)) (Gm_some q).2
/-- slot i now holds v, told by d -/
theorem Rl.put {H : Hp} {σ : St} {S : DSt} {i : Nat} {v : V} {d : PyData} (rl : Rl H σ S) (h : Da (Gm σ S H) d v) : Rl H (σ.set i (some v)) (S.set i (.va d)) ∧ Same (Gm σ S H) (Gm (σ.set i (some v)) (S.set i (.va d)) H) := by
  have sm : Same (Gm σ S H) (Gm (σ.set i (some v)) (S.set i (.va d)) H) := Gm_le_of fun l w => Own.set_va (fun ds e => by cases e) w
  refine ⟨⟨by rw [List.length_set, List.length_set]; exact rl.len, fun j d' h' => ?_, fun j ds h' => ?_, fun j k ds es l h1 h2 h3 h4 => ?_⟩, sm⟩
  · rcases set_get h' with ⟨e, e2, hi⟩ | ⟨ne, h'⟩
    · cases e2
      subst e
      exact ⟨v, List.getElem?_set_self (by rw [rl.len]; exact hi), Da.mono sm _ _ h⟩
    · obtain ⟨w, h1, h2⟩ := rl.va j d' h'
      exact ⟨w, by rw [List.getElem?_set_ne (Ne.symm ne)]; exact h1, Da.mono sm _ _ h2⟩
  · rcases set_get h' with ⟨e, e2, hi⟩ | ⟨ne, h'⟩
    · cases e2
    · obtain ⟨l, xs, h1, h2, h3, h4⟩ := rl.ow j ds h'
      exact ⟨l, xs, by rw [List.getElem?_set_ne (Ne.symm ne)]; exact h1, h2, DaL.mono sm _ _ h3, h4⟩
  · rcases set_get h1 with ⟨_, e, _⟩ | ⟨n1, h1⟩
    · cases e
    rcases set_get h2 with ⟨_, e, _⟩ | ⟨n2, h2⟩
    · cases e
    rw [List.getElem?_set_ne (Ne.symm n1)] at h3
    rw [List.getElem?_set_ne (Ne.symm n2)] at h4
    exact rl.sep j k ds es l h1 h2 h3 h4
theorem x_set {i : Nat} (h : Ep te S d) : DX E (tAsg te (gName i)) S (.nx (S.set i (.va d))) := fun D H σ rl k => h H σ rl _ fun v H1 e1 q => by
  obtain ⟨h1, h2⟩ := (rl.mono e1).put (i := i) q
  exact k _ _ h1 ((Gm_mono e1).trans h2)
/-- slot i now holds a new list, that no one else holds -/
theorem x_setO {i : Nat} (h : En te S ds) (im : immL ds = true) : DX E (tAsg te (gName i)) S (.nx (S.set i (.ow ds))) := fun D H σ rl k => h H σ rl _ fun l H1 e1 hl q => by
  obtain ⟨a, xs, e, q1, q2⟩ := q
  cases e
  have rl1 := rl.mono e1
  have own : ∀ m, Own (σ.set i (some (.ref l))) (S.set i (.ow ds)) m → Own σ S m ∨ m = l := fun m ⟨j, es, h1, h2⟩ => by
    rcases set_get h1 with ⟨e, _, hi⟩ | ⟨ne, h1⟩
    · subst e
      rw [List.getElem?_set_self (by rw [rl.len]; exact hi)] at h2
      cases h2
      exact .inr rfl
    · rw [List.getElem?_set_ne (Ne.symm ne)] at h2
      exact .inl ⟨j, es, h1, h2⟩
  have sm : Same (Gm σ S H) (Gm (σ.set i (some (.ref l))) (S.set i (.ow ds)) H1) := fun a o q => by
    obtain ⟨n, q⟩ := Gm_some q
    refine Gm_of (fun w => ?_) (e1 a o q)
    rcases own a w with w | w
    · exact n w
    · rw [w, hl] at q
      cases q
  have tp : Tups H1 (Gm (σ.set i (some (.ref l))) (S.set i (.ow ds)) H1) := fun a ys q => Gm_of (fun w => by
    rcases own a w with w | w
    · obtain ⟨zs, z⟩ := rl1.owned w
      rw [q] at z
      cases z
    · rw [w, q1] at q
      cases q) q
  refine k _ H1 ⟨by rw [List.length_set, List.length_set]; exact rl.len, fun j d' h' => ?_, fun j es h' => ?_, fun j m es fs p h1 h2 h3 h4 => ?_⟩ sm
  · rcases set_get h' with ⟨_, e2, _⟩ | ⟨ne, h'⟩
    · cases e2
    · obtain ⟨w, z1, z2⟩ := rl.va j d' h'
      exact ⟨w, by rw [List.getElem?_set_ne (Ne.symm ne)]; exact z1, Da.mono sm _ _ z2⟩
  · rcases set_get h' with ⟨e, e2, hi⟩ | ⟨ne, h'⟩
    · cases e2
      subst e
      exact ⟨l, xs, List.getElem?_set_self (by rw [rl.len]; exact hi), q1, DaL.tups tp _ _ im q2, im⟩
    · obtain ⟨m, ys, z1, z2, z3, z4⟩ := rl.ow j es h'
      exact ⟨m, ys, by rw [List.getElem?_set_ne (Ne.symm ne)]; exact z1, e1 _ _ z2, DaL.mono sm _ _ z3, z4⟩
  · have nl : ∀ {j : Nat} {es : List PyData} {p : Addr}, S[j]? = some (Sl.ow es) → σ[j]? = some (some (V.ref p)) → p ≠ l := fun {j es p} z1 z2 z => by
      obtain ⟨m, ys, w1, w2, _⟩ := rl.ow j es z1
      rw [z2] at w1
      cases w1
      rw [z, hl] at w2
      cases w2
    rcases set_get h1 with ⟨e, _, hi⟩ | ⟨n1, g1⟩
    · rcases set_get h2 with ⟨e', _, hi'⟩ | ⟨n2, g2⟩
      · rw [e, e']
      · subst e
        rw [List.getElem?_set_self (by rw [rl.len]; exact hi)] at h3
        cases h3
        rw [List.getElem?_set_ne (Ne.symm n2)] at h4
        exact absurd rfl (nl g2 h4)
    · rw [List.getElem?_set_ne (Ne.symm n1)] at h3
      rcases set_get h2 with ⟨e', _, hi'⟩ | ⟨n2, g2⟩
      · subst e'
        rw [List.getElem?_set_self (by rw [rl.len]; exact hi')] at h4
        cases h4
        exact absurd rfl (nl g1 h3)
      · rw [List.getElem?_set_ne (Ne.symm n2)] at h4
        exact rl.sep j m es fs p g1 g2 h3 h4

/-! an owned list is changed -/
theorem Rl.change {H : Hp} {σ : St} {S : DSt} {i : Nat} {l : Addr} {xs ys : List V} {ds es : List PyData} (rl : Rl H σ S) (hi : S[i]? = some (.ow ds)) (hl : σ[i]? = some (some (.ref l))) (hx : H l = some (.lst xs)) (hy : DaL H es ys) (im : DL.immL es = true) :
    Rl (upd H l (.lst ys)) σ (S.set i (.ow es)) ∧ Same (Gm σ S H) (Gm σ (S.set i (.ow es)) (upd H l (.lst ys))) := by
  have hiS : i < S.length := (List.getElem?_eq_some_iff.mp hi).1
  have own : ∀ m, Own σ (S.set i (.ow es)) m → Own σ S m := fun m ⟨j, fs, h1, h2⟩ => by
    rcases set_get h1 with ⟨e, _, _⟩ | ⟨ne, h1⟩
    · subst e
      exact ⟨j, ds, hi, h2⟩
    · exact ⟨j, fs, h1, h2⟩
  have ol : Own σ S l := ⟨i, ds, hi, hl⟩
  have sm : Same (Gm σ S H) (Gm σ (S.set i (.ow es)) (upd H l (.lst ys))) := fun a o q => by
    obtain ⟨n, q⟩ := Gm_some q
    have ne : a ≠ l := fun z => n (z ▸ ol)
    exact Gm_of (fun w => n (own a w)) (by rw [upd_ne ne]; exact q)
  have tp : Tups H (Gm σ (S.set i (.ow es)) (upd H l (.lst ys))) := fun a zs q => sm a _ (rl.tups a zs q)
  refine ⟨⟨by rw [List.length_set]; exact rl.len, fun j d' h' => ?_, fun j fs h' => ?_, fun j m fs gs p h1 h2 h3 h4 => ?_⟩, sm⟩
  · rcases set_get h' with ⟨_, e2, _⟩ | ⟨ne, h'⟩
    · cases e2
    · obtain ⟨w, z1, z2⟩ := rl.va j d' h'
      exact ⟨w, z1, Da.mono sm _ _ z2⟩
  · rcases set_get h' with ⟨e, e2, _⟩ | ⟨ne, h'⟩
    · cases e2
      subst e
      exact ⟨l, ys, hl, upd_same, DaL.tups tp _ _ im hy, im⟩
    · obtain ⟨m, zs, z1, z2, z3, z4⟩ := rl.ow j fs h'
      refine ⟨m, zs, z1, ?_, DaL.mono sm _ _ z3, z4⟩
      rw [upd_ne]
      · exact z2
      · intro z
        subst z
        exact ne (rl.sep j i fs ds m h' hi z1 hl)
  · rcases set_get h1 with ⟨e, _, _⟩ | ⟨n1, h1⟩ <;> rcases set_get h2 with ⟨e', _, _⟩ | ⟨n2, h2⟩
    · rw [e, e']
    · rw [e] at h3 ⊢
      exact rl.sep i m ds gs p hi h2 h3 h4
    · rw [e'] at h4 ⊢
      exact rl.sep j i fs ds p h1 hi h3 h4
    · exact rl.sep j m fs gs p h1 h2 h3 h4
/-- xs.append(e) -/
theorem x_app {i : Nat} (hi : S[i]? = some (.ow ds)) (h : Eb te S d) (im : imm d = true) (hz : ds.length < 100000) : DX E (tDrop (tBM K "list" rAppend (tVar i) (tCons te tNil))) S (.nx (S.set i (.ow (ds ++ [d])))) := fun D H σ rl k => by
  obtain ⟨l, xs, h1, h2, h3, h4⟩ := rl.ow i ds hi
  refine ⟨.ref l, h1, .inl ⟨rfl, xs, SqL.of h2⟩, h H σ rl _ fun v H1 e1 q => ?_⟩
  have hx1 := e1 l _ h2
  refine ⟨l, xs, v, rfl, rfl, hx1, Nat.lt_of_lt_of_le (by rw [h3.length]; exact hz) (by decide : 100000 ≤ sizeLine), ?_⟩
  obtain ⟨r2, s2⟩ := (rl.mono e1).change hi h1 hx1 (ys := xs ++ [v]) (es := ds ++ [d]) ((DaL.mono (Gm_le.trans e1) _ _ h3).append (.one q)) (immL_append h4 (by show (imm d && immL []) = true; rw [im]; rfl))
  exact k _ _ r2 ((Gm_mono e1).trans s2)
/-- xs[j] = e -/
theorem x_put {i j : Nat} {z : Int} (hi : S[i]? = some (.ow ds)) (h : Eb te S d) (im : imm d = true) (hj : Eb tb S (.int z)) (hz : ixN ds.length z = some j) : DX E (tAsg te (gSub (tVar i) tb rSetL)) S (.nx (S.set i (.ow (ds.set j d)))) := fun D H σ rl k =>
  h H σ rl _ fun v H1 e1 q => by
    obtain ⟨l, xs, h1, h2, h3, h4⟩ := (rl.mono e1).ow i ds hi
    refine ⟨.ref l, h1, hj H1 σ (rl.mono e1) _ fun w H2 e2 q2 => ?_⟩
    have hx2 := e2 l _ h2
    refine ⟨l, xs, z, j, rfl, q2, hx2, by rw [h3.length]; exact hz, ?_⟩
    have imS : immL (ds.set j d) = true := by
      rw [immL_iff] at h4 ⊢
      intro x hx
      rcases List.mem_or_eq_of_mem_set hx with hx | hx
      · exact h4 x hx
      · rw [hx]
        exact im
    obtain ⟨r2, s2⟩ := ((rl.mono e1).mono e2).change hi h1 hx2 (ys := xs.set j v) (es := ds.set j d) ((DaL.mono (Gm_le.trans e2) _ _ h3).set j (Da.mono e2 _ _ q)) imS
    exact k _ _ r2 ((Gm_mono (e1.trans e2)).trans s2)

/-! ### knowing less -/
inductive Le : DSt → DSt → Prop
  | nil : Le [] []
  | eq {s S S'} : Le S S' → Le (s :: S) (s :: S')
  | va {d S S'} : Le S S' → Le (.va d :: S) (.no :: S')
  | ow {ds S S'} : Le S S' → Le (.ow ds :: S) (.no :: S')
  /-- an owned list becomes a value -/
  | fz {ds S S'} : Le S S' → Le (.ow ds :: S) (.va (.list ds) :: S')
theorem Le.rfl' : ∀ {S : DSt}, Le S S
  | [] => .nil
  | s :: S => .eq Le.rfl'
theorem Le.len {S S' : DSt} (h : Le S S') : S'.length = S.length := by
  induction h with
  | nil => rfl
  | eq _ ih => simpa using ih
  | va _ ih => simpa using ih
  | ow _ ih => simpa using ih
  | fz _ ih => simpa using ih
theorem Le.getO {S S' : DSt} (h : Le S S') : ∀ {i : Nat} {ds}, S'[i]? = some (.ow ds) → S[i]? = some (.ow ds) := by
  induction h with
  | nil => intro i ds e; exact e
  | eq _ ih => intro i ds e; cases i with
    | zero => exact e
    | succ i => exact ih (by simpa using e)
  | va _ ih => intro i ds e; cases i with
    | zero => cases e
    | succ i => exact ih (by simpa using e)
  | ow _ ih => intro i ds e; cases i with
    | zero => cases e
    | succ i => exact ih (by simpa using e)
  | fz _ ih => intro i ds e; cases i with
    | zero => cases e
    | succ i => exact ih (by simpa using e)
theorem Le.getV {S S' : DSt} (h : Le S S') : ∀ {i : Nat} {d}, S'[i]? = some (.va d) → S[i]? = some (.va d) ∨ ∃ ds, d = .list ds ∧ S[i]? = some (.ow ds) ∧ ∀ es, S'[i]? ≠ some (.ow es) := by
  induction h with
  | nil => intro i d e; exact .inl e
  | eq _ ih => intro i d e; cases i with
    | zero => exact .inl e
    | succ i => exact ih (by simpa using e)
  | va _ ih => intro i d e; cases i with
    | zero => cases e
    | succ i => exact ih (by simpa using e)
  | ow _ ih => intro i d e; cases i with
    | zero => cases e
    | succ i => exact ih (by simpa using e)
  | @fz ds _ _ _ ih => intro i d e; cases i with
    | zero =>
      have e' : Sl.va (.list ds) = .va d := Option.some.inj e
      cases e'
      exact .inr ⟨ds, rfl, rfl, fun es z => by cases z⟩
    | succ i => exact ih (by simpa using e)
theorem Rl.le {H : Hp} {σ : St} {S S' : DSt} (rl : Rl H σ S) (h : Le S S') : Rl H σ S' ∧ Same (Gm σ S H) (Gm σ S' H) := by
  have own : ∀ m, Own σ S' m → Own σ S m := fun m ⟨j, fs, h1, h2⟩ => ⟨j, fs, h.getO h1, h2⟩
  have sm : Same (Gm σ S H) (Gm σ S' H) := Gm_le_of own
  refine ⟨⟨by rw [rl.len, h.len], fun i d e => ?_, fun i ds e => ?_, fun i j ds es l h1 h2 => rl.sep i j ds es l (h.getO h1) (h.getO h2)⟩, sm⟩
  · rcases h.getV e with e | ⟨ds, rfl, e, ne⟩
    · obtain ⟨v, h1, h2⟩ := rl.va i d e
      exact ⟨v, h1, Da.mono sm _ _ h2⟩
    · obtain ⟨l, xs, h1, h2, h3, h4⟩ := rl.ow i ds e
      refine ⟨.ref l, h1, l, xs, rfl, Gm_of (fun ⟨j, fs, q1, q2⟩ => ?_) h2, DaL.mono sm _ _ h3⟩
      have hij := rl.sep i j ds fs l e (h.getO q1) h1 q2
      subst hij
      exact ne fs q1
  · obtain ⟨l, xs, h1, h2, h3, h4⟩ := rl.ow i ds (h.getO e)
    exact ⟨l, xs, h1, h2, DaL.mono sm _ _ h3, h4⟩
/-- from a state that is known better -/
theorem x_pre (h : DX E t S1 o) (l : Le S S1) : DX E t S o := fun D H σ rl k => let ⟨r1, s1⟩ := rl.le l; h D H σ r1 (k.up s1)
theorem x_post (h : DX E t S (.nx S1)) (l : Le S1 S2) : DX E t S (.nx S2) := fun D H σ rl k => h D H σ rl fun σ' H' r' e => let ⟨r1, s1⟩ := r'.le l; k σ' H' r1 (e.trans s1)
theorem Eb.pre (h : Eb te S1 d) (l : Le S S1) : Eb te S d := fun H σ rl Q q => h H σ (rl.le l).1 Q q
theorem Et.pre {b : Bool} (h : Et tt S1 b) (l : Le S S1) : Et tt S b := fun H σ rl Q q => h H σ (rl.le l).1 Q q

/-! ### targets -/
/-- d is stored: from S to S', only the slots ws change -/
def Dg (ws : List Nat) (g : TG) (d : PyData) (S S' : DSt) : Prop := ∀ H σ v, Rl H σ S → Da (Gm σ S H) d v →
  ∃ σ', Rl H σ' S' ∧ Same (Gm σ S H) (Gm σ' S' H) ∧ (σ'.length = σ.length ∧ ∀ j, j ∉ ws → σ'[j]? = σ[j]?) ∧ ∀ Q : St → Hp → Prop, Q σ' H → g v σ H Q
def DgL (ws : List Nat) (g : TGs) (ds : List PyData) (S S' : DSt) : Prop := ∀ H σ vs, Rl H σ S → DaL (Gm σ S H) ds vs →
  ∃ σ', Rl H σ' S' ∧ Same (Gm σ S H) (Gm σ' S' H) ∧ (σ'.length = σ.length ∧ ∀ j, j ∉ ws → σ'[j]? = σ[j]?) ∧ ∀ Q : St → Hp → Prop, Q σ' H → g vs σ H Q
theorem g_name {i : Nat} : Dg [i] (gName i) d S (S.set i (.va d)) := fun H σ v rl h => by
  obtain ⟨h1, h2⟩ := rl.put (i := i) h
  exact ⟨_, h1, h2, ⟨List.length_set, fun j hj => List.getElem?_set_ne (fun e => hj (by simp [e]))⟩, fun Q q => q⟩
theorem gs_nil : DgL [] gNil [] S S := fun H σ vs rl h => ⟨σ, rl, Same.refl _, ⟨rfl, fun _ _ => rfl⟩, fun Q q => ⟨h, q⟩⟩
theorem gs_cons {ws ws' : List Nat} {g : TG} {gs : TGs} (h1 : Dg ws g d S S1) (h2 : DgL ws' gs ds S1 S2) : DgL (ws ++ ws') (gCons g gs) (d :: ds) S S2 := fun H σ vs rl h => by
  obtain ⟨v, r, e, q1, q2⟩ := h
  obtain ⟨σ1, a1, a2, a3, a4⟩ := h1 H σ v rl q1
  obtain ⟨σ2, b1, b2, b3, b4⟩ := h2 H σ1 r a1 (DaL.mono a2 _ _ q2)
  exact ⟨σ2, b1, a2.trans b2, ⟨b3.1.trans a3.1, fun j hj => (b3.2 j fun z => hj (List.mem_append_right _ z)).trans (a3.2 j fun z => hj (List.mem_append_left _ z))⟩, fun Q q => ⟨v, r, e, a4 _ (b4 Q q)⟩⟩
theorem g_tup {ws : List Nat} {n : Nat} {gs : TGs} (h : DgL ws gs ds S S1) (hn : ds.length = n) : Dg ws (gTup K n gs) (.tuple ds) S S1 := fun H σ v rl hd => by
  obtain ⟨a, xs, e, q1, q2⟩ := hd
  obtain ⟨σ1, a1, a2, a3, a4⟩ := h H σ xs rl q2
  exact ⟨σ1, a1, a2, a3, fun Q q => ⟨a, xs, e, SqT.of (Gm_le a _ q1), by rw [q2.length]; exact hn, a4 Q q⟩⟩
theorem x_asg {ws : List Nat} {g : TG} (h : Ep te S d) (hg : Dg ws g d S S1) : DX E (tAsg te g) S (.nx S1) := fun D H σ rl k => h H σ rl _ fun v H1 e1 q => by
  obtain ⟨σ1, a1, a2, _, a4⟩ := hg H1 σ v (rl.mono e1) q
  exact a4 _ (k σ1 H1 a1 ((Gm_mono e1).trans a2))

/-! ### what a for walks -/
open Classical in
/-- what stood, and what is new in H' -/
noncomputable def gro (B H H' : Hp) : Hp := fun a => if H a = none then H' a else B a
structure Walk (J : It) (B : Hp) (ds : List PyData) : Prop where
  go : ∀ (i : Nat) H, i < ds.length → Same B H → J.go i H
  yl : ∀ (i : Nat) H x H', i < ds.length → Same B H → J.yld i H x H' → Same H H' ∧ ∃ d, ds[i]? = some d ∧ Da (gro B H H') d x
  st : ∀ H, Same B H → J.stop ds.length H
def Di (wi : TI) (S : DSt) (ds : List PyData) : Prop := ∀ H σ, Rl H σ S → ∀ R : It → Hp → Prop, (∀ J H1, Same H H1 → Walk J (Gm σ S H1) ds → R J H1) → wi σ H R
theorem gro_same {B H : Hp} (h : Same B H) : gro B H H = B := by
  funext a
  unfold gro
  split
  · rename_i e
    rw [e, (h.free e)]
  · rfl
theorem sqL_inj {H : Hp} {a : Addr} {xs ys : List V} (h : H a = some (.lst xs)) (h' : SqL K H a ys) : Rd H a (.lst ys) ∨ True := .inr trivial
theorem i_list (h : Ep te S (.list ds)) : Di (iList K te) S ds := fun H σ rl R k => h H σ rl _ fun v H1 e1 q => by
  obtain ⟨a, xs, e, q1, q2⟩ := q
  have q1' := (Gm_some q1).2
  refine ⟨a, e, ⟨xs, SqL.of q1'⟩, k _ H1 e1 ⟨fun i H' hi e' => ?_, fun i H' x H'' hi e' y => ?_, fun H' e' => ?_⟩⟩
  · have hx : i < xs.length := by rw [q2.length]; exact hi
    exact ⟨xs, xs[i], SqL.of (e' a _ q1), List.getElem?_eq_getElem hx⟩
  · obtain ⟨rfl, y⟩ := y
    obtain ⟨d, h1, h2⟩ := q2.get' (y xs (SqL.of (e' a _ q1)))
    exact ⟨Same.refl _, d, h1, by rw [gro_same e']; exact h2⟩
  · exact ⟨xs, SqL.of (e' a _ q1), by rw [q2.length]; exact Nat.le_refl _⟩
theorem i_tup (h : Ep te S (.tuple ds)) : Di (iTup K te) S ds := fun H σ rl R k => h H σ rl _ fun v H1 e1 q => by
  obtain ⟨a, xs, e, q1, q2⟩ := q
  have q1' := (Gm_some q1).2
  refine ⟨a, e, ⟨xs, SqT.of q1'⟩, k _ H1 e1 ⟨fun i H' hi e' => ?_, fun i H' x H'' hi e' y => ?_, fun H' e' => ?_⟩⟩
  · have hx : i < xs.length := by rw [q2.length]; exact hi
    exact ⟨xs, xs[i], SqT.of (e' a _ q1), List.getElem?_eq_getElem hx⟩
  · obtain ⟨rfl, y⟩ := y
    obtain ⟨d, h1, h2⟩ := q2.get' (y xs (SqT.of (e' a _ q1)))
    exact ⟨Same.refl _, d, h1, by rw [gro_same e']; exact h2⟩
  · exact ⟨xs, SqT.of (e' a _ q1), by rw [q2.length]; exact Nat.le_refl _⟩
theorem i_rng1 {ta : TA} {n : Int} (h : Ea ta S [.int n]) (hn : -100000 ≤ n ∧ n ≤ 100000) : Di (iRng1 ta) S ((List.range n.toNat).map fun (k : Nat) => .int (k : Int)) := fun H σ rl R k => h H σ rl _ fun vs H1 e1 q => by
  obtain ⟨v, rfl, q1⟩ := q.v1
  refine ⟨n, by rw [show v = .int n from q1], by omega, by omega, k _ H1 e1 ⟨fun i H' hi e' => ?_, fun i H' x H'' hi e' y => ?_, fun H' e' => ?_⟩⟩
  · show i < n.toNat
    simpa using hi
  · obtain ⟨rfl, rfl⟩ := y
    have hi' : i < n.toNat := by simpa using hi
    refine ⟨Same.refl _, .int (i : Int), by rw [List.getElem?_map, List.getElem?_range hi']; rfl, ?_⟩
    show V.int (0 + (i : Int)) = V.int i
    rw [Int.zero_add]
  · show n.toNat ≤ _
    simp
theorem i_enum (h : Ep te S (.list ds)) : Di (iEnum K (tCons te tNil)) S (ds.mapIdx fun (k : Nat) d => .tuple [.int (k : Int), d]) := fun H σ rl R k => h H σ rl _ fun v H1 e1 q => by
  obtain ⟨a, xs, e, q1, q2⟩ := q
  subst e
  have q1' := (Gm_some q1).2
  refine ⟨a, xs, rfl, SqL.of q1', k _ H1 e1 ⟨fun i H' hi e' => ?_, fun i H' x H'' hi e' y => ?_, fun H' e' => ?_⟩⟩
  · have hx : i < xs.length := by rw [q2.length]; simpa using hi
    exact ⟨xs, xs[i], SqL.of (e' a _ q1), List.getElem?_eq_getElem hx⟩
  · obtain ⟨T, x', rfl, hT, rfl, y⟩ := y
    obtain ⟨d, h1, h2⟩ := q2.get' (y xs (SqL.of (e' a _ q1)))
    refine ⟨same_new hT, .tuple [.int (i : Int), d], by rw [List.getElem?_mapIdx, h1]; rfl, T, [.int (i : Nat), x'], rfl, ?_, ?_⟩
    · unfold gro
      rw [if_pos hT]
      exact upd_same
    · refine ⟨_, _, rfl, rfl, x', _, rfl, Da.mono (fun b o hb => ?_) _ _ h2, rfl⟩
      unfold gro
      rw [if_neg (by rw [e' b o hb]; exact fun z => by cases z)]
      exact hb
  · exact ⟨xs, SqL.of (e' a _ q1), by rw [q2.length]; simp⟩
theorem i_zip {ta : TE} {es : List PyData} (h : Ep ta S (.list ds)) (h' : Ep tb S (.list es)) : Di (iZip K (tCons ta (tCons tb tNil))) S (List.zipWith (fun d e => .tuple [d, e]) ds es) := fun H σ rl R k => h H σ rl _ fun v H0 e0 q => h' H0 σ (rl.mono e0) _ fun w H1 e1 p => by
  obtain ⟨a, xs, e, q1, q2⟩ := q
  obtain ⟨b, ys, e', p1, p2⟩ := p
  subst e
  subst e'
  have q1 := Gm_mono e1 a _ q1
  have q2 := DaL.mono (Gm_mono e1) _ _ q2
  have q1' := (Gm_some q1).2
  have p1' := (Gm_some p1).2
  refine ⟨a, b, xs, ys, rfl, SqL.of q1', SqL.of p1', k _ H1 (e0.trans e1) ⟨fun i H' hi e' => ?_, fun i H' x H'' hi e' y => ?_, fun H' e' => ?_⟩⟩
  · have hi' : i < min ds.length es.length := by simpa using hi
    have hx : i < xs.length := by rw [q2.length]; omega
    have hy : i < ys.length := by rw [p2.length]; omega
    exact ⟨xs, ys, xs[i], ys[i], SqL.of (e' a _ q1), SqL.of (e' b _ p1), List.getElem?_eq_getElem hx, List.getElem?_eq_getElem hy⟩
  · obtain ⟨T, x', y', rfl, hT, rfl, yx, yy⟩ := y
    obtain ⟨d, h1, h2⟩ := q2.get' (yx xs (SqL.of (e' a _ q1)))
    obtain ⟨d', h1', h2'⟩ := p2.get' (yy ys (SqL.of (e' b _ p1)))
    have up : Same (Gm σ S H1) (gro (Gm σ S H1) H' (upd H' T (.tup [x', y']))) := fun c o hb => by
      unfold gro
      rw [if_neg (by rw [e' c o hb]; exact fun z => by cases z)]
      exact hb
    refine ⟨same_new hT, .tuple [d, d'], by rw [List.getElem?_zipWith, h1, h1'], T, [x', y'], rfl, ?_, ?_⟩
    · unfold gro
      rw [if_pos hT]
      exact upd_same
    · exact ⟨_, _, rfl, Da.mono up _ _ h2, y', _, rfl, Da.mono up _ _ h2', rfl⟩
  · refine ⟨xs, ys, SqL.of (e' a _ q1), SqL.of (e' b _ p1), ?_⟩
    rw [q2.length, p2.length, List.length_zipWith]
    omega
theorem i_str {x : Str} (h : Eb te S (.str x)) : Di (iStr te) S (x.cps.toList.map fun c => .str ⟨#[c]⟩) := fun H σ rl R k => h H σ rl _ fun v H1 e1 q => by
  refine ⟨x, q, k _ H1 e1 ⟨fun i H' hi e' => ?_, fun i H' y H'' hi e' z => ?_, fun H' e' => ?_⟩⟩
  · show i < x.cps.size
    simpa using hi
  · obtain ⟨rfl, c, hc, rfl⟩ := z
    refine ⟨Same.refl _, .str ⟨#[c]⟩, ?_, rfl⟩
    rw [List.getElem?_map, Array.getElem?_toList, hc]
    rfl
  · show x.cps.size ≤ _
    simp

/-! ### for -/
theorem gro_le {B H H' : Hp} {σ : St} {S : DSt} (rl : Rl H σ S) (h : Same B (Gm σ S H)) (e : Same H H') : Same (gro B H H') (Gm σ S H') := fun a o q => by
  unfold gro at q
  split at q
  · exact Gm_of (rl.notOwn (by assumption)) q
  · exact Gm_mono e a o (h a o q)
/-- the turns up to n go on (I i: what the slots hold ahead of turn i); then the walk ends, or turn n ends the loop by o -/
theorem x_forGen {wi : TI} {g : TG} {tb : TS} (hw : Di wi S ds) (n : Nat) (hn : n ≤ ds.length) (I : Nat → DSt) (h0 : Le S (I 0))
    (hs : ∀ (i : Nat) d, i < n → ds[i]? = some d → ∃ ws S1 S2, Dg ws g d (I i) S1 ∧ (DX E tb S1 (.nx S2) ∨ DX E tb S1 (.ct S2)) ∧ Le S2 (I (i + 1)))
    (he : n < ds.length → ∀ d, ds[n]? = some d → ∃ ws S1 r, o = .rt r ∧ Dg ws g d (I n) S1 ∧ DX E tb S1 (.rt r)) (hd : n = ds.length → o = .nx (I n)) : DX E (tFor wi g tb) S o := fun D H σ rl k => by
  refine hw H σ rl _ fun J H1 e1 wk => ?_
  have rl1 := rl.mono e1
  obtain ⟨r0, s0⟩ := rl1.le h0
  have k1 := k.up (Gm_mono e1)
  refine ⟨fun i m σ' H' => m = n + 1 - i ∧ i ≤ n ∧ Rl H' σ' (I i) ∧ Same (Gm σ S H1) (Gm σ' (I i) H'), ⟨n + 1, by omega, Nat.zero_le _, r0, s0⟩, ?_⟩
  rintro i m σ' H' ⟨rfl, hi, r', s'⟩
  have sH : Same (Gm σ S H1) H' := s'.trans Gm_le
  by_cases hlt : i < ds.length
  · refine .inr ⟨wk.go i H' hlt sH, fun σ2 H2 => (i + 1 ≤ n ∧ Rl H2 σ2 (I (i + 1)) ∧ Same (Gm σ S H1) (Gm σ2 (I (i + 1)) H2)), fun σ2 H2 ⟨h1, h2, h3⟩ => ⟨n + 1 - (i + 1), by omega, rfl, h1, h2, h3⟩, fun x H2 y => ?_⟩
    obtain ⟨s2, d, hd', q⟩ := wk.yl i H' x H2 hlt sH y
    have r2 := r'.mono s2
    have gl := gro_le r' s' s2
    have s12 : Same (Gm σ S H1) (Gm σ' (I i) H2) := s'.trans (Gm_mono s2)
    have q2 := Da.mono gl _ _ q
    by_cases hin : i < n
    · obtain ⟨ws, S1, S2, hg, hb, hle⟩ := hs i d hin hd'
      obtain ⟨σ3, a1, a2, _, a4⟩ := hg H2 σ' x r2 q2
      refine a4 _ ?_
      rcases hb with hb | hb
      · refine hb _ H2 σ3 a1 fun σ4 H4 r4 s4 => ?_
        obtain ⟨r5, s5⟩ := r4.le hle
        exact ⟨hin, r5, ((s12.trans a2).trans s4).trans s5⟩
      · refine hb _ H2 σ3 a1 fun σ4 H4 r4 s4 => ?_
        obtain ⟨r5, s5⟩ := r4.le hle
        exact ⟨hin, r5, ((s12.trans a2).trans s4).trans s5⟩
    · have ein : i = n := by omega
      subst ein
      obtain ⟨ws, S1, r, eo, hg, hb⟩ := he hlt d hd'
      subst eo
      obtain ⟨σ3, a1, a2, _, a4⟩ := hg H2 σ' x r2 q2
      refine a4 _ (hb _ H2 σ3 a1 ?_)
      exact FinR.up (s12.trans a2) k1
  · have ein : i = ds.length := by omega
    have enn : n = ds.length := by omega
    subst ein
    have eo := hd enn
    subst eo
    rw [enn] at k1
    exact .inl ⟨wk.st H' sH, k1 σ' H' r' s'⟩
/-- every turn goes on -/
theorem x_for {wi : TI} {g : TG} {tb : TS} (I : Nat → DSt) (hw : Di wi S ds) (h0 : Le S (I 0))
    (hs : ∀ (i : Nat) d, ds[i]? = some d → ∃ ws S1 S2, Dg ws g d (I i) S1 ∧ (DX E tb S1 (.nx S2) ∨ DX E tb S1 (.ct S2)) ∧ Le S2 (I (i + 1))) : DX E (tFor wi g tb) S (.nx (I ds.length)) :=
  x_forGen hw ds.length (Nat.le_refl _) I h0 (fun i d _ h => hs i d h) (fun z => absurd z (Nat.lt_irrefl _)) fun _ => rfl
/-- turn n ends the loop -/
theorem x_forX {wi : TI} {g : TG} {tb : TS} (I : Nat → DSt) (n : Nat) (hw : Di wi S ds) (hn : n < ds.length) (h0 : Le S (I 0))
    (hs : ∀ (i : Nat) d, i < n → ds[i]? = some d → ∃ ws S1 S2, Dg ws g d (I i) S1 ∧ (DX E tb S1 (.nx S2) ∨ DX E tb S1 (.ct S2)) ∧ Le S2 (I (i + 1)))
    (he : ∀ d, ds[n]? = some d → ∃ ws S1, Dg ws g d (I n) S1 ∧ DX E tb S1 (.rt r)) : DX E (tFor wi g tb) S (.rt r) :=
  x_forGen hw n (Nat.le_of_lt hn) I h0 hs (fun _ d h => let ⟨ws, S1, h1, h2⟩ := he d h; ⟨ws, S1, r, rfl, h1, h2⟩) fun z => absurd (z ▸ hn) (Nat.lt_irrefl _)
/-- while -/
theorem x_while {tb : TS} (I : Nat → DSt) (n : Nat) (h0 : Le S (I 0)) (ht : ∀ i, i < n → Et tt (I i) true) (hb : ∀ i, i < n → ∃ S2, DX E tb (I i) (.nx S2) ∧ Le S2 (I (i + 1))) (he : Et tt (I n) false) : DX E (tWhile tt tb) S (.nx (I n)) := fun D H σ rl k => by
  obtain ⟨r0, s0⟩ := rl.le h0
  refine ⟨fun m σ' H' => ∃ i, m = n - i ∧ i ≤ n ∧ Rl H' σ' (I i) ∧ Same (Gm σ S H) (Gm σ' (I i) H'), ⟨n, 0, by omega, Nat.zero_le _, r0, s0⟩, ?_⟩
  rintro m σ' H' ⟨i, rfl, hi, r', s'⟩
  by_cases hin : i < n
  · refine ht i hin H' σ' r' _ fun H2 e2 => ?_
    rw [if_pos rfl]
    obtain ⟨S2, h1, h2⟩ := hb i hin
    refine ⟨_, fun σ3 H3 q => q, h1 _ H2 σ' (r'.mono e2) fun σ4 H4 r4 s4 => ?_⟩
    obtain ⟨r5, s5⟩ := r4.le h2
    exact ⟨n - (i + 1), by omega, i + 1, rfl, hin, r5, ((s'.trans (Gm_mono e2)).trans s4).trans s5⟩
  · have e : i = n := by omega
    subst e
    refine he H' σ' r' _ fun H2 e2 => ?_
    rw [if_neg Bool.false_ne_true]
    exact k σ' H2 (r'.mono e2) (s'.trans (Gm_mono e2))
end
end DL

namespace DL
open PySem L2
variable [KK]
/-! ### comprehensions -/
def wipeS (S : DSt) : List Nat → DSt
  | [] => S
  | v :: vs => (wipeS S vs).set v .no
section
variable {E : XK} {S S1 S2 : DSt} {t u : TS} {o : Ou} {te ta tb : TE} {tt : TT} {d : PyData} {ds es : List PyData} {K : PySem.W.Frag} {r : Ro}
theorem Rl.wipe1 {H : Hp} {σ : St} {S : DSt} (rl : Rl H σ S) (i : Nat) : Rl H (σ.set i none) (S.set i .no) ∧ Same (Gm σ S H) (Gm (σ.set i none) (S.set i .no) H) := by
  have own : ∀ l, Own (σ.set i none) (S.set i .no) l → Own σ S l := fun l ⟨j, ds, h1, h2⟩ => by
    rcases set_get h1 with ⟨_, e, _⟩ | ⟨ne, h1⟩
    · cases e
    · rcases set_get h2 with ⟨e, _⟩ | ⟨_, h2⟩
      · exact absurd e ne
      · exact ⟨j, ds, h1, h2⟩
  have sm : Same (Gm σ S H) (Gm (σ.set i none) (S.set i .no) H) := Gm_le_of own
  refine ⟨⟨by rw [List.length_set, List.length_set]; exact rl.len, fun j d' h' => ?_, fun j ds h' => ?_, fun j k ds es l h1 h2 h3 h4 => ?_⟩, sm⟩
  · rcases set_get h' with ⟨_, e2, _⟩ | ⟨ne, h'⟩
    · cases e2
    · obtain ⟨w, h1, h2⟩ := rl.va j d' h'
      exact ⟨w, by rw [List.getElem?_set_ne (Ne.symm ne)]; exact h1, Da.mono sm _ _ h2⟩
  · rcases set_get h' with ⟨_, e2, _⟩ | ⟨ne, h'⟩
    · cases e2
    · obtain ⟨l, xs, h1, h2, h3, h4⟩ := rl.ow j ds h'
      exact ⟨l, xs, by rw [List.getElem?_set_ne (Ne.symm ne)]; exact h1, h2, DaL.mono sm _ _ h3, h4⟩
  · rcases set_get h1 with ⟨_, e, _⟩ | ⟨n1, g1⟩
    · cases e
    rcases set_get h2 with ⟨_, e, _⟩ | ⟨n2, g2⟩
    · cases e
    rw [List.getElem?_set_ne (Ne.symm n1)] at h3
    rw [List.getElem?_set_ne (Ne.symm n2)] at h4
    exact rl.sep j k ds es l g1 g2 h3 h4
theorem Rl.wipe {H : Hp} {σ : St} {S : DSt} (rl : Rl H σ S) : ∀ vs : List Nat, Rl H (L2.wipe σ vs) (wipeS S vs) ∧ Same (Gm σ S H) (Gm (L2.wipe σ vs) (wipeS S vs) H)
  | [] => ⟨rl, Same.refl _⟩
  | v :: vs => by
    obtain ⟨h1, h2⟩ := Rl.wipe rl vs
    obtain ⟨h3, h4⟩ := h1.wipe1 v
    exact ⟨h3, h2.trans h4⟩
theorem wipe_in {σ : St} {j : Nat} : ∀ {vs : List Nat}, j ∈ vs → j < σ.length → (L2.wipe σ vs)[j]? = some none
  | [], h, _ => absurd h (by simp)
  | v :: vs, h, hj => by
    unfold L2.wipe
    by_cases e : v = j
    · subst e
      exact List.getElem?_set_self (by rw [L2.wipe_length]; exact hj)
    · rw [List.getElem?_set_ne e]
      exact wipe_in ((List.mem_cons.mp h).resolve_left fun z => e z.symm) hj
theorem wipe_eq {σ τ : St} {vs ws : List Nat} (hl : τ.length = σ.length) (h : ∀ j, j ∉ ws → τ[j]? = (L2.wipe σ vs)[j]?) (hw : ∀ j ∈ ws, j ∈ vs) : L2.wipe τ vs = L2.wipe σ vs := by
  refine List.ext_getElem? fun j => ?_
  by_cases hj : j ∈ vs
  · by_cases hlt : j < σ.length
    · rw [wipe_in hj hlt, wipe_in hj (by rw [hl]; exact hlt)]
    · rw [List.getElem?_eq_none (by rw [L2.wipe_length]; omega), List.getElem?_eq_none (by rw [L2.wipe_length]; omega)]
  · rw [wipe_out hj]
    exact h j fun z => hj (hw j z)
theorem filterMap_take {α : Type} (p : α → Bool) (h : α → PyData) {xs : List α} {i : Nat} {x : α} (hx : xs[i]? = some x) : ((xs.take (i + 1)).filter p).map h = ((xs.take i).filter p).map h ++ (if p x = true then [h x] else []) := by
  have e : xs.take (i + 1) = xs.take i ++ [x] := by
    rw [List.take_succ, hx]
    rfl
  rw [e, List.filter_append, List.map_append]
  by_cases q : p x = true
  · rw [if_pos q, List.filter_cons_of_pos q]
    rfl
  · rw [if_neg q, List.filter_cons_of_neg q]
    rfl
/-- [te for g in wi if tt]: of the items f x, x in xs, those with p x, each h x -/
theorem n_lc {α : Type} {wi : TI} {g : TG} {vs : List Nat} (xs : List α) (f : α → PyData) (p : α → Bool) (h : α → PyData) (hw : Di wi S (xs.map f)) (hz : xs.length ≤ 100000)
    (hs : ∀ x, x ∈ xs → ∃ ws S1, (∀ j ∈ ws, j ∈ vs) ∧ Dg ws g (f x) (wipeS S vs) S1 ∧ Et tt S1 (p x) ∧ (p x = true → Eb te S1 (h x) ∧ imm (h x) = true)) :
    En (tLc wi g tt te vs) S ((xs.filter p).map h) := fun H σ rl Q k => by
  refine hw H σ rl _ fun J H1 e1 wk D hD => ?_
  have rl1 := rl.mono e1
  obtain ⟨rw1, sw1⟩ := rl1.wipe vs
  refine ⟨fun i m H' => m = xs.length - i ∧ i ≤ xs.length ∧ Same H1 H' ∧ ∃ acc, H' D = some (.lst acc) ∧ DaL H' (((xs.take i).filter p).map h) acc ∧ immL (((xs.take i).filter p).map h) = true, ⟨xs.length, by omega, Nat.zero_le _, same_new hD, [], upd_same, ?_, ?_⟩, ?_⟩
  · rw [List.take_zero]
    rfl
  · rw [List.take_zero]
    rfl
  rintro i m H' ⟨rfl, hi, s1, acc, hacc, hda, him⟩
  have sB : Same (Gm σ S H1) H' := Gm_le.trans s1
  by_cases hlt : i < xs.length
  · have hx : xs[i]? = some xs[i] := List.getElem?_eq_getElem hlt
    generalize xs[i] = x at hx
    have hmem : x ∈ xs := List.mem_of_getElem? hx
    refine .inr ⟨wk.go i H' (by simpa using hlt) sB, fun H2 => i + 1 ≤ xs.length ∧ Same H1 H2 ∧ ∃ acc, H2 D = some (.lst acc) ∧ DaL H2 (((xs.take (i + 1)).filter p).map h) acc ∧ immL (((xs.take (i + 1)).filter p).map h) = true, fun H2 ⟨a1, a2, a3⟩ => ⟨xs.length - (i + 1), by omega, rfl, a1, a2, a3⟩, fun v H2 y => ?_⟩
    obtain ⟨s2, d, hd', q⟩ := wk.yl i H' v H2 (by simpa using hlt) sB y
    have ed : d = f x := by
      rw [List.getElem?_map, hx] at hd'
      exact (Option.some.inj hd').symm
    subst ed
    obtain ⟨ws, S1, hws, hg, ht, he⟩ := hs x hmem
    have r' := rw1.mono s1
    have r2 := r'.mono s2
    have gl := gro_le r' (sw1.trans (Gm_mono s1)) s2
    obtain ⟨σ3, a1, a2, a3, a4⟩ := hg H2 (L2.wipe σ vs) v r2 (Da.mono gl _ _ q)
    refine a4 _ ⟨?_, ht H2 σ3 a1 _ fun H3 e3 => ?_⟩
    · have hl3 : σ3.length = σ.length := by
        rw [a3.1, L2.wipe_length]
      exact wipe_eq hl3 a3.2 hws
    · have s23 := s2.trans e3
      by_cases hp : p x = true
      · rw [if_pos hp]
        obtain ⟨he1, he2⟩ := he hp
        refine he1 H3 σ3 (a1.mono e3) _ fun w H4 e4 q4 => ?_
        have s24 := s23.trans e4
        have hacc4 : H4 D = some (.lst acc) := s24 D _ hacc
        refine ⟨acc, hacc4, ?_, hlt, fun b ob hb => ?_, acc ++ [w], upd_same, ?_, ?_⟩
        · rw [hda.length, List.length_map]
          have z1 := List.length_filter_le p (xs.take i)
          rw [List.length_take] at z1
          exact Nat.lt_of_lt_of_le (by omega : _ < 100000) (by decide : 100000 ≤ sizeLine)
        · rw [upd_ne (ne_of_none hb hD)]
          exact s24 b ob (s1 b ob hb)
        · rw [filterMap_take p h hx, if_pos hp]
          have tp : Tups H4 (upd H4 D (.lst (acc ++ [w]))) := fun a ys z => by
            rw [upd_ne]
            · exact z
            · intro e
              rw [e, hacc4] at z
              cases z
          have im2 : immL [h x] = true := by
            show (imm (h x) && immL []) = true
            rw [he2]
            rfl
          exact DaL.tups tp _ _ (immL_append him im2) ((DaL.mono s24 _ _ hda).append (.one q4))
        · rw [filterMap_take p h hx, if_pos hp]
          refine immL_append him ?_
          show (imm (h x) && immL []) = true
          rw [he2]
          rfl
      · have hp' : p x = false := by
          cases e : p x with
          | true => exact absurd e hp
          | false => rfl
        rw [hp', if_neg Bool.false_ne_true]
        refine ⟨hlt, s1.trans s23, acc, s23 D _ hacc, ?_, ?_⟩
        · rw [filterMap_take p h hx, if_neg hp, List.append_nil]
          exact DaL.mono s23 _ _ hda
        · rw [filterMap_take p h hx, if_neg hp, List.append_nil]
          exact him
  · have e : i = xs.length := by omega
    subst e
    rw [List.take_length] at hda him
    have st := wk.st H' sB
    rw [List.length_map] at st
    exact .inl ⟨st, k D H' (e1.trans s1) (e1.free hD) ⟨D, acc, rfl, hacc, hda⟩⟩

theorem t_yes : Et tYes S true := fun H σ rl Q q => q H (Same.refl H)

/-! ### calls -/
/-- the promise of a def of the program: on the data ds it gives r -/
def SpR (R : List PyData → Ro → Prop) : Sp := fun vs H Q E => ∃ ds r, DaL H ds vs ∧ R ds r ∧ FinR E Q H r
theorem e_call {R : List PyData → Ro → Prop} {ta : TA} (h : Ea ta S ds) (hR : R ds (.va d)) : Eb (tCall (SpR R) [] E ta) S d := fun H σ rl Q q => h H σ rl _ fun vs H1 e1 q1 =>
  ⟨ds, .va d, by rw [List.append_nil]; exact q1, hR, fun v H' e2 q2 => q v H' (e1.trans e2) q2⟩
theorem n_call {R : List PyData → Ro → Prop} {ta : TA} (h : Ea ta S ds) (hR : R ds (.nw es)) : En (tCall (SpR R) [] E ta) S es := fun H σ rl Q q => h H σ rl _ fun vs H1 e1 q1 =>
  ⟨ds, .nw es, by rw [List.append_nil]; exact q1, hR, fun l H' e2 hl q2 => q l H' (e1.trans e2) (e1.free hl) q2⟩

/-! ### a def's body -/
theorem start_rl : ∀ {ds : List PyData} {vs : List V} {H : Hp} (n : Nat), DaL H ds vs → Rl H (vs.map some ++ List.replicate n none) (ds.map Sl.va ++ List.replicate n Sl.no) := fun {ds vs H} n h => by
  have noo : ∀ (i : Nat) es, (ds.map Sl.va ++ List.replicate n Sl.no)[i]? ≠ some (.ow es) := fun i es e => by
    have hm := List.mem_of_getElem? e
    rcases List.mem_append.mp hm with z | z
    · obtain ⟨x, _, q⟩ := List.mem_map.mp z
      cases q
    · have := (List.mem_replicate.mp z).2
      cases this
  refine ⟨by simp [h.length], fun i d e => ?_, fun i es e => absurd e (noo i es), fun i j es fs l e => absurd e (noo i es)⟩
  have hi : i < ds.length := by
    by_cases hi : i < ds.length
    · exact hi
    · rw [List.getElem?_append_right (by simpa using hi)] at e
      rw [List.getElem?_replicate] at e
      split at e <;> cases e
  rw [List.getElem?_append_left (by simpa using hi), List.getElem?_map] at e
  have e' : ds[i]? = some d := by
    cases q : ds[i]? with
    | none => rw [q] at e; cases e
    | some x => rw [q] at e; cases e; rfl
  obtain ⟨v, h1, h2⟩ := h.get e'
  refine ⟨v, ?_, ?_⟩
  · rw [List.getElem?_append_left (by rw [List.length_map, h.length]; exact hi), List.getElem?_map, h1]
    rfl
  · refine Da.mono (fun b o q => Gm_of (fun ⟨j, fs, w, _⟩ => noo j fs w) q) _ _ h2
theorem run_of {R : List PyData → Ro → Prop} {N : List Str} {t : TS} {vs : List V} {H : Hp} {Q : VK} (h : SpR R vs H Q E)
    (hb : ∀ ds r, R ds r → DX E t (ds.map Sl.va ++ List.replicate (N.length - ds.length) Sl.no) (.rt r)) : t { nx := fun _ H' => Q .non H', rt := Q } (L2.start N vs) H := by
  obtain ⟨ds, r, h1, h2, h3⟩ := h
  have rl := start_rl (N.length - ds.length) h1
  have hb' := hb ds r h2
  have e : L2.start N vs = vs.map some ++ List.replicate (N.length - ds.length) none := by
    unfold L2.start
    rw [h1.length]
  rw [e]
  refine hb' _ H _ rl ?_
  have g : Gm (vs.map some ++ List.replicate (N.length - ds.length) none) (ds.map Sl.va ++ List.replicate (N.length - ds.length) Sl.no) H = H := Gm_free (by
    have : ∀ (l : List PyData) (n : Nat), noOw (l.map Sl.va ++ List.replicate n Sl.no) = true := fun l n => by
      induction l with
      | nil =>
        induction n with
        | zero => rfl
        | succ n ih => exact ih
      | cons a l ih => exact ih
    exact this ds _)
  rw [g]
  show FinR E Q H r
  exact h3
theorem SpR.len {R : List PyData → Ro → Prop} {n : Nat} (h : ∀ ds r, R ds r → ds.length = n) : ∀ vs H Q E, SpR R vs H Q E → vs.length = n := fun vs H Q E ⟨ds, r, h1, h2, _⟩ => by
  rw [h1.length]
  exact h ds r h2
end
end DL

namespace DL
open PySem L2
/-- a promise by its arguments' data: of x with pre x the def gives res x -/
def Rf {α : Type} (args : α → List PyData) (pre : α → Prop) (res : α → Ro) : List PyData → Ro → Prop := fun ds r => ∃ x, pre x ∧ ds = args x ∧ r = res x
/-- a def that is called by its name -/
structure Cal (P : Program) (w : World) (K : PySem.W.Frag) (mg : Str → Option Value) (base : Heap) (k : Nat) (x : Str) (ps : List Str) (R : List PyData → Ro → Prop) : Prop where
  ex : ∃ f fd, FnOk P w K mg base CX0 k f fd ps (@SpR ⟨K⟩ R) ∧ mg x = some (.ref f) ∧ PySem.W.keepIn K (.ref f) = true ∧ Binds K fd ps []
/-! the rules with the written part by name -/
section
variable {X : Cx} {k : Nat} {x : Str} {ps : List Str} {R : List PyData → Ro → Prop} {a b o e e1 e2 : Expr} {es : List Expr} {t : TA} {ta tb to te t1 t2 : TE} {tl th : TO} {lo hi : Option Expr} {tg : Expr} {p p2 pos tpos : Pos} {kk : Nat}
variable (K : PySem.W.Frag)
theorem Cal.pe {K : PySem.W.Frag} (C : Cal X.prog X.w K X.mg X.base k x ps R) (hr : Room k X.A) (hg : Gl X x) (ha : PA X (e :: es) t) (hK : X.K = K := by rfl) (hdb : (x == ("__debug__" : Str)) = false := by decide) (he : starEach (e :: es) X.env = (false, eval e X.env) :: starEach es X.env := by rfl) (hpl : (backTo pos (starEach es X.env)).any (·.1) = false := by rfl) :
    PE X (.Call (.Name x p) (e :: es) [] pos) (tCall (@SpR ⟨K⟩ R) [] E0 t) := by
  subst hK
  obtain ⟨f, fd, F, hm, hk, hb⟩ := C.ex
  exact pe_call F hr hg hm hk hb .nil pass0 ha hdb he hpl
theorem Cal.pe0 {K : PySem.W.Frag} (C : Cal X.prog X.w K X.mg X.base k x ps R) (hr : Room k X.A) (hg : Gl X x) (hK : X.K = K := by rfl) (hdb : (x == ("__debug__" : Str)) = false := by decide) :
    PE X (.Call (.Name x p) [] [] pos) (tCall (@SpR ⟨K⟩ R) [] E0 tNil) := by
  subst hK
  obtain ⟨f, fd, F, hm, hk, hb⟩ := C.ex
  exact pe_call0 F hr hg hm hk hb .nil pass0 hdb
theorem j_ix (ha : PE X a ta) (hb : PE X b tb) (hK : X.K = K := by rfl) (hs : PlainIx b := by intro _ _; rfl) : PE X (.Subscript a b pos) (tOp (rIx K) ta tb) := by
  subst hK
  exact pe_ix ix_seq ha hb hs
theorem j_sl (he : PE X e te) (hl : PO X lo tl) (hu : PO X hi th) (hK : X.K = K := by rfl) : PE X (.Subscript e (.Slice lo hi none p2) pos) (tSl (rSl K) te tl th) := by
  subst hK
  exact pe_slice sl_any he hl hu
theorem j_rev {p1 p3 : Pos} (he : PE X e te) (hK : X.K = K := by rfl) : PE X (.Subscript e (.Slice none none (some (.UnaryOp .USub (.Constant (.int 1) kk p1) p2)) p3) pos) (tRevL K te) := by
  subst hK
  exact pe_revL he
theorem j_eq (hu : X.A.units + 64 < cLine) (hK : X.K = K := by rfl) : OpR X (compareOp .Eq) (rEqD K) := by
  subst hK
  exact op_eqD hu
theorem j_ne (hu : X.A.units + 64 < cLine) (hK : X.K = K := by rfl) : OpR X (compareOp .NotEq) (rNeD K) := by
  subst hK
  exact op_neD hu
theorem j_isi (hK : X.K = K := by rfl) : CallR X (.builtin "isinstance") (rIsi K) := by
  subst hK
  exact call_isi
theorem j_len (hK : X.K = K := by rfl) : CallR X (.builtin "len") (rLen K) := by
  subst hK
  exact cr_len
theorem j_list (hK : X.K = K := by rfl) : CallR X (.type "list") (rList K) := by
  subst hK
  exact cr_list
theorem j_tuple (hK : X.K = K := by rfl) : CallR X (.type "tuple") (rTuple K) := by
  subst hK
  exact cr_tuple
theorem j_sum (hc : X.calm = true) (hK : X.K = K := by rfl) : CallR X (.builtin "sum") (rSum K) := by
  subst hK
  exact cr_sum hc
theorem j_max (hc : X.calm = true) (hK : X.K = K := by rfl) : CallR X (.builtin "max") (rMax K) := by
  subst hK
  exact cr_max hc
def rSortedJ (K : PySem.W.Frag) : List V → Hp → VK → Prop := fun vs H Q => rSorted K vs H Q ∨ rSortedPO K vs H Q
theorem j_sorted (hK : X.K = K := by rfl) : CallR X (.builtin "sorted") (rSortedJ K) := by
  subst hK
  exact cr_sorted.or cr_sortedPO
theorem j_tru (ha : PE X a ta) (hK : X.K = K := by rfl) (he : ∀ whole, isTrue a X.env whole = (do let v ← whole; standAt a.pos; holding [v] (truthy v)) := by intro _; rfl) : PT X a (tTru K ta) := by
  subst hK
  exact pt_tru ha he
theorem j_iList (hl : PE X e te) (hK : X.K = K := by rfl) : PI X tg e (iList K te) := by
  subst hK
  exact pi_list hl
theorem j_iTup (hl : PE X e te) (hK : X.K = K := by rfl) : PI X tg e (iTup K te) := by
  subst hK
  exact pi_tup hl
theorem j_enum (hg : Gl X "enumerate") (hm : X.mg "enumerate" = none) (ha : PA X [e] t) (hK : X.K = K := by rfl) (hs : starEach [e] X.env = [(false, eval e X.env)] := by rfl) : PI X (.Tuple es kk tpos) (.Call (.Name "enumerate" p) [e] [] pos) (iEnum K t) := by
  subst hK
  exact pi_enum hg hm ha hs
theorem j_zip (hg : Gl X "zip") (hm : X.mg "zip" = none) (ha : PA X [e, e2] t) (hK : X.K = K := by rfl) (hs : starEach [e, e2] X.env = (false, eval e X.env) :: starEach [e2] X.env := by rfl) (hpl : (backTo pos (starEach [e2] X.env)).any (·.1) = false := by rfl) :
    PI X (.Tuple es kk tpos) (.Call (.Name "zip" p) [e, e2] [] pos) (iZip K t) := by
  subst hK
  exact pi_zip hg hm ha hs hpl
theorem j_tup {tt : TGs} {n : Nat} (hc : X.calm = true) (h : PGs X es tt) (hK : X.K = K := by rfl) (hn : (assignEach es X.env).length = n := by rfl) (hst : (assignEach es X.env).findIdx? (·.1) = none := by rfl) : PG X (.Tuple es kk pos) (gTup K n tt) := by
  subst hK
  exact pg_tup hc h hn hst
theorem j_app {apos : Pos} (ho : PE X o to) (ha : PE X e te) (hK : X.K = K := by rfl) (hbase : attributeBase o "append" X.env (eval o X.env) = eval o X.env := by rfl)
    (hfew : ((backTo pos (starEach (e :: []) X.env)).all (fun x => !x.1) && (backToKw pos (keywordEach [] X.env)).all (fun x => x.1.isSome)
      && decide ((e :: []).length + ([] : List Keyword).length + (if ([] : List Keyword).isEmpty then 0 else 1) < 30)) = true := by rfl)
    (hline : (apos.endLine == pos.line) = true := by rfl) (hs : starEach (e :: []) X.env = (false, eval e X.env) :: starEach [] X.env := by rfl) (hplain : (backTo pos (starEach [] X.env)).any (·.1) = false := by rfl) :
    PE X (.Call (.Attribute o "append" apos) [e] [] pos) (tBM K "list" rAppend to (tCons te tNil)) := by
  subst hK
  exact pe_bm PySem.F.plainAttrs_list PySem.F.slot_list_append PySem.F.type_list_append mt_append ho (pa_cons ha pa_nil hs) hbase hfew hline hs hplain
end
/-! max(xs, default=d) of ints -/
def mxD : List Int → Int → Int
  | [], d => d
  | n :: ns, _ => ns.foldl max n
def rMaxD (K : PySem.W.Frag) : List V → List V → Hp → VK → Prop := fun vs zs H Q => ∃ (a : Addr) (ns : List Int) (d : Int), vs = [.ref a] ∧ zs = [.int d] ∧ SqL K H a (ns.map V.int) ∧ Q (.int (mxD ns d)) H
theorem reads_ints {h : Heap} : ∀ {ns : List Int} {us : List Value}, Vals (ns.map V.int) us → ∃ as, ReadsAll h us (ns.map PyData.int) as
  | [], _, .nil => ⟨_, .nil⟩
  | n :: ns, _, .cons ⟨t, e⟩ r => by
    obtain ⟨as, q⟩ := reads_ints (ns := ns) r
    subst e
    exact ⟨_, .cons (.int n t) q⟩
theorem depth_ints : ∀ ns : List Int, PyData.depthAll (ns.map PyData.int) = 0
  | [] => by simp [PyData.depthAll]
  | n :: ns => by simp [PyData.depthAll, PyData.depth, depth_ints ns]
theorem cr_maxD {X : Cx} (K : PySem.W.Frag) (hc : X.calm = true) (hu : X.A.units + 64 < cLine) (hK : X.K = K := by rfl) : CallRK X (.builtin "max") [Str.ofString "default"] (rMaxD K) := by
  subst hK
  intro pins s σ H vs zs us ws Q I r rz h
  obtain ⟨a, ns, d, rfl, rfl, hs, q⟩ := h
  obtain rfl := Vals.ref1 r
  obtain ⟨w1, rfl, t, e1⟩ := vals1 rz
  subst e1
  obtain ⟨its, rv, hl, _⟩ := I.list hs
  obtain ⟨as, hr⟩ := reads_ints (h := s.heap) rv
  have al : PySem.W.AlikeAll (ns.map PyData.int) := ⟨fun x hx y hy => by
    obtain ⟨i, _, rfl⟩ := List.mem_map.mp hx
    obtain ⟨j, _, rfl⟩ := List.mem_map.mp hy
    rfl, fun x hx => by
    obtain ⟨i, _, rfl⟩ := List.mem_map.mp hx
    exact fun z => nomatch z⟩
  refine PySem.W.max_list_default (I.ok.hd hc) hl.isList hr al (by rw [depth_ints]; omega) (fun hn h' tk hk => ?_) fun y ys i v h' tk bs hxs hv hrd hk => ?_
  · have e : ns = [] := by simpa using hn
    subst e
    exact ⟨.int d, H, I.kept hk, ⟨t, rfl⟩, q⟩
  · cases ns with
    | nil => cases hxs
    | cons n ns =>
      cases hxs
      rw [PySem.W.maxD_ints] at hrd
      cases hrd
      exact ⟨.int _, H, I.kept hk, ⟨_, rfl⟩, q⟩
theorem pe_maxD {X : Cx} {e d : Expr} {te td : TE} {p pos kpos : Pos} (K : PySem.W.Frag) (hc : X.calm = true) (hu : X.A.units + 64 < cLine) (hg : Gl X "max") (hm : X.mg "max" = none) (he : PE X e te) (hd : PE X d td) (hK : X.K = K := by rfl)
    (hs1 : starEach (e :: []) X.env = (false, eval e X.env) :: starEach [] X.env := by rfl)
    (hs2 : backTo pos (starEach (e :: []) X.env) = (false, eval e X.env) :: backTo pos (starEach [] X.env) := by rfl) (hpl : (backTo pos (starEach (e :: []) X.env)).any (·.1) = false := by rfl)
    (hall : (backToKw pos (keywordEach [⟨some "default", d, kpos⟩] X.env)).all (·.1.isSome) = true := by rfl) (hnone : (backToKw pos (keywordEach [⟨some "default", d, kpos⟩] X.env)).any (·.1.isNone) = false := by rfl) (hks : (backToKw pos (keywordEach [⟨some "default", d, kpos⟩] X.env)).filterMap (·.1) = [Str.ofString "default"] := by rfl) :
    PE X (.Call (.Name "max" p) [e] [⟨some "default", d, kpos⟩] pos) (tCKw (rMaxD K) (tCons te tNil) (tCons td tNil)) :=
  pe_callBK (cr_maxD K hc hu hK) hg hm (by decide +kernel) (pa_cons he pa_nil hs1) (pk_cons hd pk_nil) (by decide) (by decide) hs2 hpl hall hnone hks
/-! in, not in -/
theorem hu65 {k : Nat} {A : Around} (hr : Room k A) : A.units + 65 < cLine := by
  have := hr.un
  omega
def rInS (neg : Bool) : R2 := fun x y H Q => ∃ i j, x = .str i ∧ y = .str j ∧ Q (.bl (if neg then !(!(Builtin.Str.occurrences j i 0 j.length 1).isEmpty) else !(Builtin.Str.occurrences j i 0 j.length 1).isEmpty)) H
theorem op_inS0 {X : Cx} : OpR X (compareOp .In) (rInS false) := op_in_str
theorem op_inS1 {X : Cx} : OpR X (compareOp .NotIn) (rInS true) := op_notin_str
def rInJ (K : PySem.W.Frag) : R2 := fun x y H Q => rIn K false x y H Q ∨ (rInS false x y H Q ∨ rInD K x y H Q)
def rNotInJ (K : PySem.W.Frag) : R2 := fun x y H Q => rIn K true x y H Q ∨ (rInS true x y H Q ∨ rNotInD K x y H Q)
theorem j_in {X : Cx} (K : PySem.W.Frag) (hu : X.A.units + 65 < cLine) (hK : X.K = K := by rfl) : OpR X (compareOp .In) (rInJ K) := by
  subst hK
  exact op_in_seq.or (op_inS0.or (op_inD hu))
theorem j_notIn {X : Cx} (K : PySem.W.Frag) (hu : X.A.units + 65 < cLine) (hK : X.K = K := by rfl) : OpR X (compareOp .NotIn) (rNotInJ K) := by
  subst hK
  exact op_notIn_seq.or (op_inS1.or (op_notInD hu))
theorem flat_ints : ∀ ns : List Int, (ns.map V.int).all flatV = true
  | [] => rfl
  | n :: ns => by
    rw [List.map_cons, List.all_cons, flat_ints ns]
    rfl
theorem inV_ints (i : Int) : ∀ ns : List Int, inV (.int i) (ns.map V.int) = decide (i ∈ ns)
  | [] => by simp [inV]
  | n :: ns => by
    have ih := inV_ints i ns
    unfold inV at ih ⊢
    rw [List.map_cons, List.any_cons, ih]
    by_cases e : n = i
    · subst e
      simp [eqV]
    · have e' : (eqV (V.int n) (V.int i)) = false := by simp [eqV, e]
      rw [e']
      simp [Ne.symm e]
theorem cal_of {P : Program} {w : World} {K : PySem.W.Frag} {mg : Str → Option Value} {base : Heap} {k : Nat} {x : Str} {ps : List Str} {R : List PyData → Ro → Prop} {f : Addr} {fd : FuncData}
    (F : FnOk P w K mg base CX0 k f fd ps (@SpR ⟨K⟩ R)) (hm : mg x = some (.ref f)) (hk : PySem.W.keepIn K (.ref f) = true) (hb : Binds K fd ps []) : Cal P w K mg base k x ps R := ⟨f, fd, F, hm, hk, hb⟩
section
variable [KK] {E : XK} {S : DSt} {α : Type} {args : α → List PyData} {pre : α → Prop} {res : α → Ro} {d : PyData} {ds es : List PyData} {ta : TA}
theorem e_callR (x : α) (h : Ea ta S ds) (hx : ds = args x) (hp : pre x) (hr : res x = .va d) : Eb (tCall (SpR (Rf args pre res)) [] E ta) S d := e_call h ⟨x, hp, hx, hr.symm⟩
theorem n_callR (x : α) (h : Ea ta S ds) (hx : ds = args x) (hp : pre x) (hr : res x = .nw es) : En (tCall (SpR (Rf args pre res)) [] E ta) S es := n_call h ⟨x, hp, hx, hr.symm⟩
theorem len_of {n : Nat} (h : ∀ x, (args x).length = n) : ∀ vs H Q E, SpR (Rf args pre res) vs H Q E → vs.length = n := SpR.len fun ds r ⟨x, _, e, _⟩ => by
  rw [e]
  exact h x
theorem run_def {N : List Str} {t : TS} {vs : List V} {H : Hp} {Q : VK} (h : SpR (Rf args pre res) vs H Q E)
    (hb : ∀ x, pre x → DX E t ((args x).map Sl.va ++ List.replicate (N.length - (args x).length) Sl.no) (.rt (res x))) : t { nx := fun _ H' => Q .non H', rt := Q } (L2.start N vs) H :=
  run_of h fun ds r ⟨x, hp, e1, e2⟩ => by
    rw [e1, e2]
    exact hb x hp
/-! slices put together -/
omit [KK] in
theorem cutD_take {ds : List PyData} {i : Int} (h : 0 ≤ i) : cutD ds none (some i) = ds.take i.toNat := by
  obtain ⟨n, rfl⟩ := Int.eq_ofNat_of_zero_le h
  unfold cutD
  rw [HT.sIx_none, HT.sIx_nat]
  show (ds.drop 0).take (min n ds.length - 0) = ds.take n
  rw [List.drop_zero, Nat.sub_zero]
  by_cases q : n ≤ ds.length
  · rw [Nat.min_eq_left q]
  · rw [Nat.min_eq_right (by omega), List.take_length, List.take_of_length_le (by omega)]
omit [KK] in
theorem cutD_drop {ds : List PyData} {i : Int} (h : 0 ≤ i) : cutD ds (some i) none = ds.drop i.toNat := by
  obtain ⟨n, rfl⟩ := Int.eq_ofNat_of_zero_le h
  unfold cutD
  rw [HT.sIx_none, HT.sIx_nat]
  show (ds.drop (min n ds.length)).take (ds.length - min n ds.length) = ds.drop n
  by_cases q : n ≤ ds.length
  · rw [Nat.min_eq_left q, List.take_of_length_le (by rw [List.length_drop]; omega)]
  · rw [Nat.min_eq_right (by omega), Nat.sub_self, List.take_zero, List.drop_of_length_le (by omega)]
omit [KK] in
theorem cutD_init (ds : List PyData) : cutD ds none (some (-1)) = ds.dropLast := by
  unfold cutD
  rw [HT.sIx_none]
  have e : HT.sIx ds.length ds.length (some (-1)) = ds.length - 1 := by
    show (if (-1 : Int) < 0 then ((-1 : Int) + (ds.length : Int)).toNat else min (-1 : Int).toNat ds.length) = _
    rw [if_pos (by decide)]
    omega
  rw [e, List.drop_zero, Nat.sub_zero, List.dropLast_eq_take]
section
variable {K : PySem.W.Frag} {tj tj' tx tp tq : TE} {p q : Int}
/-- xs[:p] + [x] + xs[q:] -/
theorem n_splice (hj : Eb tj S (.list ds)) (hp : Eb tp S (.int p)) (hx : Eb tx S d) (hj' : Eb tj' S (.list ds)) (hq : Eb tq S (.int q)) (h0 : 0 ≤ p) (h1 : 0 ≤ q) (hz : ds.length ≤ 10000) :
    En (tOp rPlus (tOp rPlus (tSl (rSl K) tj tNoPart (tPart tp)) (tLst (tCons tx tNil))) (tSl (rSl K) tj' (tPart tq) tNoPart)) S (ds.take p.toNat ++ [d] ++ ds.drop q.toNat) := by
  have a1 := n_slL (K := K) hj o_no (o_some hp)
  have a2 := n_slL (K := K) hj' (o_some hq) o_no
  rw [cutD_take h0] at a1
  rw [cutD_drop h1] at a2
  have l1 : (ds.take p.toNat).length ≤ ds.length := by rw [List.length_take]; omega
  have l2 : (ds.drop q.toNat).length ≤ ds.length := by rw [List.length_drop]; omega
  refine e_cat (e_cat a1.b (n_lst (a_cons hx a_nil) (by simp)).b ?_).b a2.b ?_
  · rw [List.length_singleton]
    omega
  · rw [List.length_append, List.length_singleton]
    omega
/-- xs[:p] + xs[q:] -/
theorem n_cut (hj : Eb tj S (.list ds)) (hp : Eb tp S (.int p)) (hj' : Eb tj' S (.list ds)) (hq : Eb tq S (.int q)) (h0 : 0 ≤ p) (h1 : 0 ≤ q) (hz : ds.length ≤ 10000) :
    En (tOp rPlus (tSl (rSl K) tj tNoPart (tPart tp)) (tSl (rSl K) tj' (tPart tq) tNoPart)) S (ds.take p.toNat ++ ds.drop q.toNat) := by
  have a1 := n_slL (K := K) hj o_no (o_some hp)
  have a2 := n_slL (K := K) hj' (o_some hq) o_no
  rw [cutD_take h0] at a1
  rw [cutD_drop h1] at a2
  have l1 : (ds.take p.toNat).length ≤ ds.length := by rw [List.length_take]; omega
  have l2 : (ds.drop q.toNat).length ≤ ds.length := by rw [List.length_drop]; omega
  exact e_cat a1.b a2.b (by omega)
omit [KK] in
theorem set_splice {α : Type} : ∀ {l : List α} {n : Nat} {x : α}, n < l.length → l.take n ++ [x] ++ l.drop (n + 1) = l.set n x
  | [], n, _, h => by simp at h
  | a :: l, 0, x, _ => rfl
  | a :: l, n + 1, x, h => by
    show a :: (l.take n ++ [x] ++ l.drop (n + 1)) = a :: l.set n x
    rw [set_splice (by simpa using h)]
end
theorem e_maxD {K : PySem.W.Frag} {te td : TE} {ns : List Int} {m : Int} (h : Eb te S (.list (ns.map .int))) (hd : Eb td S (.int m)) : Eb (tCKw (rMaxD K) (tCons te tNil) (tCons td tNil)) S (.int (mxD ns m)) := fun H σ rl Q q =>
  h H σ rl _ fun v H1 e1 q1 => hd H1 σ (rl.mono e1) _ fun v2 H2 e2 q2 => by
    obtain ⟨a, xs, rfl, h2, h3⟩ := Da.mono e2 _ _ q1
    exact ⟨a, ns, m, rfl, by rw [show v2 = .int m from q2], by rw [← h3.ints]; exact SqL.of h2, q _ H2 (e1.trans e2) rfl⟩
/-! in a list, a tuple of ints -/
theorem e_inL {K : PySem.W.Frag} {ta tb : TE} {i : Int} {ns : List Int} (ha : Eb ta S (.int i)) (hb : Eb tb S (.list (ns.map .int))) : Eb (tOp (rInJ K) ta tb) S (.bool (decide (i ∈ ns))) :=
  e_op ha hb fun x y H Q h1 h2 q => by
    obtain ⟨a, xs, rfl, h2, h3⟩ := h2
    have e := h3.ints
    subst e
    rw [show x = .int i from h1]
    exact .inl ⟨a, _, rfl, .inl (SqL.of h2), rfl, flat_ints ns, q _ H (Same.refl H) (by rw [inV_ints]; rfl)⟩
theorem e_inT {K : PySem.W.Frag} {ta tb : TE} {i : Int} {ns : List Int} {es : List PyData} (ha : Eb ta S (.int i)) (hb : Eb tb S (.tuple es)) (he : es = ns.map .int) : Eb (tOp (rInJ K) ta tb) S (.bool (decide (i ∈ ns))) := by
  subst he
  exact e_op ha hb fun x y H Q h1 h2 q => by
    obtain ⟨a, xs, rfl, h2, h3⟩ := h2
    have e := h3.ints
    subst e
    rw [show x = .int i from h1]
    exact .inl ⟨a, _, rfl, .inr (SqT.of h2), rfl, flat_ints ns, q _ H (Same.refl H) (by rw [inV_ints]; rfl)⟩
theorem e_notInL {K : PySem.W.Frag} {ta tb : TE} {i : Int} {ns : List Int} (ha : Eb ta S (.int i)) (hb : Eb tb S (.list (ns.map .int))) : Eb (tOp (rNotInJ K) ta tb) S (.bool (!decide (i ∈ ns))) :=
  e_op ha hb fun x y H Q h1 h2 q => by
    obtain ⟨a, xs, rfl, h2, h3⟩ := h2
    have e := h3.ints
    subst e
    rw [show x = .int i from h1]
    exact .inl ⟨a, _, rfl, .inl (SqL.of h2), rfl, flat_ints ns, q _ H (Same.refl H) (by rw [inV_ints]; rfl)⟩
omit [KK] in
theorem flat_rep {α : Type} (a : α) : ∀ n : Nat, (List.replicate n [a]).flatten = List.replicate n a
  | 0 => rfl
  | n + 1 => by
    rw [List.replicate_succ, List.flatten_cons, flat_rep a n, List.replicate_succ]
    rfl
/-- [0] * n -/
theorem n_zeros {tn : TE} {n : Nat} (h : Eb tn S (.int (n : Int))) (hn : n ≤ 1000) : En (tOp rTimes (tLst (tCons (tC (.int 0)) tNil)) tn) S ((List.replicate n (0 : Int)).map .int) :=
  En.to (e_rep (ds := [.int 0]) (n_lst (a_cons e_int a_nil) (by simp)).b h (by omega) (by simp)) (by rw [Int.toNat_natCast, flat_rep, List.map_replicate])
/-! sorted -/
theorem n_sortedI {K : PySem.W.Frag} {te : TE} {ns ms : List Int} (h : Eb te S (.list (ns.map .int))) (hz : ns.length < 64) (hu : ∀ ms', ms'.Perm ns → ms'.Pairwise (· ≤ ·) → ms' = ms) : En (tCB (rSortedJ K) (tCons te tNil)) S (ms.map .int) := n_cb (a_cons h a_nil) fun vs H Q h q => by
  obtain ⟨v, rfl, h1⟩ := h.v1
  obtain ⟨a, xs, rfl, h2, h3⟩ := h1
  refine .inl ⟨a, ns, rfl, by rw [← h3.ints]; exact SqL.of h2, hz, fun ms' p h4 h5 hp => ?_⟩
  have e := hu ms' h4 h5
  subst e
  exact q p _ (same_new hp) hp ⟨p, _, rfl, upd_same, DaL.of_ints⟩
def prD (p : Int × Int) : PyData := .tuple [.int p.1, .int p.2]
/-- the pair that stands at a place -/
def prAt (H : Hp) : V → Int × Int
  | .ref t => match H t with
    | some (.tup [.int a, .int b]) => (a, b)
    | _ => (0, 0)
  | _ => (0, 0)
theorem prAt_of {H : Hp} {p : Int × Int} {v : V} (h : Da H (prD p) v) : prAt H v = p ∧ ∃ t, v = .ref t ∧ H t = some (.tup [.int p.1, .int p.2]) := by
  obtain ⟨a, xs, rfl, h1, v1, r, rfl, e1, v2, r2, rfl, e2, e3⟩ := h
  have e1 : v1 = .int p.1 := e1
  have e2 : v2 = .int p.2 := e2
  have e3 : r2 = [] := e3
  subst e1
  subst e2
  subst e3
  refine ⟨?_, a, rfl, h1⟩
  show (match H a with | some (.tup [.int a, .int b]) => (a, b) | _ => ((0, 0) : Int × Int)) = p
  rw [h1]
theorem pr_all {H : Hp} : ∀ {ps : List (Int × Int)} {xs : List V}, DaL H (ps.map prD) xs → xs.map (prAt H) = ps ∧ ∀ x ∈ xs, ∃ t, x = .ref t ∧ H t = some (.tup [.int (prAt H x).1, .int (prAt H x).2])
  | [], _, h => by
    have e : _ = [] := h
    rw [e]
    exact ⟨rfl, fun x hx => by cases hx⟩
  | p :: ps, _, h => by
    obtain ⟨v, vs, rfl, h1, h2⟩ := h
    obtain ⟨e1, t, e2, e3⟩ := prAt_of h1
    obtain ⟨i1, i2⟩ := pr_all (ps := ps) h2
    refine ⟨by rw [List.map_cons, e1, i1], fun x hx => ?_⟩
    rcases List.mem_cons.mp hx with e | hx
    · rw [e, e1]
      exact ⟨t, e2, e3⟩
    · exact i2 x hx
theorem pr_back {H : Hp} : ∀ {xs : List V}, (∀ x ∈ xs, ∃ t, x = .ref t ∧ H t = some (.tup [.int (prAt H x).1, .int (prAt H x).2])) → DaL H ((xs.map (prAt H)).map prD) xs
  | [], _ => rfl
  | x :: xs, h => by
    obtain ⟨t, e1, e2⟩ := h x List.mem_cons_self
    exact ⟨x, xs, rfl, ⟨t, _, e1, e2, _, _, rfl, rfl, _, _, rfl, rfl, rfl⟩, pr_back fun y hy => h y (List.mem_cons_of_mem _ hy)⟩
theorem n_sortedP {K : PySem.W.Frag} {te : TE} {ps ms : List (Int × Int)} (h : Eb te S (.list (ps.map prD))) (hu : ∀ ms' : List (Int × Int), ms'.Perm ps → ms'.Pairwise (fun x y => SrtO.lexB y x = false) → ms' = ms) : En (tCB (rSortedJ K) (tCons te tNil)) S (ms.map prD) := n_cb (a_cons h a_nil) fun vs H Q h q => by
  obtain ⟨v, rfl, h1⟩ := h.v1
  obtain ⟨a, xs, rfl, h2, h3⟩ := h1
  obtain ⟨e1, e2⟩ := pr_all h3
  refine .inr ⟨a, xs, prAt H, rfl, SqL.of h2, e2, fun ys p h4 h5 hp => ?_⟩
  have e3 : ys.map (prAt H) = ms := hu _ (by rw [← e1]; exact h5.perm.map _) (by rw [List.pairwise_map]; exact h4)
  refine q p _ (same_new hp) hp ⟨p, ys, rfl, upd_same, DaL.mono (same_new hp) _ _ ?_⟩
  rw [← e3]
  exact pr_back fun x hx => e2 x (h5.perm.mem_iff.mp hx)
/-! isinstance by the data -/
def isInt : PyData → Bool
  | .int _ => true
  | .bool _ => true
  | _ => false
def isBl : PyData → Bool
  | .bool _ => true
  | _ => false
def isTup : PyData → Bool
  | .tuple _ => true
  | _ => false
def isLst : PyData → Bool
  | .list _ => true
  | .dict _ => true
  | _ => false
def isStr : PyData → Bool
  | .str _ => true
  | _ => false
omit [KK] in
theorem kit_int {K : PySem.W.Frag} : ∀ d : PyData, PySem.W.kitOne K (.type (tyN d)) (.type "int") = some (isInt d)
  | .none => show _ = some false from kit_ty (a := "NoneType") (b := "int") (r := false) (by decide +kernel)
  | .bool _ => show _ = some true from kit_ty (a := "bool") (b := "int") (r := true) (by decide +kernel)
  | .int _ => show _ = some true from kit_ty (a := "int") (b := "int") (r := true) (by decide +kernel)
  | .str _ => show _ = some false from kit_ty (a := "str") (b := "int") (r := false) (by decide +kernel)
  | .list _ => show _ = some false from kit_ty (a := "list") (b := "int") (r := false) (by decide +kernel)
  | .tuple _ => show _ = some false from kit_ty (a := "tuple") (b := "int") (r := false) (by decide +kernel)
  | .dict _ => show _ = some false from kit_ty (a := "list") (b := "int") (r := false) (by decide +kernel)
omit [KK] in
theorem kit_bool {K : PySem.W.Frag} : ∀ d : PyData, PySem.W.kitOne K (.type (tyN d)) (.type "bool") = some (isBl d)
  | .none => show _ = some false from kit_ty (a := "NoneType") (b := "bool") (r := false) (by decide +kernel)
  | .bool _ => show _ = some true from kit_ty (a := "bool") (b := "bool") (r := true) (by decide +kernel)
  | .int _ => show _ = some false from kit_ty (a := "int") (b := "bool") (r := false) (by decide +kernel)
  | .str _ => show _ = some false from kit_ty (a := "str") (b := "bool") (r := false) (by decide +kernel)
  | .list _ => show _ = some false from kit_ty (a := "list") (b := "bool") (r := false) (by decide +kernel)
  | .tuple _ => show _ = some false from kit_ty (a := "tuple") (b := "bool") (r := false) (by decide +kernel)
  | .dict _ => show _ = some false from kit_ty (a := "list") (b := "bool") (r := false) (by decide +kernel)
omit [KK] in
theorem kit_tuple {K : PySem.W.Frag} : ∀ d : PyData, PySem.W.kitOne K (.type (tyN d)) (.type "tuple") = some (isTup d)
  | .none => show _ = some false from kit_ty (a := "NoneType") (b := "tuple") (r := false) (by decide +kernel)
  | .bool _ => show _ = some false from kit_ty (a := "bool") (b := "tuple") (r := false) (by decide +kernel)
  | .int _ => show _ = some false from kit_ty (a := "int") (b := "tuple") (r := false) (by decide +kernel)
  | .str _ => show _ = some false from kit_ty (a := "str") (b := "tuple") (r := false) (by decide +kernel)
  | .list _ => show _ = some false from kit_ty (a := "list") (b := "tuple") (r := false) (by decide +kernel)
  | .tuple _ => show _ = some true from kit_ty (a := "tuple") (b := "tuple") (r := true) (by decide +kernel)
  | .dict _ => show _ = some false from kit_ty (a := "list") (b := "tuple") (r := false) (by decide +kernel)
omit [KK] in
theorem kit_list {K : PySem.W.Frag} : ∀ d : PyData, PySem.W.kitOne K (.type (tyN d)) (.type "list") = some (isLst d)
  | .none => show _ = some false from kit_ty (a := "NoneType") (b := "list") (r := false) (by decide +kernel)
  | .bool _ => show _ = some false from kit_ty (a := "bool") (b := "list") (r := false) (by decide +kernel)
  | .int _ => show _ = some false from kit_ty (a := "int") (b := "list") (r := false) (by decide +kernel)
  | .str _ => show _ = some false from kit_ty (a := "str") (b := "list") (r := false) (by decide +kernel)
  | .list _ => show _ = some true from kit_ty (a := "list") (b := "list") (r := true) (by decide +kernel)
  | .tuple _ => show _ = some false from kit_ty (a := "tuple") (b := "list") (r := false) (by decide +kernel)
  | .dict _ => show _ = some true from kit_ty (a := "list") (b := "list") (r := true) (by decide +kernel)
omit [KK] in
theorem kit_str {K : PySem.W.Frag} : ∀ d : PyData, PySem.W.kitOne K (.type (tyN d)) (.type "str") = some (isStr d)
  | .none => show _ = some false from kit_ty (a := "NoneType") (b := "str") (r := false) (by decide +kernel)
  | .bool _ => show _ = some false from kit_ty (a := "bool") (b := "str") (r := false) (by decide +kernel)
  | .int _ => show _ = some false from kit_ty (a := "int") (b := "str") (r := false) (by decide +kernel)
  | .str _ => show _ = some true from kit_ty (a := "str") (b := "str") (r := true) (by decide +kernel)
  | .list _ => show _ = some false from kit_ty (a := "list") (b := "str") (r := false) (by decide +kernel)
  | .tuple _ => show _ = some false from kit_ty (a := "tuple") (b := "str") (r := false) (by decide +kernel)
  | .dict _ => show _ = some false from kit_ty (a := "list") (b := "str") (r := false) (by decide +kernel)
theorem e_isInt {te : TE} (h : Eb te S d) : Eb (tCB (rIsi KK.K) (tCons te (tCons (tC (.ty "int")) tNil))) S (.bool (isInt d)) := e_isi h (kit_int d)
theorem e_isBl {te : TE} (h : Eb te S d) : Eb (tCB (rIsi KK.K) (tCons te (tCons (tC (.ty "bool")) tNil))) S (.bool (isBl d)) := e_isi h (kit_bool d)
theorem e_isTup {te : TE} (h : Eb te S d) : Eb (tCB (rIsi KK.K) (tCons te (tCons (tC (.ty "tuple")) tNil))) S (.bool (isTup d)) := e_isi h (kit_tuple d)
theorem e_isLst {te : TE} (h : Eb te S d) : Eb (tCB (rIsi KK.K) (tCons te (tCons (tC (.ty "list")) tNil))) S (.bool (isLst d)) := e_isi h (kit_list d)
theorem e_isStr {te : TE} (h : Eb te S d) : Eb (tCB (rIsi KK.K) (tCons te (tCons (tC (.ty "str")) tNil))) S (.bool (isStr d)) := e_isi h (kit_str d)
theorem x_ret' {te : TE} {d' : PyData} (h : Eb te S d) (e : d = d') : DX E (tRet te) S (.rt (.va d')) := x_ret (h.to e)
/-- the law's promise: the script in, True out -/
def spLaw (K : PySem.W.Frag) : Sp := fun vs H Q _ => ∃ (a : Addr) (ns : List Int), vs = [.ref a] ∧ SqL K H a (ns.map V.int) ∧ ns.length ≤ 63 ∧ ∀ H', Q (.bl true) H'
theorem law_run {N : List Str} {t : TS} {vs : List V} {H : Hp} {Q : VK} (h : spLaw KK.K vs H Q E)
    (hb : ∀ ns : List Int, ns.length ≤ 63 → DX E t (.va (frz ns) :: List.replicate (N.length - 1) Sl.no) (.rt (.va (.bool true)))) : t { nx := fun _ H' => Q .non H', rt := Q } (L2.start N vs) H := by
  obtain ⟨a, ns, rfl, h1, h2, h3⟩ := h
  have hs : SpR (fun ds r => ∃ ns : List Int, ns.length ≤ 63 ∧ ds = [frz ns] ∧ r = .va (.bool true)) [.ref a] H Q E := ⟨[frz ns], .va (.bool true), ⟨.ref a, [], rfl, ⟨a, rfl, by rw [frzV_map]; exact h1⟩, rfl⟩, ⟨ns, h2, rfl, rfl⟩, fun v H' _ q => by
    have e : v = .bl true := q
    rw [e]
    exact h3 H'⟩
  refine run_of hs fun ds r ⟨ms, g1, g2, g3⟩ => ?_
  subst g2
  subst g3
  exact hb ms g1
end
end DL

namespace DL
open PySem L2
section
variable [KK] {E : XK} {S : DSt} {o : Ou}
/-- a for loop told along its list -/
inductive DFor (E : XK) (g : TG) (tb : TS) : List PyData → DSt → Ou → Prop
  | nil {S : DSt} : DFor E g tb [] S (.nx S)
  | go {d : PyData} {r : List PyData} {S S' : DSt} {o : Ou} : (∃ ws S1 S2, Dg ws g d S S1 ∧ (DX E tb S1 (.nx S2) ∨ DX E tb S1 (.ct S2)) ∧ Le S2 S') → DFor E g tb r S' o → DFor E g tb (d :: r) S o
  | out {d : PyData} {r : List PyData} {S : DSt} {q : Ro} : (∃ ws S1, Dg ws g d S S1 ∧ DX E tb S1 (.rt q)) → DFor E g tb (d :: r) S (.rt q)
theorem DFor.seq {g : TG} {tb : TS} {ds : List PyData} (h : DFor E g tb ds S o) : ∃ (n : Nat) (J : Nat → DSt), n ≤ ds.length ∧ J 0 = S ∧
    (∀ (i : Nat) d, i < n → ds[i]? = some d → ∃ ws S1 S2, Dg ws g d (J i) S1 ∧ (DX E tb S1 (.nx S2) ∨ DX E tb S1 (.ct S2)) ∧ Le S2 (J (i + 1))) ∧
    (n < ds.length → ∀ d, ds[n]? = some d → ∃ ws S1 r, o = .rt r ∧ Dg ws g d (J n) S1 ∧ DX E tb S1 (.rt r)) ∧ (n = ds.length → o = .nx (J n)) := by
  induction h with
  | @nil S => exact ⟨0, fun _ => S, Nat.le_refl _, rfl, fun i d hi => absurd hi (Nat.not_lt_zero i), fun hi => absurd hi (Nat.lt_irrefl _), fun _ => rfl⟩
  | @go d r S S' o h1 h2 ih =>
    obtain ⟨n, J, a1, a2, a3, a4, a5⟩ := ih
    refine ⟨n + 1, fun i => match i with | 0 => S | i + 1 => J i, Nat.succ_le_succ a1, rfl, fun i d' hi hd => ?_, fun hi d' hd => ?_, fun hi => ?_⟩
    · cases i with
      | zero =>
        cases hd
        show ∃ ws S1 S2, Dg ws g d S S1 ∧ _ ∧ Le S2 (J 0)
        rw [a2]
        exact h1
      | succ i => exact a3 i d' (Nat.lt_of_succ_lt_succ hi) hd
    · exact a4 (Nat.lt_of_succ_lt_succ hi) d' hd
    · exact a5 (Nat.succ.inj hi)
  | @out d r S q h1 =>
    obtain ⟨ws, S1, b1, b2⟩ := h1
    refine ⟨0, fun _ => S, Nat.zero_le _, rfl, fun i d hi => absurd hi (Nat.not_lt_zero i), fun hi d' hd => ?_, fun hi => ?_⟩
    · cases hd
      exact ⟨ws, S1, q, rfl, b1, b2⟩
    · cases hi
theorem x_forW {wi : TI} {g : TG} {tb : TS} {S' : DSt} {ds : List PyData} (hw : Di wi S ds) (h0 : Le S S') (h : DFor E g tb ds S' o) : DX E (tFor wi g tb) S o := by
  obtain ⟨n, J, a1, a2, a3, a4, a5⟩ := h.seq
  exact x_forGen hw n a1 J (by rw [a2]; exact h0) a3 a4 a5
theorem x_seqE {ι : Type} {t u : TS} {o : Ou} (I : ι → DSt) (P : ι → Prop) (h : ∃ i, P i ∧ DX E t S (.nx (I i))) (h2 : ∀ i, P i → DX E u (I i) o) : DX E (tSeq t u) S o :=
  let ⟨i, h3, h4⟩ := h
  x_seq h4 (h2 i h3)
theorem immL_prs (ps : List (Int × Int)) : immL (ps.map prD) = true := immL_map fun _ _ => rfl
/-- a turn goes on or gives -/
def goS {α β : Type} (step : β → α → β ⊕ Ro) : β → List α → β ⊕ Ro
  | b, [] => .inl b
  | b, x :: r => match step b x with
    | .inl b' => goS step b' r
    | .inr q => .inr q
theorem goS_for {α β : Type} {f : α → PyData} {g : TG} {tb : TS} (step : β → α → β ⊕ Ro) (I : β → DSt) (Inv : β → Prop) : ∀ (xs : List α) (b : β), Inv b →
    (∀ b x, Inv b → x ∈ xs → match step b x with
      | .inl b' => Inv b' ∧ ∃ ws S1 S2, Dg ws g (f x) (I b) S1 ∧ (DX E tb S1 (.nx S2) ∨ DX E tb S1 (.ct S2)) ∧ Le S2 (I b')
      | .inr q => ∃ ws S1, Dg ws g (f x) (I b) S1 ∧ DX E tb S1 (.rt q)) →
    match goS step b xs with
      | .inl b' => Inv b' ∧ DFor E g tb (xs.map f) (I b) (.nx (I b'))
      | .inr q => DFor E g tb (xs.map f) (I b) (.rt q)
  | [], b, hb, _ => ⟨hb, .nil⟩
  | x :: r, b, hb, hs => by
    have h1 := hs b x hb List.mem_cons_self
    unfold goS
    cases e : step b x with
    | inl b' =>
      rw [e] at h1
      obtain ⟨i1, i2⟩ := h1
      have ih := goS_for step I Inv r b' i1 fun b x hb hx => hs b x hb (List.mem_cons_of_mem _ hx)
      dsimp only
      cases e2 : goS step b' r with
      | inl b2 =>
        rw [e2] at ih
        exact ⟨ih.1, .go i2 ih.2⟩
      | inr q =>
        rw [e2] at ih
        exact .go i2 ih
    | inr q =>
      rw [e] at h1
      exact .out h1
theorem goS_all {α : Type} {P : α → Prop} [DecidablePred P] {q : Ro} : ∀ xs : List α, goS (fun (_ : Unit) x => if P x then .inl () else .inr q) () xs = if ∀ x ∈ xs, P x then .inl () else .inr q
  | [] => by
    rw [if_pos (fun x hx => (List.not_mem_nil hx).elim)]
    rfl
  | x :: r => by
    unfold goS
    by_cases h : P x
    · rw [if_pos h]
      dsimp only
      rw [goS_all r]
      by_cases h2 : ∀ y ∈ r, P y
      · rw [if_pos h2, if_pos (fun y hy => by
          rcases List.mem_cons.mp hy with e | hy
          · rw [e]; exact h
          · exact h2 y hy)]
      · rw [if_neg h2, if_neg (fun h3 => h2 fun y hy => h3 y (List.mem_cons_of_mem _ hy))]
    · rw [if_neg h, if_neg (fun h3 => h (h3 x List.mem_cons_self))]
theorem x_forQ {α β : Type} {xs : List α} {f : α → PyData} {wi : TI} {g : TG} {tb u : TS} {b0 : β} {q : Ro} (step : β → α → β ⊕ Ro) (I : β → DSt) (Inv : β → Prop) (hw : Di wi S (xs.map f)) (h0 : Le S (I b0)) (hI : Inv b0)
    (hs : ∀ b x, Inv b → x ∈ xs → match step b x with
      | .inl b' => Inv b' ∧ ∃ ws S1 S2, Dg ws g (f x) (I b) S1 ∧ (DX E tb S1 (.nx S2) ∨ DX E tb S1 (.ct S2)) ∧ Le S2 (I b')
      | .inr q => ∃ ws S1, Dg ws g (f x) (I b) S1 ∧ DX E tb S1 (.rt q))
    (hn : ∀ b, goS step b0 xs = .inl b → Inv b → DX E u (I b) (.rt q)) (ho : ∀ r, goS step b0 xs = .inr r → r = q) : DX E (tSeq (tFor wi g tb) u) S (.rt q) := by
  have h := goS_for (E := E) (f := f) (g := g) (tb := tb) step I Inv xs b0 hI hs
  cases e : goS step b0 xs with
  | inl b =>
    rw [e] at h
    exact x_seq (x_forW hw h0 h.2) (hn b e h.1)
  | inr r =>
    rw [e] at h
    rw [← ho r e]
    exact x_seqR (x_forW hw h0 h)
end
end DL

namespace DL
open PySem L2
/-! ### jobs, in plain Lean -/
abbrev Job := Int × Int × Int
abbrev jobD (j : Job) : PyData := .tuple [.int j.1, .int j.2.1, .int j.2.2]
abbrev jobsL (js : List Job) : List PyData := js.map fun j => .tuple [.int j.1, .int j.2.1, .int j.2.2]
abbrev jobsD (js : List Job) : PyData := .list (jobsL js)
abbrev intsD (ns : List Int) : PyData := .list (ns.map .int)
def Snd (j : Job) : Prop := 0 ≤ j.1 ∧ 1 ≤ j.2.1 ∧ j.1 < j.2.2
def AllS (js : List Job) : Prop := ∀ j ∈ js, Snd j
def wholeD : PyData → Bool
  | .int _ => true
  | _ => false
def soundD : PyData → Bool
  | .tuple [.int a, .int b, .int c] => decide (0 ≤ a) && decide (1 ≤ b) && decide (a < c)
  | _ => false
theorem soundD_job (j : Job) : soundD (jobD j) = true ↔ Snd j := by
  show (decide (0 ≤ j.1) && decide (1 ≤ j.2.1) && decide (j.1 < j.2.2)) = true ↔ _
  simp [Snd, and_assoc]
theorem immL_jobs (js : List Job) : immL (jobsL js) = true := immL_map fun _ _ => rfl
theorem at_map {α : Type} {f : α → PyData} {l : List α} {x : α} {i : Nat} (h : l[i]? = some x) : atI (l.map f) (i : Int) = some (f x) := atI_nat (by rw [List.getElem?_map, h]; rfl)
theorem atI_pos {α : Type} {l : List α} {k : Int} (h0 : 0 ≤ k) {x : α} (h : l[k.toNat]? = some x) : atI l k = some x := by
  obtain ⟨n, rfl⟩ := Int.eq_ofNat_of_zero_le h0
  exact atI_nat h
theorem getD_some {α : Type} {l : List α} {n : Nat} {d : α} (h : n < l.length) : l[n]? = some (l.getD n d) := by
  rw [List.getD_eq_getElem?_getD, List.getElem?_eq_getElem h]
  rfl
/-! ### the laws' builder of jobs -/
def cellAt (ns : List Int) (k : Int) : Int := if k < ns.length then ns.getD k.toNat 0 else 0
def mixed (cell k prime : Int) : Int := (cell + 7 * k + 1) * 48271 % prime
def countBy (c : Int) : Int := if c % 64 = 1 then 25 + c / 64 % 36 else if c % 8 = 5 then 8 + c / 8 % 17 else c / 8 % 12
theorem countBy_le (c : Int) : 0 ≤ countBy c ∧ countBy c ≤ 60 := by
  unfold countBy
  split
  · omega
  · split <;> omega
def wideBy (c : Int) : Int := if c % 4 = 3 then 2 + c / 4 % 10 ^ (56 : Int).toNat else 1
theorem wideBy_pos (c : Int) : 1 ≤ wideBy c := by
  unfold wideBy
  split
  · have h : 0 ≤ c / 4 % 10 ^ (56 : Int).toNat := Int.emod_nonneg _ (by decide)
    omega
  · decide
theorem wideBy_le (c : Int) : wideBy c ≤ 10 ^ 56 + 1 := by
  unfold wideBy
  split
  · have h : c / 4 % 10 ^ (56 : Int).toNat < 10 ^ (56 : Int).toNat := Int.emod_lt_of_pos _ (by decide)
    have e : (10 : Int) ^ (56 : Int).toNat = 10 ^ 56 := by decide
    omega
  · decide
def jobBy (come length due wide more : Int) : Job :=
  if wide < 2 then (come % (20 + 3 * more), 1 + length % 6, come % (20 + 3 * more) + 1 + due % (18 + 2 * more))
  else (come % (20 + 3 * more) * wide + length / 12 % wide, (1 + length / 2 % 6) * wide - length % 2, (come % (20 + 3 * more) + 1 + due % (18 + 2 * more)) * wide)
theorem jobBy_snd {come length due wide more : Int} (hw : 1 ≤ wide) (h0 : 0 ≤ more) (h1 : more ≤ 60) : Snd (jobBy come length due wide more) := by
  have a1 : 0 ≤ come % (20 + 3 * more) := Int.emod_nonneg _ (by omega)
  have a3 : 0 ≤ due % (18 + 2 * more) := Int.emod_nonneg _ (by omega)
  unfold jobBy
  split
  · exact ⟨a1, by show 1 ≤ 1 + length % 6; omega, by show come % (20 + 3 * more) < come % (20 + 3 * more) + 1 + due % (18 + 2 * more); omega⟩
  · have b1 : 0 ≤ length / 12 % wide := Int.emod_nonneg _ (by omega)
    have b2 : length / 12 % wide < wide := Int.emod_lt_of_pos _ (by omega)
    generalize come % (20 + 3 * more) = c at *
    generalize due % (18 + 2 * more) = d at *
    generalize length / 12 % wide = m at *
    have c1 : 0 ≤ c * wide := Int.mul_nonneg a1 (by omega)
    refine ⟨by show 0 ≤ c * wide + m; omega, ?_, ?_⟩
    · show 1 ≤ (1 + length / 2 % 6) * wide - length % 2
      have z : 0 ≤ length / 2 % 6 := Int.emod_nonneg _ (by decide)
      have z2 : wide ≤ (1 + length / 2 % 6) * wide := by
        rw [Int.add_mul, Int.one_mul]
        have := Int.mul_nonneg z (show 0 ≤ wide by omega)
        omega
      omega
    · show c * wide + m < (c + 1 + d) * wide
      have e : (c + 1 + d) * wide = c * wide + wide + d * wide := by rw [Int.add_mul, Int.add_mul, Int.one_mul]
      have := Int.mul_nonneg a3 (show 0 ≤ wide by omega)
      omega
def tMix (cell : Int) (k : Nat) : Int := mixed cell k 2147483647
def tBegin (cell : Int) (t : Int) (k : Nat) : Int := t + tMix cell k % 6 / 5
def tTime (cell : Int) (t : Int) (k : Nat) : Int := tBegin cell t k + 1 + tMix cell k / 6 % 4
def tNew (cell : Int) (t : Int) (k : Nat) : Job := (max 0 (tBegin cell t k - tMix cell k / 24 % 3), tTime cell t k - tBegin cell t k, tTime cell t k + tMix cell k / 72 % 3)
def tMore (cell : Int) (t : Int) (k : Nat) (j : Job) : Job := (j.1, j.2.1 + tTime cell t k - tBegin cell t k, max j.2.2 (tTime cell t k + tMix cell k / 72 % 2))
def tStep (cell count : Int) (s : List Job × Int) (k : Nat) : List Job × Int :=
  if (k : Int) < count then (s.1 ++ [tNew cell s.2 k], tTime cell s.2 k)
  else (s.1.set (tMix cell k / 24 % count).toNat (tMore cell s.2 k (s.1.getD (tMix cell k / 24 % count).toNat (0, 0, 0))), tTime cell s.2 k)
def tState (cell count : Int) : Nat → List Job × Int
  | 0 => ([], 0)
  | n + 1 => tStep cell count (tState cell count n) n
def tOk (n : Nat) (j : Job) : Prop := Snd j ∧ j.1 ≤ 5 * (n : Int) ∧ j.2.1 ≤ 5 * (n : Int) ∧ j.2.2 ≤ 5 * (n : Int) + 2
structure tInv (count : Int) (n : Nat) (s : List Job × Int) : Prop where
  len : (s.1.length : Int) = min (n : Int) count
  t0 : 0 ≤ s.2
  t1 : s.2 ≤ 5 * (n : Int)
  ok : ∀ j ∈ s.1, tOk n j
theorem mem_set_of {α : Type} {l : List α} {n : Nat} {x y : α} (h : y ∈ l.set n x) : y ∈ l ∨ y = x := List.mem_or_eq_of_mem_set h
theorem tInv_step {cell count : Int} {n : Nat} {s : List Job × Int} (hc : 0 ≤ count) (hn : (n : Int) < 2 * count) (h : tInv count n s) : tInv count (n + 1) (tStep cell count s n) := by
  obtain ⟨h1, h2, h3, h4⟩ := h
  have b0 : 0 ≤ tMix cell n % 6 / 5 ∧ tMix cell n % 6 / 5 ≤ 1 := by omega
  have b1 : 0 ≤ tMix cell n / 6 % 4 ∧ tMix cell n / 6 % 4 ≤ 3 := by omega
  have b2 : 0 ≤ tMix cell n / 72 % 3 ∧ tMix cell n / 72 % 3 ≤ 2 := by omega
  have b3 : 0 ≤ tMix cell n / 72 % 2 ∧ tMix cell n / 72 % 2 ≤ 1 := by omega
  have b4 : 0 ≤ tMix cell n / 24 % 3 ∧ tMix cell n / 24 % 3 ≤ 2 := by omega
  have e1 : tBegin cell s.2 n = s.2 + tMix cell n % 6 / 5 := rfl
  have e2 : tTime cell s.2 n = tBegin cell s.2 n + 1 + tMix cell n / 6 % 4 := rfl
  have up : ∀ j, tOk n j → tOk (n + 1) j := fun j ⟨a, b, c, d⟩ => ⟨a, by omega, by omega, by omega⟩
  unfold tStep
  by_cases q : (n : Int) < count
  · rw [if_pos q]
    refine ⟨?_, ?_, ?_, fun j hj => ?_⟩
    · show ((s.1 ++ [_]).length : Int) = _
      rw [List.length_append, List.length_singleton]
      omega
    · show 0 ≤ tTime cell s.2 n
      omega
    · show tTime cell s.2 n ≤ _
      omega
    · rcases List.mem_append.mp hj with hj | hj
      · exact up j (h4 j hj)
      · rw [List.mem_singleton] at hj
        subst hj
        refine ⟨⟨?_, ?_, ?_⟩, ?_, ?_, ?_⟩ <;> (simp only [tNew]; omega)
  · rw [if_neg q]
    have hc' : 0 < count := by omega
    have a0 : 0 ≤ tMix cell n / 24 % count := Int.emod_nonneg _ (by omega)
    have a1 : tMix cell n / 24 % count < count := Int.emod_lt_of_pos _ hc'
    refine ⟨?_, ?_, ?_, fun j hj => ?_⟩
    · show ((s.1.set _ _).length : Int) = _
      rw [List.length_set]
      omega
    · show 0 ≤ tTime cell s.2 n
      omega
    · show tTime cell s.2 n ≤ _
      omega
    · rcases mem_set_of hj with hj | hj
      · exact up j (h4 j hj)
      · have hlt : (tMix cell n / 24 % count).toNat < s.1.length := by omega
        have hm : s.1.getD (tMix cell n / 24 % count).toNat (0, 0, 0) ∈ s.1 := List.mem_of_getElem? (getD_some hlt)
        generalize s.1.getD (tMix cell n / 24 % count).toNat (0, 0, 0) = i at hj hm
        obtain ⟨⟨c1, c2, c3⟩, c4, c5, c6⟩ := h4 i hm
        subst hj
        refine ⟨⟨?_, ?_, ?_⟩, ?_, ?_, ?_⟩ <;> (simp only [tMore]; omega)
theorem tInv_at {cell count : Int} (hc : 0 ≤ count) : ∀ n : Nat, (n : Int) ≤ 2 * count → tInv count n (tState cell count n)
  | 0, _ => ⟨by show ((([] : List Job).length : Nat) : Int) = _; simp; omega, Int.le_refl 0, Int.le_refl 0, fun j h => by cases h⟩
  | n + 1, h => tInv_step hc (by omega) (tInv_at hc n (by omega))
def tScale (w : Int) (j : Job) : Job := (j.1 * w, j.2.1 * w, j.2.2 * w)
def tLess (j : Job) : Job := (j.1, j.2.1, max (j.1 + 1) (j.2.2 - 1))
def tightBy (cell count wide : Int) : List Job :=
  if 0 < count ∧ cell / 3 % 3 = 1 then
    (((tState cell count (2 * count).toNat).1.map (tScale wide)).set (cell / 9 % count).toNat (tLess (((tState cell count (2 * count).toNat).1.map (tScale wide)).getD (cell / 9 % count).toNat (0, 0, 0))))
  else (tState cell count (2 * count).toNat).1.map (tScale wide)
theorem tScale_snd {w : Int} {j : Job} (hw : 1 ≤ w) (h : Snd j) : Snd (tScale w j) := by
  obtain ⟨h1, h2, h3⟩ := h
  refine ⟨Int.mul_nonneg h1 (by omega), ?_, Int.mul_lt_mul_of_pos_right h3 (by omega)⟩
  show 1 ≤ j.2.1 * w
  have := Int.mul_le_mul h2 hw (by omega) (by omega)
  omega
theorem tLess_snd {j : Job} (h : Snd j) : Snd (tLess j) := by
  obtain ⟨h1, h2, h3⟩ := h
  exact ⟨h1, h2, by show j.1 < max (j.1 + 1) (j.2.2 - 1); omega⟩
theorem tight_len {cell count wide : Int} (hc : 0 ≤ count) : ((tightBy cell count wide).length : Int) = count := by
  have h := (tInv_at (cell := cell) hc (2 * count).toNat (by omega)).len
  unfold tightBy
  split
  · rw [List.length_set, List.length_map]
    omega
  · rw [List.length_map]
    omega
theorem tight_snd {cell count wide : Int} (hc : 0 ≤ count) (hw : 1 ≤ wide) : AllS (tightBy cell count wide) := by
  have h := tInv_at (cell := cell) hc (2 * count).toNat (by omega)
  have a : AllS ((tState cell count (2 * count).toNat).1.map (tScale wide)) := fun j hj => by
    obtain ⟨i, hi, rfl⟩ := List.mem_map.mp hj
    exact tScale_snd hw (h.ok i hi).1
  unfold tightBy
  split
  · rename_i q
    intro j hj
    rcases mem_set_of hj with hj | hj
    · exact a j hj
    · rw [hj]
      have a0 : 0 ≤ cell / 9 % count := Int.emod_nonneg _ (by omega)
      have a1 : cell / 9 % count < count := Int.emod_lt_of_pos _ q.1
      have hl := h.len
      exact tLess_snd (a _ (List.mem_of_getElem? (getD_some (by rw [List.length_map]; omega))))
  · exact a
def jobsBy (ns : List Int) (f : Int) : List Job :=
  let count := countBy (cellAt ns f)
  let wide := wideBy (cellAt ns (f + 1))
  let cell := cellAt ns (f + 2)
  if cell % 3 = 1 then tightBy cell count wide
  else (List.range count.toNat).map fun (k : Nat) =>
    let at_ := f + 3 + 3 * (k : Int)
    if count < 12 ∧ at_ + 2 < ns.length then jobBy (ns.getD at_.toNat 0) (ns.getD (at_ + 1).toNat 0) (ns.getD (at_ + 2).toNat 0) wide 0
    else jobBy (mixed cell k 2147483647) (mixed cell k 1000003) (mixed cell k 999983) wide count
theorem jobsBy_snd (ns : List Int) (f : Int) : AllS (jobsBy ns f) := by
  unfold jobsBy
  have hc := countBy_le (cellAt ns f)
  have hw := wideBy_pos (cellAt ns (f + 1))
  dsimp only
  split
  · exact tight_snd hc.1 hw
  · intro j hj
    obtain ⟨k, _, rfl⟩ := List.mem_map.mp hj
    split
    · exact jobBy_snd hw (by decide) (by decide)
    · exact jobBy_snd hw hc.1 hc.2
theorem jobsBy_len (ns : List Int) (f : Int) : (jobsBy ns f).length ≤ 60 := by
  unfold jobsBy
  have hc := countBy_le (cellAt ns f)
  dsimp only
  split
  · have := tight_len (cell := cellAt ns (f + 2)) (wide := wideBy (cellAt ns (f + 1))) hc.1
    omega
  · rw [List.length_map, List.length_range]
    omega
/-! ### equality of data -/
theorem eqvAll_map {α : Type} [DecidableEq α] {f : α → PyData} (h : ∀ x y, PyData.eqv (f x) (f y) = decide (x = y)) : ∀ l m : List α, PyData.eqvAll (l.map f) (m.map f) = decide (l = m)
  | [], [] => by simp [PyData.eqvAll]
  | [], y :: m => by simp [PyData.eqvAll]
  | x :: l, [] => by simp [PyData.eqvAll]
  | x :: l, y :: m => by
    show PyData.eqvAll (f x :: l.map f) (f y :: m.map f) = _
    rw [PyData.eqvAll, h, eqvAll_map h l m]
    by_cases e : x = y <;> by_cases e2 : l = m <;> simp [e, e2]
theorem eqv_listmap {α : Type} [DecidableEq α] {f : α → PyData} (h : ∀ x y, PyData.eqv (f x) (f y) = decide (x = y)) (l m : List α) : PyData.eqv (.list (l.map f)) (.list (m.map f)) = decide (l = m) := by
  rw [PyData.eqv]
  exact eqvAll_map h l m
theorem eqv_int (i j : Int) : PyData.eqv (.int i) (.int j) = decide (i = j) := by
  rw [PyData.eqv]
  exact Bool.beq_eq_decide_eq i j
theorem eqv_job (i j : Job) : PyData.eqv (jobD i) (jobD j) = decide (i = j) := by
  obtain ⟨a, b, c⟩ := i
  obtain ⟨a', b', c'⟩ := j
  simp [PyData.eqv, PyData.eqvAll, Bool.beq_eq_decide_eq]
theorem eqv_jobs (l m : List Job) : PyData.eqv (jobsD l) (jobsD m) = decide (l = m) := eqv_listmap eqv_job l m
theorem eqv_ints (l m : List Int) : PyData.eqv (intsD l) (intsD m) = decide (l = m) := eqv_listmap eqv_int l m
theorem canLay_map {α : Type} {f : α → PyData} : ∀ (l : List α), (∀ x ∈ l, (f x).canLay0 = true) → PyData.canLayAll0 (l.map f) = true
  | [], _ => by simp [PyData.canLayAll0]
  | x :: l, h => by
    have ih := canLay_map l fun y hy => h y (List.mem_cons_of_mem _ hy)
    simp [PyData.canLayAll0, h x List.mem_cons_self, ih]
theorem depth_map {α : Type} {f : α → PyData} {n : Nat} : ∀ (l : List α), (∀ x ∈ l, (f x).depth ≤ n) → PyData.depthAll (l.map f) ≤ n
  | [], _ => by simp [PyData.depthAll]
  | x :: l, h => by
    have ih := depth_map l fun y hy => h y (List.mem_cons_of_mem _ hy)
    have h0 := h x List.mem_cons_self
    simp only [List.map_cons, PyData.depthAll]
    omega
theorem shaped_map {α : Type} {f : α → PyData} (l : List α) (h1 : ∀ x ∈ l, (f x).canLay0 = true) (h2 : ∀ x ∈ l, (f x).depth ≤ 20) : SeqAt.shaped (.list (l.map f)) = true := by
  have a := canLay_map l h1
  have b := depth_map l h2
  unfold SeqAt.shaped
  rw [Bool.and_eq_true]
  refine ⟨by simpa [PyData.canLay0] using a, decide_eq_true ?_⟩
  rw [PyData.depth]
  omega
theorem shaped_str {x : Str} (h : PyData.strOk x = true) : SeqAt.shaped (.str x) = true := by
  unfold SeqAt.shaped
  simpa [PyData.canLay0, PyData.depth] using h
theorem shaped_jobs (js : List Job) : SeqAt.shaped (jobsD js) = true := shaped_map js (fun _ _ => by simp [PyData.canLay0, PyData.canLayAll0]) fun _ _ => by simp [PyData.depth, PyData.depthAll]
theorem shaped_ints (js : List Int) : SeqAt.shaped (intsD js) = true := shaped_map js (fun _ _ => by simp [PyData.canLay0]) fun _ _ => by simp [PyData.depth]
theorem shaped_plan (js : List Job) : SeqAt.shaped (.tuple [.str (Str.ofString "plan"), jobsD js]) = true := by
  have h := shaped_jobs js
  have h2 : SeqAt.shaped (.str (Str.ofString "plan")) = true := shaped_str (by decide +kernel)
  unfold SeqAt.shaped at h h2 ⊢
  rw [Bool.and_eq_true] at h h2 ⊢
  have d2 : PyData.depthAll (jobsL js) ≤ 1 := depth_map (n := 1) js (f := fun j => jobD j) fun _ _ => by simp [PyData.depth, PyData.depthAll]
  have h1 := h.1
  have h3 := h2.1
  refine ⟨by simp only [PyData.canLay0, PyData.canLayAll0, Bool.and_true, Bool.and_eq_true] at h1 h3 ⊢; exact ⟨h3, h1⟩, decide_eq_true ?_⟩
  simp only [PyData.depth, PyData.depthAll]
  omega
theorem eqv_plan (js : List Job) : PyData.eqv (.tuple [.str (Str.ofString "plan"), jobsD js]) (.tuple [.str (Str.ofString "plan"), jobsD js]) = true := by
  have h := eqv_jobs js js
  rw [decide_eq_true rfl] at h
  have h2 : PyData.eqv (.str (Str.ofString "plan")) (.str (Str.ofString "plan")) = true := by rfl
  rw [PyData.eqv, PyData.eqvAll, PyData.eqvAll, h, h2]
  simp [PyData.eqvAll]
theorem shaped_bool (b : Bool) : SeqAt.shaped (.bool b) = true := by
  unfold SeqAt.shaped
  simp [PyData.canLay0, PyData.depth]
theorem eqv_bool (b c : Bool) : PyData.eqv (.bool b) (.bool c) = decide (b = c) := by
  cases b <;> cases c <;> rfl
end DL

namespace DL
open PySem L2
/-! ### who is worked at -/
abbrev J0 : Job := (0, 1, 1)
abbrev jAt (js : List Job) (i : Nat) : Job := js.getD i J0
abbrev lAt (l : List Int) (i : Nat) : Int := l.getD i 0
theorem jAt_of {js : List Job} {i : Nat} {j : Job} (h : js[i]? = some j) : jAt js i = j := by
  rw [jAt, List.getD_eq_getElem?_getD, h]
  rfl
theorem lAt_of {l : List Int} {i : Nat} {x : Int} (h : l[i]? = some x) : lAt l i = x := by
  rw [lAt, List.getD_eq_getElem?_getD, h]
  rfl
def nearStep (js : List Job) (left : List Int) (t : Int) (b : Option Nat) (i : Nat) : Option Nat :=
  if (jAt js i).1 ≤ t ∧ 0 < lAt left i then
    match b with
    | none => some i
    | some p => if (jAt js i).2.2 < (jAt js p).2.2 then some i else some p
  else b
def nearUp (js : List Job) (left : List Int) (t : Int) : Nat → Option Nat
  | 0 => none
  | n + 1 => nearStep js left t (nearUp js left t n) n
def nearF (js : List Job) (left : List Int) (t : Int) : Option Nat := nearUp js left t js.length
/-- i is there, not done -/
def There (js : List Job) (left : List Int) (t : Int) (i : Nat) : Prop := (jAt js i).1 ≤ t ∧ 0 < lAt left i
/-- i ahead of k, or k itself: by due, of the same due by place -/
def Fst (js : List Job) (i k : Nat) : Prop := (jAt js i).2.2 < (jAt js k).2.2 ∨ ((jAt js i).2.2 = (jAt js k).2.2 ∧ i ≤ k)
def NearSpec (js : List Job) (left : List Int) (t : Int) (n : Nat) : Option Nat → Prop
  | none => ∀ i, i < n → ¬ There js left t i
  | some p => p < n ∧ There js left t p ∧ ∀ i, i < n → There js left t i → Fst js p i
theorem nearUp_spec (js : List Job) (left : List Int) (t : Int) : ∀ n, NearSpec js left t n (nearUp js left t n)
  | 0 => fun i h => absurd h (Nat.not_lt_zero i)
  | n + 1 => by
    have ih := nearUp_spec js left t n
    show NearSpec js left t (n + 1) (nearStep js left t (nearUp js left t n) n)
    generalize nearUp js left t n = b at ih
    unfold nearStep
    by_cases q : (jAt js n).1 ≤ t ∧ 0 < lAt left n
    · rw [if_pos q]
      cases b with
      | none =>
        refine ⟨Nat.lt_succ_self n, q, fun i hi ht => ?_⟩
        by_cases e : i = n
        · subst e
          exact .inr ⟨rfl, Nat.le_refl _⟩
        · exact absurd ht (ih i (by omega))
      | some p =>
        obtain ⟨h1, h2, h3⟩ := ih
        dsimp only
        by_cases c : (jAt js n).2.2 < (jAt js p).2.2
        · rw [if_pos c]
          refine ⟨Nat.lt_succ_self n, q, fun i hi ht => ?_⟩
          by_cases e : i = n
          · subst e
            exact .inr ⟨rfl, Nat.le_refl _⟩
          · have := h3 i (by omega) ht
            rcases this with z | ⟨z, _⟩
            · exact .inl (by omega)
            · exact .inl (by omega)
        · rw [if_neg c]
          refine ⟨by omega, h2, fun i hi ht => ?_⟩
          by_cases e : i = n
          · subst e
            by_cases c2 : (jAt js p).2.2 = (jAt js i).2.2
            · exact .inr ⟨c2, by omega⟩
            · exact .inl (by omega)
          · exact h3 i (by omega) ht
    · rw [if_neg q]
      cases b with
      | none =>
        intro i hi
        by_cases e : i = n
        · subst e
          exact q
        · exact ih i (by omega)
      | some p =>
        obtain ⟨h1, h2, h3⟩ := ih
        refine ⟨by omega, h2, fun i hi ht => ?_⟩
        by_cases e : i = n
        · subst e
          exact absurd ht q
        · exact h3 i (by omega) ht
theorem nearF_spec (js : List Job) (left : List Int) (t : Int) : NearSpec js left t js.length (nearF js left t) := nearUp_spec js left t js.length
theorem nearUp_lt {js : List Job} {left : List Int} {t : Int} {n p : Nat} (h : nearUp js left t n = some p) : p < n := by
  have := nearUp_spec js left t n
  rw [h] at this
  exact this.1
def optD : Option Nat → PyData
  | none => .none
  | some p => .int (p : Int)
def optI : Option Int → PyData
  | none => .none
  | some p => .int p
/-! ### the next come -/
def upStep (t : Int) (f : Option Int) (j : Job) : Option Int :=
  if t < j.1 then (match f with | none => some j.1 | some c => if j.1 < c then some j.1 else some c) else f
def upF (js : List Job) (t : Int) : Option Int := js.foldl (upStep t) none
def UpSpec (js : List Job) (t : Int) : Option Int → Prop
  | none => ∀ j ∈ js, j.1 ≤ t
  | some c => t < c ∧ (∃ j ∈ js, j.1 = c) ∧ ∀ j ∈ js, t < j.1 → c ≤ j.1
theorem upStep_spec {js : List Job} {t : Int} {f : Option Int} {j : Job} (h : UpSpec js t f) : UpSpec (js ++ [j]) t (upStep t f j) := by
  unfold upStep
  by_cases q : t < j.1
  · rw [if_pos q]
    cases f with
    | none =>
      refine ⟨q, ⟨j, by simp, rfl⟩, fun k hk hk2 => ?_⟩
      rcases List.mem_append.mp hk with hk | hk
      · have := h k hk
        omega
      · rw [List.mem_singleton.mp hk]
        exact Int.le_refl _
    | some c =>
      obtain ⟨h1, ⟨i, hi, h2⟩, h3⟩ := h
      dsimp only
      by_cases c2 : j.1 < c
      · rw [if_pos c2]
        refine ⟨q, ⟨j, by simp, rfl⟩, fun k hk hk2 => ?_⟩
        rcases List.mem_append.mp hk with hk | hk
        · have := h3 k hk hk2
          omega
        · rw [List.mem_singleton.mp hk]
          exact Int.le_refl _
      · rw [if_neg c2]
        refine ⟨h1, ⟨i, List.mem_append_left _ hi, h2⟩, fun k hk hk2 => ?_⟩
        rcases List.mem_append.mp hk with hk | hk
        · exact h3 k hk hk2
        · rw [List.mem_singleton.mp hk]
          omega
  · rw [if_neg q]
    cases f with
    | none =>
      intro k hk
      rcases List.mem_append.mp hk with hk | hk
      · exact h k hk
      · rw [List.mem_singleton.mp hk]
        omega
    | some c =>
      obtain ⟨h1, ⟨i, hi, h2⟩, h3⟩ := h
      refine ⟨h1, ⟨i, List.mem_append_left _ hi, h2⟩, fun k hk hk2 => ?_⟩
      rcases List.mem_append.mp hk with hk | hk
      · exact h3 k hk hk2
      · rw [List.mem_singleton.mp hk] at hk2
        exact absurd hk2 q
theorem up_fold (t : Int) : ∀ (js ks : List Job) (f : Option Int), UpSpec ks t f → UpSpec (ks ++ js) t (js.foldl (upStep t) f)
  | [], ks, f, h => by rw [List.append_nil]; exact h
  | j :: js, ks, f, h => by
    have := up_fold t js (ks ++ [j]) _ (upStep_spec (j := j) h)
    rw [List.append_assoc] at this
    exact this
theorem upF_spec (js : List Job) (t : Int) : UpSpec js t (upF js t) := by
  have := up_fold t js [] none (fun j h => by cases h)
  exact this
theorem upF_take {js : List Job} {t : Int} {i : Nat} {j : Job} (h : js[i]? = some j) : upF (js.take (i + 1)) t = upStep t (upF (js.take i) t) j := by
  have e : js.take (i + 1) = js.take i ++ [j] := by
    rw [List.take_succ, h]
    rfl
  unfold upF
  rw [e, List.foldl_append]
  rfl
/-! ### pieces put together -/
abbrev Piece := Int × Int × Int
def joinF (ps : List Piece) (p : Piece) : List Piece :=
  match ps.getLast? with
  | none => ps ++ [p]
  | some l => if l.1 = p.1 ∧ l.2.2 = p.2.1 then ps.dropLast ++ [(p.1, l.2.1, p.2.2)] else ps ++ [p]
theorem joinF_last {ps : List Piece} {l p : Piece} : joinF (ps ++ [l]) p = if l.1 = p.1 ∧ l.2.2 = p.2.1 then ps ++ [(p.1, l.2.1, p.2.2)] else ps ++ [l] ++ [p] := by
  unfold joinF
  rw [List.getLast?_concat, List.dropLast_concat]
/-! ### the run's steps -/
abbrev WS := List Int × List Piece × Int
def stopF (t l : Int) : Option Int → Int
  | none => t + l
  | some c => if c < t + l then c else t + l
def wStep (js : List Job) (w : WS) : WS :=
  match nearF js w.1 w.2.2 with
  | none => (w.1, w.2.1, (upF js w.2.2).getD 0)
  | some p => (w.1.set p (lAt w.1 p - (stopF w.2.2 (lAt w.1 p) (upF js w.2.2) - w.2.2)), joinF w.2.1 ((p : Int), w.2.2, stopF w.2.2 (lAt w.1 p) (upF js w.2.2)), stopF w.2.2 (lAt w.1 p) (upF js w.2.2))
def lens (js : List Job) : List Int := js.map fun j => j.2.1
def wIter (js : List Job) : Nat → WS
  | 0 => (lens js, [], 0)
  | n + 1 => wStep js (wIter js n)
def Busy (left : List Int) : Prop := ∃ x ∈ left, 0 < x
theorem foldl_max_lt : ∀ (l : List Int) (n : Int), 0 < l.foldl max n ↔ 0 < n ∨ ∃ x ∈ l, 0 < x
  | [], n => by simp
  | a :: l, n => by
    rw [List.foldl_cons, foldl_max_lt l]
    constructor
    · rintro (h | ⟨x, hx, h⟩)
      · by_cases q : 0 < n
        · exact .inl q
        · exact .inr ⟨a, List.mem_cons_self, by omega⟩
      · exact .inr ⟨x, List.mem_cons_of_mem _ hx, h⟩
    · rintro (h | ⟨x, hx, h⟩)
      · exact .inl (by omega)
      · rcases List.mem_cons.mp hx with e | hx
        · subst e
          exact .inl (by omega)
        · exact .inr ⟨x, hx, h⟩
theorem mxD_pos (l : List Int) : 0 < mxD l 0 ↔ Busy l := by
  cases l with
  | nil => simp [mxD, Busy]
  | cons n ns =>
    show 0 < ns.foldl max n ↔ _
    rw [foldl_max_lt]
    constructor
    · rintro (h | ⟨x, hx, h⟩)
      · exact ⟨n, List.mem_cons_self, h⟩
      · exact ⟨x, List.mem_cons_of_mem _ hx, h⟩
    · rintro ⟨x, hx, h⟩
      rcases List.mem_cons.mp hx with e | hx
      · subst e
        exact .inl h
      · exact .inr ⟨x, hx, h⟩
theorem busy_at {l : List Int} (h : Busy l) : ∃ i, i < l.length ∧ 0 < lAt l i := by
  obtain ⟨x, hx, h0⟩ := h
  obtain ⟨i, hi, e⟩ := List.getElem_of_mem hx
  exact ⟨i, hi, by rw [lAt_of (List.getElem?_eq_getElem hi), e]; exact h0⟩
theorem lAt_pos_lt {l : List Int} {i : Nat} (h : 0 < lAt l i) : i < l.length := by
  by_cases q : i < l.length
  · exact q
  · rw [lAt, List.getD_eq_getElem?_getD, List.getElem?_eq_none (by omega)] at h
    exact absurd h (by decide)
theorem busy_of {l : List Int} {i : Nat} (h : 0 < lAt l i) : Busy l :=
  ⟨lAt l i, List.mem_of_getElem? (getD_some (lAt_pos_lt h)), h⟩
theorem lAt_set {l : List Int} {i j : Nat} {x : Int} (hi : i < l.length) : lAt (l.set i x) j = if j = i then x else lAt l j := by
  by_cases e : j = i
  · subst e
    rw [if_pos rfl]
    exact lAt_of (List.getElem?_set_self hi)
  · rw [if_neg e, lAt, lAt, List.getD_eq_getElem?_getD, List.getD_eq_getElem?_getD, List.getElem?_set_ne (Ne.symm e)]
/-! ### what the pieces keep -/
def lastE (ps : List Piece) : Int := match ps.getLast? with
  | none => 0
  | some p => p.2.2
theorem lastE_snoc (ps : List Piece) (p : Piece) : lastE (ps ++ [p]) = p.2.2 := by
  unfold lastE
  rw [List.getLast?_concat]
def leftStep (l : List Int) (p : Piece) : List Int := l.set p.1.toNat (lAt l p.1.toNat - (p.2.2 - p.2.1))
def leftAf (js : List Job) (ps : List Piece) : List Int := ps.foldl leftStep (lens js)
theorem leftAf_snoc (js : List Job) (ps : List Piece) (p : Piece) : leftAf js (ps ++ [p]) = leftStep (leftAf js ps) p := by
  unfold leftAf
  rw [List.foldl_append]
  rfl
theorem leftAf_len (js : List Job) : ∀ ps : List Piece, (leftAf js ps).length = js.length := fun ps => by
  unfold leftAf
  have : ∀ (ps : List Piece) (l : List Int), (ps.foldl leftStep l).length = l.length := fun ps => by
    induction ps with
    | nil => intro l; rfl
    | cons p ps ih =>
      intro l
      rw [List.foldl_cons, ih]
      exact List.length_set
  rw [this, lens, List.length_map]
/-- a piece behind which left is what is not done, t the end of the piece ahead -/
structure Cond (js : List Job) (left : List Int) (t : Int) (p : Piece) : Prop where
  p0 : 0 ≤ p.1
  pn : p.1.toNat < js.length
  tb : t ≤ p.2.1
  be : p.2.1 < p.2.2
  come : (jAt js p.1.toNat).1 ≤ p.2.1
  much : p.2.2 - p.2.1 ≤ lAt left p.1.toNat
  gap : ∀ i, i < js.length → 0 < lAt left i → t < p.2.1 → p.2.1 ≤ (jAt js i).1
  fst : ∀ i, i < js.length → 0 < lAt left i → (jAt js i).1 < p.2.2 → Fst js p.1.toNat i
  beg : t = p.2.1 ∨ ∃ j ∈ js, j.1 = p.2.1
def GoodAll (js : List Job) (ps : List Piece) : Prop := ∀ (i : Nat) (p : Piece), ps[i]? = some p → Cond js (leftAf js (ps.take i)) (lastE (ps.take i)) p
theorem good_snoc {js : List Job} {ps : List Piece} {p : Piece} : GoodAll js (ps ++ [p]) ↔ GoodAll js ps ∧ Cond js (leftAf js ps) (lastE ps) p := by
  constructor
  · intro h
    refine ⟨fun i q hq => ?_, ?_⟩
    · have hi := (List.getElem?_eq_some_iff.mp hq).1
      have := h i q (by rw [List.getElem?_append_left hi]; exact hq)
      rw [List.take_append_of_le_length (by omega)] at this
      exact this
    · have := h ps.length p (by rw [List.getElem?_append_right (Nat.le_refl _), Nat.sub_self]; rfl)
      rw [List.take_append_of_le_length (Nat.le_refl _), List.take_length] at this
      exact this
  · rintro ⟨h1, h2⟩ i q hq
    by_cases hi : i < ps.length
    · rw [List.getElem?_append_left hi] at hq
      rw [List.take_append_of_le_length (by omega)]
      exact h1 i q hq
    · have hl := (List.getElem?_eq_some_iff.mp hq).1
      rw [List.length_append, List.length_singleton] at hl
      have e : i = ps.length := by omega
      subst e
      rw [List.getElem?_append_right (Nat.le_refl _), Nat.sub_self] at hq
      have e : p = q := Option.some.inj hq
      subst e
      rw [List.take_append_of_le_length (Nat.le_refl _), List.take_length]
      exact h2
/-- no two neighbours of one job touch -/
def Apart (ps : List Piece) : Prop := ∀ (i : Nat) (p q : Piece), ps[i]? = some p → ps[i + 1]? = some q → ¬ (p.1 = q.1 ∧ p.2.2 = q.2.1)
theorem apart_snoc {ps : List Piece} {p : Piece} (h : Apart ps) (hl : ∀ l, ps.getLast? = some l → ¬ (l.1 = p.1 ∧ l.2.2 = p.2.1)) : Apart (ps ++ [p]) := fun i a b ha hb => by
  have hi := (List.getElem?_eq_some_iff.mp hb).1
  rw [List.length_append, List.length_singleton] at hi
  rw [List.getElem?_append_left (by omega)] at ha
  by_cases q : i + 1 < ps.length
  · rw [List.getElem?_append_left q] at hb
    exact h i a b ha hb
  · have e : i + 1 = ps.length := by omega
    rw [List.getElem?_append_right (by omega), show i + 1 - ps.length = 0 by omega] at hb
    have e2 : p = b := Option.some.inj hb
    subst e2
    refine hl a ?_
    rw [List.getLast?_eq_getElem?, ← e]
    exact ha
theorem apart_init {ps : List Piece} {p : Piece} (h : Apart (ps ++ [p])) : Apart ps := fun i a b ha hb => by
  have hi := (List.getElem?_eq_some_iff.mp hb).1
  exact h i a b (by rw [List.getElem?_append_left (by omega)]; exact ha) (by rw [List.getElem?_append_left hi]; exact hb)
def cntA (js : List Job) (t : Int) : Nat := js.countP fun j => decide (t < j.1)
def cntB (left : List Int) : Nat := left.countP fun x => decide (0 < x)
theorem countP_lt {α : Type} {p q : α → Bool} : ∀ {l : List α}, (∀ x ∈ l, p x = true → q x = true) → (∃ x ∈ l, q x = true ∧ p x = false) → l.countP p < l.countP q
  | [], _, ⟨x, hx, _⟩ => by cases hx
  | a :: l, h, ⟨x, hx, h1, h2⟩ => by
    have le : l.countP p ≤ l.countP q := List.countP_mono_left fun y hy => h y (List.mem_cons_of_mem _ hy)
    rcases List.mem_cons.mp hx with e | hx
    · subst e
      rw [List.countP_cons_of_neg (by rw [h2]; decide), List.countP_cons_of_pos h1]
      omega
    · have ih := countP_lt (fun y hy => h y (List.mem_cons_of_mem _ hy)) ⟨x, hx, h1, h2⟩
      have ha := h a List.mem_cons_self
      by_cases c : p a = true
      · rw [List.countP_cons_of_pos c, List.countP_cons_of_pos (ha c)]
        omega
      · rw [List.countP_cons_of_neg c]
        have : l.countP q ≤ (a :: l).countP q := by rw [List.countP_cons]; omega
        omega
theorem cntA_le {js : List Job} {t u : Int} (h : t ≤ u) : cntA js u ≤ cntA js t := List.countP_mono_left fun x _ hx => by
  rw [decide_eq_true_eq] at hx ⊢
  omega
theorem cntA_lt {js : List Job} {t u : Int} (h : t < u) (hj : ∃ j ∈ js, j.1 = u) : cntA js u < cntA js t := by
  obtain ⟨j, hj, e⟩ := hj
  refine countP_lt (fun x _ hx => ?_) ⟨j, hj, ?_, ?_⟩
  · rw [decide_eq_true_eq] at hx ⊢
    omega
  · rw [decide_eq_true_eq]
    omega
  · rw [decide_eq_false_iff_not]
    omega
theorem cntB_set : ∀ {l : List Int} {i : Nat} {x : Int}, i < l.length → x ≤ lAt l i → cntB (l.set i x) ≤ cntB l ∧ (0 < lAt l i → x ≤ 0 → cntB (l.set i x) < cntB l)
  | [], i, _, h, _ => absurd h (Nat.not_lt_zero i)
  | a :: l, 0, x, _, h => by
    have h : x ≤ a := h
    show (x :: l).countP _ ≤ (a :: l).countP _ ∧ (0 < a → x ≤ 0 → (x :: l).countP _ < (a :: l).countP _)
    rw [List.countP_cons, List.countP_cons]
    by_cases q : 0 < x <;> by_cases q2 : 0 < a <;> simp [q, q2] <;> omega
  | a :: l, i + 1, x, h, h2 => by
    have ih := cntB_set (l := l) (i := i) (x := x) (by simpa using h) h2
    show (a :: l.set i x).countP _ ≤ (a :: l).countP _ ∧ (0 < lAt l i → x ≤ 0 → (a :: l.set i x).countP _ < (a :: l).countP _)
    unfold cntB at ih
    rw [List.countP_cons, List.countP_cons]
    omega
structure RInv (js : List Job) (w : WS) : Prop where
  lf : w.1 = leftAf js w.2.1
  nn : ∀ i, 0 ≤ lAt w.1 i
  good : GoodAll js w.2.1
  le : lastE w.2.1 ≤ w.2.2
  wait : lastE w.2.1 < w.2.2 → (∀ i, i < js.length → 0 < lAt w.1 i → w.2.2 ≤ (jAt js i).1) ∧ ∃ j ∈ js, j.1 = w.2.2
  apart : Apart w.2.1
  few : w.2.1.length + (cntA js w.2.2 + cntB w.1) ≤ 2 * js.length
  few2 : (∃ j ∈ js, j.1 ≤ w.2.2) → w.2.1.length + (cntA js w.2.2 + cntB w.1) + 1 ≤ 2 * js.length
theorem RInv.len {js : List Job} {w : WS} (h : RInv js w) : w.1.length = js.length := by
  rw [h.lf]
  exact leftAf_len js _
theorem jAt_mem {js : List Job} {i : Nat} (h : i < js.length) : jAt js i ∈ js := List.mem_of_getElem? (getD_some h)
theorem lAt_lens {js : List Job} {i : Nat} (h : i < js.length) : lAt (lens js) i = (jAt js i).2.1 := by
  refine lAt_of ?_
  rw [lens, List.getElem?_map, getD_some (d := J0) h]
  rfl
theorem rinv_start {js : List Job} (hs : AllS js) : RInv js (wIter js 0) := by
  have cB : cntB (lens js) ≤ js.length := by
    have := List.countP_le_length (p := fun x : Int => decide (0 < x)) (l := lens js)
    rw [lens, List.length_map] at this
    exact this
  have cA : cntA js 0 ≤ js.length := List.countP_le_length
  refine ⟨rfl, fun i => ?_, fun i p h => (by cases i <;> cases h), Int.le_refl 0, fun h => absurd h (Int.lt_irrefl 0), fun i p q h => (by cases i <;> cases h), ?_, fun ⟨j, hj, h0⟩ => ?_⟩
  · show 0 ≤ lAt (lens js) i
    by_cases q : i < js.length
    · rw [lAt_lens q]
      have := (hs _ (jAt_mem q)).2.1
      omega
    · rw [lAt, List.getD_eq_getElem?_getD, List.getElem?_eq_none (by rw [lens, List.length_map]; omega)]
      decide
  · show 0 + (cntA js 0 + cntB (lens js)) ≤ _
    omega
  · show 0 + (cntA js 0 + cntB (lens js)) + 1 ≤ _
    have : cntA js 0 < js.length := by
      have h1 := countP_lt (l := js) (p := fun j : Job => decide (0 < j.1)) (q := fun _ => true) (fun _ _ _ => rfl) ⟨j, hj, rfl, by rw [decide_eq_false_iff_not]; have h0 : j.1 ≤ 0 := h0; omega⟩
      have h2 := List.countP_le_length (p := fun _ : Job => true) (l := js)
      unfold cntA
      omega
    omega
theorem mem_jAt {js : List Job} {j : Job} (h : j ∈ js) : ∃ i, i < js.length ∧ jAt js i = j := by
  obtain ⟨i, hi, e⟩ := List.getElem_of_mem h
  exact ⟨i, hi, by rw [jAt_of (List.getElem?_eq_getElem hi), e]⟩
/-- one step: the invariant stays, the counts fall -/
theorem rinv_step {js : List Job} {w : WS} (h : RInv js w) (hb : Busy w.1) : RInv js (wStep js w) ∧ cntA js (wStep js w).2.2 + cntB (wStep js w).1 < cntA js w.2.2 + cntB w.1 := by
  obtain ⟨left, ps, t⟩ := w
  obtain ⟨h1, h2, h3, h4, h5, h6, h7, h8⟩ := h
  have hl : left.length = js.length := by
    have h1 : left = leftAf js ps := h1
    rw [h1]
    exact leftAf_len js _
  have hn := nearF_spec js left t
  have hu := upF_spec js t
  simp only at h1 h2 h3 h4 h5 h6 h7 h8 hb
  unfold wStep
  dsimp only
  generalize nearF js left t = b at hn
  generalize upF js t = c at hu
  cases b with
  | none =>
    -- nobody is there
    obtain ⟨i, hi, hp⟩ := busy_at hb
    rw [hl] at hi
    have hc : t < (jAt js i).1 := by
      by_cases q : (jAt js i).1 ≤ t
      · exact absurd ⟨q, hp⟩ (hn i hi)
      · omega
    cases c with
    | none => exact absurd (hu _ (jAt_mem hi)) (by omega)
    | some c =>
      obtain ⟨u1, u2, u3⟩ := hu
      have lt := cntA_lt (js := js) u1 u2
      refine ⟨⟨h1, h2, h3, by show lastE ps ≤ c; omega, fun _ => ⟨fun k hk hk2 => ?_, u2⟩, h6, ?_, fun _ => ?_⟩, ?_⟩
      · show c ≤ (jAt js k).1
        refine u3 _ (jAt_mem hk) ?_
        by_cases q : (jAt js k).1 ≤ t
        · exact absurd ⟨q, hk2⟩ (hn k hk)
        · omega
      · show ps.length + (cntA js c + cntB left) ≤ _
        omega
      · show ps.length + (cntA js c + cntB left) + 1 ≤ _
        omega
      · show cntA js c + cntB left < cntA js t + cntB left
        omega
  | some p =>
    obtain ⟨n1, ⟨n2, n3⟩, n4⟩ := hn
    dsimp only
    -- when it stops
    have hst : ∃ e, stopF t (lAt left p) c = e ∧ t < e ∧ e ≤ t + lAt left p ∧ (∀ j ∈ js, t < j.1 → e ≤ j.1) ∧ ((∃ j ∈ js, j.1 = e) ∨ e = t + lAt left p) := by
      refine ⟨_, rfl, ?_⟩
      cases c with
      | none =>
        refine ⟨by show t < t + lAt left p; omega, Int.le_refl _, fun j hj hj2 => ?_, .inr rfl⟩
        have := hu j hj
        omega
      | some c =>
        obtain ⟨u1, u2, u3⟩ := hu
        show t < (if c < t + lAt left p then c else t + lAt left p) ∧ (if c < t + lAt left p then c else t + lAt left p) ≤ t + lAt left p ∧ (∀ j ∈ js, t < j.1 → (if c < t + lAt left p then c else t + lAt left p) ≤ j.1) ∧ ((∃ j ∈ js, j.1 = (if c < t + lAt left p then c else t + lAt left p)) ∨ (if c < t + lAt left p then c else t + lAt left p) = t + lAt left p)
        by_cases q : c < t + lAt left p
        · rw [if_pos q]
          exact ⟨u1, by omega, u3, .inl u2⟩
        · rw [if_neg q]
          refine ⟨by omega, Int.le_refl _, fun j hj hj2 => ?_, .inr rfl⟩
          have := u3 j hj hj2
          omega
    obtain ⟨e, he, e1, e2, e3, e4⟩ := hst
    rw [he]
    have hpl : p < left.length := by omega
    have hx : lAt left p - (e - t) ≤ lAt left p := by omega
    obtain ⟨cb1, cb2⟩ := cntB_set (l := left) (i := p) (x := lAt left p - (e - t)) hpl hx
    have ca := cntA_le (js := js) (show t ≤ e by omega)
    have fall : cntA js e + cntB (left.set p (lAt left p - (e - t))) < cntA js t + cntB left := by
      rcases e4 with e4 | e4
      · have := cntA_lt (js := js) e1 e4
        omega
      · have := cb2 n3 (by omega)
        omega
    -- the chosen one is ahead of all that come before e
    have ahead : ∀ i, i < js.length → 0 < lAt left i → (jAt js i).1 < e → Fst js p i := fun i hi hi2 hi3 => by
      refine n4 i hi ⟨?_, hi2⟩
      by_cases q : (jAt js i).1 ≤ t
      · exact q
      · have := e3 _ (jAt_mem hi) (by omega)
        omega
    have nn' : ∀ i, 0 ≤ lAt (left.set p (lAt left p - (e - t))) i := fun i => by
      rw [lAt_set hpl]
      split
      · omega
      · exact h2 i
    have there : ∃ j ∈ js, j.1 ≤ t := ⟨_, jAt_mem n1, n2⟩
    have f8 := h8 there
    -- the piece joined, or put behind
    have main : leftAf js (joinF ps ((p : Int), t, e)) = left.set p (lAt left p - (e - t)) ∧ GoodAll js (joinF ps ((p : Int), t, e)) ∧ lastE (joinF ps ((p : Int), t, e)) = e ∧ Apart (joinF ps ((p : Int), t, e)) ∧ (joinF ps ((p : Int), t, e)).length ≤ ps.length + 1 := by
      have new : Cond js left (lastE ps) ((p : Int), t, e) := by
        refine ⟨by show (0 : Int) ≤ (p : Int); omega, by show (p : Int).toNat < _; simpa using n1, h4, e1, by simpa using n2, by show e - t ≤ lAt left (p : Int).toNat; rw [Int.toNat_natCast]; omega, fun i hi hi2 hi3 => (h5 hi3).1 i hi hi2, fun i hi hi2 hi3 => ?_, ?_⟩
        · show Fst js (p : Int).toNat i
          rw [Int.toNat_natCast]
          exact ahead i hi hi2 hi3
        · by_cases q : lastE ps = t
          · exact .inl q
          · exact .inr (h5 (by omega)).2
      have put : leftAf js (ps ++ [((p : Int), t, e)]) = left.set p (lAt left p - (e - t)) := by
        rw [leftAf_snoc, ← h1]
        show left.set (p : Int).toNat (lAt left (p : Int).toNat - (e - t)) = _
        rw [Int.toNat_natCast]
      have put2 : GoodAll js (ps ++ [((p : Int), t, e)]) := good_snoc.mpr ⟨h3, by rw [← h1]; exact new⟩
      rcases List.eq_nil_or_concat ps with e0 | ⟨qs, l, e0⟩
      · subst e0
        exact ⟨put, put2, rfl, apart_snoc h6 (fun l hl => by cases hl), by simp [joinF]⟩
      · rw [List.concat_eq_append] at e0
        subst e0
        rw [joinF_last]
        by_cases q : l.1 = ((p : Int), t, e).1 ∧ l.2.2 = ((p : Int), t, e).2.1
        · rw [if_pos q]
          obtain ⟨q1, q2⟩ := q
          obtain ⟨lp, lb, le⟩ := l
          have q1 : lp = (p : Int) := q1
          have q2 : le = t := q2
          subst q1
          subst q2
          obtain ⟨g1, g2⟩ := good_snoc.mp h3
          have hL : left = leftStep (leftAf js qs) ((p : Int), lb, le) := by rw [h1, leftAf_snoc]
          have hql : p < (leftAf js qs).length := by rw [leftAf_len]; exact n1
          have hLp : lAt left p = lAt (leftAf js qs) p - (le - lb) := by
            rw [hL]
            show lAt ((leftAf js qs).set (p : Int).toNat _) p = _
            rw [Int.toNat_natCast, lAt_set hql, if_pos rfl]
          have hLo : ∀ i, i ≠ p → lAt left i = lAt (leftAf js qs) i := fun i hi => by
            rw [hL]
            show lAt ((leftAf js qs).set (p : Int).toNat _) i = _
            rw [Int.toNat_natCast, lAt_set hql, if_neg hi]
          have gb : lb < le := g2.be
          refine ⟨?_, good_snoc.mpr ⟨g1, ?_⟩, by rw [lastE_snoc], ?_, by simp⟩
          · rw [leftAf_snoc]
            show (leftAf js qs).set (p : Int).toNat (lAt (leftAf js qs) (p : Int).toNat - (e - lb)) = _
            rw [Int.toNat_natCast, hLp, hL]
            show _ = ((leftAf js qs).set (p : Int).toNat _).set p _
            rw [Int.toNat_natCast, List.set_set]
            congr 1
            omega
          · refine ⟨g2.p0, g2.pn, g2.tb, by show lb < e; omega, g2.come, ?_, g2.gap, fun i hi hi2 hi3 => ?_, g2.beg⟩
            · show e - lb ≤ lAt (leftAf js qs) (p : Int).toNat
              rw [Int.toNat_natCast]
              omega
            · show Fst js (p : Int).toNat i
              rw [Int.toNat_natCast]
              by_cases ip : i = p
              · subst ip
                exact .inr ⟨rfl, Nat.le_refl _⟩
              · exact ahead i hi (by rw [hLo i ip]; exact hi2) hi3
          · refine apart_snoc (apart_init h6) fun m hm hm2 => ?_
            -- the joined piece begins where the last one did
            have hq : qs[qs.length - 1]? = some m := by
              rw [List.getLast?_eq_getElem?] at hm
              exact hm
            have hne : 0 < qs.length := by
              cases qs with
              | nil => cases hm
              | cons a r => exact Nat.zero_lt_succ _
            refine h6 (qs.length - 1) m ((p : Int), lb, le) (by rw [List.getElem?_append_left (by omega)]; exact hq) ?_ hm2
            rw [show qs.length - 1 + 1 = qs.length by omega, List.getElem?_append_right (Nat.le_refl _), Nat.sub_self]
            rfl
        · rw [if_neg q]
          refine ⟨put, put2, by rw [lastE_snoc], apart_snoc h6 fun m hm => ?_, by simp⟩
          rw [List.getLast?_concat] at hm
          have em : l = m := Option.some.inj hm
          subst em
          exact q
    obtain ⟨m1, m2, m3, m4, m5⟩ := main
    refine ⟨⟨m1.symm, nn', m2, Int.le_of_eq m3, fun z => absurd z (by show ¬ lastE (joinF ps ((p : Int), t, e)) < e; omega), m4, ?_, fun _ => ?_⟩, fall⟩
    · show (joinF ps ((p : Int), t, e)).length + (cntA js e + cntB (left.set p (lAt left p - (e - t)))) ≤ _
      omega
    · show (joinF ps ((p : Int), t, e)).length + (cntA js e + cntB (left.set p (lAt left p - (e - t)))) + 1 ≤ _
      omega
theorem rinv_at {js : List Job} (hs : AllS js) : ∀ n, (∀ i, i < n → Busy (wIter js i).1) → RInv js (wIter js n) ∧ n + (cntA js (wIter js n).2.2 + cntB (wIter js n).1) ≤ 2 * js.length
  | 0, _ => by
    have h := rinv_start hs
    refine ⟨h, ?_⟩
    have := h.few
    omega
  | n + 1, hb => by
    obtain ⟨h1, h2⟩ := rinv_at hs n fun i hi => hb i (by omega)
    obtain ⟨h3, h4⟩ := rinv_step h1 (hb n (Nat.lt_succ_self n))
    refine ⟨h3, ?_⟩
    show n + 1 + (cntA js (wStep js (wIter js n)).2.2 + cntB (wStep js (wIter js n)).1) ≤ _
    omega
theorem w_stops {js : List Job} (hs : AllS js) : ∃ N, (∀ i, i < N → Busy (wIter js i).1) ∧ ¬ Busy (wIter js N).1 := by
  have go : ∀ k n, n + k = 2 * js.length + 1 → (∀ i, i < n → Busy (wIter js i).1) → ∃ N, (∀ i, i < N → Busy (wIter js i).1) ∧ ¬ Busy (wIter js N).1 := by
    intro k
    induction k with
    | zero =>
      intro n hn hb
      have := (rinv_at hs n hb).2
      omega
    | succ k ih =>
      intro n hn hb
      by_cases q : Busy (wIter js n).1
      · exact ih (n + 1) (by omega) fun i hi => by
          by_cases e : i = n
          · subst e
            exact q
          · exact hb i (by omega)
      · exact ⟨n, hb, q⟩
  exact go (2 * js.length + 1) 0 (by omega) fun i hi => absurd hi (Nat.not_lt_zero i)
open Classical in
noncomputable def wN (js : List Job) : Nat := if h : ∃ N, (∀ i, i < N → Busy (wIter js i).1) ∧ ¬ Busy (wIter js N).1 then Classical.choose h else 0
theorem wN_spec {js : List Job} (hs : AllS js) : (∀ i, i < wN js → Busy (wIter js i).1) ∧ ¬ Busy (wIter js (wN js)).1 := by
  have h := w_stops hs
  unfold wN
  rw [dif_pos h]
  exact Classical.choose_spec h
/-- the pieces of the run -/
noncomputable def workedF (js : List Job) : List Piece := (wIter js (wN js)).2.1
structure Ran (js : List Job) (ps : List Piece) : Prop where
  good : GoodAll js ps
  done : ∀ i, lAt (leftAf js ps) i = 0
  apart : Apart ps
  few : js ≠ [] → ps.length < 2 * js.length
theorem ran {js : List Job} (hs : AllS js) : Ran js (workedF js) := by
  obtain ⟨h1, h2⟩ := wN_spec hs
  have h := (rinv_at hs (wN js) h1).1
  refine ⟨h.good, fun i => ?_, h.apart, fun hn => ?_⟩
  · show lAt (leftAf js (wIter js (wN js)).2.1) i = 0
    rw [← h.lf]
    have a := h.nn i
    by_cases q : 0 < lAt (wIter js (wN js)).1 i
    · exact absurd (busy_of q) h2
    · omega
  · show (wIter js (wN js)).2.1.length < _
    have hp : 0 < js.length := by
      cases js with
      | nil => exact absurd rfl hn
      | cons a l => exact Nat.zero_lt_succ _
    rcases List.eq_nil_or_concat (wIter js (wN js)).2.1 with e | ⟨qs, l, e⟩
    · rw [e]
      show 0 < _
      omega
    · rw [List.concat_eq_append] at e
      have g := h.good
      have le := h.le
      rw [e] at g le
      rw [lastE_snoc] at le
      have c := (good_snoc.mp g).2
      have := h.few2 ⟨_, jAt_mem c.pn, by have := c.come; have := c.be; omega⟩
      omega
theorem ran_len {js : List Job} (hs : AllS js) : (workedF js).length ≤ 2 * js.length := by
  obtain ⟨h1, h2⟩ := wN_spec hs
  have h := (rinv_at hs (wN js) h1).1.few
  show (wIter js (wN js)).2.1.length ≤ _
  omega
theorem leftAf_take {js : List Job} {ps : List Piece} {i : Nat} {p : Piece} (h : ps[i]? = some p) : leftAf js (ps.take (i + 1)) = leftStep (leftAf js (ps.take i)) p := by
  have e : ps.take (i + 1) = ps.take i ++ [p] := by
    rw [List.take_succ, h]
    rfl
  rw [e, leftAf_snoc]
theorem lastE_take {ps : List Piece} {i : Nat} {p : Piece} (h : ps[i]? = some p) : lastE (ps.take (i + 1)) = p.2.2 := by
  have e : ps.take (i + 1) = ps.take i ++ [p] := by
    rw [List.take_succ, h]
    rfl
  rw [e, lastE_snoc]
theorem zeros_of {l : List Int} {n : Nat} (hl : l.length = n) (h : ∀ i, lAt l i = 0) : l = List.replicate n 0 := by
  refine List.ext_getElem? fun i => ?_
  by_cases q : i < n
  · rw [List.getElem?_replicate, if_pos q, getD_some (d := (0 : Int)) (by omega)]
    exact congrArg some (h i)
  · rw [List.getElem?_eq_none (by omega), List.getElem?_eq_none (by rw [List.length_replicate]; omega)]
theorem ixN_pos {n : Nat} {z : Int} (h0 : 0 ≤ z) (h1 : z.toNat < n) : ixN n z = some z.toNat := by
  unfold ixN
  rw [if_pos h0, if_pos (by omega)]
theorem snoc_ind {α : Type} {P : List α → Prop} (h0 : P []) (h1 : ∀ l a, P l → P (l ++ [a])) (l : List α) : P l := by
  have : ∀ n (l : List α), l.length = n → P l := by
    intro n
    induction n with
    | zero => intro l h; cases l with
      | nil => exact h0
      | cons a r => cases h
    | succ n ih =>
      intro l h
      rcases List.eq_nil_or_concat l with e | ⟨r, a, e⟩
      · subst e
        exact h0
      · rw [List.concat_eq_append] at e
        subst e
        rw [List.length_append, List.length_singleton] at h
        exact h1 r a (ih r (by omega))
  exact this l.length l rfl
/-! ### when each job ends, who is late -/
def endStep (l : List Int) (p : Piece) : List Int := l.set p.1.toNat p.2.2
def endsAf (n : Nat) (ps : List Piece) : List Int := ps.foldl endStep (List.replicate n 0)
theorem endsAf_snoc (n : Nat) (ps : List Piece) (p : Piece) : endsAf n (ps ++ [p]) = endStep (endsAf n ps) p := by
  unfold endsAf
  rw [List.foldl_append]
  rfl
theorem endsAf_take {n : Nat} {ps : List Piece} {i : Nat} {p : Piece} (h : ps[i]? = some p) : endsAf n (ps.take (i + 1)) = endStep (endsAf n (ps.take i)) p := by
  have e : ps.take (i + 1) = ps.take i ++ [p] := by
    rw [List.take_succ, h]
    rfl
  rw [e, endsAf_snoc]
theorem endsAf_len (n : Nat) (ps : List Piece) : (endsAf n ps).length = n := by
  revert ps
  refine fun ps => snoc_ind (P := fun ps => (endsAf n ps).length = n) ?_ ?_ ps
  · exact List.length_replicate
  · intro ps p ih
    show (endsAf n (ps ++ [p])).length = n
    rw [endsAf_snoc, endStep, List.length_set, ih]
/-- places of jobs -/
def PlacesIn (n : Nat) (ps : List Piece) : Prop := ∀ p ∈ ps, 0 ≤ p.1 ∧ p.1.toNat < n
theorem good_places {js : List Job} {ps : List Piece} (h : GoodAll js ps) : PlacesIn js.length ps := fun p hp => by
  obtain ⟨i, hi, e⟩ := List.getElem_of_mem hp
  have c := h i p (by rw [List.getElem?_eq_getElem hi, e])
  exact ⟨c.p0, c.pn⟩
noncomputable def endsF (js : List Job) : List Int := endsAf js.length (workedF js)
theorem endsF_len (js : List Job) : (endsF js).length = js.length := endsAf_len _ _
/-- late, in the order of the places: (due, place) -/
def latePr (js : List Job) (es : List Int) : List (Int × Int) := ((List.range js.length).filter fun k => decide ((jAt js k).2.2 < lAt es k)).map fun k => ((jAt js k).2.2, (k : Int))
def lexLe (x y : Int × Int) : Bool := !SrtO.lexB y x
theorem lexLe_iff {x y : Int × Int} : lexLe x y = true ↔ x.1 < y.1 ∨ (x.1 = y.1 ∧ x.2 ≤ y.2) := by
  unfold lexLe
  rw [Bool.not_eq_true', SrtO.lexB_no]
  omega
def lateSrt (js : List Job) (es : List Int) : List (Int × Int) := (latePr js es).mergeSort lexLe
theorem lateSrt_pw (js : List Job) (es : List Int) : (lateSrt js es).Pairwise fun x y => SrtO.lexB y x = false := by
  have h := List.pairwise_mergeSort (le := lexLe) (fun a b c h1 h2 => by rw [lexLe_iff] at *; omega) (fun a b => by rw [Bool.or_eq_true, lexLe_iff, lexLe_iff]; omega) (latePr js es)
  refine List.Pairwise.imp (fun {a b} h => ?_) h
  unfold lexLe at h
  simpa using h
theorem lateSrt_perm (js : List Job) (es : List Int) : (lateSrt js es).Perm (latePr js es) := List.mergeSort_perm _ _
theorem srt_uniq {l m : List (Int × Int)} (hp : l.Perm m) (h1 : l.Pairwise fun x y => SrtO.lexB y x = false) (h2 : m.Pairwise fun x y => SrtO.lexB y x = false) : l = m :=
  List.Perm.eq_of_pairwise (fun a b _ _ h3 h4 => by
    rw [SrtO.lexB_no] at h3 h4
    obtain ⟨a1, a2⟩ := a
    obtain ⟨b1, b2⟩ := b
    have e1 : a1 = b1 := by simp only at h3 h4; omega
    have e2 : a2 = b2 := by simp only at h3 h4; omega
    rw [e1, e2]) h1 h2 hp
def lateF (js : List Job) (es : List Int) : List Int := (lateSrt js es).map (·.2)
theorem mem_lateSrt {js : List Job} {es : List Int} {x : Int × Int} : x ∈ lateSrt js es ↔ ∃ k, k < js.length ∧ (jAt js k).2.2 < lAt es k ∧ x = ((jAt js k).2.2, (k : Int)) := by
  rw [(lateSrt_perm js es).mem_iff, latePr, List.mem_map]
  constructor
  · rintro ⟨k, hk, rfl⟩
    rw [List.mem_filter, List.mem_range, decide_eq_true_eq] at hk
    exact ⟨k, hk.1, hk.2, rfl⟩
  · rintro ⟨k, h1, h2, rfl⟩
    exact ⟨k, by rw [List.mem_filter, List.mem_range, decide_eq_true_eq]; exact ⟨h1, h2⟩, rfl⟩
/-- the late places as the plain law tells them -/
def lateIx (js : List Job) (es : List Int) : List Int := ((List.range js.length).filter fun k => decide ((jAt js k).2.2 < lAt es k)).map fun k : Nat => (k : Int)
theorem lateF_perm (js : List Job) (es : List Int) : (lateF js es).Perm (lateIx js es) := by
  refine ((lateSrt_perm js es).map _).trans (List.Perm.of_eq ?_)
  rw [latePr, List.map_map]
  rfl
theorem lateIx_pw (js : List Job) (es : List Int) : (lateIx js es).Pairwise (· ≤ ·) := by
  rw [lateIx, List.pairwise_map]
  refine List.Pairwise.imp (fun {a b} (h : a < b) => by omega) (List.Pairwise.filter _ List.pairwise_lt_range)
theorem ints_uniq {l m : List Int} (hp : l.Perm m) (h1 : l.Pairwise (· ≤ ·)) (h2 : m.Pairwise (· ≤ ·)) : l = m :=
  List.Perm.eq_of_pairwise (fun a b _ _ h3 h4 => by omega) h1 h2 hp
theorem lateF_len (js : List Job) (es : List Int) : (lateF js es).length ≤ js.length := by
  rw [(lateF_perm js es).length_eq, lateIx, List.length_map]
  exact Nat.le_trans (List.length_filter_le _ _) (Nat.le_of_eq List.length_range)
theorem lateF_at {js : List Job} {es : List Int} {i : Nat} {a : Int} (h : (lateF js es)[i]? = some a) : ∃ k : Nat, a = (k : Int) ∧ k < js.length ∧ (jAt js k).2.2 < lAt es k ∧ (lateSrt js es)[i]? = some ((jAt js k).2.2, (k : Int)) := by
  rw [lateF, List.getElem?_map] at h
  obtain ⟨x, hx, rfl⟩ := Option.map_eq_some_iff.mp h
  obtain ⟨k, h1, h2, rfl⟩ := mem_lateSrt.mp (List.mem_of_getElem? hx)
  exact ⟨k, rfl, h1, h2, hx⟩
theorem lateSrt_le {js : List Job} {es : List Int} {i j : Nat} {x y : Int × Int} (h : i < j) (h1 : (lateSrt js es)[i]? = some x) (h2 : (lateSrt js es)[j]? = some y) : x.1 < y.1 ∨ (x.1 = y.1 ∧ x.2 ≤ y.2) := by
  obtain ⟨b1, e1⟩ := List.getElem?_eq_some_iff.mp h1
  obtain ⟨b2, e2⟩ := List.getElem?_eq_some_iff.mp h2
  have hp := List.pairwise_iff_getElem.mp (lateSrt_pw js es) i j b1 b2 h
  rw [e1, e2, SrtO.lexB_no] at hp
  omega
end DL

namespace DL
open PySem L2
/-! ### nearest due first meets all dues, or a stretch asks too much -/
abbrev Piece.has (p : Piece) (t : Int) : Prop := p.2.1 ≤ t ∧ t < p.2.2
structure Ordered (ps : List Piece) : Prop where
  pw : ps.Pairwise fun p q => p.2.2 ≤ q.2.1
  all : ∀ p ∈ ps, 0 ≤ p.2.1 ∧ p.2.1 < p.2.2 ∧ p.2.2 ≤ lastE ps
  nn : 0 ≤ lastE ps
theorem good_ordered {js : List Job} : ∀ ps : List Piece, GoodAll js ps → Ordered ps := by
  refine snoc_ind ?_ ?_
  · exact fun _ => ⟨List.Pairwise.nil, fun p h => (List.not_mem_nil h).elim, Int.le_refl _⟩
  · intro ps p ih h
    obtain ⟨h1, c⟩ := good_snoc.mp h
    obtain ⟨i1, i2, i3⟩ := ih h1
    have tb := c.tb
    have be := c.be
    refine ⟨?_, fun q hq => ?_, ?_⟩
    · rw [List.pairwise_append]
      refine ⟨i1, List.pairwise_singleton _ _, fun a ha b hb => ?_⟩
      rw [List.mem_singleton.mp hb]
      have := i2 a ha
      omega
    · rw [lastE_snoc]
      rcases List.mem_append.mp hq with hq | hq
      · have := i2 q hq
        omega
      · rw [List.mem_singleton.mp hq]
        omega
    · rw [lastE_snoc]
      omega
theorem has_uniq {ps : List Piece} (h : Ordered ps) {p q : Piece} {t : Int} (hp : p ∈ ps) (hq : q ∈ ps) (h1 : Piece.has p t) (h2 : Piece.has q t) : p = q := by
  obtain ⟨i, hi, e1⟩ := List.getElem_of_mem hp
  obtain ⟨j, hj, e2⟩ := List.getElem_of_mem hq
  have pw := List.pairwise_iff_getElem.mp h.pw
  rcases Nat.lt_trichotomy i j with l | l | l
  · have := pw i j hi hj l
    rw [e1, e2] at this
    have a := h1.2
    have b := h2.1
    omega
  · subst l
    exact e1.symm.trans e2
  · have := pw j i hj hi l
    rw [e1, e2] at this
    have a := h2.2
    have b := h1.1
    omega
theorem left_snoc_le {js : List Job} {ps : List Piece} {p : Piece} (c : Cond js (leftAf js ps) (lastE ps) p) (k : Nat) : lAt (leftAf js (ps ++ [p])) k ≤ lAt (leftAf js ps) k := by
  have be := c.be
  rw [leftAf_snoc, leftStep, lAt_set (by rw [leftAf_len]; exact c.pn)]
  by_cases e : k = p.1.toNat
  · rw [if_pos e, e]
    omega
  · rw [if_neg e]
    exact Int.le_refl _
/-- as long as a job is there that is not done, one due no later is worked at -/
theorem edf_gen {js : List Job} {k : Nat} {t : Int} (hk : k < js.length) (hc : (jAt js k).1 ≤ t) : ∀ ps : List Piece, GoodAll js ps → t < lastE ps → (0 < lAt (leftAf js ps) k ∨ ∃ q ∈ ps, q.1.toNat = k ∧ t < q.2.2) → (0 ≤ t) → ∃ p ∈ ps, Piece.has p t ∧ Fst js p.1.toNat k := by
  refine snoc_ind ?_ ?_
  · intro _ h _ h0
    exact absurd h (Int.not_lt.mpr h0)
  · intro ps p ih hg ht h h0
    obtain ⟨g1, c⟩ := good_snoc.mp hg
    rw [lastE_snoc] at ht
    have be := c.be
    have hm := c.much
    have h' : 0 < lAt (leftAf js ps) k ∨ ∃ q ∈ ps, q.1.toNat = k ∧ t < q.2.2 := by
      rcases h with h | ⟨q, hq, h1, h2⟩
      · have := left_snoc_le c k
        exact .inl (by omega)
      · rcases List.mem_append.mp hq with hq | hq
        · exact .inr ⟨q, hq, h1, h2⟩
        · rw [List.mem_singleton.mp hq] at h1
          rw [h1] at hm
          exact .inl (by omega)
    by_cases l : t < lastE ps
    · obtain ⟨q, hq, h1⟩ := ih g1 l h' h0
      exact ⟨q, List.mem_append_left _ hq, h1⟩
    · have hl : 0 < lAt (leftAf js ps) k := by
        rcases h' with h' | ⟨q, hq, _, h2⟩
        · exact h'
        · have := ((good_ordered ps g1).all q hq).2.2
          omega
      have hb : p.2.1 ≤ t := by
        by_cases q : p.2.1 ≤ t
        · exact q
        · have := c.gap k hk hl (by omega)
          omega
      exact ⟨p, List.mem_append_right _ List.mem_cons_self, ⟨hb, ht⟩, c.fst k hk hl (by omega)⟩
theorem edf {js : List Job} {ps : List Piece} (hg : GoodAll js ps) (hs : AllS js) {k : Nat} {t : Int} {q : Piece} (hq : q ∈ ps) (e : q.1.toNat = k) (hc : (jAt js k).1 ≤ t) (ht : t < q.2.2) : ∃ p ∈ ps, Piece.has p t ∧ Fst js p.1.toNat k := by
  have hk : k < js.length := e ▸ (good_places hg q hq).2
  have h0 := (hs _ (jAt_mem hk)).1
  have hl := ((good_ordered ps hg).all q hq).2.2
  exact edf_gen hk hc ps hg (by omega) (.inr ⟨q, hq, e, ht⟩) (by omega)
/-- the least time from which up to e the run works at what is due by then -/
def crowdR (js : List Job) (e : Int) : Int → List Piece → Int
  | b, [] => b
  | b, p :: r => if p.2.1 < b ∧ b ≤ p.2.2 then (if e < (jAt js p.1.toNat).2.2 then b else crowdR js e p.2.1 r) else crowdR js e b r
def crowdF (js : List Job) (ps : List Piece) (e : Int) : Int := crowdR js e e ps.reverse
structure Crowd (js : List Job) (ps : List Piece) (e b : Int) : Prop where
  b0 : 0 ≤ b
  be : b ≤ e
  cov : ∀ t, b ≤ t → t < e → ∃ p ∈ ps, Piece.has p t ∧ (jAt js p.1.toNat).2.2 ≤ e
  stop : (∀ p ∈ ps, b ≤ p.2.1 ∨ p.2.2 < b) ∨ ∃ p ∈ ps, p.2.1 < b ∧ b ≤ p.2.2 ∧ e < (jAt js p.1.toNat).2.2
theorem crowdR_spec {js : List Job} {ps : List Piece} {e : Int} (ho : Ordered ps) : ∀ (r suf : List Piece) (b : Int), r.reverse ++ suf = ps → 0 ≤ b → b ≤ e →
    (∀ t, b ≤ t → t < e → ∃ p ∈ ps, Piece.has p t ∧ (jAt js p.1.toNat).2.2 ≤ e) → (∀ p ∈ suf, b ≤ p.2.1 ∨ p.2.2 < b) → Crowd js ps e (crowdR js e b r)
  | [], suf, b, h, b0, be, cov, hst => ⟨b0, be, cov, .inl (by
      have h : suf = ps := h
      rw [← h]
      exact hst)⟩
  | p :: r, suf, b, h, b0, be, cov, hst => by
    have h' : r.reverse ++ (p :: suf) = ps := by
      rw [← h, List.reverse_cons, List.append_assoc]
      rfl
    have hp : p ∈ ps := h' ▸ List.mem_append_right _ List.mem_cons_self
    obtain ⟨p1, p2, _⟩ := ho.all p hp
    unfold crowdR
    by_cases q : p.2.1 < b ∧ b ≤ p.2.2
    · rw [if_pos q]
      by_cases l : e < (jAt js p.1.toNat).2.2
      · rw [if_pos l]
        exact ⟨b0, be, cov, .inr ⟨p, hp, q.1, q.2, l⟩⟩
      · rw [if_neg l]
        refine crowdR_spec ho r (p :: suf) p.2.1 h' p1 (by omega) (fun t h1 h2 => ?_) (fun s hsu => ?_)
        · by_cases z : b ≤ t
          · exact cov t z h2
          · exact ⟨p, hp, ⟨h1, by omega⟩, by omega⟩
        · rcases List.mem_cons.mp hsu with z | z
          · rw [z]
            exact .inl (Int.le_refl _)
          · have pw := ho.pw
            rw [← h', List.pairwise_append] at pw
            have := (List.pairwise_cons.mp pw.2.1).1 s z
            exact .inl (by omega)
    · rw [if_neg q]
      refine crowdR_spec ho r (p :: suf) b h' b0 be cov (fun s hsu => ?_)
      rcases List.mem_cons.mp hsu with z | z
      · rw [z]
        omega
      · exact hst s z
theorem crowdF_spec {js : List Job} {ps : List Piece} {e : Int} (ho : Ordered ps) (he : 0 ≤ e) : Crowd js ps e (crowdF js ps e) :=
  crowdR_spec ho ps.reverse [] e (by rw [List.reverse_reverse, List.append_nil]) he (Int.le_refl _) (fun t h1 h2 => by omega) (fun p hp => by cases hp)
/-- who has a piece behind b and is due by e comes within -/
theorem crowd_in {js : List Job} {ps : List Piece} {e b : Int} (hg : GoodAll js ps) (hs : AllS js) (c : Crowd js ps e b) {q : Piece} (hq : q ∈ ps) (hd : (jAt js q.1.toNat).2.2 ≤ e) (hb : b < q.2.2 ∨ b ≤ q.2.2) : b ≤ (jAt js q.1.toNat).1 := by
  by_cases z : b ≤ (jAt js q.1.toNat).1
  · exact z
  · exfalso
    obtain ⟨p, hp, h1, h2⟩ := edf (t := b - 1) hg hs hq rfl (by omega) (by omega)
    have o := good_ordered ps hg
    have a1 := h1.1
    have a2 := h1.2
    rcases c.stop with st | ⟨p', hp', g1, g2, g3⟩
    · have := st p hp
      omega
    · have e1 := has_uniq o hp hp' h1 ⟨by omega, by omega⟩
      subst e1
      rcases h2 with h2 | h2 <;> omega
/-! sums -/
theorem sum_le {α : Type} {f g : α → Int} : ∀ {l : List α}, (∀ x ∈ l, f x ≤ g x) → (l.map f).sum ≤ (l.map g).sum
  | [], _ => Int.le_refl _
  | a :: l, h => by
    rw [List.map_cons, List.map_cons, List.sum_cons, List.sum_cons]
    have := sum_le (l := l) fun x hx => h x (List.mem_cons_of_mem _ hx)
    have := h a List.mem_cons_self
    omega
theorem sum_lt {α : Type} {f g : α → Int} {y : α} : ∀ {l : List α}, (∀ x ∈ l, f x ≤ g x) → y ∈ l → f y < g y → (l.map f).sum < (l.map g).sum
  | [], _, hy, _ => by cases hy
  | a :: l, h, hy, hl => by
    rw [List.map_cons, List.map_cons, List.sum_cons, List.sum_cons]
    have h1 := sum_le (l := l) fun x hx => h x (List.mem_cons_of_mem _ hx)
    have h2 := h a List.mem_cons_self
    rcases List.mem_cons.mp hy with e | hy
    · subst e
      omega
    · have := sum_lt (l := l) (fun x hx => h x (List.mem_cons_of_mem _ hx)) hy hl
      omega
def ov (b c : Int) (p : Piece) : Int := max 0 (min p.2.2 c - max p.2.1 b)
theorem cov_sum {ps : List Piece} {P : Piece → Bool} {b : Int} : ∀ n : Nat, (∀ t, b ≤ t → t < b + n → ∃ p ∈ ps, Piece.has p t ∧ P p = true) → (n : Int) ≤ (ps.map fun p => if P p = true then ov b (b + n) p else 0).sum
  | 0, _ => by
    have : (ps.map fun _ => (0 : Int)).sum ≤ (ps.map fun p => if P p = true then ov b (b + (0 : Nat)) p else 0).sum := sum_le fun p _ => by
      unfold ov
      by_cases q : P p = true
      · rw [if_pos q]
        omega
      · rw [if_neg q]
        exact Int.le_refl _
    have h0 : ∀ l : List Piece, (l.map fun _ => (0 : Int)).sum = 0 := fun l => by
      induction l with
      | nil => rfl
      | cons a r ih => rw [List.map_cons, List.sum_cons, ih]; rfl
    rw [h0] at this
    omega
  | n + 1, h => by
    have ih := cov_sum (P := P) n fun t h1 h2 => h t h1 (by omega)
    obtain ⟨p, hp, ⟨h1, h2⟩, h3⟩ := h (b + n) (by omega) (by omega)
    have : (ps.map fun p => if P p = true then ov b (b + n) p else 0).sum < (ps.map fun p => if P p = true then ov b (b + (n + 1 : Nat)) p else 0).sum := by
      refine sum_lt (y := p) (fun q _ => ?_) hp ?_
      · by_cases z : P q = true
        · rw [if_pos z, if_pos z]
          unfold ov
          omega
        · rw [if_neg z, if_neg z]
          exact Int.le_refl _
      · rw [if_pos h3, if_pos h3]
        unfold ov
        omega
    omega
/-- all that is chosen of a list beside the jobs -/
def selS (P : Job → Bool) : List Job → List Int → Int
  | j :: js, x :: l => (if P j = true then x else 0) + selS P js l
  | _, _ => 0
theorem selS_lens (P : Job → Bool) : ∀ js : List Job, selS P js (lens js) = ((js.filter P).map fun j => j.2.1).sum
  | [] => rfl
  | j :: js => by
    show (if P j = true then j.2.1 else 0) + selS P js (lens js) = _
    rw [selS_lens P js]
    by_cases q : P j = true
    · rw [if_pos q, List.filter_cons_of_pos q, List.map_cons, List.sum_cons]
    · rw [if_neg q, List.filter_cons_of_neg q, Int.zero_add]
theorem selS_zero (P : Job → Bool) : ∀ (js : List Job) (n : Nat), selS P js (List.replicate n 0) = 0
  | [], _ => by unfold selS; rfl
  | _ :: _, 0 => rfl
  | j :: js, n + 1 => by
    show (if P j = true then (0 : Int) else 0) + selS P js (List.replicate n 0) = 0
    rw [selS_zero P js n]
    by_cases q : P j = true
    · rw [if_pos q]; rfl
    · rw [if_neg q]; rfl
theorem selS_set (P : Job → Bool) : ∀ (js : List Job) (l : List Int) (k : Nat) (x : Int), k < js.length → k < l.length → selS P js (l.set k x) = selS P js l + (if P (jAt js k) = true then x - lAt l k else 0)
  | [], _, _, _, h, _ => absurd h (Nat.not_lt_zero _)
  | _ :: _, [], _, _, _, h => absurd h (Nat.not_lt_zero _)
  | j :: js, y :: l, 0, x, _, _ => by
    show (if P j = true then x else 0) + selS P js l = (if P j = true then y else 0) + selS P js l + (if P j = true then x - y else 0)
    by_cases q : P j = true
    · rw [if_pos q, if_pos q, if_pos q]; omega
    · rw [if_neg q, if_neg q, if_neg q]; omega
  | j :: js, y :: l, k + 1, x, h, h' => by
    have ih := selS_set P js l k x (by simpa using h) (by simpa using h')
    show (if P j = true then y else 0) + selS P js (l.set k x) = (if P j = true then y else 0) + selS P js l + (if P (jAt js k) = true then x - lAt l k else 0)
    rw [ih]
    omega
theorem sel_left {js : List Job} (P : Job → Bool) : ∀ ps : List Piece, GoodAll js ps → selS P js (leftAf js ps) + (ps.map fun p => if P (jAt js p.1.toNat) = true then p.2.2 - p.2.1 else 0).sum = selS P js (lens js) := by
  refine snoc_ind ?_ ?_
  · intro _
    show selS P js (lens js) + 0 = _
    omega
  · intro ps p ih h
    obtain ⟨h1, c⟩ := good_snoc.mp h
    have ih := ih h1
    rw [leftAf_snoc, leftStep, selS_set P js _ _ _ c.pn (by rw [leftAf_len]; exact c.pn), List.map_append, List.sum_append, List.map_cons, List.sum_cons]
    show _ + ((ps.map fun p => if P (jAt js p.1.toNat) = true then p.2.2 - p.2.1 else 0).sum + (_ + 0)) = _
    by_cases q : P (jAt js p.1.toNat) = true
    · rw [if_pos q, if_pos q]
      omega
    · rw [if_neg q, if_neg q]
      omega
theorem sel_ran {js : List Job} {ps : List Piece} (rn : Ran js ps) (P : Job → Bool) : ((js.filter P).map fun j => j.2.1).sum = (ps.map fun p => if P (jAt js p.1.toNat) = true then p.2.2 - p.2.1 else 0).sum := by
  have h := sel_left P ps rn.good
  rw [zeros_of (leftAf_len js ps) rn.done, selS_zero, Int.zero_add] at h
  rw [← selS_lens]
  exact h.symm
/-- a job that ends past its due: the stretch asks too much -/
theorem crowd_much {js : List Job} {ps : List Piece} {e b : Int} (rn : Ran js ps) (hs : AllS js) (c : Crowd js ps e b) {q : Piece} (hq : q ∈ ps) (hd : (jAt js q.1.toNat).2.2 ≤ e) (hl : e < q.2.2) :
    e - b < ((js.filter fun j => decide (b ≤ j.1) && decide (j.2.2 ≤ e)).map fun j => j.2.1).sum := by
  have o := good_ordered ps rn.good
  have cb := c.be
  rw [sel_ran rn]
  have hn : b + ((e - b).toNat : Nat) = e := by omega
  have h1 : ((e - b).toNat : Int) ≤ (ps.map fun p => if (decide (b ≤ (jAt js p.1.toNat).1) && decide ((jAt js p.1.toNat).2.2 ≤ e)) = true then ov b (b + ((e - b).toNat : Nat)) p else 0).sum := by
    refine cov_sum (ps := ps) (P := fun p => decide (b ≤ (jAt js p.1.toNat).1) && decide ((jAt js p.1.toNat).2.2 ≤ e)) (b := b) _ fun t t1 t2 => ?_
    obtain ⟨p, hp, ph, pd⟩ := c.cov t t1 (by omega)
    have := crowd_in rn.good hs c hp pd (.inl (by have := ph.2; omega))
    exact ⟨p, hp, ph, by rw [decide_eq_true this, decide_eq_true pd]; rfl⟩
  rw [hn] at h1
  have h2 : (ps.map fun p => if (decide (b ≤ (jAt js p.1.toNat).1) && decide ((jAt js p.1.toNat).2.2 ≤ e)) = true then ov b e p else 0).sum < (ps.map fun p => if (decide (b ≤ (jAt js p.1.toNat).1) && decide ((jAt js p.1.toNat).2.2 ≤ e)) = true then p.2.2 - p.2.1 else 0).sum := by
    refine sum_lt (y := q) (fun p hp => ?_) hq ?_
    · have := o.all p hp
      by_cases z : (decide (b ≤ (jAt js p.1.toNat).1) && decide ((jAt js p.1.toNat).2.2 ≤ e)) = true
      · rw [if_pos z, if_pos z]
        unfold ov
        omega
      · rw [if_neg z, if_neg z]
        exact Int.le_refl _
    · have := o.all q hq
      have hc := crowd_in rn.good hs c hq hd (.inl (by omega))
      have z : (decide (b ≤ (jAt js q.1.toNat).1) && decide ((jAt js q.1.toNat).2.2 ≤ e)) = true := by rw [decide_eq_true hc, decide_eq_true hd]; rfl
      rw [if_pos z, if_pos z]
      unfold ov
      omega
  omega
/-! the ends -/
theorem ends_ge {js : List Job} : ∀ ps : List Piece, GoodAll js ps → ∀ p ∈ ps, p.2.2 ≤ lAt (endsAf js.length ps) p.1.toNat := by
  refine snoc_ind ?_ ?_
  · intro _ p hp
    cases hp
  · intro ps p ih hg q hq
    obtain ⟨g1, c⟩ := good_snoc.mp hg
    rw [endsAf_snoc, endStep, lAt_set (by rw [endsAf_len]; exact c.pn)]
    have tb := c.tb
    have be := c.be
    rcases List.mem_append.mp hq with hq | hq
    · have h1 := ih g1 q hq
      have h2 := ((good_ordered ps g1).all q hq).2.2
      by_cases e : q.1.toNat = p.1.toNat
      · rw [if_pos e]
        omega
      · rw [if_neg e]
        exact h1
    · rw [List.mem_singleton.mp hq, if_pos rfl]
      exact Int.le_refl _
theorem ends_ex {js : List Job} {k : Nat} : ∀ ps : List Piece, GoodAll js ps → lAt (endsAf js.length ps) k ≠ 0 → ∃ p ∈ ps, p.1.toNat = k ∧ p.2.2 = lAt (endsAf js.length ps) k := by
  refine snoc_ind ?_ ?_
  · intro _ h
    exfalso
    refine h ?_
    show (List.replicate js.length (0 : Int)).getD k 0 = 0
    rw [List.getD_eq_getElem?_getD, List.getElem?_replicate]
    by_cases q : k < js.length
    · rw [if_pos q]; rfl
    · rw [if_neg q]; rfl
  · intro ps p ih hg h
    obtain ⟨g1, c⟩ := good_snoc.mp hg
    rw [endsAf_snoc, endStep, lAt_set (by rw [endsAf_len]; exact c.pn)] at h ⊢
    by_cases e : k = p.1.toNat
    · rw [if_pos e]
      exact ⟨p, List.mem_append_right _ List.mem_cons_self, e.symm, rfl⟩
    · rw [if_neg e] at h ⊢
      obtain ⟨q, hq, h1, h2⟩ := ih g1 h
      exact ⟨q, List.mem_append_left _ hq, h1, h2⟩
/-! ### the answer -/
def dueF (js : List Job) (k : Int) : Int := (jAt js k.toNat).2.2
noncomputable def answerD (js : List Job) : PyData :=
  match lateF js (endsF js) with
  | [] => .tuple [.str (Str.ofString "plan"), jobsD (workedF js)]
  | k :: _ => .tuple [.str (Str.ofString "late"), .int k, .int (crowdF js (workedF js) (dueF js k)), .int (dueF js k)]
/-- a way that meets the jobs -/
def FitsAll (js : List Job) (ps : List Piece) : Prop := (∀ (i : Nat) (p : Piece), ps[i]? = some p → 0 ≤ p.1 ∧ p.1.toNat < js.length ∧ lastE (ps.take i) ≤ p.2.1 ∧ p.2.1 < p.2.2 ∧ (jAt js p.1.toNat).1 ≤ p.2.1 ∧ p.2.2 ≤ (jAt js p.1.toNat).2.2) ∧ ∀ k, lAt (leftAf js ps) k = 0
/-- a late job and a stretch that asks too much -/
def TooMuch (js : List Job) (k b e : Int) : Prop := 0 ≤ k ∧ k.toNat < js.length ∧ 0 ≤ b ∧ b ≤ (jAt js k.toNat).1 ∧ e = (jAt js k.toNat).2.2 ∧ e - b < ((js.filter fun j => decide (b ≤ j.1) && decide (j.2.2 ≤ e)).map fun j => j.2.1).sum
def RightD (js : List Job) (d : PyData) : Prop := (∃ ps, d = .tuple [.str (Str.ofString "plan"), jobsD ps] ∧ FitsAll js ps) ∨ ∃ k b e, d = .tuple [.str (Str.ofString "late"), .int k, .int b, .int e] ∧ TooMuch js k b e
theorem lateF_nil {js : List Job} {es : List Int} (h : lateF js es = []) {k : Nat} (hk : k < js.length) : lAt es k ≤ (jAt js k).2.2 := by
  by_cases q : lAt es k ≤ (jAt js k).2.2
  · exact q
  · exfalso
    have hm : ((jAt js k).2.2, (k : Int)) ∈ lateSrt js es := mem_lateSrt.mpr ⟨k, hk, by omega, rfl⟩
    have : (k : Int) ∈ lateF js es := List.mem_map_of_mem hm
    rw [h] at this
    cases this
theorem plan_fits {js : List Job} (hs : AllS js) (h : lateF js (endsF js) = []) : FitsAll js (workedF js) := by
  have rn := ran hs
  refine ⟨fun i p hp => ?_, rn.done⟩
  have c := rn.good i p hp
  have hm := List.mem_of_getElem? hp
  have h1 := ends_ge _ rn.good p hm
  have h2 := lateF_nil h c.pn
  have h2 : lAt (endsAf js.length (workedF js)) p.1.toNat ≤ (jAt js p.1.toNat).2.2 := h2
  exact ⟨c.p0, c.pn, c.tb, c.be, c.come, by omega⟩
/-- what a late job tells -/
theorem late_facts {js : List Job} (hs : AllS js) {k : Nat} (hk : k < js.length) (hl : (jAt js k).2.2 < lAt (endsF js) k) :
    ∃ q ∈ workedF js, q.1.toNat = k ∧ (jAt js k).2.2 < q.2.2 ∧ Crowd js (workedF js) (jAt js k).2.2 (crowdF js (workedF js) (jAt js k).2.2) := by
  have rn := ran hs
  obtain ⟨s1, s2, s3⟩ := hs _ (jAt_mem hk)
  obtain ⟨q, hq, e1, e2⟩ := ends_ex (k := k) _ rn.good (by
    show lAt (endsF js) k ≠ 0
    omega)
  have e2 : q.2.2 = lAt (endsF js) k := e2
  exact ⟨q, hq, e1, by omega, crowdF_spec (good_ordered _ rn.good) (by omega)⟩
theorem late_much {js : List Job} (hs : AllS js) {k : Nat} (hk : k < js.length) (hl : (jAt js k).2.2 < lAt (endsF js) k) : TooMuch js (k : Int) (crowdF js (workedF js) (jAt js k).2.2) (jAt js k).2.2 := by
  have rn := ran hs
  obtain ⟨q, hq, e1, h2, c⟩ := late_facts hs hk hl
  have hd : (jAt js q.1.toNat).2.2 ≤ (jAt js k).2.2 := by rw [e1]; exact Int.le_refl _
  have c1 := crowd_in rn.good hs c hq hd (.inl (by have := c.be; omega))
  rw [e1] at c1
  refine ⟨by omega, by rw [Int.toNat_natCast]; exact hk, c.b0, by rw [Int.toNat_natCast]; exact c1, by rw [Int.toNat_natCast], crowd_much rn hs c hq hd h2⟩
theorem answer_right {js : List Job} (hs : AllS js) : RightD js (answerD js) := by
  unfold answerD
  generalize hlt : lateF js (endsF js) = ls
  cases ls with
  | nil => exact .inl ⟨_, rfl, plan_fits hs hlt⟩
  | cons k r =>
    have h0 : (lateF js (endsF js))[0]? = some k := by rw [hlt]; rfl
    obtain ⟨m, rfl, hm, hl, _⟩ := lateF_at h0
    have ed : dueF js (m : Int) = (jAt js m).2.2 := by unfold dueF; rw [Int.toNat_natCast]
    dsimp only
    rw [ed]
    exact .inr ⟨_, _, _, rfl, late_much hs hm hl⟩
theorem answerD_plan {js : List Job} (h : lateF js (endsF js) = []) : answerD js = .tuple [.str (Str.ofString "plan"), jobsD (workedF js)] := by
  unfold answerD
  rw [h]
/-! ### dues made later -/
def laterF (js : List Job) (m : Int) : List Job := js.map fun j => (j.1, j.2.1, j.2.2 + m)
theorem laterF_len (js : List Job) (m : Int) : (laterF js m).length = js.length := List.length_map _
theorem jAt_later {js : List Job} {m : Int} {k : Nat} (h : k < js.length) : jAt (laterF js m) k = ((jAt js k).1, (jAt js k).2.1, (jAt js k).2.2 + m) := by
  refine jAt_of ?_
  rw [laterF, List.getElem?_map, getD_some (d := J0) h]
  rfl
theorem laterF_snd {js : List Job} {m : Int} (hs : AllS js) (h : 0 ≤ m) : AllS (laterF js m) := fun j hj => by
  obtain ⟨i, hi, rfl⟩ := List.mem_map.mp hj
  obtain ⟨h1, h2, h3⟩ := hs i hi
  exact ⟨h1, h2, by show i.1 < i.2.2 + m; omega⟩
theorem nearUp_later {js : List Job} {m : Int} {left : List Int} {t : Int} : ∀ n, n ≤ js.length → nearUp (laterF js m) left t n = nearUp js left t n
  | 0, _ => rfl
  | n + 1, h => by
    have ih := nearUp_later (js := js) (m := m) (left := left) (t := t) n (by omega)
    show nearStep (laterF js m) left t (nearUp (laterF js m) left t n) n = nearStep js left t (nearUp js left t n) n
    rw [ih]
    unfold nearStep
    rw [jAt_later (by omega)]
    by_cases q : (jAt js n).1 ≤ t ∧ 0 < lAt left n
    · rw [if_pos q, if_pos q]
      cases hb : nearUp js left t n with
      | none => rfl
      | some p =>
        have hp := nearUp_lt hb
        dsimp only
        rw [jAt_later (by omega)]
        by_cases c : (jAt js n).2.2 < (jAt js p).2.2
        · rw [if_pos c, if_pos (by show (jAt js n).2.2 + m < (jAt js p).2.2 + m; omega)]
        · rw [if_neg c, if_neg (by show ¬ (jAt js n).2.2 + m < (jAt js p).2.2 + m; omega)]
    · rw [if_neg q, if_neg q]
theorem nearF_later {js : List Job} {m : Int} {left : List Int} {t : Int} : nearF (laterF js m) left t = nearF js left t := by
  unfold nearF
  rw [laterF_len]
  exact nearUp_later _ (Nat.le_refl _)
theorem upF_later {js : List Job} {m t : Int} : upF (laterF js m) t = upF js t := by
  unfold upF laterF
  rw [List.foldl_map]
  rfl
theorem wStep_later {js : List Job} {m : Int} (w : WS) : wStep (laterF js m) w = wStep js w := by
  unfold wStep
  rw [nearF_later, upF_later]
theorem lens_later {js : List Job} {m : Int} : lens (laterF js m) = lens js := by
  unfold lens laterF
  rw [List.map_map]
  rfl
theorem wIter_later {js : List Job} {m : Int} : wIter (laterF js m) = wIter js := by
  funext n
  induction n with
  | zero =>
    show (lens (laterF js m), _, _) = (lens js, _, _)
    rw [lens_later]
  | succ n ih =>
    show wStep (laterF js m) (wIter (laterF js m) n) = wStep js (wIter js n)
    rw [ih, wStep_later]
theorem worked_later {js : List Job} {m : Int} : workedF (laterF js m) = workedF js := by
  unfold workedF wN
  rw [wIter_later]
theorem endsF_later {js : List Job} {m : Int} : endsF (laterF js m) = endsF js := by
  unfold endsF
  rw [worked_later, laterF_len]
def needUp (js : List Job) (es : List Int) : Nat → Int
  | 0 => 0
  | n + 1 => max (needUp js es n) (lAt es n - (jAt js n).2.2)
theorem needUp_spec (js : List Job) (es : List Int) : ∀ n, 0 ≤ needUp js es n ∧ (∀ k, k < n → lAt es k - (jAt js k).2.2 ≤ needUp js es n) ∧ (0 < needUp js es n → ∃ k, k < n ∧ lAt es k - (jAt js k).2.2 = needUp js es n)
  | 0 => ⟨Int.le_refl _, fun k h => absurd h (Nat.not_lt_zero k), fun h => absurd h (Int.lt_irrefl _)⟩
  | n + 1 => by
    obtain ⟨h1, h2, h3⟩ := needUp_spec js es n
    unfold needUp
    refine ⟨by omega, fun k hk => ?_, fun hp => ?_⟩
    · by_cases e : k = n
      · subst e
        omega
      · have := h2 k (by omega)
        omega
    · by_cases q : needUp js es n ≤ lAt es n - (jAt js n).2.2
      · exact ⟨n, Nat.lt_succ_self n, by omega⟩
      · obtain ⟨k, hk, e⟩ := h3 (by omega)
        exact ⟨k, by omega, by omega⟩
noncomputable def needF (js : List Job) : Int := needUp js (endsF js) js.length
theorem needF_spec {js : List Job} (hs : AllS js) : 0 ≤ needF js ∧ (AllS (laterF js (needF js)) ∧ lateF (laterF js (needF js)) (endsF (laterF js (needF js))) = []) ∧
    (0 < needF js → AllS (laterF js (needF js - 1)) ∧ ∃ k b e, answerD (laterF js (needF js - 1)) = .tuple [.str (Str.ofString "late"), .int k, .int b, .int e]) := by
  obtain ⟨h1, h2, h3⟩ := needUp_spec js (endsF js) js.length
  refine ⟨h1, ⟨laterF_snd hs h1, ?_⟩, fun hp => ⟨laterF_snd hs (by omega), ?_⟩⟩
  · cases e : lateF (laterF js (needF js)) (endsF (laterF js (needF js))) with
    | nil => rfl
    | cons a r =>
      exfalso
      obtain ⟨k, _, hk, hl, _⟩ := lateF_at (i := 0) (a := a) (by rw [e]; rfl)
      rw [laterF_len] at hk
      rw [jAt_later hk, endsF_later] at hl
      have := h2 k hk
      have hl : (jAt js k).2.2 + needUp js (endsF js) js.length < lAt (endsF js) k := hl
      omega
  · obtain ⟨k, hk, e⟩ := h3 hp
    unfold answerD
    cases hc : lateF (laterF js (needF js - 1)) (endsF (laterF js (needF js - 1))) with
    | nil =>
      exfalso
      have := lateF_nil hc (k := k) (by rw [laterF_len]; exact hk)
      rw [jAt_later hk, endsF_later] at this
      have this : lAt (endsF js) k ≤ (jAt js k).2.2 + (needUp js (endsF js) js.length - 1) := this
      omega
    | cons a r => exact ⟨_, _, _, rfl⟩
/-! ### the answer, told by the run -/
theorem good_take {js : List Job} {ps : List Piece} (h : GoodAll js ps) (n : Nat) : GoodAll js (ps.take n) := fun i p hp => by
  rw [List.getElem?_take] at hp
  by_cases q : i < n
  · rw [if_pos q] at hp
    rw [List.take_take, Nat.min_eq_left (by omega)]
    exact h i p hp
  · rw [if_neg q] at hp
    cases hp
theorem lastE_ge {js : List Job} {ps : List Piece} (h : GoodAll js ps) {i : Nat} {p q : Piece} (hp : ps[i]? = some p) (hq : q ∈ ps) (hl : q.2.1 < p.2.1) : q.2.2 ≤ lastE (ps.take i) := by
  have o := good_ordered ps h
  obtain ⟨j, hj, e⟩ := List.getElem_of_mem hq
  obtain ⟨hi, e2⟩ := List.getElem?_eq_some_iff.mp hp
  have pw := List.pairwise_iff_getElem.mp o.pw
  have hji : j < i := by
    rcases Nat.lt_trichotomy i j with l | l | l
    · have := pw i j hi hj l
      rw [e, e2] at this
      have := (o.all p (List.mem_of_getElem? hp)).2.1
      omega
    · subst l
      rw [e] at e2
      rw [e2] at hl
      omega
    · exact l
  refine ((good_ordered _ (good_take h i)).all q ?_).2.2
  refine List.mem_of_getElem? (i := j) ?_
  rw [List.getElem?_take, if_pos hji, List.getElem?_eq_getElem hj, e]
def Cov (js : List Job) (ps : List Piece) (b e : Int) : Prop := b < e ∧ 0 ≤ b ∧ GoodAll js ps ∧ ∀ t, b ≤ t → t < e → ∃ p ∈ ps, Piece.has p t ∧ (jAt js p.1.toNat).2.2 ≤ e
def clampF (b e x : Int) : Int := max b (min e x)
theorem within_hit {js : List Job} {ps : List Piece} {b e : Int} (h : Cov js ps b e) {i : Nat} {p : Piece} (hp : ps[i]? = some p) (h1 : b < p.2.2) (h2 : p.2.1 < e) :
    max p.2.1 b = clampF b e (lastE (ps.take i)) ∧ (jAt js p.1.toNat).2.2 ≤ e := by
  obtain ⟨hb, _, hg, hc⟩ := h
  have o := good_ordered ps hg
  have hm := List.mem_of_getElem? hp
  have hall := o.all p hm
  have c := hg i p hp
  have tb := c.tb
  refine ⟨?_, ?_⟩
  · unfold clampF
    by_cases q : p.2.1 ≤ b
    · omega
    · obtain ⟨p', m', ⟨g1, g2⟩, _⟩ := hc (p.2.1 - 1) (by omega) (by omega)
      have := lastE_ge hg hp m' (by omega)
      omega
  · obtain ⟨p', m', g1, g2⟩ := hc (max p.2.1 b) (by omega) (by omega)
    have : p = p' := has_uniq o hm m' (t := max p.2.1 b) ⟨by omega, by omega⟩ g1
    rw [this]
    exact g2
theorem within_miss {js : List Job} {ps : List Piece} {b e : Int} (h : Cov js ps b e) {i : Nat} {p : Piece} (hp : ps[i]? = some p) (h1 : ¬ (b < p.2.2 ∧ p.2.1 < e)) : clampF b e p.2.2 = clampF b e (lastE (ps.take i)) := by
  obtain ⟨hb, _, hg, hc⟩ := h
  have o := good_ordered ps hg
  have hm := List.mem_of_getElem? hp
  have hall := o.all p hm
  have tb := (hg i p hp).tb
  unfold clampF
  by_cases q : b < p.2.2
  · obtain ⟨p', m', ⟨g1, g2⟩, _⟩ := hc (e - 1) (by omega) (by omega)
    have := lastE_ge hg hp m' (by omega)
    omega
  · omega
theorem within_end {js : List Job} {ps : List Piece} {b e : Int} (h : Cov js ps b e) : clampF b e (lastE ps) = e := by
  obtain ⟨hb, _, hg, hc⟩ := h
  obtain ⟨p', m', ⟨g1, g2⟩, _⟩ := hc (e - 1) (by omega) (by omega)
  have := ((good_ordered ps hg).all p' m').2.2
  unfold clampF
  omega
theorem crowd_ahead {js : List Job} {ps : List Piece} {e b : Int} (hg : GoodAll js ps) (c : Crowd js ps e b) (hb : b < e) {p : Piece} (hp : p ∈ ps) (h1 : p.2.1 < b) (h2 : b ≤ p.2.2) : p.2.2 = b ∧ e < (jAt js p.1.toNat).2.2 := by
  have o := good_ordered ps hg
  rcases c.stop with st | ⟨p', hp', g1, g2, g3⟩
  · have := st p hp
    omega
  · have e1 : p = p' := has_uniq o hp hp' (t := b - 1) ⟨by omega, by omega⟩ ⟨by omega, by omega⟩
    subst e1
    refine ⟨?_, g3⟩
    obtain ⟨q, hq, ⟨k1, k2⟩, k3⟩ := c.cov b (Int.le_refl _) hb
    by_cases z : p.2.2 = b
    · exact z
    · exfalso
      have e2 : p = q := has_uniq o hp hq (t := b) ⟨by omega, by omega⟩ ⟨k1, k2⟩
      subst e2
      omega
theorem left_none {js : List Job} {k : Nat} : ∀ ps : List Piece, GoodAll js ps → (∀ p ∈ ps, p.1.toNat ≠ k) → lAt (leftAf js ps) k = lAt (lens js) k := by
  refine snoc_ind ?_ ?_
  · intro _ _
    rfl
  · intro ps p ih hg h
    obtain ⟨g1, c⟩ := good_snoc.mp hg
    rw [leftAf_snoc, leftStep, lAt_set (by rw [leftAf_len]; exact c.pn), if_neg (fun e => h p (List.mem_append_right _ List.mem_cons_self) e.symm)]
    exact ih g1 fun q hq => h q (List.mem_append_left _ hq)
/-- each job's end is the greatest of its pieces' ends -/
theorem ends_max {js : List Job} (hs : AllS js) {k : Nat} (hk : k < js.length) : lAt (endsF js) k ∈ ((workedF js).filter fun p => decide (p.1 = (k : Int))).map (fun p => p.2.2) ∧ ∀ y ∈ ((workedF js).filter fun p => decide (p.1 = (k : Int))).map (fun p => p.2.2), y ≤ lAt (endsF js) k := by
  have rn := ran hs
  have hz : ∃ p ∈ workedF js, p.1.toNat = k := by
    by_cases q : ∃ p ∈ workedF js, p.1.toNat = k
    · exact q
    · exfalso
      have h := left_none (k := k) _ rn.good fun p hp e => q ⟨p, hp, e⟩
      rw [rn.done, lAt_lens hk] at h
      have := (hs _ (jAt_mem hk)).2.1
      omega
  obtain ⟨p, hp, e⟩ := hz
  have h1 := ends_ge _ rn.good p hp
  rw [e] at h1
  have h1 : p.2.2 ≤ lAt (endsF js) k := h1
  have h2 := (good_ordered _ rn.good).all p hp
  obtain ⟨q, hq, e1, e2⟩ := ends_ex (k := k) _ rn.good (by show lAt (endsF js) k ≠ 0; omega)
  refine ⟨List.mem_map.mpr ⟨q, List.mem_filter.mpr ⟨hq, decide_eq_true ?_⟩, e2⟩, fun y hy => ?_⟩
  · have := (good_places rn.good q hq).1
    omega
  · obtain ⟨r, hr, rfl⟩ := List.mem_map.mp hy
    obtain ⟨hr, e3⟩ := List.mem_filter.mp hr
    have e3 := of_decide_eq_true e3
    have h3 := ends_ge _ rn.good r hr
    rw [e3, Int.toNat_natCast] at h3
    exact h3
/-- the late one due first, of several at the least place -/
def lateStep (js : List Job) (es : List Int) (b : Option Nat) (i : Nat) : Option Nat :=
  if (jAt js i).2.2 < lAt es i then
    match b with
    | none => some i
    | some p => if (jAt js i).2.2 < (jAt js p).2.2 then some i else some p
  else b
def lateUp (js : List Job) (es : List Int) : Nat → Option Nat
  | 0 => none
  | n + 1 => lateStep js es (lateUp js es n) n
def LateSpec (js : List Job) (es : List Int) (n : Nat) : Option Nat → Prop
  | none => ∀ i, i < n → ¬ (jAt js i).2.2 < lAt es i
  | some p => p < n ∧ (jAt js p).2.2 < lAt es p ∧ ∀ i, i < n → (jAt js i).2.2 < lAt es i → Fst js p i
theorem lateUp_spec (js : List Job) (es : List Int) : ∀ n, LateSpec js es n (lateUp js es n)
  | 0 => fun i h => absurd h (Nat.not_lt_zero i)
  | n + 1 => by
    have ih := lateUp_spec js es n
    show LateSpec js es (n + 1) (lateStep js es (lateUp js es n) n)
    generalize lateUp js es n = b at ih
    unfold lateStep
    by_cases q : (jAt js n).2.2 < lAt es n
    · rw [if_pos q]
      cases b with
      | none =>
        refine ⟨Nat.lt_succ_self n, q, fun i hi ht => ?_⟩
        by_cases e : i = n
        · subst e
          exact .inr ⟨rfl, Nat.le_refl _⟩
        · exact absurd ht (ih i (by omega))
      | some p =>
        obtain ⟨h1, h2, h3⟩ := ih
        dsimp only
        by_cases c : (jAt js n).2.2 < (jAt js p).2.2
        · rw [if_pos c]
          refine ⟨Nat.lt_succ_self n, q, fun i hi ht => ?_⟩
          by_cases e : i = n
          · subst e
            exact .inr ⟨rfl, Nat.le_refl _⟩
          · have := h3 i (by omega) ht
            rcases this with z | ⟨z, _⟩
            · exact .inl (by omega)
            · exact .inl (by omega)
        · rw [if_neg c]
          refine ⟨by omega, h2, fun i hi ht => ?_⟩
          by_cases e : i = n
          · subst e
            by_cases c2 : (jAt js p).2.2 = (jAt js i).2.2
            · exact .inr ⟨c2, by omega⟩
            · exact .inl (by omega)
          · exact h3 i (by omega) ht
    · rw [if_neg q]
      cases b with
      | none =>
        intro i hi
        by_cases e : i = n
        · subst e
          exact q
        · exact ih i (by omega)
      | some p =>
        obtain ⟨h1, h2, h3⟩ := ih
        refine ⟨by omega, h2, fun i hi ht => ?_⟩
        by_cases e : i = n
        · subst e
          exact absurd ht q
        · exact h3 i (by omega) ht
theorem lateUp_lt {js : List Job} {es : List Int} {n p : Nat} (h : lateUp js es n = some p) : p < n := by
  have := lateUp_spec js es n
  rw [h] at this
  exact this.1
theorem lateUp_none {js : List Job} {es : List Int} (h : lateUp js es js.length = none) : lateF js es = [] := by
  have sp := lateUp_spec js es js.length
  rw [h] at sp
  cases e : lateF js es with
  | nil => rfl
  | cons a r =>
    exfalso
    obtain ⟨k, _, hk, hl, _⟩ := lateF_at (js := js) (es := es) (i := 0) (a := a) (by rw [e]; rfl)
    exact sp k hk hl
theorem lateUp_some {js : List Job} {es : List Int} {p : Nat} (h : lateUp js es js.length = some p) : p < js.length ∧ (jAt js p).2.2 < lAt es p ∧ ∃ r, lateF js es = (p : Int) :: r := by
  have sp := lateUp_spec js es js.length
  rw [h] at sp
  obtain ⟨h1, h2, h3⟩ := sp
  refine ⟨h1, h2, ?_⟩
  have hm : ((jAt js p).2.2, (p : Int)) ∈ lateSrt js es := mem_lateSrt.mpr ⟨p, h1, h2, rfl⟩
  have pw := lateSrt_pw js es
  have hmm := @mem_lateSrt js es
  unfold lateF
  generalize lateSrt js es = l at *
  cases l with
  | nil => cases hm
  | cons x r =>
    refine ⟨r.map (·.2), ?_⟩
    obtain ⟨k, k1, k2, rfl⟩ := hmm.mp List.mem_cons_self
    have f1 := h3 k k1 k2
    have f2 : (jAt js k).2.2 < (jAt js p).2.2 ∨ ((jAt js k).2.2 = (jAt js p).2.2 ∧ (k : Int) ≤ (p : Int)) := by
      rcases List.mem_cons.mp hm with e | hm
      · have e1 := (Prod.mk.inj e).1
        have e2 := (Prod.mk.inj e).2
        exact .inr ⟨e1.symm, by omega⟩
      · have := (List.pairwise_cons.mp pw).1 _ hm
        rw [SrtO.lexB_no] at this
        omega
    have : k = p := by
      rcases f1 with f1 | ⟨f1, f3⟩ <;> omega
    subst this
    rfl
end DL

namespace DL
open PySem L2
/-! ### ways looked at -/
def Fit (js : List Job) (t : Int) (p : Piece) : Prop := (0 ≤ p.1 ∧ p.1 < js.length) ∧ (t ≤ p.2.1 ∧ p.2.1 < p.2.2) ∧ (jAt js p.1.toNat).1 ≤ p.2.1 ∧ p.2.2 ≤ (jAt js p.1.toNat).2.2
instance (js : List Job) (t : Int) (p : Piece) : Decidable (Fit js t p) := inferInstanceAs (Decidable ((0 ≤ p.1 ∧ p.1 < js.length) ∧ (t ≤ p.2.1 ∧ p.2.1 < p.2.2) ∧ (jAt js p.1.toNat).1 ≤ p.2.1 ∧ p.2.2 ≤ (jAt js p.1.toNat).2.2))
def walkB (js : List Job) : Int → List Piece → Bool
  | _, [] => true
  | t, p :: r => if Fit js t p then walkB js p.2.2 r else false
def sumOf (way : List Piece) (k : Nat) : Int := ((way.filter fun p => decide (p.1 = (k : Int))).map fun p => p.2.2 - p.2.1).sum
def firstB : List Piece → Int
  | [] => 0
  | p :: _ => p.2.1
def allB (js : List Job) (way : List Piece) : Bool := decide (∀ k ∈ List.range js.length, sumOf way k = (jAt js k).2.1)
def meetsB (js : List Job) (way : List Piece) : Bool := if walkB js 0 way = true then decide (leftAf js way = List.replicate js.length 0) else false
def dueB (js : List Job) (way : List Piece) : Bool := if walkB js (firstB way) way = true then allB js way else false
theorem walk_places {js : List Job} : ∀ (way : List Piece) (t : Int), walkB js t way = true → PlacesIn js.length way
  | [], _, _ => fun p hp => by cases hp
  | p :: r, t, h => by
    unfold walkB at h
    by_cases q : Fit js t p
    · rw [if_pos q] at h
      intro x hx
      rcases List.mem_cons.mp hx with e | hx
      · rw [e]
        obtain ⟨⟨h1, h2⟩, _⟩ := q
        exact ⟨h1, by omega⟩
      · exact walk_places r _ h x hx
    · rw [if_neg q] at h
      cases h
theorem walk_first {js : List Job} (hs : AllS js) : ∀ way : List Piece, walkB js 0 way = walkB js (firstB way) way
  | [] => rfl
  | p :: r => by
    show (if Fit js 0 p then walkB js p.2.2 r else false) = (if Fit js p.2.1 p then walkB js p.2.2 r else false)
    have e : Fit js 0 p ↔ Fit js p.2.1 p := by
      constructor
      · rintro ⟨h1, ⟨_, h2⟩, h3⟩
        exact ⟨h1, ⟨Int.le_refl _, h2⟩, h3⟩
      · rintro ⟨⟨h1, h1'⟩, ⟨_, h2⟩, h3, h4⟩
        have := (hs _ (jAt_mem (i := p.1.toNat) (by omega))).1
        exact ⟨⟨h1, h1'⟩, ⟨by omega, h2⟩, h3, h4⟩
    by_cases q : Fit js 0 p
    · rw [if_pos q, if_pos (e.mp q)]
    · rw [if_neg q, if_neg (fun z => q (e.mpr z))]
theorem left_sum {js : List Job} {k : Nat} (hk : k < js.length) : ∀ ps : List Piece, PlacesIn js.length ps → lAt (leftAf js ps) k = (jAt js k).2.1 - sumOf ps k := by
  refine snoc_ind ?_ ?_
  · intro _
    show lAt (lens js) k = _ - 0
    rw [lAt_lens hk]
    omega
  · intro ps p ih h
    have ih := ih fun q hq => h q (List.mem_append_left _ hq)
    obtain ⟨p0, pn⟩ := h p (List.mem_append_right _ List.mem_cons_self)
    rw [leftAf_snoc, leftStep, lAt_set (by rw [leftAf_len]; exact pn)]
    unfold sumOf
    rw [List.filter_append, List.map_append, List.sum_append]
    have ih : lAt (leftAf js ps) k = (jAt js k).2.1 - ((ps.filter fun p => decide (p.1 = (k : Int))).map fun p => p.2.2 - p.2.1).sum := ih
    by_cases e : k = p.1.toNat
    · rw [if_pos e]
      have e2 : p.1 = (k : Int) := by omega
      rw [List.filter_cons_of_pos (by exact decide_eq_true e2)]
      show _ = _ - (_ + ((p.2.2 - p.2.1) + 0))
      rw [← e, ih]
      omega
    · rw [if_neg e]
      have e2 : ¬ p.1 = (k : Int) := by omega
      rw [List.filter_cons_of_neg (by simpa using e2)]
      show _ = _ - (_ + 0)
      rw [ih]
      omega
theorem meets_due {js : List Job} (hs : AllS js) (way : List Piece) : meetsB js way = dueB js way := by
  unfold meetsB dueB
  rw [← walk_first hs]
  by_cases q : walkB js 0 way = true
  · rw [if_pos q, if_pos q]
    have hp := walk_places way 0 q
    unfold allB
    refine decide_eq_decide.mpr ⟨fun h k hk => ?_, fun h => zeros_of (leftAf_len js way) fun i => ?_⟩
    · have hk := List.mem_range.mp hk
      have := left_sum hk way hp
      rw [h] at this
      have hz : lAt (List.replicate js.length (0 : Int)) k = 0 := by
        show (List.replicate js.length (0 : Int)).getD k 0 = 0
        rw [List.getD_eq_getElem?_getD, List.getElem?_replicate, if_pos hk]
        rfl
      omega
    · by_cases hk : i < js.length
      · have := left_sum hk way hp
        have := h i (List.mem_range.mpr hk)
        omega
      · show (leftAf js way).getD i 0 = 0
        rw [List.getD_eq_getElem?_getD, List.getElem?_eq_none (by rw [leftAf_len]; omega)]
        rfl
  · rw [if_neg q, if_neg q]
/-! ### the ways that are handed in -/
def pbCell (ns : List Int) (k : Nat) : Int := if 12 ≤ (k : Int) then (cellAt ns 3 + (k : Int)) * 48271 % 2147483647 else cellAt ns (4 + (k : Int))
def pbPlace (ns : List Int) (count : Int) (k : Nat) : Int := if count ≤ (k : Int) then pbCell ns k / 12 % count else (k : Int)
def pbBegin (ns : List Int) (wide t : Int) (k : Nat) : Int := t + pbCell ns k % 3 * wide
def pbEnd (ns : List Int) (wide t : Int) (k : Nat) : Int := pbBegin ns wide t k + (1 + pbCell ns k / 3 % 4) * wide
def pbUp (ns : List Int) (count wide : Int) : Nat → List Piece × Int
  | 0 => ([], 0)
  | k + 1 => ((pbUp ns count wide k).1 ++ [(pbPlace ns count k, pbBegin ns wide (pbUp ns count wide k).2 k, pbEnd ns wide (pbUp ns count wide k).2 k)], pbEnd ns wide (pbUp ns count wide k).2 k)
structure PbInv (count : Int) (n : Nat) (s : List Piece × Int) : Prop where
  len : s.1.length = n
  t0 : 0 ≤ s.2
  pw : s.1.Pairwise fun p q => p.2.2 ≤ q.2.1
  all : ∀ p ∈ s.1, 0 ≤ p.1 ∧ p.1 < count ∧ 0 ≤ p.2.1 ∧ p.2.1 < p.2.2 ∧ p.2.2 ≤ s.2
  own : ∀ k : Nat, k < n → (k : Int) < count → ∃ p ∈ s.1, p.1 = (k : Int)
theorem pb_inv (ns : List Int) {count wide : Int} (hc : 0 < count) (hw : 1 ≤ wide) : ∀ n, PbInv count n (pbUp ns count wide n)
  | 0 => ⟨rfl, Int.le_refl _, List.Pairwise.nil, fun p hp => (List.not_mem_nil hp).elim, fun k hk => absurd hk (Nat.not_lt_zero k)⟩
  | n + 1 => by
    obtain ⟨h1, h2, h3, h4, h5⟩ := pb_inv ns hc hw n
    have b0 : (0 : Int) ≤ pbCell ns n % 3 * wide := Int.mul_nonneg (by omega) (by omega)
    have b1 : (0 : Int) < (1 + pbCell ns n / 3 % 4) * wide := Int.mul_pos (by omega) (by omega)
    have b2 : 0 ≤ pbPlace ns count n ∧ pbPlace ns count n < count := by
      unfold pbPlace
      by_cases q : count ≤ (n : Int)
      · rw [if_pos q]
        exact ⟨Int.emod_nonneg _ (by omega), Int.emod_lt_of_pos _ hc⟩
      · rw [if_neg q]
        omega
    have b3 : pbBegin ns wide (pbUp ns count wide n).2 n = (pbUp ns count wide n).2 + pbCell ns n % 3 * wide := rfl
    have b4 : pbEnd ns wide (pbUp ns count wide n).2 n = pbBegin ns wide (pbUp ns count wide n).2 n + (1 + pbCell ns n / 3 % 4) * wide := rfl
    have e : pbUp ns count wide (n + 1) = ((pbUp ns count wide n).1 ++ [(pbPlace ns count n, pbBegin ns wide (pbUp ns count wide n).2 n, pbEnd ns wide (pbUp ns count wide n).2 n)], pbEnd ns wide (pbUp ns count wide n).2 n) := rfl
    rw [e]
    have hpl : (n : Int) < count → pbPlace ns count n = (n : Int) := fun z => by
      unfold pbPlace
      rw [if_neg (by omega)]
    generalize pbUp ns count wide n = s at *
    refine ⟨by rw [List.length_append, h1]; rfl, by show 0 ≤ pbEnd ns wide s.2 n; omega, ?_, fun p hp => ?_, fun k hk hkc => ?_⟩
    · show (s.1 ++ [_]).Pairwise _
      rw [List.pairwise_append]
      refine ⟨h3, List.pairwise_singleton _ _, fun a ha b hb => ?_⟩
      rw [List.mem_singleton.mp hb]
      have := h4 a ha
      show a.2.2 ≤ pbBegin ns wide s.2 n
      omega
    · have hp : p ∈ s.1 ++ [(pbPlace ns count n, pbBegin ns wide s.2 n, pbEnd ns wide s.2 n)] := hp
      show _ ∧ _ ∧ _ ∧ _ ∧ p.2.2 ≤ pbEnd ns wide s.2 n
      rcases List.mem_append.mp hp with hp | hp
      · have := h4 p hp
        omega
      · rw [List.mem_singleton.mp hp]
        dsimp only
        omega
    · by_cases z : k < n
      · obtain ⟨p, hp, e2⟩ := h5 k z hkc
        exact ⟨p, List.mem_append_left _ hp, e2⟩
      · have : k = n := by omega
        subst this
        exact ⟨_, List.mem_append_right _ List.mem_cons_self, hpl hkc⟩
abbrev P0 : Piece := (0, 0, 1)
def ownOf (ps : List Piece) (k : Nat) : List Piece := ps.filter fun p => decide (p.1 = (k : Int))
def jobOf (ps : List Piece) (cell wide : Int) (k : Nat) : Job := (max 0 (((ownOf ps k).headD P0).2.1 - (cell + (k : Int)) % 3 * wide), sumOf ps k, ((ownOf ps k).getLastD P0).2.2 + (cell / 3 + (k : Int)) % 3 * wide)
def jobsOf (ps : List Piece) (cell wide : Int) (n : Nat) : List Job := (List.range n).map (jobOf ps cell wide)
theorem sum_pos : ∀ l : List Int, (∀ x ∈ l, 1 ≤ x) → 0 ≤ l.sum ∧ (l ≠ [] → 1 ≤ l.sum)
  | [], _ => ⟨Int.le_refl _, fun h => absurd rfl h⟩
  | a :: l, h => by
    have := (sum_pos l fun x hx => h x (List.mem_cons_of_mem _ hx)).1
    have := h a List.mem_cons_self
    rw [List.sum_cons]
    exact ⟨by omega, fun _ => by omega⟩
theorem own_ne {count : Int} {n : Nat} {s : List Piece × Int} (h : PbInv count n s) {k : Nat} (hk : k < n) (hc : (k : Int) < count) : ownOf s.1 k ≠ [] := fun e => by
  obtain ⟨p, hp, e2⟩ := h.own k hk hc
  have : p ∈ ownOf s.1 k := List.mem_filter.mpr ⟨hp, decide_eq_true e2⟩
  rw [e] at this
  cases this
theorem head_last {l : List Piece} (h : l ≠ []) (pw : l.Pairwise fun p q => p.2.2 ≤ q.2.1) (ha : ∀ p ∈ l, 0 ≤ p.2.1 ∧ p.2.1 < p.2.2) : 0 ≤ (l.headD P0).2.1 ∧ (l.headD P0).2.1 < (l.getLastD P0).2.2 := by
  cases l with
  | nil => exact absurd rfl h
  | cons a r =>
    have h1 := ha a List.mem_cons_self
    refine ⟨h1.1, ?_⟩
    show a.2.1 < ((a :: r).getLastD P0).2.2
    rcases List.eq_nil_or_concat r with e | ⟨r', b, e⟩
    · subst e
      exact h1.2
    · rw [List.concat_eq_append] at e
      subst e
      have hb : ((a :: (r' ++ [b])).getLastD P0) = b := by
        rw [List.getLastD_eq_getLast?, ← List.cons_append, List.getLast?_concat]
        rfl
      rw [hb]
      have := (List.pairwise_cons.mp pw).1 b (List.mem_append_right _ List.mem_cons_self)
      have := ha b (List.mem_cons_of_mem _ (List.mem_append_right _ List.mem_cons_self))
      omega
theorem jobsOf_snd {count cell wide : Int} {n : Nat} {s : List Piece × Int} (h : PbInv count n s) (hn : count.toNat ≤ n) (hw : 1 ≤ wide) : AllS (jobsOf s.1 cell wide count.toNat) := fun j hj => by
  obtain ⟨k, hk, rfl⟩ := List.mem_map.mp hj
  have hk := List.mem_range.mp hk
  have hne := own_ne h (k := k) (by omega) (by omega)
  have hsub : ∀ p ∈ ownOf s.1 k, p ∈ s.1 := fun p hp => (List.mem_filter.mp hp).1
  obtain ⟨a1, a2⟩ := head_last hne (List.Pairwise.filter _ h.pw) fun p hp => by have := h.all p (hsub p hp); omega
  have b1 : (0 : Int) ≤ (cell + (k : Int)) % 3 * wide := Int.mul_nonneg (by omega) (by omega)
  have b2 : (0 : Int) ≤ (cell / 3 + (k : Int)) % 3 * wide := Int.mul_nonneg (by omega) (by omega)
  have b3 : 1 ≤ sumOf s.1 k := by
    refine (sum_pos _ fun x hx => ?_).2 ?_
    · obtain ⟨p, hp, rfl⟩ := List.mem_map.mp hx
      have := h.all p (hsub p hp)
      omega
    · intro e
      exact hne (List.map_eq_nil_iff.mp e)
  unfold jobOf
  refine ⟨by dsimp only; omega, b3, ?_⟩
  dsimp only
  omega
theorem jobsOf_len (ps : List Piece) (cell wide : Int) (n : Nat) : (jobsOf ps cell wide n).length = n := by
  unfold jobsOf
  rw [List.length_map, List.length_range]
/-- one piece off -/
def spOthers (count cell : Int) (p : Piece) : List Piece :=
  [(p.1, p.2.1 + 1, p.2.2), (p.1, p.2.1 - 1, p.2.2), (p.1, p.2.1, p.2.2 + 1), (p.1, p.2.1, p.2.2 - 1), (if cell / 81 % 2 = 0 then (p.1 + cell / 162) % (count + 2) - 1 else p.1 - count, p.2.1, p.2.2), (p.1, p.2.1 + 1, p.2.2 + 1)]
def spoilt (ps : List Piece) (cell count : Int) : List Piece :=
  let n := (cell / 9 % ps.length).toNat
  let p := ps.getD n P0
  if cell % 9 < 6 then ps.take n ++ [(spOthers count cell p).getD (cell % 9).toNat P0] ++ ps.drop (n + 1)
  else if cell % 9 = 6 then ps.take n ++ ps.drop (n + 1)
  else if cell % 9 = 7 then ps.take n ++ [p, (p.1, p.2.2, p.2.2)] ++ ps.drop (n + 1)
  else [p] ++ ps.take n ++ ps.drop (n + 1)
/-- one job off -/
def offOthers (j : Job) : List Job :=
  [(j.1 + 1, j.2.1, j.2.2 + 1), (j.1, j.2.1 + 1, j.2.2), (j.1, max 1 (j.2.1 - 1), j.2.2), (j.1, j.2.1, max (j.1 + 1) (j.2.2 - 1)), (j.1, j.2.1, max (j.1 + 1) (j.2.2 - 2))]
def jobOff (js : List Job) (cell : Int) : List Job :=
  js.set (cell / 5 % js.length).toNat ((offOthers (jAt js (cell / 5 % js.length).toNat)).getD (cell % 5).toNat J0)
theorem off_snd {j x : Job} (h : Snd j) (hx : x ∈ offOthers j) : Snd x := by
  obtain ⟨h1, h2, h3⟩ := h
  unfold offOthers at hx
  simp only [List.mem_cons, List.not_mem_nil, or_false] at hx
  rcases hx with e | e | e | e | e <;> subst e <;> refine ⟨?_, ?_, ?_⟩ <;> dsimp only <;> omega
theorem jobOff_snd {js : List Job} {cell : Int} (hs : AllS js) (hn : js ≠ []) : AllS (jobOff js cell) := fun j hj => by
  have hl : 0 < js.length := List.length_pos_iff.mpr hn
  have a0 : 0 ≤ cell / 5 % (js.length : Int) := Int.emod_nonneg _ (by omega)
  have a1 : cell / 5 % (js.length : Int) < js.length := Int.emod_lt_of_pos _ (by omega)
  rcases List.mem_or_eq_of_mem_set hj with h | h
  · exact hs j h
  · have hm : (offOthers (jAt js (cell / 5 % js.length).toNat)).getD (cell % 5).toNat J0 ∈ offOthers (jAt js (cell / 5 % js.length).toNat) := by
      have hlen : (offOthers (jAt js (cell / 5 % js.length).toNat)).length = 5 := rfl
      exact List.mem_of_getElem? (getD_some (by rw [hlen]; omega))
    rw [h]
    exact off_snd (hs _ (jAt_mem (by omega))) hm
theorem jobOff_len (js : List Job) (cell : Int) : (jobOff js cell).length = js.length := List.length_set
theorem enum_range (js : List Job) : ((jobsL js).mapIdx fun (k : Nat) x => PyData.tuple [.int (k : Int), x]) = (List.range js.length).map fun k => .tuple [.int (k : Int), jobD (jAt js k)] := by
  refine List.ext_getElem? fun i => ?_
  rw [List.getElem?_mapIdx, List.getElem?_map, List.getElem?_map]
  by_cases q : i < js.length
  · rw [getD_some (d := J0) q, List.getElem?_range q]
    rfl
  · rw [List.getElem?_eq_none (by omega), List.getElem?_eq_none (by rw [List.length_range]; omega)]
    rfl
theorem take_drop_len {α : Type} (l : List α) (n : Nat) : (l.take n).length + (l.drop (n + 1)).length ≤ l.length := by
  rw [List.length_take, List.length_drop]
  omega
theorem spoilt_len (ps : List Piece) (cell count : Int) : (spoilt ps cell count).length ≤ ps.length + 2 := by
  unfold spoilt
  have h := take_drop_len ps (cell / 9 % ps.length).toNat
  dsimp only
  split
  · simp only [List.length_append, List.length_cons, List.length_nil]
    omega
  · split
    · simp only [List.length_append]
      omega
    · split
      · simp only [List.length_append, List.length_cons, List.length_nil]
        omega
      · simp only [List.length_append, List.length_cons, List.length_nil]
        omega
end DL

namespace DL
open PySem L2
/-! ### refusals -/
/-- where the classes stand -/
class EK where
  (RunError BadJob TooMany OutOfPlace NoRow : Addr)
/-- what the written part says of a class of errors -/
structure ExF (K : PySem.W.Frag) (mg : Str → Option Value) (x : Str) (C : Addr) : Prop where
  g : mg x = some (.ref C)
  x : PySem.W.excIn K C [.type "ValueError", .type "Exception", .type "BaseException", .type "object"] "ValueError.__new__" = true
  k : PySem.W.keepIn K (.ref C) = true
  b : PySem.W.subIn K (.ref C) (.type "BaseException") = some true
  t : PySem.W.typeIn K (.ref C) = some (.type "type")
theorem exm_of {K : PySem.W.Frag} {A B : Addr} {b : Bool} (h1 : PySem.W.subIn K (.ref B) (.type "BaseException") = some true) (h2 : PySem.W.isClsIn K B = true) (h3 : PySem.W.typeIn K (.ref B) = some (.type "type")) (h4 : PySem.W.subIn K (.ref A) (.ref B) = some b) :
    PySem.W.exmOne K (.ref A) (.ref B) = some b := by
  have e1 : (PySem.W.subIn K (.ref B) (.type "BaseException") == some true) = true := by rw [h1] <;> rfl
  have e2 : ((PySem.W.clsIn K B).isSome && PySem.W.typeIn K (.ref B) == some (.type "type")) = true := by
    have h2' : (PySem.W.clsIn K B).isSome = true := h2
    rw [h2', h3] <;> rfl
  show (if (PySem.W.subIn K (.ref B) (.type "BaseException") == some true) = true then (if ((PySem.W.clsIn K B).isSome && PySem.W.typeIn K (.ref B) == some (.type "type")) = true then PySem.W.subIn K (.ref A) (.ref B) else none) else none) = some b
  rw [if_pos e1, if_pos e2]
  exact h4
/-- a def that may refuse, called by its name -/
structure CalX (P : Program) (w : World) (K : PySem.W.Frag) (mg : Str → Option Value) (base : Heap) (k : Nat) (x : Str) (ps : List Str) (R : List PyData → Ro → Prop) : Prop where
  ex : ∃ f fd, FnOk P w K mg base (L2.CX P w) k f fd ps (@SpR ⟨K⟩ R) ∧ mg x = some (.ref f) ∧ PySem.W.keepIn K (.ref f) = true ∧ Binds K fd ps []
theorem calX_of {P : Program} {w : World} {K : PySem.W.Frag} {mg : Str → Option Value} {base : Heap} {k : Nat} {x : Str} {ps : List Str} {R : List PyData → Ro → Prop} {f : Addr} {fd : FuncData}
    (F : FnOk P w K mg base (L2.CX P w) k f fd ps (@SpR ⟨K⟩ R)) (hm : mg x = some (.ref f)) (hk : PySem.W.keepIn K (.ref f) = true) (hb : Binds K fd ps []) : CalX P w K mg base k x ps R := ⟨f, fd, F, hm, hk, hb⟩
section
variable {X : Cx} {k : Nat} {x : Str} {ps : List Str} {R : List PyData → Ro → Prop} {e : Expr} {es : List Expr} {t : TA} {p pos : Pos} {K : PySem.W.Frag}
theorem CalX.pe {E : XK} (C : CalX X.prog X.w K X.mg X.base k x ps R) (hr : Room k X.A) (hg : Gl X x) (hx : Passes (L2.CX X.prog X.w) X E) (ha : PA X (e :: es) t) (hK : X.K = K := by rfl) (hdb : (x == ("__debug__" : Str)) = false := by decide) (he : starEach (e :: es) X.env = (false, eval e X.env) :: starEach es X.env := by rfl) (hpl : (backTo pos (starEach es X.env)).any (·.1) = false := by rfl) :
    PE X (.Call (.Name x p) (e :: es) [] pos) (tCall (@SpR ⟨K⟩ R) [] E t) := by
  subst hK
  obtain ⟨f, fd, F, hm, hk, hb⟩ := C.ex
  exact pe_call F hr hg hm hk hb .nil hx ha hdb he hpl
theorem CalX.peS {W : WX} (C : CalX X.prog X.w K X.mg X.base k x ps R) (hr : Room k X.A) (hg : Gl X x) (tk : Takes X W) (ha : PA X (e :: es) t) (hK : X.K = K := by rfl) (hdb : (x == ("__debug__" : Str)) = false := by decide) (he : starEach (e :: es) X.env = (false, eval e X.env) :: starEach es X.env := by rfl) (hpl : (backTo pos (starEach es X.env)).any (·.1) = false := by rfl) :
    PE X (.Call (.Name x p) (e :: es) [] pos) (tCallS (@SpR ⟨K⟩ R) (WE W) t) := by
  subst hK
  obtain ⟨f, fd, F, hm, hk, hb⟩ := C.ex
  exact pe_callS F hr hg hm hk hb (fun σ => passAt tk σ) ha hdb he hpl
theorem ps_raiseE {m : Str} {j : Nat} {p2 pos' : Pos} {W : WX} {C : Addr} (hc : X.calm = true) (tk : Takes X W) (h : ExF K X.mg x C) (hg : Gl X x) (hK : X.K = K := by rfl) (hdb : (x == ("__debug__" : Str)) = false := by decide) :
    PS X (.Raise (some (.Call (.Name x p) [.Constant (.str m) j p2] [] pos)) none pos') (fun _ σ H => W (.ref C) none σ H) := by
  subst hK
  exact ps_raise hc tk (pmk_own PySem.F.excBase_ValueError h.x h.g h.k (raises_own h.b h.t) hg hdb)
end
section
variable [KK] {E : XK} {S : DSt} {ta : TA} {ds : List PyData} {o : Ou} {u : TS}
theorem x_raise {C : Addr} : DX E (fun _ σ H => E (.ref C) none H) S (.rt (.ex C)) := fun D H σ rl k => k H Gm_le
/-- a call that refuses -/
def Rz (E : XK) (te : TE) (S : DSt) (C : Addr) : Prop := ∀ H σ, Rl H σ S → (∀ H', Same (Gm σ S H) H' → E (.ref C) none H') → ∀ Q, te σ H Q
theorem z_call {R : List PyData → Ro → Prop} {C : Addr} (h : Ea ta S ds) (hR : R ds (.ex C)) : Rz E (tCall (SpR R) [] E ta) S C := fun H σ rl k Q => h H σ rl _ fun vs H1 e1 q1 =>
  ⟨ds, .ex C, by rw [List.append_nil]; exact q1, hR, fun H' e2 => k H' (Gm_le.trans (e1.trans e2))⟩
theorem z_callR {α : Type} {args : α → List PyData} {pre : α → Prop} {res : α → Ro} {C : Addr} (x : α) (h : Ea ta S ds) (hx : ds = args x) (hp : pre x) (hr : res x = .ex C) : Rz E (tCall (SpR (Rf args pre res)) [] E ta) S C := z_call h ⟨x, hp, hx, hr.symm⟩
theorem z_drop {te : TE} {C : Addr} (h : Rz E te S C) : DX E (tDrop te) S (.rt (.ex C)) := fun D H σ rl k => h H σ rl (fun H' e => k H' e) _
theorem z_asg {te : TE} {C : Addr} {g : TG} (h : Rz E te S C) : DX E (tAsg te g) S (.rt (.ex C)) := fun D H σ rl k => h H σ rl (fun H' e => k H' e) _
theorem z_ret {te : TE} {C : Addr} (h : Rz E te S C) : DX E (tRet te) S (.rt (.ex C)) := fun D H σ rl k => h H σ rl (fun H' e => k H' e) _
/-! try, clause by clause -/
/-- what is done with a refusal of class C by the clauses l -/
def Caught (E : XK) (K : PySem.W.Frag) (S : DSt) (C : Addr) (o : Ou) : List (Value × (Addr → Value → Option Addr → TS)) → Prop
  | [] => False
  | (c, ts) :: r => (PySem.W.exmOne K (.ref C) c = some true ∧ ∀ a, DX E (ts a (.ref C) none) S o) ∨ (PySem.W.exmOne K (.ref C) c = some false ∧ Caught E K S C o r)
theorem caught_W {K : PySem.W.Frag} {C : Addr} {Wout : WX} {D : Ends} {σ : St} {H : Hp} {G : Hp} (rl : Rl H σ S) (k : Fin E D G o) (e : Same G (Gm σ S H)) : ∀ l, Caught E K S C o l → wMany K Wout D l (.ref C) none σ H
  | (c, ts) :: r, h => by
    rcases h with ⟨h1, h2⟩ | ⟨h1, h2⟩
    · exact ⟨true, h1, fun _ a _ => h2 a D H σ rl (k.up e), fun z => nomatch z⟩
    · exact ⟨false, h1, (fun z => nomatch z), fun _ => caught_W rl k e r h2⟩
theorem t_tryX {R : List PyData → Ro → Prop} {K : PySem.W.Frag} {C : Addr} {Wout : WX} {l : List (Value × (Addr → Value → Option Addr → TS))} (h : Ea ta S ds) (hR : R ds (.ex C)) (hc : Caught E K S C o l) :
    DX E (fun D σ H => (fun W : WX => tDrop (tCallS (SpR R) (WE W) ta)) (wMany K Wout D l) D σ H) S o := fun D H σ rl k => h H σ rl _ fun vs H1 e1 q1 =>
  ⟨ds, .ex C, q1, hR, fun H' e2 => by
    have e := e1.trans e2
    exact caught_W (rl.mono e) k (Gm_mono e) l hc⟩
theorem t_tryN {R : List PyData → Ro → Prop} {K : PySem.W.Frag} {Wout : WX} {d : PyData} {l : List (Value × (Addr → Value → Option Addr → TS))} (h : Ea ta S ds) (hR : R ds (.va d)) :
    DX E (fun D σ H => (fun W : WX => tDrop (tCallS (SpR R) (WE W) ta)) (wMany K Wout D l) D σ H) S (.nx S) := fun D H σ rl k => h H σ rl _ fun vs H1 e1 q1 =>
  ⟨ds, .va d, q1, hR, fun v H' e2 _ => k σ H' (rl.mono (e1.trans e2)) (Gm_mono (e1.trans e2))⟩
end
end DL

namespace DL
open PySem L2
/-! ### room for one job more -/
def loadP (js : List Job) (a b : Int) : Int := ((js.filter fun j => decide (a ≤ j.1) && decide (j.2.2 ≤ b)).map fun j => j.2.1).sum
theorem span_sum {js : List Job} {b e : Int} : ∀ ps : List Piece, GoodAll js ps → (∀ p ∈ ps, (jAt js p.1.toNat).1 ≤ p.2.1 ∧ p.2.2 ≤ (jAt js p.1.toNat).2.2) →
    (ps.map fun p => if (decide (b ≤ (jAt js p.1.toNat).1) && decide ((jAt js p.1.toNat).2.2 ≤ e)) = true then p.2.2 - p.2.1 else 0).sum ≤ max 0 (min (lastE ps) e - b) := by
  refine snoc_ind ?_ ?_
  · intro _ _
    show (0 : Int) ≤ _
    omega
  · intro ps p ih hg h
    obtain ⟨g1, c⟩ := good_snoc.mp hg
    have ih := ih g1 fun q hq => h q (List.mem_append_left _ hq)
    obtain ⟨h1, h2⟩ := h p (List.mem_append_right _ List.mem_cons_self)
    rw [List.map_append, List.sum_append, List.map_cons, List.sum_cons, lastE_snoc]
    show _ + (_ + (0 : Int)) ≤ _
    have tb := c.tb
    have be := c.be
    by_cases q : (decide (b ≤ (jAt js p.1.toNat).1) && decide ((jAt js p.1.toNat).2.2 ≤ e)) = true
    · rw [if_pos q]
      rw [Bool.and_eq_true, decide_eq_true_eq, decide_eq_true_eq] at q
      omega
    · rw [if_neg q]
      omega
/-- where a plan is, no stretch asks for more than it has -/
theorem load_span {js : List Job} (hs : AllS js) (hl : lateF js (endsF js) = []) {b e : Int} (h : b ≤ e) : loadP js b e ≤ e - b := by
  have rn := ran hs
  have hf := plan_fits hs hl
  have := span_sum (b := b) (e := e) _ rn.good fun p hp => by
    obtain ⟨i, hi, e⟩ := List.getElem_of_mem hp
    obtain ⟨_, _, _, _, c5, c6⟩ := hf.1 i p (by rw [List.getElem?_eq_getElem hi, e])
    exact ⟨c5, c6⟩
  unfold loadP
  rw [sel_ran rn]
  omega
theorem load_mono {js : List Job} {a b a' b' : Int} (h : ∀ j ∈ js, 0 ≤ j.2.1 ∧ (a ≤ j.1 → j.2.2 ≤ b → a' ≤ j.1 ∧ j.2.2 ≤ b')) : loadP js a b ≤ loadP js a' b' := by
  unfold loadP
  induction js with
  | nil => exact Int.le_refl _
  | cons j r ih =>
    have ih := ih fun x hx => h x (List.mem_cons_of_mem _ hx)
    obtain ⟨h1, h2⟩ := h j List.mem_cons_self
    by_cases q : (decide (a ≤ j.1) && decide (j.2.2 ≤ b)) = true
    · have q' := q
      rw [Bool.and_eq_true, decide_eq_true_eq, decide_eq_true_eq] at q'
      obtain ⟨h3, h4⟩ := h2 q'.1 q'.2
      rw [List.filter_cons_of_pos (by exact q), List.filter_cons_of_pos (by rw [decide_eq_true h3, decide_eq_true h4]; rfl), List.map_cons, List.map_cons, List.sum_cons, List.sum_cons]
      omega
    · rw [List.filter_cons_of_neg (by exact q)]
      by_cases q2 : (decide (a' ≤ j.1) && decide (j.2.2 ≤ b')) = true
      · rw [List.filter_cons_of_pos (by exact q2), List.map_cons, List.sum_cons]
        omega
      · rw [List.filter_cons_of_neg (by exact q2)]
        exact ih
def withF (js : List Job) (k : Nat) (j : Job) : List Job := js.take k ++ [j] ++ js.drop k
theorem load_with {js : List Job} {k : Nat} {j : Job} {a b : Int} : loadP (withF js k j) a b = loadP js a b + (if a ≤ j.1 ∧ j.2.2 ≤ b then j.2.1 else 0) := by
  have e : loadP js a b = loadP (js.take k) a b + loadP (js.drop k) a b := by
    unfold loadP
    rw [← List.sum_append, ← List.map_append, ← List.filter_append, List.take_append_drop]
  rw [e]
  unfold withF loadP
  rw [List.filter_append, List.filter_append, List.map_append, List.map_append, List.sum_append, List.sum_append]
  by_cases q : a ≤ j.1 ∧ j.2.2 ≤ b
  · rw [if_pos q, List.filter_cons_of_pos (by rw [decide_eq_true q.1, decide_eq_true q.2]; rfl)]
    show _ + (j.2.1 + 0) + _ = _
    omega
  · rw [if_neg q, List.filter_cons_of_neg (by rw [← Bool.decide_and]; simpa using q)]
    show _ + 0 + _ = _
    omega
theorem with_snd {js : List Job} {k : Nat} {j : Job} (hs : AllS js) (h : Snd j) : AllS (withF js k j) := fun x hx => by
  unfold withF at hx
  rcases List.mem_append.mp hx with hx | hx
  · rcases List.mem_append.mp hx with hx | hx
    · exact hs x (List.mem_of_mem_take hx)
    · rw [List.mem_singleton.mp hx]
      exact h
  · exact hs x (List.mem_of_mem_drop hx)
theorem with_len (js : List Job) (k : Nat) (j : Job) : (withF js k j).length = js.length + 1 := by
  unfold withF
  rw [List.length_append, List.length_append, List.length_take, List.length_drop, List.length_singleton]
  omega
/-! the least of what is left -/
def roomIn (js : List Job) (b : Int) (es : List Int) (m : Int) : Int := es.foldl (fun m e => min m (e - b - loadP js b e)) m
def roomAll (js : List Job) (bs es : List Int) (m : Int) : Int := bs.foldl (fun m b => roomIn js b es m) m
def beginsF (js : List Job) (a : Int) : List Int := a :: (js.filter fun j => decide (j.1 < a)).map fun j => j.1
def stopsF (js : List Job) (d : Int) : List Int := d :: (js.filter fun j => decide (d < j.2.2)).map fun j => j.2.2
def roomF (js : List Job) (a d : Int) : Int := roomAll js (beginsF js a) (stopsF js d) (d - a)
theorem roomIn_spec (js : List Job) (b : Int) : ∀ (es : List Int) (m : Int), roomIn js b es m ≤ m ∧ (∀ e ∈ es, roomIn js b es m ≤ e - b - loadP js b e) ∧ (roomIn js b es m = m ∨ ∃ e ∈ es, roomIn js b es m = e - b - loadP js b e)
  | [], m => ⟨Int.le_refl _, fun e h => (List.not_mem_nil h).elim, .inl rfl⟩
  | e :: es, m => by
    obtain ⟨h1, h2, h3⟩ := roomIn_spec js b es (min m (e - b - loadP js b e))
    have hd : roomIn js b (e :: es) m = roomIn js b es (min m (e - b - loadP js b e)) := rfl
    rw [hd]
    refine ⟨by omega, fun x hx => ?_, ?_⟩
    · rcases List.mem_cons.mp hx with z | z
      · rw [z]
        omega
      · exact h2 x z
    · rcases h3 with h3 | ⟨x, hx, h3⟩
      · by_cases q : m ≤ e - b - loadP js b e
        · exact .inl (by omega)
        · exact .inr ⟨e, List.mem_cons_self, by omega⟩
      · exact .inr ⟨x, List.mem_cons_of_mem _ hx, h3⟩
theorem roomAll_spec (js : List Job) (es : List Int) : ∀ (bs : List Int) (m : Int), roomAll js bs es m ≤ m ∧ (∀ b ∈ bs, ∀ e ∈ es, roomAll js bs es m ≤ e - b - loadP js b e) ∧ (roomAll js bs es m = m ∨ ∃ b ∈ bs, ∃ e ∈ es, roomAll js bs es m = e - b - loadP js b e)
  | [], m => ⟨Int.le_refl _, fun e h => (List.not_mem_nil h).elim, .inl rfl⟩
  | b :: bs, m => by
    obtain ⟨h1, h2, h3⟩ := roomAll_spec js es bs (roomIn js b es m)
    obtain ⟨g1, g2, g3⟩ := roomIn_spec js b es m
    have hd : roomAll js (b :: bs) es m = roomAll js bs es (roomIn js b es m) := rfl
    rw [hd]
    refine ⟨by omega, fun x hx e he => ?_, ?_⟩
    · rcases List.mem_cons.mp hx with z | z
      · rw [z]
        have := g2 e he
        omega
      · exact h2 x z e he
    · rcases h3 with h3 | ⟨x, hx, e, he, h3⟩
      · rcases g3 with g3 | ⟨e, he, g3⟩
        · exact .inl (by omega)
        · exact .inr ⟨b, List.mem_cons_self, e, he, by omega⟩
      · exact .inr ⟨x, List.mem_cons_of_mem _ hx, e, he, h3⟩
theorem begins_le {js : List Job} {a b : Int} (h : b ∈ beginsF js a) : b ≤ a := by
  rcases List.mem_cons.mp h with e | h
  · omega
  · obtain ⟨j, hj, rfl⟩ := List.mem_map.mp h
    have := of_decide_eq_true (List.mem_filter.mp hj).2
    omega
theorem stops_ge {js : List Job} {d e : Int} (h : e ∈ stopsF js d) : d ≤ e := by
  rcases List.mem_cons.mp h with z | h
  · omega
  · obtain ⟨j, hj, rfl⟩ := List.mem_map.mp h
    have := of_decide_eq_true (List.mem_filter.mp hj).2
    omega
theorem room_pos {js : List Job} (hs : AllS js) (hl : lateF js (endsF js) = []) {a d : Int} (h : a < d) : 0 ≤ roomF js a d ∧ roomF js a d ≤ d - a := by
  obtain ⟨h1, _, h3⟩ := roomAll_spec js (stopsF js d) (beginsF js a) (d - a)
  refine ⟨?_, h1⟩
  rcases h3 with h3 | ⟨b, hb, e, he, h3⟩
  · unfold roomF
    omega
  · have := begins_le hb
    have := stops_ge he
    have := load_span hs hl (b := b) (e := e) (by omega)
    unfold roomF
    omega
/-- the least of a list no less than b -/
theorem least_of {b a : Int} : ∀ l : List Int, b ≤ a → ∃ x, x ∈ a :: l ∧ b ≤ x ∧ x ≤ a ∧ ∀ y ∈ l, b ≤ y → x ≤ y
  | [], h => ⟨a, List.mem_cons_self, h, Int.le_refl _, fun y hy => (List.not_mem_nil hy).elim⟩
  | c :: l, h => by
    obtain ⟨x, h1, h2, h3, h4⟩ := least_of l h
    by_cases q : b ≤ c ∧ c < x
    · refine ⟨c, by simp, q.1, by omega, fun y hy hb => ?_⟩
      rcases List.mem_cons.mp hy with e | hy
      · omega
      · have := h4 y hy hb
        omega
    · refine ⟨x, ?_, h2, h3, fun y hy hb => ?_⟩
      · rcases List.mem_cons.mp h1 with e | h1
        · rw [e]; exact List.mem_cons_self
        · exact List.mem_cons_of_mem _ (List.mem_cons_of_mem _ h1)
      · rcases List.mem_cons.mp hy with e | hy
        · subst e
          omega
        · exact h4 y hy hb
theorem most_of {b a : Int} : ∀ l : List Int, a ≤ b → ∃ x, x ∈ a :: l ∧ x ≤ b ∧ a ≤ x ∧ ∀ y ∈ l, y ≤ b → y ≤ x
  | [], h => ⟨a, List.mem_cons_self, h, Int.le_refl _, fun y hy => (List.not_mem_nil hy).elim⟩
  | c :: l, h => by
    obtain ⟨x, h1, h2, h3, h4⟩ := most_of l h
    by_cases q : c ≤ b ∧ x < c
    · refine ⟨c, by simp, q.1, by omega, fun y hy hb => ?_⟩
      rcases List.mem_cons.mp hy with e | hy
      · omega
      · have := h4 y hy hb
        omega
    · refine ⟨x, ?_, h2, h3, fun y hy hb => ?_⟩
      · rcases List.mem_cons.mp h1 with e | h1
        · rw [e]; exact List.mem_cons_self
        · exact List.mem_cons_of_mem _ (List.mem_cons_of_mem _ h1)
      · rcases List.mem_cons.mp hy with e | hy
        · subst e
          omega
        · exact h4 y hy hb
theorem late_some {js : List Job} (hs : AllS js) (h : lateF js (endsF js) ≠ []) : ∃ k b e, answerD js = .tuple [.str (Str.ofString "late"), .int k, .int b, .int e] ∧ b ≤ e ∧ e - b < loadP js b e := by
  unfold answerD
  cases hlt : lateF js (endsF js) with
  | nil => exact absurd hlt h
  | cons k r =>
    have h0 : (lateF js (endsF js))[0]? = some k := by rw [hlt]; rfl
    obtain ⟨m, rfl, hm, hl, _⟩ := lateF_at h0
    have ed : dueF js (m : Int) = (jAt js m).2.2 := by unfold dueF; rw [Int.toNat_natCast]
    dsimp only
    rw [ed]
    obtain ⟨_, _, _, h4, _, h6⟩ := late_much hs hm hl
    rw [Int.toNat_natCast] at h4
    have := (hs _ (jAt_mem hm)).2.2
    exact ⟨_, _, _, rfl, by omega, h6⟩
theorem room_fits {js : List Job} (hs : AllS js) (hl : lateF js (endsF js) = []) {a d : Int} {k : Nat} (ha : 0 ≤ a) (h : a < d) (hr : 0 < roomF js a d) : lateF (withF js k (a, roomF js a d, d)) (endsF (withF js k (a, roomF js a d, d))) = [] := by
  have hs' : AllS (withF js k (a, roomF js a d, d)) := with_snd hs ⟨ha, by show 1 ≤ roomF js a d; omega, h⟩
  by_cases z : lateF (withF js k (a, roomF js a d, d)) (endsF (withF js k (a, roomF js a d, d))) = []
  · exact z
  · exfalso
    obtain ⟨_, b, e, _, h1, h2⟩ := late_some hs' z
    rw [load_with] at h2
    have hsp := load_span hs hl h1
    by_cases q : b ≤ a ∧ d ≤ e
    · rw [if_pos q] at h2
      obtain ⟨b', m1, m2, m3, m4⟩ := least_of ((js.filter fun j => decide (j.1 < a)).map fun j => j.1) q.1
      obtain ⟨e', n1, n2, n3, n4⟩ := most_of ((js.filter fun j => decide (d < j.2.2)).map fun j => j.2.2) q.2
      have hm : loadP js b e ≤ loadP js b' e' := load_mono fun j hj => ⟨by have := (hs j hj).2.1; omega, fun g1 g2 => by
        constructor
        · by_cases c : j.1 < a
          · exact m4 _ (List.mem_map.mpr ⟨j, List.mem_filter.mpr ⟨hj, decide_eq_true c⟩, rfl⟩) g1
          · omega
        · by_cases c : d < j.2.2
          · exact n4 _ (List.mem_map.mpr ⟨j, List.mem_filter.mpr ⟨hj, decide_eq_true c⟩, rfl⟩) g2
          · omega⟩
      have := (roomAll_spec js (stopsF js d) (beginsF js a) (d - a)).2.1 b' m1 e' n1
      have this : roomF js a d ≤ e' - b' - loadP js b' e' := this
      have h2 : e - b < loadP js b e + roomF js a d := h2
      omega
    · rw [if_neg q] at h2
      omega
theorem room_most {js : List Job} (hs : AllS js) (hl : lateF js (endsF js) = []) {a d : Int} {k : Nat} (ha : 0 ≤ a) (h : a < d) : lateF (withF js k (a, roomF js a d + 1, d)) (endsF (withF js k (a, roomF js a d + 1, d))) ≠ [] := fun z => by
  have h0 := room_pos hs hl h
  have hs' : AllS (withF js k (a, roomF js a d + 1, d)) := with_snd hs ⟨ha, by show 1 ≤ roomF js a d + 1; omega, h⟩
  obtain ⟨_, _, h3⟩ := roomAll_spec js (stopsF js d) (beginsF js a) (d - a)
  have h3 : roomF js a d = d - a ∨ ∃ b ∈ beginsF js a, ∃ e ∈ stopsF js d, roomF js a d = e - b - loadP js b e := h3
  have nn : ∀ b e, 0 ≤ loadP js b e := fun b e => by
    unfold loadP
    have : (((js.filter fun j => decide (b ≤ j.1) && decide (j.2.2 ≤ e)).map fun _ => (0 : Int))).sum ≤ ((js.filter fun j => decide (b ≤ j.1) && decide (j.2.2 ≤ e)).map fun j => j.2.1).sum := sum_le fun j hj => by
      have := (hs j (List.mem_filter.mp hj).1).2.1
      omega
    have e0 : ∀ l : List Job, (l.map fun _ => (0 : Int)).sum = 0 := fun l => by
      induction l with
      | nil => rfl
      | cons x r ih => rw [List.map_cons, List.sum_cons, ih]; rfl
    rw [e0] at this
    exact this
  rcases h3 with h3 | ⟨b, hb, e, he, h3⟩
  · have := load_span hs' z (b := a) (e := d) (by omega)
    rw [load_with, if_pos ⟨Int.le_refl _, Int.le_refl _⟩] at this
    have this : loadP js a d + (roomF js a d + 1) ≤ d - a := this
    have := nn a d
    omega
  · have hb' := begins_le hb
    have he' := stops_ge he
    have := load_span hs' z (b := b) (e := e) (by omega)
    rw [load_with, if_pos ⟨hb', he'⟩] at this
    have this : loadP js b e + (roomF js a d + 1) ≤ e - b := this
    omega
end DL

namespace DL
open PySem L2 PySem.Spec PyProof.Rows
/-! ### try with several clauses, some with names -/
/-- an exception of a body (at a, its class cls, its dict d) has come to rest in X -/
structure Rest (X : Cx) (pins : List (Addr × Obj)) (σ : L2.St) (H : Hp) (a : Addr) (cls : Value) (d : Option Addr) (B : Heap) (sI s : Shared) : Prop where
  I : Inv X pins σ H sI
  nb : ∀ b o, sI.heap.get? b = some o → b ∉ frs X.stack → B.get? b = some o
  up : sI.heap.UpToSlots s.heap
  fl : HandSPX.FlyingZ B (X.env :: X.outer) a (Zc cls d) s.heap
  na : H a = none
  os : s.os = sI.os
  ag : AllBare s.gens
section
variable {X : Cx} {pins : List (Addr × Obj)} {σ : L2.St} {H : Hp} {a : Addr} {cls : Value} {d : Option Addr} {B : Heap} {sI s : Shared}
theorem Rest.suite (R : Rest X pins σ H a cls d B sI s) (hs : X.stack = X.env :: X.outer) (hf : X.env.frame = some X.env.locals) : ∃ (oe : Obj) (vs : Array Value), s.heap.get? a = some oe ∧ Zc cls d oe ∧ oe.data = .fields vs ∧ Inv (X.suite a ((a, oe) :: (X.pn ++ pins))) [] σ H s := by
  obtain ⟨I, nb, up, fl, na, os, ag⟩ := R
  obtain ⟨oe, vs, he, hz, hd⟩ := fl.there
  have J : Inv X pins σ H s := I.landed nb fl.1 up os ag
  have out : a ∉ frs (X.env :: X.outer) := fun hm => by
    obtain ⟨_, o', e', hnf⟩ := fl.2.2.1.mem hm
    rw [he] at e'
    cases e'
    exact hnf _ hd
  have nL : a ≠ X.env.locals := fun z => out (List.mem_filterMap.mpr ⟨X.env, List.mem_cons_self, by rw [hf, z]⟩)
  have nF : a ∉ X.fs := fun hm => by
    obtain ⟨e, hm, q⟩ := List.mem_filterMap.mp hm
    exact out (List.mem_filterMap.mpr ⟨e, List.mem_cons_of_mem _ hm, q⟩)
  exact ⟨oe, vs, he, hz, hd, J.suite he hd na nL nF⟩
theorem Rest.with (R : Rest X pins σ H a cls d B sI s) {h : Heap} (fl : HandSPX.FlyingZ B (X.env :: X.outer) a (Zc cls d) h) (up : s.heap.UpToSlots h) : Rest X pins σ H a cls d B sI { s with heap := h } :=
  ⟨R.I, R.nb, R.up.trans up, fl, R.na, R.os, R.ag⟩
/-- no clause takes it -/
theorem Rest.out (R : Rest X pins σ H a cls d B sI s) (hs : X.stack = X.env :: X.outer) (hf : X.env.frame = some X.env.locals) {Wout : WX} (tk : Takes X Wout) (w : Wout cls d σ H) {D : Ends} :
    wpAny (model X.prog X.w) X.A (handleBy (.ref a) X.env []) (SP X pins D) X.xe s := by
  refine wpAny_handleBy_nil ?_
  obtain ⟨_, _, _, oe, vs, T, oT, ts', he, hz, hd, h1, hr⟩ := id R.fl
  unfold PySem.passOn
  refine wpAny_bind (wpAny_field he hd h1 ?_)
  rw [if_neg (show ¬ ((Value.ref T == Value.none) = true) from by simp)]
  have fin : wpAny (model X.prog X.w) X.A (setFlight (.ref a) X.env.frame) (fun _ s4 => wpAny (model X.prog X.w) X.A (throw (.ref a) : Sem Flow) (SP X pins D) X.xe s4) X.xe s := by
    rw [hf]
    refine HandSPX.setFlight_upZ R.fl fun h4 hh4 up4 => wpAny_throw (tk _ _ ?_)
    exact ⟨a, B, sI, pins, σ, H, cls, d, rfl, R.I, R.nb, R.up.trans up4, .inr (.inr (by rw [hs]; exact hh4)), R.na, R.os, R.ag, w⟩
  first
    | exact wpAny_bind (wpAny_pure (wpAny_bind fin))
    | exact wpAny_bind fin
end
/-- a clause: the class it names, the slot of its name if it has one, its suite -/
abbrev Cl := Value × Option Nat × (Addr → Value → Option Addr → TS)
def endsN (i : Nat) (D : Ends) : Ends := { nx := fun σ' H' => D.nx (σ'.set i none) H', rt := D.rt, bk := fun σ' H' => D.bk (σ'.set i none) H', ct := fun σ' H' => D.ct (σ'.set i none) H' }
def suiteW (D : Ends) (i : Option Nat) (ts : Addr → Value → Option Addr → TS) (cls : Value) (d : Option Addr) (σ : L2.St) (H : Hp) : Prop :=
  ∀ a, H a = none → match i with
    | none => ts a cls d D σ H
    | some i => ts a cls d (endsN i D) (σ.set i (some (.ref a))) H
def wCl (K : PySem.W.Frag) (Wout : WX) (D : Ends) : List Cl → WX
  | [] => Wout
  | (c, i, ts) :: r => fun cls d σ H => ∃ b, PySem.W.exmOne K cls c = some b ∧ (b = true → suiteW D i ts cls d σ H) ∧ (b = false → wCl K Wout D r cls d σ H)
def NameAt (X : Cx) : Option Str → Option Nat → Prop
  | none, none => True
  | some n, some i => X.N[i]? = some n ∧ X.env.kindOf n = some .local
  | _, _ => False
inductive ClsOk (X : Cx) : List ExceptHandler → List Cl → Prop
  | nil : ClsOk X [] []
  | cons {x : Str} {n : Option Str} {i : Option Nat} {c : Value} {ts : Addr → Value → Option Addr → TS} {b₀ : Stmt} {suite : List Stmt} {np pos' : Pos} {hds : List ExceptHandler} {l : List Cl} (hc : Names X x c) (hn : NameAt X n i)
      (hsu : ∀ (a : Addr) (oe : Obj) (cls : Value) (d : Option Addr) (pn : List (Addr × Obj)), Zc cls d oe → (∃ vs, oe.data = .fields vs) → PSs (X.suite a ((a, oe) :: pn)) (b₀ :: suite) (ts a cls d)) (r : ClsOk X hds l) :
      ClsOk X (.ExceptHandler (some (.Name x np)) n (b₀ :: suite) pos' :: hds) ((c, i, ts) :: l)
section
variable {X : Cx} {body : List Stmt} {h₀ : ExceptHandler} {hds : List ExceptHandler} {l : List Cl} {pos : Pos} {tb : WX → TS} {Wout : WX}
theorem cls_run (hs : X.stack = X.env :: X.outer) (hf : X.env.frame = some X.env.locals) (hN : X.N.Nodup) (tk : Takes X Wout) {pins : List (Addr × Obj)} {D : Ends} {a : Addr} {cls : Value} {d : Option Addr} {B : Heap} {sI : Shared} {σ : L2.St} {H : Hp} :
    ∀ {hds : List ExceptHandler} {l : List Cl}, ClsOk X hds l → wCl X.K Wout D l cls d σ H → ∀ s, Rest X pins σ H a cls d B sI s → wpAny (model X.prog X.w) X.A (handleBy (.ref a) X.env hds) (SP X pins D) X.xe s := by
  intro hds l h
  induction h with
  | nil => exact fun w s R => R.out hs hf tk w
  | @cons x n i c ts b₀ suite np pos' hds2 l2 hc hn hsu r ih =>
    intro w s R
    obtain ⟨b, hb1, hyes, hno⟩ := w
    obtain ⟨oe, vs, he, hz, hd, S⟩ := R.suite hs hf
    have ok := R.I.ok
    refine wpAny_handleBy_cons (codeAny_handlers_test ?_) (by intro q; cases q)
    have LM := PySem.W.exm_one (M := model X.prog X.w) (h := s.heap) (S.kIn) (fun A Q E s k q => wpAny_typeOf_ref (k _ _ he) (by rw [hz.1]; exact q)) hb1
    have test : ∀ {Q : Value → Shared → Prop} {E : Value → Shared → Prop}, Q c s → wpAny (model X.prog X.w) (X.A.mark (some (.ref a))) (eval (.Name x np) X.env) Q E s := fun {Q E} q => by
      obtain ⟨hg, hdbg, hm | ⟨hm, hv, hnn⟩⟩ := hc
      · exact ld_glob (X := X.suite a ((a, oe) :: (X.pn ++ pins))) S hg hm q hdbg
      · exact ld_blt (X := X.suite a ((a, oe) :: (X.pn ++ pins))) S hg hm hv q hnn hdbg
    refine test (LM.here ?_)
    cases b with
    | false => exact ih (hno rfl) s R
    | true =>
      have hy := hyes rfl a R.na
      cases n with
      | none =>
        cases i with
        | some i => exact hn.elim
        | none =>
          refine codeAny_handlers_suite (HandSPX.lands_againZ R.fl fun h4 fl4 up4 => ?_)
          obtain ⟨oe4, vs4, he4, hz4, hd4, S4⟩ := (R.with fl4 up4).suite hs hf
          refine wpAny_mono ((hsu a oe4 cls d (X.pn ++ pins) hz4 ⟨_, hd4⟩).run [] _ _ H _ S4 hy) (fun f s6 hsp => ?_) (fun _ _ z => False.elim z)
          cases f with
          | next => exact let ⟨σ6, H6, S6, q6⟩ := hsp; ⟨σ6, H6, S6.unsuite ok, q6⟩
          | brk => exact let ⟨σ6, H6, S6, q6⟩ := hsp; ⟨σ6, H6, S6.unsuite ok, q6⟩
          | cont => exact let ⟨σ6, H6, S6, q6⟩ := hsp; ⟨σ6, H6, S6.unsuite ok, q6⟩
          | ret u => exact let ⟨v6, σ6, H6, S6, r6, q6⟩ := hsp; ⟨v6, σ6, H6, S6.unsuite ok, r6, q6⟩
      | some n =>
        cases i with
        | none => exact hn.elim
        | some i =>
          obtain ⟨hi, hln⟩ := hn
          refine codeAny_handlers_suite_as (HandSPX.lands_againZ R.fl fun h4 fl4 up4 => ?_)
          obtain ⟨oe4, vs4, he4, hz4, hd4, S4⟩ := (R.with fl4 up4).suite hs hf
          refine store_ok (X := X.suite a ((a, oe4) :: (X.pn ++ pins))) (v := .ref a) S4 hN hi (.inl hln) rfl (fun s5 S5 => ?_) (.inr hln)
          refine wpAny_mono ((hsu a oe4 cls d (X.pn ++ pins) hz4 ⟨_, hd4⟩).run [] s5 _ H _ S5 hy) (fun f s6 hsp => ?_) (fun _ _ z => False.elim z)
          cases f with
          | next => exact let ⟨σ6, H6, S6, q6⟩ := hsp; gone_ok (S6.unsuite ok) hN hi hln fun s7 J7 => ⟨_, _, J7, q6⟩
          | brk => exact let ⟨σ6, H6, S6, q6⟩ := hsp; gone_ok (S6.unsuite ok) hN hi hln fun s7 J7 => ⟨_, _, J7, q6⟩
          | cont => exact let ⟨σ6, H6, S6, q6⟩ := hsp; gone_ok (S6.unsuite ok) hN hi hln fun s7 J7 => ⟨_, _, J7, q6⟩
          | ret u => exact let ⟨v6, σ6, H6, S6, r6, q6⟩ := hsp; gone_ok (S6.unsuite ok) hN hi hln fun s7 J7 => ⟨_, _, _, J7, r6, q6⟩
/-- the reading of such a try -/
def tTryC (K : PySem.W.Frag) (Wout : WX) (tb : WX → TS) (l : List Cl) : TS := fun D σ H => tb (wCl K Wout D l) D σ H
theorem ps_tryC (hs : X.stack = X.env :: X.outer) (hf : X.env.frame = some X.env.locals) (hN : X.N.Nodup) (tk : Takes X Wout)
    (hb : ∀ (W : WX) (pn : List (Addr × Obj)) (xe : Value → Shared → Prop), Takes (X.tr pn xe) W → PassesOwn (model X.prog X.w) X.A X.env xe → PSs (X.tr pn xe) body (tb W))
    (hh : ClsOk X (h₀ :: hds) l) : PS X (.Try body (h₀ :: hds) [] [] pos) (tTryC X.K Wout tb l) := by
  refine ⟨fun pins s σ H D I h => ?_⟩
  have h : tb (wCl X.K Wout D l) D σ H := h
  have ok := I.ok
  have hfr : X.A.frames = some (X.env :: X.outer) := by rw [ok.frames, hs]
  have run := (hb (wCl X.K Wout D l) (X.pn ++ pins) (fun e s₁ => wpAny (model X.prog X.w) X.A (noteFrame e X.env) (fun _ s₂ => wpAny (model X.prog X.w) X.A (setFlight e none) (fun _ s₃ =>
    wpAny (model X.prog X.w) X.A (handleBy e X.env (h₀ :: hds)) (SP X pins D) X.xe s₃) X.xe s₂) X.xe s₁) (fun u s' xx => by
      obtain ⟨a, B, sI, pins', σ', H', cls, d, rfl, J', nb, up, sky, na, os, ag, w⟩ := xx
      refine Sky.land Zc.steady hfr hf (by rw [← hs]; exact sky) fun h3 fl3 up3 => ?_
      exact cls_run hs hf hN tk hh w _ ⟨J'.ofTry ok, nb, up.trans up3, fl3, na, os, ag⟩) PassesOwn.looking).run [] s σ H D (I.toTry _) h
  refine wpAny_Try_except (wpAny_mono run (fun f s1 hsp => ?_) (fun e s1 he => he))
  cases f with
  | next => exact let ⟨σ', H', J', q⟩ := hsp; wpAny_execs_nil ⟨σ', H', J'.ofTry ok, q⟩
  | brk => exact let ⟨σ', H', J', q⟩ := hsp; ⟨σ', H', J'.ofTry ok, q⟩
  | cont => exact let ⟨σ', H', J', q⟩ := hsp; ⟨σ', H', J'.ofTry ok, q⟩
  | ret u => exact let ⟨v, σ', H', J', r, q⟩ := hsp; ⟨v, σ', H', J'.ofTry ok, r, q⟩
end
end DL

namespace DL
open PySem L2
section
variable [KK] {E E' : XK} {S : DSt} {ta : TA} {te tb : TE} {ds : List PyData} {o : Ou} {u : TS} {C : Addr} {K : PySem.W.Frag}
theorem z_arg1 {sp : Sp} {dvs : List V} (h : Rz E te S C) : Rz E (tCall sp dvs E' (tCons te ta)) S C := fun H σ rl k Q => h H σ rl k _
theorem z_forL {g : TG} {t : TS} (h : Rz E te S C) : DX E (tFor (iList K te) g t) S (.rt (.ex C)) := fun D H σ rl k => h H σ rl (fun H' e => k H' e) _
theorem z_zip2 {g : TG} {t : TS} {d : PyData} {tx : TE} (h0 : Eb tx S d) (h : Rz E te S C) : DX E (tFor (iZip K (tCons tx (tCons te tNil))) g t) S (.rt (.ex C)) := fun D H σ rl k => h0 H σ rl _ fun v H1 e1 _ => h H1 σ (rl.mono e1) (fun H' e => k H' ((Gm_mono e1).trans e)) _
/-! a list with a thing that is no job, or too long a list -/
def Bad (ds : List PyData) : Prop := ¬ (ds.length ≤ 60 ∧ ∀ d ∈ ds, soundD d = true)
def badC [EK] (ds : List PyData) : Addr := if ds.length ≤ 60 then EK.BadJob else EK.TooMany
theorem good_jobs : ∀ {ds : List PyData}, (∀ d ∈ ds, soundD d = true) → ∃ js : List Job, ds = jobsL js ∧ AllS js
  | [], _ => ⟨[], rfl, fun j h => (List.not_mem_nil h).elim⟩
  | d :: ds, h => by
    obtain ⟨js, e, hs⟩ := good_jobs fun x hx => h x (List.mem_cons_of_mem _ hx)
    have h1 := h d List.mem_cons_self
    obtain ⟨a, b, c, rfl⟩ : ∃ a b c, d = .tuple [.int a, .int b, .int c] := by
      unfold soundD at h1
      split at h1
      · exact ⟨_, _, _, rfl⟩
      · cases h1
    refine ⟨(a, b, c) :: js, by rw [e]; rfl, fun j hj => ?_⟩
    rcases List.mem_cons.mp hj with z | z
    · rw [z]
      exact (soundD_job (a, b, c)).mp h1
    · exact hs j z
/-- promises of a def of a list of jobs (and of 0, 1, 2 things more): good jobs, or a refusal -/
def RX0 [EK] {α : Type} (args : α → List PyData) (pre : α → Prop) (res : α → Ro) : List PyData → Ro → Prop :=
  Rf (α := α ⊕ List PyData) (Sum.elim args fun y => [.list y]) (Sum.elim pre fun y => Bad y) (Sum.elim res fun y => .ex (badC y))
def RX1 [EK] {α : Type} (args : α → List PyData) (pre : α → Prop) (res : α → Ro) : List PyData → Ro → Prop :=
  Rf (α := α ⊕ (List PyData × PyData)) (Sum.elim args fun y => [.list y.1, y.2]) (Sum.elim pre fun y => Bad y.1) (Sum.elim res fun y => .ex (badC y.1))
def RX2 [EK] {α : Type} (args : α → List PyData) (pre : α → Prop) (res : α → Ro) : List PyData → Ro → Prop :=
  Rf (α := α ⊕ (List PyData × PyData × PyData)) (Sum.elim args fun y => [.list y.1, y.2.1, y.2.2]) (Sum.elim pre fun y => Bad y.1) (Sum.elim res fun y => .ex (badC y.1))
section
variable [EK] {α : Type} {args : α → List PyData} {pre : α → Prop} {res : α → Ro} {d a b : PyData} {es : List PyData}
theorem e_call0 (x : α) (h : Ea ta S ds) (hx : ds = args x) (hp : pre x) (hr : res x = .va d) : Eb (tCall (SpR (RX0 args pre res)) [] E ta) S d := e_call h ⟨.inl x, hp, hx, hr.symm⟩
theorem n_call0 (x : α) (h : Ea ta S ds) (hx : ds = args x) (hp : pre x) (hr : res x = .nw es) : En (tCall (SpR (RX0 args pre res)) [] E ta) S es := n_call h ⟨.inl x, hp, hx, hr.symm⟩
theorem z_call0 (h : Ea ta S [.list ds]) (hb : Bad ds) : Rz E (tCall (SpR (RX0 args pre res)) [] E ta) S (badC ds) := z_call h ⟨.inr ds, hb, rfl, rfl⟩
theorem e_call1 (x : α) (h : Ea ta S ds) (hx : ds = args x) (hp : pre x) (hr : res x = .va d) : Eb (tCall (SpR (RX1 args pre res)) [] E ta) S d := e_call h ⟨.inl x, hp, hx, hr.symm⟩
theorem z_call1 (h : Ea ta S [.list ds, a]) (hb : Bad ds) : Rz E (tCall (SpR (RX1 args pre res)) [] E ta) S (badC ds) := z_call h ⟨.inr (ds, a), hb, rfl, rfl⟩
theorem e_call2 (x : α) (h : Ea ta S ds) (hx : ds = args x) (hp : pre x) (hr : res x = .va d) : Eb (tCall (SpR (RX2 args pre res)) [] E ta) S d := e_call h ⟨.inl x, hp, hx, hr.symm⟩
theorem z_call2 (h : Ea ta S [.list ds, a, b]) (hb : Bad ds) : Rz E (tCall (SpR (RX2 args pre res)) [] E ta) S (badC ds) := z_call h ⟨.inr (ds, a, b), hb, rfl, rfl⟩
theorem len_of0 {n : Nat} (h : ∀ x, (args x).length = n) (hn : n = 1 := by rfl) : ∀ vs H Q E, SpR (RX0 args pre res) vs H Q E → vs.length = n := len_of fun x => by
  cases x with
  | inl x => exact h x
  | inr y => exact hn.symm
theorem len_of1 {n : Nat} (h : ∀ x, (args x).length = n) (hn : n = 2 := by rfl) : ∀ vs H Q E, SpR (RX1 args pre res) vs H Q E → vs.length = n := len_of fun x => by
  cases x with
  | inl x => exact h x
  | inr y => exact hn.symm
theorem len_of2 {n : Nat} (h : ∀ x, (args x).length = n) (hn : n = 3 := by rfl) : ∀ vs H Q E, SpR (RX2 args pre res) vs H Q E → vs.length = n := len_of fun x => by
  cases x with
  | inl x => exact h x
  | inr y => exact hn.symm
theorem run_def0 {N : List Str} {t : TS} {vs : List V} {H : Hp} {Q : VK} (h : SpR (RX0 args pre res) vs H Q E)
    (hb : (∀ x, pre x → DX E t ((args x).map Sl.va ++ List.replicate (N.length - (args x).length) Sl.no) (.rt (res x))) ∧ ∀ ds, Bad ds → DX E t (.va (.list ds) :: List.replicate (N.length - 1) Sl.no) (.rt (.ex (badC ds)))) : t { nx := fun _ H' => Q .non H', rt := Q } (L2.start N vs) H :=
  run_def h fun x hx => by
    cases x with
    | inl x => exact hb.1 x hx
    | inr y => exact hb.2 y hx
theorem run_def1 {N : List Str} {t : TS} {vs : List V} {H : Hp} {Q : VK} (h : SpR (RX1 args pre res) vs H Q E)
    (hb : (∀ x, pre x → DX E t ((args x).map Sl.va ++ List.replicate (N.length - (args x).length) Sl.no) (.rt (res x))) ∧ ∀ ds a, Bad ds → DX E t (.va (.list ds) :: .va a :: List.replicate (N.length - 2) Sl.no) (.rt (.ex (badC ds)))) : t { nx := fun _ H' => Q .non H', rt := Q } (L2.start N vs) H :=
  run_def h fun x hx => by
    cases x with
    | inl x => exact hb.1 x hx
    | inr y => exact hb.2 y.1 y.2 hx
theorem run_def2 {N : List Str} {t : TS} {vs : List V} {H : Hp} {Q : VK} (h : SpR (RX2 args pre res) vs H Q E)
    (hb : (∀ x, pre x → DX E t ((args x).map Sl.va ++ List.replicate (N.length - (args x).length) Sl.no) (.rt (res x))) ∧ ∀ ds a b, Bad ds → DX E t (.va (.list ds) :: .va a :: .va b :: List.replicate (N.length - 3) Sl.no) (.rt (.ex (badC ds)))) : t { nx := fun _ H' => Q .non H', rt := Q } (L2.start N vs) H :=
  run_def h fun x hx => by
    cases x with
    | inl x => exact hb.1 x hx
    | inr y => exact hb.2 y.1 y.2.1 y.2.2 hx
end
/-! f-strings, join -/
def EJ (ts : List TE) (acc : Str) (S : DSt) (out : Str) : Prop := ∀ H σ, Rl H σ S → ∀ Q : Str → Hp → Prop, (∀ H', Same H H' → Q out H') → tJs ts acc σ H Q
theorem ej_nil {acc : Str} : EJ [] acc S acc := fun H σ rl Q q => q H (Same.refl H)
theorem ej_cons {t : TE} {ts : List TE} {acc y out : Str} (h : Eb t S (.str y)) (hz : (acc ++ y).length ≤ sizeLine) (r : EJ ts (acc ++ y) S out) : EJ (t :: ts) acc S out := fun H σ rl Q q => h H σ rl _ fun v H1 e1 q1 =>
  ⟨y, q1, hz, r H1 σ (rl.mono e1) Q fun H' e2 => q H' (e1.trans e2)⟩
theorem e_fmtI {i : Int} (h : Eb te S (.int i)) (hz : i.natAbs.log2 < 1920) : Eb (tFmt te) S (.str (Str.ofString (toString i))) := fun H σ rl Q q => h H σ rl _ fun v H1 e1 q1 =>
  .inr ⟨i, q1, hz, q _ H1 e1 rfl⟩
theorem e_joined {ts : List TE} {out : Str} (h : EJ ts Str.empty S out) : Eb (fun σ H Q => tJs ts Str.empty σ H fun out H1 => Q (.str out) H1) S (.str out) := fun H σ rl Q q => h H σ rl _ fun H' e => q _ H' e rfl
theorem strs_of {H : Hp} : ∀ {ys : List Str} {xs : List V}, DaL H (ys.map .str) xs → xs = ys.map V.str
  | [], _, h => h
  | y :: ys, _, h => by
    obtain ⟨v, vs, rfl, h1, h2⟩ := h
    have h1 : v = .str y := h1
    rw [h1, strs_of (ys := ys) h2]
    rfl
def rJoin (K : PySem.W.Frag) : V → List V → Hp → VK → Prop := fun x xs H Q => ∃ a p, ∃ ys : List Str, x = .str a ∧ xs = [.ref p] ∧ (SqL K H p (ys.map V.str) ∨ SqT K H p (ys.map V.str)) ∧
      (ys.map (·.length)).sum + ys.length * a.length ≤ 16777216 ∧ Q (.str (Txt.join a ys)) H
theorem e_join {a : Str} {ys : List Str} (ho : Eb te S (.str a)) (h : Eb tb S (.list (ys.map .str))) (hz : (ys.map (·.length)).sum + ys.length * a.length ≤ 16777216) : Eb (tM1 (rJoin K) te tb) S (.str (Txt.join a ys)) := fun H σ rl Q q =>
  ho H σ rl _ fun v H1 e1 q1 => ⟨⟨a, q1⟩, h H1 σ (rl.mono e1) _ fun w H2 e2 q2 => by
    obtain ⟨p, xs, rfl, h3, h4⟩ := q2
    have e := strs_of h4
    subst e
    exact ⟨a, p, ys, q1, rfl, .inl (SqL.of h3), hz, q _ H2 (e1.trans e2) rfl⟩⟩
end
section
variable {X : Cx} {o e : Expr} {to te : TE} (K : PySem.W.Frag)
theorem j_join {apos pos : Pos} (ho : PE X o to) (he : PE X e te) (hK : X.K = K := by rfl) (hs : starEach [e] X.env = [(false, eval e X.env)] := by rfl) (hbase : attributeBase o "join" X.env (eval o X.env) = eval o X.env := by rfl) (hline : (apos.endLine == pos.line) = true := by rfl) :
    PE X (.Call (.Attribute o "join" apos) [e] [] pos) (tM1 (rJoin K) to te) := by
  subst hK
  exact pe_join ho he hs hbase hline
/-- isinstance of the exception that a clause holds -/
def rIsX (K : PySem.W.Frag) (a : Addr) (cls : Value) (d : Option Addr) : List V → Hp → VK → Prop := fun xs H Q => ∃ D, cls = .ref D ∧ d = none ∧ ExcC K D ∧ rIsE K D a xs H Q
theorem j_isE {a : Addr} {oe : Obj} {cls : Value} {d : Option Addr} {pn : List (Addr × Obj)} (hz : Zc cls d oe) (hf : ∃ vs, oe.data = .fields vs) (hK : X.K = K := by rfl) : CallR (X.suite a ((a, oe) :: pn)) (.builtin "isinstance") (rIsX K a cls d) := by
  subst hK
  intro pins s σ H xs us Q I r h
  obtain ⟨D, rfl, rfl, hC, h⟩ := h
  exact call_isE hC hz hf pins s σ H xs us Q I r h
end
end DL

namespace DL
open PySem L2
section
variable [KK] {E : XK} {S : DSt} {ta : TA} {te tb : TE} {tt tu : TT} {ds : List PyData} {o : Ou} {t u : TS} {C : Addr} {K : PySem.W.Frag} {i : Nat} {a : Addr} {b c : Bool} {r : Ro}
/-- a list of a length that no owned list has -/
theorem Ep.lone (h : Eb te S (.list ds)) (im : immL ds = true) (n : ∀ (j : Nat) es, S[j]? = some (.ow es) → es.length ≠ ds.length) : Ep te S (.list ds) := fun H σ r Q q => h H σ r Q fun v H1 e h1 => q v H1 e (by
  obtain ⟨a, xs, rfl, h2, h3⟩ := h1
  refine ⟨a, xs, rfl, Gm_of (fun ⟨j, es, w1, w2⟩ => ?_) h2, (r.mono e).immL im h3⟩
  obtain ⟨l, ys, z1, z2, z3, _⟩ := (r.mono e).ow j es w1
  rw [w2] at z1
  cases z1
  rw [h2] at z2
  cases z2
  exact n j es w1 (by rw [← z3.length, h3.length]))
/-! suites that hold the exception by a name (slot i holds it, at a) -/
def DXa (E : XK) (i : Nat) (a : Addr) (t : TS) (S : DSt) (o : Ou) : Prop := ∀ D H σ, Rl H σ S → σ[i]? = some (some (.ref a)) → Fin E D (Gm σ S H) o → t D σ H
def Eta (i : Nat) (a : Addr) (tt : TT) (b : Bool) : Prop := ∀ H (σ : St) (Q : Bool → Hp → Prop), σ[i]? = some (some (.ref a)) → (∀ H1, Same H H1 → Q b H1) → tt σ H Q
theorem xa_of (h : DX E t S o) : DXa E i a t S o := fun D H σ rl _ k => h D H σ rl k
theorem xa_yes (h : Eta i a tt true) (h1 : DXa E i a t S (.rt r)) {v : TS} : DXa E i a (tSeq (tIfS tt t u) v) S (.rt r) := fun D H σ rl e k => h H σ _ e fun H1 e1 => h1 _ H1 σ (rl.mono e1) e (FinR.up (Gm_mono e1) k)
theorem xa_no (h : Eta i a tt false) (h1 : DXa E i a u S o) : DXa E i a (tSeq (tIfS tt t tNext) u) S o := fun D H σ rl e k => h H σ _ e fun H1 e1 => h1 D H1 σ (rl.mono e1) e (k.up (Gm_mono e1))
theorem xa_retIf {d : PyData} (h : Eta i a tt b) (h1 : b = true → Eb te S d) (h2 : b = false → Eb tb S d) : DXa E i a (tRet (tIf tt te tb)) S (.rt (.va d)) := fun D H σ rl e k => h H σ _ e fun H0 e0 => (by
  cases b with
  | true => exact h1 rfl H0 σ (rl.mono e0) _ fun v H1 e1 q => k v H1 (Gm_le.trans (e0.trans e1)) q
  | false => exact h2 rfl H0 σ (rl.mono e0) _ fun v H1 e1 q => k v H1 (Gm_le.trans (e0.trans e1)) q)
omit [KK] in
theorem eta_or (h1 : Eta i a tt b) (h2 : b = false → Eta i a tu c) : Eta i a (tOr tt tu) (b || c) := fun H σ Q e q => h1 H σ _ e fun H1 e1 => (by
  cases b with
  | true => exact q H1 e1
  | false => exact h2 rfl H1 σ _ e fun H2 e2 => q H2 (e1.trans e2))
omit [KK] in
theorem eta_and (h1 : Eta i a tt b) (h2 : b = true → Eta i a tu c) : Eta i a (tAnd tt tu) (b && c) := fun H σ Q e q => h1 H σ _ e fun H1 e1 => (by
  cases b with
  | false => exact q H1 e1
  | true => exact h2 rfl H1 σ _ e fun H2 e2 => q H2 (e1.trans e2))
omit [KK] in
theorem eta_not (h : Eta i a tt b) : Eta i a (tNot tt) (!b) := fun H σ Q e q => h H σ _ e fun H1 e1 => q H1 e1
omit [KK] in
theorem Eta.to (h : Eta i a tt b) (e : b = c) : Eta i a tt c := e ▸ h
omit [KK] in
theorem eta_is {c : V} {cv : Value} (h : PySem.W.kitOne K (.ref C) cv = some b) (hx : ExcC K C) (hc : ∀ u, RelV c u → u = cv) : Eta i a (tTru K (tCB (rIsX K a (.ref C) none) (tCons (tVar i) (tCons (tC c) tNil)))) b := fun H σ Q e q =>
  ⟨.ref a, e, C, rfl, rfl, hx, c, cv, b, rfl, hc, h, b, rfl, q H (Same.refl H)⟩
omit [KK] in
theorem eta_isO {D : Addr} (h : PySem.W.kitOne K (.ref C) (.ref D) = some b) (hx : ExcC K C) : Eta i a (tTru K (tCB (rIsX K a (.ref C) none) (tCons (tVar i) (tCons (tC (.ref D)) tNil)))) b := eta_is h hx fun _ r => r
omit [KK] in
theorem eta_isT {T : String} (h : PySem.W.kitOne K (.ref C) (.type T) = some b) (hx : ExcC K C) : Eta i a (tTru K (tCB (rIsX K a (.ref C) none) (tCons (tVar i) (tCons (tC (.ty T)) tNil)))) b := eta_is h hx fun _ r => r
/-! isinstance(e, (A, B, ..)) -/
omit [KK] in
def rIsXT (K : PySem.W.Frag) (a : Addr) (cls : Value) (d : Option Addr) : List V → Hp → VK → Prop := fun xs H Q => ∃ (D tp : Addr) (cs : List V) (us : List Value) (b : Bool), cls = .ref D ∧ d = none ∧ ExcC K D ∧ xs = [.ref a, .ref tp] ∧ H tp = some (.tup cs) ∧ Paired ClsV cs us ∧ PySem.W.kitAny K (.ref D) us = some b ∧ Q (.bl b) H
omit [KK] in
theorem j_isET {X : Cx} (K : PySem.W.Frag) {oe : Obj} {cls : Value} {d : Option Addr} {pn : List (Addr × Obj)} (hz : Zc cls d oe) (hf : ∃ vs, oe.data = .fields vs) (hK : X.K = K := by rfl) : CallR (X.suite a ((a, oe) :: pn)) (.builtin "isinstance") (rIsXT K a cls d) := by
  subst hK
  intro pins s σ H xs us Q I r h
  obtain ⟨D, tp, cs, ws, b, rfl, rfl, hx, rfl, hT, k, e, q⟩ := h
  obtain ⟨u1, u2, rfl, r1, r2⟩ := vals2 r
  cases (show u1 = Value.ref a from r1)
  cases (show u2 = Value.ref tp from r2)
  obtain ⟨_, its, rv, o, h1, h2, n, h3⟩ := I.hok tp _ hT
  have e3 := ClsV.all k rv
  subst e3
  obtain ⟨oc, od, dt, sl⟩ := o
  simp only at h2 h3
  subst h2 h3
  obtain ⟨hget, _⟩ := I.pin (a, oe) (List.mem_append.mpr (.inl List.mem_cons_self))
  obtain ⟨vs, hv⟩ := hf
  have J : PySem.W.InstAt s.heap a oe D none := by
    obtain ⟨oc, od, oda, osl⟩ := oe
    obtain ⟨z1, z2⟩ := hz
    dsimp only at z1 z2 hv
    subst z1 z2 hv
    exact ⟨hget, rfl, rfl, trivial⟩
  exact PySem.W.kia_tup (PySem.W.handS_kitx_exc hx.hg hx.hk hx.hs hx.hd hx.ha hx.hn hx.ht hx.hm) I.kIn J h1 e (fun z => nomatch z) fun tk => ⟨.bl b, H, I.tok tk, rfl, q⟩
omit [KK] in
theorem eta_isTup {ta : TA} {cs : List V} {us : List Value} (ht : ∀ σ H (Q : List V → Hp → Prop), Q cs H → ta σ H Q) (hcs : cs.length ≤ 1000) (hp : Paired ClsV cs us) (h : PySem.W.kitAny K (.ref C) us = some b) (hx : ExcC K C) : Eta i a (tTru K (tCB (rIsXT K a (.ref C) none) (tCons (tVar i) (tCons (tTup ta) tNil)))) b := fun H σ Q e q =>
  ⟨.ref a, e, ht σ H _ ⟨line_of (by omega), fun p hp1 => ⟨C, p, cs, us, b, rfl, rfl, hx, rfl, upd_same, hp, h, b, rfl, q _ (same_new hp1)⟩⟩⟩
/-! try with named clauses -/
def CaughtC (E : XK) (K : PySem.W.Frag) (S : DSt) (C : Addr) (o : Ou) : List Cl → Prop
  | [] => False
  | (c, none, ts) :: r => (PySem.W.exmOne K (.ref C) c = some true ∧ ∀ a, DX E (ts a (.ref C) none) S o) ∨ (PySem.W.exmOne K (.ref C) c = some false ∧ CaughtC E K S C o r)
  | (c, some i, ts) :: r => (PySem.W.exmOne K (.ref C) c = some true ∧ S[i]? = some .no ∧ ∃ q, o = .rt q ∧ ∀ a, DXa E i a (ts a (.ref C) none) S o) ∨ (PySem.W.exmOne K (.ref C) c = some false ∧ CaughtC E K S C o r)
theorem Rl.any1 {H : Hp} {σ : St} {S : DSt} (rl : Rl H σ S) {i : Nat} {v : Option V} (hS : S[i]? = some .no) : Rl H (σ.set i v) S ∧ Same (Gm σ S H) (Gm (σ.set i v) S H) := by
  have nn : ∀ {j : Nat} {s : Sl}, s ≠ .no → S[j]? = some s → j ≠ i := fun {j s} hs h e => by
    rw [e, hS] at h
    exact hs (Option.some.inj h).symm
  have own : ∀ l, Own (σ.set i v) S l → Own σ S l := fun l ⟨j, ds, h1, h2⟩ =>
    ⟨j, ds, h1, by rw [List.getElem?_set_ne (Ne.symm (nn (fun z => by cases z) h1))] at h2; exact h2⟩
  have sm : Same (Gm σ S H) (Gm (σ.set i v) S H) := Gm_le_of own
  refine ⟨⟨by rw [List.length_set]; exact rl.len, fun j d' h' => ?_, fun j ds h' => ?_, fun j k ds es l h1 h2 h3 h4 => ?_⟩, sm⟩
  · obtain ⟨w, h1, h2⟩ := rl.va j d' h'
    exact ⟨w, by rw [List.getElem?_set_ne (Ne.symm (nn (fun z => by cases z) h'))]; exact h1, Da.mono sm _ _ h2⟩
  · obtain ⟨l, xs, h1, h2, h3, h4⟩ := rl.ow j ds h'
    exact ⟨l, xs, by rw [List.getElem?_set_ne (Ne.symm (nn (fun z => by cases z) h'))]; exact h1, h2, DaL.mono sm _ _ h3, h4⟩
  · rw [List.getElem?_set_ne (Ne.symm (nn (fun z => by cases z) h1))] at h3
    rw [List.getElem?_set_ne (Ne.symm (nn (fun z => by cases z) h2))] at h4
    exact rl.sep j k ds es l h1 h2 h3 h4
theorem caughtC_W {K : PySem.W.Frag} {C : Addr} {Wout : WX} {D : Ends} {σ : St} {H : Hp} {G : Hp} (rl : Rl H σ S) (k : Fin E D G o) (e : Same G (Gm σ S H)) : ∀ l, CaughtC E K S C o l → wCl K Wout D l (.ref C) none σ H
  | (c, none, ts) :: r, h => by
    rcases h with ⟨h1, h2⟩ | ⟨h1, h2⟩
    · exact ⟨true, h1, fun _ a _ => h2 a D H σ rl (k.up e), fun z => nomatch z⟩
    · exact ⟨false, h1, (fun z => nomatch z), fun _ => caughtC_W rl k e r h2⟩
  | (c, some i, ts) :: r, h => by
    rcases h with ⟨h1, hS, q, eo, h2⟩ | ⟨h1, h2⟩
    · refine ⟨true, h1, fun _ a _ => ?_, fun z => nomatch z⟩
      obtain ⟨r1, s1⟩ := rl.any1 (v := some (.ref a)) hS
      have hlt : i < σ.length := by
        rw [rl.len]
        exact (List.getElem?_eq_some_iff.mp hS).1
      subst eo
      exact h2 a (endsN i D) H _ r1 (List.getElem?_set_self hlt) (FinR.up (e.trans s1) k)
    · exact ⟨false, h1, (fun z => nomatch z), fun _ => caughtC_W rl k e r h2⟩
/-- a body that refuses, whatever is wished of refusals -/
def Tz (t : WX → TS) (S : DSt) (C : Addr) : Prop := ∀ (W : WX) (D : Ends) H σ, Rl H σ S → (∀ H', Same H H' → W (.ref C) none σ H') → t W D σ H
/-- a body that does not -/
def Tn (E : XK) (t : WX → TS) (S : DSt) (o : Ou) : Prop := ∀ (W : WX), DX E (t W) S o
theorem t_tryC {Wout : WX} {l : List Cl} {t : WX → TS} (h : Tz t S C) (hc : CaughtC E K S C o l) : DX E (tTryC K Wout t l) S o := fun D H σ rl k =>
  h _ D H σ rl fun H' e => caughtC_W (rl.mono e) k (Gm_mono e) l hc
theorem t_tryCN {Wout : WX} {l : List Cl} {t : WX → TS} (h : Tn E t S o) : DX E (tTryC K Wout t l) S o := fun D H σ rl k => h _ D H σ rl k
theorem tz_drop {R : List PyData → Ro → Prop} (h : Ea ta S ds) (hR : R ds (.ex C)) : Tz (fun W : WX => tDrop (tCallS (SpR R) (WE W) ta)) S C := fun W D H σ rl k => h H σ rl _ fun vs H1 e1 q1 => ⟨ds, .ex C, q1, hR, fun H' e2 => k H' (e1.trans e2)⟩
theorem tz_ret {R : List PyData → Ro → Prop} (h : Ea ta S ds) (hR : R ds (.ex C)) : Tz (fun W : WX => tRet (tCallS (SpR R) (WE W) ta)) S C := fun W D H σ rl k => h H σ rl _ fun vs H1 e1 q1 => ⟨ds, .ex C, q1, hR, fun H' e2 => k H' (e1.trans e2)⟩
theorem tn_drop {R : List PyData → Ro → Prop} {d : PyData} (h : Ea ta S ds) (hR : R ds (.va d)) : Tn E (fun W : WX => tDrop (tCallS (SpR R) (WE W) ta)) S (.nx S) := fun W D H σ rl k => h H σ rl _ fun vs H1 e1 q1 =>
  ⟨ds, .va d, q1, hR, fun v H' e2 _ => k σ H' (rl.mono (e1.trans e2)) (Gm_mono (e1.trans e2))⟩
theorem tn_ret {R : List PyData → Ro → Prop} {d : PyData} (h : Ea ta S ds) (hR : R ds (.va d)) : Tn E (fun W : WX => tRet (tCallS (SpR R) (WE W) ta)) S (.rt (.va d)) := fun W D H σ rl k => h H σ rl _ fun vs H1 e1 q1 =>
  ⟨ds, .va d, q1, hR, fun v H' e2 q2 => k v H' (Gm_le.trans (e1.trans e2)) q2⟩
theorem tn_retN {R : List PyData → Ro → Prop} {es : List PyData} (h : Ea ta S ds) (hR : R ds (.nw es)) : Tn E (fun W : WX => tRet (tCallS (SpR R) (WE W) ta)) S (.rt (.nw es)) := fun W D H σ rl k => h H σ rl _ fun vs H1 e1 q1 =>
  ⟨ds, .nw es, q1, hR, fun l H' e2 hl q2 => k l H' (Gm_le.trans (e1.trans e2)) (Gm_le.free (e1.free hl)) q2⟩
end
end DL

namespace DL
open PySem L2 PySem.Spec PyProof.Rows
/-! ### a list comprehension whose element may refuse -/
theorem noteFrame_as {e : Value} {x y : Env} (h : x.frame = y.frame) : noteFrame e x = noteFrame e y := by
  unfold noteFrame PySem.frameOf
  rw [h]
theorem frames_off {h7 h8 B B2 : Heap} {C : Addr} (sb : ∀ b, b ≠ C → h8.get? b = h7.get? b) (hB : ∀ b, B.get? b = none → B2.get? b = none) : ∀ {l : List Env}, h7.FunFrames B l → C ∉ frs l → h8.FunFrames B2 l
  | [], _, _ => trivial
  | env :: l, h, hn => by
    obtain ⟨hk, ⟨L, o, hf, hb, ho, hd⟩, hr⟩ := h
    have hL : L ≠ C := fun z => hn (List.mem_filterMap.mpr ⟨env, List.mem_cons_self, z ▸ hf⟩)
    refine ⟨hk, ⟨L, o, hf, hB L hb, by rw [sb L hL]; exact ho, hd⟩, frames_off sb hB hr fun hm => hn ?_⟩
    obtain ⟨e, he, q⟩ := List.mem_filterMap.mp hm
    exact List.mem_filterMap.mpr ⟨e, List.mem_cons_of_mem _ he, q⟩
section
variable {X : Cx} {pins : List (Addr × Obj)} {σ : L2.St} {H3 : Hp} {s3 : Shared} {scope : Scope} {ce : Env} {fp : List Addr} {E : XK}
/-- a call's exception within the block goes on in the def's own frame -/
theorem blk_passes (I3 : Inv X pins σ H3 s3) (hs : X.stack = X.env :: X.outer) (hf : X.env.frame = some X.env.locals) (tk : Takes X (fun cls d _ H => E cls d H)) (f3 : ∀ b ∈ fp, FpOk X pins H3 b) (cL : ce.locals = s3.heap.objs.size) (cF : ce.frame = X.env.frame) :
    Passes (L2.CX X.prog X.w) { X.blk s3 H3 scope ce fp with xe := notedBy (model X.prog X.w) X.A ce (CompFails (model X.prog X.w) X.A X.xe ce) } E := by
  intro pins' σ' H' s5 e s6 I5 c
  have c0 := c
  obtain ⟨a0, B0, _, cls0, d0, e0, fl0, _⟩ := c0
  obtain ⟨a, B, sI, pins2, σ2, H2, cls, d, e1, I6, nb, up, sky, na, os, ag, w⟩ := XE.of_call (W := fun cls d _ H => E cls d H) I5 (fun _ _ _ h => h) c
  have eA : a0 = a := Value.ref.inj (e0.symm.trans e1)
  subst eA
  subst e1
  have hfr : X.A.frames = some (X.env :: X.outer) := by rw [I3.ok.frames, hs]
  have fl : HandSPX.FlyingZ B (X.env :: X.outer) a0 (Zc cls d) s6.heap := by
    obtain ⟨_, _, _, oe0, vs0, T0, oT0, ts0, he0, _, hd0, h10, _, _, hT0, hdT0, h30⟩ := fl0
    rw [← hs]
    rcases sky with ⟨_, _, _, oe, vs, he, _, hd, h1⟩ | sky | ⟨_, _, _, oe, vs, T, oT, ts, he, _, hd, h1, _, _, hT, hdT, h3⟩
    · rw [he0] at he
      cases he
      rw [hd0] at hd
      cases hd
      rw [h10] at h1
      cases h1
    · exact sky
    · rw [he0] at he
      cases he
      rw [hd0] at hd
      cases hd
      rw [h10] at h1
      cases h1
      rw [hT0] at hT
      cases hT
      rw [hdT0] at hdT
      cases hdT
      rw [h30] at h3
      cases h3
  generalize hCC : s3.heap.objs.size = C at cL
  have hCf : C ∉ frs X.stack := by
    rw [hs]
    intro hm
    obtain ⟨en, hen, q⟩ := List.mem_filterMap.mp hm
    rcases List.mem_cons.mp hen with z | z
    · subst z
      rw [hf] at q
      have h1 := I3.lt
      have q : X.env.locals = C := Option.some.inj q
      rw [q, hCC] at h1
      exact Nat.lt_irrefl _ h1
    · exact I3.nofs (Nat.le_of_eq hCC) (List.mem_filterMap.mpr ⟨en, z, q⟩)
  have nC : H2 C = none := by
    have z : H2 ce.locals = none := I6.free
    rw [cL] at z
    exact z
  obtain ⟨m, hm, _⟩ := I6.loc
  have hm : sI.heap.Ns ce.locals m := hm
  rw [cL] at hm
  show wpAny _ _ (noteFrame (.ref a0) ce) _ _ s6
  rw [noteFrame_as cF]
  refine HandSPX.looks_onZ Zc.steady hfr hf fl fun h7 held up7 => ?_
  obtain ⟨k1, k2, k3, oe, vs, T, oT, ts, he, hz, hd, h1, hnT, hTe, hT, hdT, h3⟩ := held
  obtain ⟨oC, es, ep, hoC, rC⟩ := hm
  have bC : B.get? C = some oC := nb C oC hoC hCf
  have aC : a0 ≠ C := fun z => by
    rw [z, bC] at k2
    cases k2
  have tC : T ≠ C := fun z => by
    rw [z, bC] at hnT
    cases hnT
  refine ⟨m, ?_, fun h8 m8 _ sb => ?_⟩
  · rw [cL]
    exact ⟨oC, es, ep, k1 C oC bC, rC⟩
  rw [cL] at sb
  have sb8 : ∀ b, b ≠ C → h8.get? b = h7.get? b := sb.2
  obtain ⟨B2, g1, g2⟩ := restrict B fun b => decide (b ≠ C)
  obtain ⟨G, g3, g4⟩ := restrict sI.heap fun b => decide (b ≠ C)
  have ofB2 : ∀ b o, B2.get? b = some o → b ≠ C ∧ B.get? b = some o := fun b o e => by
    by_cases z : b = C
    · rw [g2 b (by simp [z])] at e
      cases e
    · exact ⟨z, by rw [← g1 b (by simp [z])]; exact e⟩
  have ofG : ∀ b o, G.get? b = some o → b ≠ C ∧ sI.heap.get? b = some o := fun b o e => by
    by_cases z : b = C
    · rw [g4 b (by simp [z])] at e
      cases e
    · exact ⟨z, by rw [← g3 b (by simp [z])]; exact e⟩
  have noB2 : ∀ b, B.get? b = none → B2.get? b = none := fun b e => by
    cases q : B2.get? b with
    | none => rfl
    | some o =>
      rw [(ofB2 b o q).2] at e
      cases e
  have held8 : HandSPX.HeldZ B2 X.stack a0 (Zc cls d) X.env.locals h8 := by
    refine ⟨fun b o e => ?_, noB2 a0 k2, frames_off sb8 noB2 (by rw [hs]; exact k3) hCf, oe, vs, T, oT, ts, by rw [sb8 a0 aC]; exact he, hz, hd, h1, noB2 T hnT, hTe, by rw [sb8 T tC]; exact hT, hdT, h3⟩
    obtain ⟨z1, z2⟩ := ofB2 b o e
    rw [sb8 b z1]
    exact k1 b o z2
  unfold PySem.passOn
  refine wpAny_bind (wpAny_field (o := oe) (s := { s6 with heap := h8 }) ((sb8 a0 aC).trans he) hd h1 ?_)
  rw [if_neg (show ¬ ((Value.ref T == Value.none) = true) from by simp)]
  have fin : wpAny (model X.prog X.w) X.A (setFlight (.ref a0) ce.frame) (fun _ s9 => wpAny (model X.prog X.w) X.A (throw (.ref a0) : Sem Value) (fun _ _ => False) X.xe s9) X.xe { s6 with heap := h8 } := by
    rw [cF, hf]
    refine HandSPX.setFlight_onZ held8 fun h9 held9 up9 => wpAny_throw (tk _ _ ?_)
    have I7 : Inv X pins σ H2 sI := I3.call' (ch := fp) I6.os I6.base I6.hok I6.bare fun b hb => ⟨(f3 b hb).2.2.2.1, (f3 b hb).2.1, (f3 b hb).2.2.2.2.1, (f3 b hb).2.2.2.2.2⟩
    obtain ⟨_, p1, p2, p3, p4, p5⟩ := I3.fpOk (H' := H2) (Nat.le_of_eq hCC) nC
    have I8 : Inv X pins σ H2 { sI with heap := G, toks := sI.toks } := I7.turned (it := C) (fun b o hb e => by rw [g3 b (by simp [hb])]; exact e) nC p1 p3 p4 p5
    refine ⟨a0, B2, _, pins, σ, H2, cls, d, rfl, I8, fun b o e hb => ?_, fun b o e hnf => ?_, .inr (.inr held9), na, os, ag, w⟩
    · obtain ⟨z1, z2⟩ := ofG b o e
      rw [g1 b (by simp [z1])]
      exact nb b o z2 hb
    · obtain ⟨z1, z2⟩ := ofG b o e
      obtain ⟨sl1, w1⟩ := up b o z2 hnf
      obtain ⟨sl2, w2⟩ := up7 b _ w1 hnf
      have w3 := w2
      rw [← sb8 b z1] at w3
      obtain ⟨sl4, w4⟩ := up9 b _ w3 hnf
      exact ⟨sl4, w4⟩
  first
    | exact wpAny_bind (wpAny_pure (wpAny_bind fin))
    | exact wpAny_bind fin
end
section
variable {X : Cx} {E : XK}
/-- [elt for tg in iter if ..], elt a call that may refuse -/
theorem pe_lcX {elt tg iter : Expr} {ifs : List Expr} {scope : Scope} {own : List (Str × Nat)} {pos : Pos} {wi : TI} {g : TG} {tt : TT} {te : TE} (hst : X.stack = X.env :: X.outer) (hf : X.env.frame = some X.env.locals) (tk : Takes X (fun cls d _ H => E cls d H))
    (hc : X.calm = true) (hN : X.N.Nodup) (hi : PI X tg iter wi) (ok : BlkOk X.N X.env.scope scope own)
    (hg : ∀ (s : Shared) (H : Hp) (C : Addr) (cl : List (Str × Addr)) (fp : List Addr), PG (X.blk s H scope (compEnvC scope cl C X.env) fp) tg g)
    (ht : ∀ (s : Shared) (H : Hp) (C : Addr) (cl : List (Str × Addr)) (fp : List Addr), PTs (X.blk s H scope (compEnvC scope cl C X.env) fp) ifs tt)
    (he : ∀ (s : Shared) (H : Hp) (C : Addr) (cl : List (Str × Addr)) (fp : List Addr) (xe : Value → Shared → Prop), Passes (L2.CX X.prog X.w) { X.blk s H scope (compEnvC scope cl C X.env) fp with xe := xe } E → PE { X.blk s H scope (compEnvC scope cl C X.env) fp with xe := xe } elt te)
    (hs : ∀ x, foldedSetIterable iter X.env x = pure x := by intro _; rfl) : PE X (.ListComp elt [⟨tg, iter, ifs, 0⟩] scope pos) (tLc wi g tt te (own.map (·.2))) := by
  refine ⟨fun pins s σ H Q I h => ?_⟩
  rw [eval_ListComp]
  have cells : ∀ y ∈ scope.names, y.2 = .free → ∃ c, X.env.cells.lookup y.1 = some c := fun y hy e => I.ok.has _ (ok.free y hy e)
  refine comprehension_at (use := none) rfl hs (closure_ok cells) ok.kind (fun y hy e => by rw [ok.uniq y hy, e]) (thn (hi.run pins s σ H _ I h) fun xv s1 hx => thn hx fun itv s2 h2 => ?_)
  obtain ⟨it, fp, tn, J, H2, rfl, I2, T, st2, f2, q⟩ := h2
  refine wpAny_newObj_type (newEnv_comp ?_) (by show 0 ≤ sizeLine; decide)
  generalize hD : s2.heap.objs.size = D
  obtain ⟨W, ⟨m0, w0⟩, turn⟩ := q D (I2.hok.fresh (Nat.le_of_eq hD))
  generalize hs3 : ({ s2 with heap := s2.heap.push { cls := .type "list", data := .seq ([] : List Value).toArray } } : Shared) = s3
  have h3 : s3.heap = s2.heap.push { cls := .type "list", data := .seq ([] : List Value).toArray } := by rw [← hs3]
  have I3 : Inv X pins σ (upd H2 D (.lst [])) s3 := by
    subst hs3
    exact I2.laid (t' := s2.toks) (fun b o e => Heap.get?_push_of_some _ e) (Nat.le_of_eq hD) ⟨Nat.zero_le _, [], 0, .nil, by subst hD; exact Heap.get?_push_size _ rfl⟩
  have f3 : ∀ b ∈ fp, FpOk X pins (upd H2 D (.lst [])) b ∧ b < s3.heap.objs.size := fun b hb => by
    obtain ⟨ob, eb, _⟩ := T.obj _ _ st2 b hb
    have lb := Heap.lt_size eb
    refine ⟨⟨(upd_ne (Nat.ne_of_lt (hD ▸ lb))).trans (f2 b hb).1, (f2 b hb).2⟩, ?_⟩
    rw [h3, Heap.size_push]
    exact Nat.lt_succ_of_lt lb
  have st3 : tn 0 s3.heap := T.keep _ _ _ st2 fun b _ o e => h3 ▸ Heap.get?_push_of_some _ e
  generalize hcl : cellsFrom (s3.heap.objs.size + 1) scope.names (cloFrom X.env.cells scope.names []) = cl
  have I4 := block_start I3 ok hN f3
  rw [hcl] at I4
  show codeAny (model X.prog X.w) X.A (.compStart (.ListComp elt [⟨tg, iter, ifs, 0⟩] scope pos) 0 (.ref it) (.ref D) (compEnvC scope cl s3.heap.objs.size X.env))
    (compEnds (model X.prog X.w) X.A X.xe none (EP X pins σ Q) (.ref D) (compEnvC scope cl s3.heap.objs.size X.env)) { s3 with heap := pushCells (s3.heap.push { cls := .type "dict", data := .dict #[] }) scope.names }
  have pg := hg s3 (upd H2 D (.lst [])) s3.heap.objs.size cl fp
  have pt := ht s3 (upd H2 D (.lst [])) s3.heap.objs.size cl fp
  have pe := he s3 (upd H2 D (.lst [])) s3.heap.objs.size cl fp _ (blk_passes (E := E) (scope := scope) (ce := compEnvC scope cl s3.heap.objs.size X.env) (fp := fp) I3 hst hf tk (fun b hb => (f3 b hb).1) rfl rfl)
  have cL : (compEnvC scope cl s3.heap.objs.size X.env).locals = s3.heap.objs.size := rfl
  generalize compEnvC scope cl s3.heap.objs.size X.env = ce at I4 pg pt pe cL ⊢
  have n0 : ∀ b ∈ fp, (upd H2 D (.lst [])) b = none := fun b hb => (f3 b hb).1.1
  generalize upd H2 D (.lst []) = H3 at I3 I4 pg pt pe w0 n0 f3
  have st4 : tn 0 (pushCells (s3.heap.push { cls := .type "dict", data := .dict #[] }) scope.names) := T.keep _ _ _ st3 fun b _ o e => pushCells_keeps _ _ _ _ (Heap.get?_push_of_some _ e)
  generalize hs4 : ({ s3 with heap := pushCells (s3.heap.push { cls := .type "dict", data := .dict #[] }) scope.names } : Shared) = s4 at I4 ⊢
  have st4 : tn 0 s4.heap := hs4 ▸ st4
  have stat : ∀ {τ : L2.St} {H' : Hp} {s' : Shared}, Inv (X.blk s3 H3 scope ce fp) [] τ H' s' → (∀ b ∈ fp, H' b = none) → ∀ b ∈ fp, FpOk (X.blk s3 H3 scope ce fp) [] H' b := fun J n b hb =>
    ⟨n b hb, (J.ok.exf b hb).1, J.ok.exfs b hb, .inl hb, (J.ok.exf b hb).2, fun p hp => (List.not_mem_nil hp).elim⟩
  have loop : codeAny (model X.prog X.w) X.A (.compLoop (.ListComp elt [⟨tg, iter, ifs, 0⟩] scope pos) 0 (.ref it) (.ref D) ce) (compEnds (model X.prog X.w) X.A X.xe none (EP X pins σ Q) (.ref D) ce) s4 := by
    refine compLoop_any (fun n s' => ∃ i H', Inv (X.blk s3 H3 scope ce fp) [] (wipe σ (own.map (·.2))) H' s' ∧ tn i s'.heap ∧ (∀ b ∈ fp, H' b = none) ∧ W i n H') ?_ m0 ⟨0, H3, I4, st4, n0, w0⟩
    rintro n s5 ⟨i, H5, I5, st5, n5, w5⟩
    rcases turn i n H5 w5 with ⟨stop, qq⟩ | ⟨go, Nx, hNx, step⟩
    · refine thnF (T.done (X.blk s3 H3 scope ce fp) rfl rfl rfl hc i [] s5 _ H5 (fun _ _ => False) I5 (stat I5 n5) st5 stop) fun r s6 hr6 => ?_
      obtain ⟨rfl, I6⟩ := hr6
      have I7 : Inv X pins σ H5 s6 := I3.call' (ch := fp) I6.os I6.base I6.hok I6.bare fun b hb => ⟨(f3 b hb).1.2.2.2.1, (f3 b hb).1.2.1, (f3 b hb).1.2.2.2.2.1, (f3 b hb).1.2.2.2.2.2⟩
      have nC : H5 s3.heap.objs.size = none := cL ▸ I6.free
      obtain ⟨m, hn, _⟩ := I6.loc
      obtain ⟨p0, p1, p2, p3, p4, p5⟩ := I3.fpOk (H' := H5) (Nat.le_refl _) nC
      refine ⟨m, hn, fun h8 sb => ?_⟩
      rw [cL] at sb
      exact ⟨.ref D, H5, I7.turned (t' := s6.toks) (fun b o hb e => (sb.2 b hb).trans e) p0 p1 p3 p4 p5, rfl, qq⟩
    · refine thnF (T.item (X.blk s3 H3 scope ce fp) rfl rfl rfl hc i [] s5 _ H5 (fun _ _ => False) I5 (stat I5 n5) st5 go) fun r s6 hr6 => ?_
      obtain ⟨u, rfl, h6⟩ := hr6
      refine thnF h6 fun _ s7 ⟨x, H7, I7, r7, y7, st7, n7⟩ => ?_
      refine thnF (pg.run _ s7 _ H7 x u _ (I7.pinned (stat I7 n7) (T.obj _ _ st7)) r7 (step x H7 y7)) fun _ s8 ⟨σ8, H8, I8, hw8, q8⟩ => ?_
      refine thnF (pt.run _ s8 σ8 H8 _ I8 q8) fun b s9 ⟨H9, I9, q9⟩ => ?_
      have fin : ∀ {s' : Shared} {H' : Hp}, Inv (X.blk s3 H3 scope ce fp) ([] ++ pinsAt fp s7.heap) σ8 H' s' → Nx H' → ∃ m, m < n ∧ ∃ i H', Inv (X.blk s3 H3 scope ce fp) [] (wipe σ (own.map (·.2))) H' s' ∧ tn i s'.heap ∧ (∀ b ∈ fp, H' b = none) ∧ W i m H' := fun {s' H'} J nx => by
        obtain ⟨m', hm, w'⟩ := hNx H' nx
        have pin : ∀ b ∈ fp, ∀ o, s7.heap.get? b = some o → s'.heap.get? b = some o ∧ H' b = none := fun b hb o e => by
          have z := J.pin (b, o) (List.mem_append_right _ (List.mem_append_right _ (mem_pinsAt hb e)))
          exact ⟨z.1, z.2.1⟩
        refine ⟨m', hm, i + 1, H', (J.unpinned (pins := [])).weak (by rw [← hw8, wipe_length]) (fun j v e => ?_), T.keep _ _ _ st7 fun b hb o e => (pin b hb o e).1, fun b hb => ?_, w'⟩
        · rw [← hw8] at e
          exact (wipe_some e).1
        · obtain ⟨o, e, _⟩ := T.obj _ _ st7 b hb
          exact (pin b hb o e).2
      cases b with
      | false => exact fin I9 q9
      | true =>
        refine thn (pe.run _ s9 σ8 H9 _ (show Inv { X.blk s3 H3 scope ce fp with xe := _ } _ σ8 H9 s9 from ⟨?_, I9.os, I9.bare, I9.base, I9.loc, I9.cell, I9.free, I9.freeC, I9.pin, I9.hok, I9.len⟩) q9) fun z s10 ⟨yv, H10, I10, r10, acc, hD10, hz10, nx⟩ => ?_
        · exact { I9.ok with }
        · exact app_ok (X := X.blk s3 H3 scope ce fp) ⟨{ I10.ok with }, I10.os, I10.bare, I10.base, I10.loc, I10.cell, I10.free, I10.freeC, I10.pin, I10.hok, I10.len⟩ hD10 hz10 r10 fun s11 I11 => fin I11 nx
  exact codeAny_compStart_list loop (T.self X.A 0 _ _ _ st4 loop)
end
end DL

namespace DL
open PySem L2 SX TL NumText
/-! ### notes, in plain Lean: texts as lists of code points -/
/-- no number has over sixty figures -/
def Top (j : Job) : Prop := j.1 < 10 ^ 60 ∧ j.2.1 < 10 ^ 60 ∧ j.2.2 < 10 ^ 60
def TopW (w : Int) (j : Job) : Prop := j.1 ≤ 1000 * w ∧ j.2.1 ≤ 1000 * w ∧ j.2.2 ≤ 1000 * w
theorem TopW.top {w : Int} {j : Job} (hw : w ≤ 10 ^ 56 + 1) (h : TopW w j) : Top j := by
  obtain ⟨h1, h2, h3⟩ := h
  have e : (1000 : Int) * (10 ^ 56 + 1) < 10 ^ 60 := by decide +kernel
  have : 1000 * w ≤ 1000 * (10 ^ 56 + 1) := Int.mul_le_mul_of_nonneg_left hw (by decide)
  refine ⟨?_, ?_, ?_⟩ <;> omega
theorem mul_up {a b w : Int} (h : a ≤ b) (hw : 1 ≤ w) : a * w ≤ b * w := Int.mul_le_mul_of_nonneg_right h (by omega)
theorem jobBy_top {come length due wide more : Int} (hw : 1 ≤ wide) (h0 : 0 ≤ more) (h1 : more ≤ 60) : TopW wide (jobBy come length due wide more) := by
  have a1 : 0 ≤ come % (20 + 3 * more) := Int.emod_nonneg _ (by omega)
  have a2 : come % (20 + 3 * more) < 20 + 3 * more := Int.emod_lt_of_pos _ (by omega)
  have a3 : 0 ≤ due % (18 + 2 * more) := Int.emod_nonneg _ (by omega)
  have a4 : due % (18 + 2 * more) < 18 + 2 * more := Int.emod_lt_of_pos _ (by omega)
  unfold jobBy
  split
  · refine ⟨?_, ?_, ?_⟩
    · show come % (20 + 3 * more) ≤ _; omega
    · show 1 + length % 6 ≤ _; omega
    · show come % (20 + 3 * more) + 1 + due % (18 + 2 * more) ≤ _; omega
  · have b2 : length / 12 % wide < wide := Int.emod_lt_of_pos _ (by omega)
    generalize come % (20 + 3 * more) = c at *
    generalize due % (18 + 2 * more) = d at *
    generalize length / 12 % wide = m at *
    refine ⟨?_, ?_, ?_⟩
    · show c * wide + m ≤ 1000 * wide
      have := mul_up (show c ≤ 200 by omega) hw
      omega
    · show (1 + length / 2 % 6) * wide - length % 2 ≤ 1000 * wide
      have := mul_up (show 1 + length / 2 % 6 ≤ 7 by omega) hw
      omega
    · show (c + 1 + d) * wide ≤ 1000 * wide
      exact mul_up (by omega) hw
theorem tight_top {cell count wide : Int} (hc : 0 ≤ count) (hc2 : count ≤ 60) (hw : 1 ≤ wide) : ∀ j ∈ tightBy cell count wide, TopW wide j := by
  have h := tInv_at (cell := cell) hc (2 * count).toNat (by omega)
  have a : ∀ j ∈ (tState cell count (2 * count).toNat).1.map (tScale wide), j.1 ≤ 602 * wide ∧ j.2.1 ≤ 602 * wide ∧ j.2.2 ≤ 602 * wide := fun j hj => by
    obtain ⟨i, hi, rfl⟩ := List.mem_map.mp hj
    obtain ⟨_, b1, b2, b3⟩ := h.ok i hi
    exact ⟨mul_up (by omega) hw, mul_up (by omega) hw, mul_up (by omega) hw⟩
  have up : ∀ j : Job, j.1 ≤ 602 * wide ∧ j.2.1 ≤ 602 * wide ∧ j.2.2 ≤ 602 * wide → TopW wide j := fun j ⟨h1, h2, h3⟩ => ⟨by omega, by omega, by omega⟩
  unfold tightBy
  split
  · rename_i q
    intro j hj
    rcases mem_set_of hj with hj | hj
    · exact up j (a j hj)
    · rw [hj]
      have a0 : 0 ≤ cell / 9 % count := Int.emod_nonneg _ (by omega)
      have a1 : cell / 9 % count < count := Int.emod_lt_of_pos _ q.1
      have hl := h.len
      obtain ⟨z1, z2, z3⟩ := a _ (List.mem_of_getElem? (getD_some (d := ((0, 0, 0) : Job)) (n := (cell / 9 % count).toNat) (by rw [List.length_map]; omega)))
      generalize ((tState cell count (2 * count).toNat).1.map (tScale wide)).getD (cell / 9 % count).toNat (0, 0, 0) = i at *
      refine ⟨?_, ?_, ?_⟩
      · show i.1 ≤ _; omega
      · show i.2.1 ≤ _; omega
      · show max (i.1 + 1) (i.2.2 - 1) ≤ _; omega
  · exact fun j hj => up j (a j hj)
theorem jobsBy_top (ns : List Int) (f : Int) : ∀ j ∈ jobsBy ns f, Top j := by
  unfold jobsBy
  have hc := countBy_le (cellAt ns f)
  have hw := wideBy_pos (cellAt ns (f + 1))
  have hw2 := wideBy_le (cellAt ns (f + 1))
  dsimp only
  split
  · exact fun j hj => (tight_top hc.1 hc.2 hw j hj).top hw2
  · intro j hj
    obtain ⟨k, _, rfl⟩ := List.mem_map.mp hj
    split
    · exact (jobBy_top hw (by decide) (by decide)).top hw2
    · exact (jobBy_top hw hc.1 hc.2).top hw2

/-! numbers -/
def digB (c : Nat) : Bool := decide (48 ≤ c) && decide (c ≤ 57)
/-- the number that a word writes -/
def numO (w : List Nat) : Option Nat :=
  if w = [] ∨ 60 < w.length then none else if w.all digB = false then none else if w.head? = some 48 ∧ 1 < w.length then none else some (digitsVal w)
theorem digB_iff {w : List Nat} : w.all digB = true ↔ AllDigits w := by
  rw [List.all_eq_true]
  constructor
  · intro h c hc
    have := h c hc
    unfold digB at this
    rw [Bool.and_eq_true, decide_eq_true_eq, decide_eq_true_eq] at this
    exact this
  · intro h c hc
    obtain ⟨h1, h2⟩ := h c hc
    unfold digB
    rw [decide_eq_true h1, decide_eq_true h2]
    rfl
theorem numL_head : ∀ n : Nat, n ≠ 0 → (numL n).head? ≠ some 48 := by
  intro n
  induction n using Nat.strongRecOn with
  | _ n ih =>
    intro hn
    by_cases h : n < 10
    · rw [numL_lt h]
      intro e
      have e := Option.some.inj e
      omega
    · have hi := ih (n / 10) (by omega) (by omega)
      rw [numL_step (by omega)]
      cases e : numL (n / 10) with
      | nil => exact absurd e (numL_ne _)
      | cons c r =>
        rw [e] at hi
        exact hi
theorem numO_num {n : Nat} (h : n < 10 ^ 60) : numO (numL n) = some n := by
  unfold numO
  rw [if_neg (by
    rintro (e | e)
    · exact numL_ne n e
    · have := numL_len (k := 60) (by decide) h
      omega), if_neg (by rw [digB_iff.mpr (numL_digits n)]; exact Bool.noConfusion), if_neg, numL_val]
  rintro ⟨h1, h2⟩
  by_cases z : n = 0
  · subst z
    rw [numL_lt (by decide)] at h2
    exact absurd h2 (by decide)
  · exact numL_head n z h1
/-- the number as the program has it, as the law has it -/
def numD : Option Nat → PyData
  | none => .none
  | some n => .int (n : Int)
def numI : Option Nat → Int
  | none => -1
  | some n => (n : Int)
/-! rows, texts -/
def words (r : List Nat) : List (List Nat) := spl [32] 0 [] r
def lines (l : List Nat) : List (List Nat) := spl [10] 0 [] l
def rowN (j : Job) : List Nat := numL j.1.toNat ++ ([32] ++ (numL j.2.1.toNat ++ ([32] ++ numL j.2.2.toNat)))
def rowL (j : Job) : List Nat := rowN j ++ [10]
def textL (js : List Job) : List Nat := (js.map rowL).flatten
def jobN : List (Option Nat) → Option Job
  | [some a, some b, some c] => if 1 ≤ b ∧ a < c then some ((a : Int), (b : Int), (c : Int)) else none
  | _ => none
def jobO (r : List Nat) : Option Job := jobN ((words r).map numO)
theorem words_row (j : Job) : words (rowN j) = [numL j.1.toNat, numL j.2.1.toNat, numL j.2.2.toNat] := by
  unfold words rowN
  have f : ∀ n, 32 ∉ numL n := fun n => numL_free (.inl (by decide))
  have e1 := spl_part1 (S := []) (acc := []) (rest := numL j.2.1.toNat ++ ([32] ++ numL j.2.2.toNat)) (f j.1.toNat)
  have e2 := spl_part1 (S := []) (acc := []) (rest := numL j.2.2.toNat) (f j.2.1.toNat)
  have e3 := spl_last1 (S := []) (acc := []) (f j.2.2.toNat)
  rw [e1, e2, e3]
  rfl
theorem jobO_row {j : Job} (hs : Snd j) (ht : Top j) : jobO (rowN j) = some j := by
  obtain ⟨h1, h2, h3⟩ := hs
  obtain ⟨t1, t2, t3⟩ := ht
  obtain ⟨a, b, c⟩ := j
  unfold jobO
  rw [words_row]
  have h1 : 0 ≤ a := h1
  have h2 : 1 ≤ b := h2
  have h3 : a < c := h3
  have t1 : a < 10 ^ 60 := t1
  have t2 : b < 10 ^ 60 := t2
  have t3 : c < 10 ^ 60 := t3
  have e : ((10 ^ 60 : Nat) : Int) = 10 ^ 60 := by decide +kernel
  have n1 : numO (numL a.toNat) = some a.toNat := numO_num (by omega)
  have n2 : numO (numL b.toNat) = some b.toNat := numO_num (by omega)
  have n3 : numO (numL c.toNat) = some c.toNat := numO_num (by omega)
  show jobN [numO (numL a.toNat), numO (numL b.toNat), numO (numL c.toNat)] = _
  rw [n1, n2, n3]
  show (if 1 ≤ b.toNat ∧ a.toNat < c.toNat then some ((a.toNat : Int), (b.toNat : Int), (c.toNat : Int)) else none) = _
  rw [if_pos ⟨by omega, by omega⟩, Int.toNat_of_nonneg h1, Int.toNat_of_nonneg (by omega), Int.toNat_of_nonneg (by omega)]
theorem row_free (j : Job) : 10 ∉ rowN j := by
  have f : ∀ n, 10 ∉ numL n := fun n => numL_free (.inl (by decide))
  unfold rowN
  simp only [List.mem_append, List.mem_singleton, not_or]
  exact ⟨f _, by decide, f _, by decide, f _⟩
theorem lines_text : ∀ js : List Job, lines (textL js) = js.map rowN ++ [[]]
  | [] => rfl
  | j :: js => by
    have e := spl_part1 (S := []) (acc := []) (rest := textL js) (row_free j)
    have ih := lines_text js
    unfold lines at ih ⊢
    show spl [10] 0 [] ((rowN j ++ [10]) ++ textL js) = _
    rw [List.append_assoc, e, ih]
    rfl
def rows (l : List Nat) : List (List Nat) := (lines l).dropLast
theorem rows_text (js : List Job) : rows (textL js) = js.map rowN := by
  unfold rows
  rw [lines_text, List.dropLast_concat]
def lf (l : List Nat) : Int := PyProof.Rows.cnt 10 l
theorem lf_append : ∀ l m : List Nat, lf (l ++ m) = lf l + lf m
  | [], m => by
    show lf m = 0 + lf m
    omega
  | a :: l, m => by
    have ih := lf_append l m
    unfold lf at ih ⊢
    rw [List.cons_append, PyProof.Rows.cnt_cons, PyProof.Rows.cnt_cons, ih]
    omega
theorem lf_text : ∀ js : List Job, lf (textL js) = js.length
  | [] => rfl
  | j :: js => by
    have ih := lf_text js
    have e1 : lf (rowN j) = 0 := PyProof.Rows.cnt_none 10 _ (row_free j)
    show lf ((rowN j ++ [10]) ++ textL js) = _
    rw [lf_append, lf_append, e1, ih]
    have e2 : lf [10] = 1 := rfl
    rw [e2, List.length_cons]
    omega
theorem text_end {js : List Job} : textL js = [] ∨ (textL js).getLast? = some 10 := by
  rcases List.eq_nil_or_concat js with e | ⟨l, j, e⟩
  · subst e
    exact .inl rfl
  · subst e
    right
    unfold textL
    rw [List.concat_eq_append, List.map_append, List.flatten_append]
    show (_ ++ [rowL j].flatten).getLast? = _
    rw [List.flatten_singleton, rowL, ← List.append_assoc, List.getLast?_concat]
/-- what a text is read to -/
inductive Rd where
  | many
  | row
  | jobs (js : List Job)
def readL (l : List Nat) : Rd :=
  if 60 < lf l then .many else if l ≠ [] ∧ l.getLast? ≠ some 10 then .row else if (rows l).all (fun r => (jobO r).isSome) = true then .jobs ((rows l).filterMap jobO) else .row
theorem filterMap_rows : ∀ js : List Job, (∀ j ∈ js, Snd j ∧ Top j) → (js.map rowN).filterMap jobO = js
  | [], _ => rfl
  | j :: js, h => by
    obtain ⟨h1, h2⟩ := h j List.mem_cons_self
    rw [List.map_cons, List.filterMap_cons, jobO_row h1 h2, filterMap_rows js fun i hi => h i (List.mem_cons_of_mem _ hi)]
theorem readL_text {js : List Job} (hl : js.length ≤ 60) (h : ∀ j ∈ js, Snd j ∧ Top j) : readL (textL js) = .jobs js := by
  unfold readL
  rw [lf_text, if_neg (by omega), if_neg, rows_text, if_pos, filterMap_rows js h]
  · rw [List.all_eq_true]
    intro r hr
    obtain ⟨j, hj, rfl⟩ := List.mem_map.mp hr
    rw [jobO_row (h j hj).1 (h j hj).2]
    rfl
  · rintro ⟨h1, h2⟩
    rcases text_end (js := js) with e | e
    · exact h1 e
    · exact h2 e
theorem row_len {j : Job} (ht : Top j) : (rowL j).length ≤ 183 := by
  obtain ⟨t1, t2, t3⟩ := ht
  have e : ((10 ^ 60 : Nat) : Int) = 10 ^ 60 := by decide +kernel
  have f : ∀ i : Int, i < 10 ^ 60 → (numL i.toNat).length ≤ 60 := fun i hi => numL_len (by decide) (by omega)
  have l1 := f _ t1
  have l2 := f _ t2
  have l3 := f _ t3
  unfold rowL rowN
  simp only [List.length_append, List.length_singleton]
  omega
theorem text_len : ∀ js : List Job, (∀ j ∈ js, Top j) → (textL js).length ≤ 183 * js.length
  | [], _ => Nat.le_refl _
  | j :: js, h => by
    have ih := text_len js fun i hi => h i (List.mem_cons_of_mem _ hi)
    have h1 := row_len (h j List.mem_cons_self)
    show (rowL j ++ textL js).length ≤ _
    rw [List.length_append, List.length_cons]
    omega
/-! what split says of lengths -/
theorem spl_short {s : Nat} (hs : s < 256) (l : List Nat) : (spl [s] 0 [] l).length ≤ l.length + 2 ∧ ∀ p ∈ spl [s] 0 [] l, p.length ≤ l.length := by
  have e : Txt.split (S l) (S [s]) = (spl [s] 0 [] l).map S := split_S (by simp) (by simp [hs])
  constructor
  · have := PyProof.Rows.split_le (S l) (S [s])
    rw [e, List.length_map, S_len] at this
    exact this
  · intro p hp
    have := PyProof.Rows.part_short (x := S l) (y := S [s]) (a := S p) (by rw [e]; exact List.mem_map_of_mem hp)
    rw [S_len, S_len] at this
    exact this
end DL

namespace DL
open PySem L2 SX TL NumText
/-! ### texts -/
/-- a comprehension within a comprehension -/
theorem blkOk_in {X : Cx} {s : Shared} {H : Hp} {scope0 scope : Scope} {cl : List (PySem.Str × Addr)} {C : Addr} {fp : List Addr} {N : List PySem.Str} {own : List (PySem.Str × Nat)} {sc1 : Scope} (hsc : X.env.scope = sc1)
    (h : blkC N (relS scope0 sc1) scope own = true) : BlkOk N (X.blk s H scope0 (compEnvC scope0 cl C X.env) fp).env.scope scope own := by
  subst hsc
  exact blkOk_by h
def rMulS : R2 := fun x y H Q => ∃ (a : Str) (n : Int), x = .str a ∧ y = .int n ∧ a.length ≤ 1000 ∧ 1 < n ∧ n ≤ 1000 ∧ Q (.str (Txt.mul a n)) H
theorem op_mulS {X : Cx} : OpR X (binaryOp .Mult) rMulS := by
  intro pins s σ H x y v u Q I rx ry h
  obtain ⟨a, n, rfl, rfl, h1, h2, h3, q⟩ := h
  obtain ⟨t, rfl⟩ := rx
  obtain ⟨t', rfl⟩ := ry
  refine PySem.SB.mul ⟨?_, fun _ _ => ?_, fun _ _ => ?_⟩ fun t' tk => ⟨.str (Txt.mul a n), H, I.tok _, ⟨_, rfl⟩, q⟩
  · rw [decide_eq_false (by omega), decide_eq_false (by omega)]
    rfl
  · have e : (1000 : Int) ≤ (2 ^ 63 - 1) / n := (Int.le_ediv_iff_mul_le (by omega)).mpr (by omega)
    omega
  · have e : a.length * n.toNat ≤ 1000 * 1000 := Nat.mul_le_mul h1 (by omega)
    show decide (a.length * n.toNat > 2 ^ 24) = false
    exact decide_eq_false (by omega)
theorem mul_one (c : Nat) {n : Nat} (h : 1 < n) : Txt.mul (S [c]) (n : Int) = S (List.replicate n c) := by
  unfold Txt.mul
  rw [if_neg (by omega), if_neg (by
    rw [Bool.or_eq_true, not_or]
    exact ⟨by simp; omega, by rw [S_len]; simp⟩)]
  refine TL.ext_tl ?_
  have gen : ∀ (k : Nat) (acc : Array Nat), ((List.replicate k (S [c]).cps).foldl (· ++ ·) acc).toList = acc.toList ++ List.replicate k c := fun k => by
    induction k with
    | zero => intro acc; simp
    | succ k ih =>
      intro acc
      rw [List.replicate_succ, List.foldl_cons, ih, Array.toList_append, List.append_assoc, List.replicate_succ]
      rfl
  show ((List.replicate (n : Int).toNat (S [c]).cps).foldl (· ++ ·) #[]).toList = List.replicate n c
  rw [Int.toNat_natCast, gen]
  rfl
section
variable [KK] {E : XK} {St : DSt} {te ta tb to : TE} {a b : List Nat} {c : Nat} {K : PySem.W.Frag}
theorem e_lit {x : Str} (h : x = S a) : Eb (tC (.str x)) St (.str (S a)) := e_str.to (by rw [h])
theorem e_catS (ha : Eb ta St (.str (S a))) (hb : Eb tb St (.str (S b))) (hz : a.length + b.length ≤ 100000) : Eb (tOp rPlus ta tb) St (.str (S (a ++ b))) :=
  (e_addS ha hb (by rw [S_len, S_len]; exact hz)).to (by rw [S_cat])
theorem e_mulS {n : Nat} (ha : Eb ta St (.str (S [c]))) (hb : Eb tb St (.int (n : Int))) (h1 : 1 < n) (h2 : n ≤ 1000) : Eb (tOp rMulS ta tb) St (.str (S (List.replicate n c))) :=
  e_op ha hb fun x y H Q q1 q2 q => ⟨_, _, q1, q2, by rw [S_len]; simp, by omega, by omega, q _ H (Same.refl H) (by rw [mul_one c h1]; rfl)⟩
/-- == and != of texts -/
theorem e_eqS {x y : Str} (ha : Eb ta St (.str x)) (hb : Eb tb St (.str y)) : Eb (tOp rEq ta tb) St (.bool (decide (x = y))) :=
  e_op ha hb fun u v H Q q1 q2 q => by
    rw [show u = .str x from q1, show v = .str y from q2]
    exact ⟨rfl, q _ H (Same.refl H) (by show V.bl _ = V.bl _; congr 1; rw [decide_eq_decide]; exact ⟨fun h => V.str.inj h, fun h => by rw [h]⟩)⟩
theorem e_neS {x y : Str} (ha : Eb ta St (.str x)) (hb : Eb tb St (.str y)) : Eb (tOp rNe ta tb) St (.bool (!decide (x = y))) :=
  e_op ha hb fun u v H Q q1 q2 q => by
    rw [show u = .str x from q1, show v = .str y from q2]
    exact ⟨rfl, q _ H (Same.refl H) (by show V.bl _ = V.bl _; congr 2; rw [decide_eq_decide]; exact ⟨fun h => V.str.inj h, fun h => by rw [h]⟩)⟩
/-- a sign in a text -/
theorem e_notInS (ha : Eb ta St (.str (S [c]))) (hb : Eb tb St (.str (S a))) : Eb (tOp (rNotInJ K) ta tb) St (.bool (!decide (c ∈ a))) :=
  e_op ha hb fun u v H Q q1 q2 q => .inr (.inl ⟨S [c], S a, q1, q2, q _ H (Same.refl H) (by
    show V.bl (!(!(Builtin.Str.occurrences (S a) (S [c]) 0 (S a).length 1).isEmpty)) = V.bl _
    rw [in_one])⟩)
/-- a thing in a list of data -/
theorem e_inD {d : PyData} {ds : List PyData} (ha : Eb ta St d) (hb : Eb tb St (.list ds)) (h1 : SeqAt.shaped d = true) (h2 : SeqAt.shaped (.list ds) = true) : Eb (tOp (rInJ K) ta tb) St (.bool (ds.any fun z => PyData.eqv z d)) :=
  e_op ha hb fun u v H Q q1 q2 q => .inr (.inr ⟨d, ds, Da.dp _ _ (SeqAt.canLay_of_shaped h1) q1, Da.dp _ _ (SeqAt.canLay_of_shaped h2) q2, h1, h2, q _ H (Same.refl H) rfl⟩)
/-- methods -/
theorem e_m1 {r : V → List V → Hp → VK → Prop} {x y : Str} {d : PyData} (ho : Eb to St (.str x)) (he : Eb te St (.str y)) (hr : ∀ H (Q : VK), (∀ v H1, Same H H1 → Da H1 d v → Q v H1) → r (.str x) [.str y] H Q) : Eb (tM1 r to te) St d := fun H σ rl Q q =>
  ho H σ rl _ fun v H1 e1 q1 => ⟨⟨x, q1⟩, he H1 σ (rl.mono e1) _ fun w H2 e2 q2 => by
    rw [show v = .str x from q1, show w = .str y from q2]
    exact hr H2 Q fun z H3 e3 q3 => q z H3 ((e1.trans e2).trans e3) q3⟩
theorem e_count (ho : Eb to St (.str (S a))) (he : Eb te St (.str (S [10]))) : Eb (tM1 (fun x xs H Q => ∃ a b, x = .str a ∧ xs = [.str b] ∧ Q (.int (Txt.count a b)) H) to te) St (.int (lf a)) := e_m1 ho he fun H Q q =>
  ⟨_, _, rfl, rfl, q _ H (Same.refl H) (by rw [show S [10] = ⟨#[10]⟩ from rfl, PyProof.Rows.count_cnt]; rfl)⟩
theorem e_find {x y : Str} (ho : Eb to St (.str x)) (he : Eb te St (.str y)) : Eb (tM1 (fun x xs H Q => ∃ a b, x = .str a ∧ xs = [.str b] ∧ Q (.int (Txt.find a b)) H) to te) St (.int (Txt.find x y)) := e_m1 ho he fun H Q q => ⟨_, _, rfl, rfl, q _ H (Same.refl H) rfl⟩
omit [KK] in
theorem last_take : ∀ l : List Nat, l ≠ [] → (l.drop (l.length - 1)).take 1 = l.getLast?.toList
  | [], h => absurd rfl h
  | [x], _ => rfl
  | x :: y :: r, _ => by
    have ih := last_take (y :: r) (by simp)
    have e : (x :: y :: r).length - 1 = (y :: r).length - 1 + 1 := by simp
    rw [e, List.drop_succ_cons, ih, List.getLast?_cons_cons]
omit [KK] in
theorem ends_one (a : List Nat) (c : Nat) : Txt.endswith (S a) (S [c]) = decide (a.getLast? = some c) := by
  unfold Txt.endswith
  have hl : (S [c]).length = 1 := by rw [S_len]; rfl
  rw [hl, S_len]
  by_cases h : a = []
  · subst h
    rfl
  · have h1 : 1 ≤ a.length := List.length_pos_iff.mpr h
    have hat := at_iff (x := S a) (y := S [c]) (by simp) (a.length - 1)
    have hpre : pre (tl (S [c])) ((tl (S a)).drop (a.length - 1)) = decide (a.getLast? = some c) := by
      show ((a.drop (a.length - 1)).take 1 == [c]) = _
      rw [last_take a h]
      cases a.getLast? with
      | none => rfl
      | some x =>
        show ([x] == [c]) = _
        by_cases z : x = c
        · subst z
          simp
        · simp [z]
    rw [hpre, decide_eq_true_eq] at hat
    have e : (decide (0 + 1 ≤ a.length)) = true := decide_eq_true (by omega)
    rw [e, Bool.true_and]
    rw [Bool.eq_iff_iff, decide_eq_true_eq, ← hat]
    constructor
    · intro z
      exact ⟨by rw [hl, S_len]; omega, z⟩
    · exact fun z => z.2
theorem e_ends (ho : Eb to St (.str (S a))) (he : Eb te St (.str (S [c]))) : Eb (tM1 (fun x xs H Q => ∃ a b, x = .str a ∧ xs = [.str b] ∧ Q (.bl (Txt.endswith a b)) H) to te) St (.bool (decide (a.getLast? = some c))) := e_m1 ho he fun H Q q =>
  ⟨_, _, rfl, rfl, q _ H (Same.refl H) (by rw [ends_one]; rfl)⟩
theorem DaL.of_strs {H : Hp} : ∀ {ys : List Str}, DaL H (ys.map .str) (ys.map V.str)
  | [] => rfl
  | y :: ys => ⟨_, _, rfl, rfl, DaL.of_strs⟩
/-- a text cut at a sign -/
theorem n_split (ho : Eb to St (.str (S a))) (he : Eb te St (.str (S [c]))) (hc : c < 256) (hz : a.length ≤ 50000) : En (tM1 (fun x xs H Q => ∃ a b, x = .str a ∧ xs = [.str b] ∧ (b.length == 0) = false ∧ a.length + 2 ≤ sizeLine ∧ rNewStrs (Txt.split a b) H Q) to te) St ((spl [c] 0 [] a).map fun p => .str (S p)) := fun H σ rl Q q =>
  ho H σ rl _ fun v H1 e1 q1 => ⟨⟨S a, q1⟩, he H1 σ (rl.mono e1) _ fun w H2 e2 q2 => by
    rw [show v = .str (S a) from q1, show w = .str (S [c]) from q2]
    refine ⟨_, _, rfl, rfl, rfl, line_of (by rw [S_len]; omega), fun p hp => ?_⟩
    have e : Txt.split (S a) (S [c]) = (spl [c] 0 [] a).map S := split_S (by simp) (by simp [hc])
    refine q p _ ((e1.trans e2).trans (same_new hp)) ((e1.trans e2).free hp) ⟨p, _, rfl, upd_same, ?_⟩
    rw [e, show (spl [c] 0 [] a).map (fun p => PyData.str (S p)) = ((spl [c] 0 [] a).map S).map .str by rw [List.map_map]; rfl]
    exact DaL.of_strs⟩
/-- int(word) -/
theorem e_intS {x : Str} {n : Int} (h : Eb te St (.str x)) (hn : PySem.intText? x = some n) (hl : x.length ≤ 640) : Eb (tCB (fun xs H Q => ∃ a n, xs = [.str a] ∧ PySem.intText? a = some n ∧ a.length ≤ 640 ∧ Q (.int n) H) (tCons te tNil)) St (.int n) := e_cb (a_cons h a_nil) fun vs H Q h q => by
  obtain ⟨v, rfl, h1⟩ := h.v1
  rw [show v = .str x from h1]
  exact ⟨x, n, rfl, hn, hl, q _ H (Same.refl H) rfl⟩
/-! a comprehension that refuses, at the item k -/
theorem z_lc {α : Type} {wi : TI} {g : TG} {tt : TT} {vs : List Nat} {C : Addr} (xs : List α) (f : α → PyData) (h : α → PyData) (k : Nat) (hk : k < xs.length) (hw : Di wi St (xs.map f)) (hz : xs.length ≤ 100000)
    (ok : ∀ i x, i < k → xs[i]? = some x → ∃ ws S1, (∀ j ∈ ws, j ∈ vs) ∧ Dg ws g (f x) (wipeS St vs) S1 ∧ Et tt S1 true ∧ Eb te S1 (h x))
    (bad : ∀ x, xs[k]? = some x → ∃ ws S1, (∀ j ∈ ws, j ∈ vs) ∧ Dg ws g (f x) (wipeS St vs) S1 ∧ Et tt S1 true ∧ Rz E te S1 C) : Rz E (tLc wi g tt te vs) St C := fun H σ rl kx Q => by
  refine hw H σ rl _ fun J H1 e1 wk D hD => ?_
  have rl1 := rl.mono e1
  obtain ⟨rw1, sw1⟩ := rl1.wipe vs
  refine ⟨fun i m H' => m = k + 1 - i ∧ i ≤ k ∧ Same H1 H' ∧ ∃ acc, H' D = some (.lst acc) ∧ acc.length = i, ⟨k + 1, by omega, Nat.zero_le _, same_new hD, [], upd_same, rfl⟩, ?_⟩
  rintro i m H' ⟨rfl, hi, s1, acc, hacc, hal⟩
  have sB : Same (Gm σ St H1) H' := Gm_le.trans s1
  have hlt : i < xs.length := by omega
  have hx : xs[i]? = some xs[i] := List.getElem?_eq_getElem hlt
  generalize xs[i] = x at hx
  refine .inr ⟨wk.go i H' (by simpa using hlt) sB, fun H2 => i + 1 ≤ k ∧ Same H1 H2 ∧ ∃ acc, H2 D = some (.lst acc) ∧ acc.length = i + 1, fun H2 ⟨a1, a2, a3⟩ => ⟨k + 1 - (i + 1), by omega, rfl, a1, a2, a3⟩, fun v H2 y => ?_⟩
  obtain ⟨s2, d, hd', q⟩ := wk.yl i H' v H2 (by simpa using hlt) sB y
  have ed : d = f x := by
    rw [List.getElem?_map, hx] at hd'
    exact (Option.some.inj hd').symm
  subst ed
  have r2 := (rw1.mono s1).mono s2
  have gl := gro_le (rw1.mono s1) (sw1.trans (Gm_mono s1)) s2
  by_cases hik : i < k
  · obtain ⟨ws, S1, hws, hg, ht, he⟩ := ok i x hik hx
    obtain ⟨σ3, a1, a2, a3, a4⟩ := hg H2 (L2.wipe σ vs) v r2 (Da.mono gl _ _ q)
    refine a4 _ ⟨wipe_eq (by rw [a3.1, L2.wipe_length]) a3.2 hws, ht H2 σ3 a1 _ fun H3 e3 => ?_⟩
    rw [if_pos rfl]
    refine he H3 σ3 (a1.mono e3) _ fun w H4 e4 _ => ?_
    have s24 := (s2.trans e3).trans e4
    refine ⟨acc, s24 D _ hacc, Nat.lt_of_lt_of_le (by omega : _ < 100000) (by decide : 100000 ≤ sizeLine), hik, fun b ob hb => ?_, acc ++ [w], upd_same, by rw [List.length_append, hal]; rfl⟩
    rw [upd_ne (ne_of_none hb hD)]
    exact s24 b ob (s1 b ob hb)
  · have eik : i = k := by omega
    subst eik
    obtain ⟨ws, S1, hws, hg, ht, he⟩ := bad x hx
    obtain ⟨σ3, a1, a2, a3, a4⟩ := hg H2 (L2.wipe σ vs) v r2 (Da.mono gl _ _ q)
    refine a4 _ ⟨wipe_eq (by rw [a3.1, L2.wipe_length]) a3.2 hws, ht H2 σ3 a1 _ fun H3 e3 => ?_⟩
    rw [if_pos rfl]
    have up : Same (Gm σ St H) (Gm σ3 S1 H3) := (((((Gm_mono e1).trans sw1).trans (Gm_mono s1)).trans (Gm_mono s2)).trans a2).trans (Gm_mono e3)
    exact he H3 σ3 (a1.mono e3) (fun H4 e4 => kx H4 (up.trans e4)) _
end
end DL
namespace DL
open PySem L2 SX TL NumText
section
variable [KK] {E : XK} {St : DSt} {te ta tb to : TE} {a b : List Nat} {c : Nat} {K : PySem.W.Frag}
theorem ej_S {t : TE} {ts : List TE} {y : List Nat} {out : Str} (h : Eb t St (.str (S y))) (hz : a.length + y.length ≤ 100000) (r : EJ ts (S (a ++ y)) St out) : EJ (t :: ts) (S a) St out :=
  ej_cons h (by rw [S_cat, S_len, List.length_append]; exact line_of hz) (by rw [S_cat]; exact r)
theorem log_60 {i : Int} (h : i.natAbs < 10 ^ 60) : i.natAbs.log2 < 1920 := by
  by_cases z : i.natAbs = 0
  · rw [z]
    decide
  · rw [Nat.log2_lt z]
    exact Nat.lt_of_lt_of_le h (by decide +kernel)
theorem e_fmtN {i : Int} (h : Eb te St (.int i)) (h0 : 0 ≤ i) (h1 : i < 10 ^ 60) : Eb (tFmt te) St (.str (S (numL i.toNat))) := by
  obtain ⟨n, rfl⟩ := Int.eq_ofNat_of_zero_le h0
  have e : ((10 ^ 60 : Nat) : Int) = 10 ^ 60 := by decide +kernel
  exact (e_fmtI h (log_60 (by omega))).to (by rw [num_S, Int.toNat_natCast])
/-- what a for over a text walks -/
theorem i_strS (h : Eb te St (.str (S a))) : Di (iStr te) St (a.map fun c => .str (S [c])) := i_str h
theorem tn_retB {R : List PyData → Ro → Prop} {es ds : List PyData} {ta : TA} (h : Ea ta St ds) (hR : R ds (.nw es)) : Tn E (fun W : WX => tRet (tCallS (SpR R) (WE W) ta)) St (.rt (.va (.list es))) := fun W D H σ rl k => h H σ rl _ fun vs H1 e1 q1 =>
  ⟨ds, .nw es, q1, hR, fun l H' e2 _ q2 => k (.ref l) H' (Gm_le.trans (e1.trans e2)) q2⟩
end
theorem joinL_nil : ∀ ps : List (List Nat), joinL [] ps = ps.flatten
  | [] => rfl
  | [p] => by simp [joinL]
  | p :: q :: r => by
    have ih := joinL_nil (q :: r)
    show p ++ ([] ++ joinL [] (q :: r)) = _
    rw [ih]
    rfl
theorem join_text (js : List Job) : Txt.join (S []) ((js.map rowL).map S) = S (textL js) := by
  rw [join_S, joinL_nil]
  rfl
def digs : List Nat := [48, 49, 50, 51, 52, 53, 54, 55, 56, 57]
theorem digs_in (c : Nat) : decide (c ∈ digs) = digB c := by
  unfold digs digB
  rw [Bool.eq_iff_iff]
  simp only [decide_eq_true_eq, Bool.and_eq_true, List.mem_cons, List.not_mem_nil, or_false]
  omega
theorem find_dig (c : Nat) : Txt.find (S digs) (S [c]) = if digB c = true then (c : Int) - 48 else -1 := by
  have at_ : ∀ i, PySem.StrLaws.At (S digs) (S [c]) (S digs).length i ↔ digs[i]? = some c := fun i => by
    rw [at_iff (by simp)]
    show ((digs.drop i).take 1 == [c]) = true ↔ _
    rw [beq_iff_eq]
    cases h : digs.drop i with
    | nil =>
      have : digs[i]? = none := by rw [List.getElem?_eq_none_iff]; exact List.drop_eq_nil_iff.mp h
      rw [this]
      simp
    | cons x r =>
      have : digs[i]? = some x := by
        have z := congrArg (fun l => l[0]?) h
        simpa using z
      rw [this]
      simp
  rcases PyProof.Rows.find_whole (S digs) (S [c]) with ⟨e, h⟩ | ⟨i, e, h, _⟩
  · rw [e, if_neg]
    intro q
    rw [← digs_in, decide_eq_true_eq] at q
    obtain ⟨i, hi⟩ := List.getElem?_of_mem q
    exact h i ((at_ i).mpr hi)
  · have hi := (at_ i).mp h
    have hm : c ∈ digs := List.mem_of_getElem? hi
    rw [e, if_pos (by rw [← digs_in]; exact decide_eq_true hm)]
    have hlt : i < 10 := (List.getElem?_eq_some_iff.mp hi).1
    have key : ∀ i : Nat, i < 10 → digs[i]? = some (48 + i) := by decide
    have z := Option.some.inj ((key i hlt).symm.trans hi)
    omega
theorem jobN_len {os : List (Option Nat)} (h : os.length ≠ 3) : jobN os = none := by
  unfold jobN
  split
  · exact absurd rfl h
  · rfl
theorem soundD_len {ds : List PyData} (h : ds.length ≠ 3) : soundD (.tuple ds) = false := by
  unfold soundD
  split
  · rename_i e
    cases e
    exact absurd rfl h
  · rfl
theorem jobN_no {os : List (Option Nat)} (h : os.length ≠ 3) : soundD (.tuple (os.map numD)) = (jobN os).isSome ∧ ∀ j, jobN os = some j → PyData.tuple (os.map numD) = jobD j := by
  rw [jobN_len h, soundD_len (by rw [List.length_map]; exact h)]
  exact ⟨rfl, fun j e => nomatch e⟩
theorem jobN_sound : ∀ os : List (Option Nat), soundD (.tuple (os.map numD)) = (jobN os).isSome ∧ ∀ j, jobN os = some j → PyData.tuple (os.map numD) = jobD j
  | [] => jobN_no (by decide)
  | [_] => jobN_no (by simp)
  | [_, _] => jobN_no (by simp)
  | _ :: _ :: _ :: _ :: _ => jobN_no (by simp)
  | [none, b, c] => ⟨rfl, fun j h => by cases h⟩
  | [some a, none, c] => ⟨rfl, fun j h => by cases h⟩
  | [some a, some b, none] => ⟨rfl, fun j h => by cases h⟩
  | [some a, some b, some c] => by
    show (decide ((0 : Int) ≤ (a : Int)) && decide ((1 : Int) ≤ (b : Int)) && decide ((a : Int) < (c : Int))) = (if 1 ≤ b ∧ a < c then some ((a : Int), (b : Int), (c : Int)) else none).isSome ∧ ∀ j, (if 1 ≤ b ∧ a < c then some ((a : Int), (b : Int), (c : Int)) else none) = some j → _
    by_cases h : 1 ≤ b ∧ a < c
    · rw [if_pos h]
      refine ⟨by rw [decide_eq_true (show (0 : Int) ≤ (a : Int) by omega), decide_eq_true (show (1 : Int) ≤ (b : Int) by omega), decide_eq_true (show (a : Int) < (c : Int) by omega)]; rfl, fun j hj => ?_⟩
      cases hj
      rfl
    · rw [if_neg h]
      refine ⟨?_, fun j hj => by cases hj⟩
      by_cases h1 : 1 ≤ b
      · rw [decide_eq_false (show ¬ (a : Int) < (c : Int) by omega), Bool.and_false]
        rfl
      · rw [decide_eq_false (show ¬ (1 : Int) ≤ (b : Int) by omega), Bool.and_false, Bool.false_and]
        rfl
/-- the first that is none -/
theorem first_none {α β : Type} {f : α → Option β} : ∀ {l : List α}, l.all (fun x => (f x).isSome) = false → ∃ (k : Nat) (x : α), l[k]? = some x ∧ f x = none ∧ ∀ (i : Nat) (y : α), i < k → l[i]? = some y → ∃ b, f y = some b
  | [], h => by cases h
  | a :: l, h => by
    cases e : f a with
    | none => exact ⟨0, a, rfl, e, fun i y hi => absurd hi (Nat.not_lt_zero i)⟩
    | some b =>
      have h2 : l.all (fun x => (f x).isSome) = false := by
        have h : ((f a).isSome && l.all (fun x => (f x).isSome)) = false := h
        rw [e] at h
        exact h
      obtain ⟨k, x, h3, h4, h5⟩ := first_none h2
      refine ⟨k + 1, x, h3, h4, fun i y hi hy => ?_⟩
      cases i with
      | zero =>
        cases hy
        exact ⟨b, e⟩
      | succ i => exact h5 i y (Nat.lt_of_succ_lt_succ hi) hy
/-- a job, or None -/
def optJ : Option Job → PyData
  | some j => jobD j
  | none => .none
theorem all_map {α : Type} {f : α → Option Job} : ∀ {l : List α}, l.all (fun x => (f x).isSome) = true → l.map (fun x => optJ (f x)) = jobsL (l.filterMap f)
  | [], _ => rfl
  | a :: l, h => by
    have h : ((f a).isSome && l.all (fun x => (f x).isSome)) = true := h
    rw [Bool.and_eq_true] at h
    rw [List.map_cons, List.filterMap_cons, all_map h.2]
    cases e : f a with
    | none =>
      rw [e] at h
      cases h.1
    | some b => rfl
def readD (l : List Nat) : PyData := match readL l with
  | .many => .str (Str.ofString "many")
  | .row => .str (Str.ofString "row")
  | .jobs js => jobsD js
end DL

namespace DL
open PySem L2
def topS (i : Nat) : Stmt := PySem.Challenge.pw_deadlinerun_k14_notes.main.body.getD i (.Pass ⟨0, 0, 0, 0⟩)
/-! short words: readings by the tree's head -/
local macro_rules | `(tactic| walk_at "side") => `(tactic| first | assumption | exact shaped_jobs _ | exact shaped_ints _ | exact shaped_bool _ | exact shaped_str (by decide +kernel) | rfl | decide | omega | (solve | simp) | (solve | (constructor <;> omega)))
local macro_rules | `(tactic| walk_at "at") => `(tactic| first | assumption | rfl)
local macro_rules | `(tactic| walk_at "Eo") => `(tactic| first | exact o_no | (apply o_some; walk_at "Eb"))
local macro_rules | `(tactic| walk_at "Ea") => `(tactic| first | exact a_nil | (apply a_cons; (walk_at "Eb"); (walk_at "Ea")))
local macro_rules | `(tactic| walk_at "Eap") => `(tactic| first | exact ap_nil | (apply ap_cons; (walk_at "Ep"); (walk_at "Eap")))
local macro_rules | `(tactic| walk_at "Ep") => `(tactic| first
  | exact e_var rfl
  | (apply Ep.imm (d := PyData.int _); (walk_at "Eb"); exact rfl)
  | (apply Ep.new; (walk_at "En"); (walk_at "imm"))
  | (apply ep_tup; (walk_at "Eap"); (walk_at "side"))
  | (apply Ep.free; (walk_at "Eb"); exact rfl)
  | (apply Ep.imm; (walk_at "Eb"); (walk_at "imm")))
local macro_rules | `(tactic| walk_at "imm") => `(tactic| first | rfl | assumption | (exact immL_ints _) | (exact immL_jobs _))
local macro_rules | `(tactic| walk_at "Et") => `(tactic| first
  | (apply t_test; walk_at "Eb")
  | (apply t_B; walk_at "Eb")
  | (apply t_and; (walk_at "Et"); (intro _; walk_at "Et"))
  | (apply t_or; (walk_at "Et"); (intro _; walk_at "Et"))
  | (apply t_not; walk_at "Et")
  | (apply t_truB; walk_at "Eb")
  | (apply t_truL; walk_at "Eb")
  | (apply t_truI; walk_at "Eb")
  | (apply t_truS; (walk_at "Eb"); (walk_at "side")))
local macro_rules | `(tactic| walk_at "En") => `(tactic| first
  | (apply n_lst; (walk_at "Ea"); (walk_at "side"))
  | (apply e_cat; (walk_at "Eb"); (walk_at "Eb"); (walk_at "side"))
  | (apply n_zeros; (walk_at "Eb"); (walk_at "side"))
  | (apply e_rep; (walk_at "Eb"); (walk_at "Eb"); (walk_at "side"); (walk_at "side"))
  | (apply n_list; (walk_at "Eb"))
  | (apply n_slL; (walk_at "Eb"); (walk_at "Eo"); (walk_at "Eo"))
  | (apply n_rev; (walk_at "Eb"))
  | (walk_at "call"))
local macro_rules | `(tactic| walk_at "call") => `(tactic| fail)
local macro_rules | `(tactic| walk_at "Eb") => `(tactic| first
  | exact (e_var rfl).b
  | exact e_own rfl
  | exact e_int
  | exact e_str
  | exact e_bl
  | exact e_non
  | (apply e_add; (walk_at "Eb"); (walk_at "Eb"))
  | (apply e_ii (g := fun i j => i - j); (walk_at "Eb"); (walk_at "Eb"))
  | (apply e_ib (g := fun i j => decide (i < j)); (walk_at "Eb"); (walk_at "Eb"))
  | (apply e_ib (g := fun i j => decide (i ≤ j)); (walk_at "Eb"); (walk_at "Eb"))
  | (apply e_ib (g := fun i j => decide (j < i)); (walk_at "Eb"); (walk_at "Eb"))
  | (apply e_ib (g := fun i j => decide (j ≤ i)); (walk_at "Eb"); (walk_at "Eb"))
  | (apply e_mul; (walk_at "Eb"); (walk_at "Eb"); (walk_at "mul"))
  | (apply e_iic (C := CDiv) (g := fun i j => i / j); (walk_at "Eb"); (walk_at "Eb"); exact ⟨by decide, by decide⟩)
  | (apply e_iic (C := fun _ j => 0 < j) (g := fun i j => i % j); (walk_at "Eb"); (walk_at "Eb"); (walk_at "pos"))
  | (apply e_iic (C := CPow) (g := fun i j => i ^ j.toNat); (walk_at "Eb"); (walk_at "Eb"); exact ⟨by decide, by decide, by decide⟩)
  | (apply e_ixT; (walk_at "Eb"); (walk_at "Eb"); (walk_at "at"))
  | (apply e_ixL; (walk_at "Eb"); (walk_at "Eb"); (walk_at "at"))
  | (apply e_ixF; (walk_at "Eb"); (walk_at "Eb"); (walk_at "at"))
  | (apply e_ixS; (walk_at "Eb"); (walk_at "Eb"); (walk_at "side"); (walk_at "at"))
  | (apply e_eqI; (walk_at "Eb"); (walk_at "Eb"))
  | (apply e_neI; (walk_at "Eb"); (walk_at "Eb"))
  | (apply e_eq; (walk_at "Eb"); (walk_at "Eb"); (walk_at "side"); (walk_at "side"))
  | (apply e_ne; (walk_at "Eb"); (walk_at "Eb"); (walk_at "side"); (walk_at "side"))
  | (apply e_inL; (walk_at "Eb"); (walk_at "Eb"))
  | (apply e_notInL; (walk_at "Eb"); (walk_at "Eb"))
  | (apply e_maxD; (walk_at "Eb"); (walk_at "Eb"))
  | (apply e_isN; (walk_at "Eb"))
  | (apply e_notN; (walk_at "Eb"))
  | (apply e_chain (g := fun i j => decide (i ≤ j)) (g' := fun i j => decide (i < j)); (walk_at "Eb"); (walk_at "Eb"); (walk_at "Eb"))
  | (apply e_chain (g := fun i j => decide (i ≤ j)) (g' := fun i j => decide (i ≤ j)); (walk_at "Eb"); (walk_at "Eb"); (walk_at "Eb"))
  | (apply e_chain (g := fun i j => decide (i < j)) (g' := fun i j => decide (i ≤ j)); (walk_at "Eb"); (walk_at "Eb"); (walk_at "Eb"))
  | (apply e_and; (walk_at "Eb"); (intro _; walk_at "Eb"))
  | (apply e_or; (walk_at "Eb"); (intro _; walk_at "Eb"))
  | (apply e_not; (walk_at "Eb"))
  | (apply e_neg; (walk_at "Eb"))
  | (apply e_tup; (walk_at "Ea"); (walk_at "side"))
  | (apply e_lenL; (walk_at "Eb"))
  | (apply e_lenF; (walk_at "Eb"))
  | (apply e_lenT; (walk_at "Eb"))
  | (apply e_lenS; (walk_at "Eb"); (walk_at "side"))
  | (apply e_sum; (walk_at "Eb"))
  | (apply e_max2; (walk_at "Eb"); (walk_at "Eb"))
  | (apply e_min2; (walk_at "Eb"); (walk_at "Eb"))
  | (apply e_isInt; (walk_at "Eb"))
  | (apply e_isBl; (walk_at "Eb"))
  | (apply e_isTup; (walk_at "Eb"))
  | (apply e_isLst; (walk_at "Eb"))
  | (apply e_isStr; (walk_at "Eb"))
  | (apply En.b; (walk_at "En"))
  | (walk_at "call"))
local macro_rules | `(tactic| walk_at "mul") => `(tactic| first | exact .inl ⟨by decide, by decide⟩ | exact .inr ⟨by decide, by decide⟩ | (refine .inl ⟨?_, ?_⟩ <;> omega) | (refine .inr ⟨?_, ?_⟩ <;> omega))
local macro_rules | `(tactic| walk_at "pos") => `(tactic| first | assumption | (show (0 : Int) < _; first | assumption | decide | omega))
/-- targets -/
local macro_rules | `(tactic| walk_at "Dg") => `(tactic| first | exact g_name | (apply g_tup; (walk_at "DgL"); (first | rfl | (solve | simp))))
local macro_rules | `(tactic| walk_at "DgL") => `(tactic| first | exact gs_nil | (apply gs_cons; (walk_at "Dg"); (walk_at "DgL")))
local macro_rules | `(tactic| walk_at "Le") => `(tactic| repeat (first | exact Le.nil | exact Le.rfl' | apply Le.eq | apply Le.va | apply Le.ow | apply Le.fz))
section
variable [EK]
variable {P : Program} {w : World} {K : PySem.W.Frag} {mg : Str → Option Value} {base : Heap}
/-! ### _law_count_by -/
abbrev s_L_count_by : Stmt := topS 23
abbrev n_L_count_by : List Str := ["_law_cell"]
theorem sc_L_count_by : FnScope n_L_count_by ["_law_cell"] (defScope s_L_count_by) := ⟨rfl, rfl, rfl, by decide +kernel, rfl, by decide +kernel, by decide +kernel⟩
abbrev R_L_count_by := Rf (fun c : Int => [.int c]) (fun _ => True) (fun c => .va (.int (countBy c)))
theorem ok_L_count_by {f : Addr} {fd : FuncData} (F : Fun K "_law_count_by" "_law_count_by" s_L_count_by f fd) (m_f : mg "_law_count_by" = some (.ref f)) : Cal P w K mg base 1 "_law_count_by" ["_law_cell"] R_L_count_by := by
  letI : KK := ⟨K⟩
  refine cal_of (F.ok sc_L_count_by (len_of fun _ => rfl) (fun cdv A outer s H vs Q E hr h => ⟨_,
      (pss_cons (ps_if (pt_cmpR (j_eq K hr.units) (pe_op op_mod (pv 0) pe_int) pe_int (nomark _)) (pss_one (ps_ret (pe_op op_plus pe_int (pe_op op_mod (pe_op op_fdiv (pv 0) pe_int) pe_int)))) pss_nil)
      (pss_cons (ps_if (pt_cmpR (j_eq K hr.units) (pe_op op_mod (pv 0) pe_int) pe_int (nomark _)) (pss_one (ps_ret (pe_op op_plus pe_int (pe_op op_mod (pe_op op_fdiv (pv 0) pe_int) pe_int)))) pss_nil)
      (pss_one (ps_ret (pe_op op_mod (pe_op op_fdiv (pv 0) pe_int) pe_int))))), ?_⟩)) m_f F.kp (F.binds (ps := ["_law_cell"]) fun _ _ _ _ _ _ us hl => match us, hl with | [_], _ => rfl)
  refine run_def (N := n_L_count_by) h fun x hx => ?_

  unfold countBy
  by_cases h1 : x % 64 = 1
  · rw [if_pos h1]
    exact x_seqR (x_if (by walk_at "Et") (fun _ => x_ret (by walk_at "Eb")) fun h => absurd h1 (of_decide_eq_false h))
  · rw [if_neg h1]
    refine x_seq (x_if (by walk_at "Et") (fun h => absurd (of_decide_eq_true h) h1) fun _ => x_next) ?_
    by_cases h2 : x % 8 = 5
    · rw [if_pos h2]
      exact x_seqR (x_if (by walk_at "Et") (fun _ => x_ret (by walk_at "Eb")) fun h => absurd h2 (of_decide_eq_false h))
    · rw [if_neg h2]
      refine x_seq (x_if (by walk_at "Et") (fun h => absurd (of_decide_eq_true h) h2) fun _ => x_next) ?_
      exact x_ret (by walk_at "Eb")
/-! ### _law_wide_by -/
abbrev s_L_wide_by : Stmt := topS 24
abbrev n_L_wide_by : List Str := ["_law_cell"]
theorem sc_L_wide_by : FnScope n_L_wide_by ["_law_cell"] (defScope s_L_wide_by) := ⟨rfl, rfl, rfl, by decide +kernel, rfl, by decide +kernel, by decide +kernel⟩
abbrev R_L_wide_by := Rf (fun c : Int => [.int c]) (fun _ => True) (fun c => .va (.int (wideBy c)))
theorem ok_L_wide_by {f : Addr} {fd : FuncData} (F : Fun K "_law_wide_by" "_law_wide_by" s_L_wide_by f fd) (m_f : mg "_law_wide_by" = some (.ref f)) : Cal P w K mg base 1 "_law_wide_by" ["_law_cell"] R_L_wide_by := by
  letI : KK := ⟨K⟩
  refine cal_of (F.ok sc_L_wide_by (len_of fun _ => rfl) (fun cdv A outer s H vs Q E hr h => ⟨_,
      (pss_cons (ps_if (pt_cmpR (j_eq K hr.units) (pe_op op_mod (pv 0) pe_int) pe_int (nomark _)) (pss_one (ps_ret (pe_op op_plus pe_int (pe_op op_mod (pe_op op_fdiv (pv 0) pe_int) (pe_op op_pow pe_int pe_int))))) pss_nil)
      (pss_one (ps_ret pe_int))), ?_⟩)) m_f F.kp (F.binds (ps := ["_law_cell"]) fun _ _ _ _ _ _ us hl => match us, hl with | [_], _ => rfl)
  refine run_def (N := n_L_wide_by) h fun x hx => ?_

  unfold wideBy
  by_cases h1 : x % 4 = 3
  · rw [if_pos h1]
    exact x_seqR (x_if (by walk_at "Et") (fun _ => x_ret (by walk_at "Eb")) fun h => absurd h1 (of_decide_eq_false h))
  · rw [if_neg h1]
    refine x_seq (x_if (by walk_at "Et") (fun h => absurd (of_decide_eq_true h) h1) fun _ => x_next) ?_
    exact x_ret (by walk_at "Eb")
/-! ### _law_cell_at -/
abbrev s_L_cell_at : Stmt := topS 20
abbrev n_L_cell_at : List Str := ["_law_script", "_law_k"]
theorem sc_L_cell_at : FnScope n_L_cell_at ["_law_script", "_law_k"] (defScope s_L_cell_at) := ⟨rfl, rfl, rfl, by decide +kernel, rfl, by decide +kernel, by decide +kernel⟩
abbrev R_L_cell_at := Rf (fun x : List Int × Int => [frz x.1, .int x.2]) (fun x => 0 ≤ x.2) (fun x => .va (.int (cellAt x.1 x.2)))
theorem ok_L_cell_at {f : Addr} {fd : FuncData} (F : Fun K "_law_cell_at" "_law_cell_at" s_L_cell_at f fd) (m_f : mg "_law_cell_at" = some (.ref f)) (b_len : mg "len" = none) : Cal P w K mg base 1 "_law_cell_at" ["_law_script", "_law_k"] R_L_cell_at := by
  letI : KK := ⟨K⟩
  refine cal_of (F.ok sc_L_cell_at (len_of fun _ => rfl) (fun cdv A outer s H vs Q E hr h => ⟨_,
      (pss_cons (ps_if (pt_cmpR op_lt (pv 1) (pe_callB (j_len K) (by rfl) b_len (by decide +kernel) (pa_cons (pv 0) pa_nil)) (nomark _)) (pss_one (ps_ret (j_ix K (pv 0) (pv 1)))) pss_nil)
      (pss_one (ps_ret pe_int))), ?_⟩)) m_f F.kp (F.binds (ps := ["_law_script", "_law_k"]) fun _ _ _ _ _ _ us hl => match us, hl with | [_, _], _ => rfl)
  refine run_def (N := n_L_cell_at) h fun x hx => ?_

  obtain ⟨ns, k⟩ := x
  have hk : 0 ≤ k := hx
  show DX _ _ _ (.rt (.va (.int (cellAt ns k))))
  unfold cellAt
  by_cases h1 : k < (ns.length : Int)
  · rw [if_pos h1]
    have ha : atI ns k = some (ns.getD k.toNat 0) := atI_pos hk (getD_some (by omega))
    exact x_seqR (x_if (by walk_at "Et") (fun _ => x_ret (by walk_at "Eb")) fun h => absurd h1 (of_decide_eq_false h))
  · rw [if_neg h1]
    refine x_seq (x_if (by walk_at "Et") (fun h => absurd (of_decide_eq_true h) h1) fun _ => x_next) ?_
    exact x_ret (by walk_at "Eb")
/-! ### _law_mixed -/
abbrev s_L_mixed : Stmt := topS 21
abbrev n_L_mixed : List Str := ["_law_cell", "_law_k", "_law_prime"]
theorem sc_L_mixed : FnScope n_L_mixed ["_law_cell", "_law_k", "_law_prime"] (defScope s_L_mixed) := ⟨rfl, rfl, rfl, by decide +kernel, rfl, by decide +kernel, by decide +kernel⟩
abbrev R_L_mixed := Rf (fun x : Int × Int × Int => [.int x.1, .int x.2.1, .int x.2.2]) (fun x => 0 < x.2.2) (fun x => .va (.int (mixed x.1 x.2.1 x.2.2)))
theorem ok_L_mixed {f : Addr} {fd : FuncData} (F : Fun K "_law_mixed" "_law_mixed" s_L_mixed f fd) (m_f : mg "_law_mixed" = some (.ref f)) : Cal P w K mg base 1 "_law_mixed" ["_law_cell", "_law_k", "_law_prime"] R_L_mixed := by
  letI : KK := ⟨K⟩
  refine cal_of (F.ok sc_L_mixed (len_of fun _ => rfl) (fun cdv A outer s H vs Q E hr h => ⟨_,
      (pss_one (ps_ret (pe_op op_mod (pe_op op_times (pe_op op_plus (pe_op op_plus (pv 0) (pe_op op_times pe_int (pv 1))) pe_int) pe_int) (pv 2)))), ?_⟩)) m_f F.kp (F.binds (ps := ["_law_cell", "_law_k", "_law_prime"]) fun _ _ _ _ _ _ us hl => match us, hl with | [_, _, _], _ => rfl)
  refine run_def (N := n_L_mixed) h fun x hx => ?_

  obtain ⟨c, k, q⟩ := x
  have hq : 0 < q := hx
  exact x_ret (by walk_at "Eb")
/-! ### _law_tight_by -/
abbrev s_L_tight_by : Stmt := topS 25
abbrev n_L_tight_by : List Str := ["_law_cell", "_law_count", "_law_wide", "_law_jobs", "_law_time", "_law_k", "_law_mix", "_law_begin", "_law_at", "_law_come", "_law_length", "_law_due_here"]
theorem sc_L_tight_by : FnScope n_L_tight_by ["_law_cell", "_law_count", "_law_wide"] (defScope s_L_tight_by) := ⟨rfl, rfl, rfl, by decide +kernel, rfl, by decide +kernel, by decide +kernel⟩
abbrev R_L_tight_by := Rf (fun x : Int × Int × Int => [.int x.1, .int x.2.1, .int x.2.2]) (fun x => 0 ≤ x.2.1 ∧ x.2.1 ≤ 60 ∧ 1 ≤ x.2.2) (fun x => .nw (jobsL (tightBy x.1 x.2.1 x.2.2)))
theorem k_L_tight_by [KK] {E : XK} {S : DSt} {ta : TA} {c n w : Int} (h : Ea ta S [.int c, .int n, .int w]) (h0 : 0 ≤ n) (h1 : n ≤ 60) (hw : 1 ≤ w) : En (tCall (SpR R_L_tight_by) [] E ta) S (jobsL (tightBy c n w)) := n_callR (c, n, w) h rfl ⟨h0, h1, hw⟩ rfl
theorem k_L_mixed [KK] {E : XK} {S : DSt} {ta : TA} {c k q : Int} (h : Ea ta S [.int c, .int k, .int q]) (hq : 0 < q) : Eb (tCall (SpR R_L_mixed) [] E ta) S (.int (mixed c k q)) := e_callR (c, k, q) h rfl hq rfl
local macro_rules | `(tactic| walk_at "call") => `(tactic| (apply k_L_mixed; (walk_at "Ea"); (walk_at "pos")))
def tSlots (cell count wide : Int) (s : List Job × Int) : DSt := [.va (.int cell), .va (.int count), .va (.int wide), .ow (jobsL s.1), .va (.int s.2), .no, .no, .no, .no, .no, .no, .no]
theorem ok_L_tight_by {f : Addr} {fd : FuncData} (F : Fun K "_law_tight_by" "_law_tight_by" s_L_tight_by f fd) (m_f : mg "_law_tight_by" = some (.ref f)) (b_range : mg "range" = none) (b_max : mg "max" = none) (c_L_mixed : Cal P w K mg base 1 "_law_mixed" ["_law_cell", "_law_k", "_law_prime"] R_L_mixed) : Cal P w K mg base 2 "_law_tight_by" ["_law_cell", "_law_count", "_law_wide"] R_L_tight_by := by
  letI : KK := ⟨K⟩
  refine cal_of (F.ok sc_L_tight_by (len_of fun _ => rfl) (fun cdv A outer s H vs Q E hr h => ⟨_,
      (pss_cons (ps_set (i := 3) sc_L_tight_by.nd rfl (Or.inl rfl) (pe_lst pa_nil))
      (pss_cons (ps_set (i := 4) sc_L_tight_by.nd rfl (Or.inl rfl) pe_int)
      (pss_cons (ps_for PassesOwn.never rfl (pi_range1 rfl b_range (pa_cons (pe_op op_times pe_int (pv 1)) pa_nil)) (pg_name (i := 5) sc_L_tight_by.nd rfl (Or.inl rfl))
        (pss_cons (ps_set (i := 6) sc_L_tight_by.nd rfl (Or.inl rfl) (c_L_mixed.pe (hr.mono (by decide)) rfl (pa_cons (pv 0) (pa_cons (pv 5) (pa_cons pe_int pa_nil)))))
        (pss_cons (ps_set (i := 7) sc_L_tight_by.nd rfl (Or.inl rfl) (pe_op op_plus (pv 4) (pe_op op_fdiv (pe_op op_mod (pv 6) pe_int) pe_int)))
        (pss_cons (ps_set (i := 4) sc_L_tight_by.nd rfl (Or.inl rfl) (pe_op op_plus (pe_op op_plus (pv 7) pe_int) (pe_op op_mod (pe_op op_fdiv (pv 6) pe_int) pe_int)))
        (pss_one (ps_if (pt_cmpR op_lt (pv 5) (pv 1) (nomark _)) (pss_one (ps_expr (j_app K (pv 3) (pe_tup (pa_cons (pe_callB (cr_max2 rfl) (by rfl) b_max (by decide +kernel) (pa_cons pe_int (pa_cons (pe_op op_sub (pv 7) (pe_op op_mod (pe_op op_fdiv (pv 6) pe_int) pe_int)) pa_nil))) (pa_cons (pe_op op_sub (pv 4) (pv 7)) (pa_cons (pe_op op_plus (pv 4) (pe_op op_mod (pe_op op_fdiv (pv 6) pe_int) pe_int)) pa_nil))))))) (pss_cons (ps_set (i := 8) sc_L_tight_by.nd rfl (Or.inl rfl) (pe_op op_mod (pe_op op_fdiv (pv 6) pe_int) (pv 1)))
          (pss_cons (ps_asg (j_ix K (pv 3) (pv 8)) (j_tup K (n := 3) rfl (pgs_cons (pg_name (i := 9) sc_L_tight_by.nd rfl (Or.inl rfl)) (pgs_cons (pg_name (i := 10) sc_L_tight_by.nd rfl (Or.inl rfl)) (pgs_cons (pg_name (i := 11) sc_L_tight_by.nd rfl (Or.inl rfl)) pgs_nil)))))
          (pss_one (ps_set (i := 3) sc_L_tight_by.nd rfl (Or.inl rfl) (pe_op op_plus (pe_op op_plus (j_sl K (pv 3) po_none (po_some (pv 8))) (pe_lst (pa_cons (pe_tup (pa_cons (pv 9) (pa_cons (pe_op op_sub (pe_op op_plus (pv 10) (pv 4)) (pv 7)) (pa_cons (pe_callB (cr_max2 rfl) (by rfl) b_max (by decide +kernel) (pa_cons (pv 11) (pa_cons (pe_op op_plus (pv 4) (pe_op op_mod (pe_op op_fdiv (pv 6) pe_int) pe_int)) pa_nil))) pa_nil)))) pa_nil))) (j_sl K (pv 3) (po_some (pe_op op_plus (pv 8) pe_int)) po_none))))))))))))
      (pss_cons (ps_setLc (i := 3) (own := [("_law_come", 9), ("_law_length", 10), ("_law_due_here", 11)]) rfl sc_L_tight_by.nd rfl rfl (sw_true rfl rfl rfl (by decide +kernel)) (j_iList K (pv 3)) (blkOk_by (own := [("_law_come", 9), ("_law_length", 10), ("_law_due_here", 11)]) (N := n_L_tight_by) (sc := (defScope s_L_tight_by)) (by decide +kernel)) (fun _ _ _ _ _ => (j_tup K (n := 3) rfl (pgs_cons (pg_name (i := 9) sc_L_tight_by.nd rfl (Or.inl rfl)) (pgs_cons (pg_name (i := 10) sc_L_tight_by.nd rfl (Or.inl rfl)) (pgs_cons (pg_name (i := 11) sc_L_tight_by.nd rfl (Or.inl rfl)) pgs_nil))))) (fun _ _ _ _ _ => pts_nil) (fun _ _ _ _ _ => (pe_tup (pa_cons (pe_op op_times (pv 9) (pv 2)) (pa_cons (pe_op op_times (pv 10) (pv 2)) (pa_cons (pe_op op_times (pv 11) (pv 2)) pa_nil))))))
      (pss_cons (ps_if (PW.pt (pw_and (pt_cmpR op_gt (pv 1) pe_int (nomark _)) (pw_and1 (pt_cmpR (j_eq K hr.units) (pe_op op_mod (pe_op op_fdiv (pv 0) pe_int) pe_int) pe_int (nomark _))))) (pss_cons (ps_set (i := 8) sc_L_tight_by.nd rfl (Or.inl rfl) (pe_op op_mod (pe_op op_fdiv (pv 0) pe_int) (pv 1)))
        (pss_cons (ps_asg (j_ix K (pv 3) (pv 8)) (j_tup K (n := 3) rfl (pgs_cons (pg_name (i := 9) sc_L_tight_by.nd rfl (Or.inl rfl)) (pgs_cons (pg_name (i := 10) sc_L_tight_by.nd rfl (Or.inl rfl)) (pgs_cons (pg_name (i := 11) sc_L_tight_by.nd rfl (Or.inl rfl)) pgs_nil)))))
        (pss_one (ps_set (i := 3) sc_L_tight_by.nd rfl (Or.inl rfl) (pe_op op_plus (pe_op op_plus (j_sl K (pv 3) po_none (po_some (pv 8))) (pe_lst (pa_cons (pe_tup (pa_cons (pv 9) (pa_cons (pv 10) (pa_cons (pe_callB (cr_max2 rfl) (by rfl) b_max (by decide +kernel) (pa_cons (pe_op op_plus (pv 9) pe_int) (pa_cons (pe_op op_sub (pv 11) pe_int) pa_nil))) pa_nil)))) pa_nil))) (j_sl K (pv 3) (po_some (pe_op op_plus (pv 8) pe_int)) po_none)))))) pss_nil)
      (pss_one (ps_ret (pv 3)))))))), ?_⟩)) m_f F.kp (F.binds (ps := ["_law_cell", "_law_count", "_law_wide"]) fun _ _ _ _ _ _ us hl => match us, hl with | [_, _, _], _ => rfl)
  refine run_def (N := n_L_tight_by) h fun x hx => ?_

  obtain ⟨cell, count, wide⟩ := x
  obtain ⟨h0, h60, hw⟩ : 0 ≤ count ∧ count ≤ 60 ∧ 1 ≤ wide := hx
  refine x_seq (x_setO (i := 3) (by walk_at "En") rfl) ?_
  refine x_seq (x_set (by walk_at "Ep")) ?_
  have hr2 : -100000 ≤ 2 * count ∧ 2 * count ≤ 100000 := by omega
  refine x_seq (x_for (fun i => tSlots cell count wide (tState cell count i)) (i_rng1 (by walk_at "Ea") hr2) (by walk_at "Le") fun i d hd => ?_) ?_
  · rw [List.getElem?_map] at hd
    obtain ⟨k, hk, rfl⟩ := Option.map_eq_some_iff.mp hd
    obtain ⟨hi, ek⟩ := List.getElem?_eq_some_iff.mp hk
    rw [List.length_range] at hi
    rw [List.getElem_range] at ek
    subst ek
    have iv := tInv_at (cell := cell) h0 i (by omega)
    obtain ⟨hl, ht0, ht1, hok⟩ := iv
    have hlz : (jobsL (tState cell count i).1).length < 100000 := by rw [List.length_map]; omega
    refine ⟨_, _, tSlots cell count wide (tStep cell count (tState cell count i) i), g_name, .inl (x_seq (x_set (d := .int (tMix cell i)) (by walk_at "Ep")) (x_seq (x_set (d := .int (tBegin cell (tState cell count i).2 i)) (by walk_at "Ep")) (x_seq (x_set (d := .int (tTime cell (tState cell count i).2 i)) (by walk_at "Ep")) ?_))), Le.rfl'⟩
    unfold tStep
    generalize tState cell count i = s at *
    by_cases q : (i : Int) < count
    · rw [if_pos q]
      refine x_if (b := true) (Et.to (by walk_at "Et") (by exact decide_eq_true q)) (fun _ => ?_) (fun h => nomatch h)
      refine x_post (x_app (i := 3) (d := jobD (tNew cell s.2 i)) rfl (by walk_at "Eb") rfl hlz) ?_
      show Le [.va (.int cell), .va (.int count), .va (.int wide), .ow (jobsL s.1 ++ [jobD (tNew cell s.2 i)]), .va (.int (tTime cell s.2 i)), .va (.int i), .va (.int (tMix cell i)), .va (.int (tBegin cell s.2 i)), .no, .no, .no, .no] _
      have e : jobsL s.1 ++ [jobD (tNew cell s.2 i)] = jobsL (s.1 ++ [tNew cell s.2 i]) := by rw [jobsL, jobsL, List.map_append]; rfl
      rw [e]
      walk_at "Le"
    · rw [if_neg q]
      have hc' : 0 < count := by omega
      have a0 : 0 ≤ tMix cell i / 24 % count := Int.emod_nonneg _ (by omega)
      have a1 : tMix cell i / 24 % count < count := Int.emod_lt_of_pos _ hc'
      have hlt : (tMix cell i / 24 % count).toNat < s.1.length := by omega
      have hg := getD_some (d := ((0, 0, 0) : Job)) hlt
      generalize ej : s.1.getD (tMix cell i / 24 % count).toNat (0, 0, 0) = j at *
      have hat : atI (jobsL s.1) (tMix cell i / 24 % count) = some (jobD j) := atI_pos a0 (by rw [List.getElem?_map, hg]; rfl)
      refine x_if (b := false) (Et.to (by walk_at "Et") (by exact decide_eq_false q)) (fun h => nomatch h) (fun _ => ?_)
      refine x_seq (x_set (d := .int (tMix cell i / 24 % count)) (by walk_at "Ep")) ?_
      refine x_seq (x_asg (d := jobD j) (by walk_at "Ep") (by walk_at "Dg")) ?_
      have a2 : 0 ≤ tMix cell i / 24 % count + 1 := by omega
      refine x_post (x_setO (i := 3) (ds := jobsL (s.1.set (tMix cell i / 24 % count).toNat (tMore cell s.2 i j))) (En.to (n_splice (p := tMix cell i / 24 % count) (q := tMix cell i / 24 % count + 1) (d := jobD (tMore cell s.2 i j)) (by walk_at "Eb") (by walk_at "Eb") (by walk_at "Eb") (by walk_at "Eb") (by walk_at "Eb") a0 a2 (by rw [List.length_map]; omega)) ?_) (immL_jobs _)) ?_
      · have e : (tMix cell i / 24 % count + 1).toNat = (tMix cell i / 24 % count).toNat + 1 := by omega
        rw [e, set_splice (by rw [List.length_map]; exact hlt)]
        rw [jobsL, jobsL, List.map_set]
      · walk_at "Le"
  · have iv := tInv_at (cell := cell) h0 (2 * count).toNat (by omega)
    obtain ⟨hl, ht0, ht1, hok⟩ := iv
    have el : ((List.range (2 * count).toNat).map fun (k : Nat) => PyData.int (k : Int)).length = (2 * count).toNat := by rw [List.length_map, List.length_range]
    rw [el]
    show DX _ _ _ (.rt (.nw (jobsL (tightBy cell count wide))))
    unfold tightBy
    have e1 : (2 * count).toNat ≤ 120 := by omega
    generalize tState cell count (2 * count).toNat = s at *
    have bd : ∀ j ∈ s.1, (-(2 ^ 64) < j.1 ∧ j.1 < 2 ^ 64) ∧ (-(2 ^ 64) < j.2.1 ∧ j.2.1 < 2 ^ 64) ∧ (-(2 ^ 64) < j.2.2 ∧ j.2.2 < 2 ^ 64) := fun j hj => by
      obtain ⟨⟨c1, c2, c3⟩, c4, c5, c6⟩ := hok j hj
      omega
    refine x_pre (S1 := [.va (.int cell), .va (.int count), .va (.int wide), .va (jobsD s.1), .no, .no, .no, .no, .no, .no, .no, .no]) ?_ (by walk_at "Le")
    refine x_seq (x_setO (i := 3) (ds := jobsL (s.1.map (tScale wide))) (En.to (n_lc s.1 jobD (fun _ => true) (fun j => jobD (tScale wide j)) (i_list (by walk_at "Ep")) (by omega) fun j hj => ?_) ?_) (immL_jobs _)) ?_
    · obtain ⟨c1, c2, c3⟩ := bd j hj
      exact ⟨_, _, by simp, g_tup (gs_cons g_name (gs_cons g_name (gs_cons g_name gs_nil))) rfl, t_yes, fun _ => ⟨by walk_at "Eb", rfl⟩⟩
    · rw [List.filter_eq_self.mpr (fun _ _ => rfl), jobsL, List.map_map]
      rfl
    · have hlen : (s.1.map (tScale wide)).length = s.1.length := List.length_map _
      generalize s.1.map (tScale wide) = js at *
      by_cases q : 0 < count ∧ cell / 3 % 3 = 1
      · rw [if_pos q]
        obtain ⟨q1, q2⟩ := q
        have a0 : 0 ≤ cell / 9 % count := Int.emod_nonneg _ (by omega)
        have a1 : cell / 9 % count < count := Int.emod_lt_of_pos _ q1
        have hlt : (cell / 9 % count).toNat < js.length := by omega
        have hg := getD_some (d := ((0, 0, 0) : Job)) hlt
        generalize ej : js.getD (cell / 9 % count).toNat (0, 0, 0) = j at *
        have hat : atI (jobsL js) (cell / 9 % count) = some (jobD j) := atI_pos a0 (by rw [List.getElem?_map, hg]; rfl)
        refine x_seq (S1 := [.va (.int cell), .va (.int count), .va (.int wide), .ow (jobsL (js.set (cell / 9 % count).toNat (tLess j))), .no, .no, .no, .no, .no, .no, .no, .no]) (x_if (b := true) (Et.to (by walk_at "Et") (by rw [decide_eq_true q1, decide_eq_true q2]; rfl)) (fun _ => ?_) (fun h => nomatch h)) (x_retO (i := 3) rfl)
        refine x_seq (x_set (d := .int (cell / 9 % count)) (by walk_at "Ep")) ?_
        refine x_seq (x_asg (d := jobD j) (by walk_at "Ep") (by walk_at "Dg")) ?_
        have a2 : 0 ≤ cell / 9 % count + 1 := by omega
        refine x_post (x_setO (i := 3) (ds := jobsL (js.set (cell / 9 % count).toNat (tLess j))) (En.to (n_splice (p := cell / 9 % count) (q := cell / 9 % count + 1) (d := jobD (tLess j)) (by walk_at "Eb") (by walk_at "Eb") (by walk_at "Eb") (by walk_at "Eb") (by walk_at "Eb") a0 a2 (by rw [List.length_map]; omega)) ?_) (immL_jobs _)) ?_
        · have e : (cell / 9 % count + 1).toNat = (cell / 9 % count).toNat + 1 := by omega
          rw [e, set_splice (by rw [List.length_map]; exact hlt)]
          rw [jobsL, jobsL, List.map_set]
        · walk_at "Le"
      · rw [if_neg q]
        have qb : (decide (0 < count) && decide (cell / 3 % 3 = 1)) = false := by
          by_cases q1 : 0 < count
          · rw [decide_eq_true q1, decide_eq_false (fun q2 => q ⟨q1, q2⟩)]
            rfl
          · rw [decide_eq_false q1]
            rfl
        refine x_seq (x_if (b := false) (Et.to (by walk_at "Et") (by exact qb)) (fun h => nomatch h) (fun _ => x_next)) ?_
        exact x_retO (i := 3) rfl
/-! ### _law_job_by -/
abbrev s_L_job_by : Stmt := topS 22
abbrev n_L_job_by : List Str := ["_law_come", "_law_length", "_law_due_here", "_law_wide", "_law_more"]
theorem sc_L_job_by : FnScope n_L_job_by ["_law_come", "_law_length", "_law_due_here", "_law_wide", "_law_more"] (defScope s_L_job_by) := ⟨rfl, rfl, rfl, by decide +kernel, rfl, by decide +kernel, by decide +kernel⟩
abbrev R_L_job_by := Rf (fun x : Int × Int × Int × Int × Int => [.int x.1, .int x.2.1, .int x.2.2.1, .int x.2.2.2.1, .int x.2.2.2.2]) (fun x => 1 ≤ x.2.2.2.1 ∧ 0 ≤ x.2.2.2.2 ∧ x.2.2.2.2 ≤ 60)
  (fun x => .va (jobD (jobBy x.1 x.2.1 x.2.2.1 x.2.2.2.1 x.2.2.2.2)))
theorem ok_L_job_by {f : Addr} {fd : FuncData} (F : Fun K "_law_job_by" "_law_job_by" s_L_job_by f fd) (m_f : mg "_law_job_by" = some (.ref f)) : Cal P w K mg base 1 "_law_job_by" ["_law_come", "_law_length", "_law_due_here", "_law_wide", "_law_more"] R_L_job_by := by
  letI : KK := ⟨K⟩
  refine cal_of (F.ok sc_L_job_by (len_of fun _ => rfl) (fun cdv A outer s H vs Q E hr h => ⟨_,
      (pss_cons (ps_set (i := 0) sc_L_job_by.nd rfl (Or.inl rfl) (pe_op op_mod (pv 0) (pe_op op_plus pe_int (pe_op op_times pe_int (pv 4)))))
      (pss_cons (ps_set (i := 2) sc_L_job_by.nd rfl (Or.inl rfl) (pe_op op_plus (pe_op op_plus (pv 0) pe_int) (pe_op op_mod (pv 2) (pe_op op_plus pe_int (pe_op op_times pe_int (pv 4))))))
      (pss_cons (ps_if (pt_cmpR op_lt (pv 3) pe_int (nomark _)) (pss_one (ps_ret (pe_tup (pa_cons (pv 0) (pa_cons (pe_op op_plus pe_int (pe_op op_mod (pv 1) pe_int)) (pa_cons (pv 2) pa_nil)))))) pss_nil)
      (pss_one (ps_ret (pe_tup (pa_cons (pe_op op_plus (pe_op op_times (pv 0) (pv 3)) (pe_op op_mod (pe_op op_fdiv (pv 1) pe_int) (pv 3))) (pa_cons (pe_op op_sub (pe_op op_times (pe_op op_plus pe_int (pe_op op_mod (pe_op op_fdiv (pv 1) pe_int) pe_int)) (pv 3)) (pe_op op_mod (pv 1) pe_int)) (pa_cons (pe_op op_times (pv 2) (pv 3)) pa_nil))))))))), ?_⟩)) m_f F.kp (F.binds (ps := ["_law_come", "_law_length", "_law_due_here", "_law_wide", "_law_more"]) fun _ _ _ _ _ _ us hl => match us, hl with | [_, _, _, _, _], _ => rfl)
  refine run_def (N := n_L_job_by) h fun x hx => ?_

  obtain ⟨come, length, due, wide, more⟩ := x
  obtain ⟨hw, h0, h1⟩ : 1 ≤ wide ∧ 0 ≤ more ∧ more ≤ 60 := hx
  show DX _ _ _ (.rt (.va (jobD (jobBy come length due wide more))))
  have p1 : 0 < 20 + 3 * more := by omega
  have p2 : 0 < 18 + 2 * more := by omega
  refine x_seq (x_set (by walk_at "Ep")) ?_
  refine x_seq (x_set (by walk_at "Ep")) ?_
  have a1 : 0 ≤ come % (20 + 3 * more) := Int.emod_nonneg _ (by omega)
  have a2 : come % (20 + 3 * more) < 20 + 3 * more := Int.emod_lt_of_pos _ (by omega)
  have a3 : 0 ≤ due % (18 + 2 * more) := Int.emod_nonneg _ (by omega)
  have a4 : due % (18 + 2 * more) < 18 + 2 * more := Int.emod_lt_of_pos _ (by omega)
  unfold jobBy
  by_cases h : wide < 2
  · rw [if_pos h]
    exact x_seqR (x_if (by walk_at "Et") (fun _ => x_ret (by walk_at "Eb")) fun h' => absurd h (of_decide_eq_false h'))
  · rw [if_neg h]
    refine x_seq (x_if (by walk_at "Et") (fun h' => absurd (of_decide_eq_true h') h) fun _ => x_next) ?_
    exact x_ret (by walk_at "Eb")
/-! ### _law_jobs_by -/
abbrev s_L_jobs_by : Stmt := topS 26
abbrev n_L_jobs_by : List Str := ["_law_script", "_law_first", "_law_count", "_law_wide", "_law_cell", "_law_jobs", "_law_k", "_law_at", "_law_come"]
theorem sc_L_jobs_by : FnScope n_L_jobs_by ["_law_script", "_law_first"] (defScope s_L_jobs_by) := ⟨rfl, rfl, rfl, by decide +kernel, rfl, by decide +kernel, by decide +kernel⟩
abbrev R_L_jobs_by := Rf (fun x : List Int × Int => [frz x.1, .int x.2]) (fun x => x.1.length ≤ 63 ∧ 0 ≤ x.2 ∧ x.2 ≤ 10) (fun x => .nw (jobsL (jobsBy x.1 x.2)))
theorem k_L_jobs_by [KK] {E : XK} {S : DSt} {ta : TA} {ns : List Int} {f : Int} (h : Ea ta S [frz ns, .int f]) (hn : ns.length ≤ 63) (hf : 0 ≤ f ∧ f ≤ 10) : En (tCall (SpR R_L_jobs_by) [] E ta) S (jobsL (jobsBy ns f)) := n_callR (ns, f) h rfl ⟨hn, hf⟩ rfl
theorem k_L_count_by [KK] {E : XK} {S : DSt} {ta : TA} {c : Int} (h : Ea ta S [.int c]) : Eb (tCall (SpR R_L_count_by) [] E ta) S (.int (countBy c)) := e_callR c h rfl trivial rfl
theorem k_L_wide_by [KK] {E : XK} {S : DSt} {ta : TA} {c : Int} (h : Ea ta S [.int c]) : Eb (tCall (SpR R_L_wide_by) [] E ta) S (.int (wideBy c)) := e_callR c h rfl trivial rfl
theorem k_L_cell_at [KK] {E : XK} {S : DSt} {ta : TA} {ns : List Int} {k : Int} (h : Ea ta S [frz ns, .int k]) (hk : 0 ≤ k) : Eb (tCall (SpR R_L_cell_at) [] E ta) S (.int (cellAt ns k)) := e_callR (ns, k) h rfl hk rfl
theorem k_L_job_by [KK] {E : XK} {S : DSt} {ta : TA} {a b c w m : Int} (h : Ea ta S [.int a, .int b, .int c, .int w, .int m]) (hp : 1 ≤ w ∧ 0 ≤ m ∧ m ≤ 60) : Eb (tCall (SpR R_L_job_by) [] E ta) S (jobD (jobBy a b c w m)) := e_callR (a, b, c, w, m) h rfl hp rfl
local macro_rules | `(tactic| walk_at "call") => `(tactic| first | (apply k_L_cell_at; (walk_at "Ea"); (walk_at "side")) | (apply k_L_count_by; (walk_at "Ea")) | (apply k_L_wide_by; (walk_at "Ea")) | (apply k_L_job_by; (walk_at "Ea"); (walk_at "side")) | (apply k_L_tight_by; (walk_at "Ea"); (walk_at "side"); (walk_at "side"); (walk_at "side")) | (apply k_L_jobs_by; (walk_at "Ea"); (walk_at "side"); (walk_at "side")))
theorem ok_L_jobs_by {f : Addr} {fd : FuncData} (F : Fun K "_law_jobs_by" "_law_jobs_by" s_L_jobs_by f fd) (m_f : mg "_law_jobs_by" = some (.ref f)) (b_range : mg "range" = none) (b_len : mg "len" = none) (c_L_count_by : Cal P w K mg base 1 "_law_count_by" ["_law_cell"] R_L_count_by) (c_L_cell_at : Cal P w K mg base 1 "_law_cell_at" ["_law_script", "_law_k"] R_L_cell_at) (c_L_wide_by : Cal P w K mg base 1 "_law_wide_by" ["_law_cell"] R_L_wide_by) (c_L_tight_by : Cal P w K mg base 2 "_law_tight_by" ["_law_cell", "_law_count", "_law_wide"] R_L_tight_by) (c_L_job_by : Cal P w K mg base 1 "_law_job_by" ["_law_come", "_law_length", "_law_due_here", "_law_wide", "_law_more"] R_L_job_by) (c_L_mixed : Cal P w K mg base 1 "_law_mixed" ["_law_cell", "_law_k", "_law_prime"] R_L_mixed) : Cal P w K mg base 3 "_law_jobs_by" ["_law_script", "_law_first"] R_L_jobs_by := by
  letI : KK := ⟨K⟩
  refine cal_of (F.ok sc_L_jobs_by (len_of fun _ => rfl) (fun cdv A outer s H vs Q E hr h => ⟨_,
      (pss_cons (ps_set (i := 2) sc_L_jobs_by.nd rfl (Or.inl rfl) (c_L_count_by.pe (hr.mono (by decide)) rfl (pa_cons (c_L_cell_at.pe (hr.mono (by decide)) rfl (pa_cons (pv 0) (pa_cons (pv 1) pa_nil))) pa_nil)))
      (pss_cons (ps_set (i := 3) sc_L_jobs_by.nd rfl (Or.inl rfl) (c_L_wide_by.pe (hr.mono (by decide)) rfl (pa_cons (c_L_cell_at.pe (hr.mono (by decide)) rfl (pa_cons (pv 0) (pa_cons (pe_op op_plus (pv 1) pe_int) pa_nil))) pa_nil)))
      (pss_cons (ps_set (i := 4) sc_L_jobs_by.nd rfl (Or.inl rfl) (c_L_cell_at.pe (hr.mono (by decide)) rfl (pa_cons (pv 0) (pa_cons (pe_op op_plus (pv 1) pe_int) pa_nil))))
      (pss_cons (ps_if (pt_cmpR (j_eq K hr.units) (pe_op op_mod (pv 4) pe_int) pe_int (nomark _)) (pss_one (ps_ret (c_L_tight_by.pe (hr.mono (by decide)) rfl (pa_cons (pv 4) (pa_cons (pv 2) (pa_cons (pv 3) pa_nil)))))) pss_nil)
      (pss_cons (ps_set (i := 5) sc_L_jobs_by.nd rfl (Or.inl rfl) (pe_lst pa_nil))
      (pss_cons (ps_for PassesOwn.never rfl (pi_range1 rfl b_range (pa_cons (pv 2) pa_nil)) (pg_name (i := 6) sc_L_jobs_by.nd rfl (Or.inl rfl))
        (pss_cons (ps_set (i := 7) sc_L_jobs_by.nd rfl (Or.inl rfl) (pe_op op_plus (pe_op op_plus (pv 1) pe_int) (pe_op op_times pe_int (pv 6))))
        (pss_one (ps_if (PW.pt (pw_and (pt_cmpR op_lt (pv 2) pe_int (nomark _)) (pw_and1 (pt_cmpR op_lt (pe_op op_plus (pv 7) pe_int) (pe_callB (j_len K) (by rfl) b_len (by decide +kernel) (pa_cons (pv 0) pa_nil)) (nomark _))))) (pss_one (ps_expr (j_app K (pv 5) (c_L_job_by.pe (hr.mono (by decide)) rfl (pa_cons (j_ix K (pv 0) (pv 7)) (pa_cons (j_ix K (pv 0) (pe_op op_plus (pv 7) pe_int)) (pa_cons (j_ix K (pv 0) (pe_op op_plus (pv 7) pe_int)) (pa_cons (pv 3) (pa_cons pe_int pa_nil))))))))) (pss_cons (ps_set (i := 8) sc_L_jobs_by.nd rfl (Or.inl rfl) (c_L_mixed.pe (hr.mono (by decide)) rfl (pa_cons (pv 4) (pa_cons (pv 6) (pa_cons pe_int pa_nil)))))
          (pss_one (ps_expr (j_app K (pv 5) (c_L_job_by.pe (hr.mono (by decide)) rfl (pa_cons (pv 8) (pa_cons (c_L_mixed.pe (hr.mono (by decide)) rfl (pa_cons (pv 4) (pa_cons (pv 6) (pa_cons pe_int pa_nil)))) (pa_cons (c_L_mixed.pe (hr.mono (by decide)) rfl (pa_cons (pv 4) (pa_cons (pv 6) (pa_cons pe_int pa_nil)))) (pa_cons (pv 3) (pa_cons (pv 2) pa_nil))))))))))))))
      (pss_one (ps_ret (pv 5))))))))), ?_⟩)) m_f F.kp (F.binds (ps := ["_law_script", "_law_first"]) fun _ _ _ _ _ _ us hl => match us, hl with | [_, _], _ => rfl)
  refine run_def (N := n_L_jobs_by) h fun x hx => ?_

  obtain ⟨ns, f⟩ := x
  obtain ⟨hn, hf0, hf1⟩ : ns.length ≤ 63 ∧ 0 ≤ f ∧ f ≤ 10 := hx
  refine x_seq (x_set (d := .int (countBy (cellAt ns f))) (by walk_at "Ep")) ?_
  refine x_seq (x_set (d := .int (wideBy (cellAt ns (f + 1)))) (by walk_at "Ep")) ?_
  refine x_seq (x_set (d := .int (cellAt ns (f + 2))) (by walk_at "Ep")) ?_
  show DX _ _ _ (.rt (.nw (jobsL (jobsBy ns f))))
  unfold jobsBy
  have hc := countBy_le (cellAt ns f)
  have hw := wideBy_pos (cellAt ns (f + 1))
  dsimp only
  generalize countBy (cellAt ns f) = count at *
  generalize wideBy (cellAt ns (f + 1)) = wide at *
  generalize cellAt ns (f + 2) = cell at *
  obtain ⟨hc0, hc1⟩ := hc
  by_cases q : cell % 3 = 1
  · rw [if_pos q]
    exact x_seqR (x_if (b := true) (Et.to (by walk_at "Et") (by exact decide_eq_true q)) (fun _ => x_retN (by walk_at "En")) (fun h => nomatch h))
  · rw [if_neg q]
    refine x_seq (x_if (b := false) (Et.to (by walk_at "Et") (by exact decide_eq_false q)) (fun h => nomatch h) (fun _ => x_next)) ?_
    refine x_seq (x_setO (i := 5) (by walk_at "En") rfl) ?_
    have hr : -100000 ≤ count ∧ count ≤ 100000 := by omega
    generalize eg : (fun (k : Nat) => if count < 12 ∧ f + 3 + 3 * (k : Int) + 2 < ns.length then jobBy (ns.getD (f + 3 + 3 * (k : Int)).toNat 0) (ns.getD (f + 3 + 3 * (k : Int) + 1).toNat 0) (ns.getD (f + 3 + 3 * (k : Int) + 2).toNat 0) wide 0
      else jobBy (mixed cell k 2147483647) (mixed cell k 1000003) (mixed cell k 999983) wide count) = g
    refine x_seq (x_for (fun i => [.va (frz ns), .va (.int f), .va (.int count), .va (.int wide), .va (.int cell), .ow (jobsL ((List.range i).map g)), .no, .no, .no]) (i_rng1 (by walk_at "Ea") hr) (by walk_at "Le") fun i d hd => ?_) ?_
    · rw [List.getElem?_map] at hd
      obtain ⟨k, hk, rfl⟩ := Option.map_eq_some_iff.mp hd
      obtain ⟨hi, ek⟩ := List.getElem?_eq_some_iff.mp hk
      rw [List.length_range] at hi
      rw [List.getElem_range] at ek
      subst ek
      have hlz : (jobsL ((List.range i).map g)).length < 100000 := by rw [List.length_map, List.length_map, List.length_range]; omega
      have es : jobsL ((List.range (i + 1)).map g) = jobsL ((List.range i).map g) ++ [jobD (g i)] := by
        rw [List.range_succ, List.map_append, jobsL, jobsL, List.map_append]
        rfl
      rw [es]
      refine ⟨_, _, [.va (frz ns), .va (.int f), .va (.int count), .va (.int wide), .va (.int cell), .ow (jobsL ((List.range i).map g) ++ [jobD (g i)]), .no, .no, .no], g_name, .inl (x_seq (x_set (d := .int (f + 3 + 3 * (i : Int))) (by walk_at "Ep")) ?_), Le.rfl'⟩
      have eg' := congrFun eg i
      by_cases q1 : count < 12
      · by_cases q2 : f + 3 + 3 * (i : Int) + 2 < ns.length
        · rw [if_pos ⟨q1, q2⟩] at eg'
          have i0 : atI ns (f + 3 + 3 * (i : Int)) = some (ns.getD (f + 3 + 3 * (i : Int)).toNat 0) := atI_pos (by omega) (getD_some (by omega))
          have i1 : atI ns (f + 3 + 3 * (i : Int) + 1) = some (ns.getD (f + 3 + 3 * (i : Int) + 1).toNat 0) := atI_pos (by omega) (getD_some (by omega))
          have i2 : atI ns (f + 3 + 3 * (i : Int) + 2) = some (ns.getD (f + 3 + 3 * (i : Int) + 2).toNat 0) := atI_pos (by omega) (getD_some (by omega))
          rw [← eg']
          refine x_if (b := true) (Et.to (by walk_at "Et") (by rw [decide_eq_true q1, decide_eq_true q2]; rfl)) (fun _ => ?_) (fun h => nomatch h)
          exact x_post (x_app (i := 5) rfl (by walk_at "Eb") rfl hlz) (by walk_at "Le")
        · rw [if_neg (fun z => q2 z.2)] at eg'
          rw [← eg']
          refine x_if (b := false) (Et.to (by walk_at "Et") (by rw [decide_eq_true q1, decide_eq_false q2]; rfl)) (fun h => nomatch h) (fun _ => ?_)
          refine x_seq (x_set (d := .int (mixed cell i 2147483647)) (by walk_at "Ep")) ?_
          exact x_post (x_app (i := 5) rfl (by walk_at "Eb") rfl hlz) (by walk_at "Le")
      · rw [if_neg (fun z => q1 z.1)] at eg'
        rw [← eg']
        refine x_if (b := false) (Et.to (t_and (a := false) (b := false) (Et.to (by walk_at "Et") (by exact decide_eq_false q1)) (fun h => nomatch h)) (by rfl)) (fun h => nomatch h) (fun _ => ?_)
        refine x_seq (x_set (d := .int (mixed cell i 2147483647)) (by walk_at "Ep")) ?_
        exact x_post (x_app (i := 5) rfl (by walk_at "Eb") rfl hlz) (by walk_at "Le")
    · have el : ((List.range count.toNat).map fun (k : Nat) => PyData.int (k : Int)).length = count.toNat := by rw [List.length_map, List.length_range]
      rw [el]
      exact x_retO (i := 5) rfl
/-! ### whole -/
abbrev s_whole : Stmt := topS 8
abbrev n_whole : List Str := ["thing"]
theorem sc_whole : FnScope n_whole ["thing"] (defScope s_whole) := ⟨rfl, rfl, rfl, by decide +kernel, rfl, by decide +kernel, by decide +kernel⟩
abbrev R_whole := Rf (fun d : PyData => [d]) (fun _ => True) (fun d => .va (.bool (wholeD d)))
theorem k_whole [KK] {E : XK} {S : DSt} {ta : TA} {d : PyData} (h : Ea ta S [d]) : Eb (tCall (SpR R_whole) [] E ta) S (.bool (wholeD d)) := e_callR d h rfl trivial rfl
local macro_rules | `(tactic| walk_at "call") => `(tactic| (apply k_whole; walk_at "Ea"))
theorem ok_whole {f : Addr} {fd : FuncData} (F : Fun K "whole" "whole" s_whole f fd) (m_f : mg "whole" = some (.ref f)) (b_isinstance : mg "isinstance" = none) (b_bool : mg "bool" = none) (b_int : mg "int" = none) : Cal P w K mg base 1 "whole" ["thing"] R_whole := by
  letI : KK := ⟨K⟩
  refine cal_of (F.ok sc_whole (len_of fun _ => rfl) (fun cdv A outer s H vs Q E hr h => ⟨_,
      (pss_one (ps_ret (pe_and (pe_callB (j_isi K) (by rfl) b_isinstance (by decide +kernel) (pa_cons (pv 0) (pa_cons (pe_bltn (v := .ty "int") (by rfl) b_int (by decide +kernel) rfl) pa_nil))) (pe_one (pe_not (pe_callB (j_isi K) (by rfl) b_isinstance (by decide +kernel) (pa_cons (pv 0) (pa_cons (pe_bltn (v := .ty "bool") (by rfl) b_bool (by decide +kernel) rfl) pa_nil)))))))), ?_⟩)) m_f F.kp (F.binds (ps := ["thing"]) fun _ _ _ _ _ _ us hl => match us, hl with | [_], _ => rfl)
  refine run_def (N := n_whole) h fun x hx => ?_

  exact x_ret' (by walk_at "Eb") (by cases x <;> rfl)
/-! ### sound -/
abbrev s_sound : Stmt := topS 9
abbrev n_sound : List Str := ["job"]
theorem sc_sound : FnScope n_sound ["job"] (defScope s_sound) := ⟨rfl, rfl, rfl, by decide +kernel, rfl, by decide +kernel, by decide +kernel⟩
abbrev R_sound := Rf (fun d : PyData => [d]) (fun _ => True) (fun d => .va (.bool (soundD d)))
theorem k_sound [KK] {E : XK} {S : DSt} {ta : TA} {d : PyData} (h : Ea ta S [d]) : Eb (tCall (SpR R_sound) [] E ta) S (.bool (soundD d)) := e_callR d h rfl trivial rfl
local macro_rules | `(tactic| walk_at "call") => `(tactic| (apply k_sound; walk_at "Ea"))
theorem ok_sound {f : Addr} {fd : FuncData} (F : Fun K "sound" "sound" s_sound f fd) (m_f : mg "sound" = some (.ref f)) (b_len : mg "len" = none) (b_isinstance : mg "isinstance" = none) (b_tuple : mg "tuple" = none) (c_whole : Cal P w K mg base 1 "whole" ["thing"] R_whole) : Cal P w K mg base 2 "sound" ["job"] R_sound := by
  letI : KK := ⟨K⟩
  refine cal_of (F.ok sc_sound (len_of fun _ => rfl) (fun cdv A outer s H vs Q E hr h => ⟨_,
      (pss_cons (ps_if (PW.pt (pw_or (pt_not (j_tru K (pe_callB (j_isi K) (by rfl) b_isinstance (by decide +kernel) (pa_cons (pv 0) (pa_cons (pe_bltn (v := .ty "tuple") (by rfl) b_tuple (by decide +kernel) rfl) pa_nil))))) (pw_or1 (pt_cmpR (j_ne K hr.units) (pe_callB (j_len K) (by rfl) b_len (by decide +kernel) (pa_cons (pv 0) pa_nil)) pe_int (nomark _))))) (pss_one (ps_ret pe_bl)) pss_nil)
      (pss_cons (ps_if (PW.pt (pw_or (pt_not (j_tru K (c_whole.pe (hr.mono (by decide)) rfl (pa_cons (j_ix K (pv 0) pe_int) pa_nil)))) (pw_or (pt_not (j_tru K (c_whole.pe (hr.mono (by decide)) rfl (pa_cons (j_ix K (pv 0) pe_int) pa_nil)))) (pw_or1 (pt_not (j_tru K (c_whole.pe (hr.mono (by decide)) rfl (pa_cons (j_ix K (pv 0) pe_int) pa_nil)))))))) (pss_one (ps_ret pe_bl)) pss_nil)
      (pss_one (ps_ret (pe_and (pe_cmpR op_ge (j_ix K (pv 0) pe_int) pe_int (nomark _)) (pe_and (pe_cmpR op_ge (j_ix K (pv 0) pe_int) pe_int (nomark _)) (pe_one (pe_cmpR op_gt (j_ix K (pv 0) pe_int) (j_ix K (pv 0) pe_int) (nomark _))))))))), ?_⟩)) m_f F.kp (F.binds (ps := ["job"]) fun _ _ _ _ _ _ us hl => match us, hl with | [_], _ => rfl)
  refine run_def (N := n_sound) h fun x hx => ?_

  have no : ∀ d : PyData, isTup d = false → soundD d = false := fun d h => by
    unfold soundD
    split
    · cases h
    · rfl
  by_cases ht : isTup x = true
  · obtain ⟨ds, rfl⟩ : ∃ ds, x = .tuple ds := by
      cases x <;> first | exact ⟨_, rfl⟩ | cases ht
    by_cases h3 : ds.length = 3
    · obtain ⟨a, b, c, rfl⟩ : ∃ a b c, ds = [a, b, c] := by
        match ds, h3 with
        | [a, b, c], _ => exact ⟨a, b, c, rfl⟩
      refine x_seq (x_if (b := false) (Et.to (by walk_at "Et") (by rfl)) (fun h => nomatch h) fun _ => x_next) ?_
      by_cases hw : (!wholeD a || (!wholeD b || !wholeD c)) = true
      · have e : soundD (.tuple [a, b, c]) = false := by
          unfold soundD
          split
          · rename_i h
            cases h
            cases hw
          · rfl
        show DX _ _ _ (.rt (.va (.bool (soundD (.tuple [a, b, c])))))
        rw [e]
        exact x_seqR (x_if (b := true) (Et.to (by walk_at "Et") hw) (fun _ => x_ret (by walk_at "Eb")) fun h => nomatch h)
      · have hw' : (!wholeD a || (!wholeD b || !wholeD c)) = false := by simpa using hw
        refine x_seq (x_if (b := false) (Et.to (by walk_at "Et") hw') (fun h => nomatch h) fun _ => x_next) ?_
        have hi : ∀ d : PyData, wholeD d = true → ∃ i, d = .int i := fun d h => by
          cases d <;> first | exact ⟨_, rfl⟩ | cases h
        simp only [Bool.or_eq_false_iff, Bool.not_eq_false'] at hw'
        obtain ⟨i, rfl⟩ := hi a hw'.1
        obtain ⟨j, rfl⟩ := hi b hw'.2.1
        obtain ⟨k, rfl⟩ := hi c hw'.2.2
        exact x_ret' (by walk_at "Eb") (by show PyData.bool _ = PyData.bool (decide (0 ≤ i) && decide (1 ≤ j) && decide (i < k)); rw [Bool.and_assoc])
    · have e : soundD (.tuple ds) = false := by
        unfold soundD
        split
        · rename_i h
          cases h
          exact absurd rfl h3
        · rfl
      show DX _ _ _ (.rt (.va (.bool (soundD (.tuple ds)))))
      rw [e]
      have hn : (!decide (((ds.length : Nat) : Int) = 3)) = true := by
        rw [decide_eq_false (by omega)]
        rfl
      exact x_seqR (x_if (b := true) (Et.to (by walk_at "Et") (by rw [hn]; rfl)) (fun _ => x_ret (by walk_at "Eb")) fun h => nomatch h)
  · have ht' : isTup x = false := by simpa using ht
    show DX _ _ _ (.rt (.va (.bool (soundD x))))
    rw [no x ht']
    refine x_seqR (x_if (b := true) (Et.to (t_or (a := !isTup x) (b := false) (by walk_at "Et") fun h => ?_) (by rw [ht']; rfl)) (fun _ => x_ret (by walk_at "Eb")) fun h => nomatch h)
    rw [ht'] at h
    cases h
/-! ### looked -/
abbrev s_looked : Stmt := topS 10
abbrev n_looked : List Str := ["jobs", "job"]
theorem sc_looked : FnScope n_looked ["jobs"] (defScope s_looked) := ⟨rfl, rfl, rfl, by decide +kernel, rfl, by decide +kernel, by decide +kernel⟩
/-- jobs in order: the very list comes back -/
abbrev R_looked := Rf (fun js : List Job => [jobsD js]) (fun js => js.length ≤ 60 ∧ AllS js) (fun js => .va (jobsD js))
theorem k_looked [KK] {E : XK} {S : DSt} {ta : TA} {js : List Job} (h : Ea ta S [jobsD js]) (hl : js.length ≤ 60) (hs : AllS js) : Eb (tCall (SpR R_looked) [] E ta) S (jobsD js) := e_callR js h rfl ⟨hl, hs⟩ rfl
local macro_rules | `(tactic| walk_at "call") => `(tactic| (apply k_looked; (walk_at "Ea"); (walk_at "side"); (walk_at "side")))
theorem ok_looked {f : Addr} {fd : FuncData} (F : Fun K "looked" "looked" s_looked f fd) (m_f : mg "looked" = some (.ref f)) (b_len : mg "len" = none) {t_LIMIT : Tok} (m_LIMIT : mg "LIMIT" = some (.int 60 t_LIMIT)) (c_sound : Cal P w K mg base 2 "sound" ["job"] R_sound) : Cal P w K mg base 3 "looked" ["jobs"] R_looked := by
  letI : KK := ⟨K⟩
  refine cal_of (F.ok sc_looked (len_of fun _ => rfl) (fun cdv A outer s H vs Q E hr h => ⟨_,
      (pss_cons (ps_if (pt_cmpR op_gt (pe_callB (j_len K) (by rfl) b_len (by decide +kernel) (pa_cons (pv 0) pa_nil)) (pe_glob (v := .int 60) rfl m_LIMIT ⟨_, rfl⟩) (nomark _)) (pss_one ps_never) pss_nil)
      (pss_cons (ps_for PassesOwn.never rfl (j_iList K (pv 0)) (pg_name (i := 1) sc_looked.nd rfl (Or.inl rfl))
        (pss_one (ps_if (pt_not (j_tru K (c_sound.pe (hr.mono (by decide)) rfl (pa_cons (pv 1) pa_nil)))) (pss_one ps_never) pss_nil)))
      (pss_one (ps_ret (pv 0))))), ?_⟩)) m_f F.kp (F.binds (ps := ["jobs"]) fun _ _ _ _ _ _ us hl => match us, hl with | [_], _ => rfl)
  refine run_def (N := n_looked) h fun x hx => ?_

  obtain ⟨hl, hs⟩ := hx
  refine x_seq (x_if (b := false) (Et.to (by walk_at "Et") (decide_eq_false (by simp only [List.length_map]; omega))) (fun h => nomatch h) fun _ => x_next) ?_
  refine x_seq (x_for (fun _ => [.va (jobsD x), .no]) (i_list (by walk_at "Ep")) Le.rfl' fun i d hd => ?_) (x_ret (by walk_at "Eb"))
  rw [List.getElem?_map] at hd
  obtain ⟨j, hj, rfl⟩ := Option.map_eq_some_iff.mp hd
  have h1 := hs j (List.mem_of_getElem? hj)
  refine ⟨_, _, _, g_name, .inl (x_if (b := false) (Et.to (by walk_at "Et") ?_) (fun h => nomatch h) fun _ => x_next), by walk_at "Le"⟩
  rw [(soundD_job j).mpr h1]
  rfl
/-! ### written -/
abbrev s_written : Stmt := topS 14
abbrev n_written : List Str := ["jobs", "rows", "come", "length", "due"]
theorem sc_written : FnScope n_written ["jobs"] (defScope s_written) := ⟨rfl, rfl, rfl, by decide +kernel, rfl, by decide +kernel, by decide +kernel⟩
abbrev R_written := Rf (fun js : List Job => [jobsD js]) (fun js => js.length ≤ 60 ∧ ∀ j ∈ js, Snd j ∧ Top j) (fun js => .va (.str (SX.S (textL js))))
theorem k_written [KK] {E : XK} {S : DSt} {ta : TA} {js : List Job} (h : Ea ta S [jobsD js]) (hl : js.length ≤ 60) (hs : ∀ j ∈ js, Snd j ∧ Top j) : Eb (tCall (SpR R_written) [] E ta) S (.str (SX.S (textL js))) := e_callR js h rfl ⟨hl, hs⟩ rfl
theorem ok_written {f : Addr} {fd : FuncData} (F : Fun K "written" "written" s_written f fd) (m_f : mg "written" = some (.ref f)) (c_looked : Cal P w K mg base 3 "looked" ["jobs"] R_looked) : Cal P w K mg base 4 "written" ["jobs"] R_written := by
  letI : KK := ⟨K⟩
  refine cal_of (F.ok sc_written (len_of fun _ => rfl) (fun cdv A outer s H vs Q E hr h => ⟨_,
      (pss_cons (ps_set (i := 1) sc_written.nd rfl (Or.inl rfl) (pe_lst pa_nil))
      (pss_cons (ps_for PassesOwn.never rfl (j_iList K (c_looked.pe (hr.mono (by decide)) rfl (pa_cons (pv 0) pa_nil))) (j_tup K (n := 3) rfl (pgs_cons (pg_name (i := 2) sc_written.nd rfl (Or.inl rfl)) (pgs_cons (pg_name (i := 3) sc_written.nd rfl (Or.inl rfl)) (pgs_cons (pg_name (i := 4) sc_written.nd rfl (Or.inl rfl)) pgs_nil))))
        (pss_one (ps_expr (j_app K (pv 1) (pe_joined (PJ.cons (pe_fmt (pv 2)) (PJ.cons pe_str (PJ.cons (pe_fmt (pv 3)) (PJ.cons pe_str (PJ.cons (pe_fmt (pv 4)) (PJ.cons pe_str PJ.nil)))))))))))
      (pss_one (ps_ret (j_join K pe_str (pv 1)))))), ?_⟩)) m_f F.kp (F.binds (ps := ["jobs"]) fun _ _ _ _ _ _ us hl => match us, hl with | [_], _ => rfl)
  refine run_def (N := n_written) h fun x hx => ?_

  obtain ⟨hl, hst⟩ : x.length ≤ 60 ∧ ∀ j ∈ x, Snd j ∧ Top j := hx
  have hs : AllS x := fun j hj => (hst j hj).1
  show DX _ _ [.va (jobsD x), .no, .no, .no, .no] (.rt (.va (.str (SX.S (textL x)))))
  by_cases hx0 : x = []
  · subst hx0
    refine x_seq (x_set (i := 1) (d := .list []) (Ep.new (by walk_at "En") rfl)) ?_
    refine x_seq (x_for (fun i => [.va (jobsD []), .va (.list []), .no, .no, .no]) (i_list (ds := []) (Ep.free (k_looked (js := []) (by walk_at "Ea") (by decide) (fun j h => (List.not_mem_nil h).elim)) rfl)) (by walk_at "Le") fun i d hd => (nomatch hd)) ?_
    exact x_ret ((e_join (a := SX.S []) (ys := []) (e_lit (by decide +kernel)) (by walk_at "Eb") (by decide)).to rfl)
  refine x_seq (x_setO (i := 1) (ds := []) (by walk_at "En") rfl) ?_
  refine x_seq (x_for (fun i => [.va (jobsD x), .ow ((((x.take i).map rowL).map SX.S).map .str), .no, .no, .no]) (i_list (Ep.lone (k_looked (js := x) (by walk_at "Ea") hl hs) (immL_jobs _) (fun j es h => ?lone))) (by walk_at "Le") fun i d hd => ?_) ?_
  case lone =>
    have hl0 : x.length ≠ 0 := fun z => hx0 (List.length_eq_zero_iff.mp z)
    match j, h with
    | 1, h =>
      cases h
      rw [List.length_map]
      exact fun z => hl0 z.symm
    | j + 5, h => cases h
  · rw [List.getElem?_map] at hd
    obtain ⟨j, hj, rfl⟩ := Option.map_eq_some_iff.mp hd
    obtain ⟨hsn, htp⟩ := hst j (List.mem_of_getElem? hj)
    obtain ⟨s1, s2, s3⟩ := hsn
    have hrl := row_len htp
    obtain ⟨t1, t2, t3⟩ := htp
    have et : ((((x.take (i + 1)).map rowL).map SX.S).map PyData.str) = (((x.take i).map rowL).map SX.S).map PyData.str ++ [.str (SX.S (rowL j))] := by
      rw [List.take_succ, hj, List.map_append, List.map_append, List.map_append]
      rfl
    rw [et]
    have hlz : ((((x.take i).map rowL).map SX.S).map PyData.str).length < 100000 := by rw [List.length_map, List.length_map, List.length_map, List.length_take]; omega
    generalize (((x.take i).map rowL).map SX.S).map PyData.str = rows at *
    have n1 : (TL.numL j.1.toNat).length ≤ 183 := by unfold rowL rowN at hrl; simp only [List.length_append] at hrl; omega
    have n2 : (TL.numL j.2.1.toNat).length ≤ 183 := by unfold rowL rowN at hrl; simp only [List.length_append] at hrl; omega
    have n3 : (TL.numL j.2.2.toNat).length ≤ 183 := by unfold rowL rowN at hrl; simp only [List.length_append] at hrl; omega
    refine ⟨_, [.va (jobsD x), .ow rows, .va (.int j.1), .va (.int j.2.1), .va (.int j.2.2)], [.va (jobsD x), .ow (rows ++ [.str (SX.S (rowL j))]), .no, .no, .no], g_tup (gs_cons g_name (gs_cons g_name (gs_cons g_name gs_nil))) rfl, .inl ?_, Le.rfl'⟩
    refine x_post (x_app (i := 1) (d := .str (SX.S (rowL j))) rfl (e_joined (out := SX.S (rowL j)) ?_) rfl hlz) (by walk_at "Le")
    have er : rowL j = ((((([] ++ TL.numL j.1.toNat) ++ [32]) ++ TL.numL j.2.1.toNat) ++ [32]) ++ TL.numL j.2.2.toNat) ++ [10] := by
      unfold rowL rowN
      simp only [List.nil_append, List.append_assoc]
    rw [er]
    refine ej_S (a := []) (y := TL.numL j.1.toNat) (e_fmtN (by walk_at "Eb") s1 t1) (by simp only [List.length_nil, List.length_append, List.length_singleton]; omega) ?_
    refine ej_S (y := [32]) (e_lit (by decide +kernel)) (by simp only [List.length_nil, List.length_append, List.length_singleton]; omega) ?_
    refine ej_S (y := TL.numL j.2.1.toNat) (e_fmtN (by walk_at "Eb") (by omega) t2) (by simp only [List.length_nil, List.length_append, List.length_singleton]; omega) ?_
    refine ej_S (y := [32]) (e_lit (by decide +kernel)) (by simp only [List.length_nil, List.length_append, List.length_singleton]; omega) ?_
    refine ej_S (y := TL.numL j.2.2.toNat) (e_fmtN (by walk_at "Eb") (by omega) t3) (by simp only [List.length_nil, List.length_append, List.length_singleton]; omega) ?_
    refine ej_S (y := [10]) (e_lit (by decide +kernel)) (by simp only [List.length_nil, List.length_append, List.length_singleton]; omega) ?_
    exact ej_nil
  · rw [List.length_map, List.take_length]
    have hsum : ∀ l : List Job, (∀ j ∈ l, Snd j ∧ Top j) → ((((l.map rowL).map SX.S)).map (·.length)).sum ≤ l.length * 183 := fun l => by
      induction l with
      | nil => exact fun _ => Nat.le_refl _
      | cons j r ih =>
        intro h
        have := ih fun y hy => h y (List.mem_cons_of_mem _ hy)
        have := row_len (h j List.mem_cons_self).2
        rw [List.map_cons, List.map_cons, List.map_cons, List.sum_cons, List.length_cons, SX.S_len]
        omega
    have := hsum x hst
    exact x_ret ((e_join (a := SX.S []) (ys := (x.map rowL).map SX.S) (e_lit (by decide +kernel)) (by walk_at "Eb") (by rw [SX.S_len]; show _ + _ * 0 ≤ _; omega)).to (by rw [join_text]))
/-! ### _law_sign_by -/
abbrev s_L_sign_by : Stmt := topS 32
abbrev n_L_sign_by : List Str := ["_law_cell", "_law_some"]
theorem sc_L_sign_by : FnScope n_L_sign_by ["_law_cell"] (defScope s_L_sign_by) := ⟨rfl, rfl, rfl, by decide +kernel, rfl, by decide +kernel, by decide +kernel⟩
def signA : List Nat := digs ++ [32, 10]
def signB1 : List Nat := ((List.range 65).map (32 + ·)).filter (· != 37)
def signB2 : List Nat := (List.range 30).map (97 + ·) ++ [10, 9]
def signC (c : Int) : Nat := if c % 2 = 0 then signA.getD (c / 2 % 12).toNat 0 else (signB1 ++ signB2).getD (c / 2 % 96).toNat 0
abbrev R_L_sign_by := Rf (fun c : Int => [.int c]) (fun _ => True) (fun c => .va (.str (SX.S [signC c])))
theorem k_L_sign_by [KK] {E : XK} {S : DSt} {ta : TA} {c : Int} (h : Ea ta S [.int c]) : Eb (tCall (SpR R_L_sign_by) [] E ta) S (.str (SX.S [signC c])) := e_callR c h rfl trivial rfl
theorem ok_L_sign_by {f : Addr} {fd : FuncData} (F : Fun K "_law_sign_by" "_law_sign_by" s_L_sign_by f fd) (m_f : mg "_law_sign_by" = some (.ref f)) : Cal P w K mg base 1 "_law_sign_by" ["_law_cell"] R_L_sign_by := by
  letI : KK := ⟨K⟩
  refine cal_of (F.ok sc_L_sign_by (len_of fun _ => rfl) (fun cdv A outer s H vs Q E hr h => ⟨_,
      (pss_cons (ps_if (pt_cmpR (j_eq K hr.units) (pe_op op_mod (pv 0) pe_int) pe_int (nomark _)) (pss_one (ps_ret (j_ix K pe_str (pe_op op_mod (pe_op op_fdiv (pv 0) pe_int) pe_int)))) pss_nil)
      (pss_cons (ps_set (i := 1) sc_L_sign_by.nd rfl (Or.inl rfl) pe_str)
      (pss_cons (ps_set (i := 1) sc_L_sign_by.nd rfl (Or.inl rfl) (pe_op op_plus (pv 1) pe_str))
      (pss_one (ps_ret (j_ix K (pv 1) (pe_op op_mod (pe_op op_fdiv (pv 0) pe_int) pe_int))))))), ?_⟩)) m_f F.kp (F.binds (ps := ["_law_cell"]) fun _ _ _ _ _ _ us hl => match us, hl with | [_], _ => rfl)
  refine run_def (N := n_L_sign_by) h fun x hx => ?_

  show DX _ _ [.va (.int x), .no] (.rt (.va (.str (SX.S [signC x]))))
  unfold signC
  by_cases q : x % 2 = 0
  · rw [if_pos q]
    have ha : atI (SX.S signA).cps.toList (x / 2 % 12) = some (signA.getD (x / 2 % 12).toNat 0) := by
      show atI signA _ = _
      exact atI_pos (by omega) (getD_some (by show (x / 2 % 12).toNat < 12; omega))
    exact x_seqR (x_if (b := true) (Et.to (by walk_at "Et") (by exact decide_eq_true q)) (fun _ => x_ret (e_ixS (e_lit (a := signA) (by decide +kernel)) (by walk_at "Eb") (by rw [SX.S_len]; decide) ha)) (fun h => nomatch h))
  · rw [if_neg q]
    refine x_seq (x_if (b := false) (Et.to (by walk_at "Et") (by exact decide_eq_false q)) (fun h => nomatch h) (fun _ => x_next)) ?_
    have l1 : signB1.length = 64 := by decide
    have l2 : signB2.length = 32 := by decide
    have ha : atI (SX.S (signB1 ++ signB2)).cps.toList (x / 2 % 96) = some ((signB1 ++ signB2).getD (x / 2 % 96).toNat 0) := by
      show atI (signB1 ++ signB2) _ = _
      exact atI_pos (by omega) (getD_some (by rw [List.length_append, l1, l2]; omega))
    refine x_seq (x_set (i := 1) (d := .str (SX.S signB1)) (Ep.free (e_lit (by decide +kernel)) rfl)) ?_
    refine x_seq (x_set (i := 1) (d := .str (SX.S (signB1 ++ signB2))) (Ep.free (e_catS (e_var rfl).b (e_lit (by decide +kernel)) (by rw [l1, l2]; decide)) rfl)) ?_
    exact x_ret (e_ixS (e_var rfl).b (by walk_at "Eb") (by rw [SX.S_len, List.length_append, l1, l2]; decide) ha)
/-! ### _law_changed -/
abbrev s_L_changed : Stmt := topS 33
abbrev n_L_changed : List Str := ["_law_text", "_law_how", "_law_place", "_law_sign", "_law_at", "_law_rows"]
theorem sc_L_changed : FnScope n_L_changed ["_law_text", "_law_how", "_law_place", "_law_sign"] (defScope s_L_changed) := ⟨rfl, rfl, rfl, by decide +kernel, rfl, by decide +kernel, by decide +kernel⟩
theorem TL_cut (x : Str) (lo hi : Option Int) : (L2.cutS x lo hi).length ≤ x.length := L2.cutS_length x lo hi
def chRows : List (List Nat) := [[10], [49, 32, 50, 10], [49, 32, 50, 32, 52, 32, 10], [32, 49, 32, 50, 32, 52, 10], [49, 32, 32, 50, 32, 52, 10], [48, 49, 32, 50, 32, 52, 10], [49, 32, 48, 32, 52, 10], [52, 32, 50, 32, 52, 10], [49, 32, 50, 32, 52, 32, 53, 10], [49, 32, 50, 32, 52], [48, 32, 49, 32, 49, 10], ([49, 32, 50, 32] ++ List.replicate 60 57) ++ [10], ([49, 32, 50, 32] ++ List.replicate 61 57) ++ [10], ([49, 32] ++ List.replicate 60 57) ++ [32, 52, 10], ([49, 32] ++ List.replicate 61 57) ++ [32, 52, 10]]
def chD (n : Nat) : PyData := .list ((chRows.take n).map fun r => .str (SX.S r))
/-- a changed text -/
def changedX (x : Str) (how place : Int) (sg : Str) : Str :=
  let at_ := place % ((x.length : Int) + 1)
  let fd := Txt.find x (SX.S [10]) + 1
  if how % 8 = 1 then L2.cutS x none (some at_) ++ L2.cutS x (some (at_ + 1)) none
  else if how % 8 = 2 then L2.cutS x none (some at_) ++ sg ++ L2.cutS x (some at_) none
  else if how % 8 = 3 then L2.cutS x none (some at_) ++ sg ++ L2.cutS x (some (at_ + 1)) none
  else if how % 8 = 4 then x ++ SX.S (List.replicate 61 10) ++ L2.cutS (SX.S [49]) none (some (place % 2))
  else L2.cutS x none (some fd) ++ SX.S (chRows.getD (place % 15).toNat []) ++ L2.cutS x (some fd) none
theorem chRow_len (i : Int) : (chRows.getD (i % 15).toNat []).length ≤ 100 := by
  have h : ∀ n : Nat, n < 15 → (chRows.getD n []).length ≤ 100 := by decide
  exact h _ (by omega)
theorem changedX_len {x sg : Str} {how place : Int} (h : sg.length = 1) : (changedX x how place sg).length ≤ 2 * x.length + 200 := by
  have c := fun lo hi => TL_cut x lo hi
  unfold changedX
  dsimp only
  split
  · rw [Str.length_append]
    have := c none (some (place % ((x.length : Int) + 1)))
    have := c (some (place % ((x.length : Int) + 1) + 1)) none
    omega
  · split
    · rw [Str.length_append, Str.length_append]
      have := c none (some (place % ((x.length : Int) + 1)))
      have := c (some (place % ((x.length : Int) + 1))) none
      omega
    · split
      · rw [Str.length_append, Str.length_append]
        have := c none (some (place % ((x.length : Int) + 1)))
        have := c (some (place % ((x.length : Int) + 1) + 1)) none
        omega
      · split
        · rw [Str.length_append, Str.length_append, SX.S_len (List.replicate 61 10), List.length_replicate]
          have := TL_cut (SX.S [49]) none (some (place % 2))
          rw [SX.S_len [49], List.length_singleton] at this
          omega
        · rw [Str.length_append, Str.length_append, SX.S_len (chRows.getD (place % 15).toNat [])]
          have := c none (some (Txt.find x (SX.S [10]) + 1))
          have := c (some (Txt.find x (SX.S [10]) + 1)) none
          have := chRow_len place
          omega
abbrev R_L_changed := Rf (fun x : Str × Int × Int × Str => [.str x.1, .int x.2.1, .int x.2.2.1, .str x.2.2.2]) (fun x => x.1.length ≤ 20000 ∧ x.2.2.2.length = 1) (fun x => .va (.str (changedX x.1 x.2.1 x.2.2.1 x.2.2.2)))
theorem k_L_changed [KK] {E : XK} {S : DSt} {ta : TA} {x sg : Str} {h p : Int} (ha : Ea ta S [.str x, .int h, .int p, .str sg]) (hl : x.length ≤ 20000) (hs : sg.length = 1) : Eb (tCall (SpR R_L_changed) [] E ta) S (.str (changedX x h p sg)) := e_callR (x, h, p, sg) ha rfl ⟨hl, hs⟩ rfl
theorem ok_L_changed {f : Addr} {fd : FuncData} (F : Fun K "_law_changed" "_law_changed" s_L_changed f fd) (m_f : mg "_law_changed" = some (.ref f)) (b_len : mg "len" = none) : Cal P w K mg base 1 "_law_changed" ["_law_text", "_law_how", "_law_place", "_law_sign"] R_L_changed := by
  letI : KK := ⟨K⟩
  refine cal_of (F.ok sc_L_changed (len_of fun _ => rfl) (fun cdv A outer s H vs Q E hr h => ⟨_,
      (pss_cons (ps_set (i := 4) sc_L_changed.nd rfl (Or.inl rfl) (pe_op op_mod (pv 2) (pe_op op_plus (pe_callB (j_len K) (by rfl) b_len (by decide +kernel) (pa_cons (pv 0) pa_nil)) pe_int)))
      (pss_cons (ps_if (pt_cmpR (j_eq K hr.units) (pe_op op_mod (pv 1) pe_int) pe_int (nomark _)) (pss_one (ps_ret (pe_op op_plus (j_sl K (pv 0) po_none (po_some (pv 4))) (j_sl K (pv 0) (po_some (pe_op op_plus (pv 4) pe_int)) po_none)))) pss_nil)
      (pss_cons (ps_if (pt_cmpR (j_eq K hr.units) (pe_op op_mod (pv 1) pe_int) pe_int (nomark _)) (pss_one (ps_ret (pe_op op_plus (pe_op op_plus (j_sl K (pv 0) po_none (po_some (pv 4))) (pv 3)) (j_sl K (pv 0) (po_some (pv 4)) po_none)))) pss_nil)
      (pss_cons (ps_if (pt_cmpR (j_eq K hr.units) (pe_op op_mod (pv 1) pe_int) pe_int (nomark _)) (pss_one (ps_ret (pe_op op_plus (pe_op op_plus (j_sl K (pv 0) po_none (po_some (pv 4))) (pv 3)) (j_sl K (pv 0) (po_some (pe_op op_plus (pv 4) pe_int)) po_none)))) pss_nil)
      (pss_cons (ps_if (pt_cmpR (j_eq K hr.units) (pe_op op_mod (pv 1) pe_int) pe_int (nomark _)) (pss_one (ps_ret (pe_op op_plus (pe_op op_plus (pv 0) (pe_op op_mulS pe_str pe_int)) (j_sl K pe_str po_none (po_some (pe_op op_mod (pv 2) pe_int)))))) pss_nil)
      (pss_cons (ps_set (i := 5) sc_L_changed.nd rfl (Or.inl rfl) (pe_lst (pa_cons pe_str (pa_cons pe_str (pa_cons pe_str (pa_cons pe_str (pa_cons pe_str (pa_cons pe_str (pa_cons pe_str (pa_cons pe_str pa_nil))))))))))
      (pss_cons (ps_set (i := 5) sc_L_changed.nd rfl (Or.inl rfl) (pe_op op_plus (pv 5) (pe_lst (pa_cons pe_str (pa_cons pe_str (pa_cons pe_str (pa_cons (pe_op op_plus (pe_op op_plus pe_str (pe_op op_mulS pe_str pe_int)) pe_str) (pa_cons (pe_op op_plus (pe_op op_plus pe_str (pe_op op_mulS pe_str pe_int)) pe_str) pa_nil))))))))
      (pss_cons (ps_set (i := 5) sc_L_changed.nd rfl (Or.inl rfl) (pe_op op_plus (pv 5) (pe_lst (pa_cons (pe_op op_plus (pe_op op_plus pe_str (pe_op op_mulS pe_str pe_int)) pe_str) (pa_cons (pe_op op_plus (pe_op op_plus pe_str (pe_op op_mulS pe_str pe_int)) pe_str) pa_nil)))))
      (pss_one (ps_ret (pe_op op_plus (pe_op op_plus (j_sl K (pv 0) po_none (po_some (pe_op op_plus (pe_m1 PySem.F.slot_str_find PySem.F.type_str_find mt_find (pv 0) pe_str) pe_int))) (j_ix K (pv 5) (pe_op op_mod (pv 2) pe_int))) (j_sl K (pv 0) (po_some (pe_op op_plus (pe_m1 PySem.F.slot_str_find PySem.F.type_str_find mt_find (pv 0) pe_str) pe_int)) po_none)))))))))))), ?_⟩)) m_f F.kp (F.binds (ps := ["_law_text", "_law_how", "_law_place", "_law_sign"]) fun _ _ _ _ _ _ us hl => match us, hl with | [_, _, _, _], _ => rfl)
  refine run_def (N := n_L_changed) h fun x hx => ?_

  obtain ⟨x, how, place, sg⟩ := x
  obtain ⟨hl, hs⟩ : x.length ≤ 20000 ∧ sg.length = 1 := hx
  have c := fun lo hi => TL_cut x lo hi
  have hp1 : (0 : Int) < (x.length : Int) + 1 := by omega
  show DX _ _ [.va (.str x), .va (.int how), .va (.int place), .va (.str sg), .no, .no] (.rt (.va (.str (changedX x how place sg))))
  unfold changedX
  dsimp only
  refine x_seq (x_set (i := 4) (d := .int (place % ((x.length : Int) + 1))) (by walk_at "Ep")) ?_
  generalize place % ((x.length : Int) + 1) = at_ at *
  show DX _ _ [.va (.str x), .va (.int how), .va (.int place), .va (.str sg), .va (.int at_), .no] _
  by_cases q1 : how % 8 = 1
  · rw [if_pos q1]
    exact x_seqR (x_if (b := true) (Et.to (by walk_at "Et") (by exact decide_eq_true q1)) (fun _ => x_ret (e_addS (e_slS (x := x) (lo := none) (hi := some (at_)) (by walk_at "Eb") o_no (o_some (by walk_at "Eb")) (by omega)) (e_slS (x := x) (lo := some (at_ + 1)) (hi := none) (by walk_at "Eb") (o_some (by walk_at "Eb")) o_no (by omega)) (by have := c none (some at_); have := c (some (at_ + 1)) none; omega))) (fun h => nomatch h))
  rw [if_neg q1]
  refine x_seq (x_if (b := false) (Et.to (by walk_at "Et") (by exact decide_eq_false q1)) (fun h => nomatch h) (fun _ => x_next)) ?_
  by_cases q2 : how % 8 = 2
  · rw [if_pos q2]
    exact x_seqR (x_if (b := true) (Et.to (by walk_at "Et") (by exact decide_eq_true q2)) (fun _ => x_ret (e_addS (e_addS (e_slS (x := x) (lo := none) (hi := some (at_)) (by walk_at "Eb") o_no (o_some (by walk_at "Eb")) (by omega)) (by walk_at "Eb") (by have := c none (some at_); omega)) (e_slS (x := x) (lo := some (at_)) (hi := none) (by walk_at "Eb") (o_some (by walk_at "Eb")) o_no (by omega)) (by rw [Str.length_append]; have := c none (some at_); have := c (some (at_)) none; omega))) (fun h => nomatch h))
  rw [if_neg q2]
  refine x_seq (x_if (b := false) (Et.to (by walk_at "Et") (by exact decide_eq_false q2)) (fun h => nomatch h) (fun _ => x_next)) ?_
  by_cases q3 : how % 8 = 3
  · rw [if_pos q3]
    exact x_seqR (x_if (b := true) (Et.to (by walk_at "Et") (by exact decide_eq_true q3)) (fun _ => x_ret (e_addS (e_addS (e_slS (x := x) (lo := none) (hi := some (at_)) (by walk_at "Eb") o_no (o_some (by walk_at "Eb")) (by omega)) (by walk_at "Eb") (by have := c none (some at_); omega)) (e_slS (x := x) (lo := some (at_ + 1)) (hi := none) (by walk_at "Eb") (o_some (by walk_at "Eb")) o_no (by omega)) (by rw [Str.length_append]; have := c none (some at_); have := c (some (at_ + 1)) none; omega))) (fun h => nomatch h))
  rw [if_neg q3]
  refine x_seq (x_if (b := false) (Et.to (by walk_at "Et") (by exact decide_eq_false q3)) (fun h => nomatch h) (fun _ => x_next)) ?_
  by_cases q4 : how % 8 = 4
  · rw [if_pos q4]
    exact x_seqR (x_if (b := true) (Et.to (by walk_at "Et") (by exact decide_eq_true q4)) (fun _ => x_ret (e_addS (e_addS (by walk_at "Eb") (e_mulS (n := 61) (c := 10) (e_lit (by decide +kernel)) e_int (by decide) (by decide)) (by rw [SX.S_len (List.replicate 61 10), List.length_replicate]; omega)) (e_slS (x := SX.S [49]) (lo := none) (hi := some (place % 2)) (e_lit (by decide +kernel)) o_no (o_some (by walk_at "Eb")) (by rw [SX.S_len [49]]; decide)) (by rw [Str.length_append, SX.S_len (List.replicate 61 10), List.length_replicate]; have := TL_cut (SX.S [49]) none (some (place % 2)); rw [SX.S_len [49], List.length_singleton] at this; omega))) (fun h => nomatch h))
  rw [if_neg q4]
  refine x_seq (x_if (b := false) (Et.to (by walk_at "Et") (by exact decide_eq_false q4)) (fun h => nomatch h) (fun _ => x_next)) ?_
  refine x_seq (x_set (i := 5) (d := chD 8) (Ep.free (Eb.to (n_lst (a_cons (e_lit (a := [10]) (by decide +kernel)) (a_cons (e_lit (a := [49, 32, 50, 10]) (by decide +kernel)) (a_cons (e_lit (a := [49, 32, 50, 32, 52, 32, 10]) (by decide +kernel)) (a_cons (e_lit (a := [32, 49, 32, 50, 32, 52, 10]) (by decide +kernel)) (a_cons (e_lit (a := [49, 32, 32, 50, 32, 52, 10]) (by decide +kernel)) (a_cons (e_lit (a := [48, 49, 32, 50, 32, 52, 10]) (by decide +kernel)) (a_cons (e_lit (a := [49, 32, 48, 32, 52, 10]) (by decide +kernel)) (a_cons (e_lit (a := [52, 32, 50, 32, 52, 10]) (by decide +kernel)) a_nil)))))))) (by simp)).b (by rfl)) rfl)) ?_
  refine x_seq (x_set (i := 5) (d := chD 13) (Ep.free (Eb.to (e_cat (e_var rfl).b (n_lst (a_cons (e_lit (a := [49, 32, 50, 32, 52, 32, 53, 10]) (by decide +kernel)) (a_cons (e_lit (a := [49, 32, 50, 32, 52]) (by decide +kernel)) (a_cons (e_lit (a := [48, 32, 49, 32, 49, 10]) (by decide +kernel)) (a_cons (e_catS (a := [49, 32, 50, 32] ++ List.replicate 60 57) (b := [10]) (e_catS (a := [49, 32, 50, 32]) (b := List.replicate 60 57) (e_lit (by decide +kernel)) (e_mulS (n := 60) (e_lit (by decide +kernel)) e_int (by decide) (by decide)) (by simp)) (e_lit (by decide +kernel)) (by simp)) (a_cons (e_catS (a := [49, 32, 50, 32] ++ List.replicate 61 57) (b := [10]) (e_catS (a := [49, 32, 50, 32]) (b := List.replicate 61 57) (e_lit (by decide +kernel)) (e_mulS (n := 61) (e_lit (by decide +kernel)) e_int (by decide) (by decide)) (by simp)) (e_lit (by decide +kernel)) (by simp)) a_nil))))) (by simp)).b (by simp [chRows])).b (by rfl)) rfl)) ?_
  refine x_seq (x_set (i := 5) (d := chD 15) (Ep.free (Eb.to (e_cat (e_var rfl).b (n_lst (a_cons (e_catS (a := [49, 32] ++ List.replicate 60 57) (b := [32, 52, 10]) (e_catS (a := [49, 32]) (b := List.replicate 60 57) (e_lit (by decide +kernel)) (e_mulS (n := 60) (e_lit (by decide +kernel)) e_int (by decide) (by decide)) (by simp)) (e_lit (by decide +kernel)) (by simp)) (a_cons (e_catS (a := [49, 32] ++ List.replicate 61 57) (b := [32, 52, 10]) (e_catS (a := [49, 32]) (b := List.replicate 61 57) (e_lit (by decide +kernel)) (e_mulS (n := 61) (e_lit (by decide +kernel)) e_int (by decide) (by decide)) (by simp)) (e_lit (by decide +kernel)) (by simp)) a_nil)) (by simp)).b (by simp [chRows])).b (by rfl)) rfl)) ?_
  have ha : atI ((chRows.take 15).map fun r => PyData.str (SX.S r)) (place % 15) = some (.str (SX.S (chRows.getD (place % 15).toNat []))) := atI_pos (by omega) (by
    rw [List.getElem?_map, show chRows.take 15 = chRows from rfl, getD_some (d := ([] : List Nat)) (by show (place % 15).toNat < 15; omega)]
    rfl)
  have hr := chRow_len place
  generalize chRows.getD (place % 15).toNat [] = r at *
  have ef : Eb (tM1 (fun x xs H Q => ∃ a b, x = .str a ∧ xs = [.str b] ∧ Q (.int (Txt.find a b)) H) (tVar 0) (tC (.str (Str.ofString "\n")))) [.va (.str x), .va (.int how), .va (.int place), .va (.str sg), .va (.int at_), .va (chD 15)] (.int (Txt.find x (SX.S [10]))) := e_find (by walk_at "Eb") (e_lit (by decide +kernel))
  generalize Txt.find x (SX.S [10]) = fd at *
  exact x_ret (e_addS (e_addS (e_slS (x := x) (lo := none) (hi := some (fd + 1)) (by walk_at "Eb") o_no (o_some (e_add ef (by walk_at "Eb"))) (by omega)) (e_ixL (e_var rfl).b (by walk_at "Eb") ha) (by rw [SX.S_len r]; have := c none (some (fd + 1)); omega)) (e_slS (x := x) (lo := some (fd + 1)) (hi := none) (by walk_at "Eb") (o_some (e_add ef (by walk_at "Eb"))) o_no (by omega)) (by rw [Str.length_append, SX.S_len r]; have := c none (some (fd + 1)); have := c (some (fd + 1)) none; omega))
/-! ### number_of -/
abbrev s_number_of : Stmt := topS 15
abbrev n_number_of : List Str := ["word", "sign"]
theorem sc_number_of : FnScope n_number_of ["word"] (defScope s_number_of) := ⟨rfl, rfl, rfl, by decide +kernel, rfl, by decide +kernel, by decide +kernel⟩
abbrev R_number_of := Rf (fun w : List Nat => [.str (SX.S w)]) (fun w => w.length ≤ 50000) (fun w => .va (numD (numO w)))
theorem k_number_of [KK] {E : XK} {S : DSt} {ta : TA} {w : List Nat} (h : Ea ta S [.str (SX.S w)]) (hl : w.length ≤ 50000) : Eb (tCall (SpR R_number_of) [] E ta) S (numD (numO w)) := e_callR w h rfl hl rfl
theorem ok_number_of {f : Addr} {fd : FuncData} (F : Fun K "number_of" "number_of" s_number_of f fd) (m_f : mg "number_of" = some (.ref f)) (b_len : mg "len" = none) (b_int : mg "int" = none) {t_MOST_FIGURES : Tok} (m_MOST_FIGURES : mg "MOST_FIGURES" = some (.int 60 t_MOST_FIGURES)) {t_FIGURES : Tok} (m_FIGURES : mg "FIGURES" = some (.str "0123456789" t_FIGURES)) : Cal P w K mg base 1 "number_of" ["word"] R_number_of := by
  letI : KK := ⟨K⟩
  refine cal_of (F.ok sc_number_of (len_of fun _ => rfl) (fun cdv A outer s H vs Q E hr h => ⟨_,
      (pss_cons (ps_if (pt_not (pt_chain op_lt op_le pe_int (pe_callB (j_len K) (by rfl) b_len (by decide +kernel) (pa_cons (pv 0) pa_nil)) (pe_glob (v := .int 60) rfl m_MOST_FIGURES ⟨_, rfl⟩))) (pss_one (ps_ret pe_non)) pss_nil)
      (pss_cons (ps_for PassesOwn.never rfl (pi_str (pv 0)) (pg_name (i := 1) sc_number_of.nd rfl (Or.inl rfl))
        (pss_one (ps_if (pt_cmpR (j_notIn K (hu65 hr)) (pv 1) (pe_glob (v := .str "0123456789") rfl m_FIGURES ⟨_, rfl⟩) rfl) (pss_one (ps_ret pe_non)) pss_nil)))
      (pss_cons (ps_if (PW.pt (pw_and (pt_cmpR op_eq (j_ix K (pv 0) pe_int) pe_str (nomark _)) (pw_and1 (pt_cmpR op_gt (pe_callB (j_len K) (by rfl) b_len (by decide +kernel) (pa_cons (pv 0) pa_nil)) pe_int (nomark _))))) (pss_one (ps_ret pe_non)) pss_nil)
      (pss_one (ps_ret (pe_callTy call_int_str (by rfl) b_int (by decide +kernel) (pa_cons (pv 0) pa_nil))))))), ?_⟩)) m_f F.kp (F.binds (ps := ["word"]) fun _ _ _ _ _ _ us hl => match us, hl with | [_], _ => rfl)
  refine run_def (N := n_number_of) h fun x hx => ?_

  have hl : x.length ≤ 50000 := hx
  have hls : (SX.S x).length ≤ 100000 := by rw [SX.S_len]; omega
  show DX _ _ [.va (.str (SX.S x)), .no] (.rt (.va (numD (numO x))))
  unfold numO
  by_cases q1 : x = [] ∨ 60 < x.length
  · rw [if_pos q1]
    refine x_seqR (x_if (b := true) (Et.to (by walk_at "Et") ?_) (fun _ => x_ret (by walk_at "Eb")) (fun h => nomatch h))
    rw [SX.S_len]
    rcases q1 with e | e
    · subst e
      rfl
    · rw [decide_eq_false (show ¬ ((x.length : Int) ≤ 60) by omega), Bool.and_false]
      rfl
  rw [if_neg q1]
  have q1a : x ≠ [] := fun e => q1 (.inl e)
  have q1b : x.length ≤ 60 := by
    have : ¬ 60 < x.length := fun e => q1 (.inr e)
    omega
  have q1c : 0 < x.length := List.length_pos_iff.mpr q1a
  refine x_seq (x_if (b := false) (Et.to (by walk_at "Et") (by
    rw [SX.S_len, decide_eq_true (show (0 : Int) < (x.length : Int) by omega), decide_eq_true (show (x.length : Int) ≤ 60 by omega)]
    rfl)) (fun h => nomatch h) (fun _ => x_next)) ?_
  have hgo := goS_all (P := fun c => digB c = true) (q := .va .none) x
  by_cases hd : x.all digB = false
  · rw [if_pos hd]
    have hn : ¬ ∀ c ∈ x, digB c = true := fun h => by
      rw [List.all_eq_true.mpr h] at hd
      cases hd
    rw [if_neg hn] at hgo
    refine x_forQ (xs := x) (f := fun c => .str (SX.S [c])) (b0 := ()) (fun _ c => if digB c = true then .inl () else .inr (.va .none)) (fun _ => [.va (.str (SX.S x)), .no]) (fun _ => True) (i_strS (by walk_at "Eb")) (by walk_at "Le") trivial (fun u c _ _ => ?_) (fun u h _ => ?_) (fun r h => ?_)
    · have en : Eb (tOp (rNotInJ K) (tVar 1) (tC (.str (Str.ofString "0123456789")))) [.va (.str (SX.S x)), .va (.str (SX.S [c]))] (.bool (!decide (c ∈ digs))) := e_notInS (by walk_at "Eb") (e_lit (by decide +kernel))
      by_cases q : digB c = true
      · rw [if_pos q]
        exact ⟨trivial, _, [.va (.str (SX.S x)), .va (.str (SX.S [c]))], [.va (.str (SX.S x)), .no], g_name, .inl (x_if (b := false) (Et.to (t_test en) (by rw [digs_in, q]; rfl)) (fun h => nomatch h) fun _ => x_post x_next (by walk_at "Le")), Le.rfl'⟩
      · rw [if_neg q]
        exact ⟨_, [.va (.str (SX.S x)), .va (.str (SX.S [c]))], g_name, x_if (b := true) (Et.to (t_test en) (by rw [digs_in]; simpa using q)) (fun _ => x_ret (by walk_at "Eb")) fun h => nomatch h⟩
    · rw [h] at hgo
      cases hgo
    · rw [h] at hgo
      exact Sum.inr.inj hgo
  have hd' : x.all digB = true := by simpa using hd
  rw [if_neg hd]
  rw [if_pos (List.all_eq_true.mp hd')] at hgo
  refine x_forQ (xs := x) (f := fun c => .str (SX.S [c])) (b0 := ()) (fun _ c => if digB c = true then .inl () else .inr (.va .none)) (fun _ => [.va (.str (SX.S x)), .no]) (fun _ => True) (i_strS (by walk_at "Eb")) (by walk_at "Le") trivial (fun u c _ hc => ?_) (fun u h _ => ?_) (fun r h => ?_)
  · have en : Eb (tOp (rNotInJ K) (tVar 1) (tC (.str (Str.ofString "0123456789")))) [.va (.str (SX.S x)), .va (.str (SX.S [c]))] (.bool (!decide (c ∈ digs))) := e_notInS (by walk_at "Eb") (e_lit (by decide +kernel))
    have q := List.all_eq_true.mp hd' c hc
    rw [if_pos q]
    exact ⟨trivial, _, [.va (.str (SX.S x)), .va (.str (SX.S [c]))], [.va (.str (SX.S x)), .no], g_name, .inl (x_if (b := false) (Et.to (t_test en) (by rw [digs_in, q]; rfl)) (fun h => nomatch h) fun _ => x_post x_next (by walk_at "Le")), Le.rfl'⟩
  · obtain ⟨c, r, rfl⟩ : ∃ c r, x = c :: r := by
      cases x with
      | nil => exact absurd rfl q1a
      | cons c r => exact ⟨c, r, rfl⟩
    have a0 : atI (SX.S (c :: r)).cps.toList 0 = some c := by
      show atI (c :: r) ((0 : Nat) : Int) = some c
      exact atI_nat rfl
    have e0 : Eb (tOp (rIx K) (tVar 0) (tC (.int 0))) [.va (.str (SX.S (c :: r))), .no] (.str (SX.S [c])) := e_ixS (by walk_at "Eb") e_int hls a0
    have e1 := e_eqS (y := Str.ofString "0") e0 e_str
    have ec : decide (SX.S [c] = Str.ofString "0") = decide (c = 48) := by
      rw [show Str.ofString "0" = SX.S [48] by decide +kernel, decide_eq_decide]
      exact ⟨fun z => by simpa using SX.S_inj z, fun z => by rw [z]⟩
    rw [ec] at e1
    have et : Et (tTest (tOp (rIx K) (tVar 0) (tC (.int 0)))) [.va (.str (SX.S (c :: r))), .no] true → True := fun _ => trivial
    by_cases q2 : (c :: r).head? = some 48 ∧ 1 < (c :: r).length
    · rw [if_pos q2]
      have q3 : c = 48 := Option.some.inj q2.1
      exact x_seqR (x_if (b := true) (Et.to (t_and (t_test e1) (fun _ => by walk_at "Et")) (by rw [SX.S_len, decide_eq_true q3, decide_eq_true (show (1 : Int) < ((c :: r).length : Int) by omega)]; rfl)) (fun _ => x_ret (by walk_at "Eb")) (fun h => nomatch h))
    · rw [if_neg q2]
      refine x_seq (x_if (b := false) (Et.to (t_and (t_test e1) (fun _ => by walk_at "Et")) (by
        rw [SX.S_len]
        by_cases q3 : c = 48
        · have q4 : ¬ 1 < (c :: r).length := fun z => q2 ⟨by rw [q3]; rfl, z⟩
          rw [decide_eq_false (show ¬ (1 : Int) < ((c :: r).length : Int) by omega), Bool.and_false]
        · rw [decide_eq_false q3, Bool.false_and])) (fun h => nomatch h) (fun _ => x_next)) ?_
      refine x_ret (e_intS (by walk_at "Eb") (SX.int_S hd' (by simp) (by omega)) ?_)
      rw [SX.S_len]
      omega
  · rw [h] at hgo
    cases hgo
/-! ### job_of -/
abbrev s_job_of : Stmt := topS 16
abbrev n_job_of : List Str := ["row", "numbers", "word"]
theorem sc_job_of : FnScope n_job_of ["row"] (defScope s_job_of) := ⟨rfl, rfl, rfl, by decide +kernel, rfl, by decide +kernel, by decide +kernel⟩
def jobR [EK] (r : List Nat) : Ro := match jobO r with
  | some j => .va (jobD j)
  | none => .ex EK.NoRow
abbrev R_job_of [EK] := Rf (fun r : List Nat => [.str (SX.S r)]) (fun r => r.length ≤ 46000) (fun r => jobR r)
theorem k_job_of [KK] [EK] {E : XK} {S : DSt} {ta : TA} {r : List Nat} {j : Job} (h : Ea ta S [.str (SX.S r)]) (hl : r.length ≤ 46000) (e : jobO r = some j) : Eb (tCall (SpR R_job_of) [] E ta) S (jobD j) := e_callR r h rfl hl (by unfold jobR; rw [e])
theorem z_job_of [KK] [EK] {E : XK} {S : DSt} {ta : TA} {r : List Nat} (h : Ea ta S [.str (SX.S r)]) (hl : r.length ≤ 46000) (e : jobO r = none) : Rz E (tCall (SpR R_job_of) [] E ta) S EK.NoRow := z_callR r h rfl hl (by unfold jobR; rw [e])
theorem ok_job_of {f : Addr} {fd : FuncData} (F : Fun K "job_of" "job_of" s_job_of f fd) (m_f : mg "job_of" = some (.ref f)) (b_tuple : mg "tuple" = none) (e_NoRow : ExF K mg "NoRow" EK.NoRow) (c_number_of : Cal P w K mg base 1 "number_of" ["word"] R_number_of) (c_sound : Cal P w K mg base 2 "sound" ["job"] R_sound) : CalX P w K mg base 3 "job_of" ["row"] R_job_of := by
  letI : KK := ⟨K⟩
  refine calX_of (F.okX sc_job_of (len_of fun x => by first | rfl | (cases x <;> rfl)) (fun cdv A outer s H vs Q E hr h => ⟨_,
      (pss_cons (ps_setLc (i := 1) (own := [("word", 2)]) rfl sc_job_of.nd rfl rfl (sw_true rfl rfl rfl (by decide +kernel)) (j_iList K (pe_split (pv 0) pe_str)) (blkOk_by (own := [("word", 2)]) (N := n_job_of) (sc := (defScope s_job_of)) (by decide +kernel)) (fun _ _ _ _ _ => (pg_name (i := 2) sc_job_of.nd rfl (Or.inl rfl))) (fun _ _ _ _ _ => pts_nil) (fun _ _ _ _ _ => (c_number_of.pe (hr.mono (by decide)) rfl (pa_cons (pv 2) pa_nil))))
      (pss_cons (ps_if (pt_not (j_tru K (c_sound.pe (hr.mono (by decide)) rfl (pa_cons (pe_callTy (j_tuple K) (by rfl) b_tuple (by decide +kernel) (pa_cons (pv 1) pa_nil)) pa_nil)))) (pss_one (ps_raiseE rfl (takes_of rfl rfl rfl rfl) e_NoRow rfl)) pss_nil)
      (pss_one (ps_ret (pe_callTy (j_tuple K) (by rfl) b_tuple (by decide +kernel) (pa_cons (pv 1) pa_nil)))))), ?_⟩)) m_f F.kp (F.binds (ps := ["row"]) fun _ _ _ _ _ _ us hl => match us, hl with | [_], _ => rfl)
  refine run_def (N := n_job_of) h fun x hx => ?_

  have hl : x.length ≤ 46000 := hx
  show DX _ _ [.va (.str (SX.S x)), .no, .no] (.rt (jobR x))
  obtain ⟨hw1, hw2⟩ := spl_short (s := 32) (by decide) x
  have er : ((words x).filter (fun _ => true)).map (fun w => numD (numO w)) = ((words x).map numO).map numD := by
    rw [List.filter_eq_self.mpr (fun _ _ => rfl), List.map_map]
    rfl
  have hwl : (words x).length ≤ 46002 := by unfold words; omega
  refine x_seq (x_set (i := 1) (d := .list (((words x).map numO).map numD)) (Ep.new (En.to (n_lc (words x) (fun w => .str (SX.S w)) (fun _ => true) (fun w => numD (numO w)) (i_list (Ep.new (n_split (by walk_at "Eb") (e_lit (by decide +kernel)) (by decide) (by omega)) (immL_map fun _ _ => rfl))) (by omega) fun w hw => ⟨_, _, by simp, g_name, t_yes, fun _ => ⟨k_number_of (by walk_at "Ea") (by have := hw2 w hw; omega), by cases numO w <;> rfl⟩⟩) er) (immL_map fun o _ => by cases o <;> rfl))) ?_
  obtain ⟨h1, h2⟩ := jobN_sound ((words x).map numO)
  have e2 : jobN ((words x).map numO) = jobO x := rfl
  rw [e2] at h1 h2
  unfold jobR
  cases ej : jobO x with
  | none =>
    rw [ej] at h1
    exact x_seqR (x_if (b := true) (Et.to (t_not (t_truB (k_sound (a_cons (e_tuple (by walk_at "Eb")) a_nil)))) (by rw [h1]; rfl)) (fun _ => x_raise) (fun h => nomatch h))
  | some j =>
    rw [ej] at h1
    refine x_seq (x_if (b := false) (Et.to (t_not (t_truB (k_sound (a_cons (e_tuple (by walk_at "Eb")) a_nil)))) (by rw [h1]; rfl)) (fun h => nomatch h) (fun _ => x_next)) ?_
    exact x_ret' (e_tuple (by walk_at "Eb")) (h2 j ej)
/-! ### read -/
abbrev s_read : Stmt := topS 17
abbrev n_read : List Str := ["text", "row"]
theorem sc_read : FnScope n_read ["text"] (defScope s_read) := ⟨rfl, rfl, rfl, by decide +kernel, rfl, by decide +kernel, by decide +kernel⟩
def readR [EK] (l : List Nat) : Ro := match readL l with
  | .many => .ex EK.TooMany
  | .row => .ex EK.NoRow
  | .jobs js => .nw (jobsL js)
abbrev R_read [EK] := Rf (fun l : List Nat => [.str (SX.S l)]) (fun l => l.length ≤ 45000) (fun l => readR l)
theorem rows_short (l : List Nat) : (rows l).length ≤ l.length + 2 ∧ ∀ r ∈ rows l, r.length ≤ l.length := by
  obtain ⟨h1, h2⟩ := spl_short (s := 10) (by decide) l
  refine ⟨?_, fun r hr => h2 r (List.dropLast_subset _ hr)⟩
  unfold rows lines
  rw [List.length_dropLast]
  omega
theorem ok_read {f : Addr} {fd : FuncData} (F : Fun K "read" "read" s_read f fd) (m_f : mg "read" = some (.ref f)) {t_LIMIT : Tok} (m_LIMIT : mg "LIMIT" = some (.int 60 t_LIMIT)) (e_TooMany : ExF K mg "TooMany" EK.TooMany) (e_NoRow : ExF K mg "NoRow" EK.NoRow) (c_job_of : CalX P w K mg base 3 "job_of" ["row"] R_job_of) : CalX P w K mg base 4 "read" ["text"] R_read := by
  letI : KK := ⟨K⟩
  refine calX_of (F.okX sc_read (len_of fun x => by first | rfl | (cases x <;> rfl)) (fun cdv A outer s H vs Q E hr h => ⟨_,
      (pss_cons (ps_if (pt_cmpR op_gt (pe_m1 PySem.F.slot_str_count PySem.F.type_str_count mt_count (pv 0) pe_str) (pe_glob (v := .int 60) rfl m_LIMIT ⟨_, rfl⟩) (nomark _)) (pss_one (ps_raiseE rfl (takes_of rfl rfl rfl rfl) e_TooMany rfl)) pss_nil)
      (pss_cons (ps_if (PW.pt (pw_and (j_tru K (pv 0)) (pw_and1 (pt_not (j_tru K (pe_m1 PySem.F.slot_str_endswith PySem.F.type_str_endswith mt_endswith (pv 0) pe_str)))))) (pss_one (ps_raiseE rfl (takes_of rfl rfl rfl rfl) e_NoRow rfl)) pss_nil)
      (pss_one (ps_ret (pe_lcX (E := E) (own := [("row", 1)]) rfl rfl (takes_of rfl rfl rfl rfl) rfl sc_read.nd (j_iList K (j_sl K (pe_split (pv 0) pe_str) po_none (po_some (pe_un un_neg pe_int)))) (blkOk_by (own := [("row", 1)]) (N := n_read) (sc := (defScope s_read)) (by decide +kernel)) (fun _ _ _ _ _ => (pg_name (i := 1) sc_read.nd rfl (Or.inl rfl))) (fun _ _ _ _ _ => pts_nil) (fun _ _ _ _ _ _ hx => (c_job_of.pe (E := E) (hr.mono (by decide)) rfl hx (pa_cons (pv 1) pa_nil)))))))), ?_⟩)) m_f F.kp (F.binds (ps := ["text"]) fun _ _ _ _ _ _ us hl => match us, hl with | [_], _ => rfl)
  refine run_def (N := n_read) h fun x hx => ?_

  have hl : x.length ≤ 45000 := hx
  obtain ⟨hr1, hr2⟩ := rows_short x
  have hls : (SX.S x).length ≤ 100000 := by rw [SX.S_len]; omega
  show DX _ _ [.va (.str (SX.S x)), .no] (.rt (readR x))
  have ec : Eb (tM1 (fun x xs H Q => ∃ a b, x = .str a ∧ xs = [.str b] ∧ Q (.int (Txt.count a b)) H) (tVar 0) (tC (.str (Str.ofString "\n")))) [.va (.str (SX.S x)), .no] (.int (lf x)) := e_count (by walk_at "Eb") (e_lit (by decide +kernel))
  have ee : Eb (tM1 (fun x xs H Q => ∃ a b, x = .str a ∧ xs = [.str b] ∧ Q (.bl (Txt.endswith a b)) H) (tVar 0) (tC (.str (Str.ofString "\n")))) [.va (.str (SX.S x)), .no] (.bool (decide (x.getLast? = some 10))) := e_ends (by walk_at "Eb") (e_lit (by decide +kernel))
  unfold readR readL
  by_cases q1 : 60 < lf x
  · rw [if_pos q1]
    exact x_seqR (x_if (b := true) (Et.to (t_test (e_ib (g := fun i j => decide (j < i)) ec (by walk_at "Eb"))) (by exact decide_eq_true q1)) (fun _ => x_raise) (fun h => nomatch h))
  rw [if_neg q1]
  refine x_seq (x_if (b := false) (Et.to (t_test (e_ib (g := fun i j => decide (j < i)) ec (by walk_at "Eb"))) (by exact decide_eq_false q1)) (fun h => nomatch h) (fun _ => x_next)) ?_
  by_cases q2 : x ≠ [] ∧ x.getLast? ≠ some 10
  · rw [if_pos q2]
    exact x_seqR (x_if (b := true) (Et.to (t_and (t_truS (by walk_at "Eb") hls) (fun _ => t_not (t_truB ee))) (by
      rw [SX.S_len, decide_eq_false q2.2]
      have := List.length_pos_iff.mpr q2.1
      have e : ((x.length : Int) != 0) = true := bne_iff_ne.mpr (by omega)
      rw [e]
      rfl)) (fun _ => x_raise) (fun h => nomatch h))
  rw [if_neg q2]
  refine x_seq (x_if (b := false) (Et.to (t_and (t_truS (by walk_at "Eb") hls) (fun _ => t_not (t_truB ee))) (by
    rw [SX.S_len]
    by_cases q3 : x = []
    · subst q3
      rfl
    · have q4 : x.getLast? = some 10 := Classical.byContradiction fun z => q2 ⟨q3, z⟩
      rw [decide_eq_true q4, Bool.not_true, Bool.and_false])) (fun h => nomatch h) (fun _ => x_next)) ?_
  have erows : cutD ((TL.spl [10] 0 [] x).map fun p => PyData.str (SX.S p)) none (some (-1)) = (rows x).map fun p => .str (SX.S p) := by
    rw [cutD_init, ← List.map_dropLast]
    rfl
  by_cases q5 : (rows x).all (fun r => (jobO r).isSome) = true
  · rw [if_pos q5]
    have er : ((rows x).filter (fun _ => true)).map (fun r => optJ (jobO r)) = jobsL ((rows x).filterMap jobO) := by
      rw [List.filter_eq_self.mpr (fun _ _ => rfl)]
      exact all_map q5
    exact x_retN (En.to (n_lc (rows x) (fun r => .str (SX.S r)) (fun _ => true) (fun r => optJ (jobO r)) (i_list (Ep.new (En.to (n_slL (n_split (by walk_at "Eb") (e_lit (by decide +kernel)) (by decide) (by omega)).b o_no (o_some (by walk_at "Eb"))) erows) (immL_map fun _ _ => rfl))) (by omega) fun r hr => ⟨_, _, by simp, g_name, t_yes, fun _ => by
      have z := List.all_eq_true.mp q5 r hr
      have hrl := hr2 r hr
      cases e : jobO r with
      | none =>
        rw [e] at z
        cases z
      | some j => exact ⟨k_job_of (by walk_at "Ea") (by omega) e, rfl⟩⟩) er)
  · rw [if_neg q5]
    obtain ⟨k, r, hk, hn, hy⟩ := first_none (f := jobO) (l := rows x) (by simpa using q5)
    have hkl : k < (rows x).length := (List.getElem?_eq_some_iff.mp hk).1
    refine z_ret (z_lc (rows x) (fun r => .str (SX.S r)) (fun r => optJ (jobO r)) k hkl (i_list (Ep.new (En.to (n_slL (n_split (by walk_at "Eb") (e_lit (by decide +kernel)) (by decide) (by omega)).b o_no (o_some (by walk_at "Eb"))) erows) (immL_map fun _ _ => rfl))) (by omega) (fun i r2 hi h2 => ?_) fun r2 h2 => ?_)
    · obtain ⟨j, e⟩ := hy i r2 hi h2
      have hrl := hr2 r2 (List.mem_of_getElem? h2)
      exact ⟨_, _, by simp, g_name, t_yes, by rw [e]; exact k_job_of (by walk_at "Ea") (by omega) e⟩
    · have e : r2 = r := Option.some.inj (h2.symm.trans hk)
      subst e
      have hrl := hr2 r2 (List.mem_of_getElem? h2)
      exact ⟨_, _, by simp, g_name, t_yes, z_job_of (by walk_at "Ea") (by omega) hn⟩
/-! ### _law_read -/
abbrev s_L_read : Stmt := topS 31
abbrev n_L_read : List Str := ["_law_text", "e"]
theorem sc_L_read : FnScope n_L_read ["_law_text"] (defScope s_L_read) := ⟨rfl, rfl, rfl, by decide +kernel, rfl, by decide +kernel, by decide +kernel⟩
abbrev R_L_read := Rf (fun l : List Nat => [.str (SX.S l)]) (fun l => l.length ≤ 45000) (fun l => .va (readD l))
theorem k_L_read [KK] {E : XK} {S : DSt} {ta : TA} {l : List Nat} (h : Ea ta S [.str (SX.S l)]) (hl : l.length ≤ 45000) : Eb (tCall (SpR R_L_read) [] E ta) S (readD l) := e_callR l h rfl hl rfl
theorem ok_L_read {f : Addr} {fd : FuncData} (F : Fun K "_law_read" "_law_read" s_L_read f fd) (m_f : mg "_law_read" = some (.ref f)) (b_isinstance : mg "isinstance" = none) (b_ValueError : mg "ValueError" = none) (e_NoRow : ExF K mg "NoRow" EK.NoRow) (e_OutOfPlace : ExF K mg "OutOfPlace" EK.OutOfPlace) (e_BadJob : ExF K mg "BadJob" EK.BadJob) (e_TooMany : ExF K mg "TooMany" EK.TooMany) (e_RunError : ExF K mg "RunError" EK.RunError) (xm_TooMany_NoRow : PySem.W.exmOne K (.ref EK.TooMany) (.ref EK.NoRow) = some false) (xm_NoRow_NoRow : PySem.W.exmOne K (.ref EK.NoRow) (.ref EK.NoRow) = some true) (xm_TooMany_TooMany : PySem.W.exmOne K (.ref EK.TooMany) (.ref EK.TooMany) = some true) (xm_NoRow_TooMany : PySem.W.exmOne K (.ref EK.NoRow) (.ref EK.TooMany) = some false) (ec_TooMany : ExcC K EK.TooMany) (ec_NoRow : ExcC K EK.NoRow) (kt_TooMany_OutOfPlace : PySem.W.kitOne K (.ref EK.TooMany) (.ref EK.OutOfPlace) = some false) (kt_NoRow_OutOfPlace : PySem.W.kitOne K (.ref EK.NoRow) (.ref EK.OutOfPlace) = some false) (kt_TooMany_BadJob : PySem.W.kitOne K (.ref EK.TooMany) (.ref EK.BadJob) = some false) (kt_NoRow_BadJob : PySem.W.kitOne K (.ref EK.NoRow) (.ref EK.BadJob) = some false) (kt_TooMany_ValueError : PySem.W.kitOne K (.ref EK.TooMany) (.type "ValueError") = some true) (kt_NoRow_ValueError : PySem.W.kitOne K (.ref EK.NoRow) (.type "ValueError") = some true) (kt_TooMany_RunError : PySem.W.kitOne K (.ref EK.TooMany) (.ref EK.RunError) = some true) (kt_NoRow_RunError : PySem.W.kitOne K (.ref EK.NoRow) (.ref EK.RunError) = some true) (c_read : CalX P w K mg base 4 "read" ["text"] R_read) : Cal P w K mg base 5 "_law_read" ["_law_text"] R_L_read := by
  letI : KK := ⟨K⟩
  refine cal_of (F.ok sc_L_read (len_of fun _ => rfl) (fun cdv A outer s H vs Q E hr h => ⟨_,
      (pss_one (ps_tryC rfl rfl sc_L_read.nd takes0 (fun W pn xe tk _ => (pss_one (ps_ret (c_read.peS (hr.mono (by decide)) rfl tk (pa_cons (pv 0) pa_nil))))) (ClsOk.cons (c := .ref EK.TooMany) (n := some "e") (i := some 1) ⟨rfl, by decide, Or.inl e_TooMany.g⟩ ⟨rfl, rfl⟩ (fun a oe cls d pn hz hf => (pss_one (ps_ret (pe_ifExp (j_tru K (pe_callB (j_isE K hz hf) (by rfl) b_isinstance (by decide +kernel) (pa_cons (pv 1) (pa_cons (pe_glob (v := .ref EK.RunError) rfl e_RunError.g rfl) pa_nil)))) pe_str pe_str)))) (ClsOk.cons (c := .ref EK.NoRow) (n := some "e") (i := some 1) ⟨rfl, by decide, Or.inl e_NoRow.g⟩ ⟨rfl, rfl⟩ (fun a oe cls d pn hz hf => (pss_one (ps_ret (pe_ifExp (PW.pt (pw_and (j_tru K (pe_callB (j_isE K hz hf) (by rfl) b_isinstance (by decide +kernel) (pa_cons (pv 1) (pa_cons (pe_bltn (v := .ty "ValueError") (by rfl) b_ValueError (by decide +kernel) rfl) pa_nil)))) (pw_and1 (pt_not (j_tru K (pe_callB (j_isET K hz hf) (by rfl) b_isinstance (by decide +kernel) (pa_cons (pv 1) (pa_cons (pe_tup (pa_cons (pe_glob (v := .ref EK.BadJob) rfl e_BadJob.g rfl) (pa_cons (pe_glob (v := .ref EK.OutOfPlace) rfl e_OutOfPlace.g rfl) pa_nil))) pa_nil)))))))) pe_str pe_str)))) ClsOk.nil)))), ?_⟩)) m_f F.kp (F.binds (ps := ["_law_text"]) fun _ _ _ _ _ _ us hl => match us, hl with | [_], _ => rfl)
  refine run_def (N := n_L_read) h fun x hx => ?_

  have hl : x.length ≤ 45000 := hx
  show DX _ _ [.va (.str (SX.S x)), .no] (.rt (.va (readD x)))
  have ea : Ea (tCons (tVar 0) tNil) [.va (.str (SX.S x)), .no] [.str (SX.S x)] := by walk_at "Ea"
  have hR : R_read [.str (SX.S x)] (readR x) := ⟨x, hl, rfl, rfl⟩
  unfold readD
  unfold readR at hR
  cases e : readL x with
  | many =>
    rw [e] at hR
    exact t_tryC (tz_ret ea hR) (.inl ⟨xm_TooMany_TooMany, rfl, _, rfl, fun a => xa_retIf (b := true) (eta_isO kt_TooMany_RunError ec_TooMany) (fun _ => by walk_at "Eb") (fun h => nomatch h)⟩)
  | row =>
    rw [e] at hR
    refine t_tryC (tz_ret ea hR) (.inr ⟨xm_NoRow_TooMany, .inl ⟨xm_NoRow_NoRow, rfl, _, rfl, fun a => xa_retIf (b := true) (Eta.to (eta_and (b := true) (c := true) (eta_isT kt_NoRow_ValueError ec_NoRow) fun _ => eta_not (b := false) (eta_isTup (cs := [.ref EK.BadJob, .ref EK.OutOfPlace]) (us := [.ref EK.BadJob, .ref EK.OutOfPlace]) (fun σ H Q q => q) (by simp) (.cons (.own _) (.cons (.own _) .nil)) (kitAny_cons kt_NoRow_BadJob (fun _ => kitAny_cons kt_NoRow_OutOfPlace (fun _ => kitAny_nil) (fun h => nomatch h)) (fun h => nomatch h)) ec_NoRow)) rfl) (fun _ => by walk_at "Eb") (fun h => nomatch h)⟩⟩)
  | jobs js =>
    rw [e] at hR
    exact t_tryCN (tn_retB ea hR)
/-! ### _law_number -/
abbrev s_L_number : Stmt := topS 28
abbrev n_L_number : List Str := ["_law_word", "_law_number_here", "_law_sign"]
theorem sc_L_number : FnScope n_L_number ["_law_word"] (defScope s_L_number) := ⟨rfl, rfl, rfl, by decide +kernel, rfl, by decide +kernel, by decide +kernel⟩
theorem fold_go : ∀ (w : List Nat) (b : Nat), w.all digB = true → goS (fun (b : Int) (c : Nat) => if digB c = true then Sum.inl (10 * b + ((c : Int) - 48)) else Sum.inr (Ro.va (.int (-1)))) (b : Int) w = .inl ((w.foldl (fun acc c => acc * 10 + (c - 48)) b : Nat) : Int)
  | [], b, _ => rfl
  | c :: r, b, h => by
    have h : (digB c && r.all digB) = true := h
    rw [Bool.and_eq_true] at h
    unfold goS
    rw [if_pos h.1]
    dsimp only
    have hc : 48 ≤ c := by
      have := h.1
      unfold digB at this
      rw [Bool.and_eq_true, decide_eq_true_eq] at this
      exact this.1
    rw [show 10 * (b : Int) + ((c : Int) - 48) = ((b * 10 + (c - 48) : Nat) : Int) by omega, fold_go r _ h.2]
    rfl
theorem fold_bad : ∀ (w : List Nat) (b : Int), w.all digB = false → goS (fun (b : Int) (c : Nat) => if digB c = true then Sum.inl (10 * b + ((c : Int) - 48)) else Sum.inr (Ro.va (.int (-1)))) b w = .inr (.va (.int (-1)))
  | [], b, h => by cases h
  | c :: r, b, h => by
    have h : (digB c && r.all digB) = false := h
    unfold goS
    by_cases q : digB c = true
    · rw [if_pos q]
      rw [q] at h
      exact fold_bad r _ h
    · rw [if_neg q]
abbrev R_L_number := Rf (fun w : List Nat => [.str (SX.S w)]) (fun w => w.length ≤ 50000) (fun w => .va (.int (numI (numO w))))
theorem k_L_number [KK] {E : XK} {S : DSt} {ta : TA} {w : List Nat} (h : Ea ta S [.str (SX.S w)]) (hl : w.length ≤ 50000) : Eb (tCall (SpR R_L_number) [] E ta) S (.int (numI (numO w))) := e_callR w h rfl hl rfl
local macro_rules | `(tactic| walk_at "call") => `(tactic| (apply k_L_number; (walk_at "Ea"); (walk_at "side")))
theorem ok_L_number {f : Addr} {fd : FuncData} (F : Fun K "_law_number" "_law_number" s_L_number f fd) (m_f : mg "_law_number" = some (.ref f)) (b_len : mg "len" = none) : Cal P w K mg base 1 "_law_number" ["_law_word"] R_L_number := by
  letI : KK := ⟨K⟩
  refine cal_of (F.ok sc_L_number (len_of fun _ => rfl) (fun cdv A outer s H vs Q E hr h => ⟨_,
      (pss_cons (ps_set (i := 1) sc_L_number.nd rfl (Or.inl rfl) pe_int)
      (pss_cons (ps_if (PW.pt (pw_or (pt_cmpR op_eq (pv 0) pe_str (nomark _)) (pw_or (pt_cmpR op_gt (pe_callB (j_len K) (by rfl) b_len (by decide +kernel) (pa_cons (pv 0) pa_nil)) pe_int (nomark _)) (pw_or1 (PW.pt (pw_and (pt_cmpR op_eq (j_ix K (pv 0) pe_int) pe_str (nomark _)) (pw_and1 (pt_cmpR op_ne (pv 0) pe_str (nomark _))))))))) (pss_one (ps_ret (pe_un un_neg pe_int))) pss_nil)
      (pss_cons (ps_for PassesOwn.never rfl (pi_str (pv 0)) (pg_name (i := 2) sc_L_number.nd rfl (Or.inl rfl))
        (pss_cons (ps_if (pt_cmpR op_lt (pe_m1 PySem.F.slot_str_find PySem.F.type_str_find mt_find pe_str (pv 2)) pe_int (nomark _)) (pss_one (ps_ret (pe_un un_neg pe_int))) pss_nil)
        (pss_one (ps_set (i := 1) sc_L_number.nd rfl (Or.inl rfl) (pe_op op_plus (pe_op op_times pe_int (pv 1)) (pe_m1 PySem.F.slot_str_find PySem.F.type_str_find mt_find pe_str (pv 2)))))))
      (pss_one (ps_ret (pv 1)))))), ?_⟩)) m_f F.kp (F.binds (ps := ["_law_word"]) fun _ _ _ _ _ _ us hl => match us, hl with | [_], _ => rfl)
  refine run_def (N := n_L_number) h fun x hx => ?_

  have hl : x.length ≤ 50000 := hx
  have hls : (SX.S x).length ≤ 100000 := by rw [SX.S_len]; omega
  show DX _ _ [.va (.str (SX.S x)), .no, .no] (.rt (.va (.int (numI (numO x)))))
  refine x_seq (x_set (i := 1) (d := .int 0) (by walk_at "Ep")) ?_
  have hsE : ∀ a b : List Nat, decide (SX.S a = SX.S b) = decide (a = b) := fun a b => by
    rw [decide_eq_decide]
    exact ⟨fun z => SX.S_inj z, fun z => by rw [z]⟩
  have l0 : Str.ofString "" = SX.S [] := by decide +kernel
  have l1 : Str.ofString "0" = SX.S [48] := by decide +kernel
  have e1 : Eb (tOp rEq (tVar 0) (tC (.str (Str.ofString "")))) [.va (.str (SX.S x)), .va (.int 0), .no] (.bool (decide (x = []))) := (e_eqS (e_var rfl).b (e_lit l0)).to (by rw [hsE])
  have e2 : Eb (tOp rNe (tVar 0) (tC (.str (Str.ofString "0")))) [.va (.str (SX.S x)), .va (.int 0), .no] (.bool (!decide (x = [48]))) := (e_neS (e_var rfl).b (e_lit l1)).to (by rw [hsE])
  have loop : ∀ v : Int, ¬ (x = []) → (goS (fun (b : Int) (c : Nat) => if digB c = true then Sum.inl (10 * b + ((c : Int) - 48)) else Sum.inr (Ro.va (.int (-1)))) 0 x = .inl v ∨ (goS (fun (b : Int) (c : Nat) => if digB c = true then Sum.inl (10 * b + ((c : Int) - 48)) else Sum.inr (Ro.va (.int (-1)))) 0 x = .inr (.va (.int (-1))) ∧ v = -1)) → True := fun _ _ _ => trivial
  unfold numO
  by_cases q1 : x = [] ∨ 60 < x.length
  · rw [if_pos q1]
    refine x_seqR (x_if (b := true) (Et.to (t_or (a := decide (x = [])) (b := true) (t_test e1) (fun z => Et.to (t_or (a := true) (b := true) (Et.to (by walk_at "Et") ?_) (fun h => nomatch h)) (by rfl))) (by rw [Bool.or_true])) (fun _ => x_ret' (by walk_at "Eb") (by rfl)) (fun h => nomatch h))
    rw [SX.S_len]
    refine decide_eq_true ?_
    have : ¬ x = [] := of_decide_eq_false z
    rcases q1 with e | e
    · exact absurd e this
    · omega
  rw [if_neg q1]
  have q1a : x ≠ [] := fun e => q1 (.inl e)
  have q1b : ¬ 60 < x.length := fun e => q1 (.inr e)
  obtain ⟨c, r, ex⟩ : ∃ c r, x = c :: r := by
    cases x with
    | nil => exact absurd rfl q1a
    | cons c r => exact ⟨c, r, rfl⟩
  have a0 : atI (SX.S x).cps.toList 0 = some c := by
    show atI x ((0 : Nat) : Int) = some c
    rw [ex]
    exact atI_nat rfl
  have e3 : Eb (tOp rEq (tOp (rIx K) (tVar 0) (tC (.int 0))) (tC (.str (Str.ofString "0")))) [.va (.str (SX.S x)), .va (.int 0), .no] (.bool (decide (c = 48))) := (e_eqS (x := SX.S [c]) (e_ixS (e_var rfl).b e_int hls a0) (e_lit l1)).to (by rw [hsE]; congr 1; rw [decide_eq_decide]; simp)
  have et : Et (tAnd (tTest (tOp rEq (tOp (rIx K) (tVar 0) (tC (.int 0))) (tC (.str (Str.ofString "0"))))) (tTest (tOp rNe (tVar 0) (tC (.str (Str.ofString "0")))))) [.va (.str (SX.S x)), .va (.int 0), .no] (decide (c = 48) && !decide (x = [48])) := t_and (t_test e3) fun _ => t_test e2
  have q2e : (x.head? = some 48 ∧ 1 < x.length) ↔ (decide (c = 48) && !decide (x = [48])) = true := by
    rw [Bool.and_eq_true, decide_eq_true_eq, Bool.not_eq_true', decide_eq_false_iff_not, ex]
    constructor
    · rintro ⟨z1, z2⟩
      refine ⟨Option.some.inj z1, fun z => ?_⟩
      rw [z] at z2
      exact absurd z2 (by decide)
    · rintro ⟨z1, z2⟩
      refine ⟨by rw [z1]; rfl, ?_⟩
      cases r with
      | nil => exact absurd (by rw [z1]) z2
      | cons d r => simp
  by_cases q2 : x.head? = some 48 ∧ 1 < x.length
  · have eN : (if x.all digB = false then none else if x.head? = some 48 ∧ 1 < x.length then none else some (NumText.digitsVal x)) = (none : Option Nat) := by
      by_cases z : x.all digB = false
      · rw [if_pos z]
      · rw [if_neg z, if_pos q2]
    rw [eN]
    exact x_seqR (x_if (b := true) (Et.to (t_or (a := false) (b := true) (Et.to (t_test e1) (by exact decide_eq_false q1a)) (fun _ => Et.to (t_or (a := false) (b := true) (Et.to (by walk_at "Et") (by rw [SX.S_len]; exact decide_eq_false (by omega))) (fun _ => Et.to et (by rw [q2e.mp q2]))) (by rfl))) (by rfl)) (fun _ => x_ret' (by walk_at "Eb") (by rfl)) (fun h => nomatch h))
  have q2f : (decide (c = 48) && !decide (x = [48])) = false := by
    cases z : (decide (c = 48) && !decide (x = [48])) with
    | false => rfl
    | true => exact absurd (q2e.mpr z) q2
  refine x_seq (x_if (b := false) (Et.to (t_or (a := false) (b := false) (Et.to (t_test e1) (by exact decide_eq_false q1a)) (fun _ => Et.to (t_or (a := false) (b := false) (Et.to (by walk_at "Et") (by rw [SX.S_len]; exact decide_eq_false (by omega))) (fun _ => Et.to et (by rw [q2f]))) (by rfl))) (by rfl)) (fun h => nomatch h) (fun _ => x_next)) ?_
  rw [if_neg q2]
  refine x_forQ (xs := x) (f := fun c => .str (SX.S [c])) (b0 := 0) (fun (b : Int) (c : Nat) => if digB c = true then Sum.inl (10 * b + ((c : Int) - 48)) else Sum.inr (Ro.va (.int (-1)))) (fun b => [.va (.str (SX.S x)), .va (.int b), .no]) (fun _ => True) (i_strS (by walk_at "Eb")) (by walk_at "Le") trivial (fun b c _ _ => ?_) (fun b h _ => ?_) (fun v h => ?_)
  · have ef : Eb (tM1 (fun x xs H Q => ∃ a b, x = .str a ∧ xs = [.str b] ∧ Q (.int (Txt.find a b)) H) (tC (.str (Str.ofString "0123456789"))) (tVar 2)) [.va (.str (SX.S x)), .va (.int b), .va (.str (SX.S [c]))] (.int (if digB c = true then (c : Int) - 48 else -1)) := (e_find (e_lit (a := digs) (by decide +kernel)) (e_var rfl).b).to (by rw [find_dig])
    by_cases q : digB c = true
    · rw [if_pos q]
      rw [if_pos q] at ef
      have hc : 48 ≤ c := by
        have z := q
        unfold digB at z
        rw [Bool.and_eq_true, decide_eq_true_eq] at z
        exact z.1
      refine ⟨trivial, _, [.va (.str (SX.S x)), .va (.int b), .va (.str (SX.S [c]))], [.va (.str (SX.S x)), .va (.int (10 * b + ((c : Int) - 48))), .no], g_name, .inl ?_, Le.rfl'⟩
      refine x_seq (x_if (b := false) (Et.to (t_test (e_ib (g := fun i j => decide (i < j)) ef (by walk_at "Eb"))) (by exact decide_eq_false (by omega))) (fun h => nomatch h) fun _ => x_next) ?_
      exact x_post (x_set (i := 1) (d := .int (10 * b + ((c : Int) - 48))) (Ep.imm (e_add (e_mul e_int (e_var rfl).b (by walk_at "mul")) ef) rfl)) (by walk_at "Le")
    · rw [if_neg q]
      rw [if_neg q] at ef
      exact ⟨_, [.va (.str (SX.S x)), .va (.int b), .va (.str (SX.S [c]))], g_name, x_seqR (x_if (b := true) (Et.to (t_test (e_ib (g := fun i j => decide (i < j)) ef (by walk_at "Eb"))) (by rfl)) (fun _ => x_ret (by walk_at "Eb")) fun h => nomatch h)⟩
  · by_cases hd : x.all digB = false
    · rw [fold_bad x 0 hd] at h
      cases h
    · have hd' : x.all digB = true := by simpa using hd
      have hg := fold_go x 0 hd'
      rw [if_neg hd]
      have e : b = ((x.foldl (fun acc c => acc * 10 + (c - 48)) 0 : Nat) : Int) := Sum.inl.inj (h.symm.trans hg)
      rw [e]
      exact x_ret (by walk_at "Eb")
  · by_cases hd : x.all digB = false
    · rw [fold_bad x 0 hd] at h
      rw [if_pos hd]
      exact (Sum.inr.inj h).symm
    · have hd' : x.all digB = true := by simpa using hd
      have hg := fold_go x 0 hd'
      have z := h.symm.trans hg
      cases z
/-! ### _law_job_of -/
abbrev s_L_job_of : Stmt := topS 29
abbrev n_L_job_of : List Str := ["_law_row", "_law_words", "_law_come", "_law_length", "_law_due_here"]
theorem sc_L_job_of : FnScope n_L_job_of ["_law_row"] (defScope s_L_job_of) := ⟨rfl, rfl, rfl, by decide +kernel, rfl, by decide +kernel, by decide +kernel⟩
abbrev R_L_job_of := Rf (fun r : List Nat => [.str (SX.S r)]) (fun r => r.length ≤ 46000) (fun r => .va (optJ (jobO r)))
theorem k_L_job_of [KK] {E : XK} {S : DSt} {ta : TA} {r : List Nat} (h : Ea ta S [.str (SX.S r)]) (hl : r.length ≤ 46000) : Eb (tCall (SpR R_L_job_of) [] E ta) S (optJ (jobO r)) := e_callR r h rfl hl rfl
theorem jobN3 (a b c : Option Nat) : jobN [a, b, c] = if numI a < 0 ∨ numI b < 1 ∨ numI c ≤ numI a then none else some (numI a, numI b, numI c) := by
  cases a with
  | none => rw [if_pos (.inl (by decide))]; rfl
  | some a =>
    cases b with
    | none => rw [if_pos (.inr (.inl (by decide)))]; rfl
    | some b =>
      cases c with
      | none => rw [if_pos (.inr (.inr (by show (-1 : Int) ≤ (a : Int); omega)))]; rfl
      | some c =>
        show (if 1 ≤ b ∧ a < c then some ((a : Int), (b : Int), (c : Int)) else none) = if (a : Int) < 0 ∨ (b : Int) < 1 ∨ (c : Int) ≤ (a : Int) then none else some ((a : Int), (b : Int), (c : Int))
        by_cases h : 1 ≤ b ∧ a < c
        · rw [if_pos h, if_neg (by omega)]
        · rw [if_neg h, if_pos (by omega)]
theorem ok_L_job_of {f : Addr} {fd : FuncData} (F : Fun K "_law_job_of" "_law_job_of" s_L_job_of f fd) (m_f : mg "_law_job_of" = some (.ref f)) (b_len : mg "len" = none) (c_L_number : Cal P w K mg base 1 "_law_number" ["_law_word"] R_L_number) : Cal P w K mg base 2 "_law_job_of" ["_law_row"] R_L_job_of := by
  letI : KK := ⟨K⟩
  refine cal_of (F.ok sc_L_job_of (len_of fun _ => rfl) (fun cdv A outer s H vs Q E hr h => ⟨_,
      (pss_cons (ps_set (i := 1) sc_L_job_of.nd rfl (Or.inl rfl) (pe_split (pv 0) pe_str))
      (pss_cons (ps_if (pt_cmpR (j_ne K hr.units) (pe_callB (j_len K) (by rfl) b_len (by decide +kernel) (pa_cons (pv 1) pa_nil)) pe_int (nomark _)) (pss_one (ps_ret pe_non)) pss_nil)
      (pss_cons (ps_set (i := 2) sc_L_job_of.nd rfl (Or.inl rfl) (c_L_number.pe (hr.mono (by decide)) rfl (pa_cons (j_ix K (pv 1) pe_int) pa_nil)))
      (pss_cons (ps_set (i := 3) sc_L_job_of.nd rfl (Or.inl rfl) (c_L_number.pe (hr.mono (by decide)) rfl (pa_cons (j_ix K (pv 1) pe_int) pa_nil)))
      (pss_cons (ps_set (i := 4) sc_L_job_of.nd rfl (Or.inl rfl) (c_L_number.pe (hr.mono (by decide)) rfl (pa_cons (j_ix K (pv 1) pe_int) pa_nil)))
      (pss_cons (ps_if (PW.pt (pw_or (pt_cmpR op_lt (pv 2) pe_int (nomark _)) (pw_or (pt_cmpR op_lt (pv 3) pe_int (nomark _)) (pw_or1 (pt_cmpR op_le (pv 4) (pv 2) (nomark _)))))) (pss_one (ps_ret pe_non)) pss_nil)
      (pss_one (ps_ret (pe_tup (pa_cons (pv 2) (pa_cons (pv 3) (pa_cons (pv 4) pa_nil)))))))))))), ?_⟩)) m_f F.kp (F.binds (ps := ["_law_row"]) fun _ _ _ _ _ _ us hl => match us, hl with | [_], _ => rfl)
  refine run_def (N := n_L_job_of) h fun x hx => ?_

  have hl : x.length ≤ 46000 := hx
  show DX _ _ [.va (.str (SX.S x)), .no, .no, .no, .no] (.rt (.va (optJ (jobO x))))
  obtain ⟨hw1, hw2⟩ := spl_short (s := 32) (by decide) x
  have hw3 : ∀ p ∈ words x, p.length ≤ x.length := hw2
  refine x_seq (x_set (i := 1) (d := .list ((words x).map fun p => .str (SX.S p))) (Ep.new (n_split (by walk_at "Eb") (e_lit (by decide +kernel)) (by decide) (by omega)) (immL_map fun _ _ => rfl))) ?_
  by_cases h3 : (words x).length = 3
  case neg =>
    have e : jobO x = none := jobN_len (by rw [List.length_map]; exact h3)
    rw [e]
    refine x_seqR (x_if (b := true) (Et.to (by walk_at "Et") (by rw [List.length_map, decide_eq_false (by omega)]; rfl)) (fun _ => x_ret (by walk_at "Eb")) (fun h => nomatch h))
  obtain ⟨a, b, c, ew⟩ : ∃ a b c, words x = [a, b, c] := by
    generalize words x = ws at h3
    match ws, h3 with
    | [a, b, c], _ => exact ⟨a, b, c, rfl⟩
  have ha : a.length ≤ 50000 := by have := hw3 a (by rw [ew]; simp); omega
  have hb : b.length ≤ 50000 := by have := hw3 b (by rw [ew]; simp); omega
  have hc : c.length ≤ 50000 := by have := hw3 c (by rw [ew]; simp); omega
  have ej : jobO x = jobN [numO a, numO b, numO c] := by
    unfold jobO
    rw [ew]
    rfl
  rw [ej, jobN3, ew]
  generalize hia : numO a = oa at *
  generalize hib : numO b = ob at *
  generalize hic : numO c = oc at *
  show DX _ _ [.va (.str (SX.S x)), .va (.list [.str (SX.S a), .str (SX.S b), .str (SX.S c)]), .no, .no, .no] _
  refine x_seq (x_if (b := false) (Et.to (by walk_at "Et") (by rfl)) (fun h => nomatch h) (fun _ => x_next)) ?_
  refine x_seq (x_set (i := 2) (d := .int (numI oa)) (Ep.imm ((k_L_number (w := a) (by walk_at "Ea") ha).to (by rw [hia])) rfl)) ?_
  refine x_seq (x_set (i := 3) (d := .int (numI ob)) (Ep.imm ((k_L_number (w := b) (by walk_at "Ea") hb).to (by rw [hib])) rfl)) ?_
  refine x_seq (x_set (i := 4) (d := .int (numI oc)) (Ep.imm ((k_L_number (w := c) (by walk_at "Ea") hc).to (by rw [hic])) rfl)) ?_
  generalize numI oa = ia
  generalize numI ob = ib
  generalize numI oc = ic
  by_cases q : ia < 0 ∨ ib < 1 ∨ ic ≤ ia
  · rw [if_pos q]
    refine x_seqR (x_if (b := true) (Et.to (by walk_at "Et") ?_) (fun _ => x_ret (by walk_at "Eb")) (fun h => nomatch h))
    rw [Bool.or_eq_true, Bool.or_eq_true, decide_eq_true_eq, decide_eq_true_eq, decide_eq_true_eq]
    exact q
  · rw [if_neg q]
    refine x_seq (x_if (b := false) (Et.to (by walk_at "Et") (by
      rw [decide_eq_false (fun z => q (.inl z)), decide_eq_false (fun z => q (.inr (.inl z))), decide_eq_false (fun z => q (.inr (.inr z)))]
      rfl)) (fun h => nomatch h) (fun _ => x_next)) ?_
    exact x_ret (by walk_at "Eb")
/-! ### _law_due -/
abbrev s_L_due : Stmt := topS 30
abbrev n_L_due : List Str := ["_law_text", "_law_jobs", "_law_row"]
theorem sc_L_due : FnScope n_L_due ["_law_text"] (defScope s_L_due) := ⟨rfl, rfl, rfl, by decide +kernel, rfl, by decide +kernel, by decide +kernel⟩
abbrev R_L_due := Rf (fun l : List Nat => [.str (SX.S l)]) (fun l => l.length ≤ 45000) (fun l => .va (readD l))
theorem k_L_due [KK] {E : XK} {S : DSt} {ta : TA} {l : List Nat} (h : Ea ta S [.str (SX.S l)]) (hl : l.length ≤ 45000) : Eb (tCall (SpR R_L_due) [] E ta) S (readD l) := e_callR l h rfl hl rfl
theorem any_none : ∀ os : List (Option Job), ((os.map optJ).any fun z => PyData.eqv z .none) = !(os.all (·.isSome))
  | [] => rfl
  | none :: os => rfl
  | some j :: os => by
    have ih := any_none os
    show (PyData.eqv (jobD j) .none || ((os.map optJ).any fun z => PyData.eqv z .none)) = _
    rw [ih]
    rfl
theorem shaped_opt (os : List (Option Job)) : SeqAt.shaped (.list (os.map optJ)) = true := shaped_map os (fun o _ => by cases o <;> simp [optJ, PyData.canLay0, PyData.canLayAll0]) fun o _ => by cases o <;> simp [optJ, PyData.depth, PyData.depthAll]
theorem ok_L_due {f : Addr} {fd : FuncData} (F : Fun K "_law_due" "_law_due" s_L_due f fd) (m_f : mg "_law_due" = some (.ref f)) (c_L_job_of : Cal P w K mg base 2 "_law_job_of" ["_law_row"] R_L_job_of) : Cal P w K mg base 3 "_law_due" ["_law_text"] R_L_due := by
  letI : KK := ⟨K⟩
  refine cal_of (F.ok sc_L_due (len_of fun _ => rfl) (fun cdv A outer s H vs Q E hr h => ⟨_,
      (pss_cons (ps_if (pt_cmpR op_gt (pe_m1 PySem.F.slot_str_count PySem.F.type_str_count mt_count (pv 0) pe_str) pe_int (nomark _)) (pss_one (ps_ret pe_str)) pss_nil)
      (pss_cons (ps_if (PW.pt (pw_and (pt_cmpR op_ne (pv 0) pe_str (nomark _)) (pw_and1 (pt_cmpR op_ne (j_ix K (pv 0) (pe_un un_neg pe_int)) pe_str (nomark _))))) (pss_one (ps_ret pe_str)) pss_nil)
      (pss_cons (ps_setLc (i := 1) (own := [("_law_row", 2)]) rfl sc_L_due.nd rfl rfl (sw_true rfl rfl rfl (by decide +kernel)) (j_iList K (j_sl K (pe_split (pv 0) pe_str) po_none (po_some (pe_un un_neg pe_int)))) (blkOk_by (own := [("_law_row", 2)]) (N := n_L_due) (sc := (defScope s_L_due)) (by decide +kernel)) (fun _ _ _ _ _ => (pg_name (i := 2) sc_L_due.nd rfl (Or.inl rfl))) (fun _ _ _ _ _ => pts_nil) (fun _ _ _ _ _ => (c_L_job_of.pe (hr.mono (by decide)) rfl (pa_cons (pv 2) pa_nil))))
      (pss_cons (ps_if (pt_cmpR (j_in K (hu65 hr)) pe_non (pv 1) rfl) (pss_one (ps_ret pe_str)) pss_nil)
      (pss_one (ps_ret (pv 1))))))), ?_⟩)) m_f F.kp (F.binds (ps := ["_law_text"]) fun _ _ _ _ _ _ us hl => match us, hl with | [_], _ => rfl)
  refine run_def (N := n_L_due) h fun x hx => ?_

  have hl : x.length ≤ 45000 := hx
  obtain ⟨hr1, hr2⟩ : (rows x).length ≤ x.length + 2 ∧ ∀ r ∈ rows x, r.length ≤ x.length := by
    obtain ⟨h1, h2⟩ := spl_short (s := 10) (by decide) x
    refine ⟨?_, fun r hr => h2 r (List.dropLast_subset _ hr)⟩
    unfold rows lines
    rw [List.length_dropLast]
    omega
  have hls : (SX.S x).length ≤ 100000 := by rw [SX.S_len]; omega
  show DX _ _ [.va (.str (SX.S x)), .no, .no] (.rt (.va (readD x)))
  have hsE : ∀ a b : List Nat, decide (SX.S a = SX.S b) = decide (a = b) := fun a b => by
    rw [decide_eq_decide]
    exact ⟨fun z => SX.S_inj z, fun z => by rw [z]⟩
  have l0 : Str.ofString "" = SX.S [] := by decide +kernel
  have l1 : Str.ofString "\n" = SX.S [10] := by decide +kernel
  have ec : Eb (tM1 (fun x xs H Q => ∃ a b, x = .str a ∧ xs = [.str b] ∧ Q (.int (Txt.count a b)) H) (tVar 0) (tC (.str (Str.ofString "\n")))) [.va (.str (SX.S x)), .no, .no] (.int (lf x)) := e_count (by walk_at "Eb") (e_lit l1)
  have e1 : Eb (tOp rNe (tVar 0) (tC (.str (Str.ofString "")))) [.va (.str (SX.S x)), .no, .no] (.bool (!decide (x = []))) := (e_neS (e_var rfl).b (e_lit l0)).to (by rw [hsE])
  have e2 : x ≠ [] → Eb (tOp rNe (tOp (rIx K) (tVar 0) (tUn (rU fun i => .int (-i)) (tC (.int 1)))) (tC (.str (Str.ofString "\n")))) [.va (.str (SX.S x)), .no, .no] (.bool (!decide (x.getLast? = some 10))) := fun hne => by
    obtain ⟨c, hc⟩ : ∃ c, x.getLast? = some c := by
      cases e : x.getLast? with
      | none => exact absurd (List.getLast?_eq_none_iff.mp e) hne
      | some c => exact ⟨c, rfl⟩
    have ha : atI (SX.S x).cps.toList (-1) = some c := by
      show atI x (-1) = some c
      have hp := List.length_pos_iff.mpr hne
      rw [List.getLast?_eq_getElem?] at hc
      show (ixN x.length (-1)).bind (fun j => x[j]?) = some c
      have e : ixN x.length (-1) = some (x.length - 1) := by
        unfold ixN
        rw [if_neg (by decide), if_pos (by omega)]
        congr 1
        omega
      rw [e]
      exact hc
    refine (e_neS (x := SX.S [c]) (e_ixS (e_var rfl).b (e_neg e_int) hls ha) (e_lit l1)).to ?_
    rw [hsE, hc]
    congr 2
    rw [decide_eq_decide]
    simp
  unfold readD readL
  by_cases q1 : 60 < lf x
  · rw [if_pos q1]
    exact x_seqR (x_if (b := true) (Et.to (t_test (e_ib (g := fun i j => decide (j < i)) ec (by walk_at "Eb"))) (by exact decide_eq_true q1)) (fun _ => x_ret (by walk_at "Eb")) (fun h => nomatch h))
  rw [if_neg q1]
  refine x_seq (x_if (b := false) (Et.to (t_test (e_ib (g := fun i j => decide (j < i)) ec (by walk_at "Eb"))) (by exact decide_eq_false q1)) (fun h => nomatch h) (fun _ => x_next)) ?_
  by_cases q2 : x ≠ [] ∧ x.getLast? ≠ some 10
  · rw [if_pos q2]
    exact x_seqR (x_if (b := true) (Et.to (t_and (t_test e1) (fun _ => t_test (e2 q2.1))) (by rw [decide_eq_false q2.1, decide_eq_false q2.2]; rfl)) (fun _ => x_ret (by walk_at "Eb")) (fun h => nomatch h))
  rw [if_neg q2]
  refine x_seq (x_if (b := false) (Et.to (t_and (b := !decide (x.getLast? = some 10)) (t_test e1) (fun z => t_test (e2 (by simpa using z)))) (by
    by_cases q3 : x = []
    · rw [decide_eq_true q3]
      rfl
    · have q4 : x.getLast? = some 10 := Classical.byContradiction fun z => q2 ⟨q3, z⟩
      rw [decide_eq_true q4, Bool.not_true, Bool.and_false])) (fun h => nomatch h) (fun _ => x_next)) ?_
  have erows : cutD ((TL.spl [10] 0 [] x).map fun p => PyData.str (SX.S p)) none (some (-1)) = (rows x).map fun p => .str (SX.S p) := by
    rw [cutD_init, ← List.map_dropLast]
    rfl
  have er : ((rows x).filter (fun _ => true)).map (fun r => optJ (jobO r)) = ((rows x).map jobO).map optJ := by
    rw [List.filter_eq_self.mpr (fun _ _ => rfl), List.map_map]
    rfl
  refine x_seq (x_set (i := 1) (d := .list (((rows x).map jobO).map optJ)) (Ep.new (En.to (n_lc (rows x) (fun r => .str (SX.S r)) (fun _ => true) (fun r => optJ (jobO r)) (i_list (Ep.new (En.to (n_slL (n_split (by walk_at "Eb") (e_lit l1) (by decide) (by omega)).b o_no (o_some (by walk_at "Eb"))) erows) (immL_map fun _ _ => rfl))) (by omega) fun r hr => ⟨_, _, by simp, g_name, t_yes, fun _ => ⟨k_L_job_of (by walk_at "Ea") (by have := hr2 r hr; omega), by cases jobO r <;> rfl⟩⟩) er) (immL_map fun o _ => by cases o <;> rfl))) ?_
  have hany := any_none ((rows x).map jobO)
  have hall : ((rows x).map jobO).all (·.isSome) = (rows x).all (fun r => (jobO r).isSome) := by rw [List.all_map]; rfl
  rw [hall] at hany
  have hsh := shaped_opt ((rows x).map jobO)
  by_cases q5 : (rows x).all (fun r => (jobO r).isSome) = true
  · rw [if_pos q5]
    refine x_seq (x_if (b := false) (Et.to (t_test (e_inD e_non (e_var rfl).b rfl hsh)) (by rw [hany, q5]; rfl)) (fun h => nomatch h) (fun _ => x_next)) ?_
    refine x_ret' (by walk_at "Eb") ?_
    rw [List.map_map]
    exact congrArg PyData.list (all_map q5)
  · rw [if_neg q5]
    exact x_seqR (x_if (b := true) (Et.to (t_test (e_inD e_non (e_var rfl).b rfl hsh)) (by rw [hany]; simpa using q5)) (fun _ => x_ret (by walk_at "Eb")) (fun h => nomatch h))
/-! ### _law_figures -/
abbrev s_L_figures : Stmt := topS 27
abbrev n_L_figures : List Str := ["_law_number_here", "_law_found"]
theorem sc_L_figures : FnScope n_L_figures ["_law_number_here"] (defScope s_L_figures) := ⟨rfl, rfl, rfl, by decide +kernel, rfl, by decide +kernel, by decide +kernel⟩
/-- the figures, from the last one on -/
def figS (n : Nat) : Nat → Nat × List Nat
  | 0 => (n, [])
  | k + 1 => ((figS n k).1 / 10, (48 + (figS n k).1 % 10) :: (figS n k).2)
theorem fig_inv (n : Nat) : ∀ k, k < (TL.numL n).length → TL.numL n = TL.numL (figS n k).1 ++ (figS n k).2 ∧ (figS n k).2.length = k
  | 0, _ => ⟨by rw [figS, List.append_nil], rfl⟩
  | k + 1, h => by
    obtain ⟨h1, h2⟩ := fig_inv n k (by omega)
    have hl := congrArg List.length h1
    rw [List.length_append, h2] at hl
    by_cases q : (figS n k).1 < 10
    · rw [TL.numL_lt q, List.length_singleton] at hl
      omega
    · refine ⟨?_, by rw [figS, List.length_cons, h2]⟩
      rw [figS]
      dsimp only
      rw [h1, TL.numL_step (by omega), List.append_assoc]
      rfl
theorem fig_len (n : Nat) : 1 ≤ (TL.numL n).length := List.length_pos_iff.mpr (TL.numL_ne n)
theorem fig_go {n k : Nat} (h : k + 1 < (TL.numL n).length) : 9 < (figS n k).1 := by
  obtain ⟨h1, h2⟩ := fig_inv n k (by omega)
  have hl := congrArg List.length h1
  rw [List.length_append, h2] at hl
  by_cases q : (figS n k).1 < 10
  · rw [TL.numL_lt q, List.length_singleton] at hl
    omega
  · omega
theorem fig_end {n : Nat} : (figS n ((TL.numL n).length - 1)).1 < 10 ∧ TL.numL n = (48 + (figS n ((TL.numL n).length - 1)).1) :: (figS n ((TL.numL n).length - 1)).2 := by
  have hp := fig_len n
  obtain ⟨h1, h2⟩ := fig_inv n ((TL.numL n).length - 1) (by omega)
  have hl := congrArg List.length h1
  rw [List.length_append, h2] at hl
  have q : (figS n ((TL.numL n).length - 1)).1 < 10 := by
    by_cases q : (figS n ((TL.numL n).length - 1)).1 < 10
    · exact q
    · rw [TL.numL_step (n := (figS n ((TL.numL n).length - 1)).1) (by omega), List.length_append, List.length_singleton] at hl
      have := fig_len ((figS n ((TL.numL n).length - 1)).1 / 10)
      omega
  refine ⟨q, ?_⟩
  rw [TL.numL_lt q] at h1
  exact h1
theorem dig_at {d : Nat} (h : d < 10) : atI digs (d : Int) = some (48 + d) := atI_nat (by
  have key : ∀ i : Nat, i < 10 → digs[i]? = some (48 + i) := by decide
  exact key d h)
abbrev R_L_figures := Rf (fun n : Nat => [.int (n : Int)]) (fun n => n < 10 ^ 60) (fun n => .va (.str (SX.S (TL.numL n))))
theorem k_L_figures [KK] {E : XK} {S : DSt} {ta : TA} {n : Nat} (h : Ea ta S [.int (n : Int)]) (hn : n < 10 ^ 60) : Eb (tCall (SpR R_L_figures) [] E ta) S (.str (SX.S (TL.numL n))) := e_callR n h rfl hn rfl
theorem ok_L_figures {f : Addr} {fd : FuncData} (F : Fun K "_law_figures" "_law_figures" s_L_figures f fd) (m_f : mg "_law_figures" = some (.ref f)) : Cal P w K mg base 1 "_law_figures" ["_law_number_here"] R_L_figures := by
  letI : KK := ⟨K⟩
  refine cal_of (F.ok sc_L_figures (len_of fun _ => rfl) (fun cdv A outer s H vs Q E hr h => ⟨_,
      (pss_cons (ps_set (i := 1) sc_L_figures.nd rfl (Or.inl rfl) pe_str)
      (pss_cons (ps_while PassesOwn.never (pt_cmpR op_gt (pv 0) pe_int (nomark _)) (pss_cons (ps_set (i := 1) sc_L_figures.nd rfl (Or.inl rfl) (pe_op op_plus (j_ix K pe_str (pe_op op_mod (pv 0) pe_int)) (pv 1)))
        (pss_one (ps_set (i := 0) sc_L_figures.nd rfl (Or.inl rfl) (pe_op op_fdiv (pv 0) pe_int)))))
      (pss_one (ps_ret (pe_op op_plus (j_ix K pe_str (pv 0)) (pv 1)))))), ?_⟩)) m_f F.kp (F.binds (ps := ["_law_number_here"]) fun _ _ _ _ _ _ us hl => match us, hl with | [_], _ => rfl)
  refine run_def (N := n_L_figures) h fun x hx => ?_

  have hn : x < 10 ^ 60 := hx
  have hlen : (TL.numL x).length ≤ 60 := TL.numL_len (by decide) hn
  have hp := fig_len x
  show DX _ _ [.va (.int (x : Int)), .no] (.rt (.va (.str (SX.S (TL.numL x)))))
  refine x_seq (x_set (i := 1) (d := .str (SX.S [])) (Ep.free (e_lit (by decide +kernel)) rfl)) ?_
  have hdg : Str.ofString "0123456789" = SX.S digs := by decide +kernel
  refine x_seq (x_while (fun k => [.va (.int ((figS x k).1 : Int)), .va (.str (SX.S (figS x k).2))]) ((TL.numL x).length - 1) (by walk_at "Le") (fun k hk => ?_) (fun k hk => ?_) ?_) ?_
  · have := fig_go (n := x) (k := k) (by omega)
    exact Et.to (by walk_at "Et") (by exact decide_eq_true (by omega))
  · have hg := fig_go (n := x) (k := k) (by omega)
    obtain ⟨_, h2⟩ := fig_inv x k (by omega)
    show ∃ S2, DX E _ [.va (.int ((figS x k).1 : Int)), .va (.str (SX.S (figS x k).2))] (.nx S2) ∧ Le S2 [.va (.int ((figS x (k + 1)).1 : Int)), .va (.str (SX.S (figS x (k + 1)).2))]
    rw [figS]
    dsimp only
    generalize (figS x k).1 = m at *
    generalize (figS x k).2 = fs at *
    have ed : ((m : Int) % 10) = ((m % 10 : Nat) : Int) := by omega
    have a0 : atI (SX.S digs).cps.toList ((m : Int) % 10) = some (48 + m % 10) := by
      show atI digs _ = _
      rw [ed]
      exact dig_at (Nat.mod_lt _ (by decide))
    refine ⟨[.va (.int ((m / 10 : Nat) : Int)), .va (.str (SX.S ((48 + m % 10) :: fs)))], ?_, Le.rfl'⟩
    refine x_seq (x_set (i := 1) (d := .str (SX.S ((48 + m % 10) :: fs))) (Ep.free ((e_catS (a := [48 + m % 10]) (b := fs) (e_ixS (e_lit hdg) (by walk_at "Eb") (by rw [SX.S_len]; decide) a0) (by walk_at "Eb") (by simp only [List.length_singleton]; omega)).to rfl) rfl)) ?_
    exact x_set (i := 0) (d := .int ((m / 10 : Nat) : Int)) (Ep.imm (Eb.to (by walk_at "Eb") (by show PyData.int ((m : Int) / 10) = _; rfl)) rfl)
  · have h9 := (fig_end (n := x)).1
    exact Et.to (by walk_at "Et") (by exact decide_eq_false (by omega))
  · obtain ⟨h9, he⟩ := fig_end (n := x)
    obtain ⟨_, h2⟩ := fig_inv x ((TL.numL x).length - 1) (by omega)
    show DX _ _ [.va (.int ((figS x ((TL.numL x).length - 1)).1 : Int)), .va (.str (SX.S (figS x ((TL.numL x).length - 1)).2))] _
    generalize hm : (figS x ((TL.numL x).length - 1)).1 = m at *
    generalize hf : (figS x ((TL.numL x).length - 1)).2 = fs at *
    have a0 : atI (SX.S digs).cps.toList (m : Int) = some (48 + m) := dig_at h9
    refine x_ret ((e_catS (a := [48 + m]) (b := fs) (e_ixS (e_lit hdg) (by walk_at "Eb") (by rw [SX.S_len]; decide) a0) (by walk_at "Eb") (by simp only [List.length_singleton]; omega)).to ?_)
    rw [he]
    rfl
/-! ### law -/
abbrev s_law : Stmt := topS 34
abbrev n_law : List Str := ["_law_script", "_law_jobs", "_law_handed", "_law_text", "_law_found", "_law_sign", "_law_job", "_law_number_here"]
theorem sc_law : FnScope n_law ["_law_script"] (defScope s_law) := ⟨rfl, rfl, rfl, by decide +kernel, rfl, by decide +kernel, by decide +kernel⟩
theorem text_ok (js : List Job) : ∀ c ∈ textL js, c < 128 := by
  have f : ∀ n, ∀ c ∈ TL.numL n, c < 128 := fun n c hc => by
    have := TL.numL_digits n c hc
    omega
  intro c hc
  obtain ⟨r, hr, hcr⟩ := List.mem_flatten.mp hc
  obtain ⟨j, _, rfl⟩ := List.mem_map.mp hr
  unfold rowL rowN at hcr
  simp only [List.mem_append, List.mem_singleton] at hcr
  rcases hcr with (h | h | h | h | h) | h
  · exact f _ c h
  · omega
  · exact f _ c h
  · omega
  · exact f _ c h
  · omega
theorem text_shaped (js : List Job) : SeqAt.shaped (.str (SX.S (textL js))) = true := shaped_str (by
  show (textL js).toArray.all (· < 0x110000) = true
  rw [List.all_toArray, List.all_eq_true]
  intro c hc
  have := text_ok js c hc
  exact decide_eq_true (by omega))
theorem shaped_read (l : List Nat) : SeqAt.shaped (readD l) = true := by
  unfold readD
  split
  · exact shaped_str (by decide +kernel)
  · exact shaped_str (by decide +kernel)
  · exact shaped_jobs _
theorem join_row (j : Job) : Txt.join (SX.S [32]) [SX.S (TL.numL j.1.toNat), SX.S (TL.numL j.2.1.toNat), SX.S (TL.numL j.2.2.toNat)] = SX.S (rowN j) := by
  have h := SX.join_S [32] [TL.numL j.1.toNat, TL.numL j.2.1.toNat, TL.numL j.2.2.toNat]
  exact h
theorem ok_law {f : Addr} {fd : FuncData} (F : Fun K "law" "law" s_law f fd) (b_list : mg "list" = none) (b_isinstance : mg "isinstance" = none) (b_str : mg "str" = none) (c_L_jobs_by : Cal P w K mg base 3 "_law_jobs_by" ["_law_script", "_law_first"] R_L_jobs_by) (c_L_figures : Cal P w K mg base 1 "_law_figures" ["_law_number_here"] R_L_figures) (c_written : Cal P w K mg base 4 "written" ["jobs"] R_written) (c_L_read : Cal P w K mg base 5 "_law_read" ["_law_text"] R_L_read) (c_L_sign_by : Cal P w K mg base 1 "_law_sign_by" ["_law_cell"] R_L_sign_by) (c_L_cell_at : Cal P w K mg base 1 "_law_cell_at" ["_law_script", "_law_k"] R_L_cell_at) (c_L_changed : Cal P w K mg base 1 "_law_changed" ["_law_text", "_law_how", "_law_place", "_law_sign"] R_L_changed) (c_L_due : Cal P w K mg base 3 "_law_due" ["_law_text"] R_L_due) : FnOk P w K mg base CX0 6 f fd ["_law_script"] (spLaw K) := by
  refine F.ok sc_law (fun vs H Q E h => by obtain ⟨a, ns, rfl, _⟩ := h; rfl) (fun cdv A outer s H vs Q E hr h => ⟨_,
      (pss_cons (ps_set (i := 1) sc_law.nd rfl (Or.inl rfl) (c_L_jobs_by.pe (hr.mono (by decide)) rfl (pa_cons (pv 0) (pa_cons pe_int pa_nil))))
      (pss_cons (ps_set (i := 2) sc_law.nd rfl (Or.inl rfl) (pe_callTy (j_list K) (by rfl) b_list (by decide +kernel) (pa_cons (pv 1) pa_nil)))
      (pss_cons (ps_set (i := 3) sc_law.nd rfl (Or.inl rfl) (j_join K pe_str (pe_lc (own := [("_law_job", 6)]) rfl sc_law.nd (j_iList K (pv 1)) (blkOk_by (own := [("_law_job", 6)]) (N := n_law) (sc := (defScope s_law)) (by decide +kernel)) (fun _ _ _ _ _ => (pg_name (i := 6) sc_law.nd rfl (Or.inl rfl))) (fun _ _ _ _ _ => pts_nil) (fun _ _ _ _ _ => (pe_op op_plus (j_join K pe_str (pe_lc (own := [("_law_number_here", 7)]) rfl sc_law.nd (j_iTup K (pv 6)) (blkOk_in (N := n_law) (sc1 := defScope s_law) rfl (by decide +kernel)) (fun _ _ _ _ _ => (pg_name (i := 7) sc_law.nd rfl (Or.inl rfl))) (fun _ _ _ _ _ => pts_nil) (fun _ _ _ _ _ => (c_L_figures.pe (hr.mono (by decide)) rfl (pa_cons (pv 7) pa_nil))))) pe_str)))))
      (pss_cons (ps_set (i := 4) sc_law.nd rfl (Or.inl rfl) (c_written.pe (hr.mono (by decide)) rfl (pa_cons (pv 2) pa_nil)))
      (pss_cons (ps_if (PW.pt (pw_or (pt_not (j_tru K (pe_callB (j_isi K) (by rfl) b_isinstance (by decide +kernel) (pa_cons (pv 4) (pa_cons (pe_bltn (v := .ty "str") (by rfl) b_str (by decide +kernel) rfl) pa_nil))))) (pw_or (pt_cmpR (j_ne K hr.units) (pv 4) (pv 3) (nomark _)) (pw_or (pt_cmpR (j_ne K hr.units) (pv 2) (pv 1) (nomark _)) (pw_or1 (pt_cmpR (j_ne K hr.units) (c_L_read.pe (hr.mono (by decide)) rfl (pa_cons (pv 3) pa_nil)) (pv 1) (nomark _))))))) (pss_one (ps_ret pe_bl)) pss_nil)
      (pss_cons (ps_set (i := 5) sc_law.nd rfl (Or.inl rfl) (c_L_sign_by.pe (hr.mono (by decide)) rfl (pa_cons (c_L_cell_at.pe (hr.mono (by decide)) rfl (pa_cons (pv 0) (pa_cons pe_int pa_nil))) pa_nil)))
      (pss_cons (ps_if (pt_cmpR (j_eq K hr.units) (pe_op op_mod (c_L_cell_at.pe (hr.mono (by decide)) rfl (pa_cons (pv 0) (pa_cons pe_int pa_nil))) pe_int) pe_int (nomark _)) (pss_one (ps_set (i := 3) sc_law.nd rfl (Or.inl rfl) (c_L_changed.pe (hr.mono (by decide)) rfl (pa_cons (pv 3) (pa_cons (pe_op op_fdiv (c_L_cell_at.pe (hr.mono (by decide)) rfl (pa_cons (pv 0) (pa_cons pe_int pa_nil))) pe_int) (pa_cons (c_L_cell_at.pe (hr.mono (by decide)) rfl (pa_cons (pv 0) (pa_cons pe_int pa_nil))) (pa_cons (pv 5) pa_nil))))))) pss_nil)
      (pss_one (ps_ret (pe_cmpR (j_eq K hr.units) (c_L_read.pe (hr.mono (by decide)) rfl (pa_cons (pv 3) pa_nil)) (c_L_due.pe (hr.mono (by decide)) rfl (pa_cons (pv 3) pa_nil)) (nomark _))))))))))), ?_⟩)
  letI : KK := ⟨K⟩
  refine law_run (N := n_law) h fun ns hns => ?_

  refine x_seq (x_set (i := 1) (d := jobsD (jobsBy ns 3)) (Ep.new (k_L_jobs_by (by walk_at "Ea") hns (by omega)) (immL_jobs _))) ?_
  have hl := jobsBy_len ns 3
  have hs := jobsBy_snd ns 3
  have ht := jobsBy_top ns 3
  generalize jobsBy ns 3 = js at *
  have hst : ∀ j ∈ js, Snd j ∧ Top j := fun j hj => ⟨hs j hj, ht j hj⟩
  refine x_seq (x_set (i := 2) (d := jobsD js) (Ep.new (by walk_at "En") (immL_jobs _))) ?_
  have htl := text_len js ht
  have e60 : ((10 ^ 60 : Nat) : Int) = 10 ^ 60 := by decide +kernel
  have hsum : ∀ l : List Job, (∀ j ∈ l, Top j) → (((l.map rowL).map SX.S).map (·.length)).sum ≤ l.length * 183 := fun l => by
    induction l with
    | nil => exact fun _ => Nat.le_refl _
    | cons j r ih =>
      intro h
      have := ih fun y hy => h y (List.mem_cons_of_mem _ hy)
      have := row_len (h j List.mem_cons_self)
      rw [List.map_cons, List.map_cons, List.map_cons, List.sum_cons, List.length_cons, SX.S_len]
      omega
  refine x_seq (x_set (i := 3) (d := .str (SX.S (textL js))) (Ep.free ((e_join (a := SX.S []) (ys := (js.map rowL).map SX.S) (e_lit (by decide +kernel)) (En.b (En.to (n_lc js (fun j => jobD j) (fun _ => true) (fun j => .str (SX.S (rowL j))) (i_list (by walk_at "Ep")) (by omega) fun j hj => ⟨_, _, by simp, g_name, t_yes, fun _ => ⟨?elt, rfl⟩⟩) ?er)) ?sz).to (by rw [join_text])) rfl)) ?_
  case er =>
    rw [List.filter_eq_self.mpr (fun _ _ => rfl), List.map_map, List.map_map]
    rfl
  case sz =>
    have := hsum js ht
    rw [SX.S_len]
    show _ + _ * 0 ≤ _
    omega
  case elt =>
    obtain ⟨a0, b0, c0⟩ := hs j hj
    obtain ⟨a1, b1, c1⟩ := ht j hj
    have hrl := row_len (ht j hj)
    obtain ⟨ja, hja⟩ := Int.eq_ofNat_of_zero_le a0
    obtain ⟨jb, hjb⟩ := Int.eq_ofNat_of_zero_le (show 0 ≤ j.2.1 by omega)
    obtain ⟨jc, hjc⟩ := Int.eq_ofNat_of_zero_le (show 0 ≤ j.2.2 by omega)
    have n1 : (SX.S (TL.numL j.1.toNat)).length + (SX.S (TL.numL j.2.1.toNat)).length + (SX.S (TL.numL j.2.2.toNat)).length ≤ 183 := by
      rw [SX.S_len (TL.numL j.1.toNat), SX.S_len (TL.numL j.2.1.toNat), SX.S_len (TL.numL j.2.2.toNat)]
      unfold rowL rowN at hrl
      simp only [List.length_append] at hrl
      omega
    refine (e_catS (a := rowN j) (b := [10]) ((e_join (a := SX.S [32]) (ys := [SX.S (TL.numL j.1.toNat), SX.S (TL.numL j.2.1.toNat), SX.S (TL.numL j.2.2.toNat)]) (e_lit (by decide +kernel)) (En.b (En.to (n_lc [ja, jb, jc] (fun n : Nat => .int (n : Int)) (fun _ => true) (fun n => .str (SX.S (TL.numL n))) (i_tup ((e_var rfl).to ?ej)) (by simp) fun n hn => ⟨_, _, by simp, g_name, t_yes, fun _ => ⟨k_L_figures (by walk_at "Ea") ?lt, rfl⟩⟩) ?er2)) ?sz2).to (by rw [join_row])) (e_lit (by decide +kernel)) ?sz3).to rfl
    case ej =>
      show PyData.tuple [.int j.1, .int j.2.1, .int j.2.2] = .tuple [.int (ja : Int), .int (jb : Int), .int (jc : Int)]
      rw [hja, hjb, hjc]
    case lt =>
      simp only [List.mem_cons, List.not_mem_nil, or_false] at hn
      rcases hn with e | e | e <;> subst e <;> omega
    case er2 =>
      show [PyData.str (SX.S (TL.numL ja)), .str (SX.S (TL.numL jb)), .str (SX.S (TL.numL jc))] = [PyData.str (SX.S (TL.numL j.1.toNat)), .str (SX.S (TL.numL j.2.1.toNat)), .str (SX.S (TL.numL j.2.2.toNat))]
      rw [hja, hjb, hjc, Int.toNat_natCast, Int.toNat_natCast, Int.toNat_natCast]
    case sz2 =>
      simp only [List.map_cons, List.map_nil, List.sum_cons, List.sum_nil, List.length_cons, List.length_nil]
      rw [SX.S_len [32]]
      simp only [List.length_cons, List.length_nil]
      omega
    case sz3 =>
      unfold rowL at hrl
      rw [List.length_append] at hrl
      omega
  refine x_seq (x_set (i := 4) (d := .str (SX.S (textL js))) (Ep.free (k_written (by walk_at "Ea") hl hst) rfl)) ?_
  have hrd : readD (textL js) = jobsD js := by
    unfold readD
    rw [readL_text hl hst]
  have htl2 : (textL js).length ≤ 20000 := by omega
  have sht := text_shaped js
  show DX _ _ [.va (frz ns), .va (jobsD js), .va (jobsD js), .va (.str (SX.S (textL js))), .va (.str (SX.S (textL js))), .no, .no, .no] _
  refine x_seq (x_if (b := false) (Et.to (t_or (a := false) (b := false) (Et.to (by walk_at "Et") (by rfl)) (fun _ => Et.to (t_or (a := false) (b := false) (Et.to (t_test (e_ne (by walk_at "Eb") (by walk_at "Eb") sht sht)) (by rw [SeqAt.eqv_refl _ (SeqAt.canLay_of_shaped sht)]; rfl)) (fun _ => Et.to (t_or (a := false) (b := false) (Et.to (by walk_at "Et") (by rw [eqv_jobs, decide_eq_true rfl]; rfl)) (fun _ => Et.to (t_test (e_ne ((k_L_read (by walk_at "Ea") (by omega)).to (by exact hrd)) (by walk_at "Eb") (by walk_at "side") (by walk_at "side"))) (by rw [eqv_jobs, decide_eq_true rfl]; rfl))) (by rfl))) (by rfl))) (by rfl)) (fun h => nomatch h) (fun _ => x_next)) ?_
  refine x_seq (x_set (i := 5) (d := .str (SX.S [signC (cellAt ns 2)])) (Ep.free (k_L_sign_by (by walk_at "Ea")) rfl)) ?_
  generalize signC (cellAt ns 2) = sg
  generalize textL js = l0 at *
  refine x_seqE (fun l : List Nat => [.va (frz ns), .va (jobsD js), .va (jobsD js), .va (.str (SX.S l)), .va (.str (SX.S l0)), .va (.str (SX.S [sg])), .no, .no]) (fun l => l.length ≤ 45000) ?_ ?_
  · by_cases q : cellAt ns 0 % 2 = 1
    · refine ⟨(changedX (SX.S l0) (cellAt ns 0 / 2) (cellAt ns 1) (SX.S [sg])).cps.toList, ?_, x_if (b := true) (Et.to (by walk_at "Et") (by exact decide_eq_true q)) (fun _ => x_post (x_set (i := 3) (d := .str (changedX (SX.S l0) (cellAt ns 0 / 2) (cellAt ns 1) (SX.S [sg]))) (Ep.free (k_L_changed (by walk_at "Ea") (by rw [SX.S_len]; exact htl2) (by rw [SX.S_len]; rfl)) rfl)) ?_) (fun h => nomatch h)⟩
      · have h := changedX_len (x := SX.S l0) (sg := SX.S [sg]) (how := cellAt ns 0 / 2) (place := cellAt ns 1) (by rw [SX.S_len]; rfl)
        rw [SX.S_len l0] at h
        have e := TL.len_tl (changedX (SX.S l0) (cellAt ns 0 / 2) (cellAt ns 1) (SX.S [sg]))
        show (TL.tl _).length ≤ _
        omega
      · rw [SX.S_tl]
        exact Le.rfl'
    · exact ⟨l0, by omega, x_if (b := false) (Et.to (by walk_at "Et") (by exact decide_eq_false q)) (fun h => nomatch h) (fun _ => x_next)⟩
  intro l hll
  have shr := shaped_read l
  exact x_ret' (e_eq (k_L_read (by walk_at "Ea") hll) (k_L_due (by walk_at "Ea") hll) shr shr) (by rw [SeqAt.eqv_refl _ (SeqAt.canLay_of_shaped shr)])
end
theorem all_mk {l : PySem.W.OpenLaw} {w : World} {K : PySem.W.Frag} {h : Heap} {mg : Str → Option Value} {fa f0 f1 f2 f3 f4 f5 f6 f7 f8 f9 f10 f11 f12 f13 f14 f15 f16 f17 f18 f19 f20 f21 : Addr} (X : K.In h) (G : h.Ns mainGlobals mg) (hfa : mg "law" = some (.ref fa))
    {od0 an0 od1 an1 od2 an2 od3 an3 od4 an4 od5 an5 od6 an6 od7 an7 od8 an8 od9 an9 od10 an10 od11 an11 od12 an12 od13 an13 od14 an14 od15 an15 od16 an16 od17 an17 od18 an18 od19 an19 od20 an20 od21 an21 : Option Addr}
    {sl0 sl1 sl2 sl3 sl4 sl5 sl6 sl7 sl8 sl9 sl10 sl11 sl12 sl13 sl14 sl15 sl16 sl17 sl18 sl19 sl20 sl21 : Array (Option Value)}
    {oc0 kV0 dc0 pm0 cd0 ct0 oc1 kV1 dc1 pm1 cd1 ct1 oc2 kV2 dc2 pm2 cd2 ct2 oc3 kV3 dc3 pm3 cd3 ct3 oc4 kV4 dc4 pm4 cd4 ct4 oc5 kV5 dc5 pm5 cd5 ct5 oc6 kV6 dc6 pm6 cd6 ct6 oc7 kV7 dc7 pm7 cd7 ct7 oc8 kV8 dc8 pm8 cd8 ct8 oc9 kV9 dc9 pm9 cd9 ct9 oc10 kV10 dc10 pm10 cd10 ct10 oc11 kV11 dc11 pm11 cd11 ct11 oc12 kV12 dc12 pm12 cd12 ct12 oc13 kV13 dc13 pm13 cd13 ct13 oc14 kV14 dc14 pm14 cd14 ct14 oc15 kV15 dc15 pm15 cd15 ct15 oc16 kV16 dc16 pm16 cd16 ct16 oc17 kV17 dc17 pm17 cd17 ct17 oc18 kV18 dc18 pm18 cd18 ct18 oc19 kV19 dc19 pm19 cd19 ct19 oc20 kV20 dc20 pm20 cd20 ct20 oc21 kV21 dc21 pm21 cd21 ct21 : Value}
    (a0 : PySem.W.nsIn K mainGlobals "_law_count_by" = some (some (.ref f0))) (l0 : K.lookup f0 = some ⟨oc0, od0, .func (PySem.W.fnOf "_law_count_by" "_law_count_by" (defArgs s_L_count_by) (defBody s_L_count_by) (defScope s_L_count_by) .none kV0 dc0 pm0 an0 cd0 ct0), sl0⟩) (c0 : PySem.W.codeIn K cd0 "_law_count_by" = true) (k0 : PySem.W.keepIn K (.ref f0) = true)
    (a1 : PySem.W.nsIn K mainGlobals "_law_wide_by" = some (some (.ref f1))) (l1 : K.lookup f1 = some ⟨oc1, od1, .func (PySem.W.fnOf "_law_wide_by" "_law_wide_by" (defArgs s_L_wide_by) (defBody s_L_wide_by) (defScope s_L_wide_by) .none kV1 dc1 pm1 an1 cd1 ct1), sl1⟩) (c1 : PySem.W.codeIn K cd1 "_law_wide_by" = true) (k1 : PySem.W.keepIn K (.ref f1) = true)
    (a2 : PySem.W.nsIn K mainGlobals "_law_cell_at" = some (some (.ref f2))) (l2 : K.lookup f2 = some ⟨oc2, od2, .func (PySem.W.fnOf "_law_cell_at" "_law_cell_at" (defArgs s_L_cell_at) (defBody s_L_cell_at) (defScope s_L_cell_at) .none kV2 dc2 pm2 an2 cd2 ct2), sl2⟩) (c2 : PySem.W.codeIn K cd2 "_law_cell_at" = true) (k2 : PySem.W.keepIn K (.ref f2) = true)
    (a3 : PySem.W.nsIn K mainGlobals "_law_mixed" = some (some (.ref f3))) (l3 : K.lookup f3 = some ⟨oc3, od3, .func (PySem.W.fnOf "_law_mixed" "_law_mixed" (defArgs s_L_mixed) (defBody s_L_mixed) (defScope s_L_mixed) .none kV3 dc3 pm3 an3 cd3 ct3), sl3⟩) (c3 : PySem.W.codeIn K cd3 "_law_mixed" = true) (k3 : PySem.W.keepIn K (.ref f3) = true)
    (a4 : PySem.W.nsIn K mainGlobals "_law_tight_by" = some (some (.ref f4))) (l4 : K.lookup f4 = some ⟨oc4, od4, .func (PySem.W.fnOf "_law_tight_by" "_law_tight_by" (defArgs s_L_tight_by) (defBody s_L_tight_by) (defScope s_L_tight_by) .none kV4 dc4 pm4 an4 cd4 ct4), sl4⟩) (c4 : PySem.W.codeIn K cd4 "_law_tight_by" = true) (k4 : PySem.W.keepIn K (.ref f4) = true)
    (a5 : PySem.W.nsIn K mainGlobals "_law_job_by" = some (some (.ref f5))) (l5 : K.lookup f5 = some ⟨oc5, od5, .func (PySem.W.fnOf "_law_job_by" "_law_job_by" (defArgs s_L_job_by) (defBody s_L_job_by) (defScope s_L_job_by) .none kV5 dc5 pm5 an5 cd5 ct5), sl5⟩) (c5 : PySem.W.codeIn K cd5 "_law_job_by" = true) (k5 : PySem.W.keepIn K (.ref f5) = true)
    (a6 : PySem.W.nsIn K mainGlobals "_law_jobs_by" = some (some (.ref f6))) (l6 : K.lookup f6 = some ⟨oc6, od6, .func (PySem.W.fnOf "_law_jobs_by" "_law_jobs_by" (defArgs s_L_jobs_by) (defBody s_L_jobs_by) (defScope s_L_jobs_by) .none kV6 dc6 pm6 an6 cd6 ct6), sl6⟩) (c6 : PySem.W.codeIn K cd6 "_law_jobs_by" = true) (k6 : PySem.W.keepIn K (.ref f6) = true)
    (a7 : PySem.W.nsIn K mainGlobals "whole" = some (some (.ref f7))) (l7 : K.lookup f7 = some ⟨oc7, od7, .func (PySem.W.fnOf "whole" "whole" (defArgs s_whole) (defBody s_whole) (defScope s_whole) .none kV7 dc7 pm7 an7 cd7 ct7), sl7⟩) (c7 : PySem.W.codeIn K cd7 "whole" = true) (k7 : PySem.W.keepIn K (.ref f7) = true)
    (a8 : PySem.W.nsIn K mainGlobals "sound" = some (some (.ref f8))) (l8 : K.lookup f8 = some ⟨oc8, od8, .func (PySem.W.fnOf "sound" "sound" (defArgs s_sound) (defBody s_sound) (defScope s_sound) .none kV8 dc8 pm8 an8 cd8 ct8), sl8⟩) (c8 : PySem.W.codeIn K cd8 "sound" = true) (k8 : PySem.W.keepIn K (.ref f8) = true)
    (a9 : PySem.W.nsIn K mainGlobals "looked" = some (some (.ref f9))) (l9 : K.lookup f9 = some ⟨oc9, od9, .func (PySem.W.fnOf "looked" "looked" (defArgs s_looked) (defBody s_looked) (defScope s_looked) .none kV9 dc9 pm9 an9 cd9 ct9), sl9⟩) (c9 : PySem.W.codeIn K cd9 "looked" = true) (k9 : PySem.W.keepIn K (.ref f9) = true)
    (a10 : PySem.W.nsIn K mainGlobals "written" = some (some (.ref f10))) (l10 : K.lookup f10 = some ⟨oc10, od10, .func (PySem.W.fnOf "written" "written" (defArgs s_written) (defBody s_written) (defScope s_written) .none kV10 dc10 pm10 an10 cd10 ct10), sl10⟩) (c10 : PySem.W.codeIn K cd10 "written" = true) (k10 : PySem.W.keepIn K (.ref f10) = true)
    (a11 : PySem.W.nsIn K mainGlobals "_law_sign_by" = some (some (.ref f11))) (l11 : K.lookup f11 = some ⟨oc11, od11, .func (PySem.W.fnOf "_law_sign_by" "_law_sign_by" (defArgs s_L_sign_by) (defBody s_L_sign_by) (defScope s_L_sign_by) .none kV11 dc11 pm11 an11 cd11 ct11), sl11⟩) (c11 : PySem.W.codeIn K cd11 "_law_sign_by" = true) (k11 : PySem.W.keepIn K (.ref f11) = true)
    (a12 : PySem.W.nsIn K mainGlobals "_law_changed" = some (some (.ref f12))) (l12 : K.lookup f12 = some ⟨oc12, od12, .func (PySem.W.fnOf "_law_changed" "_law_changed" (defArgs s_L_changed) (defBody s_L_changed) (defScope s_L_changed) .none kV12 dc12 pm12 an12 cd12 ct12), sl12⟩) (c12 : PySem.W.codeIn K cd12 "_law_changed" = true) (k12 : PySem.W.keepIn K (.ref f12) = true)
    (a13 : PySem.W.nsIn K mainGlobals "number_of" = some (some (.ref f13))) (l13 : K.lookup f13 = some ⟨oc13, od13, .func (PySem.W.fnOf "number_of" "number_of" (defArgs s_number_of) (defBody s_number_of) (defScope s_number_of) .none kV13 dc13 pm13 an13 cd13 ct13), sl13⟩) (c13 : PySem.W.codeIn K cd13 "number_of" = true) (k13 : PySem.W.keepIn K (.ref f13) = true)
    (a14 : PySem.W.nsIn K mainGlobals "job_of" = some (some (.ref f14))) (l14 : K.lookup f14 = some ⟨oc14, od14, .func (PySem.W.fnOf "job_of" "job_of" (defArgs s_job_of) (defBody s_job_of) (defScope s_job_of) .none kV14 dc14 pm14 an14 cd14 ct14), sl14⟩) (c14 : PySem.W.codeIn K cd14 "job_of" = true) (k14 : PySem.W.keepIn K (.ref f14) = true)
    (a15 : PySem.W.nsIn K mainGlobals "read" = some (some (.ref f15))) (l15 : K.lookup f15 = some ⟨oc15, od15, .func (PySem.W.fnOf "read" "read" (defArgs s_read) (defBody s_read) (defScope s_read) .none kV15 dc15 pm15 an15 cd15 ct15), sl15⟩) (c15 : PySem.W.codeIn K cd15 "read" = true) (k15 : PySem.W.keepIn K (.ref f15) = true)
    (a16 : PySem.W.nsIn K mainGlobals "_law_read" = some (some (.ref f16))) (l16 : K.lookup f16 = some ⟨oc16, od16, .func (PySem.W.fnOf "_law_read" "_law_read" (defArgs s_L_read) (defBody s_L_read) (defScope s_L_read) .none kV16 dc16 pm16 an16 cd16 ct16), sl16⟩) (c16 : PySem.W.codeIn K cd16 "_law_read" = true) (k16 : PySem.W.keepIn K (.ref f16) = true)
    (a17 : PySem.W.nsIn K mainGlobals "_law_number" = some (some (.ref f17))) (l17 : K.lookup f17 = some ⟨oc17, od17, .func (PySem.W.fnOf "_law_number" "_law_number" (defArgs s_L_number) (defBody s_L_number) (defScope s_L_number) .none kV17 dc17 pm17 an17 cd17 ct17), sl17⟩) (c17 : PySem.W.codeIn K cd17 "_law_number" = true) (k17 : PySem.W.keepIn K (.ref f17) = true)
    (a18 : PySem.W.nsIn K mainGlobals "_law_job_of" = some (some (.ref f18))) (l18 : K.lookup f18 = some ⟨oc18, od18, .func (PySem.W.fnOf "_law_job_of" "_law_job_of" (defArgs s_L_job_of) (defBody s_L_job_of) (defScope s_L_job_of) .none kV18 dc18 pm18 an18 cd18 ct18), sl18⟩) (c18 : PySem.W.codeIn K cd18 "_law_job_of" = true) (k18 : PySem.W.keepIn K (.ref f18) = true)
    (a19 : PySem.W.nsIn K mainGlobals "_law_due" = some (some (.ref f19))) (l19 : K.lookup f19 = some ⟨oc19, od19, .func (PySem.W.fnOf "_law_due" "_law_due" (defArgs s_L_due) (defBody s_L_due) (defScope s_L_due) .none kV19 dc19 pm19 an19 cd19 ct19), sl19⟩) (c19 : PySem.W.codeIn K cd19 "_law_due" = true) (k19 : PySem.W.keepIn K (.ref f19) = true)
    (a20 : PySem.W.nsIn K mainGlobals "_law_figures" = some (some (.ref f20))) (l20 : K.lookup f20 = some ⟨oc20, od20, .func (PySem.W.fnOf "_law_figures" "_law_figures" (defArgs s_L_figures) (defBody s_L_figures) (defScope s_L_figures) .none kV20 dc20 pm20 an20 cd20 ct20), sl20⟩) (c20 : PySem.W.codeIn K cd20 "_law_figures" = true) (k20 : PySem.W.keepIn K (.ref f20) = true)
    (a21 : PySem.W.nsIn K mainGlobals "law" = some (some (.ref f21))) (l21 : K.lookup f21 = some ⟨oc21, od21, .func (PySem.W.fnOf "law" "law" (defArgs s_law) (defBody s_law) (defScope s_law) .none kV21 dc21 pm21 an21 cd21 ct21), sl21⟩) (c21 : PySem.W.codeIn K cd21 "law" = true) (k21 : PySem.W.keepIn K (.ref f21) = true)
    (z_len : PySem.W.nsIn K mainGlobals "len" = some none)
    (z_range : PySem.W.nsIn K mainGlobals "range" = some none)
    (z_max : PySem.W.nsIn K mainGlobals "max" = some none)
    (z_isinstance : PySem.W.nsIn K mainGlobals "isinstance" = some none)
    (z_bool : PySem.W.nsIn K mainGlobals "bool" = some none)
    (z_int : PySem.W.nsIn K mainGlobals "int" = some none)
    (z_tuple : PySem.W.nsIn K mainGlobals "tuple" = some none)
    (z_ValueError : PySem.W.nsIn K mainGlobals "ValueError" = some none)
    (z_list : PySem.W.nsIn K mainGlobals "list" = some none)
    (z_str : PySem.W.nsIn K mainGlobals "str" = some none)
    {t_LIMIT : Tok} (y_LIMIT : PySem.W.nsIn K mainGlobals "LIMIT" = some (some (.int 60 t_LIMIT)))
    {t_MOST_FIGURES : Tok} (y_MOST_FIGURES : PySem.W.nsIn K mainGlobals "MOST_FIGURES" = some (some (.int 60 t_MOST_FIGURES)))
    {t_FIGURES : Tok} (y_FIGURES : PySem.W.nsIn K mainGlobals "FIGURES" = some (some (.str "0123456789" t_FIGURES)))
    {qNoRow : Addr} (qa_NoRow : PySem.W.nsIn K mainGlobals "NoRow" = some (some (.ref qNoRow))) (qx_NoRow : PySem.W.excIn K qNoRow [.type "ValueError", .type "Exception", .type "BaseException", .type "object"] "ValueError.__new__" = true) (qk_NoRow : PySem.W.keepIn K (.ref qNoRow) = true) (qb_NoRow : PySem.W.subIn K (.ref qNoRow) (.type "BaseException") = some true) (qt_NoRow : PySem.W.typeIn K (.ref qNoRow) = some (.type "type")) (qi_NoRow : PySem.W.isClsIn K qNoRow = true)
    {qTooMany : Addr} (qa_TooMany : PySem.W.nsIn K mainGlobals "TooMany" = some (some (.ref qTooMany))) (qx_TooMany : PySem.W.excIn K qTooMany [.type "ValueError", .type "Exception", .type "BaseException", .type "object"] "ValueError.__new__" = true) (qk_TooMany : PySem.W.keepIn K (.ref qTooMany) = true) (qb_TooMany : PySem.W.subIn K (.ref qTooMany) (.type "BaseException") = some true) (qt_TooMany : PySem.W.typeIn K (.ref qTooMany) = some (.type "type")) (qi_TooMany : PySem.W.isClsIn K qTooMany = true)
    {qOutOfPlace : Addr} (qa_OutOfPlace : PySem.W.nsIn K mainGlobals "OutOfPlace" = some (some (.ref qOutOfPlace))) (qx_OutOfPlace : PySem.W.excIn K qOutOfPlace [.type "ValueError", .type "Exception", .type "BaseException", .type "object"] "ValueError.__new__" = true) (qk_OutOfPlace : PySem.W.keepIn K (.ref qOutOfPlace) = true) (qb_OutOfPlace : PySem.W.subIn K (.ref qOutOfPlace) (.type "BaseException") = some true) (qt_OutOfPlace : PySem.W.typeIn K (.ref qOutOfPlace) = some (.type "type")) (qi_OutOfPlace : PySem.W.isClsIn K qOutOfPlace = true)
    {qBadJob : Addr} (qa_BadJob : PySem.W.nsIn K mainGlobals "BadJob" = some (some (.ref qBadJob))) (qx_BadJob : PySem.W.excIn K qBadJob [.type "ValueError", .type "Exception", .type "BaseException", .type "object"] "ValueError.__new__" = true) (qk_BadJob : PySem.W.keepIn K (.ref qBadJob) = true) (qb_BadJob : PySem.W.subIn K (.ref qBadJob) (.type "BaseException") = some true) (qt_BadJob : PySem.W.typeIn K (.ref qBadJob) = some (.type "type")) (qi_BadJob : PySem.W.isClsIn K qBadJob = true)
    {qRunError : Addr} (qa_RunError : PySem.W.nsIn K mainGlobals "RunError" = some (some (.ref qRunError))) (qx_RunError : PySem.W.excIn K qRunError [.type "ValueError", .type "Exception", .type "BaseException", .type "object"] "ValueError.__new__" = true) (qk_RunError : PySem.W.keepIn K (.ref qRunError) = true) (qb_RunError : PySem.W.subIn K (.ref qRunError) (.type "BaseException") = some true) (qt_RunError : PySem.W.typeIn K (.ref qRunError) = some (.type "type")) (qi_RunError : PySem.W.isClsIn K qRunError = true)
    (qs_TooMany_NoRow : PySem.W.subIn K (.ref qTooMany) (.ref qNoRow) = some false)
    (qs_NoRow_NoRow : PySem.W.subIn K (.ref qNoRow) (.ref qNoRow) = some true)
    (qs_TooMany_TooMany : PySem.W.subIn K (.ref qTooMany) (.ref qTooMany) = some true)
    (qs_NoRow_TooMany : PySem.W.subIn K (.ref qNoRow) (.ref qTooMany) = some false)
    (r1_TooMany : PySem.W.findIn K (.ref qTooMany) "__getattribute__" = some (some (.builtin "BaseException.__getattribute__"))) (r2_TooMany : PySem.W.findIn K (.ref qTooMany) "__getattr__" = some none) (r3_TooMany : PySem.W.hasDictIn K qTooMany = true) (r4_TooMany : PySem.W.findIn K (.ref qTooMany) "__class__" = some (some (.builtin "object.__class__"))) (r5_TooMany : PySem.W.mroIn K qTooMany (.type "object") = some true)
    (r1_NoRow : PySem.W.findIn K (.ref qNoRow) "__getattribute__" = some (some (.builtin "BaseException.__getattribute__"))) (r2_NoRow : PySem.W.findIn K (.ref qNoRow) "__getattr__" = some none) (r3_NoRow : PySem.W.hasDictIn K qNoRow = true) (r4_NoRow : PySem.W.findIn K (.ref qNoRow) "__class__" = some (some (.builtin "object.__class__"))) (r5_NoRow : PySem.W.mroIn K qNoRow (.type "object") = some true)
    (r6 : PySem.W.specialIn K (.builtin "object.__class__") "__get__" = some (some (.builtin "getset_descriptor.__get__"))) (r7 : PySem.W.takesIn K (.builtin "object.__class__") = some true)
    (kt_TooMany_OutOfPlace : PySem.W.kitOne K (.ref qTooMany) (.ref qOutOfPlace) = some false)
    (kt_NoRow_OutOfPlace : PySem.W.kitOne K (.ref qNoRow) (.ref qOutOfPlace) = some false)
    (kt_TooMany_BadJob : PySem.W.kitOne K (.ref qTooMany) (.ref qBadJob) = some false)
    (kt_NoRow_BadJob : PySem.W.kitOne K (.ref qNoRow) (.ref qBadJob) = some false)
    (kt_TooMany_ValueError : PySem.W.kitOne K (.ref qTooMany) (.type "ValueError") = some true)
    (kt_NoRow_ValueError : PySem.W.kitOne K (.ref qNoRow) (.type "ValueError") = some true)
    (kt_TooMany_RunError : PySem.W.kitOne K (.ref qTooMany) (.ref qRunError) = some true)
    (kt_NoRow_RunError : PySem.W.kitOne K (.ref qNoRow) (.ref qRunError) = some true)
    : ∃ fd : FuncData, (∀ (s : Shared) (v : Value), BindsTo s fd ⟨[v], []⟩ [("_law_script", v)]) ∧ ∀ base : Heap, K.In base → base.Ns mainGlobals mg → FnOk l.prog w K mg base CX0 6 fa fd ["_law_script"] (spLaw K) := by
  have e := hfa.symm.trans (PySem.W.mg_of X G a21)
  cases e
  refine ⟨PySem.W.fnOf "law" "law" (defArgs s_law) (defBody s_law) (defScope s_law) .none kV21 dc21 pm21 an21 cd21 ct21, fun s v => .of_eq rfl, fun base _ _ => ?_⟩
  letI : EK := ⟨qRunError, qBadJob, qTooMany, qOutOfPlace, qNoRow⟩
  have e_NoRow : ExF K mg "NoRow" EK.NoRow := ⟨PySem.W.mg_of X G qa_NoRow, qx_NoRow, qk_NoRow, qb_NoRow, qt_NoRow⟩
  have e_TooMany : ExF K mg "TooMany" EK.TooMany := ⟨PySem.W.mg_of X G qa_TooMany, qx_TooMany, qk_TooMany, qb_TooMany, qt_TooMany⟩
  have e_OutOfPlace : ExF K mg "OutOfPlace" EK.OutOfPlace := ⟨PySem.W.mg_of X G qa_OutOfPlace, qx_OutOfPlace, qk_OutOfPlace, qb_OutOfPlace, qt_OutOfPlace⟩
  have e_BadJob : ExF K mg "BadJob" EK.BadJob := ⟨PySem.W.mg_of X G qa_BadJob, qx_BadJob, qk_BadJob, qb_BadJob, qt_BadJob⟩
  have e_RunError : ExF K mg "RunError" EK.RunError := ⟨PySem.W.mg_of X G qa_RunError, qx_RunError, qk_RunError, qb_RunError, qt_RunError⟩
  have xm_TooMany_NoRow : PySem.W.exmOne K (.ref EK.TooMany) (.ref EK.NoRow) = some false := exm_of qb_NoRow qi_NoRow qt_NoRow qs_TooMany_NoRow
  have xm_NoRow_NoRow : PySem.W.exmOne K (.ref EK.NoRow) (.ref EK.NoRow) = some true := exm_of qb_NoRow qi_NoRow qt_NoRow qs_NoRow_NoRow
  have xm_TooMany_TooMany : PySem.W.exmOne K (.ref EK.TooMany) (.ref EK.TooMany) = some true := exm_of qb_TooMany qi_TooMany qt_TooMany qs_TooMany_TooMany
  have xm_NoRow_TooMany : PySem.W.exmOne K (.ref EK.NoRow) (.ref EK.TooMany) = some false := exm_of qb_TooMany qi_TooMany qt_TooMany qs_NoRow_TooMany
  have ec_TooMany : ExcC K EK.TooMany := ⟨r1_TooMany, r2_TooMany, qb_TooMany, r3_TooMany, r4_TooMany, r6, r7, r5_TooMany⟩
  have ec_NoRow : ExcC K EK.NoRow := ⟨r1_NoRow, r2_NoRow, qb_NoRow, r3_NoRow, r4_NoRow, r6, r7, r5_NoRow⟩
  have b_len := PySem.W.mg_none_of X G z_len
  have b_range := PySem.W.mg_none_of X G z_range
  have b_max := PySem.W.mg_none_of X G z_max
  have b_isinstance := PySem.W.mg_none_of X G z_isinstance
  have b_bool := PySem.W.mg_none_of X G z_bool
  have b_int := PySem.W.mg_none_of X G z_int
  have b_tuple := PySem.W.mg_none_of X G z_tuple
  have b_ValueError := PySem.W.mg_none_of X G z_ValueError
  have b_list := PySem.W.mg_none_of X G z_list
  have b_str := PySem.W.mg_none_of X G z_str
  have m_LIMIT := PySem.W.mg_of X G y_LIMIT
  have m_MOST_FIGURES := PySem.W.mg_of X G y_MOST_FIGURES
  have m_FIGURES := PySem.W.mg_of X G y_FIGURES
  have c_L_count_by := ok_L_count_by (P := l.prog) (w := w) (base := base) (fun_mk (st := s_L_count_by) l0 c0 k0) (PySem.W.mg_of X G a0)
  have c_L_wide_by := ok_L_wide_by (P := l.prog) (w := w) (base := base) (fun_mk (st := s_L_wide_by) l1 c1 k1) (PySem.W.mg_of X G a1)
  have c_L_cell_at := ok_L_cell_at (P := l.prog) (w := w) (base := base) (fun_mk (st := s_L_cell_at) l2 c2 k2) (PySem.W.mg_of X G a2) b_len
  have c_L_mixed := ok_L_mixed (P := l.prog) (w := w) (base := base) (fun_mk (st := s_L_mixed) l3 c3 k3) (PySem.W.mg_of X G a3)
  have c_L_tight_by := ok_L_tight_by (P := l.prog) (w := w) (base := base) (fun_mk (st := s_L_tight_by) l4 c4 k4) (PySem.W.mg_of X G a4) b_range b_max c_L_mixed
  have c_L_job_by := ok_L_job_by (P := l.prog) (w := w) (base := base) (fun_mk (st := s_L_job_by) l5 c5 k5) (PySem.W.mg_of X G a5)
  have c_L_jobs_by := ok_L_jobs_by (P := l.prog) (w := w) (base := base) (fun_mk (st := s_L_jobs_by) l6 c6 k6) (PySem.W.mg_of X G a6) b_range b_len c_L_count_by c_L_cell_at c_L_wide_by c_L_tight_by c_L_job_by c_L_mixed
  have c_whole := ok_whole (P := l.prog) (w := w) (base := base) (fun_mk (st := s_whole) l7 c7 k7) (PySem.W.mg_of X G a7) b_isinstance b_bool b_int
  have c_sound := ok_sound (P := l.prog) (w := w) (base := base) (fun_mk (st := s_sound) l8 c8 k8) (PySem.W.mg_of X G a8) b_len b_isinstance b_tuple c_whole
  have c_looked := ok_looked (P := l.prog) (w := w) (base := base) (fun_mk (st := s_looked) l9 c9 k9) (PySem.W.mg_of X G a9) b_len m_LIMIT c_sound
  have c_written := ok_written (P := l.prog) (w := w) (base := base) (fun_mk (st := s_written) l10 c10 k10) (PySem.W.mg_of X G a10) c_looked
  have c_L_sign_by := ok_L_sign_by (P := l.prog) (w := w) (base := base) (fun_mk (st := s_L_sign_by) l11 c11 k11) (PySem.W.mg_of X G a11)
  have c_L_changed := ok_L_changed (P := l.prog) (w := w) (base := base) (fun_mk (st := s_L_changed) l12 c12 k12) (PySem.W.mg_of X G a12) b_len
  have c_number_of := ok_number_of (P := l.prog) (w := w) (base := base) (fun_mk (st := s_number_of) l13 c13 k13) (PySem.W.mg_of X G a13) b_len b_int m_MOST_FIGURES m_FIGURES
  have c_job_of := ok_job_of (P := l.prog) (w := w) (base := base) (fun_mk (st := s_job_of) l14 c14 k14) (PySem.W.mg_of X G a14) b_tuple e_NoRow c_number_of c_sound
  have c_read := ok_read (P := l.prog) (w := w) (base := base) (fun_mk (st := s_read) l15 c15 k15) (PySem.W.mg_of X G a15) m_LIMIT e_TooMany e_NoRow c_job_of
  have c_L_read := ok_L_read (P := l.prog) (w := w) (base := base) (fun_mk (st := s_L_read) l16 c16 k16) (PySem.W.mg_of X G a16) b_isinstance b_ValueError e_NoRow e_OutOfPlace e_BadJob e_TooMany e_RunError xm_TooMany_NoRow xm_NoRow_NoRow xm_TooMany_TooMany xm_NoRow_TooMany ec_TooMany ec_NoRow kt_TooMany_OutOfPlace kt_NoRow_OutOfPlace kt_TooMany_BadJob kt_NoRow_BadJob kt_TooMany_ValueError kt_NoRow_ValueError kt_TooMany_RunError kt_NoRow_RunError c_read
  have c_L_number := ok_L_number (P := l.prog) (w := w) (base := base) (fun_mk (st := s_L_number) l17 c17 k17) (PySem.W.mg_of X G a17) b_len
  have c_L_job_of := ok_L_job_of (P := l.prog) (w := w) (base := base) (fun_mk (st := s_L_job_of) l18 c18 k18) (PySem.W.mg_of X G a18) b_len c_L_number
  have c_L_due := ok_L_due (P := l.prog) (w := w) (base := base) (fun_mk (st := s_L_due) l19 c19 k19) (PySem.W.mg_of X G a19) c_L_job_of
  have c_L_figures := ok_L_figures (P := l.prog) (w := w) (base := base) (fun_mk (st := s_L_figures) l20 c20 k20) (PySem.W.mg_of X G a20)
  exact ok_law (fun_mk (st := s_law) l21 c21 k21) b_list b_isinstance b_str c_L_jobs_by c_L_figures c_written c_L_read c_L_sign_by c_L_cell_at c_L_changed c_L_due
theorem walk {l : PySem.W.OpenLaw} {q : Program} {loose : List Str} {XP : (Str → Option Value) → Heap → Prop} {YP : World → Heap → Prop} {d : DefRec} {K : Params → PySem.W.Frag} (hn : l.most = some 63) (hdf : d.params.defaults = [])
    (hY : ∀ (w : World) (h : Heap), YP w h → (K w.params).In h)
    (F : ∀ (w : World) (mg : Str → Option Value) (fa : Addr) (h : Heap), (K w.params).In h → h.Ns mainGlobals mg → mg d.name = some (.ref fa) →
      ∃ fd : FuncData, (∀ (s : Shared) (u : Value), BindsTo s fd ⟨[u], []⟩ [("_law_script", u)]) ∧ ∀ base : Heap, (K w.params).In base → base.Ns mainGlobals mg → FnOk l.prog w (K w.params) mg base CX0 6 fa fd ["_law_script"] (spLaw (K w.params))) :
    PySem.W.WalkO q loose XP YP l.row.toRowW d [] (fun f vs => PySem.call f vs) :=
  L2.walk_of (n := 63) (k := 6) (x := "_law_script") (CX := fun _ => CX0) (sp := fun w => spLaw (K w.params)) hn (by decide) hdf ⟨rfl, by decide, by decide⟩ hY F (fun _ _ a ns hl _ hS => ⟨a, ns, rfl, hS, hl, fun _ => rfl⟩) fun _ _ _ _ _ z => z
end DL

open PySem PySem.W PyProof.Rows in
set_option maxRecDepth 100000 in
set_option maxHeartbeats 0 in
theorem PySem.Challenge.cw_deadlinerun_k14_notes_holds : PySem.Challenge.rw_deadlinerun_k14_notes.Holds := by
  w_on; o_law; k_head; (case hw => w_witness2)
  k_fill
  refine DL.walk (l := PySem.Challenge.rw_deadlinerun_k14_notes) rfl rfl (fun w h Y => PySem.W.kIn_of Y) ?F
  case F =>
    intro w mg fa h KX G hmg
    refine' DL.all_mk KX G hmg ?a0 ?l0 ?c0 ?k0 ?a1 ?l1 ?c1 ?k1 ?a2 ?l2 ?c2 ?k2 ?a3 ?l3 ?c3 ?k3 ?a4 ?l4 ?c4 ?k4 ?a5 ?l5 ?c5 ?k5 ?a6 ?l6 ?c6 ?k6 ?a7 ?l7 ?c7 ?k7 ?a8 ?l8 ?c8 ?k8 ?a9 ?l9 ?c9 ?k9 ?a10 ?l10 ?c10 ?k10 ?a11 ?l11 ?c11 ?k11 ?a12 ?l12 ?c12 ?k12 ?a13 ?l13 ?c13 ?k13 ?a14 ?l14 ?c14 ?k14 ?a15 ?l15 ?c15 ?k15 ?a16 ?l16 ?c16 ?k16 ?a17 ?l17 ?c17 ?k17 ?a18 ?l18 ?c18 ?k18 ?a19 ?l19 ?c19 ?k19 ?a20 ?l20 ?c20 ?k20 ?a21 ?l21 ?c21 ?k21 ?z_len ?z_range ?z_max ?z_isinstance ?z_bool ?z_int ?z_tuple ?z_ValueError ?z_list ?z_str ?y_LIMIT ?y_MOST_FIGURES ?y_FIGURES ?qa_NoRow ?qx_NoRow ?qk_NoRow ?qb_NoRow ?qt_NoRow ?qi_NoRow ?qa_TooMany ?qx_TooMany ?qk_TooMany ?qb_TooMany ?qt_TooMany ?qi_TooMany ?qa_OutOfPlace ?qx_OutOfPlace ?qk_OutOfPlace ?qb_OutOfPlace ?qt_OutOfPlace ?qi_OutOfPlace ?qa_BadJob ?qx_BadJob ?qk_BadJob ?qb_BadJob ?qt_BadJob ?qi_BadJob ?qa_RunError ?qx_RunError ?qk_RunError ?qb_RunError ?qt_RunError ?qi_RunError ?qs_TooMany_NoRow ?qs_NoRow_NoRow ?qs_TooMany_TooMany ?qs_NoRow_TooMany ?r1_TooMany ?r2_TooMany ?r3_TooMany ?r4_TooMany ?r5_TooMany ?r1_NoRow ?r2_NoRow ?r3_NoRow ?r4_NoRow ?r5_NoRow ?r6 ?r7 ?kt_TooMany_OutOfPlace ?kt_NoRow_OutOfPlace ?kt_TooMany_BadJob ?kt_NoRow_BadJob ?kt_TooMany_ValueError ?kt_NoRow_ValueError ?kt_TooMany_RunError ?kt_NoRow_RunError
    (case a0 => k_is)
    (case l0 => k_is)
    (case c0 => k_is)
    (case k0 => k_is)
    (case a1 => k_is)
    (case l1 => k_is)
    (case c1 => k_is)
    (case k1 => k_is)
    (case a2 => k_is)
    (case l2 => k_is)
    (case c2 => k_is)
    (case k2 => k_is)
    (case a3 => k_is)
    (case l3 => k_is)
    (case c3 => k_is)
    (case k3 => k_is)
    (case a4 => k_is)
    (case l4 => k_is)
    (case c4 => k_is)
    (case k4 => k_is)
    (case a5 => k_is)
    (case l5 => k_is)
    (case c5 => k_is)
    (case k5 => k_is)
    (case a6 => k_is)
    (case l6 => k_is)
    (case c6 => k_is)
    (case k6 => k_is)
    (case a7 => k_is)
    (case l7 => k_is)
    (case c7 => k_is)
    (case k7 => k_is)
    (case a8 => k_is)
    (case l8 => k_is)
    (case c8 => k_is)
    (case k8 => k_is)
    (case a9 => k_is)
    (case l9 => k_is)
    (case c9 => k_is)
    (case k9 => k_is)
    (case a10 => k_is)
    (case l10 => k_is)
    (case c10 => k_is)
    (case k10 => k_is)
    (case a11 => k_is)
    (case l11 => k_is)
    (case c11 => k_is)
    (case k11 => k_is)
    (case a12 => k_is)
    (case l12 => k_is)
    (case c12 => k_is)
    (case k12 => k_is)
    (case a13 => k_is)
    (case l13 => k_is)
    (case c13 => k_is)
    (case k13 => k_is)
    (case a14 => k_is)
    (case l14 => k_is)
    (case c14 => k_is)
    (case k14 => k_is)
    (case a15 => k_is)
    (case l15 => k_is)
    (case c15 => k_is)
    (case k15 => k_is)
    (case a16 => k_is)
    (case l16 => k_is)
    (case c16 => k_is)
    (case k16 => k_is)
    (case a17 => k_is)
    (case l17 => k_is)
    (case c17 => k_is)
    (case k17 => k_is)
    (case a18 => k_is)
    (case l18 => k_is)
    (case c18 => k_is)
    (case k18 => k_is)
    (case a19 => k_is)
    (case l19 => k_is)
    (case c19 => k_is)
    (case k19 => k_is)
    (case a20 => k_is)
    (case l20 => k_is)
    (case c20 => k_is)
    (case k20 => k_is)
    (case a21 => k_is)
    (case l21 => k_is)
    (case c21 => k_is)
    (case k21 => k_is)
    (case z_len => k_is)
    (case z_range => k_is)
    (case z_max => k_is)
    (case z_isinstance => k_is)
    (case z_bool => k_is)
    (case z_int => k_is)
    (case z_tuple => k_is)
    (case z_ValueError => k_is)
    (case z_list => k_is)
    (case z_str => k_is)
    (case y_LIMIT => k_is)
    (case y_MOST_FIGURES => k_is)
    (case y_FIGURES => k_is)
    (case qa_NoRow => k_is)
    (case qx_NoRow => k_exc)
    (case qk_NoRow => k_is)
    (case qb_NoRow => k_is)
    (case qt_NoRow => k_is)
    (case qi_NoRow => k_is)
    (case qa_TooMany => k_is)
    (case qx_TooMany => k_exc)
    (case qk_TooMany => k_is)
    (case qb_TooMany => k_is)
    (case qt_TooMany => k_is)
    (case qi_TooMany => k_is)
    (case qa_OutOfPlace => k_is)
    (case qx_OutOfPlace => k_exc)
    (case qk_OutOfPlace => k_is)
    (case qb_OutOfPlace => k_is)
    (case qt_OutOfPlace => k_is)
    (case qi_OutOfPlace => k_is)
    (case qa_BadJob => k_is)
    (case qx_BadJob => k_exc)
    (case qk_BadJob => k_is)
    (case qb_BadJob => k_is)
    (case qt_BadJob => k_is)
    (case qi_BadJob => k_is)
    (case qa_RunError => k_is)
    (case qx_RunError => k_exc)
    (case qk_RunError => k_is)
    (case qb_RunError => k_is)
    (case qt_RunError => k_is)
    (case qi_RunError => k_is)
    (case qs_TooMany_NoRow => first | rfl | k_is)
    (case qs_NoRow_NoRow => first | rfl | k_is)
    (case qs_TooMany_TooMany => first | rfl | k_is)
    (case qs_NoRow_TooMany => first | rfl | k_is)
    (case r1_TooMany => k_is)
    (case r2_TooMany => k_is)
    (case r3_TooMany => k_is)
    (case r4_TooMany => k_is)
    (case r5_TooMany => k_is)
    (case r1_NoRow => k_is)
    (case r2_NoRow => k_is)
    (case r3_NoRow => k_is)
    (case r4_NoRow => k_is)
    (case r5_NoRow => k_is)
    (case r6 => k_is)
    (case r7 => k_is)
    (case kt_TooMany_OutOfPlace => first | rfl | k_is)
    (case kt_NoRow_OutOfPlace => first | rfl | k_is)
    (case kt_TooMany_BadJob => first | rfl | k_is)
    (case kt_NoRow_BadJob => first | rfl | k_is)
    (case kt_TooMany_ValueError => first | rfl | k_is)
    (case kt_NoRow_ValueError => first | rfl | k_is)
    (case kt_TooMany_RunError => first | rfl | k_is)
    (case kt_NoRow_RunError => first | rfl | k_is)
#print axioms PySem.Challenge.cw_deadlinerun_k14_notes_holds
