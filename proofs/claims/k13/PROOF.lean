import PyProof.Rows.All
import Wide.All
import OpenK.AllK
import Wide.FinOn
import HandS.ForMost
import HandS.Style
import HandS.IsInst
import HandS.SortKw
import HandS.SortRule
import HandS.Deep
import KE.DataMinMax
import HandS.ExcOwn
import HandS.WordsExc
import HandS.TryMany
import HandS.ExcIs
import HandS.FStr
import HandS.Text
import HandS.Codes
import KE.GoesComp
import PySem.Challenge.RW_deadlinerun_k13_whole_book
set_option Elab.async false
set_option linter.all false
set_option maxRecDepth 100000
set_option maxHeartbeats 4000000
/-! DL: a data calculus over the hand layer. A state is the list of what the slots hold as data (PyData); a reading is shown by big steps: Eb, Ep, En, Et, Ea (expressions), DX (statements). No heap is left in what one proves. -/
namespace DL
open PySem L2
/-- the written part (the script may be one of its lists) -/
class KK where
  K : PySem.W.Frag
variable [KK]
/-- the script's ints, as data: a list that is read alone -/
def frz (ns : List Int) : PyData := .dict (ns.map fun n => (.int n, .none))
def frzV (p : PyData × PyData) : V := match p.1 with
  | .int i => .int i
  | _ => .non
theorem frzV_map (ns : List Int) : (ns.map fun n => (PyData.int n, PyData.none)).map frzV = ns.map V.int := by
  rw [List.map_map]
  rfl

/-! ### data in a heap -/
mutual
def Da (H : Hp) : PyData → V → Prop
  | .none, v => v = .non
  | .bool b, v => v = .bl b
  | .int i, v => v = .int i
  | .str x, v => v = .str x
  | .list ds, v => ∃ a xs, v = .ref a ∧ H a = some (.lst xs) ∧ DaL H ds xs
  | .tuple ds, v => ∃ a xs, v = .ref a ∧ H a = some (.tup xs) ∧ DaL H ds xs
  | .dict kvs, v => ∃ a, v = .ref a ∧ SqL KK.K H a (kvs.map frzV)
def DaL (H : Hp) : List PyData → List V → Prop
  | [], xs => xs = []
  | d :: ds, xs => ∃ v vs, xs = v :: vs ∧ Da H d v ∧ DaL H ds vs
end
mutual
def imm : PyData → Bool
  | .list _ => false
  | .dict _ => false
  | .tuple ds => immL ds
  | .none => true
  | .bool _ => true
  | .int _ => true
  | .str _ => true
def immL : List PyData → Bool
  | [] => true
  | d :: ds => imm d && immL ds
end
mutual
theorem Da.mono {H H' : Hp} (e : Same H H') : ∀ (d : PyData) (v : V), Da H d v → Da H' d v
  | .none, _, h => h
  | .bool _, _, h => h
  | .int _, _, h => h
  | .str _, _, h => h
  | .list ds, _, h => by
    obtain ⟨a, xs, e1, h, q⟩ := h
    exact ⟨a, xs, e1, e a _ h, DaL.mono e ds xs q⟩
  | .tuple ds, _, h => by
    obtain ⟨a, xs, e1, h, q⟩ := h
    exact ⟨a, xs, e1, e a _ h, DaL.mono e ds xs q⟩
  | .dict kvs, _, h => by
    obtain ⟨a, e1, h⟩ := h
    exact ⟨a, e1, e.seq h⟩
theorem DaL.mono {H H' : Hp} (e : Same H H') : ∀ (ds : List PyData) (xs : List V), DaL H ds xs → DaL H' ds xs
  | [], _, h => h
  | d :: ds, _, h => by
    obtain ⟨v, vs, e1, h1, h2⟩ := h
    exact ⟨v, vs, e1, Da.mono e d v h1, DaL.mono e ds vs h2⟩
end
/-- what never changes hangs on the tuples alone -/
def Tups (H H' : Hp) : Prop := ∀ a xs, H a = some (.tup xs) → H' a = some (.tup xs)
mutual
theorem Da.tups {H H' : Hp} (e : Tups H H') : ∀ (d : PyData) (v : V), imm d = true → Da H d v → Da H' d v
  | .none, _, _, h => h
  | .bool _, _, _, h => h
  | .int _, _, _, h => h
  | .str _, _, _, h => h
  | .list ds, _, i, h => by cases i
  | .tuple ds, _, i, h => by
    obtain ⟨a, xs, e1, h, q⟩ := h
    exact ⟨a, xs, e1, e a _ h, DaL.tups e ds xs i q⟩
  | .dict _, _, i, h => by cases i
theorem DaL.tups {H H' : Hp} (e : Tups H H') : ∀ (ds : List PyData) (xs : List V), immL ds = true → DaL H ds xs → DaL H' ds xs
  | [], _, _, h => h
  | d :: ds, _, i, h => by
    obtain ⟨v, vs, e1, h1, h2⟩ := h
    have i' : (imm d && immL ds) = true := i
    rw [Bool.and_eq_true] at i'
    exact ⟨v, vs, e1, Da.tups e d v i'.1 h1, DaL.tups e ds vs i'.2 h2⟩
end
theorem DaL.length {H : Hp} : ∀ {ds : List PyData} {xs : List V}, DaL H ds xs → xs.length = ds.length
  | [], _, h => by
    have e : _ = [] := h
    rw [e]
    rfl
  | d :: ds, _, h => by
    obtain ⟨v, vs, e1, h1, h2⟩ := h
    rw [e1, List.length_cons, List.length_cons, DaL.length h2]
theorem DaL.get {H : Hp} : ∀ {ds : List PyData} {xs : List V} {i : Nat} {d : PyData}, DaL H ds xs → ds[i]? = some d → ∃ v, xs[i]? = some v ∧ Da H d v
  | [], _, _, _, _, e => by simp at e
  | d :: ds, _, 0, _, h, e => by
    obtain ⟨v, vs, e1, h1, h2⟩ := h
    have e' := Option.some.inj e
    subst e'
    exact ⟨v, by rw [e1]; rfl, h1⟩
  | d :: ds, _, i + 1, _, h, e => by
    obtain ⟨v, vs, e1, h1, h2⟩ := h
    obtain ⟨w, q1, q2⟩ := DaL.get (i := i) h2 (by simpa using e)
    exact ⟨w, by rw [e1]; simpa using q1, q2⟩
theorem DaL.get' {H : Hp} : ∀ {ds : List PyData} {xs : List V} {i : Nat} {v : V}, DaL H ds xs → xs[i]? = some v → ∃ d, ds[i]? = some d ∧ Da H d v := fun {ds xs i v} h e => by
  have hi : i < xs.length := (List.getElem?_eq_some_iff.mp e).1
  rw [h.length] at hi
  obtain ⟨w, q1, q2⟩ := h.get (List.getElem?_eq_getElem hi)
  rw [e] at q1
  cases q1
  exact ⟨_, List.getElem?_eq_getElem hi, q2⟩
theorem DaL.append {H : Hp} : ∀ {ds es : List PyData} {xs ys : List V}, DaL H ds xs → DaL H es ys → DaL H (ds ++ es) (xs ++ ys)
  | [], _, _, _, h, h' => by
    have e : _ = [] := h
    rw [e]
    exact h'
  | d :: ds, _, _, _, h, h' => by
    obtain ⟨v, vs, e1, h1, h2⟩ := h
    rw [e1]
    exact ⟨v, _, rfl, h1, DaL.append h2 h'⟩
theorem DaL.one {H : Hp} {d : PyData} {v : V} (h : Da H d v) : DaL H [d] [v] := ⟨v, [], rfl, h, rfl⟩
theorem DaL.take {H : Hp} : ∀ {ds : List PyData} {xs : List V} (n : Nat), DaL H ds xs → DaL H (ds.take n) (xs.take n)
  | [], _, n, h => by
    have e : _ = [] := h
    rw [e, List.take_nil, List.take_nil]
    rfl
  | d :: ds, _, 0, h => rfl
  | d :: ds, _, n + 1, h => by
    obtain ⟨v, vs, e1, h1, h2⟩ := h
    rw [e1]
    exact ⟨v, _, rfl, h1, DaL.take n h2⟩
theorem DaL.drop {H : Hp} : ∀ {ds : List PyData} {xs : List V} (n : Nat), DaL H ds xs → DaL H (ds.drop n) (xs.drop n)
  | [], _, n, h => by
    have e : _ = [] := h
    rw [e, List.drop_nil, List.drop_nil]
    rfl
  | d :: ds, _, 0, h => h
  | d :: ds, _, n + 1, h => by
    obtain ⟨v, vs, e1, h1, h2⟩ := h
    rw [e1]
    exact DaL.drop n h2
theorem DaL.set {H : Hp} : ∀ {ds : List PyData} {xs : List V} (n : Nat) {d : PyData} {v : V}, DaL H ds xs → Da H d v → DaL H (ds.set n d) (xs.set n v)
  | [], _, n, _, _, h, _ => by
    have e : _ = [] := h
    rw [e]
    rfl
  | d :: ds, _, 0, _, _, h, h' => by
    obtain ⟨v, vs, e1, h1, h2⟩ := h
    rw [e1]
    exact ⟨_, _, rfl, h', h2⟩
  | d :: ds, _, n + 1, _, _, h, h' => by
    obtain ⟨v, vs, e1, h1, h2⟩ := h
    rw [e1]
    exact ⟨_, _, rfl, h1, DaL.set n h2 h'⟩
theorem DaL.reverse {H : Hp} : ∀ {ds : List PyData} {xs : List V}, DaL H ds xs → DaL H ds.reverse xs.reverse
  | [], _, h => by
    have e : _ = [] := h
    rw [e]
    rfl
  | d :: ds, _, h => by
    obtain ⟨v, vs, e1, h1, h2⟩ := h
    rw [e1, List.reverse_cons, List.reverse_cons]
    exact DaL.append (DaL.reverse h2) (.one h1)
theorem DaL.rep {H : Hp} {ds : List PyData} {xs : List V} (h : DaL H ds xs) : ∀ n : Nat, DaL H (List.replicate n ds).flatten (List.replicate n xs).flatten
  | 0 => rfl
  | n + 1 => by
    rw [List.replicate_succ, List.replicate_succ, List.flatten_cons, List.flatten_cons]
    exact DaL.append h (DaL.rep h n)
theorem DaL.ints {H : Hp} : ∀ {ns : List Int} {xs : List V}, DaL H (ns.map PyData.int) xs → xs = ns.map V.int
  | [], _, h => h
  | n :: ns, _, h => by
    obtain ⟨v, vs, e1, h1, h2⟩ := h
    have e2 := DaL.ints (ns := ns) h2
    have e3 : v = .int n := h1
    rw [e1, e2, e3] <;> rfl
theorem DaL.of_ints {H : Hp} : ∀ {ns : List Int}, DaL H (ns.map PyData.int) (ns.map V.int)
  | [] => rfl
  | n :: ns => ⟨_, _, rfl, rfl, DaL.of_ints⟩
omit [KK] in
theorem immL_append {ds es : List PyData} (h : immL ds = true) (h' : immL es = true) : immL (ds ++ es) = true := by
  induction ds with
  | nil => exact h'
  | cons d ds ih =>
    have i' : (imm d && immL ds) = true := h
    rw [Bool.and_eq_true] at i'
    show (imm d && immL (ds ++ es)) = true
    rw [i'.1, ih i'.2] <;> rfl
omit [KK] in
theorem immL_iff {ds : List PyData} : immL ds = true ↔ ∀ d ∈ ds, imm d = true := by
  induction ds with
  | nil => exact ⟨fun _ d h => absurd h (by simp), fun _ => rfl⟩
  | cons d ds ih =>
    show (imm d && immL ds) = true ↔ _
    rw [Bool.and_eq_true, ih]
    simp
omit [KK] in
theorem immL_map {α : Type} {f : α → PyData} {l : List α} (h : ∀ x ∈ l, imm (f x) = true) : immL (l.map f) = true := by
  rw [immL_iff]
  intro d hd
  obtain ⟨x, hx, rfl⟩ := List.mem_map.mp hd
  exact h x hx
omit [KK] in
theorem immL_ints (ns : List Int) : immL (ns.map PyData.int) = true := immL_map fun _ _ => rfl

/-! ### what the slots hold -/
inductive Sl where
  | no
  /-- a value, told by its data -/
  | va (d : PyData)
  /-- a list that no one else holds -/
  | ow (ds : List PyData)
  /-- an instance of the class C, at b, whose one field holds a list: no one else changes it -/
  | bk (C b : Addr) (ds : List PyData)
  /-- the same, read alone -/
  | bp (C b : Addr) (ds : List PyData)
  /-- a list of such instances -/
  | bl (C : Addr) (ps : List (Addr × List PyData))
abbrev DSt := List Sl
def Sl.books : Sl → List Addr
  | .bk _ b _ => [b]
  | .bl _ ps => ps.map (·.1)
  | _ => []
def OwnL (σ : St) (S : DSt) (l : Addr) : Prop := ∃ (i : Nat) (ds : List PyData), S[i]? = some (.ow ds) ∧ σ[i]? = some (some (.ref l))
def OwnB (S : DSt) (l : Addr) : Prop := ∃ (i : Nat) (s : Sl), S[i]? = some s ∧ l ∈ s.books
def Own (σ : St) (S : DSt) (l : Addr) : Prop := OwnL σ S l ∨ OwnB S l
open Classical in
/-- the heap without the owned lists and instances -/
noncomputable def Gm (σ : St) (S : DSt) (H : Hp) : Hp := fun a => if Own σ S a then none else H a
/-- an instance at b holds ds (in H; what hangs on it in G) -/
def BkAt (H G : Hp) (C b : Addr) (ds : List PyData) : Prop :=
  ∃ dx h xs, H b = some (.ins C dx [(Str.ofString "held", .ref h)]) ∧ G dx = some (.own b) ∧ G h = some (.lst xs) ∧ DaL G ds xs ∧ immL ds = true
theorem BkAt.mono {H H' G G' : Hp} {C b : Addr} {ds : List PyData} (e : Same G G') (eb : ∀ o, H b = some o → H' b = some o) (h : BkAt H G C b ds) : BkAt H' G' C b ds :=
  let ⟨dx, l, xs, h1, h2, h3, h4, h5⟩ := h
  ⟨dx, l, xs, eb _ h1, e _ _ h2, e _ _ h3, DaL.mono e _ _ h4, h5⟩
def SlOk (H G : Hp) (v : Option (Option V)) : Sl → Prop
  | .bk C b ds => v = some (some (.ref b)) ∧ BkAt H G C b ds
  | .bp C b ds => v = some (some (.ref b)) ∧ BkAt G G C b ds
  | .bl C ps => (∃ l, v = some (some (.ref l)) ∧ G l = some (.lst (ps.map fun p => .ref p.1))) ∧ (ps.map (·.1)).Nodup ∧ ∀ p ∈ ps, BkAt H G C p.1 p.2
  | .no => True
  | .va _ => True
  | .ow _ => True
theorem SlOk.mono {H H' G G' : Hp} {v : Option (Option V)} : ∀ {s : Sl}, Same G G' → (∀ a o, a ∈ s.books → H a = some o → H' a = some o) → SlOk H G v s → SlOk H' G' v s
  | .bk C b ds, e, eb, h => ⟨h.1, h.2.mono e fun o q => eb b o (by simp [Sl.books]) q⟩
  | .bp C b ds, e, _, h => ⟨h.1, h.2.mono e fun o q => e b o q⟩
  | .bl C ps, e, eb, h => ⟨let ⟨l, h1, h2⟩ := h.1; ⟨l, h1, e l _ h2⟩, h.2.1, fun p hp => (h.2.2 p hp).mono e fun o q => eb p.1 o (List.mem_map_of_mem hp) q⟩
  | .no, _, _, _ => trivial
  | .va _, _, _, _ => trivial
  | .ow _, _, _, _ => trivial
theorem SlOk.ins {H G : Hp} {v : Option (Option V)} {a : Addr} : ∀ {s : Sl}, SlOk H G v s → a ∈ s.books → ∃ C dx fs, H a = some (.ins C dx fs)
  | .bk C b ds, h, ha => by
    have e : a = b := by simpa [Sl.books] using ha
    subst e
    obtain ⟨_, dx, _, _, h1, _⟩ := h
    exact ⟨C, dx, _, h1⟩
  | .bl C ps, h, ha => by
    obtain ⟨p, hp, rfl⟩ := List.mem_map.mp ha
    obtain ⟨dx, _, _, h1, _⟩ := h.2.2 p hp
    exact ⟨C, dx, _, h1⟩
  | .bp C b ds, _, ha => by cases ha
  | .no, _, ha => by cases ha
  | .va _, _, ha => by cases ha
  | .ow _, _, ha => by cases ha
structure Rl (H : Hp) (σ : St) (S : DSt) : Prop where
  len : σ.length = S.length
  va : ∀ (i : Nat) d, S[i]? = some (.va d) → ∃ v, σ[i]? = some (some v) ∧ Da (Gm σ S H) d v
  ow : ∀ (i : Nat) ds, S[i]? = some (.ow ds) → ∃ l xs, σ[i]? = some (some (.ref l)) ∧ H l = some (.lst xs) ∧ DaL (Gm σ S H) ds xs
  sep : ∀ (i j : Nat) ds es l, S[i]? = some (.ow ds) → S[j]? = some (.ow es) → σ[i]? = some (some (.ref l)) → σ[j]? = some (some (.ref l)) → i = j
  bo : ∀ (i : Nat) s, S[i]? = some s → SlOk H (Gm σ S H) σ[i]? s
  one : ∀ (i j : Nat) s t, S[i]? = some s → S[j]? = some t → s.books ≠ [] → t.books ≠ [] → i = j

section
variable {H H1 H2 : Hp} {σ : St} {S : DSt}
theorem Gm_some {a : Addr} {o : HO} (h : Gm σ S H a = some o) : ¬ Own σ S a ∧ H a = some o := by
  unfold Gm at h
  split at h
  · cases h
  · exact ⟨by assumption, h⟩
theorem Gm_of {a : Addr} {o : HO} (n : ¬ Own σ S a) (h : H a = some o) : Gm σ S H a = some o := by
  unfold Gm
  rw [if_neg n]
  exact h
theorem Gm_le : Same (Gm σ S H) H := fun a o h => (Gm_some h).2
theorem Gm_mono (e : Same H H1) : Same (Gm σ S H) (Gm σ S H1) := fun a o h => Gm_of (Gm_some h).1 (e a o (Gm_some h).2)
theorem Rl.mono (r : Rl H σ S) (e : Same H H1) : Rl H1 σ S :=
  ⟨r.len, fun i d h => let ⟨v, h1, h2⟩ := r.va i d h; ⟨v, h1, Da.mono (Gm_mono e) d v h2⟩,
    fun i ds h => let ⟨l, xs, h1, h2, h3⟩ := r.ow i ds h; ⟨l, xs, h1, e l _ h2, DaL.mono (Gm_mono e) ds xs h3⟩, r.sep, fun i s h => (r.bo i s h).mono (Gm_mono e) fun a o _ q => e a o q, r.one⟩
theorem Rl.owned (r : Rl H σ S) {l : Addr} (h : Own σ S l) : (∃ xs, H l = some (.lst xs)) ∨ ∃ C dx fs, H l = some (.ins C dx fs) := by
  rcases h with ⟨i, ds, h1, h2⟩ | ⟨i, s, h1, h2⟩
  · obtain ⟨l', xs, h3, h4, _⟩ := r.ow i ds h1
    rw [h2] at h3
    cases h3
    exact .inl ⟨xs, h4⟩
  · exact .inr ((r.bo i s h1).ins h2)
theorem Rl.notOwn (r : Rl H σ S) {l : Addr} (h : H l = none) : ¬ Own σ S l := fun o => by
  rcases r.owned o with ⟨xs, h'⟩ | ⟨C, dx, fs, h'⟩
  · rw [h] at h'
    cases h'
  · rw [h] at h'
    cases h'
theorem Rl.tups (r : Rl H σ S) : Tups H (Gm σ S H) := fun a xs h => Gm_of (fun o => by
  rcases r.owned o with ⟨ys, h'⟩ | ⟨C, dx, fs, h'⟩
  · rw [h] at h'
    cases h'
  · rw [h] at h'
    cases h') h
theorem Rl.imm (r : Rl H σ S) {d : PyData} {v : V} (i : imm d = true) (h : Da H d v) : Da (Gm σ S H) d v := Da.tups r.tups d v i h
theorem Rl.immL (r : Rl H σ S) {ds : List PyData} {xs : List V} (i : immL ds = true) (h : DaL H ds xs) : DaL (Gm σ S H) ds xs := DaL.tups r.tups ds xs i h
def noOw : DSt → Bool
  | [] => true
  | .ow _ :: _ => false
  | .no :: S => noOw S
  | .va _ :: S => noOw S
  | .bk _ _ _ :: _ => false
  | .bp _ _ _ :: S => noOw S
  | .bl _ _ :: _ => false
theorem noOw_get : ∀ {S : DSt}, noOw S = true → ∀ (i : Nat) s, S[i]? = some s → (∀ ds, s ≠ .ow ds) ∧ s.books = []
  | [], _, i, s, h => by simp at h
  | .no :: S, h, 0, _, e => by cases e; exact ⟨fun ds z => by (cases z), rfl⟩
  | .va _ :: S, h, 0, _, e => by cases e; exact ⟨fun ds z => by (cases z), rfl⟩
  | .bp _ _ _ :: S, h, 0, _, e => by cases e; exact ⟨fun ds z => by (cases z), rfl⟩
  | .no :: S, h, i + 1, s, e => noOw_get (S := S) h i s (by simpa using e)
  | .va _ :: S, h, i + 1, s, e => noOw_get (S := S) h i s (by simpa using e)
  | .bp _ _ _ :: S, h, i + 1, s, e => noOw_get (S := S) h i s (by simpa using e)
  | .ow _ :: S, h, _, _, _ => by cases h
  | .bk _ _ _ :: S, h, _, _, _ => by cases h
  | .bl _ _ :: S, h, _, _, _ => by cases h
theorem Gm_free (h : noOw S = true) : Gm σ S H = H := by
  funext a
  unfold Gm
  rw [if_neg]
  rintro (⟨i, ds, h1, _⟩ | ⟨i, s, h1, h2⟩)
  · exact (noOw_get h i _ h1).1 ds rfl
  · rw [(noOw_get h i _ h1).2] at h2
    cases h2
/-- no owned list (but instances, perhaps) -/
def noOwL : DSt → Bool
  | [] => true
  | .ow _ :: _ => false
  | .no :: S => noOwL S
  | .va _ :: S => noOwL S
  | .bk _ _ _ :: S => noOwL S
  | .bp _ _ _ :: S => noOwL S
  | .bl _ _ :: S => noOwL S
theorem noOwL_get : ∀ {S : DSt}, noOwL S = true → ∀ (i : Nat) ds, S[i]? ≠ some (.ow ds)
  | [], _, i, ds, h => by simp at h
  | .no :: S, h, 0, _, e => by simp at e
  | .va _ :: S, h, 0, _, e => by simp at e
  | .bk _ _ _ :: S, h, 0, _, e => by simp at e
  | .bp _ _ _ :: S, h, 0, _, e => by simp at e
  | .bl _ _ :: S, h, 0, _, e => by simp at e
  | .no :: S, h, i + 1, ds, e => noOwL_get (S := S) h i ds (by simpa using e)
  | .va _ :: S, h, i + 1, ds, e => noOwL_get (S := S) h i ds (by simpa using e)
  | .bk _ _ _ :: S, h, i + 1, ds, e => noOwL_get (S := S) h i ds (by simpa using e)
  | .bp _ _ _ :: S, h, i + 1, ds, e => noOwL_get (S := S) h i ds (by simpa using e)
  | .bl _ _ :: S, h, i + 1, ds, e => noOwL_get (S := S) h i ds (by simpa using e)
  | .ow _ :: _, h, _, _, _ => by cases h
/-- data do not hang on instances -/
def NoIns (o : HO) : Prop := ∀ C dx fs, o ≠ .ins C dx fs
def But (H H' : Hp) : Prop := ∀ a o, H a = some o → NoIns o → H' a = some o
mutual
theorem Da.but {H H' : Hp} (e : But H H') : ∀ (d : PyData) (v : V), Da H d v → Da H' d v
  | .none, _, h => h
  | .bool _, _, h => h
  | .int _, _, h => h
  | .str _, _, h => h
  | .list ds, _, h => by
    obtain ⟨a, xs, e1, h, q⟩ := h
    exact ⟨a, xs, e1, e a _ h (fun C dx fs z => by cases z), DaL.but e ds xs q⟩
  | .tuple ds, _, h => by
    obtain ⟨a, xs, e1, h, q⟩ := h
    exact ⟨a, xs, e1, e a _ h (fun C dx fs z => by cases z), DaL.but e ds xs q⟩
  | .dict kvs, _, h => by
    obtain ⟨a, e1, h⟩ := h
    refine ⟨a, e1, ?_⟩
    rcases h with (h | ⟨o, h⟩) | h
    · exact .inl (.inl (e _ _ h (fun C dx fs z => by cases z)))
    · exact .inl (.inr ⟨o, e _ _ h (fun C dx fs z => by cases z)⟩)
    · exact .inr h
theorem DaL.but {H H' : Hp} (e : But H H') : ∀ (ds : List PyData) (xs : List V), DaL H ds xs → DaL H' ds xs
  | [], _, h => h
  | d :: ds, _, h => by
    obtain ⟨v, vs, e1, h1, h2⟩ := h
    exact ⟨v, vs, e1, Da.but e d v h1, DaL.but e ds vs h2⟩
end
theorem Gm_but (r : Rl H σ S) (n : noOwL S = true) : But H (Gm σ S H) := fun a o h hn => Gm_of (fun w => by
  rcases w with ⟨i, ds, h1, _⟩ | ⟨i, s, h1, h2⟩
  · exact noOwL_get n i ds h1
  · obtain ⟨C, dx, fs, q⟩ := (r.bo i s h1).ins h2
    rw [h] at q
    exact hn C dx fs (Option.some.inj q)) h
end

/-! ### judgements -/
/-- evaluates to (the value may reach owned lists: borrowed) -/
def Eb (te : TE) (S : DSt) (d : PyData) : Prop := ∀ H σ, Rl H σ S → ∀ Q : VK, (∀ v H1, Same H H1 → Da H1 d v → Q v H1) → te σ H Q
/-- evaluates to, and no owned list is reached from it -/
def Ep (te : TE) (S : DSt) (d : PyData) : Prop := ∀ H σ, Rl H σ S → ∀ Q : VK, (∀ v H1, Same H H1 → Da (Gm σ S H1) d v → Q v H1) → te σ H Q
/-- evaluates to a new list -/
def En (te : TE) (S : DSt) (ds : List PyData) : Prop := ∀ H σ, Rl H σ S → ∀ Q : VK, (∀ l H1, Same H H1 → H l = none → Da H1 (.list ds) (.ref l) → Q (.ref l) H1) → te σ H Q
def Et (tt : TT) (S : DSt) (b : Bool) : Prop := ∀ H σ, Rl H σ S → ∀ Q : Bool → Hp → Prop, (∀ H1, Same H H1 → Q b H1) → tt σ H Q
def Ea (ta : TA) (S : DSt) (ds : List PyData) : Prop := ∀ H σ, Rl H σ S → ∀ Q : List V → Hp → Prop, (∀ vs H1, Same H H1 → DaL H1 ds vs → Q vs H1) → ta σ H Q
def Eap (ta : TA) (S : DSt) (ds : List PyData) : Prop := ∀ H σ, Rl H σ S → ∀ Q : List V → Hp → Prop, (∀ vs H1, Same H H1 → DaL (Gm σ S H1) ds vs → Q vs H1) → ta σ H Q
/-- a slice's part -/
def Eo (to : TO) (S : DSt) (o : Option Int) : Prop := ∀ H σ, Rl H σ S → ∀ Q : Option Int → Hp → Prop, (∀ H1, Same H H1 → Q o H1) → to σ H Q

section
variable {S : DSt} {te ta tb tc : TE} {tt tu : TT} {d d1 d2 : PyData} {ds es : List PyData} {K : PySem.W.Frag}
theorem Ep.b (h : Ep te S d) : Eb te S d := fun H σ r Q q => h H σ r Q fun v H1 e h1 => q v H1 e (Da.mono Gm_le d v h1)
theorem Ep.imm (h : Eb te S d) (i : imm d = true) : Ep te S d := fun H σ r Q q => h H σ r Q fun v H1 e h1 => q v H1 e ((r.mono e).imm i h1)
theorem Ep.free (h : Eb te S d) (n : noOw S = true) : Ep te S d := fun H σ r Q q => h H σ r Q fun v H1 e h1 => q v H1 e (by rw [Gm_free n]; exact h1)
theorem En.b (h : En te S ds) : Eb te S (.list ds) := fun H σ r Q q => h H σ r Q fun l H1 e _ h1 => q _ H1 e h1
theorem Ep.freeB (h : Eb te S d) (n : noOwL S = true) : Ep te S d := fun H σ r Q q => h H σ r Q fun v H1 e h1 => q v H1 e (Da.but (Gm_but (r.mono e) n) d v h1)
theorem Ep.new (h : En te S ds) (i : immL ds = true) : Ep te S (.list ds) := fun H σ r Q q => h H σ r Q fun l H1 e hl h1 => q _ H1 e (by
  obtain ⟨a, xs, e1, h2, h3⟩ := h1
  cases e1
  exact ⟨l, xs, rfl, Gm_of (r.notOwn hl) h2, (r.mono e).immL i h3⟩)
theorem Eb.to {d' : PyData} (h : Eb te S d) (e : d = d') : Eb te S d' := e ▸ h
theorem Ep.to {d' : PyData} (h : Ep te S d) (e : d = d') : Ep te S d' := e ▸ h
theorem En.to {ds' : List PyData} (h : En te S ds) (e : ds = ds') : En te S ds' := e ▸ h
theorem Et.to {b b' : Bool} (h : Et tt S b) (e : b = b') : Et tt S b' := e ▸ h

/-! names, constants -/
theorem e_var {i : Nat} (h : S[i]? = some (.va d)) : Ep (tVar i) S d := fun H σ r Q q => by
  obtain ⟨v, h1, h2⟩ := r.va i d h
  exact ⟨v, h1, q v H (Same.refl H) h2⟩
theorem e_own {i : Nat} (h : S[i]? = some (.ow ds)) : Eb (tVar i) S (.list ds) := fun H σ r Q q => by
  obtain ⟨l, xs, h1, h2, h3⟩ := r.ow i ds h
  exact ⟨.ref l, h1, q _ H (Same.refl H) ⟨l, xs, rfl, h2, DaL.mono Gm_le ds xs h3⟩⟩
theorem e_int {i : Int} : Eb (tC (.int i)) S (.int i) := fun H σ r Q q => q _ H (Same.refl H) rfl
theorem e_bl {b : Bool} : Eb (tC (.bl b)) S (.bool b) := fun H σ r Q q => q _ H (Same.refl H) rfl
theorem e_non : Eb (tC .non) S .none := fun H σ r Q q => q _ H (Same.refl H) rfl
theorem e_str {x : Str} : Eb (tC (.str x)) S (.str x) := fun H σ r Q q => q _ H (Same.refl H) rfl

/-! two operands -/
theorem e_op {r : R2} (ha : Eb ta S d1) (hb : Eb tb S d2) (hr : ∀ (x y : V) (H : Hp) (Q : VK), Da H d1 x → Da H d2 y → (∀ v H1, Same H H1 → Da H1 d v → Q v H1) → r x y H Q) : Eb (tOp r ta tb) S d := fun H σ rl Q q =>
  ha H σ rl _ fun x H1 e1 h1 => hb H1 σ (rl.mono e1) _ fun y H2 e2 h2 => hr x y H2 Q (Da.mono e2 _ _ h1) h2 fun v H3 e3 h3 => q v H3 ((e1.trans e2).trans e3) h3
theorem e_opN {r : R2} (ha : Eb ta S d1) (hb : Eb tb S d2) (hr : ∀ (x y : V) (H : Hp) (Q : VK), Da H d1 x → Da H d2 y → (∀ l H1, Same H H1 → H l = none → Da H1 (.list ds) (.ref l) → Q (.ref l) H1) → r x y H Q) : En (tOp r ta tb) S ds := fun H σ rl Q q =>
  ha H σ rl _ fun x H1 e1 h1 => hb H1 σ (rl.mono e1) _ fun y H2 e2 h2 => hr x y H2 Q (Da.mono e2 _ _ h1) h2 fun l H3 e3 hl h3 => q l H3 ((e1.trans e2).trans e3) ((e1.trans e2).free hl) h3
theorem e_un {r : V → Hp → VK → Prop} (ha : Eb ta S d1) (hr : ∀ (x : V) (H : Hp) (Q : VK), Da H d1 x → (∀ v H1, Same H H1 → Da H1 d v → Q v H1) → r x H Q) : Eb (tUn r ta) S d := fun H σ rl Q q =>
  ha H σ rl _ fun x H1 e1 h1 => hr x H1 Q h1 fun v H3 e3 h3 => q v H3 (e1.trans e3) h3
/-- two ints: an int; a bool -/
theorem e_ii {g : Int → Int → Int} {i j : Int} (ha : Eb ta S (.int i)) (hb : Eb tb S (.int j)) : Eb (tOp (rI0 fun i j => .int (g i j)) ta tb) S (.int (g i j)) :=
  e_op ha hb fun x y H Q h1 h2 q => ⟨i, j, h1, h2, q _ H (Same.refl H) rfl⟩
theorem e_ib {g : Int → Int → Bool} {i j : Int} (ha : Eb ta S (.int i)) (hb : Eb tb S (.int j)) : Eb (tOp (rI0 fun i j => .bl (g i j)) ta tb) S (.bool (g i j)) :=
  e_op ha hb fun x y H Q h1 h2 q => ⟨i, j, h1, h2, q _ H (Same.refl H) rfl⟩
theorem e_iic {C : Int → Int → Prop} {g : Int → Int → Int} {i j : Int} (ha : Eb ta S (.int i)) (hb : Eb tb S (.int j)) (hc : C i j) : Eb (tOp (rI C fun i j => .int (g i j)) ta tb) S (.int (g i j)) :=
  e_op ha hb fun x y H Q h1 h2 q => ⟨i, j, h1, h2, hc, q _ H (Same.refl H) rfl⟩
theorem e_neg {i : Int} (ha : Eb ta S (.int i)) : Eb (tUn (rU fun i => .int (-i)) ta) S (.int (-i)) := e_un ha fun x H Q h q => ⟨i, h, q _ H (Same.refl H) rfl⟩
omit [KK] in
/-- + : ints, lists, texts -/
def rAddStr : R2 := fun x y H Q => ∃ i j, x = .str i ∧ y = .str j ∧ i.length + j.length ≤ sizeLine ∧ Q (.str (i ++ j)) H
omit [KK] in
def rPlus : R2 := fun x y H Q => rI0 (fun i j => .int (i + j)) x y H Q ∨ (rCat x y H Q ∨ rAddStr x y H Q)
omit [KK] in
theorem op_plus {X : Cx} : OpR X (binaryOp .Add) rPlus := op_add.or (op_cat.or op_add_str)
theorem e_add {i j : Int} (ha : Eb ta S (.int i)) (hb : Eb tb S (.int j)) : Eb (tOp rPlus ta tb) S (.int (i + j)) :=
  e_op ha hb fun x y H Q h1 h2 q => .inl ⟨i, j, h1, h2, q _ H (Same.refl H) rfl⟩
omit [KK] in
theorem line_of {n : Nat} (h : n ≤ 100000) : n ≤ sizeLine := Nat.le_trans h (by decide)
theorem e_cat (ha : Eb ta S (.list ds)) (hb : Eb tb S (.list es)) (hz : ds.length + es.length ≤ 100000) : En (tOp rPlus ta tb) S (ds ++ es) :=
  e_opN ha hb fun x y H Q h1 h2 q => by
    obtain ⟨a, xs, rfl, h1, h3⟩ := h1
    obtain ⟨b, ys, rfl, h2, h4⟩ := h2
    refine .inr (.inl ⟨a, b, xs, ys, rfl, rfl, h1, h2, line_of (by rw [h3.length, h4.length]; exact hz), fun p hp => ?_⟩)
    have sm : Same H (upd H p (.lst (xs ++ ys))) := fun c o e => by rw [upd_ne (ne_of_none e hp)]; exact e
    exact q p _ sm hp ⟨p, _, rfl, upd_same, DaL.mono sm _ _ (h3.append h4)⟩
theorem e_addS {x y : Str} (ha : Eb ta S (.str x)) (hb : Eb tb S (.str y)) (hz : x.length + y.length ≤ 100000) : Eb (tOp rPlus ta tb) S (.str (x ++ y)) :=
  e_op ha hb fun _ _ H Q h1 h2 q => .inr (.inr ⟨x, y, h1, h2, line_of hz, q _ H (Same.refl H) rfl⟩)
omit [KK] in
/-- * : ints (one below 2 ^ 64), a list and a number -/
def rTimes : R2 := fun x y H Q => rI CMul (fun i j => .int (i * j)) x y H Q ∨ rRep x y H Q
omit [KK] in
theorem op_times {X : Cx} : OpR X (binaryOp .Mult) rTimes := op_mul.or op_rep
theorem e_mul {i j : Int} (ha : Eb ta S (.int i)) (hb : Eb tb S (.int j)) (hc : CMul i j) : Eb (tOp rTimes ta tb) S (.int (i * j)) :=
  e_op ha hb fun x y H Q h1 h2 q => .inl ⟨i, j, h1, h2, hc, q _ H (Same.refl H) rfl⟩
theorem e_rep {k : Int} (ha : Eb ta S (.list ds)) (hb : Eb tb S (.int k)) (hk : -1000 ≤ k ∧ k ≤ 1000) (hz : ds.length ≤ 10) : En (tOp rTimes ta tb) S (List.replicate k.toNat ds).flatten :=
  e_opN ha hb fun x y H Q h1 h2 q => by
    obtain ⟨a, xs, rfl, h1, h3⟩ := h1
    have e2 : y = .int k := h2
    subst e2
    refine .inr ⟨a, k, xs, rfl, rfl, h1, by omega, by omega, line_of (by
      rw [h3.length]
      have : ds.length * k.toNat ≤ 10 * 1000 := Nat.mul_le_mul hz (by omega)
      omega), fun p hp => ?_⟩
    have sm : Same H (upd H p (.lst (List.replicate k.toNat xs).flatten)) := fun c o e => by rw [upd_ne (ne_of_none e hp)]; exact e
    exact q p _ sm hp ⟨p, _, rfl, upd_same, DaL.mono sm _ _ (h3.rep _)⟩
/-! items -/
theorem e_ixL {i : Int} (ha : Eb ta S (.list ds)) (hb : Eb tb S (.int i)) (hd : atI ds i = some d) : Eb (tOp (rIx K) ta tb) S d :=
  e_op ha hb fun x y H Q h1 h2 q => by
    obtain ⟨a, xs, rfl, h1, h3⟩ := h1
    have hd' : (ixN ds.length i).bind (fun j => ds[j]?) = some d := hd
    obtain ⟨j, hj, hdj⟩ := Option.bind_eq_some_iff.mp hd'
    obtain ⟨v, hv, hdv⟩ := h3.get hdj
    refine .inl ⟨a, xs, i, v, rfl, h2, SqL.of h1, ?_, q v H (Same.refl H) hdv⟩
    show (ixN xs.length i).bind (fun j => xs[j]?) = some v
    rw [h3.length, hj]
    exact hv
theorem e_ixT {i : Int} (ha : Eb ta S (.tuple ds)) (hb : Eb tb S (.int i)) (hd : atI ds i = some d) : Eb (tOp (rIx K) ta tb) S d :=
  e_op ha hb fun x y H Q h1 h2 q => by
    obtain ⟨a, xs, rfl, h1, h3⟩ := h1
    have hd' : (ixN ds.length i).bind (fun j => ds[j]?) = some d := hd
    obtain ⟨j, hj, hdj⟩ := Option.bind_eq_some_iff.mp hd'
    obtain ⟨v, hv, hdv⟩ := h3.get hdj
    refine .inr (.inl ⟨a, xs, i, v, rfl, h2, SqT.of h1, ?_, q v H (Same.refl H) hdv⟩)
    show (ixN xs.length i).bind (fun j => xs[j]?) = some v
    rw [h3.length, hj]
    exact hv
/-- the script's length, an item -/
theorem e_ixF {ns : List Int} {i : Int} {n : Int} (ha : Eb ta S (frz ns)) (hb : Eb tb S (.int i)) (hd : atI ns i = some n) : Eb (tOp (rIx KK.K) ta tb) S (.int n) :=
  e_op ha hb fun x y H Q h1 h2 q => by
    obtain ⟨a, rfl, h1⟩ := h1
    have h1' : SqL KK.K H a (ns.map V.int) := by
      rw [← frzV_map]
      exact h1
    have hd' : (ixN ns.length i).bind (fun j => ns[j]?) = some n := hd
    obtain ⟨j, hj, hdj⟩ := Option.bind_eq_some_iff.mp hd'
    refine .inl ⟨a, _, i, .int n, rfl, h2, h1', ?_, q _ H (Same.refl H) rfl⟩
    show (ixN (ns.map V.int).length i).bind (fun j => (ns.map V.int)[j]?) = some (.int n)
    rw [List.length_map, hj]
    show (ns.map V.int)[j]? = _
    rw [List.getElem?_map, hdj]
    rfl
theorem e_ixS {x : Str} {i : Int} {c : Nat} (ha : Eb ta S (.str x)) (hb : Eb tb S (.int i)) (hz : x.length ≤ 100000) (hd : atI x.cps.toList i = some c) : Eb (tOp (rIx K) ta tb) S (.str ⟨#[c]⟩) :=
  e_op ha hb fun _ _ H Q h1 h2 q => .inr (.inr ⟨x, i, c, h1, h2, line_of hz, hd, q _ H (Same.refl H) rfl⟩)
end
end DL

namespace DL
open PySem L2
variable [KK]
section
variable {S : DSt} {te ta tb tc : TE} {tt tu : TT} {d d1 d2 : PyData} {ds es : List PyData} {K : PySem.W.Frag}
/-! comparisons of data -/
mutual
theorem Da.dp {K : PySem.W.Frag} {H : Hp} : ∀ (d : PyData) (v : V), d.canLay0 = true → Da H d v → Dp K H v d
  | .none, _, _, h => by
    have e : _ = V.non := h
    rw [e]
    exact .non
  | .bool b, _, _, h => by
    have e : _ = V.bl b := h
    rw [e]
    exact .bl b
  | .int i, _, _, h => by
    have e : _ = V.int i := h
    rw [e]
    exact .int i
  | .str x, _, _, h => by
    have e : _ = V.str x := h
    rw [e]
    exact .str x
  | .list ds, _, c, h => by
    obtain ⟨a, xs, e1, h, q⟩ := h
    rw [e1]
    exact .lst (SqL.of h) (DaL.dp ds xs (by simpa [PyData.canLay0] using c) q)
  | .tuple ds, _, c, h => by
    obtain ⟨a, xs, e1, h, q⟩ := h
    rw [e1]
    exact .tup (SqT.of h) (DaL.dp ds xs (by simpa [PyData.canLay0] using c) q)
  | .dict _, _, c, h => by simp [PyData.canLay0] at c
theorem DaL.dp {K : PySem.W.Frag} {H : Hp} : ∀ (ds : List PyData) (xs : List V), PyData.canLayAll0 ds = true → DaL H ds xs → DpAll K H xs ds
  | [], _, _, h => by
    have e : _ = [] := h
    rw [e]
    exact .nil
  | d :: ds, _, c, h => by
    obtain ⟨v, vs, e1, h1, h2⟩ := h
    have c' : d.canLay0 = true ∧ PyData.canLayAll0 ds = true := by simpa [PyData.canLayAll0] using c
    rw [e1]
    exact .cons (Da.dp d v c'.1 h1) (DaL.dp ds vs c'.2 h2)
end
theorem e_eq (ha : Eb ta S d1) (hb : Eb tb S d2) (h1 : SeqAt.shaped d1 = true) (h2 : SeqAt.shaped d2 = true) : Eb (tOp (rEqD K) ta tb) S (.bool (PyData.eqv d1 d2)) :=
  e_op ha hb fun x y H Q q1 q2 q => ⟨d1, d2, Da.dp _ _ (SeqAt.canLay_of_shaped h1) q1, Da.dp _ _ (SeqAt.canLay_of_shaped h2) q2, h1, h2, q _ H (Same.refl H) rfl⟩
theorem e_ne (ha : Eb ta S d1) (hb : Eb tb S d2) (h1 : SeqAt.shaped d1 = true) (h2 : SeqAt.shaped d2 = true) : Eb (tOp (rNeD K) ta tb) S (.bool (!PyData.eqv d1 d2)) :=
  e_op ha hb fun x y H Q q1 q2 q => ⟨d1, d2, Da.dp _ _ (SeqAt.canLay_of_shaped h1) q1, Da.dp _ _ (SeqAt.canLay_of_shaped h2) q2, h1, h2, q _ H (Same.refl H) rfl⟩
theorem e_eqI {i j : Int} (ha : Eb ta S (.int i)) (hb : Eb tb S (.int j)) : Eb (tOp (rEqD K) ta tb) S (.bool (decide (i = j))) := by
  have h := e_eq (K := K) ha hb rfl rfl
  exact h.to (by show PyData.bool (i == j) = _; rw [Bool.beq_eq_decide_eq])
theorem e_neI {i j : Int} (ha : Eb ta S (.int i)) (hb : Eb tb S (.int j)) : Eb (tOp (rNeD K) ta tb) S (.bool (!decide (i = j))) := by
  have h := e_ne (K := K) ha hb rfl rfl
  exact h.to (by show PyData.bool (!(i == j)) = _; rw [Bool.beq_eq_decide_eq])
/-! is None -/
omit [KK] in
def rIsNo : R2 := fun x y H Q => y = .non ∧ Q (.bl (decide (x = .non))) H
omit [KK] in
def rNotNo : R2 := fun x y H Q => y = .non ∧ Q (.bl (!decide (x = .non))) H
omit [KK] in
theorem op_isNo {X : Cx} : OpR X (compareOp .Is) rIsNo := op_isN
omit [KK] in
theorem op_notNo {X : Cx} : OpR X (compareOp .IsNot) rNotNo := op_notN
omit [KK] in
def isNo : PyData → Bool
  | .none => true
  | _ => false
theorem Da.isNo {H : Hp} {d : PyData} {v : V} (h : Da H d v) : decide (v = .non) = isNo d := by
  cases d with
  | none => have e : v = V.non := h; rw [e]; rfl
  | bool b => have e : v = V.bl b := h; rw [e]; rfl
  | int i => have e : v = V.int i := h; rw [e]; rfl
  | str x => have e : v = V.str x := h; rw [e]; rfl
  | list ds => obtain ⟨a, xs, e, _⟩ := h; rw [e]; rfl
  | tuple ds => obtain ⟨a, xs, e, _⟩ := h; rw [e]; rfl
  | dict _ => obtain ⟨a, e, _⟩ := h; rw [e]; rfl
theorem e_isN (ha : Eb ta S d) : Eb (tOp rIsNo ta (tC .non)) S (.bool (isNo d)) :=
  e_op ha e_non fun x y H Q q1 q2 q => ⟨q2, q _ H (Same.refl H) (by rw [q1.isNo]; rfl)⟩
theorem e_notN (ha : Eb ta S d) : Eb (tOp rNotNo ta (tC .non)) S (.bool (!isNo d)) :=
  e_op ha e_non fun x y H Q q1 q2 q => ⟨q2, q _ H (Same.refl H) (by rw [q1.isNo]; rfl)⟩
/-! a op b op c -/
theorem e_chain {a b c : Int} {g g' : Int → Int → Bool} (ha : Eb ta S (.int a)) (hb : Eb tb S (.int b)) (hc : Eb tc S (.int c)) :
    Eb (tChain (rI0 fun i j => .bl (g i j)) (rI0 fun i j => .bl (g' i j)) ta tb tc) S (.bool (g a b && g' b c)) := fun H σ r Q q =>
  ha H σ r _ fun x H1 e1 h1 => hb H1 σ (r.mono e1) _ fun y H2 e2 h2 => ⟨a, b, h1, h2, g a b, rfl, by
    cases hg : g a b with
    | false => exact q _ H2 (e1.trans e2) (by rw [hg]; rfl)
    | true => exact hc H2 σ ((r.mono e1).mono e2) _ fun z H3 e3 h3 => ⟨b, c, h2, h3, q _ H3 ((e1.trans e2).trans e3) (by rw [hg]; rfl)⟩⟩
/-! and, or, not, if as values -/
theorem e_and {a b : Bool} (h1 : Eb ta S (.bool a)) (h2 : a = true → Eb tb S (.bool b)) : Eb (tAndV ta tb) S (.bool (a && b)) := fun H σ r Q q =>
  h1 H σ r _ fun x H1 e1 q1 => ⟨a, q1, by
    cases a with
    | true => exact h2 rfl H1 σ (r.mono e1) Q fun v H2 e2 q2 => q v H2 (e1.trans e2) q2
    | false => exact q _ H1 e1 rfl⟩
theorem e_or {a b : Bool} (h1 : Eb ta S (.bool a)) (h2 : a = false → Eb tb S (.bool b)) : Eb (tOrV ta tb) S (.bool (a || b)) := fun H σ r Q q =>
  h1 H σ r _ fun x H1 e1 q1 => ⟨a, q1, by
    cases a with
    | false => exact h2 rfl H1 σ (r.mono e1) Q fun v H2 e2 q2 => q v H2 (e1.trans e2) q2
    | true => exact q _ H1 e1 rfl⟩
theorem e_not {a : Bool} (h1 : Eb ta S (.bool a)) : Eb (tNotV ta) S (.bool (!a)) := fun H σ r Q q =>
  h1 H σ r _ fun x H1 e1 q1 => ⟨a, q1, q _ H1 e1 rfl⟩
theorem e_if {b : Bool} (h : Et tt S b) (h1 : b = true → Eb ta S d) (h2 : b = false → Eb tb S d) : Eb (tIf tt ta tb) S d := fun H σ r Q q =>
  h H σ r _ fun H1 e1 => by
    cases b with
    | true => exact h1 rfl H1 σ (r.mono e1) Q fun v H2 e2 q2 => q v H2 (e1.trans e2) q2
    | false => exact h2 rfl H1 σ (r.mono e1) Q fun v H2 e2 q2 => q v H2 (e1.trans e2) q2
/-! tests -/
theorem t_test {b : Bool} (h : Eb te S (.bool b)) : Et (tTest te) S b := fun H σ r Q q => h H σ r _ fun x H1 e1 q1 => ⟨b, q1, q H1 e1⟩
theorem t_B {b : Bool} (h : Eb te S (.bool b)) : Et (tB te) S b := fun H σ r Q q => h H σ r _ fun x H1 e1 q1 => ⟨b, q1, q H1 e1⟩
theorem t_and {a b : Bool} (h1 : Et tt S a) (h2 : a = true → Et tu S b) : Et (tAnd tt tu) S (a && b) := fun H σ r Q q => h1 H σ r _ fun H1 e1 => by
  cases a with
  | true => exact h2 rfl H1 σ (r.mono e1) Q fun H2 e2 => q H2 (e1.trans e2)
  | false => exact q H1 e1
theorem t_or {a b : Bool} (h1 : Et tt S a) (h2 : a = false → Et tu S b) : Et (tOr tt tu) S (a || b) := fun H σ r Q q => h1 H σ r _ fun H1 e1 => by
  cases a with
  | false => exact h2 rfl H1 σ (r.mono e1) Q fun H2 e2 => q H2 (e1.trans e2)
  | true => exact q H1 e1
theorem t_not {a : Bool} (h1 : Et tt S a) : Et (tNot tt) S (!a) := fun H σ r Q q => h1 H σ r _ fun H1 e1 => q H1 e1
omit [KK] in
/-- a value's truth -/
def tTru (K : PySem.W.Frag) (ta : TE) : TT := fun σ H Q => ta σ H fun x H' => ∃ k, TruV K x H' k ∧ Q k H'
omit [KK] in
theorem pt_tru {X : Cx} {a : Expr} (ha : PE X a ta) (he : ∀ whole, isTrue a X.env whole = (do let v ← whole; standAt a.pos; holding [v] (truthy v)) := by intro _; rfl) : PT X a (tTru X.K ta) := pt_truth ha he
theorem t_truB {b : Bool} (h : Eb te S (.bool b)) : Et (tTru K te) S b := fun H σ r Q q => h H σ r _ fun x H1 e1 q1 => by
  have e : x = .bl b := q1
  subst e
  exact ⟨b, rfl, q H1 e1⟩
theorem t_truI {i : Int} (h : Eb te S (.int i)) : Et (tTru K te) S (i != 0) := fun H σ r Q q => h H σ r _ fun x H1 e1 q1 => by
  have e : x = .int i := q1
  subst e
  exact ⟨_, rfl, q H1 e1⟩
theorem t_truL (h : Eb te S (.list ds)) : Et (tTru K te) S (!ds.isEmpty) := fun H σ r Q q => h H σ r _ fun x H1 e1 q1 => by
  obtain ⟨a, xs, e, h1, h2⟩ := q1
  subst e
  refine ⟨_, .inl ⟨xs, SqL.of h1, rfl⟩, ?_⟩
  have hl := h2.length
  have e : xs.isEmpty = ds.isEmpty := by
    cases xs <;> cases ds <;> simp_all
  rw [e]
  exact q H1 e1
theorem t_truS {x : Str} (h : Eb te S (.str x)) (hz : x.length ≤ 100000) : Et (tTru K te) S ((x.length : Int) != 0) := fun H σ r Q q => h H σ r _ fun y H1 e1 q1 => by
  have e : y = .str x := q1
  subst e
  exact ⟨_, ⟨line_of hz, rfl⟩, q H1 e1⟩
/-! arguments, displays -/
theorem a_nil : Ea tNil S [] := fun H σ r Q q => q [] H (Same.refl H) rfl
theorem a_cons {tr : TA} (h : Eb te S d) (hr : Ea tr S ds) : Ea (tCons te tr) S (d :: ds) := fun H σ r Q q =>
  h H σ r _ fun x H1 e1 q1 => hr H1 σ (r.mono e1) _ fun xs H2 e2 q2 => q _ H2 (e1.trans e2) ⟨x, xs, rfl, Da.mono e2 _ _ q1, q2⟩
theorem ap_nil : Eap tNil S [] := fun H σ r Q q => q [] H (Same.refl H) rfl
theorem ap_cons {tr : TA} (h : Ep te S d) (hr : Eap tr S ds) : Eap (tCons te tr) S (d :: ds) := fun H σ r Q q =>
  h H σ r _ fun x H1 e1 q1 => hr H1 σ (r.mono e1) _ fun xs H2 e2 q2 => q _ H2 (e1.trans e2) ⟨x, xs, rfl, Da.mono (Gm_mono e2) _ _ q1, q2⟩
omit [KK] in
theorem same_new {H : Hp} {p : Addr} {o : HO} (hp : H p = none) : Same H (upd H p o) := fun c u e => by
  rw [upd_ne (ne_of_none e hp)]
  exact e
theorem e_tup {ta : TA} (h : Ea ta S ds) (hz : ds.length ≤ 100000) : Eb (tTup ta) S (.tuple ds) := fun H σ r Q q => h H σ r _ fun xs H1 e1 q1 =>
  ⟨line_of (by rw [q1.length]; exact hz), fun p hp => q _ _ (e1.trans (same_new hp)) ⟨p, xs, rfl, upd_same, DaL.mono (same_new hp) _ _ q1⟩⟩
theorem ep_tup {ta : TA} (h : Eap ta S ds) (hz : ds.length ≤ 100000) : Ep (tTup ta) S (.tuple ds) := fun H σ r Q q => h H σ r _ fun xs H1 e1 q1 =>
  ⟨line_of (by rw [q1.length]; exact hz), fun p hp => q _ _ (e1.trans (same_new hp)) ⟨p, xs, rfl, Gm_of ((r.mono e1).notOwn hp) upd_same, DaL.mono (Gm_mono (same_new hp)) _ _ q1⟩⟩
theorem n_lst {ta : TA} (h : Ea ta S ds) (hz : ds.length ≤ 100000) : En (tLst ta) S ds := fun H σ r Q q => h H σ r _ fun xs H1 e1 q1 =>
  ⟨line_of (by rw [q1.length]; exact hz), fun p hp => q _ _ (e1.trans (same_new hp)) (e1.free hp) ⟨p, xs, rfl, upd_same, DaL.mono (same_new hp) _ _ q1⟩⟩
/-! calls of built-ins by their rules -/
theorem e_cb {r : List V → Hp → VK → Prop} {ta : TA} (h : Ea ta S ds) (hr : ∀ (vs : List V) (H : Hp) (Q : VK), DaL H ds vs → (∀ v H1, Same H H1 → Da H1 d v → Q v H1) → r vs H Q) : Eb (tCB r ta) S d := fun H σ rl Q q =>
  h H σ rl _ fun vs H1 e1 q1 => hr vs H1 Q q1 fun v H2 e2 q2 => q v H2 (e1.trans e2) q2
theorem n_cb {r : List V → Hp → VK → Prop} {ta : TA} (h : Ea ta S ds) (hr : ∀ (vs : List V) (H : Hp) (Q : VK), DaL H ds vs → (∀ l H1, Same H H1 → H l = none → Da H1 (.list es) (.ref l) → Q (.ref l) H1) → r vs H Q) : En (tCB r ta) S es := fun H σ rl Q q =>
  h H σ rl _ fun vs H1 e1 q1 => hr vs H1 Q q1 fun l H2 e2 hl q2 => q l H2 (e1.trans e2) (e1.free hl) q2
theorem DaL.v1 {H : Hp} {d : PyData} {vs : List V} (h : DaL H [d] vs) : ∃ v, vs = [v] ∧ Da H d v := by
  obtain ⟨v, r, e, h1, h2⟩ := h
  have e2 : r = [] := h2
  subst e2
  exact ⟨v, e, h1⟩
theorem DaL.v2 {H : Hp} {d e : PyData} {vs : List V} (h : DaL H [d, e] vs) : ∃ v w, vs = [v, w] ∧ Da H d v ∧ Da H e w := by
  obtain ⟨v, r, e1, h1, h2⟩ := h
  obtain ⟨w, rfl, h3⟩ := h2.v1
  exact ⟨v, w, e1, h1, h3⟩
omit [KK] in
def rLen (K : PySem.W.Frag) : List V → Hp → VK → Prop := fun xs H Q => ∃ x n, xs = [x] ∧ LenV K x H n ∧ Q (.int n) H
omit [KK] in
theorem cr_len {X : Cx} : CallR X (.builtin "len") (rLen X.K) := call_len
theorem e_lenL (h : Eb te S (.list ds)) : Eb (tCB (rLen K) (tCons te tNil)) S (.int (ds.length : Nat)) := e_cb (a_cons h a_nil) fun vs H Q h q => by
  obtain ⟨v, rfl, h1⟩ := h.v1
  obtain ⟨a, xs, rfl, h2, h3⟩ := h1
  exact ⟨_, xs.length, rfl, .inl ⟨xs, SqL.of h2, rfl⟩, by rw [h3.length]; exact q _ H (Same.refl H) rfl⟩
theorem e_lenT (h : Eb te S (.tuple ds)) : Eb (tCB (rLen K) (tCons te tNil)) S (.int (ds.length : Nat)) := e_cb (a_cons h a_nil) fun vs H Q h q => by
  obtain ⟨v, rfl, h1⟩ := h.v1
  obtain ⟨a, xs, rfl, h2, h3⟩ := h1
  exact ⟨_, xs.length, rfl, .inr ⟨xs, SqT.of h2, rfl⟩, by rw [h3.length]; exact q _ H (Same.refl H) rfl⟩
theorem e_lenS {x : Str} (h : Eb te S (.str x)) (hz : x.length ≤ 100000) : Eb (tCB (rLen K) (tCons te tNil)) S (.int (x.length : Nat)) := e_cb (a_cons h a_nil) fun vs H Q h q => by
  obtain ⟨v, rfl, h1⟩ := h.v1
  exact ⟨_, x.length, rfl, by rw [show v = .str x from h1]; exact ⟨line_of hz, rfl⟩, q _ H (Same.refl H) rfl⟩
theorem e_lenF {ns : List Int} (h : Eb te S (frz ns)) : Eb (tCB (rLen KK.K) (tCons te tNil)) S (.int (ns.length : Nat)) := e_cb (a_cons h a_nil) fun vs H Q h q => by
  obtain ⟨v, rfl, h1⟩ := h.v1
  obtain ⟨a, rfl, h2⟩ := h1
  rw [frzV_map] at h2
  exact ⟨_, (ns.map V.int).length, rfl, .inl ⟨_, h2, rfl⟩, by rw [List.length_map]; exact q _ H (Same.refl H) rfl⟩
omit [KK] in
def rList (K : PySem.W.Frag) : List V → Hp → VK → Prop := fun xs H Q => ∃ p ys, xs = [.ref p] ∧ (SqL K H p ys ∨ SqT K H p ys) ∧ ∀ l, H l = none → Q (.ref l) (upd H l (.lst ys))
omit [KK] in
theorem cr_list {X : Cx} : CallR X (.type "list") (rList X.K) := call_list_of
theorem n_list (h : Eb te S (.list ds)) : En (tCB (rList K) (tCons te tNil)) S ds := n_cb (a_cons h a_nil) fun vs H Q h q => by
  obtain ⟨v, rfl, h1⟩ := h.v1
  obtain ⟨a, xs, rfl, h2, h3⟩ := h1
  exact ⟨a, xs, rfl, .inl (SqL.of h2), fun l hl => q l _ (same_new hl) hl ⟨l, xs, rfl, upd_same, DaL.mono (same_new hl) _ _ h3⟩⟩
omit [KK] in
def rTuple (K : PySem.W.Frag) : List V → Hp → VK → Prop := fun xs H Q => ∃ p ys, xs = [.ref p] ∧ ((SqL K H p ys ∧ ∀ l, H l = none → Q (.ref l) (upd H l (.tup ys))) ∨ (SqT K H p ys ∧ Q (.ref p) H))
omit [KK] in
theorem cr_tuple {X : Cx} : CallR X (.type "tuple") (rTuple X.K) := call_tuple_of
theorem e_tuple (h : Eb te S (.list ds)) : Eb (tCB (rTuple K) (tCons te tNil)) S (.tuple ds) := e_cb (a_cons h a_nil) fun vs H Q h q => by
  obtain ⟨v, rfl, h1⟩ := h.v1
  obtain ⟨a, xs, rfl, h2, h3⟩ := h1
  exact ⟨a, xs, rfl, .inl ⟨SqL.of h2, fun l hl => q (.ref l) _ (same_new hl) ⟨l, xs, rfl, upd_same, DaL.mono (same_new hl) _ _ h3⟩⟩⟩
theorem e_sum {ns : List Int} (h : Eb te S (.list (ns.map .int))) : Eb (tCB (rSum K) (tCons te tNil)) S (.int ns.sum) := e_cb (a_cons h a_nil) fun vs H Q h q => by
  obtain ⟨v, rfl, h1⟩ := h.v1
  obtain ⟨a, xs, rfl, h2, h3⟩ := h1
  exact ⟨a, ns, rfl, by rw [← h3.ints]; exact SqL.of h2, q _ H (Same.refl H) rfl⟩
theorem e_maxL {ns : List Int} {m : Int} (h : Eb te S (.list (ns.map .int))) (hm : m ∈ ns) (hle : ∀ y ∈ ns, y ≤ m) : Eb (tCB (rMax K) (tCons te tNil)) S (.int m) := e_cb (a_cons h a_nil) fun vs H Q h q => by
  obtain ⟨v, rfl, h1⟩ := h.v1
  obtain ⟨a, xs, rfl, h2, h3⟩ := h1
  refine ⟨a, ns, rfl, by rw [← h3.ints]; exact SqL.of h2, List.length_pos_of_mem hm, fun m' h1 h2 => ?_⟩
  have e : m' = m := Int.le_antisymm (hle m' h1) (h2 m hm)
  rw [e]
  exact q _ H (Same.refl H) rfl
omit [KK] in
def rMax2 : List V → Hp → VK → Prop := fun xs H Q => ∃ i j, xs = [.int i, .int j] ∧ Q (.int (if j > i then j else i)) H
omit [KK] in
def rMin2 : List V → Hp → VK → Prop := fun xs H Q => ∃ i j, xs = [.int i, .int j] ∧ Q (.int (if j < i then j else i)) H
omit [KK] in
theorem cr_max2 {X : Cx} (hc : X.calm = true) : CallR X (.builtin "max") rMax2 := call_max2 hc
omit [KK] in
theorem cr_min2 {X : Cx} (hc : X.calm = true) : CallR X (.builtin "min") rMin2 := call_min2 hc
theorem e_max2 {i j : Int} (ha : Eb ta S (.int i)) (hb : Eb tb S (.int j)) : Eb (tCB rMax2 (tCons ta (tCons tb tNil))) S (.int (max i j)) := e_cb (a_cons ha (a_cons hb a_nil)) fun vs H Q h q => by
  obtain ⟨v, w, rfl, h1, h2⟩ := h.v2
  refine ⟨i, j, by rw [show v = .int i from h1, show w = .int j from h2], ?_⟩
  have e : (if j > i then j else i) = max i j := by rw [Int.max_def]; split <;> split <;> omega
  rw [e]
  exact q _ H (Same.refl H) rfl
theorem e_min2 {i j : Int} (ha : Eb ta S (.int i)) (hb : Eb tb S (.int j)) : Eb (tCB rMin2 (tCons ta (tCons tb tNil))) S (.int (min i j)) := e_cb (a_cons ha (a_cons hb a_nil)) fun vs H Q h q => by
  obtain ⟨v, w, rfl, h1, h2⟩ := h.v2
  refine ⟨i, j, by rw [show v = .int i from h1, show w = .int j from h2], ?_⟩
  have e : (if j < i then j else i) = min i j := by rw [Int.min_def]; split <;> split <;> omega
  rw [e]
  exact q _ H (Same.refl H) rfl
theorem n_sorted {ns ms : List Int} (h : Eb te S (.list (ns.map .int))) (hz : ns.length < 64) (hu : ∀ ms', ms'.Perm ns → ms'.Pairwise (· ≤ ·) → ms' = ms) : En (tCB (rSorted K) (tCons te tNil)) S (ms.map .int) := n_cb (a_cons h a_nil) fun vs H Q h q => by
  obtain ⟨v, rfl, h1⟩ := h.v1
  obtain ⟨a, xs, rfl, h2, h3⟩ := h1
  refine ⟨a, ns, rfl, by rw [← h3.ints]; exact SqL.of h2, hz, fun ms' p h4 h5 hp => ?_⟩
  have e := hu ms' h4 h5
  subst e
  exact q p _ (same_new hp) hp ⟨p, _, rfl, upd_same, DaL.of_ints⟩
/-! isinstance(x, a built-in class) -/
omit [KK] in
def tyN : PyData → String
  | .none => "NoneType"
  | .bool _ => "bool"
  | .int _ => "int"
  | .str _ => "str"
  | .list _ => "list"
  | .tuple _ => "tuple"
  | .dict _ => "list"
theorem Da.ty {H : Hp} {d : PyData} {v : V} (h : Da H d v) : TyX KK.K H v (.type (tyN d)) := by
  cases d with
  | none => have e : v = V.non := h; rw [e]; exact .base .non
  | bool b => have e : v = V.bl b := h; rw [e]; exact .base (.bl b)
  | int i => have e : v = V.int i := h; rw [e]; exact .base (.int i)
  | str x => have e : v = V.str x := h; rw [e]; exact .base (.str x)
  | list ds => obtain ⟨a, xs, e, h1, _⟩ := h; rw [e]; exact .base (.lst h1)
  | tuple ds => obtain ⟨a, xs, e, h1, _⟩ := h; rw [e]; exact .base (.tup h1)
  | dict _ =>
    obtain ⟨a, e, h1⟩ := h
    rw [e]
    rcases h1 with (h1 | ⟨o, h1⟩) | ⟨o, its, n, hk, hc, _⟩
    · exact .base (.lst h1)
    · exact .base (.frz h1)
    · exact .kList hk hc
theorem e_isi {T : String} {b : Bool} (h : Eb te S d) (hk : PySem.W.kitOne KK.K (.type (tyN d)) (.type T) = some b) : Eb (tCB (rIsi KK.K) (tCons te (tCons (tC (.ty T)) tNil))) S (.bool b) := fun H σ r Q q =>
  h H σ r _ fun v H1 e1 q1 => ⟨v, .ty T, .type (tyN d), .type T, b, rfl, .ty T, q1.ty, hk, q _ H1 e1 rfl⟩
/-! slices -/
omit [KK] in
def rSl (K : PySem.W.Frag) : V → Option Int → Option Int → Hp → VK → Prop := fun x lo hi H Q => rSlL K x lo hi H Q ∨ rSlS x lo hi H Q
omit [KK] in
theorem sl_any {X : Cx} : SlR X (rSl X.K) := sl_list.or sl_str
theorem o_no : Eo tNoPart S none := fun H σ r Q q => q H (Same.refl H)
theorem o_some {i : Int} (h : Eb te S (.int i)) : Eo (tPart te) S (some i) := fun H σ r Q q => h H σ r _ fun v H1 e1 q1 => ⟨i, q1, q H1 e1⟩
omit [KK] in
def cutD (ds : List PyData) (lo hi : Option Int) : List PyData := (ds.drop (HT.sIx ds.length 0 lo)).take (HT.sIx ds.length ds.length hi - HT.sIx ds.length 0 lo)
theorem n_slL {tl th : TO} {lo hi : Option Int} (h : Eb te S (.list ds)) (h1 : Eo tl S lo) (h2 : Eo th S hi) : En (tSl (rSl K) te tl th) S (cutD ds lo hi) := fun H σ r Q q =>
  h H σ r _ fun v H1 e1 q1 => h1 H1 σ (r.mono e1) _ fun H2 e2 => h2 H2 σ ((r.mono e1).mono e2) _ fun H3 e3 => by
    obtain ⟨a, xs, rfl, h4, h5⟩ := q1
    have e13 := e2.trans e3
    refine .inl ⟨a, xs, rfl, SqL.of (e13 a _ h4), fun p hp => q p _ ((e1.trans e13).trans (same_new hp)) ((e1.trans e13).free hp) ⟨p, _, rfl, upd_same, ?_⟩⟩
    refine DaL.mono (same_new hp) _ _ ?_
    unfold cutV cutD
    rw [h5.length]
    exact ((DaL.mono e13 _ _ h5).drop _).take _
theorem e_slS {tl th : TO} {lo hi : Option Int} {x : Str} (h : Eb te S (.str x)) (h1 : Eo tl S lo) (h2 : Eo th S hi) (hz : x.length ≤ 100000) : Eb (tSl (rSl K) te tl th) S (.str (cutS x lo hi)) := fun H σ r Q q =>
  h H σ r _ fun v H1 e1 q1 => h1 H1 σ (r.mono e1) _ fun H2 e2 => h2 H2 σ ((r.mono e1).mono e2) _ fun H3 e3 => .inr ⟨x, q1, line_of hz, q _ H3 ((e1.trans e2).trans e3) rfl⟩
theorem n_rev (h : Eb te S (.list ds)) : En (tRevL K te) S ds.reverse := fun H σ r Q q =>
  h H σ r _ fun v H1 e1 q1 => by
    obtain ⟨a, xs, rfl, h4, h5⟩ := q1
    exact ⟨a, xs, rfl, SqL.of h4, fun p hp => q p _ (e1.trans (same_new hp)) (e1.free hp) ⟨p, _, rfl, upd_same, DaL.mono (same_new hp) _ _ h5.reverse⟩⟩
end
end DL

namespace DL
open PySem L2
variable [KK]
/-! ### outcomes -/
/-- what a def gives: a value, a new list; an exception of a class of the program's own -/
inductive Ro where
  | va (d : PyData)
  | nw (ds : List PyData)
  | ex (C : Addr)
  /-- .. and the instance at b holds bs at last -/
  | bo (C b : Addr) (bs : List PyData) (r : Ro)
inductive Ou where
  | nx (S : DSt)
  | ct (S : DSt)
  | bk (S : DSt)
  | rt (r : Ro)
/-- the heap without the object at b -/
def hid (b : Addr) (H : Hp) : Hp := fun a => if a = b then none else H a
def FinP (P : Hp → Prop) (E : XK) (Qv : VK) (G : Hp) : Ro → Prop
  | .va d => ∀ v H', Same G H' → P H' → Da H' d v → Qv v H'
  | .nw ds => ∀ l H', Same G H' → P H' → G l = none → Da H' (.list ds) (.ref l) → Qv (.ref l) H'
  | .ex C => ∀ H', Same G H' → P H' → E (.ref C) none H'
  | .bo _ _ _ _ => False
theorem FinP.up {P : Hp → Prop} {E : XK} {Qv : VK} {G G' : Hp} (e : Same G G') : ∀ {r : Ro}, FinP P E Qv G r → FinP P E Qv G' r
  | .va d, h => fun v H' e' p q => h v H' (e.trans e') p q
  | .nw ds, h => fun l H' e' p hl q => h l H' (e.trans e') p (e.free hl) q
  | .ex C, h => fun H' e' p => h H' (e.trans e') p
  | .bo _ _ _ _, h => h
def FinR (E : XK) (Qv : VK) (G : Hp) : Ro → Prop
  | .va d => ∀ v H', Same G H' → Da H' d v → Qv v H'
  | .nw ds => ∀ l H', Same G H' → G l = none → Da H' (.list ds) (.ref l) → Qv (.ref l) H'
  | .ex C => ∀ H', Same G H' → E (.ref C) none H'
  | .bo C b bs r => FinP (fun H' => BkAt H' (hid b H') C b bs) E Qv G r
def Fin (E : XK) (D : Ends) (G : Hp) : Ou → Prop
  | .nx S' => ∀ σ' H', Rl H' σ' S' → Same G (Gm σ' S' H') → D.nx σ' H'
  | .ct S' => ∀ σ' H', Rl H' σ' S' → Same G (Gm σ' S' H') → D.ct σ' H'
  | .bk S' => ∀ σ' H', Rl H' σ' S' → Same G (Gm σ' S' H') → D.bk σ' H'
  | .rt r => FinR E D.rt G r
theorem FinR.up {E : XK} {Qv : VK} {G G' : Hp} {r : Ro} (e : Same G G') (h : FinR E Qv G r) : FinR E Qv G' r := by
  cases r with
  | va d => exact fun v H' e' q => h v H' (e.trans e') q
  | nw ds => exact fun l H' e' hl q => h l H' (e.trans e') (e.free hl) q
  | ex C => exact fun H' e' => h H' (e.trans e')
  | bo C b bs r => exact FinP.up e h
theorem Fin.up {E : XK} {D : Ends} {G G' : Hp} {o : Ou} (e : Same G G') (h : Fin E D G o) : Fin E D G' o := by
  cases o with
  | nx S => exact fun σ H r q => h σ H r (e.trans q)
  | ct S => exact fun σ H r q => h σ H r (e.trans q)
  | bk S => exact fun σ H r q => h σ H r (e.trans q)
  | rt r => exact FinR.up e h
/-- a statement's reading, run from what the slots hold -/
def DX (E : XK) (t : TS) (S : DSt) (o : Ou) : Prop := ∀ D H σ, Rl H σ S → Fin E D (Gm σ S H) o → t D σ H

section
variable {E : XK} {S S1 S2 : DSt} {t u : TS} {o : Ou} {te ta tb : TE} {tt : TT} {d : PyData} {ds es : List PyData} {K : PySem.W.Frag} {r : Ro}
theorem x_seq (h1 : DX E t S (.nx S1)) (h2 : DX E u S1 o) : DX E (tSeq t u) S o := fun D H σ rl k =>
  h1 _ H σ rl fun σ' H' rl' e => h2 D H' σ' rl' (k.up e)
theorem x_seqR (h1 : DX E t S (.rt r)) : DX E (tSeq t u) S (.rt r) := fun D H σ rl k => h1 _ H σ rl k
theorem x_seqC (h1 : DX E t S (.ct S1)) : DX E (tSeq t u) S (.ct S1) := fun D H σ rl k => h1 _ H σ rl k
theorem x_seqB (h1 : DX E t S (.bk S1)) : DX E (tSeq t u) S (.bk S1) := fun D H σ rl k => h1 _ H σ rl k
theorem x_next : DX E tNext S (.nx S) := fun D H σ rl k => k σ H rl (Same.refl _)
theorem x_if {b : Bool} (hc : Et tt S b) (h1 : b = true → DX E t S o) (h2 : b = false → DX E u S o) : DX E (tIfS tt t u) S o := fun D H σ rl k =>
  hc H σ rl _ fun H1 e1 => by
    cases b with
    | true => exact h1 rfl D H1 σ (rl.mono e1) (k.up (Gm_mono e1))
    | false => exact h2 rfl D H1 σ (rl.mono e1) (k.up (Gm_mono e1))
theorem x_ret (h : Eb te S d) : DX E (tRet te) S (.rt (.va d)) := fun D H σ rl k => h H σ rl _ fun v H1 e1 q => k v H1 (Gm_le.trans e1) q
theorem x_retN (h : En te S ds) : DX E (tRet te) S (.rt (.nw ds)) := fun D H σ rl k => h H σ rl _ fun l H1 e1 hl q => k l H1 (Gm_le.trans e1) (Gm_le.free hl) q
theorem x_retNon : DX E tRetN S (.rt (.va .none)) := fun D H σ rl k => k _ H Gm_le rfl
/-- an owned list is given away -/
theorem x_retO {i : Nat} (h : S[i]? = some (.ow ds)) : DX E (tRet (tVar i)) S (.rt (.nw ds)) := fun D H σ rl k => by
  obtain ⟨l, xs, h1, h2, h3⟩ := rl.ow i ds h
  refine ⟨.ref l, h1, k l H Gm_le ?_ ⟨l, xs, rfl, h2, DaL.mono Gm_le ds xs h3⟩⟩
  unfold Gm
  rw [if_pos (.inl ⟨i, ds, h, h1⟩)]
theorem x_drop (h : Eb te S d) : DX E (tDrop te) S (.nx S) := fun D H σ rl k => h H σ rl _ fun v H1 e1 q => k σ H1 (rl.mono e1) (Gm_mono e1)

/-! stores -/
omit [KK] in
theorem set_get {α : Type} {l : List α} {i j : Nat} {x y : α} (h : (l.set i x)[j]? = some y) : (j = i ∧ x = y ∧ i < l.length) ∨ (j ≠ i ∧ l[j]? = some y) := by
  by_cases e : j = i
  · subst e
    have hi : j < l.length := by
      have q := (List.getElem?_eq_some_iff.mp h).1
      rw [List.length_set] at q
      exact q
    rw [List.getElem?_set_self hi] at h
    exact .inl ⟨rfl, Option.some.inj h, hi⟩
  · rw [List.getElem?_set_ne (Ne.symm e)] at h
    exact .inr ⟨e, h⟩
omit [KK] in
theorem OwnB.set {S : DSt} {i : Nat} {s : Sl} {l : Addr} (hb : s.books = []) (h : OwnB (S.set i s) l) : OwnB S l := by
  obtain ⟨j, t, h1, h2⟩ := h
  rcases set_get h1 with ⟨_, e, _⟩ | ⟨_, h1⟩
  · rw [← e, hb] at h2
    cases h2
  · exact ⟨j, t, h1, h2⟩
theorem Own.set_va {σ : St} {S : DSt} {i : Nat} {v : Option V} {s : Sl} {l : Addr} (hs : ∀ ds, s ≠ .ow ds) (hb : s.books = []) (h : Own (σ.set i v) (S.set i s) l) : Own σ S l := by
  rcases h with ⟨j, ds, h1, h2⟩ | h
  · rcases set_get h1 with ⟨_, e, _⟩ | ⟨ne, h1⟩
    · exact absurd e (hs ds)
    · rcases set_get h2 with ⟨e, _⟩ | ⟨_, h2⟩
      · exact absurd e ne
      · exact .inl ⟨j, ds, h1, h2⟩
  · exact .inr (h.set hb)
theorem Gm_le_of {σ σ' : St} {S S' : DSt} {H : Hp} (h : ∀ l, Own σ' S' l → Own σ S l) : Same (Gm σ S H) (Gm σ' S' H) := fun a o q =>
  Gm_of (fun w => (Gm_some q).1 (h a w)) (Gm_some q).2
/-- a slot without instances is filled -/
theorem Rl.bo_put {H H' G' : Hp} {σ : St} {S : DSt} {i : Nat} {v : Option V} {s0 : Sl} (rl : Rl H σ S) (sm : Same (Gm σ S H) G') (eH : ∀ a o, OwnB S a → H a = some o → H' a = some o) (hp : ∀ w, SlOk H' G' w s0) :
    ∀ (j : Nat) s, (S.set i s0)[j]? = some s → SlOk H' G' (σ.set i v)[j]? s := fun j s h => by
  rcases set_get h with ⟨_, e, _⟩ | ⟨ne, h⟩
  · rw [← e]
    exact hp _
  · rw [List.getElem?_set_ne (Ne.symm ne)]
    exact (rl.bo j s h).mono sm fun a o ha => eH a o ⟨j, s, h, ha⟩
theorem Rl.one_put {H : Hp} {σ : St} {S : DSt} {i : Nat} {s0 : Sl} (rl : Rl H σ S) (hb : s0.books = []) : ∀ (j k : Nat) s t, (S.set i s0)[j]? = some s → (S.set i s0)[k]? = some t → s.books ≠ [] → t.books ≠ [] → j = k := fun j k s t h1 h2 b1 b2 => by
  rcases set_get h1 with ⟨_, e, _⟩ | ⟨_, h1⟩
  · exact absurd (e ▸ hb) b1
  rcases set_get h2 with ⟨_, e, _⟩ | ⟨_, h2⟩
  · exact absurd (e ▸ hb) b2
  exact rl.one j k s t h1 h2 b1 b2
/-- slot i now holds v, told by d -/
theorem Rl.put {H : Hp} {σ : St} {S : DSt} {i : Nat} {v : V} {d : PyData} (rl : Rl H σ S) (h : Da (Gm σ S H) d v) : Rl H (σ.set i (some v)) (S.set i (.va d)) ∧ Same (Gm σ S H) (Gm (σ.set i (some v)) (S.set i (.va d)) H) := by
  have sm : Same (Gm σ S H) (Gm (σ.set i (some v)) (S.set i (.va d)) H) := Gm_le_of fun l w => Own.set_va (fun ds e => by cases e) rfl w
  refine ⟨⟨by rw [List.length_set, List.length_set]; exact rl.len, fun j d' h' => ?_, fun j ds h' => ?_, fun j k ds es l h1 h2 h3 h4 => ?_, rl.bo_put sm (fun _ _ _ q => q) fun _ => trivial, rl.one_put rfl⟩, sm⟩
  · rcases set_get h' with ⟨e, e2, hi⟩ | ⟨ne, h'⟩
    · cases e2
      subst e
      exact ⟨v, List.getElem?_set_self (by rw [rl.len]; exact hi), Da.mono sm _ _ h⟩
    · obtain ⟨w, h1, h2⟩ := rl.va j d' h'
      exact ⟨w, by rw [List.getElem?_set_ne (Ne.symm ne)]; exact h1, Da.mono sm _ _ h2⟩
  · rcases set_get h' with ⟨e, e2, hi⟩ | ⟨ne, h'⟩
    · cases e2
    · obtain ⟨l, xs, h1, h2, h3⟩ := rl.ow j ds h'
      exact ⟨l, xs, by rw [List.getElem?_set_ne (Ne.symm ne)]; exact h1, h2, DaL.mono sm _ _ h3⟩
  · rcases set_get h1 with ⟨_, e, _⟩ | ⟨n1, h1⟩
    · cases e
    rcases set_get h2 with ⟨_, e, _⟩ | ⟨n2, h2⟩
    · cases e
    rw [List.getElem?_set_ne (Ne.symm n1)] at h3
    rw [List.getElem?_set_ne (Ne.symm n2)] at h4
    exact rl.sep j k ds es l h1 h2 h3 h4
theorem x_set {i : Nat} (h : Ep te S d) : DX E (tAsg te (gName i)) S (.nx (S.set i (.va d))) := fun D H σ rl k => h H σ rl _ fun v H1 e1 q => by
  obtain ⟨h1, h2⟩ := (rl.mono e1).put (i := i) q
  exact k _ _ h1 ((Gm_mono e1).trans h2)
/-- slot i now holds a new list at l, that no one else holds -/
theorem Rl.putO {H H1 : Hp} {σ : St} {S : DSt} {i : Nat} {l : Addr} {xs : List V} {ds : List PyData} (rl : Rl H σ S) (e1 : Same H H1) (hl : H l = none) (q1 : H1 l = some (.lst xs)) (q2 : DaL (hid l (Gm σ S H1)) ds xs) :
    Rl H1 (σ.set i (some (.ref l))) (S.set i (.ow ds)) ∧ Same (Gm σ S H) (Gm (σ.set i (some (.ref l))) (S.set i (.ow ds)) H1) := by
  have own : ∀ m, Own (σ.set i (some (.ref l))) (S.set i (.ow ds)) m → Own σ S m ∨ m = l := fun m w => by
    rcases w with ⟨j, es, h1, h2⟩ | w
    · rcases set_get h1 with ⟨e, _, hi⟩ | ⟨ne, h1⟩
      · subst e
        rw [List.getElem?_set_self (by rw [rl.len]; exact hi)] at h2
        cases h2
        exact .inr rfl
      · rw [List.getElem?_set_ne (Ne.symm ne)] at h2
        exact .inl (.inl ⟨j, es, h1, h2⟩)
    · exact .inl (.inr (w.set rfl))
  have sm : Same (Gm σ S H) (Gm (σ.set i (some (.ref l))) (S.set i (.ow ds)) H1) := fun a o q => by
    obtain ⟨n, q⟩ := Gm_some q
    refine Gm_of (fun w => ?_) (e1 a o q)
    rcases own a w with w | w
    · exact n w
    · rw [w, hl] at q
      cases q
  have sm2 : Same (hid l (Gm σ S H1)) (Gm (σ.set i (some (.ref l))) (S.set i (.ow ds)) H1) := fun a o q => by
    unfold hid at q
    split at q
    · cases q
    · rename_i ne
      obtain ⟨n, q⟩ := Gm_some q
      exact Gm_of (fun w => (own a w).elim n ne) q
  refine ⟨⟨by rw [List.length_set, List.length_set]; exact rl.len, fun j d' h' => ?_, fun j es h' => ?_, fun j m es fs p h1 h2 h3 h4 => ?_, rl.bo_put sm (fun a o _ q => e1 a o q) fun _ => trivial, rl.one_put rfl⟩, sm⟩
  · rcases set_get h' with ⟨_, e2, _⟩ | ⟨ne, h'⟩
    · cases e2
    · obtain ⟨w, z1, z2⟩ := rl.va j d' h'
      exact ⟨w, by rw [List.getElem?_set_ne (Ne.symm ne)]; exact z1, Da.mono sm _ _ z2⟩
  · rcases set_get h' with ⟨e, e2, hi⟩ | ⟨ne, h'⟩
    · cases e2
      subst e
      exact ⟨l, xs, List.getElem?_set_self (by rw [rl.len]; exact hi), q1, DaL.mono sm2 _ _ q2⟩
    · obtain ⟨m, ys, z1, z2, z3⟩ := rl.ow j es h'
      exact ⟨m, ys, by rw [List.getElem?_set_ne (Ne.symm ne)]; exact z1, e1 _ _ z2, DaL.mono sm _ _ z3⟩
  · have nl : ∀ {j : Nat} {es : List PyData} {p : Addr}, S[j]? = some (Sl.ow es) → σ[j]? = some (some (V.ref p)) → p ≠ l := fun {j es p} z1 z2 z => by
      obtain ⟨m, ys, w1, w2, _⟩ := rl.ow j es z1
      rw [z2] at w1
      cases w1
      rw [z, hl] at w2
      cases w2
    rcases set_get h1 with ⟨e, _, hi⟩ | ⟨n1, g1⟩
    · rcases set_get h2 with ⟨e', _, hi'⟩ | ⟨n2, g2⟩
      · rw [e, e']
      · subst e
        rw [List.getElem?_set_self (by rw [rl.len]; exact hi)] at h3
        cases h3
        rw [List.getElem?_set_ne (Ne.symm n2)] at h4
        exact absurd rfl (nl g2 h4)
    · rw [List.getElem?_set_ne (Ne.symm n1)] at h3
      rcases set_get h2 with ⟨e', _, hi'⟩ | ⟨n2, g2⟩
      · subst e'
        rw [List.getElem?_set_self (by rw [rl.len]; exact hi')] at h4
        cases h4
        exact absurd rfl (nl g1 h3)
      · rw [List.getElem?_set_ne (Ne.symm n2)] at h4
        exact rl.sep j m es fs p g1 g2 h3 h4
theorem x_setO {i : Nat} (h : En te S ds) (im : immL ds = true) : DX E (tAsg te (gName i)) S (.nx (S.set i (.ow ds))) := fun D H σ rl k => h H σ rl _ fun l H1 e1 hl q => by
  obtain ⟨a, xs, e, q1, q2⟩ := q
  cases e
  have rl1 := rl.mono e1
  have tp : Tups H1 (hid l (Gm σ S H1)) := fun a ys q => by
    have ne : a ≠ l := fun w => by
      rw [w, q1] at q
      cases q
    unfold hid
    rw [if_neg ne]
    exact rl1.tups a ys q
  obtain ⟨h1, h2⟩ := rl.putO (i := i) e1 hl q1 (DaL.tups tp _ _ im q2)
  exact k _ H1 h1 h2

/-! an owned list is changed -/
theorem Rl.change {H : Hp} {σ : St} {S : DSt} {i : Nat} {l : Addr} {xs ys : List V} {ds es : List PyData} (rl : Rl H σ S) (hi : S[i]? = some (.ow ds)) (hl : σ[i]? = some (some (.ref l))) (hx : H l = some (.lst xs)) (hy : DaL (Gm σ S H) es ys) :
    Rl (upd H l (.lst ys)) σ (S.set i (.ow es)) ∧ Same (Gm σ S H) (Gm σ (S.set i (.ow es)) (upd H l (.lst ys))) := by
  have hiS : i < S.length := (List.getElem?_eq_some_iff.mp hi).1
  have own : ∀ m, Own σ (S.set i (.ow es)) m → Own σ S m := fun m w => by
    rcases w with ⟨j, fs, h1, h2⟩ | w
    · rcases set_get h1 with ⟨e, _, _⟩ | ⟨ne, h1⟩
      · subst e
        exact .inl ⟨j, ds, hi, h2⟩
      · exact .inl ⟨j, fs, h1, h2⟩
    · exact .inr (w.set rfl)
  have ol : Own σ S l := .inl ⟨i, ds, hi, hl⟩
  have sm : Same (Gm σ S H) (Gm σ (S.set i (.ow es)) (upd H l (.lst ys))) := fun a o q => by
    obtain ⟨n, q⟩ := Gm_some q
    have ne : a ≠ l := fun z => n (z ▸ ol)
    exact Gm_of (fun w => n (own a w)) (by rw [upd_ne ne]; exact q)
  have hset : σ.set i (some (.ref l)) = σ := by
    refine List.ext_getElem? fun j => ?_
    by_cases e : i = j
    · subst e
      rw [List.getElem?_set_self (by rw [rl.len]; exact hiS), hl]
    · rw [List.getElem?_set_ne e]
  have hbo := rl.bo_put (i := i) (v := some (.ref l)) (s0 := .ow es) (H' := upd H l (.lst ys)) sm (fun a o w q => by
    obtain ⟨j, s, h1, h2⟩ := w
    obtain ⟨C, dx, fs, z⟩ := (rl.bo j s h1).ins h2
    rw [upd_ne (fun e => by rw [e, hx] at z; cases z)]
    exact q) fun _ => trivial
  rw [hset] at hbo
  refine ⟨⟨by rw [List.length_set]; exact rl.len, fun j d' h' => ?_, fun j fs h' => ?_, fun j m fs gs p h1 h2 h3 h4 => ?_, hbo, rl.one_put rfl⟩, sm⟩
  · rcases set_get h' with ⟨_, e2, _⟩ | ⟨ne, h'⟩
    · cases e2
    · obtain ⟨w, z1, z2⟩ := rl.va j d' h'
      exact ⟨w, z1, Da.mono sm _ _ z2⟩
  · rcases set_get h' with ⟨e, e2, _⟩ | ⟨ne, h'⟩
    · cases e2
      subst e
      exact ⟨l, ys, hl, upd_same, DaL.mono sm _ _ hy⟩
    · obtain ⟨m, zs, z1, z2, z3⟩ := rl.ow j fs h'
      refine ⟨m, zs, z1, ?_, DaL.mono sm _ _ z3⟩
      rw [upd_ne]
      · exact z2
      · intro z
        subst z
        exact ne (rl.sep j i fs ds m h' hi z1 hl)
  · rcases set_get h1 with ⟨e, _, _⟩ | ⟨n1, h1⟩ <;> rcases set_get h2 with ⟨e', _, _⟩ | ⟨n2, h2⟩
    · rw [e, e']
    · rw [e] at h3 ⊢
      exact rl.sep i m ds gs p hi h2 h3 h4
    · rw [e'] at h4 ⊢
      exact rl.sep j i fs ds p h1 hi h3 h4
    · exact rl.sep j m fs gs p h1 h2 h3 h4
/-- xs.append(e) -/
theorem x_appP {i : Nat} (hi : S[i]? = some (.ow ds)) (h : Ep te S d) (hz : ds.length < 100000) : DX E (tDrop (tBM K "list" rAppend (tVar i) (tCons te tNil))) S (.nx (S.set i (.ow (ds ++ [d])))) := fun D H σ rl k => by
  obtain ⟨l, xs, h1, h2, h3⟩ := rl.ow i ds hi
  refine ⟨.ref l, h1, .inl ⟨rfl, xs, SqL.of h2⟩, h H σ rl _ fun v H1 e1 q => ?_⟩
  have hx1 := e1 l _ h2
  refine ⟨l, xs, v, rfl, rfl, hx1, Nat.lt_of_lt_of_le (by rw [h3.length]; exact hz) (by decide : 100000 ≤ sizeLine), ?_⟩
  obtain ⟨r2, s2⟩ := (rl.mono e1).change hi h1 hx1 (ys := xs ++ [v]) (es := ds ++ [d]) ((DaL.mono (Gm_mono e1) _ _ h3).append (.one q))
  exact k _ _ r2 ((Gm_mono e1).trans s2)
theorem x_app {i : Nat} (hi : S[i]? = some (.ow ds)) (h : Eb te S d) (im : imm d = true) (hz : ds.length < 100000) : DX E (tDrop (tBM K "list" rAppend (tVar i) (tCons te tNil))) S (.nx (S.set i (.ow (ds ++ [d])))) := x_appP hi (Ep.imm h im) hz
/-- xs[j] = e -/
theorem x_putP {i j : Nat} {z : Int} (hi : S[i]? = some (.ow ds)) (h : Ep te S d) (hj : Eb tb S (.int z)) (hz : ixN ds.length z = some j) : DX E (tAsg te (gSub (tVar i) tb rSetL)) S (.nx (S.set i (.ow (ds.set j d)))) := fun D H σ rl k =>
  h H σ rl _ fun v H1 e1 q => by
    obtain ⟨l, xs, h1, h2, h3⟩ := (rl.mono e1).ow i ds hi
    refine ⟨.ref l, h1, hj H1 σ (rl.mono e1) _ fun w H2 e2 q2 => ?_⟩
    have hx2 := e2 l _ h2
    refine ⟨l, xs, z, j, rfl, q2, hx2, by rw [h3.length]; exact hz, ?_⟩
    obtain ⟨r2, s2⟩ := ((rl.mono e1).mono e2).change hi h1 hx2 (ys := xs.set j v) (es := ds.set j d) ((DaL.mono (Gm_mono e2) _ _ h3).set j (Da.mono (Gm_mono e2) _ _ q))
    exact k _ _ r2 ((Gm_mono (e1.trans e2)).trans s2)
theorem x_put {i j : Nat} {z : Int} (hi : S[i]? = some (.ow ds)) (h : Eb te S d) (im : imm d = true) (hj : Eb tb S (.int z)) (hz : ixN ds.length z = some j) : DX E (tAsg te (gSub (tVar i) tb rSetL)) S (.nx (S.set i (.ow (ds.set j d)))) := x_putP hi (Ep.imm h im) hj hz

/-! ### knowing less -/
inductive Le : DSt → DSt → Prop
  | nil : Le [] []
  | eq {s S S'} : Le S S' → Le (s :: S) (s :: S')
  | va {d S S'} : Le S S' → Le (.va d :: S) (.no :: S')
  | ow {ds S S'} : Le S S' → Le (.ow ds :: S) (.no :: S')
  /-- an owned list becomes a value -/
  | fz {ds S S'} : Le S S' → Le (.ow ds :: S) (.va (.list ds) :: S')
theorem Le.rfl' : ∀ {S : DSt}, Le S S
  | [] => .nil
  | s :: S => .eq Le.rfl'
theorem Le.len {S S' : DSt} (h : Le S S') : S'.length = S.length := by
  induction h with
  | nil => rfl
  | eq _ ih => simpa using ih
  | va _ ih => simpa using ih
  | ow _ ih => simpa using ih
  | fz _ ih => simpa using ih
theorem Le.getO {S S' : DSt} (h : Le S S') : ∀ {i : Nat} {ds}, S'[i]? = some (.ow ds) → S[i]? = some (.ow ds) := by
  induction h with
  | nil => intro i ds e; exact e
  | eq _ ih => intro i ds e; cases i with
    | zero => exact e
    | succ i => exact ih (by simpa using e)
  | va _ ih => intro i ds e; cases i with
    | zero => cases e
    | succ i => exact ih (by simpa using e)
  | ow _ ih => intro i ds e; cases i with
    | zero => cases e
    | succ i => exact ih (by simpa using e)
  | fz _ ih => intro i ds e; cases i with
    | zero => cases e
    | succ i => exact ih (by simpa using e)
theorem Le.getV {S S' : DSt} (h : Le S S') : ∀ {i : Nat} {d}, S'[i]? = some (.va d) → S[i]? = some (.va d) ∨ ∃ ds, d = .list ds ∧ S[i]? = some (.ow ds) ∧ ∀ es, S'[i]? ≠ some (.ow es) := by
  induction h with
  | nil => intro i d e; exact .inl e
  | eq _ ih => intro i d e; cases i with
    | zero => exact .inl e
    | succ i => exact ih (by simpa using e)
  | va _ ih => intro i d e; cases i with
    | zero => cases e
    | succ i => exact ih (by simpa using e)
  | ow _ ih => intro i d e; cases i with
    | zero => cases e
    | succ i => exact ih (by simpa using e)
  | @fz ds _ _ _ ih => intro i d e; cases i with
    | zero =>
      have e' : Sl.va (.list ds) = .va d := Option.some.inj e
      cases e'
      exact .inr ⟨ds, rfl, rfl, fun es z => by cases z⟩
    | succ i => exact ih (by simpa using e)
theorem Le.getB {S S' : DSt} (h : Le S S') : ∀ {i : Nat} {s : Sl}, S'[i]? = some s → S[i]? = some s ∨ s.books = [] ∧ ∀ H G v, SlOk H G v s := by
  induction h with
  | nil => intro i s e; exact .inl e
  | eq _ ih => intro i s e; cases i with
    | zero => exact .inl e
    | succ i => exact ih (by simpa using e)
  | va _ ih => intro i s e; cases i with
    | zero => cases e; exact .inr ⟨rfl, fun _ _ _ => trivial⟩
    | succ i => exact ih (by simpa using e)
  | ow _ ih => intro i s e; cases i with
    | zero => cases e; exact .inr ⟨rfl, fun _ _ _ => trivial⟩
    | succ i => exact ih (by simpa using e)
  | fz _ ih => intro i s e; cases i with
    | zero => cases e; exact .inr ⟨rfl, fun _ _ _ => trivial⟩
    | succ i => exact ih (by simpa using e)
theorem Rl.le {H : Hp} {σ : St} {S S' : DSt} (rl : Rl H σ S) (h : Le S S') : Rl H σ S' ∧ Same (Gm σ S H) (Gm σ S' H) := by
  have own : ∀ m, Own σ S' m → Own σ S m := fun m w => by
    rcases w with ⟨j, fs, h1, h2⟩ | ⟨j, s, h1, h2⟩
    · exact .inl ⟨j, fs, h.getO h1, h2⟩
    · rcases h.getB h1 with h1 | ⟨e, _⟩
      · exact .inr ⟨j, s, h1, h2⟩
      · rw [e] at h2
        cases h2
  have sm : Same (Gm σ S H) (Gm σ S' H) := Gm_le_of own
  refine ⟨⟨by rw [rl.len, h.len], fun i d e => ?_, fun i ds e => ?_, fun i j ds es l h1 h2 => rl.sep i j ds es l (h.getO h1) (h.getO h2), fun i s e => ?_, fun i j s t h1 h2 b1 b2 => ?_⟩, sm⟩
  · rcases h.getV e with e | ⟨ds, rfl, e, ne⟩
    · obtain ⟨v, h1, h2⟩ := rl.va i d e
      exact ⟨v, h1, Da.mono sm _ _ h2⟩
    · obtain ⟨l, xs, h1, h2, h3⟩ := rl.ow i ds e
      refine ⟨.ref l, h1, l, xs, rfl, Gm_of (fun w => ?_) h2, DaL.mono sm _ _ h3⟩
      rcases w with ⟨j, fs, q1, q2⟩ | ⟨j, s, q1, q2⟩
      · have hij := rl.sep i j ds fs l e (h.getO q1) h1 q2
        subst hij
        exact ne fs q1
      · rcases h.getB q1 with q1 | ⟨z, _⟩
        · obtain ⟨C, dx, fs, z⟩ := (rl.bo j s q1).ins q2
          rw [h2] at z
          cases z
        · rw [z] at q2
          cases q2
  · obtain ⟨l, xs, h1, h2, h3⟩ := rl.ow i ds (h.getO e)
    exact ⟨l, xs, h1, h2, DaL.mono sm _ _ h3⟩
  · rcases h.getB e with e | ⟨_, z⟩
    · exact (rl.bo i s e).mono sm fun _ _ _ q => q
    · exact z _ _ _
  · rcases h.getB h1 with h1 | ⟨z, _⟩
    · rcases h.getB h2 with h2 | ⟨z, _⟩
      · exact rl.one i j s t h1 h2 b1 b2
      · exact absurd z b2
    · exact absurd z b1
/-- from a state that is known better -/
theorem x_pre (h : DX E t S1 o) (l : Le S S1) : DX E t S o := fun D H σ rl k => let ⟨r1, s1⟩ := rl.le l; h D H σ r1 (k.up s1)
theorem x_post (h : DX E t S (.nx S1)) (l : Le S1 S2) : DX E t S (.nx S2) := fun D H σ rl k => h D H σ rl fun σ' H' r' e => let ⟨r1, s1⟩ := r'.le l; k σ' H' r1 (e.trans s1)
theorem Eb.pre (h : Eb te S1 d) (l : Le S S1) : Eb te S d := fun H σ rl Q q => h H σ (rl.le l).1 Q q
theorem Et.pre {b : Bool} (h : Et tt S1 b) (l : Le S S1) : Et tt S b := fun H σ rl Q q => h H σ (rl.le l).1 Q q

/-! ### targets -/
/-- d is stored: from S to S', only the slots ws change -/
def Dg (ws : List Nat) (g : TG) (d : PyData) (S S' : DSt) : Prop := ∀ H σ v, Rl H σ S → Da (Gm σ S H) d v →
  ∃ σ', Rl H σ' S' ∧ Same (Gm σ S H) (Gm σ' S' H) ∧ (σ'.length = σ.length ∧ ∀ j, j ∉ ws → σ'[j]? = σ[j]?) ∧ ∀ Q : St → Hp → Prop, Q σ' H → g v σ H Q
def DgL (ws : List Nat) (g : TGs) (ds : List PyData) (S S' : DSt) : Prop := ∀ H σ vs, Rl H σ S → DaL (Gm σ S H) ds vs →
  ∃ σ', Rl H σ' S' ∧ Same (Gm σ S H) (Gm σ' S' H) ∧ (σ'.length = σ.length ∧ ∀ j, j ∉ ws → σ'[j]? = σ[j]?) ∧ ∀ Q : St → Hp → Prop, Q σ' H → g vs σ H Q
theorem g_name {i : Nat} : Dg [i] (gName i) d S (S.set i (.va d)) := fun H σ v rl h => by
  obtain ⟨h1, h2⟩ := rl.put (i := i) h
  exact ⟨_, h1, h2, ⟨List.length_set, fun j hj => List.getElem?_set_ne (fun e => hj (by simp [e]))⟩, fun Q q => q⟩
theorem gs_nil : DgL [] gNil [] S S := fun H σ vs rl h => ⟨σ, rl, Same.refl _, ⟨rfl, fun _ _ => rfl⟩, fun Q q => ⟨h, q⟩⟩
theorem gs_cons {ws ws' : List Nat} {g : TG} {gs : TGs} (h1 : Dg ws g d S S1) (h2 : DgL ws' gs ds S1 S2) : DgL (ws ++ ws') (gCons g gs) (d :: ds) S S2 := fun H σ vs rl h => by
  obtain ⟨v, r, e, q1, q2⟩ := h
  obtain ⟨σ1, a1, a2, a3, a4⟩ := h1 H σ v rl q1
  obtain ⟨σ2, b1, b2, b3, b4⟩ := h2 H σ1 r a1 (DaL.mono a2 _ _ q2)
  exact ⟨σ2, b1, a2.trans b2, ⟨b3.1.trans a3.1, fun j hj => (b3.2 j fun z => hj (List.mem_append_right _ z)).trans (a3.2 j fun z => hj (List.mem_append_left _ z))⟩, fun Q q => ⟨v, r, e, a4 _ (b4 Q q)⟩⟩
theorem g_tup {ws : List Nat} {n : Nat} {gs : TGs} (h : DgL ws gs ds S S1) (hn : ds.length = n) : Dg ws (gTup K n gs) (.tuple ds) S S1 := fun H σ v rl hd => by
  obtain ⟨a, xs, e, q1, q2⟩ := hd
  obtain ⟨σ1, a1, a2, a3, a4⟩ := h H σ xs rl q2
  exact ⟨σ1, a1, a2, a3, fun Q q => ⟨a, xs, e, SqT.of (Gm_le a _ q1), by rw [q2.length]; exact hn, a4 Q q⟩⟩
theorem x_asg {ws : List Nat} {g : TG} (h : Ep te S d) (hg : Dg ws g d S S1) : DX E (tAsg te g) S (.nx S1) := fun D H σ rl k => h H σ rl _ fun v H1 e1 q => by
  obtain ⟨σ1, a1, a2, _, a4⟩ := hg H1 σ v (rl.mono e1) q
  exact a4 _ (k σ1 H1 a1 ((Gm_mono e1).trans a2))

/-! ### what a for walks -/
open Classical in
/-- what stood, and what is new in H' -/
noncomputable def gro (B H H' : Hp) : Hp := fun a => if H a = none then H' a else B a
structure Walk (J : It) (B : Hp) (ds : List PyData) : Prop where
  go : ∀ (i : Nat) H, i < ds.length → Same B H → J.go i H
  yl : ∀ (i : Nat) H x H', i < ds.length → Same B H → J.yld i H x H' → Same H H' ∧ ∃ d, ds[i]? = some d ∧ Da (gro B H H') d x
  st : ∀ H, Same B H → J.stop ds.length H
def Di (wi : TI) (S : DSt) (ds : List PyData) : Prop := ∀ H σ, Rl H σ S → ∀ R : It → Hp → Prop, (∀ J H1, Same H H1 → Walk J (Gm σ S H1) ds → R J H1) → wi σ H R
theorem gro_same {B H : Hp} (h : Same B H) : gro B H H = B := by
  funext a
  unfold gro
  split
  · rename_i e
    rw [e, (h.free e)]
  · rfl
theorem sqL_inj {H : Hp} {a : Addr} {xs ys : List V} (h : H a = some (.lst xs)) (h' : SqL K H a ys) : Rd H a (.lst ys) ∨ True := .inr trivial
theorem i_list (h : Ep te S (.list ds)) : Di (iList K te) S ds := fun H σ rl R k => h H σ rl _ fun v H1 e1 q => by
  obtain ⟨a, xs, e, q1, q2⟩ := q
  have q1' := (Gm_some q1).2
  refine ⟨a, e, ⟨xs, SqL.of q1'⟩, k _ H1 e1 ⟨fun i H' hi e' => ?_, fun i H' x H'' hi e' y => ?_, fun H' e' => ?_⟩⟩
  · have hx : i < xs.length := by rw [q2.length]; exact hi
    exact ⟨xs, xs[i], SqL.of (e' a _ q1), List.getElem?_eq_getElem hx⟩
  · obtain ⟨rfl, y⟩ := y
    obtain ⟨d, h1, h2⟩ := q2.get' (y xs (SqL.of (e' a _ q1)))
    exact ⟨Same.refl _, d, h1, by rw [gro_same e']; exact h2⟩
  · exact ⟨xs, SqL.of (e' a _ q1), by rw [q2.length]; exact Nat.le_refl _⟩
theorem i_tup (h : Ep te S (.tuple ds)) : Di (iTup K te) S ds := fun H σ rl R k => h H σ rl _ fun v H1 e1 q => by
  obtain ⟨a, xs, e, q1, q2⟩ := q
  have q1' := (Gm_some q1).2
  refine ⟨a, e, ⟨xs, SqT.of q1'⟩, k _ H1 e1 ⟨fun i H' hi e' => ?_, fun i H' x H'' hi e' y => ?_, fun H' e' => ?_⟩⟩
  · have hx : i < xs.length := by rw [q2.length]; exact hi
    exact ⟨xs, xs[i], SqT.of (e' a _ q1), List.getElem?_eq_getElem hx⟩
  · obtain ⟨rfl, y⟩ := y
    obtain ⟨d, h1, h2⟩ := q2.get' (y xs (SqT.of (e' a _ q1)))
    exact ⟨Same.refl _, d, h1, by rw [gro_same e']; exact h2⟩
  · exact ⟨xs, SqT.of (e' a _ q1), by rw [q2.length]; exact Nat.le_refl _⟩
theorem i_rng1 {ta : TA} {n : Int} (h : Ea ta S [.int n]) (hn : -100000 ≤ n ∧ n ≤ 100000) : Di (iRng1 ta) S ((List.range n.toNat).map fun (k : Nat) => .int (k : Int)) := fun H σ rl R k => h H σ rl _ fun vs H1 e1 q => by
  obtain ⟨v, rfl, q1⟩ := q.v1
  refine ⟨n, by rw [show v = .int n from q1], by omega, by omega, k _ H1 e1 ⟨fun i H' hi e' => ?_, fun i H' x H'' hi e' y => ?_, fun H' e' => ?_⟩⟩
  · show i < n.toNat
    simpa using hi
  · obtain ⟨rfl, rfl⟩ := y
    have hi' : i < n.toNat := by simpa using hi
    refine ⟨Same.refl _, .int (i : Int), by rw [List.getElem?_map, List.getElem?_range hi']; rfl, ?_⟩
    show V.int (0 + (i : Int)) = V.int i
    rw [Int.zero_add]
  · show n.toNat ≤ _
    simp
theorem i_enum (h : Ep te S (.list ds)) : Di (iEnum K (tCons te tNil)) S (ds.mapIdx fun (k : Nat) d => .tuple [.int (k : Int), d]) := fun H σ rl R k => h H σ rl _ fun v H1 e1 q => by
  obtain ⟨a, xs, e, q1, q2⟩ := q
  subst e
  have q1' := (Gm_some q1).2
  refine ⟨a, xs, rfl, SqL.of q1', k _ H1 e1 ⟨fun i H' hi e' => ?_, fun i H' x H'' hi e' y => ?_, fun H' e' => ?_⟩⟩
  · have hx : i < xs.length := by rw [q2.length]; simpa using hi
    exact ⟨xs, xs[i], SqL.of (e' a _ q1), List.getElem?_eq_getElem hx⟩
  · obtain ⟨T, x', rfl, hT, rfl, y⟩ := y
    obtain ⟨d, h1, h2⟩ := q2.get' (y xs (SqL.of (e' a _ q1)))
    refine ⟨same_new hT, .tuple [.int (i : Int), d], by rw [List.getElem?_mapIdx, h1]; rfl, T, [.int (i : Nat), x'], rfl, ?_, ?_⟩
    · unfold gro
      rw [if_pos hT]
      exact upd_same
    · refine ⟨_, _, rfl, rfl, x', _, rfl, Da.mono (fun b o hb => ?_) _ _ h2, rfl⟩
      unfold gro
      rw [if_neg (by rw [e' b o hb]; exact fun z => by cases z)]
      exact hb
  · exact ⟨xs, SqL.of (e' a _ q1), by rw [q2.length]; simp⟩
theorem i_zip {ta : TE} {es : List PyData} (h : Ep ta S (.list ds)) (h' : Ep tb S (.list es)) : Di (iZip K (tCons ta (tCons tb tNil))) S (List.zipWith (fun d e => .tuple [d, e]) ds es) := fun H σ rl R k => h H σ rl _ fun v H0 e0 q => h' H0 σ (rl.mono e0) _ fun w H1 e1 p => by
  obtain ⟨a, xs, e, q1, q2⟩ := q
  obtain ⟨b, ys, e', p1, p2⟩ := p
  subst e
  subst e'
  have q1 := Gm_mono e1 a _ q1
  have q2 := DaL.mono (Gm_mono e1) _ _ q2
  have q1' := (Gm_some q1).2
  have p1' := (Gm_some p1).2
  refine ⟨a, b, xs, ys, rfl, SqL.of q1', SqL.of p1', k _ H1 (e0.trans e1) ⟨fun i H' hi e' => ?_, fun i H' x H'' hi e' y => ?_, fun H' e' => ?_⟩⟩
  · have hi' : i < min ds.length es.length := by simpa using hi
    have hx : i < xs.length := by rw [q2.length]; omega
    have hy : i < ys.length := by rw [p2.length]; omega
    exact ⟨xs, ys, xs[i], ys[i], SqL.of (e' a _ q1), SqL.of (e' b _ p1), List.getElem?_eq_getElem hx, List.getElem?_eq_getElem hy⟩
  · obtain ⟨T, x', y', rfl, hT, rfl, yx, yy⟩ := y
    obtain ⟨d, h1, h2⟩ := q2.get' (yx xs (SqL.of (e' a _ q1)))
    obtain ⟨d', h1', h2'⟩ := p2.get' (yy ys (SqL.of (e' b _ p1)))
    have up : Same (Gm σ S H1) (gro (Gm σ S H1) H' (upd H' T (.tup [x', y']))) := fun c o hb => by
      unfold gro
      rw [if_neg (by rw [e' c o hb]; exact fun z => by cases z)]
      exact hb
    refine ⟨same_new hT, .tuple [d, d'], by rw [List.getElem?_zipWith, h1, h1'], T, [x', y'], rfl, ?_, ?_⟩
    · unfold gro
      rw [if_pos hT]
      exact upd_same
    · exact ⟨_, _, rfl, Da.mono up _ _ h2, y', _, rfl, Da.mono up _ _ h2', rfl⟩
  · refine ⟨xs, ys, SqL.of (e' a _ q1), SqL.of (e' b _ p1), ?_⟩
    rw [q2.length, p2.length, List.length_zipWith]
    omega
theorem i_str {x : Str} (h : Eb te S (.str x)) : Di (iStr te) S (x.cps.toList.map fun c => .str ⟨#[c]⟩) := fun H σ rl R k => h H σ rl _ fun v H1 e1 q => by
  refine ⟨x, q, k _ H1 e1 ⟨fun i H' hi e' => ?_, fun i H' y H'' hi e' z => ?_, fun H' e' => ?_⟩⟩
  · show i < x.cps.size
    simpa using hi
  · obtain ⟨rfl, c, hc, rfl⟩ := z
    refine ⟨Same.refl _, .str ⟨#[c]⟩, ?_, rfl⟩
    rw [List.getElem?_map, Array.getElem?_toList, hc]
    rfl
  · show x.cps.size ≤ _
    simp

/-! ### for -/
theorem gro_le {B H H' : Hp} {σ : St} {S : DSt} (rl : Rl H σ S) (h : Same B (Gm σ S H)) (e : Same H H') : Same (gro B H H') (Gm σ S H') := fun a o q => by
  unfold gro at q
  split at q
  · exact Gm_of (rl.notOwn (by assumption)) q
  · exact Gm_mono e a o (h a o q)
/-- the turns up to n go on (I i: what the slots hold ahead of turn i); then the walk ends, or turn n ends the loop by o -/
theorem x_forGen {wi : TI} {g : TG} {tb : TS} (hw : Di wi S ds) (n : Nat) (hn : n ≤ ds.length) (I : Nat → DSt) (h0 : Le S (I 0))
    (hs : ∀ (i : Nat) d, i < n → ds[i]? = some d → ∃ ws S1 S2, Dg ws g d (I i) S1 ∧ (DX E tb S1 (.nx S2) ∨ DX E tb S1 (.ct S2)) ∧ Le S2 (I (i + 1)))
    (he : n < ds.length → ∀ d, ds[n]? = some d → ∃ ws S1 r, o = .rt r ∧ Dg ws g d (I n) S1 ∧ DX E tb S1 (.rt r)) (hd : n = ds.length → o = .nx (I n)) : DX E (tFor wi g tb) S o := fun D H σ rl k => by
  refine hw H σ rl _ fun J H1 e1 wk => ?_
  have rl1 := rl.mono e1
  obtain ⟨r0, s0⟩ := rl1.le h0
  have k1 := k.up (Gm_mono e1)
  refine ⟨fun i m σ' H' => m = n + 1 - i ∧ i ≤ n ∧ Rl H' σ' (I i) ∧ Same (Gm σ S H1) (Gm σ' (I i) H'), ⟨n + 1, by omega, Nat.zero_le _, r0, s0⟩, ?_⟩
  rintro i m σ' H' ⟨rfl, hi, r', s'⟩
  have sH : Same (Gm σ S H1) H' := s'.trans Gm_le
  by_cases hlt : i < ds.length
  · refine .inr ⟨wk.go i H' hlt sH, fun σ2 H2 => (i + 1 ≤ n ∧ Rl H2 σ2 (I (i + 1)) ∧ Same (Gm σ S H1) (Gm σ2 (I (i + 1)) H2)), fun σ2 H2 ⟨h1, h2, h3⟩ => ⟨n + 1 - (i + 1), by omega, rfl, h1, h2, h3⟩, fun x H2 y => ?_⟩
    obtain ⟨s2, d, hd', q⟩ := wk.yl i H' x H2 hlt sH y
    have r2 := r'.mono s2
    have gl := gro_le r' s' s2
    have s12 : Same (Gm σ S H1) (Gm σ' (I i) H2) := s'.trans (Gm_mono s2)
    have q2 := Da.mono gl _ _ q
    by_cases hin : i < n
    · obtain ⟨ws, S1, S2, hg, hb, hle⟩ := hs i d hin hd'
      obtain ⟨σ3, a1, a2, _, a4⟩ := hg H2 σ' x r2 q2
      refine a4 _ ?_
      rcases hb with hb | hb
      · refine hb _ H2 σ3 a1 fun σ4 H4 r4 s4 => ?_
        obtain ⟨r5, s5⟩ := r4.le hle
        exact ⟨hin, r5, ((s12.trans a2).trans s4).trans s5⟩
      · refine hb _ H2 σ3 a1 fun σ4 H4 r4 s4 => ?_
        obtain ⟨r5, s5⟩ := r4.le hle
        exact ⟨hin, r5, ((s12.trans a2).trans s4).trans s5⟩
    · have ein : i = n := by omega
      subst ein
      obtain ⟨ws, S1, r, eo, hg, hb⟩ := he hlt d hd'
      subst eo
      obtain ⟨σ3, a1, a2, _, a4⟩ := hg H2 σ' x r2 q2
      refine a4 _ (hb _ H2 σ3 a1 ?_)
      exact FinR.up (s12.trans a2) k1
  · have ein : i = ds.length := by omega
    have enn : n = ds.length := by omega
    subst ein
    have eo := hd enn
    subst eo
    rw [enn] at k1
    exact .inl ⟨wk.st H' sH, k1 σ' H' r' s'⟩
/-- every turn goes on -/
theorem x_for {wi : TI} {g : TG} {tb : TS} (I : Nat → DSt) (hw : Di wi S ds) (h0 : Le S (I 0))
    (hs : ∀ (i : Nat) d, ds[i]? = some d → ∃ ws S1 S2, Dg ws g d (I i) S1 ∧ (DX E tb S1 (.nx S2) ∨ DX E tb S1 (.ct S2)) ∧ Le S2 (I (i + 1))) : DX E (tFor wi g tb) S (.nx (I ds.length)) :=
  x_forGen hw ds.length (Nat.le_refl _) I h0 (fun i d _ h => hs i d h) (fun z => absurd z (Nat.lt_irrefl _)) fun _ => rfl
/-- turn n ends the loop -/
theorem x_forX {wi : TI} {g : TG} {tb : TS} (I : Nat → DSt) (n : Nat) (hw : Di wi S ds) (hn : n < ds.length) (h0 : Le S (I 0))
    (hs : ∀ (i : Nat) d, i < n → ds[i]? = some d → ∃ ws S1 S2, Dg ws g d (I i) S1 ∧ (DX E tb S1 (.nx S2) ∨ DX E tb S1 (.ct S2)) ∧ Le S2 (I (i + 1)))
    (he : ∀ d, ds[n]? = some d → ∃ ws S1, Dg ws g d (I n) S1 ∧ DX E tb S1 (.rt r)) : DX E (tFor wi g tb) S (.rt r) :=
  x_forGen hw n (Nat.le_of_lt hn) I h0 hs (fun _ d h => let ⟨ws, S1, h1, h2⟩ := he d h; ⟨ws, S1, r, rfl, h1, h2⟩) fun z => absurd (z ▸ hn) (Nat.lt_irrefl _)
/-- while -/
theorem x_while {tb : TS} (I : Nat → DSt) (n : Nat) (h0 : Le S (I 0)) (ht : ∀ i, i < n → Et tt (I i) true) (hb : ∀ i, i < n → ∃ S2, DX E tb (I i) (.nx S2) ∧ Le S2 (I (i + 1))) (he : Et tt (I n) false) : DX E (tWhile tt tb) S (.nx (I n)) := fun D H σ rl k => by
  obtain ⟨r0, s0⟩ := rl.le h0
  refine ⟨fun m σ' H' => ∃ i, m = n - i ∧ i ≤ n ∧ Rl H' σ' (I i) ∧ Same (Gm σ S H) (Gm σ' (I i) H'), ⟨n, 0, by omega, Nat.zero_le _, r0, s0⟩, ?_⟩
  rintro m σ' H' ⟨i, rfl, hi, r', s'⟩
  by_cases hin : i < n
  · refine ht i hin H' σ' r' _ fun H2 e2 => ?_
    rw [if_pos rfl]
    obtain ⟨S2, h1, h2⟩ := hb i hin
    refine ⟨_, fun σ3 H3 q => q, h1 _ H2 σ' (r'.mono e2) fun σ4 H4 r4 s4 => ?_⟩
    obtain ⟨r5, s5⟩ := r4.le h2
    exact ⟨n - (i + 1), by omega, i + 1, rfl, hin, r5, ((s'.trans (Gm_mono e2)).trans s4).trans s5⟩
  · have e : i = n := by omega
    subst e
    refine he H' σ' r' _ fun H2 e2 => ?_
    rw [if_neg Bool.false_ne_true]
    exact k σ' H2 (r'.mono e2) (s'.trans (Gm_mono e2))
end
end DL

namespace DL
open PySem L2
variable [KK]
/-! ### comprehensions -/
def wipeS (S : DSt) : List Nat → DSt
  | [] => S
  | v :: vs => (wipeS S vs).set v .no
section
variable {E : XK} {S S1 S2 : DSt} {t u : TS} {o : Ou} {te ta tb : TE} {tt : TT} {d : PyData} {ds es : List PyData} {K : PySem.W.Frag} {r : Ro}
theorem Rl.wipe1 {H : Hp} {σ : St} {S : DSt} (rl : Rl H σ S) (i : Nat) : Rl H (σ.set i none) (S.set i .no) ∧ Same (Gm σ S H) (Gm (σ.set i none) (S.set i .no) H) := by
  have own : ∀ l, Own (σ.set i none) (S.set i .no) l → Own σ S l := fun l w => Own.set_va (fun ds e => by cases e) rfl w
  have sm : Same (Gm σ S H) (Gm (σ.set i none) (S.set i .no) H) := Gm_le_of own
  refine ⟨⟨by rw [List.length_set, List.length_set]; exact rl.len, fun j d' h' => ?_, fun j ds h' => ?_, fun j k ds es l h1 h2 h3 h4 => ?_, rl.bo_put sm (fun _ _ _ q => q) fun _ => trivial, rl.one_put rfl⟩, sm⟩
  · rcases set_get h' with ⟨_, e2, _⟩ | ⟨ne, h'⟩
    · cases e2
    · obtain ⟨w, h1, h2⟩ := rl.va j d' h'
      exact ⟨w, by rw [List.getElem?_set_ne (Ne.symm ne)]; exact h1, Da.mono sm _ _ h2⟩
  · rcases set_get h' with ⟨_, e2, _⟩ | ⟨ne, h'⟩
    · cases e2
    · obtain ⟨l, xs, h1, h2, h3⟩ := rl.ow j ds h'
      exact ⟨l, xs, by rw [List.getElem?_set_ne (Ne.symm ne)]; exact h1, h2, DaL.mono sm _ _ h3⟩
  · rcases set_get h1 with ⟨_, e, _⟩ | ⟨n1, g1⟩
    · cases e
    rcases set_get h2 with ⟨_, e, _⟩ | ⟨n2, g2⟩
    · cases e
    rw [List.getElem?_set_ne (Ne.symm n1)] at h3
    rw [List.getElem?_set_ne (Ne.symm n2)] at h4
    exact rl.sep j k ds es l g1 g2 h3 h4
theorem Rl.wipe {H : Hp} {σ : St} {S : DSt} (rl : Rl H σ S) : ∀ vs : List Nat, Rl H (L2.wipe σ vs) (wipeS S vs) ∧ Same (Gm σ S H) (Gm (L2.wipe σ vs) (wipeS S vs) H)
  | [] => ⟨rl, Same.refl _⟩
  | v :: vs => by
    obtain ⟨h1, h2⟩ := Rl.wipe rl vs
    obtain ⟨h3, h4⟩ := h1.wipe1 v
    exact ⟨h3, h2.trans h4⟩
theorem wipe_in {σ : St} {j : Nat} : ∀ {vs : List Nat}, j ∈ vs → j < σ.length → (L2.wipe σ vs)[j]? = some none
  | [], h, _ => absurd h (by simp)
  | v :: vs, h, hj => by
    unfold L2.wipe
    by_cases e : v = j
    · subst e
      exact List.getElem?_set_self (by rw [L2.wipe_length]; exact hj)
    · rw [List.getElem?_set_ne e]
      exact wipe_in ((List.mem_cons.mp h).resolve_left fun z => e z.symm) hj
theorem wipe_eq {σ τ : St} {vs ws : List Nat} (hl : τ.length = σ.length) (h : ∀ j, j ∉ ws → τ[j]? = (L2.wipe σ vs)[j]?) (hw : ∀ j ∈ ws, j ∈ vs) : L2.wipe τ vs = L2.wipe σ vs := by
  refine List.ext_getElem? fun j => ?_
  by_cases hj : j ∈ vs
  · by_cases hlt : j < σ.length
    · rw [wipe_in hj hlt, wipe_in hj (by rw [hl]; exact hlt)]
    · rw [List.getElem?_eq_none (by rw [L2.wipe_length]; omega), List.getElem?_eq_none (by rw [L2.wipe_length]; omega)]
  · rw [wipe_out hj]
    exact h j fun z => hj (hw j z)
theorem filterMap_take {α : Type} (p : α → Bool) (h : α → PyData) {xs : List α} {i : Nat} {x : α} (hx : xs[i]? = some x) : ((xs.take (i + 1)).filter p).map h = ((xs.take i).filter p).map h ++ (if p x = true then [h x] else []) := by
  have e : xs.take (i + 1) = xs.take i ++ [x] := by
    rw [List.take_succ, hx]
    rfl
  rw [e, List.filter_append, List.map_append]
  by_cases q : p x = true
  · rw [if_pos q, List.filter_cons_of_pos q]
    rfl
  · rw [if_neg q, List.filter_cons_of_neg q]
    rfl
/-- [te for g in wi if tt]: of the items f x, x in xs, those with p x, each h x -/
theorem n_lc {α : Type} {wi : TI} {g : TG} {vs : List Nat} (xs : List α) (f : α → PyData) (p : α → Bool) (h : α → PyData) (hw : Di wi S (xs.map f)) (hz : xs.length ≤ 100000)
    (hs : ∀ x, x ∈ xs → ∃ ws S1, (∀ j ∈ ws, j ∈ vs) ∧ Dg ws g (f x) (wipeS S vs) S1 ∧ Et tt S1 (p x) ∧ (p x = true → Eb te S1 (h x) ∧ imm (h x) = true)) :
    En (tLc wi g tt te vs) S ((xs.filter p).map h) := fun H σ rl Q k => by
  refine hw H σ rl _ fun J H1 e1 wk D hD => ?_
  have rl1 := rl.mono e1
  obtain ⟨rw1, sw1⟩ := rl1.wipe vs
  refine ⟨fun i m H' => m = xs.length - i ∧ i ≤ xs.length ∧ Same H1 H' ∧ ∃ acc, H' D = some (.lst acc) ∧ DaL H' (((xs.take i).filter p).map h) acc ∧ immL (((xs.take i).filter p).map h) = true, ⟨xs.length, by omega, Nat.zero_le _, same_new hD, [], upd_same, ?_, ?_⟩, ?_⟩
  · rw [List.take_zero]
    rfl
  · rw [List.take_zero]
    rfl
  rintro i m H' ⟨rfl, hi, s1, acc, hacc, hda, him⟩
  have sB : Same (Gm σ S H1) H' := Gm_le.trans s1
  by_cases hlt : i < xs.length
  · have hx : xs[i]? = some xs[i] := List.getElem?_eq_getElem hlt
    generalize xs[i] = x at hx
    have hmem : x ∈ xs := List.mem_of_getElem? hx
    refine .inr ⟨wk.go i H' (by simpa using hlt) sB, fun H2 => i + 1 ≤ xs.length ∧ Same H1 H2 ∧ ∃ acc, H2 D = some (.lst acc) ∧ DaL H2 (((xs.take (i + 1)).filter p).map h) acc ∧ immL (((xs.take (i + 1)).filter p).map h) = true, fun H2 ⟨a1, a2, a3⟩ => ⟨xs.length - (i + 1), by omega, rfl, a1, a2, a3⟩, fun v H2 y => ?_⟩
    obtain ⟨s2, d, hd', q⟩ := wk.yl i H' v H2 (by simpa using hlt) sB y
    have ed : d = f x := by
      rw [List.getElem?_map, hx] at hd'
      exact (Option.some.inj hd').symm
    subst ed
    obtain ⟨ws, S1, hws, hg, ht, he⟩ := hs x hmem
    have r' := rw1.mono s1
    have r2 := r'.mono s2
    have gl := gro_le r' (sw1.trans (Gm_mono s1)) s2
    obtain ⟨σ3, a1, a2, a3, a4⟩ := hg H2 (L2.wipe σ vs) v r2 (Da.mono gl _ _ q)
    refine a4 _ ⟨?_, ht H2 σ3 a1 _ fun H3 e3 => ?_⟩
    · have hl3 : σ3.length = σ.length := by
        rw [a3.1, L2.wipe_length]
      exact wipe_eq hl3 a3.2 hws
    · have s23 := s2.trans e3
      by_cases hp : p x = true
      · rw [if_pos hp]
        obtain ⟨he1, he2⟩ := he hp
        refine he1 H3 σ3 (a1.mono e3) _ fun w H4 e4 q4 => ?_
        have s24 := s23.trans e4
        have hacc4 : H4 D = some (.lst acc) := s24 D _ hacc
        refine ⟨acc, hacc4, ?_, hlt, fun b ob hb => ?_, acc ++ [w], upd_same, ?_, ?_⟩
        · rw [hda.length, List.length_map]
          have z1 := List.length_filter_le p (xs.take i)
          rw [List.length_take] at z1
          exact Nat.lt_of_lt_of_le (by omega : _ < 100000) (by decide : 100000 ≤ sizeLine)
        · rw [upd_ne (ne_of_none hb hD)]
          exact s24 b ob (s1 b ob hb)
        · rw [filterMap_take p h hx, if_pos hp]
          have tp : Tups H4 (upd H4 D (.lst (acc ++ [w]))) := fun a ys z => by
            rw [upd_ne]
            · exact z
            · intro e
              rw [e, hacc4] at z
              cases z
          have im2 : immL [h x] = true := by
            show (imm (h x) && immL []) = true
            rw [he2]
            rfl
          exact DaL.tups tp _ _ (immL_append him im2) ((DaL.mono s24 _ _ hda).append (.one q4))
        · rw [filterMap_take p h hx, if_pos hp]
          refine immL_append him ?_
          show (imm (h x) && immL []) = true
          rw [he2]
          rfl
      · have hp' : p x = false := by
          cases e : p x with
          | true => exact absurd e hp
          | false => rfl
        rw [hp', if_neg Bool.false_ne_true]
        refine ⟨hlt, s1.trans s23, acc, s23 D _ hacc, ?_, ?_⟩
        · rw [filterMap_take p h hx, if_neg hp, List.append_nil]
          exact DaL.mono s23 _ _ hda
        · rw [filterMap_take p h hx, if_neg hp, List.append_nil]
          exact him
  · have e : i = xs.length := by omega
    subst e
    rw [List.take_length] at hda him
    have st := wk.st H' sB
    rw [List.length_map] at st
    exact .inl ⟨st, k D H' (e1.trans s1) (e1.free hD) ⟨D, acc, rfl, hacc, hda⟩⟩

theorem t_yes : Et tYes S true := fun H σ rl Q q => q H (Same.refl H)

/-! ### calls -/
/-- the promise of a def of the program: on the data ds it gives r -/
def SpR (R : List PyData → Ro → Prop) : Sp := fun vs H Q E => ∃ ds r, DaL H ds vs ∧ R ds r ∧ FinR E Q H r
theorem e_call {R : List PyData → Ro → Prop} {ta : TA} (h : Ea ta S ds) (hR : R ds (.va d)) : Eb (tCall (SpR R) [] E ta) S d := fun H σ rl Q q => h H σ rl _ fun vs H1 e1 q1 =>
  ⟨ds, .va d, by rw [List.append_nil]; exact q1, hR, fun v H' e2 q2 => q v H' (e1.trans e2) q2⟩
theorem n_call {R : List PyData → Ro → Prop} {ta : TA} (h : Ea ta S ds) (hR : R ds (.nw es)) : En (tCall (SpR R) [] E ta) S es := fun H σ rl Q q => h H σ rl _ fun vs H1 e1 q1 =>
  ⟨ds, .nw es, by rw [List.append_nil]; exact q1, hR, fun l H' e2 hl q2 => q l H' (e1.trans e2) (e1.free hl) q2⟩

/-! ### a def's body -/
theorem start_rl : ∀ {ds : List PyData} {vs : List V} {H : Hp} (n : Nat), DaL H ds vs → Rl H (vs.map some ++ List.replicate n none) (ds.map Sl.va ++ List.replicate n Sl.no) := fun {ds vs H} n h => by
  have nob : ∀ (i : Nat) s, (ds.map Sl.va ++ List.replicate n Sl.no)[i]? = some s → s = .no ∨ ∃ d, s = .va d := fun i s e => by
    rcases List.mem_append.mp (List.mem_of_getElem? e) with z | z
    · obtain ⟨x, _, q⟩ := List.mem_map.mp z
      exact .inr ⟨x, q.symm⟩
    · exact .inl (List.mem_replicate.mp z).2
  have noo : ∀ (i : Nat) es, (ds.map Sl.va ++ List.replicate n Sl.no)[i]? ≠ some (.ow es) := fun i es e => by
    rcases nob i _ e with z | ⟨d, z⟩ <;> cases z
  have nobk : ∀ (i : Nat) s, (ds.map Sl.va ++ List.replicate n Sl.no)[i]? = some s → s.books = [] ∧ ∀ H G v, SlOk H G v s := fun i s e => by
    rcases nob i s e with z | ⟨d, z⟩ <;> subst z <;> exact ⟨rfl, fun _ _ _ => trivial⟩
  refine ⟨by simp [h.length], fun i d e => ?_, fun i es e => absurd e (noo i es), fun i j es fs l e => absurd e (noo i es), fun i s e => (nobk i s e).2 _ _ _, fun i j s t h1 h2 b1 b2 => absurd (nobk i s h1).1 b1⟩
  have hi : i < ds.length := by
    by_cases hi : i < ds.length
    · exact hi
    · rw [List.getElem?_append_right (by simpa using hi)] at e
      rw [List.getElem?_replicate] at e
      split at e <;> cases e
  rw [List.getElem?_append_left (by simpa using hi), List.getElem?_map] at e
  have e' : ds[i]? = some d := by
    cases q : ds[i]? with
    | none => rw [q] at e; cases e
    | some x => rw [q] at e; cases e; rfl
  obtain ⟨v, h1, h2⟩ := h.get e'
  refine ⟨v, ?_, ?_⟩
  · rw [List.getElem?_append_left (by rw [List.length_map, h.length]; exact hi), List.getElem?_map, h1]
    rfl
  · refine Da.mono (fun b o q => Gm_of (fun w => by
      rcases w with ⟨j, fs, w, _⟩ | ⟨j, s, w1, w2⟩
      · exact noo j fs w
      · rw [(nobk j s w1).1] at w2
        cases w2) q) _ _ h2
theorem run_of {R : List PyData → Ro → Prop} {N : List Str} {t : TS} {vs : List V} {H : Hp} {Q : VK} (h : SpR R vs H Q E)
    (hb : ∀ ds r, R ds r → DX E t (ds.map Sl.va ++ List.replicate (N.length - ds.length) Sl.no) (.rt r)) : t { nx := fun _ H' => Q .non H', rt := Q } (L2.start N vs) H := by
  obtain ⟨ds, r, h1, h2, h3⟩ := h
  have rl := start_rl (N.length - ds.length) h1
  have hb' := hb ds r h2
  have e : L2.start N vs = vs.map some ++ List.replicate (N.length - ds.length) none := by
    unfold L2.start
    rw [h1.length]
  rw [e]
  refine hb' _ H _ rl ?_
  have g : Gm (vs.map some ++ List.replicate (N.length - ds.length) none) (ds.map Sl.va ++ List.replicate (N.length - ds.length) Sl.no) H = H := Gm_free (by
    have : ∀ (l : List PyData) (n : Nat), noOw (l.map Sl.va ++ List.replicate n Sl.no) = true := fun l n => by
      induction l with
      | nil =>
        induction n with
        | zero => rfl
        | succ n ih => exact ih
      | cons a l ih => exact ih
    exact this ds _)
  rw [g]
  show FinR E Q H r
  exact h3
theorem SpR.len {R : List PyData → Ro → Prop} {n : Nat} (h : ∀ ds r, R ds r → ds.length = n) : ∀ vs H Q E, SpR R vs H Q E → vs.length = n := fun vs H Q E ⟨ds, r, h1, h2, _⟩ => by
  rw [h1.length]
  exact h ds r h2
end
end DL

namespace DL
open PySem L2
/-- a promise by its arguments' data: of x with pre x the def gives res x -/
def Rf {α : Type} (args : α → List PyData) (pre : α → Prop) (res : α → Ro) : List PyData → Ro → Prop := fun ds r => ∃ x, pre x ∧ ds = args x ∧ r = res x
/-- a def that is called by its name -/
structure Cal (P : Program) (w : World) (K : PySem.W.Frag) (mg : Str → Option Value) (base : Heap) (k : Nat) (x : Str) (ps : List Str) (R : List PyData → Ro → Prop) : Prop where
  ex : ∃ f fd, FnOk P w K mg base CX0 k f fd ps (@SpR ⟨K⟩ R) ∧ mg x = some (.ref f) ∧ PySem.W.keepIn K (.ref f) = true ∧ Binds K fd ps []
/-! the rules with the written part by name -/
section
variable {X : Cx} {k : Nat} {x : Str} {ps : List Str} {R : List PyData → Ro → Prop} {a b o e e1 e2 : Expr} {es : List Expr} {t : TA} {ta tb to te t1 t2 : TE} {tl th : TO} {lo hi : Option Expr} {tg : Expr} {p p2 pos tpos : Pos} {kk : Nat}
variable (K : PySem.W.Frag)
theorem Cal.pe {K : PySem.W.Frag} (C : Cal X.prog X.w K X.mg X.base k x ps R) (hr : Room k X.A) (hg : Gl X x) (ha : PA X (e :: es) t) (hK : X.K = K := by rfl) (hdb : (x == ("__debug__" : Str)) = false := by decide) (he : starEach (e :: es) X.env = (false, eval e X.env) :: starEach es X.env := by rfl) (hpl : (backTo pos (starEach es X.env)).any (·.1) = false := by rfl) :
    PE X (.Call (.Name x p) (e :: es) [] pos) (tCall (@SpR ⟨K⟩ R) [] E0 t) := by
  subst hK
  obtain ⟨f, fd, F, hm, hk, hb⟩ := C.ex
  exact pe_call F hr hg hm hk hb .nil pass0 ha hdb he hpl
theorem Cal.pe0 {K : PySem.W.Frag} (C : Cal X.prog X.w K X.mg X.base k x ps R) (hr : Room k X.A) (hg : Gl X x) (hK : X.K = K := by rfl) (hdb : (x == ("__debug__" : Str)) = false := by decide) :
    PE X (.Call (.Name x p) [] [] pos) (tCall (@SpR ⟨K⟩ R) [] E0 tNil) := by
  subst hK
  obtain ⟨f, fd, F, hm, hk, hb⟩ := C.ex
  exact pe_call0 F hr hg hm hk hb .nil pass0 hdb
theorem j_ix (ha : PE X a ta) (hb : PE X b tb) (hK : X.K = K := by rfl) (hs : PlainIx b := by intro _ _; rfl) : PE X (.Subscript a b pos) (tOp (rIx K) ta tb) := by
  subst hK
  exact pe_ix ix_seq ha hb hs
theorem j_sl (he : PE X e te) (hl : PO X lo tl) (hu : PO X hi th) (hK : X.K = K := by rfl) : PE X (.Subscript e (.Slice lo hi none p2) pos) (tSl (rSl K) te tl th) := by
  subst hK
  exact pe_slice sl_any he hl hu
theorem j_rev {p1 p3 : Pos} (he : PE X e te) (hK : X.K = K := by rfl) : PE X (.Subscript e (.Slice none none (some (.UnaryOp .USub (.Constant (.int 1) kk p1) p2)) p3) pos) (tRevL K te) := by
  subst hK
  exact pe_revL he
theorem j_eq (hu : X.A.units + 64 < cLine) (hK : X.K = K := by rfl) : OpR X (compareOp .Eq) (rEqD K) := by
  subst hK
  exact op_eqD hu
theorem j_ne (hu : X.A.units + 64 < cLine) (hK : X.K = K := by rfl) : OpR X (compareOp .NotEq) (rNeD K) := by
  subst hK
  exact op_neD hu
theorem j_isi (hK : X.K = K := by rfl) : CallR X (.builtin "isinstance") (rIsi K) := by
  subst hK
  exact call_isi
theorem j_len (hK : X.K = K := by rfl) : CallR X (.builtin "len") (rLen K) := by
  subst hK
  exact cr_len
theorem j_list (hK : X.K = K := by rfl) : CallR X (.type "list") (rList K) := by
  subst hK
  exact cr_list
theorem j_tuple (hK : X.K = K := by rfl) : CallR X (.type "tuple") (rTuple K) := by
  subst hK
  exact cr_tuple
theorem j_sum (hc : X.calm = true) (hK : X.K = K := by rfl) : CallR X (.builtin "sum") (rSum K) := by
  subst hK
  exact cr_sum hc
theorem j_max (hc : X.calm = true) (hK : X.K = K := by rfl) : CallR X (.builtin "max") (rMax K) := by
  subst hK
  exact cr_max hc
def rSortedJ (K : PySem.W.Frag) : List V → Hp → VK → Prop := fun vs H Q => rSorted K vs H Q ∨ rSortedPO K vs H Q
theorem j_sorted (hK : X.K = K := by rfl) : CallR X (.builtin "sorted") (rSortedJ K) := by
  subst hK
  exact cr_sorted.or cr_sortedPO
theorem j_tru (ha : PE X a ta) (hK : X.K = K := by rfl) (he : ∀ whole, isTrue a X.env whole = (do let v ← whole; standAt a.pos; holding [v] (truthy v)) := by intro _; rfl) : PT X a (tTru K ta) := by
  subst hK
  exact pt_tru ha he
theorem j_iList (hl : PE X e te) (hK : X.K = K := by rfl) : PI X tg e (iList K te) := by
  subst hK
  exact pi_list hl
theorem j_iTup (hl : PE X e te) (hK : X.K = K := by rfl) : PI X tg e (iTup K te) := by
  subst hK
  exact pi_tup hl
theorem j_enum (hg : Gl X "enumerate") (hm : X.mg "enumerate" = none) (ha : PA X [e] t) (hK : X.K = K := by rfl) (hs : starEach [e] X.env = [(false, eval e X.env)] := by rfl) : PI X (.Tuple es kk tpos) (.Call (.Name "enumerate" p) [e] [] pos) (iEnum K t) := by
  subst hK
  exact pi_enum hg hm ha hs
theorem j_zip (hg : Gl X "zip") (hm : X.mg "zip" = none) (ha : PA X [e, e2] t) (hK : X.K = K := by rfl) (hs : starEach [e, e2] X.env = (false, eval e X.env) :: starEach [e2] X.env := by rfl) (hpl : (backTo pos (starEach [e2] X.env)).any (·.1) = false := by rfl) :
    PI X (.Tuple es kk tpos) (.Call (.Name "zip" p) [e, e2] [] pos) (iZip K t) := by
  subst hK
  exact pi_zip hg hm ha hs hpl
theorem j_tup {tt : TGs} {n : Nat} (hc : X.calm = true) (h : PGs X es tt) (hK : X.K = K := by rfl) (hn : (assignEach es X.env).length = n := by rfl) (hst : (assignEach es X.env).findIdx? (·.1) = none := by rfl) : PG X (.Tuple es kk pos) (gTup K n tt) := by
  subst hK
  exact pg_tup hc h hn hst
theorem j_app {apos : Pos} (ho : PE X o to) (ha : PE X e te) (hK : X.K = K := by rfl) (hbase : attributeBase o "append" X.env (eval o X.env) = eval o X.env := by rfl)
    (hfew : ((backTo pos (starEach (e :: []) X.env)).all (fun x => !x.1) && (backToKw pos (keywordEach [] X.env)).all (fun x => x.1.isSome)
      && decide ((e :: []).length + ([] : List Keyword).length + (if ([] : List Keyword).isEmpty then 0 else 1) < 30)) = true := by rfl)
    (hline : (apos.endLine == pos.line) = true := by rfl) (hs : starEach (e :: []) X.env = (false, eval e X.env) :: starEach [] X.env := by rfl) (hplain : (backTo pos (starEach [] X.env)).any (·.1) = false := by rfl) :
    PE X (.Call (.Attribute o "append" apos) [e] [] pos) (tBM K "list" rAppend to (tCons te tNil)) := by
  subst hK
  exact pe_bm PySem.F.plainAttrs_list PySem.F.slot_list_append PySem.F.type_list_append mt_append ho (pa_cons ha pa_nil hs) hbase hfew hline hs hplain
end
/-! max(xs, default=d) of ints -/
def mxD : List Int → Int → Int
  | [], d => d
  | n :: ns, _ => ns.foldl max n
def rMaxD (K : PySem.W.Frag) : List V → List V → Hp → VK → Prop := fun vs zs H Q => ∃ (a : Addr) (ns : List Int) (d : Int), vs = [.ref a] ∧ zs = [.int d] ∧ SqL K H a (ns.map V.int) ∧ Q (.int (mxD ns d)) H
theorem reads_ints {h : Heap} : ∀ {ns : List Int} {us : List Value}, Vals (ns.map V.int) us → ∃ as, ReadsAll h us (ns.map PyData.int) as
  | [], _, .nil => ⟨_, .nil⟩
  | n :: ns, _, .cons ⟨t, e⟩ r => by
    obtain ⟨as, q⟩ := reads_ints (ns := ns) r
    subst e
    exact ⟨_, .cons (.int n t) q⟩
theorem depth_ints : ∀ ns : List Int, PyData.depthAll (ns.map PyData.int) = 0
  | [] => by simp [PyData.depthAll]
  | n :: ns => by simp [PyData.depthAll, PyData.depth, depth_ints ns]
theorem cr_maxD {X : Cx} (K : PySem.W.Frag) (hc : X.calm = true) (hu : X.A.units + 64 < cLine) (hK : X.K = K := by rfl) : CallRK X (.builtin "max") [Str.ofString "default"] (rMaxD K) := by
  subst hK
  intro pins s σ H vs zs us ws Q I r rz h
  obtain ⟨a, ns, d, rfl, rfl, hs, q⟩ := h
  obtain rfl := Vals.ref1 r
  obtain ⟨w1, rfl, t, e1⟩ := vals1 rz
  subst e1
  obtain ⟨its, rv, hl, _⟩ := I.list hs
  obtain ⟨as, hr⟩ := reads_ints (h := s.heap) rv
  have al : PySem.W.AlikeAll (ns.map PyData.int) := ⟨fun x hx y hy => by
    obtain ⟨i, _, rfl⟩ := List.mem_map.mp hx
    obtain ⟨j, _, rfl⟩ := List.mem_map.mp hy
    rfl, fun x hx => by
    obtain ⟨i, _, rfl⟩ := List.mem_map.mp hx
    exact fun z => nomatch z⟩
  refine PySem.W.max_list_default (I.ok.hd hc) hl.isList hr al (by rw [depth_ints]; omega) (fun hn h' tk hk => ?_) fun y ys i v h' tk bs hxs hv hrd hk => ?_
  · have e : ns = [] := by simpa using hn
    subst e
    exact ⟨.int d, H, I.kept hk, ⟨t, rfl⟩, q⟩
  · cases ns with
    | nil => cases hxs
    | cons n ns =>
      cases hxs
      rw [PySem.W.maxD_ints] at hrd
      cases hrd
      exact ⟨.int _, H, I.kept hk, ⟨_, rfl⟩, q⟩
theorem pe_maxD {X : Cx} {e d : Expr} {te td : TE} {p pos kpos : Pos} (K : PySem.W.Frag) (hc : X.calm = true) (hu : X.A.units + 64 < cLine) (hg : Gl X "max") (hm : X.mg "max" = none) (he : PE X e te) (hd : PE X d td) (hK : X.K = K := by rfl)
    (hs1 : starEach (e :: []) X.env = (false, eval e X.env) :: starEach [] X.env := by rfl)
    (hs2 : backTo pos (starEach (e :: []) X.env) = (false, eval e X.env) :: backTo pos (starEach [] X.env) := by rfl) (hpl : (backTo pos (starEach (e :: []) X.env)).any (·.1) = false := by rfl)
    (hall : (backToKw pos (keywordEach [⟨some "default", d, kpos⟩] X.env)).all (·.1.isSome) = true := by rfl) (hnone : (backToKw pos (keywordEach [⟨some "default", d, kpos⟩] X.env)).any (·.1.isNone) = false := by rfl) (hks : (backToKw pos (keywordEach [⟨some "default", d, kpos⟩] X.env)).filterMap (·.1) = [Str.ofString "default"] := by rfl) :
    PE X (.Call (.Name "max" p) [e] [⟨some "default", d, kpos⟩] pos) (tCKw (rMaxD K) (tCons te tNil) (tCons td tNil)) :=
  pe_callBK (cr_maxD K hc hu hK) hg hm (by decide +kernel) (pa_cons he pa_nil hs1) (pk_cons hd pk_nil) (by decide) (by decide) hs2 hpl hall hnone hks
/-! in, not in -/
theorem hu65 {k : Nat} {A : Around} (hr : Room k A) : A.units + 65 < cLine := by
  have := hr.un
  omega
def rInS (neg : Bool) : R2 := fun x y H Q => ∃ i j, x = .str i ∧ y = .str j ∧ Q (.bl (if neg then !(!(Builtin.Str.occurrences j i 0 j.length 1).isEmpty) else !(Builtin.Str.occurrences j i 0 j.length 1).isEmpty)) H
theorem op_inS0 {X : Cx} : OpR X (compareOp .In) (rInS false) := op_in_str
theorem op_inS1 {X : Cx} : OpR X (compareOp .NotIn) (rInS true) := op_notin_str
def rInJ (K : PySem.W.Frag) : R2 := fun x y H Q => rIn K false x y H Q ∨ (rInS false x y H Q ∨ rInD K x y H Q)
def rNotInJ (K : PySem.W.Frag) : R2 := fun x y H Q => rIn K true x y H Q ∨ (rInS true x y H Q ∨ rNotInD K x y H Q)
theorem j_in {X : Cx} (K : PySem.W.Frag) (hu : X.A.units + 65 < cLine) (hK : X.K = K := by rfl) : OpR X (compareOp .In) (rInJ K) := by
  subst hK
  exact op_in_seq.or (op_inS0.or (op_inD hu))
theorem j_notIn {X : Cx} (K : PySem.W.Frag) (hu : X.A.units + 65 < cLine) (hK : X.K = K := by rfl) : OpR X (compareOp .NotIn) (rNotInJ K) := by
  subst hK
  exact op_notIn_seq.or (op_inS1.or (op_notInD hu))
theorem flat_ints : ∀ ns : List Int, (ns.map V.int).all flatV = true
  | [] => rfl
  | n :: ns => by
    rw [List.map_cons, List.all_cons, flat_ints ns]
    rfl
theorem inV_ints (i : Int) : ∀ ns : List Int, inV (.int i) (ns.map V.int) = decide (i ∈ ns)
  | [] => by simp [inV]
  | n :: ns => by
    have ih := inV_ints i ns
    unfold inV at ih ⊢
    rw [List.map_cons, List.any_cons, ih]
    by_cases e : n = i
    · subst e
      simp [eqV]
    · have e' : (eqV (V.int n) (V.int i)) = false := by simp [eqV, e]
      rw [e']
      simp [Ne.symm e]
theorem cal_of {P : Program} {w : World} {K : PySem.W.Frag} {mg : Str → Option Value} {base : Heap} {k : Nat} {x : Str} {ps : List Str} {R : List PyData → Ro → Prop} {f : Addr} {fd : FuncData}
    (F : FnOk P w K mg base CX0 k f fd ps (@SpR ⟨K⟩ R)) (hm : mg x = some (.ref f)) (hk : PySem.W.keepIn K (.ref f) = true) (hb : Binds K fd ps []) : Cal P w K mg base k x ps R := ⟨f, fd, F, hm, hk, hb⟩
section
variable [KK] {E : XK} {S : DSt} {α : Type} {args : α → List PyData} {pre : α → Prop} {res : α → Ro} {d : PyData} {ds es : List PyData} {ta : TA}
theorem e_callR (x : α) (h : Ea ta S ds) (hx : ds = args x) (hp : pre x) (hr : res x = .va d) : Eb (tCall (SpR (Rf args pre res)) [] E ta) S d := e_call h ⟨x, hp, hx, hr.symm⟩
theorem n_callR (x : α) (h : Ea ta S ds) (hx : ds = args x) (hp : pre x) (hr : res x = .nw es) : En (tCall (SpR (Rf args pre res)) [] E ta) S es := n_call h ⟨x, hp, hx, hr.symm⟩
theorem len_of {n : Nat} (h : ∀ x, (args x).length = n) : ∀ vs H Q E, SpR (Rf args pre res) vs H Q E → vs.length = n := SpR.len fun ds r ⟨x, _, e, _⟩ => by
  rw [e]
  exact h x
theorem run_def {N : List Str} {t : TS} {vs : List V} {H : Hp} {Q : VK} (h : SpR (Rf args pre res) vs H Q E)
    (hb : ∀ x, pre x → DX E t ((args x).map Sl.va ++ List.replicate (N.length - (args x).length) Sl.no) (.rt (res x))) : t { nx := fun _ H' => Q .non H', rt := Q } (L2.start N vs) H :=
  run_of h fun ds r ⟨x, hp, e1, e2⟩ => by
    rw [e1, e2]
    exact hb x hp
/-! slices put together -/
omit [KK] in
theorem cutD_take {ds : List PyData} {i : Int} (h : 0 ≤ i) : cutD ds none (some i) = ds.take i.toNat := by
  obtain ⟨n, rfl⟩ := Int.eq_ofNat_of_zero_le h
  unfold cutD
  rw [HT.sIx_none, HT.sIx_nat]
  show (ds.drop 0).take (min n ds.length - 0) = ds.take n
  rw [List.drop_zero, Nat.sub_zero]
  by_cases q : n ≤ ds.length
  · rw [Nat.min_eq_left q]
  · rw [Nat.min_eq_right (by omega), List.take_length, List.take_of_length_le (by omega)]
omit [KK] in
theorem cutD_drop {ds : List PyData} {i : Int} (h : 0 ≤ i) : cutD ds (some i) none = ds.drop i.toNat := by
  obtain ⟨n, rfl⟩ := Int.eq_ofNat_of_zero_le h
  unfold cutD
  rw [HT.sIx_none, HT.sIx_nat]
  show (ds.drop (min n ds.length)).take (ds.length - min n ds.length) = ds.drop n
  by_cases q : n ≤ ds.length
  · rw [Nat.min_eq_left q, List.take_of_length_le (by rw [List.length_drop]; omega)]
  · rw [Nat.min_eq_right (by omega), Nat.sub_self, List.take_zero, List.drop_of_length_le (by omega)]
omit [KK] in
theorem cutD_init (ds : List PyData) : cutD ds none (some (-1)) = ds.dropLast := by
  unfold cutD
  rw [HT.sIx_none]
  have e : HT.sIx ds.length ds.length (some (-1)) = ds.length - 1 := by
    show (if (-1 : Int) < 0 then ((-1 : Int) + (ds.length : Int)).toNat else min (-1 : Int).toNat ds.length) = _
    rw [if_pos (by decide)]
    omega
  rw [e, List.drop_zero, Nat.sub_zero, List.dropLast_eq_take]
section
variable {K : PySem.W.Frag} {tj tj' tx tp tq : TE} {p q : Int}
/-- xs[:p] + [x] + xs[q:] -/
theorem n_splice (hj : Eb tj S (.list ds)) (hp : Eb tp S (.int p)) (hx : Eb tx S d) (hj' : Eb tj' S (.list ds)) (hq : Eb tq S (.int q)) (h0 : 0 ≤ p) (h1 : 0 ≤ q) (hz : ds.length ≤ 10000) :
    En (tOp rPlus (tOp rPlus (tSl (rSl K) tj tNoPart (tPart tp)) (tLst (tCons tx tNil))) (tSl (rSl K) tj' (tPart tq) tNoPart)) S (ds.take p.toNat ++ [d] ++ ds.drop q.toNat) := by
  have a1 := n_slL (K := K) hj o_no (o_some hp)
  have a2 := n_slL (K := K) hj' (o_some hq) o_no
  rw [cutD_take h0] at a1
  rw [cutD_drop h1] at a2
  have l1 : (ds.take p.toNat).length ≤ ds.length := by rw [List.length_take]; omega
  have l2 : (ds.drop q.toNat).length ≤ ds.length := by rw [List.length_drop]; omega
  refine e_cat (e_cat a1.b (n_lst (a_cons hx a_nil) (by simp)).b ?_).b a2.b ?_
  · rw [List.length_singleton]
    omega
  · rw [List.length_append, List.length_singleton]
    omega
/-- xs[:p] + xs[q:] -/
theorem n_cut (hj : Eb tj S (.list ds)) (hp : Eb tp S (.int p)) (hj' : Eb tj' S (.list ds)) (hq : Eb tq S (.int q)) (h0 : 0 ≤ p) (h1 : 0 ≤ q) (hz : ds.length ≤ 10000) :
    En (tOp rPlus (tSl (rSl K) tj tNoPart (tPart tp)) (tSl (rSl K) tj' (tPart tq) tNoPart)) S (ds.take p.toNat ++ ds.drop q.toNat) := by
  have a1 := n_slL (K := K) hj o_no (o_some hp)
  have a2 := n_slL (K := K) hj' (o_some hq) o_no
  rw [cutD_take h0] at a1
  rw [cutD_drop h1] at a2
  have l1 : (ds.take p.toNat).length ≤ ds.length := by rw [List.length_take]; omega
  have l2 : (ds.drop q.toNat).length ≤ ds.length := by rw [List.length_drop]; omega
  exact e_cat a1.b a2.b (by omega)
omit [KK] in
theorem set_splice {α : Type} : ∀ {l : List α} {n : Nat} {x : α}, n < l.length → l.take n ++ [x] ++ l.drop (n + 1) = l.set n x
  | [], n, _, h => by simp at h
  | a :: l, 0, x, _ => rfl
  | a :: l, n + 1, x, h => by
    show a :: (l.take n ++ [x] ++ l.drop (n + 1)) = a :: l.set n x
    rw [set_splice (by simpa using h)]
end
theorem e_maxD {K : PySem.W.Frag} {te td : TE} {ns : List Int} {m : Int} (h : Eb te S (.list (ns.map .int))) (hd : Eb td S (.int m)) : Eb (tCKw (rMaxD K) (tCons te tNil) (tCons td tNil)) S (.int (mxD ns m)) := fun H σ rl Q q =>
  h H σ rl _ fun v H1 e1 q1 => hd H1 σ (rl.mono e1) _ fun v2 H2 e2 q2 => by
    obtain ⟨a, xs, rfl, h2, h3⟩ := Da.mono e2 _ _ q1
    exact ⟨a, ns, m, rfl, by rw [show v2 = .int m from q2], by rw [← h3.ints]; exact SqL.of h2, q _ H2 (e1.trans e2) rfl⟩
/-! in a list, a tuple of ints -/
theorem e_inL {K : PySem.W.Frag} {ta tb : TE} {i : Int} {ns : List Int} (ha : Eb ta S (.int i)) (hb : Eb tb S (.list (ns.map .int))) : Eb (tOp (rInJ K) ta tb) S (.bool (decide (i ∈ ns))) :=
  e_op ha hb fun x y H Q h1 h2 q => by
    obtain ⟨a, xs, rfl, h2, h3⟩ := h2
    have e := h3.ints
    subst e
    rw [show x = .int i from h1]
    exact .inl ⟨a, _, rfl, .inl (SqL.of h2), rfl, flat_ints ns, q _ H (Same.refl H) (by rw [inV_ints]; rfl)⟩
theorem e_inT {K : PySem.W.Frag} {ta tb : TE} {i : Int} {ns : List Int} {es : List PyData} (ha : Eb ta S (.int i)) (hb : Eb tb S (.tuple es)) (he : es = ns.map .int) : Eb (tOp (rInJ K) ta tb) S (.bool (decide (i ∈ ns))) := by
  subst he
  exact e_op ha hb fun x y H Q h1 h2 q => by
    obtain ⟨a, xs, rfl, h2, h3⟩ := h2
    have e := h3.ints
    subst e
    rw [show x = .int i from h1]
    exact .inl ⟨a, _, rfl, .inr (SqT.of h2), rfl, flat_ints ns, q _ H (Same.refl H) (by rw [inV_ints]; rfl)⟩
theorem e_notInL {K : PySem.W.Frag} {ta tb : TE} {i : Int} {ns : List Int} (ha : Eb ta S (.int i)) (hb : Eb tb S (.list (ns.map .int))) : Eb (tOp (rNotInJ K) ta tb) S (.bool (!decide (i ∈ ns))) :=
  e_op ha hb fun x y H Q h1 h2 q => by
    obtain ⟨a, xs, rfl, h2, h3⟩ := h2
    have e := h3.ints
    subst e
    rw [show x = .int i from h1]
    exact .inl ⟨a, _, rfl, .inl (SqL.of h2), rfl, flat_ints ns, q _ H (Same.refl H) (by rw [inV_ints]; rfl)⟩
omit [KK] in
theorem flat_rep {α : Type} (a : α) : ∀ n : Nat, (List.replicate n [a]).flatten = List.replicate n a
  | 0 => rfl
  | n + 1 => by
    rw [List.replicate_succ, List.flatten_cons, flat_rep a n, List.replicate_succ]
    rfl
/-- [0] * n -/
theorem n_zeros {tn : TE} {n : Nat} (h : Eb tn S (.int (n : Int))) (hn : n ≤ 1000) : En (tOp rTimes (tLst (tCons (tC (.int 0)) tNil)) tn) S ((List.replicate n (0 : Int)).map .int) :=
  En.to (e_rep (ds := [.int 0]) (n_lst (a_cons e_int a_nil) (by simp)).b h (by omega) (by simp)) (by rw [Int.toNat_natCast, flat_rep, List.map_replicate])
/-! sorted -/
theorem n_sortedI {K : PySem.W.Frag} {te : TE} {ns ms : List Int} (h : Eb te S (.list (ns.map .int))) (hz : ns.length < 64) (hu : ∀ ms', ms'.Perm ns → ms'.Pairwise (· ≤ ·) → ms' = ms) : En (tCB (rSortedJ K) (tCons te tNil)) S (ms.map .int) := n_cb (a_cons h a_nil) fun vs H Q h q => by
  obtain ⟨v, rfl, h1⟩ := h.v1
  obtain ⟨a, xs, rfl, h2, h3⟩ := h1
  refine .inl ⟨a, ns, rfl, by rw [← h3.ints]; exact SqL.of h2, hz, fun ms' p h4 h5 hp => ?_⟩
  have e := hu ms' h4 h5
  subst e
  exact q p _ (same_new hp) hp ⟨p, _, rfl, upd_same, DaL.of_ints⟩
def prD (p : Int × Int) : PyData := .tuple [.int p.1, .int p.2]
/-- the pair that stands at a place -/
def prAt (H : Hp) : V → Int × Int
  | .ref t => match H t with
    | some (.tup [.int a, .int b]) => (a, b)
    | _ => (0, 0)
  | _ => (0, 0)
theorem prAt_of {H : Hp} {p : Int × Int} {v : V} (h : Da H (prD p) v) : prAt H v = p ∧ ∃ t, v = .ref t ∧ H t = some (.tup [.int p.1, .int p.2]) := by
  obtain ⟨a, xs, rfl, h1, v1, r, rfl, e1, v2, r2, rfl, e2, e3⟩ := h
  have e1 : v1 = .int p.1 := e1
  have e2 : v2 = .int p.2 := e2
  have e3 : r2 = [] := e3
  subst e1
  subst e2
  subst e3
  refine ⟨?_, a, rfl, h1⟩
  show (match H a with | some (.tup [.int a, .int b]) => (a, b) | _ => ((0, 0) : Int × Int)) = p
  rw [h1]
theorem pr_all {H : Hp} : ∀ {ps : List (Int × Int)} {xs : List V}, DaL H (ps.map prD) xs → xs.map (prAt H) = ps ∧ ∀ x ∈ xs, ∃ t, x = .ref t ∧ H t = some (.tup [.int (prAt H x).1, .int (prAt H x).2])
  | [], _, h => by
    have e : _ = [] := h
    rw [e]
    exact ⟨rfl, fun x hx => by cases hx⟩
  | p :: ps, _, h => by
    obtain ⟨v, vs, rfl, h1, h2⟩ := h
    obtain ⟨e1, t, e2, e3⟩ := prAt_of h1
    obtain ⟨i1, i2⟩ := pr_all (ps := ps) h2
    refine ⟨by rw [List.map_cons, e1, i1], fun x hx => ?_⟩
    rcases List.mem_cons.mp hx with e | hx
    · rw [e, e1]
      exact ⟨t, e2, e3⟩
    · exact i2 x hx
theorem pr_back {H : Hp} : ∀ {xs : List V}, (∀ x ∈ xs, ∃ t, x = .ref t ∧ H t = some (.tup [.int (prAt H x).1, .int (prAt H x).2])) → DaL H ((xs.map (prAt H)).map prD) xs
  | [], _ => rfl
  | x :: xs, h => by
    obtain ⟨t, e1, e2⟩ := h x List.mem_cons_self
    exact ⟨x, xs, rfl, ⟨t, _, e1, e2, _, _, rfl, rfl, _, _, rfl, rfl, rfl⟩, pr_back fun y hy => h y (List.mem_cons_of_mem _ hy)⟩
theorem n_sortedP {K : PySem.W.Frag} {te : TE} {ps ms : List (Int × Int)} (h : Eb te S (.list (ps.map prD))) (hu : ∀ ms' : List (Int × Int), ms'.Perm ps → ms'.Pairwise (fun x y => SrtO.lexB y x = false) → ms' = ms) : En (tCB (rSortedJ K) (tCons te tNil)) S (ms.map prD) := n_cb (a_cons h a_nil) fun vs H Q h q => by
  obtain ⟨v, rfl, h1⟩ := h.v1
  obtain ⟨a, xs, rfl, h2, h3⟩ := h1
  obtain ⟨e1, e2⟩ := pr_all h3
  refine .inr ⟨a, xs, prAt H, rfl, SqL.of h2, e2, fun ys p h4 h5 hp => ?_⟩
  have e3 : ys.map (prAt H) = ms := hu _ (by rw [← e1]; exact h5.perm.map _) (by rw [List.pairwise_map]; exact h4)
  refine q p _ (same_new hp) hp ⟨p, ys, rfl, upd_same, DaL.mono (same_new hp) _ _ ?_⟩
  rw [← e3]
  exact pr_back fun x hx => e2 x (h5.perm.mem_iff.mp hx)
/-! isinstance by the data -/
def isInt : PyData → Bool
  | .int _ => true
  | .bool _ => true
  | _ => false
def isBl : PyData → Bool
  | .bool _ => true
  | _ => false
def isTup : PyData → Bool
  | .tuple _ => true
  | _ => false
def isLst : PyData → Bool
  | .list _ => true
  | .dict _ => true
  | _ => false
def isStr : PyData → Bool
  | .str _ => true
  | _ => false
omit [KK] in
theorem kit_int {K : PySem.W.Frag} : ∀ d : PyData, PySem.W.kitOne K (.type (tyN d)) (.type "int") = some (isInt d)
  | .none => show _ = some false from kit_ty (a := "NoneType") (b := "int") (r := false) (by decide +kernel)
  | .bool _ => show _ = some true from kit_ty (a := "bool") (b := "int") (r := true) (by decide +kernel)
  | .int _ => show _ = some true from kit_ty (a := "int") (b := "int") (r := true) (by decide +kernel)
  | .str _ => show _ = some false from kit_ty (a := "str") (b := "int") (r := false) (by decide +kernel)
  | .list _ => show _ = some false from kit_ty (a := "list") (b := "int") (r := false) (by decide +kernel)
  | .tuple _ => show _ = some false from kit_ty (a := "tuple") (b := "int") (r := false) (by decide +kernel)
  | .dict _ => show _ = some false from kit_ty (a := "list") (b := "int") (r := false) (by decide +kernel)
omit [KK] in
theorem kit_bool {K : PySem.W.Frag} : ∀ d : PyData, PySem.W.kitOne K (.type (tyN d)) (.type "bool") = some (isBl d)
  | .none => show _ = some false from kit_ty (a := "NoneType") (b := "bool") (r := false) (by decide +kernel)
  | .bool _ => show _ = some true from kit_ty (a := "bool") (b := "bool") (r := true) (by decide +kernel)
  | .int _ => show _ = some false from kit_ty (a := "int") (b := "bool") (r := false) (by decide +kernel)
  | .str _ => show _ = some false from kit_ty (a := "str") (b := "bool") (r := false) (by decide +kernel)
  | .list _ => show _ = some false from kit_ty (a := "list") (b := "bool") (r := false) (by decide +kernel)
  | .tuple _ => show _ = some false from kit_ty (a := "tuple") (b := "bool") (r := false) (by decide +kernel)
  | .dict _ => show _ = some false from kit_ty (a := "list") (b := "bool") (r := false) (by decide +kernel)
omit [KK] in
theorem kit_tuple {K : PySem.W.Frag} : ∀ d : PyData, PySem.W.kitOne K (.type (tyN d)) (.type "tuple") = some (isTup d)
  | .none => show _ = some false from kit_ty (a := "NoneType") (b := "tuple") (r := false) (by decide +kernel)
  | .bool _ => show _ = some false from kit_ty (a := "bool") (b := "tuple") (r := false) (by decide +kernel)
  | .int _ => show _ = some false from kit_ty (a := "int") (b := "tuple") (r := false) (by decide +kernel)
  | .str _ => show _ = some false from kit_ty (a := "str") (b := "tuple") (r := false) (by decide +kernel)
  | .list _ => show _ = some false from kit_ty (a := "list") (b := "tuple") (r := false) (by decide +kernel)
  | .tuple _ => show _ = some true from kit_ty (a := "tuple") (b := "tuple") (r := true) (by decide +kernel)
  | .dict _ => show _ = some false from kit_ty (a := "list") (b := "tuple") (r := false) (by decide +kernel)
omit [KK] in
theorem kit_list {K : PySem.W.Frag} : ∀ d : PyData, PySem.W.kitOne K (.type (tyN d)) (.type "list") = some (isLst d)
  | .none => show _ = some false from kit_ty (a := "NoneType") (b := "list") (r := false) (by decide +kernel)
  | .bool _ => show _ = some false from kit_ty (a := "bool") (b := "list") (r := false) (by decide +kernel)
  | .int _ => show _ = some false from kit_ty (a := "int") (b := "list") (r := false) (by decide +kernel)
  | .str _ => show _ = some false from kit_ty (a := "str") (b := "list") (r := false) (by decide +kernel)
  | .list _ => show _ = some true from kit_ty (a := "list") (b := "list") (r := true) (by decide +kernel)
  | .tuple _ => show _ = some false from kit_ty (a := "tuple") (b := "list") (r := false) (by decide +kernel)
  | .dict _ => show _ = some true from kit_ty (a := "list") (b := "list") (r := true) (by decide +kernel)
omit [KK] in
theorem kit_str {K : PySem.W.Frag} : ∀ d : PyData, PySem.W.kitOne K (.type (tyN d)) (.type "str") = some (isStr d)
  | .none => show _ = some false from kit_ty (a := "NoneType") (b := "str") (r := false) (by decide +kernel)
  | .bool _ => show _ = some false from kit_ty (a := "bool") (b := "str") (r := false) (by decide +kernel)
  | .int _ => show _ = some false from kit_ty (a := "int") (b := "str") (r := false) (by decide +kernel)
  | .str _ => show _ = some true from kit_ty (a := "str") (b := "str") (r := true) (by decide +kernel)
  | .list _ => show _ = some false from kit_ty (a := "list") (b := "str") (r := false) (by decide +kernel)
  | .tuple _ => show _ = some false from kit_ty (a := "tuple") (b := "str") (r := false) (by decide +kernel)
  | .dict _ => show _ = some false from kit_ty (a := "list") (b := "str") (r := false) (by decide +kernel)
theorem e_isInt {te : TE} (h : Eb te S d) : Eb (tCB (rIsi KK.K) (tCons te (tCons (tC (.ty "int")) tNil))) S (.bool (isInt d)) := e_isi h (kit_int d)
theorem e_isBl {te : TE} (h : Eb te S d) : Eb (tCB (rIsi KK.K) (tCons te (tCons (tC (.ty "bool")) tNil))) S (.bool (isBl d)) := e_isi h (kit_bool d)
theorem e_isTup {te : TE} (h : Eb te S d) : Eb (tCB (rIsi KK.K) (tCons te (tCons (tC (.ty "tuple")) tNil))) S (.bool (isTup d)) := e_isi h (kit_tuple d)
theorem e_isLst {te : TE} (h : Eb te S d) : Eb (tCB (rIsi KK.K) (tCons te (tCons (tC (.ty "list")) tNil))) S (.bool (isLst d)) := e_isi h (kit_list d)
theorem e_isStr {te : TE} (h : Eb te S d) : Eb (tCB (rIsi KK.K) (tCons te (tCons (tC (.ty "str")) tNil))) S (.bool (isStr d)) := e_isi h (kit_str d)
theorem x_ret' {te : TE} {d' : PyData} (h : Eb te S d) (e : d = d') : DX E (tRet te) S (.rt (.va d')) := x_ret (h.to e)
/-- the law's promise: the script in, True out -/
def spLaw (K : PySem.W.Frag) : Sp := fun vs H Q _ => ∃ (a : Addr) (ns : List Int), vs = [.ref a] ∧ SqL K H a (ns.map V.int) ∧ ns.length ≤ 63 ∧ ∀ H', Q (.bl true) H'
theorem law_run {N : List Str} {t : TS} {vs : List V} {H : Hp} {Q : VK} (h : spLaw KK.K vs H Q E)
    (hb : ∀ ns : List Int, ns.length ≤ 63 → DX E t (.va (frz ns) :: List.replicate (N.length - 1) Sl.no) (.rt (.va (.bool true)))) : t { nx := fun _ H' => Q .non H', rt := Q } (L2.start N vs) H := by
  obtain ⟨a, ns, rfl, h1, h2, h3⟩ := h
  have hs : SpR (fun ds r => ∃ ns : List Int, ns.length ≤ 63 ∧ ds = [frz ns] ∧ r = .va (.bool true)) [.ref a] H Q E := ⟨[frz ns], .va (.bool true), ⟨.ref a, [], rfl, ⟨a, rfl, by rw [frzV_map]; exact h1⟩, rfl⟩, ⟨ns, h2, rfl, rfl⟩, fun v H' _ q => by
    have e : v = .bl true := q
    rw [e]
    exact h3 H'⟩
  refine run_of hs fun ds r ⟨ms, g1, g2, g3⟩ => ?_
  subst g2
  subst g3
  exact hb ms g1
end
end DL

namespace DL
open PySem L2
section
variable [KK] {E : XK} {S : DSt} {o : Ou}
/-- a for loop told along its list -/
inductive DFor (E : XK) (g : TG) (tb : TS) : List PyData → DSt → Ou → Prop
  | nil {S : DSt} : DFor E g tb [] S (.nx S)
  | go {d : PyData} {r : List PyData} {S S' : DSt} {o : Ou} : (∃ ws S1 S2, Dg ws g d S S1 ∧ (DX E tb S1 (.nx S2) ∨ DX E tb S1 (.ct S2)) ∧ Le S2 S') → DFor E g tb r S' o → DFor E g tb (d :: r) S o
  | out {d : PyData} {r : List PyData} {S : DSt} {q : Ro} : (∃ ws S1, Dg ws g d S S1 ∧ DX E tb S1 (.rt q)) → DFor E g tb (d :: r) S (.rt q)
theorem DFor.seq {g : TG} {tb : TS} {ds : List PyData} (h : DFor E g tb ds S o) : ∃ (n : Nat) (J : Nat → DSt), n ≤ ds.length ∧ J 0 = S ∧
    (∀ (i : Nat) d, i < n → ds[i]? = some d → ∃ ws S1 S2, Dg ws g d (J i) S1 ∧ (DX E tb S1 (.nx S2) ∨ DX E tb S1 (.ct S2)) ∧ Le S2 (J (i + 1))) ∧
    (n < ds.length → ∀ d, ds[n]? = some d → ∃ ws S1 r, o = .rt r ∧ Dg ws g d (J n) S1 ∧ DX E tb S1 (.rt r)) ∧ (n = ds.length → o = .nx (J n)) := by
  induction h with
  | @nil S => exact ⟨0, fun _ => S, Nat.le_refl _, rfl, fun i d hi => absurd hi (Nat.not_lt_zero i), fun hi => absurd hi (Nat.lt_irrefl _), fun _ => rfl⟩
  | @go d r S S' o h1 h2 ih =>
    obtain ⟨n, J, a1, a2, a3, a4, a5⟩ := ih
    refine ⟨n + 1, fun i => match i with | 0 => S | i + 1 => J i, Nat.succ_le_succ a1, rfl, fun i d' hi hd => ?_, fun hi d' hd => ?_, fun hi => ?_⟩
    · cases i with
      | zero =>
        cases hd
        show ∃ ws S1 S2, Dg ws g d S S1 ∧ _ ∧ Le S2 (J 0)
        rw [a2]
        exact h1
      | succ i => exact a3 i d' (Nat.lt_of_succ_lt_succ hi) hd
    · exact a4 (Nat.lt_of_succ_lt_succ hi) d' hd
    · exact a5 (Nat.succ.inj hi)
  | @out d r S q h1 =>
    obtain ⟨ws, S1, b1, b2⟩ := h1
    refine ⟨0, fun _ => S, Nat.zero_le _, rfl, fun i d hi => absurd hi (Nat.not_lt_zero i), fun hi d' hd => ?_, fun hi => ?_⟩
    · cases hd
      exact ⟨ws, S1, q, rfl, b1, b2⟩
    · cases hi
theorem x_forW {wi : TI} {g : TG} {tb : TS} {S' : DSt} {ds : List PyData} (hw : Di wi S ds) (h0 : Le S S') (h : DFor E g tb ds S' o) : DX E (tFor wi g tb) S o := by
  obtain ⟨n, J, a1, a2, a3, a4, a5⟩ := h.seq
  exact x_forGen hw n a1 J (by rw [a2]; exact h0) a3 a4 a5
theorem x_seqE {ι : Type} {t u : TS} {o : Ou} (I : ι → DSt) (P : ι → Prop) (h : ∃ i, P i ∧ DX E t S (.nx (I i))) (h2 : ∀ i, P i → DX E u (I i) o) : DX E (tSeq t u) S o :=
  let ⟨i, h3, h4⟩ := h
  x_seq h4 (h2 i h3)
theorem immL_prs (ps : List (Int × Int)) : immL (ps.map prD) = true := immL_map fun _ _ => rfl
/-- a turn goes on or gives -/
def goS {α β : Type} (step : β → α → β ⊕ Ro) : β → List α → β ⊕ Ro
  | b, [] => .inl b
  | b, x :: r => match step b x with
    | .inl b' => goS step b' r
    | .inr q => .inr q
theorem goS_for {α β : Type} {f : α → PyData} {g : TG} {tb : TS} (step : β → α → β ⊕ Ro) (I : β → DSt) (Inv : β → Prop) : ∀ (xs : List α) (b : β), Inv b →
    (∀ b x, Inv b → x ∈ xs → match step b x with
      | .inl b' => Inv b' ∧ ∃ ws S1 S2, Dg ws g (f x) (I b) S1 ∧ (DX E tb S1 (.nx S2) ∨ DX E tb S1 (.ct S2)) ∧ Le S2 (I b')
      | .inr q => ∃ ws S1, Dg ws g (f x) (I b) S1 ∧ DX E tb S1 (.rt q)) →
    match goS step b xs with
      | .inl b' => Inv b' ∧ DFor E g tb (xs.map f) (I b) (.nx (I b'))
      | .inr q => DFor E g tb (xs.map f) (I b) (.rt q)
  | [], b, hb, _ => ⟨hb, .nil⟩
  | x :: r, b, hb, hs => by
    have h1 := hs b x hb List.mem_cons_self
    unfold goS
    cases e : step b x with
    | inl b' =>
      rw [e] at h1
      obtain ⟨i1, i2⟩ := h1
      have ih := goS_for step I Inv r b' i1 fun b x hb hx => hs b x hb (List.mem_cons_of_mem _ hx)
      dsimp only
      cases e2 : goS step b' r with
      | inl b2 =>
        rw [e2] at ih
        exact ⟨ih.1, .go i2 ih.2⟩
      | inr q =>
        rw [e2] at ih
        exact .go i2 ih
    | inr q =>
      rw [e] at h1
      exact .out h1
theorem goS_all {α : Type} {P : α → Prop} [DecidablePred P] {q : Ro} : ∀ xs : List α, goS (fun (_ : Unit) x => if P x then .inl () else .inr q) () xs = if ∀ x ∈ xs, P x then .inl () else .inr q
  | [] => by
    rw [if_pos (fun x hx => (List.not_mem_nil hx).elim)]
    rfl
  | x :: r => by
    unfold goS
    by_cases h : P x
    · rw [if_pos h]
      dsimp only
      rw [goS_all r]
      by_cases h2 : ∀ y ∈ r, P y
      · rw [if_pos h2, if_pos (fun y hy => by
          rcases List.mem_cons.mp hy with e | hy
          · rw [e]; exact h
          · exact h2 y hy)]
      · rw [if_neg h2, if_neg (fun h3 => h2 fun y hy => h3 y (List.mem_cons_of_mem _ hy))]
    · rw [if_neg h, if_neg (fun h3 => h (h3 x List.mem_cons_self))]
theorem x_forQ {α β : Type} {xs : List α} {f : α → PyData} {wi : TI} {g : TG} {tb u : TS} {b0 : β} {q : Ro} (step : β → α → β ⊕ Ro) (I : β → DSt) (Inv : β → Prop) (hw : Di wi S (xs.map f)) (h0 : Le S (I b0)) (hI : Inv b0)
    (hs : ∀ b x, Inv b → x ∈ xs → match step b x with
      | .inl b' => Inv b' ∧ ∃ ws S1 S2, Dg ws g (f x) (I b) S1 ∧ (DX E tb S1 (.nx S2) ∨ DX E tb S1 (.ct S2)) ∧ Le S2 (I b')
      | .inr q => ∃ ws S1, Dg ws g (f x) (I b) S1 ∧ DX E tb S1 (.rt q))
    (hn : ∀ b, goS step b0 xs = .inl b → Inv b → DX E u (I b) (.rt q)) (ho : ∀ r, goS step b0 xs = .inr r → r = q) : DX E (tSeq (tFor wi g tb) u) S (.rt q) := by
  have h := goS_for (E := E) (f := f) (g := g) (tb := tb) step I Inv xs b0 hI hs
  cases e : goS step b0 xs with
  | inl b =>
    rw [e] at h
    exact x_seq (x_forW hw h0 h.2) (hn b e h.1)
  | inr r =>
    rw [e] at h
    rw [← ho r e]
    exact x_seqR (x_forW hw h0 h)
end
end DL

namespace DL
open PySem L2
/-! ### jobs, in plain Lean -/
abbrev Job := Int × Int × Int
abbrev jobD (j : Job) : PyData := .tuple [.int j.1, .int j.2.1, .int j.2.2]
abbrev jobsL (js : List Job) : List PyData := js.map fun j => .tuple [.int j.1, .int j.2.1, .int j.2.2]
abbrev jobsD (js : List Job) : PyData := .list (jobsL js)
abbrev intsD (ns : List Int) : PyData := .list (ns.map .int)
def Snd (j : Job) : Prop := 0 ≤ j.1 ∧ 1 ≤ j.2.1 ∧ j.1 < j.2.2
def AllS (js : List Job) : Prop := ∀ j ∈ js, Snd j
def wholeD : PyData → Bool
  | .int _ => true
  | _ => false
def soundD : PyData → Bool
  | .tuple [.int a, .int b, .int c] => decide (0 ≤ a) && decide (1 ≤ b) && decide (a < c)
  | _ => false
theorem soundD_job (j : Job) : soundD (jobD j) = true ↔ Snd j := by
  show (decide (0 ≤ j.1) && decide (1 ≤ j.2.1) && decide (j.1 < j.2.2)) = true ↔ _
  simp [Snd, and_assoc]
theorem immL_jobs (js : List Job) : immL (jobsL js) = true := immL_map fun _ _ => rfl
theorem at_map {α : Type} {f : α → PyData} {l : List α} {x : α} {i : Nat} (h : l[i]? = some x) : atI (l.map f) (i : Int) = some (f x) := atI_nat (by rw [List.getElem?_map, h]; rfl)
theorem atI_pos {α : Type} {l : List α} {k : Int} (h0 : 0 ≤ k) {x : α} (h : l[k.toNat]? = some x) : atI l k = some x := by
  obtain ⟨n, rfl⟩ := Int.eq_ofNat_of_zero_le h0
  exact atI_nat h
theorem getD_some {α : Type} {l : List α} {n : Nat} {d : α} (h : n < l.length) : l[n]? = some (l.getD n d) := by
  rw [List.getD_eq_getElem?_getD, List.getElem?_eq_getElem h]
  rfl
/-! ### the laws' builder of jobs -/
def cellAt (ns : List Int) (k : Int) : Int := if k < ns.length then ns.getD k.toNat 0 else 0
def mixed (cell k prime : Int) : Int := (cell + 7 * k + 1) * 48271 % prime
def countBy (c : Int) : Int := if c % 64 = 1 then 25 + c / 64 % 36 else if c % 8 = 5 then 8 + c / 8 % 17 else c / 8 % 12
theorem countBy_le (c : Int) : 0 ≤ countBy c ∧ countBy c ≤ 60 := by
  unfold countBy
  split
  · omega
  · split <;> omega
def wideBy (c : Int) : Int := if c % 4 = 3 then 2 + c / 4 % 10 ^ (56 : Int).toNat else 1
theorem wideBy_pos (c : Int) : 1 ≤ wideBy c := by
  unfold wideBy
  split
  · have h : 0 ≤ c / 4 % 10 ^ (56 : Int).toNat := Int.emod_nonneg _ (by decide)
    omega
  · decide
theorem wideBy_le (c : Int) : wideBy c ≤ 10 ^ 56 + 1 := by
  unfold wideBy
  split
  · have h : c / 4 % 10 ^ (56 : Int).toNat < 10 ^ (56 : Int).toNat := Int.emod_lt_of_pos _ (by decide)
    have e : (10 : Int) ^ (56 : Int).toNat = 10 ^ 56 := by decide
    omega
  · decide
def jobBy (come length due wide more : Int) : Job :=
  if wide < 2 then (come % (20 + 3 * more), 1 + length % 6, come % (20 + 3 * more) + 1 + due % (18 + 2 * more))
  else (come % (20 + 3 * more) * wide + length / 12 % wide, (1 + length / 2 % 6) * wide - length % 2, (come % (20 + 3 * more) + 1 + due % (18 + 2 * more)) * wide)
theorem jobBy_snd {come length due wide more : Int} (hw : 1 ≤ wide) (h0 : 0 ≤ more) (h1 : more ≤ 60) : Snd (jobBy come length due wide more) := by
  have a1 : 0 ≤ come % (20 + 3 * more) := Int.emod_nonneg _ (by omega)
  have a3 : 0 ≤ due % (18 + 2 * more) := Int.emod_nonneg _ (by omega)
  unfold jobBy
  split
  · exact ⟨a1, by show 1 ≤ 1 + length % 6; omega, by show come % (20 + 3 * more) < come % (20 + 3 * more) + 1 + due % (18 + 2 * more); omega⟩
  · have b1 : 0 ≤ length / 12 % wide := Int.emod_nonneg _ (by omega)
    have b2 : length / 12 % wide < wide := Int.emod_lt_of_pos _ (by omega)
    generalize come % (20 + 3 * more) = c at *
    generalize due % (18 + 2 * more) = d at *
    generalize length / 12 % wide = m at *
    have c1 : 0 ≤ c * wide := Int.mul_nonneg a1 (by omega)
    refine ⟨by show 0 ≤ c * wide + m; omega, ?_, ?_⟩
    · show 1 ≤ (1 + length / 2 % 6) * wide - length % 2
      have z : 0 ≤ length / 2 % 6 := Int.emod_nonneg _ (by decide)
      have z2 : wide ≤ (1 + length / 2 % 6) * wide := by
        rw [Int.add_mul, Int.one_mul]
        have := Int.mul_nonneg z (show 0 ≤ wide by omega)
        omega
      omega
    · show c * wide + m < (c + 1 + d) * wide
      have e : (c + 1 + d) * wide = c * wide + wide + d * wide := by rw [Int.add_mul, Int.add_mul, Int.one_mul]
      have := Int.mul_nonneg a3 (show 0 ≤ wide by omega)
      omega
def tMix (cell : Int) (k : Nat) : Int := mixed cell k 2147483647
def tBegin (cell : Int) (t : Int) (k : Nat) : Int := t + tMix cell k % 6 / 5
def tTime (cell : Int) (t : Int) (k : Nat) : Int := tBegin cell t k + 1 + tMix cell k / 6 % 4
def tNew (cell : Int) (t : Int) (k : Nat) : Job := (max 0 (tBegin cell t k - tMix cell k / 24 % 3), tTime cell t k - tBegin cell t k, tTime cell t k + tMix cell k / 72 % 3)
def tMore (cell : Int) (t : Int) (k : Nat) (j : Job) : Job := (j.1, j.2.1 + tTime cell t k - tBegin cell t k, max j.2.2 (tTime cell t k + tMix cell k / 72 % 2))
def tStep (cell count : Int) (s : List Job × Int) (k : Nat) : List Job × Int :=
  if (k : Int) < count then (s.1 ++ [tNew cell s.2 k], tTime cell s.2 k)
  else (s.1.set (tMix cell k / 24 % count).toNat (tMore cell s.2 k (s.1.getD (tMix cell k / 24 % count).toNat (0, 0, 0))), tTime cell s.2 k)
def tState (cell count : Int) : Nat → List Job × Int
  | 0 => ([], 0)
  | n + 1 => tStep cell count (tState cell count n) n
def tOk (n : Nat) (j : Job) : Prop := Snd j ∧ j.1 ≤ 5 * (n : Int) ∧ j.2.1 ≤ 5 * (n : Int) ∧ j.2.2 ≤ 5 * (n : Int) + 2
structure tInv (count : Int) (n : Nat) (s : List Job × Int) : Prop where
  len : (s.1.length : Int) = min (n : Int) count
  t0 : 0 ≤ s.2
  t1 : s.2 ≤ 5 * (n : Int)
  ok : ∀ j ∈ s.1, tOk n j
theorem mem_set_of {α : Type} {l : List α} {n : Nat} {x y : α} (h : y ∈ l.set n x) : y ∈ l ∨ y = x := List.mem_or_eq_of_mem_set h
theorem tInv_step {cell count : Int} {n : Nat} {s : List Job × Int} (hc : 0 ≤ count) (hn : (n : Int) < 2 * count) (h : tInv count n s) : tInv count (n + 1) (tStep cell count s n) := by
  obtain ⟨h1, h2, h3, h4⟩ := h
  have b0 : 0 ≤ tMix cell n % 6 / 5 ∧ tMix cell n % 6 / 5 ≤ 1 := by omega
  have b1 : 0 ≤ tMix cell n / 6 % 4 ∧ tMix cell n / 6 % 4 ≤ 3 := by omega
  have b2 : 0 ≤ tMix cell n / 72 % 3 ∧ tMix cell n / 72 % 3 ≤ 2 := by omega
  have b3 : 0 ≤ tMix cell n / 72 % 2 ∧ tMix cell n / 72 % 2 ≤ 1 := by omega
  have b4 : 0 ≤ tMix cell n / 24 % 3 ∧ tMix cell n / 24 % 3 ≤ 2 := by omega
  have e1 : tBegin cell s.2 n = s.2 + tMix cell n % 6 / 5 := rfl
  have e2 : tTime cell s.2 n = tBegin cell s.2 n + 1 + tMix cell n / 6 % 4 := rfl
  have up : ∀ j, tOk n j → tOk (n + 1) j := fun j ⟨a, b, c, d⟩ => ⟨a, by omega, by omega, by omega⟩
  unfold tStep
  by_cases q : (n : Int) < count
  · rw [if_pos q]
    refine ⟨?_, ?_, ?_, fun j hj => ?_⟩
    · show ((s.1 ++ [_]).length : Int) = _
      rw [List.length_append, List.length_singleton]
      omega
    · show 0 ≤ tTime cell s.2 n
      omega
    · show tTime cell s.2 n ≤ _
      omega
    · rcases List.mem_append.mp hj with hj | hj
      · exact up j (h4 j hj)
      · rw [List.mem_singleton] at hj
        subst hj
        refine ⟨⟨?_, ?_, ?_⟩, ?_, ?_, ?_⟩ <;> (simp only [tNew]; omega)
  · rw [if_neg q]
    have hc' : 0 < count := by omega
    have a0 : 0 ≤ tMix cell n / 24 % count := Int.emod_nonneg _ (by omega)
    have a1 : tMix cell n / 24 % count < count := Int.emod_lt_of_pos _ hc'
    refine ⟨?_, ?_, ?_, fun j hj => ?_⟩
    · show ((s.1.set _ _).length : Int) = _
      rw [List.length_set]
      omega
    · show 0 ≤ tTime cell s.2 n
      omega
    · show tTime cell s.2 n ≤ _
      omega
    · rcases mem_set_of hj with hj | hj
      · exact up j (h4 j hj)
      · have hlt : (tMix cell n / 24 % count).toNat < s.1.length := by omega
        have hm : s.1.getD (tMix cell n / 24 % count).toNat (0, 0, 0) ∈ s.1 := List.mem_of_getElem? (getD_some hlt)
        generalize s.1.getD (tMix cell n / 24 % count).toNat (0, 0, 0) = i at hj hm
        obtain ⟨⟨c1, c2, c3⟩, c4, c5, c6⟩ := h4 i hm
        subst hj
        refine ⟨⟨?_, ?_, ?_⟩, ?_, ?_, ?_⟩ <;> (simp only [tMore]; omega)
theorem tInv_at {cell count : Int} (hc : 0 ≤ count) : ∀ n : Nat, (n : Int) ≤ 2 * count → tInv count n (tState cell count n)
  | 0, _ => ⟨by show ((([] : List Job).length : Nat) : Int) = _; simp; omega, Int.le_refl 0, Int.le_refl 0, fun j h => by cases h⟩
  | n + 1, h => tInv_step hc (by omega) (tInv_at hc n (by omega))
def tScale (w : Int) (j : Job) : Job := (j.1 * w, j.2.1 * w, j.2.2 * w)
def tLess (j : Job) : Job := (j.1, j.2.1, max (j.1 + 1) (j.2.2 - 1))
def tightBy (cell count wide : Int) : List Job :=
  if 0 < count ∧ cell / 3 % 3 = 1 then
    (((tState cell count (2 * count).toNat).1.map (tScale wide)).set (cell / 9 % count).toNat (tLess (((tState cell count (2 * count).toNat).1.map (tScale wide)).getD (cell / 9 % count).toNat (0, 0, 0))))
  else (tState cell count (2 * count).toNat).1.map (tScale wide)
theorem tScale_snd {w : Int} {j : Job} (hw : 1 ≤ w) (h : Snd j) : Snd (tScale w j) := by
  obtain ⟨h1, h2, h3⟩ := h
  refine ⟨Int.mul_nonneg h1 (by omega), ?_, Int.mul_lt_mul_of_pos_right h3 (by omega)⟩
  show 1 ≤ j.2.1 * w
  have := Int.mul_le_mul h2 hw (by omega) (by omega)
  omega
theorem tLess_snd {j : Job} (h : Snd j) : Snd (tLess j) := by
  obtain ⟨h1, h2, h3⟩ := h
  exact ⟨h1, h2, by show j.1 < max (j.1 + 1) (j.2.2 - 1); omega⟩
theorem tight_len {cell count wide : Int} (hc : 0 ≤ count) : ((tightBy cell count wide).length : Int) = count := by
  have h := (tInv_at (cell := cell) hc (2 * count).toNat (by omega)).len
  unfold tightBy
  split
  · rw [List.length_set, List.length_map]
    omega
  · rw [List.length_map]
    omega
theorem tight_snd {cell count wide : Int} (hc : 0 ≤ count) (hw : 1 ≤ wide) : AllS (tightBy cell count wide) := by
  have h := tInv_at (cell := cell) hc (2 * count).toNat (by omega)
  have a : AllS ((tState cell count (2 * count).toNat).1.map (tScale wide)) := fun j hj => by
    obtain ⟨i, hi, rfl⟩ := List.mem_map.mp hj
    exact tScale_snd hw (h.ok i hi).1
  unfold tightBy
  split
  · rename_i q
    intro j hj
    rcases mem_set_of hj with hj | hj
    · exact a j hj
    · rw [hj]
      have a0 : 0 ≤ cell / 9 % count := Int.emod_nonneg _ (by omega)
      have a1 : cell / 9 % count < count := Int.emod_lt_of_pos _ q.1
      have hl := h.len
      exact tLess_snd (a _ (List.mem_of_getElem? (getD_some (by rw [List.length_map]; omega))))
  · exact a
def jobsBy (ns : List Int) (f : Int) : List Job :=
  let count := countBy (cellAt ns f)
  let wide := wideBy (cellAt ns (f + 1))
  let cell := cellAt ns (f + 2)
  if cell % 3 = 1 then tightBy cell count wide
  else (List.range count.toNat).map fun (k : Nat) =>
    let at_ := f + 3 + 3 * (k : Int)
    if count < 12 ∧ at_ + 2 < ns.length then jobBy (ns.getD at_.toNat 0) (ns.getD (at_ + 1).toNat 0) (ns.getD (at_ + 2).toNat 0) wide 0
    else jobBy (mixed cell k 2147483647) (mixed cell k 1000003) (mixed cell k 999983) wide count
theorem jobsBy_snd (ns : List Int) (f : Int) : AllS (jobsBy ns f) := by
  unfold jobsBy
  have hc := countBy_le (cellAt ns f)
  have hw := wideBy_pos (cellAt ns (f + 1))
  dsimp only
  split
  · exact tight_snd hc.1 hw
  · intro j hj
    obtain ⟨k, _, rfl⟩ := List.mem_map.mp hj
    split
    · exact jobBy_snd hw (by decide) (by decide)
    · exact jobBy_snd hw hc.1 hc.2
theorem jobsBy_len (ns : List Int) (f : Int) : (jobsBy ns f).length ≤ 60 := by
  unfold jobsBy
  have hc := countBy_le (cellAt ns f)
  dsimp only
  split
  · have := tight_len (cell := cellAt ns (f + 2)) (wide := wideBy (cellAt ns (f + 1))) hc.1
    omega
  · rw [List.length_map, List.length_range]
    omega
/-! ### equality of data -/
theorem eqvAll_map {α : Type} [DecidableEq α] {f : α → PyData} (h : ∀ x y, PyData.eqv (f x) (f y) = decide (x = y)) : ∀ l m : List α, PyData.eqvAll (l.map f) (m.map f) = decide (l = m)
  | [], [] => by simp [PyData.eqvAll]
  | [], y :: m => by simp [PyData.eqvAll]
  | x :: l, [] => by simp [PyData.eqvAll]
  | x :: l, y :: m => by
    show PyData.eqvAll (f x :: l.map f) (f y :: m.map f) = _
    rw [PyData.eqvAll, h, eqvAll_map h l m]
    by_cases e : x = y <;> by_cases e2 : l = m <;> simp [e, e2]
theorem eqv_listmap {α : Type} [DecidableEq α] {f : α → PyData} (h : ∀ x y, PyData.eqv (f x) (f y) = decide (x = y)) (l m : List α) : PyData.eqv (.list (l.map f)) (.list (m.map f)) = decide (l = m) := by
  rw [PyData.eqv]
  exact eqvAll_map h l m
theorem eqv_int (i j : Int) : PyData.eqv (.int i) (.int j) = decide (i = j) := by
  rw [PyData.eqv]
  exact Bool.beq_eq_decide_eq i j
theorem eqv_job (i j : Job) : PyData.eqv (jobD i) (jobD j) = decide (i = j) := by
  obtain ⟨a, b, c⟩ := i
  obtain ⟨a', b', c'⟩ := j
  simp [PyData.eqv, PyData.eqvAll, Bool.beq_eq_decide_eq]
theorem eqv_jobs (l m : List Job) : PyData.eqv (jobsD l) (jobsD m) = decide (l = m) := eqv_listmap eqv_job l m
theorem eqv_ints (l m : List Int) : PyData.eqv (intsD l) (intsD m) = decide (l = m) := eqv_listmap eqv_int l m
theorem canLay_map {α : Type} {f : α → PyData} : ∀ (l : List α), (∀ x ∈ l, (f x).canLay0 = true) → PyData.canLayAll0 (l.map f) = true
  | [], _ => by simp [PyData.canLayAll0]
  | x :: l, h => by
    have ih := canLay_map l fun y hy => h y (List.mem_cons_of_mem _ hy)
    simp [PyData.canLayAll0, h x List.mem_cons_self, ih]
theorem depth_map {α : Type} {f : α → PyData} {n : Nat} : ∀ (l : List α), (∀ x ∈ l, (f x).depth ≤ n) → PyData.depthAll (l.map f) ≤ n
  | [], _ => by simp [PyData.depthAll]
  | x :: l, h => by
    have ih := depth_map l fun y hy => h y (List.mem_cons_of_mem _ hy)
    have h0 := h x List.mem_cons_self
    simp only [List.map_cons, PyData.depthAll]
    omega
theorem shaped_map {α : Type} {f : α → PyData} (l : List α) (h1 : ∀ x ∈ l, (f x).canLay0 = true) (h2 : ∀ x ∈ l, (f x).depth ≤ 20) : SeqAt.shaped (.list (l.map f)) = true := by
  have a := canLay_map l h1
  have b := depth_map l h2
  unfold SeqAt.shaped
  rw [Bool.and_eq_true]
  refine ⟨by simpa [PyData.canLay0] using a, decide_eq_true ?_⟩
  rw [PyData.depth]
  omega
theorem shaped_str {x : Str} (h : PyData.strOk x = true) : SeqAt.shaped (.str x) = true := by
  unfold SeqAt.shaped
  simpa [PyData.canLay0, PyData.depth] using h
theorem shaped_jobs (js : List Job) : SeqAt.shaped (jobsD js) = true := shaped_map js (fun _ _ => by simp [PyData.canLay0, PyData.canLayAll0]) fun _ _ => by simp [PyData.depth, PyData.depthAll]
theorem shaped_ints (js : List Int) : SeqAt.shaped (intsD js) = true := shaped_map js (fun _ _ => by simp [PyData.canLay0]) fun _ _ => by simp [PyData.depth]
theorem shaped_plan (js : List Job) : SeqAt.shaped (.tuple [.str (Str.ofString "plan"), jobsD js]) = true := by
  have h := shaped_jobs js
  have h2 : SeqAt.shaped (.str (Str.ofString "plan")) = true := shaped_str (by decide +kernel)
  unfold SeqAt.shaped at h h2 ⊢
  rw [Bool.and_eq_true] at h h2 ⊢
  have d2 : PyData.depthAll (jobsL js) ≤ 1 := depth_map (n := 1) js (f := fun j => jobD j) fun _ _ => by simp [PyData.depth, PyData.depthAll]
  have h1 := h.1
  have h3 := h2.1
  refine ⟨by simp only [PyData.canLay0, PyData.canLayAll0, Bool.and_true, Bool.and_eq_true] at h1 h3 ⊢; exact ⟨h3, h1⟩, decide_eq_true ?_⟩
  simp only [PyData.depth, PyData.depthAll]
  omega
theorem eqv_plan (js : List Job) : PyData.eqv (.tuple [.str (Str.ofString "plan"), jobsD js]) (.tuple [.str (Str.ofString "plan"), jobsD js]) = true := by
  have h := eqv_jobs js js
  rw [decide_eq_true rfl] at h
  have h2 : PyData.eqv (.str (Str.ofString "plan")) (.str (Str.ofString "plan")) = true := by rfl
  rw [PyData.eqv, PyData.eqvAll, PyData.eqvAll, h, h2]
  simp [PyData.eqvAll]
theorem shaped_bool (b : Bool) : SeqAt.shaped (.bool b) = true := by
  unfold SeqAt.shaped
  simp [PyData.canLay0, PyData.depth]
theorem eqv_bool (b c : Bool) : PyData.eqv (.bool b) (.bool c) = decide (b = c) := by
  cases b <;> cases c <;> rfl
end DL

namespace DL
open PySem L2
/-! ### who is worked at -/
abbrev J0 : Job := (0, 1, 1)
abbrev jAt (js : List Job) (i : Nat) : Job := js.getD i J0
abbrev lAt (l : List Int) (i : Nat) : Int := l.getD i 0
theorem jAt_of {js : List Job} {i : Nat} {j : Job} (h : js[i]? = some j) : jAt js i = j := by
  rw [jAt, List.getD_eq_getElem?_getD, h]
  rfl
theorem lAt_of {l : List Int} {i : Nat} {x : Int} (h : l[i]? = some x) : lAt l i = x := by
  rw [lAt, List.getD_eq_getElem?_getD, h]
  rfl
def nearStep (js : List Job) (left : List Int) (t : Int) (b : Option Nat) (i : Nat) : Option Nat :=
  if (jAt js i).1 ≤ t ∧ 0 < lAt left i then
    match b with
    | none => some i
    | some p => if (jAt js i).2.2 < (jAt js p).2.2 then some i else some p
  else b
def nearUp (js : List Job) (left : List Int) (t : Int) : Nat → Option Nat
  | 0 => none
  | n + 1 => nearStep js left t (nearUp js left t n) n
def nearF (js : List Job) (left : List Int) (t : Int) : Option Nat := nearUp js left t js.length
/-- i is there, not done -/
def There (js : List Job) (left : List Int) (t : Int) (i : Nat) : Prop := (jAt js i).1 ≤ t ∧ 0 < lAt left i
/-- i ahead of k, or k itself: by due, of the same due by place -/
def Fst (js : List Job) (i k : Nat) : Prop := (jAt js i).2.2 < (jAt js k).2.2 ∨ ((jAt js i).2.2 = (jAt js k).2.2 ∧ i ≤ k)
def NearSpec (js : List Job) (left : List Int) (t : Int) (n : Nat) : Option Nat → Prop
  | none => ∀ i, i < n → ¬ There js left t i
  | some p => p < n ∧ There js left t p ∧ ∀ i, i < n → There js left t i → Fst js p i
theorem nearUp_spec (js : List Job) (left : List Int) (t : Int) : ∀ n, NearSpec js left t n (nearUp js left t n)
  | 0 => fun i h => absurd h (Nat.not_lt_zero i)
  | n + 1 => by
    have ih := nearUp_spec js left t n
    show NearSpec js left t (n + 1) (nearStep js left t (nearUp js left t n) n)
    generalize nearUp js left t n = b at ih
    unfold nearStep
    by_cases q : (jAt js n).1 ≤ t ∧ 0 < lAt left n
    · rw [if_pos q]
      cases b with
      | none =>
        refine ⟨Nat.lt_succ_self n, q, fun i hi ht => ?_⟩
        by_cases e : i = n
        · subst e
          exact .inr ⟨rfl, Nat.le_refl _⟩
        · exact absurd ht (ih i (by omega))
      | some p =>
        obtain ⟨h1, h2, h3⟩ := ih
        dsimp only
        by_cases c : (jAt js n).2.2 < (jAt js p).2.2
        · rw [if_pos c]
          refine ⟨Nat.lt_succ_self n, q, fun i hi ht => ?_⟩
          by_cases e : i = n
          · subst e
            exact .inr ⟨rfl, Nat.le_refl _⟩
          · have := h3 i (by omega) ht
            rcases this with z | ⟨z, _⟩
            · exact .inl (by omega)
            · exact .inl (by omega)
        · rw [if_neg c]
          refine ⟨by omega, h2, fun i hi ht => ?_⟩
          by_cases e : i = n
          · subst e
            by_cases c2 : (jAt js p).2.2 = (jAt js i).2.2
            · exact .inr ⟨c2, by omega⟩
            · exact .inl (by omega)
          · exact h3 i (by omega) ht
    · rw [if_neg q]
      cases b with
      | none =>
        intro i hi
        by_cases e : i = n
        · subst e
          exact q
        · exact ih i (by omega)
      | some p =>
        obtain ⟨h1, h2, h3⟩ := ih
        refine ⟨by omega, h2, fun i hi ht => ?_⟩
        by_cases e : i = n
        · subst e
          exact absurd ht q
        · exact h3 i (by omega) ht
theorem nearF_spec (js : List Job) (left : List Int) (t : Int) : NearSpec js left t js.length (nearF js left t) := nearUp_spec js left t js.length
theorem nearUp_lt {js : List Job} {left : List Int} {t : Int} {n p : Nat} (h : nearUp js left t n = some p) : p < n := by
  have := nearUp_spec js left t n
  rw [h] at this
  exact this.1
def optD : Option Nat → PyData
  | none => .none
  | some p => .int (p : Int)
def optI : Option Int → PyData
  | none => .none
  | some p => .int p
/-! ### the next come -/
def upStep (t : Int) (f : Option Int) (j : Job) : Option Int :=
  if t < j.1 then (match f with | none => some j.1 | some c => if j.1 < c then some j.1 else some c) else f
def upF (js : List Job) (t : Int) : Option Int := js.foldl (upStep t) none
def UpSpec (js : List Job) (t : Int) : Option Int → Prop
  | none => ∀ j ∈ js, j.1 ≤ t
  | some c => t < c ∧ (∃ j ∈ js, j.1 = c) ∧ ∀ j ∈ js, t < j.1 → c ≤ j.1
theorem upStep_spec {js : List Job} {t : Int} {f : Option Int} {j : Job} (h : UpSpec js t f) : UpSpec (js ++ [j]) t (upStep t f j) := by
  unfold upStep
  by_cases q : t < j.1
  · rw [if_pos q]
    cases f with
    | none =>
      refine ⟨q, ⟨j, by simp, rfl⟩, fun k hk hk2 => ?_⟩
      rcases List.mem_append.mp hk with hk | hk
      · have := h k hk
        omega
      · rw [List.mem_singleton.mp hk]
        exact Int.le_refl _
    | some c =>
      obtain ⟨h1, ⟨i, hi, h2⟩, h3⟩ := h
      dsimp only
      by_cases c2 : j.1 < c
      · rw [if_pos c2]
        refine ⟨q, ⟨j, by simp, rfl⟩, fun k hk hk2 => ?_⟩
        rcases List.mem_append.mp hk with hk | hk
        · have := h3 k hk hk2
          omega
        · rw [List.mem_singleton.mp hk]
          exact Int.le_refl _
      · rw [if_neg c2]
        refine ⟨h1, ⟨i, List.mem_append_left _ hi, h2⟩, fun k hk hk2 => ?_⟩
        rcases List.mem_append.mp hk with hk | hk
        · exact h3 k hk hk2
        · rw [List.mem_singleton.mp hk]
          omega
  · rw [if_neg q]
    cases f with
    | none =>
      intro k hk
      rcases List.mem_append.mp hk with hk | hk
      · exact h k hk
      · rw [List.mem_singleton.mp hk]
        omega
    | some c =>
      obtain ⟨h1, ⟨i, hi, h2⟩, h3⟩ := h
      refine ⟨h1, ⟨i, List.mem_append_left _ hi, h2⟩, fun k hk hk2 => ?_⟩
      rcases List.mem_append.mp hk with hk | hk
      · exact h3 k hk hk2
      · rw [List.mem_singleton.mp hk] at hk2
        exact absurd hk2 q
theorem up_fold (t : Int) : ∀ (js ks : List Job) (f : Option Int), UpSpec ks t f → UpSpec (ks ++ js) t (js.foldl (upStep t) f)
  | [], ks, f, h => by rw [List.append_nil]; exact h
  | j :: js, ks, f, h => by
    have := up_fold t js (ks ++ [j]) _ (upStep_spec (j := j) h)
    rw [List.append_assoc] at this
    exact this
theorem upF_spec (js : List Job) (t : Int) : UpSpec js t (upF js t) := by
  have := up_fold t js [] none (fun j h => by cases h)
  exact this
theorem upF_take {js : List Job} {t : Int} {i : Nat} {j : Job} (h : js[i]? = some j) : upF (js.take (i + 1)) t = upStep t (upF (js.take i) t) j := by
  have e : js.take (i + 1) = js.take i ++ [j] := by
    rw [List.take_succ, h]
    rfl
  unfold upF
  rw [e, List.foldl_append]
  rfl
/-! ### pieces put together -/
abbrev Piece := Int × Int × Int
def joinF (ps : List Piece) (p : Piece) : List Piece :=
  match ps.getLast? with
  | none => ps ++ [p]
  | some l => if l.1 = p.1 ∧ l.2.2 = p.2.1 then ps.dropLast ++ [(p.1, l.2.1, p.2.2)] else ps ++ [p]
theorem joinF_last {ps : List Piece} {l p : Piece} : joinF (ps ++ [l]) p = if l.1 = p.1 ∧ l.2.2 = p.2.1 then ps ++ [(p.1, l.2.1, p.2.2)] else ps ++ [l] ++ [p] := by
  unfold joinF
  rw [List.getLast?_concat, List.dropLast_concat]
/-! ### the run's steps -/
abbrev WS := List Int × List Piece × Int
def stopF (t l : Int) : Option Int → Int
  | none => t + l
  | some c => if c < t + l then c else t + l
def wStep (js : List Job) (w : WS) : WS :=
  match nearF js w.1 w.2.2 with
  | none => (w.1, w.2.1, (upF js w.2.2).getD 0)
  | some p => (w.1.set p (lAt w.1 p - (stopF w.2.2 (lAt w.1 p) (upF js w.2.2) - w.2.2)), joinF w.2.1 ((p : Int), w.2.2, stopF w.2.2 (lAt w.1 p) (upF js w.2.2)), stopF w.2.2 (lAt w.1 p) (upF js w.2.2))
def lens (js : List Job) : List Int := js.map fun j => j.2.1
def wIter (js : List Job) : Nat → WS
  | 0 => (lens js, [], 0)
  | n + 1 => wStep js (wIter js n)
def Busy (left : List Int) : Prop := ∃ x ∈ left, 0 < x
theorem foldl_max_lt : ∀ (l : List Int) (n : Int), 0 < l.foldl max n ↔ 0 < n ∨ ∃ x ∈ l, 0 < x
  | [], n => by simp
  | a :: l, n => by
    rw [List.foldl_cons, foldl_max_lt l]
    constructor
    · rintro (h | ⟨x, hx, h⟩)
      · by_cases q : 0 < n
        · exact .inl q
        · exact .inr ⟨a, List.mem_cons_self, by omega⟩
      · exact .inr ⟨x, List.mem_cons_of_mem _ hx, h⟩
    · rintro (h | ⟨x, hx, h⟩)
      · exact .inl (by omega)
      · rcases List.mem_cons.mp hx with e | hx
        · subst e
          exact .inl (by omega)
        · exact .inr ⟨x, hx, h⟩
theorem mxD_pos (l : List Int) : 0 < mxD l 0 ↔ Busy l := by
  cases l with
  | nil => simp [mxD, Busy]
  | cons n ns =>
    show 0 < ns.foldl max n ↔ _
    rw [foldl_max_lt]
    constructor
    · rintro (h | ⟨x, hx, h⟩)
      · exact ⟨n, List.mem_cons_self, h⟩
      · exact ⟨x, List.mem_cons_of_mem _ hx, h⟩
    · rintro ⟨x, hx, h⟩
      rcases List.mem_cons.mp hx with e | hx
      · subst e
        exact .inl h
      · exact .inr ⟨x, hx, h⟩
theorem busy_at {l : List Int} (h : Busy l) : ∃ i, i < l.length ∧ 0 < lAt l i := by
  obtain ⟨x, hx, h0⟩ := h
  obtain ⟨i, hi, e⟩ := List.getElem_of_mem hx
  exact ⟨i, hi, by rw [lAt_of (List.getElem?_eq_getElem hi), e]; exact h0⟩
theorem lAt_pos_lt {l : List Int} {i : Nat} (h : 0 < lAt l i) : i < l.length := by
  by_cases q : i < l.length
  · exact q
  · rw [lAt, List.getD_eq_getElem?_getD, List.getElem?_eq_none (by omega)] at h
    exact absurd h (by decide)
theorem busy_of {l : List Int} {i : Nat} (h : 0 < lAt l i) : Busy l :=
  ⟨lAt l i, List.mem_of_getElem? (getD_some (lAt_pos_lt h)), h⟩
theorem lAt_set {l : List Int} {i j : Nat} {x : Int} (hi : i < l.length) : lAt (l.set i x) j = if j = i then x else lAt l j := by
  by_cases e : j = i
  · subst e
    rw [if_pos rfl]
    exact lAt_of (List.getElem?_set_self hi)
  · rw [if_neg e, lAt, lAt, List.getD_eq_getElem?_getD, List.getD_eq_getElem?_getD, List.getElem?_set_ne (Ne.symm e)]
/-! ### what the pieces keep -/
def lastE (ps : List Piece) : Int := match ps.getLast? with
  | none => 0
  | some p => p.2.2
theorem lastE_snoc (ps : List Piece) (p : Piece) : lastE (ps ++ [p]) = p.2.2 := by
  unfold lastE
  rw [List.getLast?_concat]
def leftStep (l : List Int) (p : Piece) : List Int := l.set p.1.toNat (lAt l p.1.toNat - (p.2.2 - p.2.1))
def leftAf (js : List Job) (ps : List Piece) : List Int := ps.foldl leftStep (lens js)
theorem leftAf_snoc (js : List Job) (ps : List Piece) (p : Piece) : leftAf js (ps ++ [p]) = leftStep (leftAf js ps) p := by
  unfold leftAf
  rw [List.foldl_append]
  rfl
theorem leftAf_len (js : List Job) : ∀ ps : List Piece, (leftAf js ps).length = js.length := fun ps => by
  unfold leftAf
  have : ∀ (ps : List Piece) (l : List Int), (ps.foldl leftStep l).length = l.length := fun ps => by
    induction ps with
    | nil => intro l; rfl
    | cons p ps ih =>
      intro l
      rw [List.foldl_cons, ih]
      exact List.length_set
  rw [this, lens, List.length_map]
/-- a piece behind which left is what is not done, t the end of the piece ahead -/
structure Cond (js : List Job) (left : List Int) (t : Int) (p : Piece) : Prop where
  p0 : 0 ≤ p.1
  pn : p.1.toNat < js.length
  tb : t ≤ p.2.1
  be : p.2.1 < p.2.2
  come : (jAt js p.1.toNat).1 ≤ p.2.1
  much : p.2.2 - p.2.1 ≤ lAt left p.1.toNat
  gap : ∀ i, i < js.length → 0 < lAt left i → t < p.2.1 → p.2.1 ≤ (jAt js i).1
  fst : ∀ i, i < js.length → 0 < lAt left i → (jAt js i).1 < p.2.2 → Fst js p.1.toNat i
  beg : t = p.2.1 ∨ ∃ j ∈ js, j.1 = p.2.1
def GoodAll (js : List Job) (ps : List Piece) : Prop := ∀ (i : Nat) (p : Piece), ps[i]? = some p → Cond js (leftAf js (ps.take i)) (lastE (ps.take i)) p
theorem good_snoc {js : List Job} {ps : List Piece} {p : Piece} : GoodAll js (ps ++ [p]) ↔ GoodAll js ps ∧ Cond js (leftAf js ps) (lastE ps) p := by
  constructor
  · intro h
    refine ⟨fun i q hq => ?_, ?_⟩
    · have hi := (List.getElem?_eq_some_iff.mp hq).1
      have := h i q (by rw [List.getElem?_append_left hi]; exact hq)
      rw [List.take_append_of_le_length (by omega)] at this
      exact this
    · have := h ps.length p (by rw [List.getElem?_append_right (Nat.le_refl _), Nat.sub_self]; rfl)
      rw [List.take_append_of_le_length (Nat.le_refl _), List.take_length] at this
      exact this
  · rintro ⟨h1, h2⟩ i q hq
    by_cases hi : i < ps.length
    · rw [List.getElem?_append_left hi] at hq
      rw [List.take_append_of_le_length (by omega)]
      exact h1 i q hq
    · have hl := (List.getElem?_eq_some_iff.mp hq).1
      rw [List.length_append, List.length_singleton] at hl
      have e : i = ps.length := by omega
      subst e
      rw [List.getElem?_append_right (Nat.le_refl _), Nat.sub_self] at hq
      have e : p = q := Option.some.inj hq
      subst e
      rw [List.take_append_of_le_length (Nat.le_refl _), List.take_length]
      exact h2
/-- no two neighbours of one job touch -/
def Apart (ps : List Piece) : Prop := ∀ (i : Nat) (p q : Piece), ps[i]? = some p → ps[i + 1]? = some q → ¬ (p.1 = q.1 ∧ p.2.2 = q.2.1)
theorem apart_snoc {ps : List Piece} {p : Piece} (h : Apart ps) (hl : ∀ l, ps.getLast? = some l → ¬ (l.1 = p.1 ∧ l.2.2 = p.2.1)) : Apart (ps ++ [p]) := fun i a b ha hb => by
  have hi := (List.getElem?_eq_some_iff.mp hb).1
  rw [List.length_append, List.length_singleton] at hi
  rw [List.getElem?_append_left (by omega)] at ha
  by_cases q : i + 1 < ps.length
  · rw [List.getElem?_append_left q] at hb
    exact h i a b ha hb
  · have e : i + 1 = ps.length := by omega
    rw [List.getElem?_append_right (by omega), show i + 1 - ps.length = 0 by omega] at hb
    have e2 : p = b := Option.some.inj hb
    subst e2
    refine hl a ?_
    rw [List.getLast?_eq_getElem?, ← e]
    exact ha
theorem apart_init {ps : List Piece} {p : Piece} (h : Apart (ps ++ [p])) : Apart ps := fun i a b ha hb => by
  have hi := (List.getElem?_eq_some_iff.mp hb).1
  exact h i a b (by rw [List.getElem?_append_left (by omega)]; exact ha) (by rw [List.getElem?_append_left hi]; exact hb)
def cntA (js : List Job) (t : Int) : Nat := js.countP fun j => decide (t < j.1)
def cntB (left : List Int) : Nat := left.countP fun x => decide (0 < x)
theorem countP_lt {α : Type} {p q : α → Bool} : ∀ {l : List α}, (∀ x ∈ l, p x = true → q x = true) → (∃ x ∈ l, q x = true ∧ p x = false) → l.countP p < l.countP q
  | [], _, ⟨x, hx, _⟩ => by cases hx
  | a :: l, h, ⟨x, hx, h1, h2⟩ => by
    have le : l.countP p ≤ l.countP q := List.countP_mono_left fun y hy => h y (List.mem_cons_of_mem _ hy)
    rcases List.mem_cons.mp hx with e | hx
    · subst e
      rw [List.countP_cons_of_neg (by rw [h2]; decide), List.countP_cons_of_pos h1]
      omega
    · have ih := countP_lt (fun y hy => h y (List.mem_cons_of_mem _ hy)) ⟨x, hx, h1, h2⟩
      have ha := h a List.mem_cons_self
      by_cases c : p a = true
      · rw [List.countP_cons_of_pos c, List.countP_cons_of_pos (ha c)]
        omega
      · rw [List.countP_cons_of_neg c]
        have : l.countP q ≤ (a :: l).countP q := by rw [List.countP_cons]; omega
        omega
theorem cntA_le {js : List Job} {t u : Int} (h : t ≤ u) : cntA js u ≤ cntA js t := List.countP_mono_left fun x _ hx => by
  rw [decide_eq_true_eq] at hx ⊢
  omega
theorem cntA_lt {js : List Job} {t u : Int} (h : t < u) (hj : ∃ j ∈ js, j.1 = u) : cntA js u < cntA js t := by
  obtain ⟨j, hj, e⟩ := hj
  refine countP_lt (fun x _ hx => ?_) ⟨j, hj, ?_, ?_⟩
  · rw [decide_eq_true_eq] at hx ⊢
    omega
  · rw [decide_eq_true_eq]
    omega
  · rw [decide_eq_false_iff_not]
    omega
theorem cntB_set : ∀ {l : List Int} {i : Nat} {x : Int}, i < l.length → x ≤ lAt l i → cntB (l.set i x) ≤ cntB l ∧ (0 < lAt l i → x ≤ 0 → cntB (l.set i x) < cntB l)
  | [], i, _, h, _ => absurd h (Nat.not_lt_zero i)
  | a :: l, 0, x, _, h => by
    have h : x ≤ a := h
    show (x :: l).countP _ ≤ (a :: l).countP _ ∧ (0 < a → x ≤ 0 → (x :: l).countP _ < (a :: l).countP _)
    rw [List.countP_cons, List.countP_cons]
    by_cases q : 0 < x <;> by_cases q2 : 0 < a <;> simp [q, q2] <;> omega
  | a :: l, i + 1, x, h, h2 => by
    have ih := cntB_set (l := l) (i := i) (x := x) (by simpa using h) h2
    show (a :: l.set i x).countP _ ≤ (a :: l).countP _ ∧ (0 < lAt l i → x ≤ 0 → (a :: l.set i x).countP _ < (a :: l).countP _)
    unfold cntB at ih
    rw [List.countP_cons, List.countP_cons]
    omega
structure RInv (js : List Job) (w : WS) : Prop where
  lf : w.1 = leftAf js w.2.1
  nn : ∀ i, 0 ≤ lAt w.1 i
  good : GoodAll js w.2.1
  le : lastE w.2.1 ≤ w.2.2
  wait : lastE w.2.1 < w.2.2 → (∀ i, i < js.length → 0 < lAt w.1 i → w.2.2 ≤ (jAt js i).1) ∧ ∃ j ∈ js, j.1 = w.2.2
  apart : Apart w.2.1
  few : w.2.1.length + (cntA js w.2.2 + cntB w.1) ≤ 2 * js.length
  few2 : (∃ j ∈ js, j.1 ≤ w.2.2) → w.2.1.length + (cntA js w.2.2 + cntB w.1) + 1 ≤ 2 * js.length
theorem RInv.len {js : List Job} {w : WS} (h : RInv js w) : w.1.length = js.length := by
  rw [h.lf]
  exact leftAf_len js _
theorem jAt_mem {js : List Job} {i : Nat} (h : i < js.length) : jAt js i ∈ js := List.mem_of_getElem? (getD_some h)
theorem lAt_lens {js : List Job} {i : Nat} (h : i < js.length) : lAt (lens js) i = (jAt js i).2.1 := by
  refine lAt_of ?_
  rw [lens, List.getElem?_map, getD_some (d := J0) h]
  rfl
theorem rinv_start {js : List Job} (hs : AllS js) : RInv js (wIter js 0) := by
  have cB : cntB (lens js) ≤ js.length := by
    have := List.countP_le_length (p := fun x : Int => decide (0 < x)) (l := lens js)
    rw [lens, List.length_map] at this
    exact this
  have cA : cntA js 0 ≤ js.length := List.countP_le_length
  refine ⟨rfl, fun i => ?_, fun i p h => (by cases i <;> cases h), Int.le_refl 0, fun h => absurd h (Int.lt_irrefl 0), fun i p q h => (by cases i <;> cases h), ?_, fun ⟨j, hj, h0⟩ => ?_⟩
  · show 0 ≤ lAt (lens js) i
    by_cases q : i < js.length
    · rw [lAt_lens q]
      have := (hs _ (jAt_mem q)).2.1
      omega
    · rw [lAt, List.getD_eq_getElem?_getD, List.getElem?_eq_none (by rw [lens, List.length_map]; omega)]
      decide
  · show 0 + (cntA js 0 + cntB (lens js)) ≤ _
    omega
  · show 0 + (cntA js 0 + cntB (lens js)) + 1 ≤ _
    have : cntA js 0 < js.length := by
      have h1 := countP_lt (l := js) (p := fun j : Job => decide (0 < j.1)) (q := fun _ => true) (fun _ _ _ => rfl) ⟨j, hj, rfl, by rw [decide_eq_false_iff_not]; have h0 : j.1 ≤ 0 := h0; omega⟩
      have h2 := List.countP_le_length (p := fun _ : Job => true) (l := js)
      unfold cntA
      omega
    omega
theorem mem_jAt {js : List Job} {j : Job} (h : j ∈ js) : ∃ i, i < js.length ∧ jAt js i = j := by
  obtain ⟨i, hi, e⟩ := List.getElem_of_mem h
  exact ⟨i, hi, by rw [jAt_of (List.getElem?_eq_getElem hi), e]⟩
/-- one step: the invariant stays, the counts fall -/
theorem rinv_step {js : List Job} {w : WS} (h : RInv js w) (hb : Busy w.1) : RInv js (wStep js w) ∧ cntA js (wStep js w).2.2 + cntB (wStep js w).1 < cntA js w.2.2 + cntB w.1 := by
  obtain ⟨left, ps, t⟩ := w
  obtain ⟨h1, h2, h3, h4, h5, h6, h7, h8⟩ := h
  have hl : left.length = js.length := by
    have h1 : left = leftAf js ps := h1
    rw [h1]
    exact leftAf_len js _
  have hn := nearF_spec js left t
  have hu := upF_spec js t
  simp only at h1 h2 h3 h4 h5 h6 h7 h8 hb
  unfold wStep
  dsimp only
  generalize nearF js left t = b at hn
  generalize upF js t = c at hu
  cases b with
  | none =>
    -- nobody is there
    obtain ⟨i, hi, hp⟩ := busy_at hb
    rw [hl] at hi
    have hc : t < (jAt js i).1 := by
      by_cases q : (jAt js i).1 ≤ t
      · exact absurd ⟨q, hp⟩ (hn i hi)
      · omega
    cases c with
    | none => exact absurd (hu _ (jAt_mem hi)) (by omega)
    | some c =>
      obtain ⟨u1, u2, u3⟩ := hu
      have lt := cntA_lt (js := js) u1 u2
      refine ⟨⟨h1, h2, h3, by show lastE ps ≤ c; omega, fun _ => ⟨fun k hk hk2 => ?_, u2⟩, h6, ?_, fun _ => ?_⟩, ?_⟩
      · show c ≤ (jAt js k).1
        refine u3 _ (jAt_mem hk) ?_
        by_cases q : (jAt js k).1 ≤ t
        · exact absurd ⟨q, hk2⟩ (hn k hk)
        · omega
      · show ps.length + (cntA js c + cntB left) ≤ _
        omega
      · show ps.length + (cntA js c + cntB left) + 1 ≤ _
        omega
      · show cntA js c + cntB left < cntA js t + cntB left
        omega
  | some p =>
    obtain ⟨n1, ⟨n2, n3⟩, n4⟩ := hn
    dsimp only
    -- when it stops
    have hst : ∃ e, stopF t (lAt left p) c = e ∧ t < e ∧ e ≤ t + lAt left p ∧ (∀ j ∈ js, t < j.1 → e ≤ j.1) ∧ ((∃ j ∈ js, j.1 = e) ∨ e = t + lAt left p) := by
      refine ⟨_, rfl, ?_⟩
      cases c with
      | none =>
        refine ⟨by show t < t + lAt left p; omega, Int.le_refl _, fun j hj hj2 => ?_, .inr rfl⟩
        have := hu j hj
        omega
      | some c =>
        obtain ⟨u1, u2, u3⟩ := hu
        show t < (if c < t + lAt left p then c else t + lAt left p) ∧ (if c < t + lAt left p then c else t + lAt left p) ≤ t + lAt left p ∧ (∀ j ∈ js, t < j.1 → (if c < t + lAt left p then c else t + lAt left p) ≤ j.1) ∧ ((∃ j ∈ js, j.1 = (if c < t + lAt left p then c else t + lAt left p)) ∨ (if c < t + lAt left p then c else t + lAt left p) = t + lAt left p)
        by_cases q : c < t + lAt left p
        · rw [if_pos q]
          exact ⟨u1, by omega, u3, .inl u2⟩
        · rw [if_neg q]
          refine ⟨by omega, Int.le_refl _, fun j hj hj2 => ?_, .inr rfl⟩
          have := u3 j hj hj2
          omega
    obtain ⟨e, he, e1, e2, e3, e4⟩ := hst
    rw [he]
    have hpl : p < left.length := by omega
    have hx : lAt left p - (e - t) ≤ lAt left p := by omega
    obtain ⟨cb1, cb2⟩ := cntB_set (l := left) (i := p) (x := lAt left p - (e - t)) hpl hx
    have ca := cntA_le (js := js) (show t ≤ e by omega)
    have fall : cntA js e + cntB (left.set p (lAt left p - (e - t))) < cntA js t + cntB left := by
      rcases e4 with e4 | e4
      · have := cntA_lt (js := js) e1 e4
        omega
      · have := cb2 n3 (by omega)
        omega
    -- the chosen one is ahead of all that come before e
    have ahead : ∀ i, i < js.length → 0 < lAt left i → (jAt js i).1 < e → Fst js p i := fun i hi hi2 hi3 => by
      refine n4 i hi ⟨?_, hi2⟩
      by_cases q : (jAt js i).1 ≤ t
      · exact q
      · have := e3 _ (jAt_mem hi) (by omega)
        omega
    have nn' : ∀ i, 0 ≤ lAt (left.set p (lAt left p - (e - t))) i := fun i => by
      rw [lAt_set hpl]
      split
      · omega
      · exact h2 i
    have there : ∃ j ∈ js, j.1 ≤ t := ⟨_, jAt_mem n1, n2⟩
    have f8 := h8 there
    -- the piece joined, or put behind
    have main : leftAf js (joinF ps ((p : Int), t, e)) = left.set p (lAt left p - (e - t)) ∧ GoodAll js (joinF ps ((p : Int), t, e)) ∧ lastE (joinF ps ((p : Int), t, e)) = e ∧ Apart (joinF ps ((p : Int), t, e)) ∧ (joinF ps ((p : Int), t, e)).length ≤ ps.length + 1 := by
      have new : Cond js left (lastE ps) ((p : Int), t, e) := by
        refine ⟨by show (0 : Int) ≤ (p : Int); omega, by show (p : Int).toNat < _; simpa using n1, h4, e1, by simpa using n2, by show e - t ≤ lAt left (p : Int).toNat; rw [Int.toNat_natCast]; omega, fun i hi hi2 hi3 => (h5 hi3).1 i hi hi2, fun i hi hi2 hi3 => ?_, ?_⟩
        · show Fst js (p : Int).toNat i
          rw [Int.toNat_natCast]
          exact ahead i hi hi2 hi3
        · by_cases q : lastE ps = t
          · exact .inl q
          · exact .inr (h5 (by omega)).2
      have put : leftAf js (ps ++ [((p : Int), t, e)]) = left.set p (lAt left p - (e - t)) := by
        rw [leftAf_snoc, ← h1]
        show left.set (p : Int).toNat (lAt left (p : Int).toNat - (e - t)) = _
        rw [Int.toNat_natCast]
      have put2 : GoodAll js (ps ++ [((p : Int), t, e)]) := good_snoc.mpr ⟨h3, by rw [← h1]; exact new⟩
      rcases List.eq_nil_or_concat ps with e0 | ⟨qs, l, e0⟩
      · subst e0
        exact ⟨put, put2, rfl, apart_snoc h6 (fun l hl => by cases hl), by simp [joinF]⟩
      · rw [List.concat_eq_append] at e0
        subst e0
        rw [joinF_last]
        by_cases q : l.1 = ((p : Int), t, e).1 ∧ l.2.2 = ((p : Int), t, e).2.1
        · rw [if_pos q]
          obtain ⟨q1, q2⟩ := q
          obtain ⟨lp, lb, le⟩ := l
          have q1 : lp = (p : Int) := q1
          have q2 : le = t := q2
          subst q1
          subst q2
          obtain ⟨g1, g2⟩ := good_snoc.mp h3
          have hL : left = leftStep (leftAf js qs) ((p : Int), lb, le) := by rw [h1, leftAf_snoc]
          have hql : p < (leftAf js qs).length := by rw [leftAf_len]; exact n1
          have hLp : lAt left p = lAt (leftAf js qs) p - (le - lb) := by
            rw [hL]
            show lAt ((leftAf js qs).set (p : Int).toNat _) p = _
            rw [Int.toNat_natCast, lAt_set hql, if_pos rfl]
          have hLo : ∀ i, i ≠ p → lAt left i = lAt (leftAf js qs) i := fun i hi => by
            rw [hL]
            show lAt ((leftAf js qs).set (p : Int).toNat _) i = _
            rw [Int.toNat_natCast, lAt_set hql, if_neg hi]
          have gb : lb < le := g2.be
          refine ⟨?_, good_snoc.mpr ⟨g1, ?_⟩, by rw [lastE_snoc], ?_, by simp⟩
          · rw [leftAf_snoc]
            show (leftAf js qs).set (p : Int).toNat (lAt (leftAf js qs) (p : Int).toNat - (e - lb)) = _
            rw [Int.toNat_natCast, hLp, hL]
            show _ = ((leftAf js qs).set (p : Int).toNat _).set p _
            rw [Int.toNat_natCast, List.set_set]
            congr 1
            omega
          · refine ⟨g2.p0, g2.pn, g2.tb, by show lb < e; omega, g2.come, ?_, g2.gap, fun i hi hi2 hi3 => ?_, g2.beg⟩
            · show e - lb ≤ lAt (leftAf js qs) (p : Int).toNat
              rw [Int.toNat_natCast]
              omega
            · show Fst js (p : Int).toNat i
              rw [Int.toNat_natCast]
              by_cases ip : i = p
              · subst ip
                exact .inr ⟨rfl, Nat.le_refl _⟩
              · exact ahead i hi (by rw [hLo i ip]; exact hi2) hi3
          · refine apart_snoc (apart_init h6) fun m hm hm2 => ?_
            -- the joined piece begins where the last one did
            have hq : qs[qs.length - 1]? = some m := by
              rw [List.getLast?_eq_getElem?] at hm
              exact hm
            have hne : 0 < qs.length := by
              cases qs with
              | nil => cases hm
              | cons a r => exact Nat.zero_lt_succ _
            refine h6 (qs.length - 1) m ((p : Int), lb, le) (by rw [List.getElem?_append_left (by omega)]; exact hq) ?_ hm2
            rw [show qs.length - 1 + 1 = qs.length by omega, List.getElem?_append_right (Nat.le_refl _), Nat.sub_self]
            rfl
        · rw [if_neg q]
          refine ⟨put, put2, by rw [lastE_snoc], apart_snoc h6 fun m hm => ?_, by simp⟩
          rw [List.getLast?_concat] at hm
          have em : l = m := Option.some.inj hm
          subst em
          exact q
    obtain ⟨m1, m2, m3, m4, m5⟩ := main
    refine ⟨⟨m1.symm, nn', m2, Int.le_of_eq m3, fun z => absurd z (by show ¬ lastE (joinF ps ((p : Int), t, e)) < e; omega), m4, ?_, fun _ => ?_⟩, fall⟩
    · show (joinF ps ((p : Int), t, e)).length + (cntA js e + cntB (left.set p (lAt left p - (e - t)))) ≤ _
      omega
    · show (joinF ps ((p : Int), t, e)).length + (cntA js e + cntB (left.set p (lAt left p - (e - t)))) + 1 ≤ _
      omega
theorem rinv_at {js : List Job} (hs : AllS js) : ∀ n, (∀ i, i < n → Busy (wIter js i).1) → RInv js (wIter js n) ∧ n + (cntA js (wIter js n).2.2 + cntB (wIter js n).1) ≤ 2 * js.length
  | 0, _ => by
    have h := rinv_start hs
    refine ⟨h, ?_⟩
    have := h.few
    omega
  | n + 1, hb => by
    obtain ⟨h1, h2⟩ := rinv_at hs n fun i hi => hb i (by omega)
    obtain ⟨h3, h4⟩ := rinv_step h1 (hb n (Nat.lt_succ_self n))
    refine ⟨h3, ?_⟩
    show n + 1 + (cntA js (wStep js (wIter js n)).2.2 + cntB (wStep js (wIter js n)).1) ≤ _
    omega
theorem w_stops {js : List Job} (hs : AllS js) : ∃ N, (∀ i, i < N → Busy (wIter js i).1) ∧ ¬ Busy (wIter js N).1 := by
  have go : ∀ k n, n + k = 2 * js.length + 1 → (∀ i, i < n → Busy (wIter js i).1) → ∃ N, (∀ i, i < N → Busy (wIter js i).1) ∧ ¬ Busy (wIter js N).1 := by
    intro k
    induction k with
    | zero =>
      intro n hn hb
      have := (rinv_at hs n hb).2
      omega
    | succ k ih =>
      intro n hn hb
      by_cases q : Busy (wIter js n).1
      · exact ih (n + 1) (by omega) fun i hi => by
          by_cases e : i = n
          · subst e
            exact q
          · exact hb i (by omega)
      · exact ⟨n, hb, q⟩
  exact go (2 * js.length + 1) 0 (by omega) fun i hi => absurd hi (Nat.not_lt_zero i)
open Classical in
noncomputable def wN (js : List Job) : Nat := if h : ∃ N, (∀ i, i < N → Busy (wIter js i).1) ∧ ¬ Busy (wIter js N).1 then Classical.choose h else 0
theorem wN_spec {js : List Job} (hs : AllS js) : (∀ i, i < wN js → Busy (wIter js i).1) ∧ ¬ Busy (wIter js (wN js)).1 := by
  have h := w_stops hs
  unfold wN
  rw [dif_pos h]
  exact Classical.choose_spec h
/-- the pieces of the run -/
noncomputable def workedF (js : List Job) : List Piece := (wIter js (wN js)).2.1
structure Ran (js : List Job) (ps : List Piece) : Prop where
  good : GoodAll js ps
  done : ∀ i, lAt (leftAf js ps) i = 0
  apart : Apart ps
  few : js ≠ [] → ps.length < 2 * js.length
theorem ran {js : List Job} (hs : AllS js) : Ran js (workedF js) := by
  obtain ⟨h1, h2⟩ := wN_spec hs
  have h := (rinv_at hs (wN js) h1).1
  refine ⟨h.good, fun i => ?_, h.apart, fun hn => ?_⟩
  · show lAt (leftAf js (wIter js (wN js)).2.1) i = 0
    rw [← h.lf]
    have a := h.nn i
    by_cases q : 0 < lAt (wIter js (wN js)).1 i
    · exact absurd (busy_of q) h2
    · omega
  · show (wIter js (wN js)).2.1.length < _
    have hp : 0 < js.length := by
      cases js with
      | nil => exact absurd rfl hn
      | cons a l => exact Nat.zero_lt_succ _
    rcases List.eq_nil_or_concat (wIter js (wN js)).2.1 with e | ⟨qs, l, e⟩
    · rw [e]
      show 0 < _
      omega
    · rw [List.concat_eq_append] at e
      have g := h.good
      have le := h.le
      rw [e] at g le
      rw [lastE_snoc] at le
      have c := (good_snoc.mp g).2
      have := h.few2 ⟨_, jAt_mem c.pn, by have := c.come; have := c.be; omega⟩
      omega
theorem ran_len {js : List Job} (hs : AllS js) : (workedF js).length ≤ 2 * js.length := by
  obtain ⟨h1, h2⟩ := wN_spec hs
  have h := (rinv_at hs (wN js) h1).1.few
  show (wIter js (wN js)).2.1.length ≤ _
  omega
theorem leftAf_take {js : List Job} {ps : List Piece} {i : Nat} {p : Piece} (h : ps[i]? = some p) : leftAf js (ps.take (i + 1)) = leftStep (leftAf js (ps.take i)) p := by
  have e : ps.take (i + 1) = ps.take i ++ [p] := by
    rw [List.take_succ, h]
    rfl
  rw [e, leftAf_snoc]
theorem lastE_take {ps : List Piece} {i : Nat} {p : Piece} (h : ps[i]? = some p) : lastE (ps.take (i + 1)) = p.2.2 := by
  have e : ps.take (i + 1) = ps.take i ++ [p] := by
    rw [List.take_succ, h]
    rfl
  rw [e, lastE_snoc]
theorem zeros_of {l : List Int} {n : Nat} (hl : l.length = n) (h : ∀ i, lAt l i = 0) : l = List.replicate n 0 := by
  refine List.ext_getElem? fun i => ?_
  by_cases q : i < n
  · rw [List.getElem?_replicate, if_pos q, getD_some (d := (0 : Int)) (by omega)]
    exact congrArg some (h i)
  · rw [List.getElem?_eq_none (by omega), List.getElem?_eq_none (by rw [List.length_replicate]; omega)]
theorem ixN_pos {n : Nat} {z : Int} (h0 : 0 ≤ z) (h1 : z.toNat < n) : ixN n z = some z.toNat := by
  unfold ixN
  rw [if_pos h0, if_pos (by omega)]
theorem snoc_ind {α : Type} {P : List α → Prop} (h0 : P []) (h1 : ∀ l a, P l → P (l ++ [a])) (l : List α) : P l := by
  have : ∀ n (l : List α), l.length = n → P l := by
    intro n
    induction n with
    | zero => intro l h; cases l with
      | nil => exact h0
      | cons a r => cases h
    | succ n ih =>
      intro l h
      rcases List.eq_nil_or_concat l with e | ⟨r, a, e⟩
      · subst e
        exact h0
      · rw [List.concat_eq_append] at e
        subst e
        rw [List.length_append, List.length_singleton] at h
        exact h1 r a (ih r (by omega))
  exact this l.length l rfl
/-! ### when each job ends, who is late -/
def endStep (l : List Int) (p : Piece) : List Int := l.set p.1.toNat p.2.2
def endsAf (n : Nat) (ps : List Piece) : List Int := ps.foldl endStep (List.replicate n 0)
theorem endsAf_snoc (n : Nat) (ps : List Piece) (p : Piece) : endsAf n (ps ++ [p]) = endStep (endsAf n ps) p := by
  unfold endsAf
  rw [List.foldl_append]
  rfl
theorem endsAf_take {n : Nat} {ps : List Piece} {i : Nat} {p : Piece} (h : ps[i]? = some p) : endsAf n (ps.take (i + 1)) = endStep (endsAf n (ps.take i)) p := by
  have e : ps.take (i + 1) = ps.take i ++ [p] := by
    rw [List.take_succ, h]
    rfl
  rw [e, endsAf_snoc]
theorem endsAf_len (n : Nat) (ps : List Piece) : (endsAf n ps).length = n := by
  revert ps
  refine fun ps => snoc_ind (P := fun ps => (endsAf n ps).length = n) ?_ ?_ ps
  · exact List.length_replicate
  · intro ps p ih
    show (endsAf n (ps ++ [p])).length = n
    rw [endsAf_snoc, endStep, List.length_set, ih]
/-- places of jobs -/
def PlacesIn (n : Nat) (ps : List Piece) : Prop := ∀ p ∈ ps, 0 ≤ p.1 ∧ p.1.toNat < n
theorem good_places {js : List Job} {ps : List Piece} (h : GoodAll js ps) : PlacesIn js.length ps := fun p hp => by
  obtain ⟨i, hi, e⟩ := List.getElem_of_mem hp
  have c := h i p (by rw [List.getElem?_eq_getElem hi, e])
  exact ⟨c.p0, c.pn⟩
noncomputable def endsF (js : List Job) : List Int := endsAf js.length (workedF js)
theorem endsF_len (js : List Job) : (endsF js).length = js.length := endsAf_len _ _
/-- late, in the order of the places: (due, place) -/
def latePr (js : List Job) (es : List Int) : List (Int × Int) := ((List.range js.length).filter fun k => decide ((jAt js k).2.2 < lAt es k)).map fun k => ((jAt js k).2.2, (k : Int))
def lexLe (x y : Int × Int) : Bool := !SrtO.lexB y x
theorem lexLe_iff {x y : Int × Int} : lexLe x y = true ↔ x.1 < y.1 ∨ (x.1 = y.1 ∧ x.2 ≤ y.2) := by
  unfold lexLe
  rw [Bool.not_eq_true', SrtO.lexB_no]
  omega
def lateSrt (js : List Job) (es : List Int) : List (Int × Int) := (latePr js es).mergeSort lexLe
theorem lateSrt_pw (js : List Job) (es : List Int) : (lateSrt js es).Pairwise fun x y => SrtO.lexB y x = false := by
  have h := List.pairwise_mergeSort (le := lexLe) (fun a b c h1 h2 => by rw [lexLe_iff] at *; omega) (fun a b => by rw [Bool.or_eq_true, lexLe_iff, lexLe_iff]; omega) (latePr js es)
  refine List.Pairwise.imp (fun {a b} h => ?_) h
  unfold lexLe at h
  simpa using h
theorem lateSrt_perm (js : List Job) (es : List Int) : (lateSrt js es).Perm (latePr js es) := List.mergeSort_perm _ _
theorem srt_uniq {l m : List (Int × Int)} (hp : l.Perm m) (h1 : l.Pairwise fun x y => SrtO.lexB y x = false) (h2 : m.Pairwise fun x y => SrtO.lexB y x = false) : l = m :=
  List.Perm.eq_of_pairwise (fun a b _ _ h3 h4 => by
    rw [SrtO.lexB_no] at h3 h4
    obtain ⟨a1, a2⟩ := a
    obtain ⟨b1, b2⟩ := b
    have e1 : a1 = b1 := by simp only at h3 h4; omega
    have e2 : a2 = b2 := by simp only at h3 h4; omega
    rw [e1, e2]) h1 h2 hp
def lateF (js : List Job) (es : List Int) : List Int := (lateSrt js es).map (·.2)
theorem mem_lateSrt {js : List Job} {es : List Int} {x : Int × Int} : x ∈ lateSrt js es ↔ ∃ k, k < js.length ∧ (jAt js k).2.2 < lAt es k ∧ x = ((jAt js k).2.2, (k : Int)) := by
  rw [(lateSrt_perm js es).mem_iff, latePr, List.mem_map]
  constructor
  · rintro ⟨k, hk, rfl⟩
    rw [List.mem_filter, List.mem_range, decide_eq_true_eq] at hk
    exact ⟨k, hk.1, hk.2, rfl⟩
  · rintro ⟨k, h1, h2, rfl⟩
    exact ⟨k, by rw [List.mem_filter, List.mem_range, decide_eq_true_eq]; exact ⟨h1, h2⟩, rfl⟩
/-- the late places as the plain law tells them -/
def lateIx (js : List Job) (es : List Int) : List Int := ((List.range js.length).filter fun k => decide ((jAt js k).2.2 < lAt es k)).map fun k : Nat => (k : Int)
theorem lateF_perm (js : List Job) (es : List Int) : (lateF js es).Perm (lateIx js es) := by
  refine ((lateSrt_perm js es).map _).trans (List.Perm.of_eq ?_)
  rw [latePr, List.map_map]
  rfl
theorem lateIx_pw (js : List Job) (es : List Int) : (lateIx js es).Pairwise (· ≤ ·) := by
  rw [lateIx, List.pairwise_map]
  refine List.Pairwise.imp (fun {a b} (h : a < b) => by omega) (List.Pairwise.filter _ List.pairwise_lt_range)
theorem ints_uniq {l m : List Int} (hp : l.Perm m) (h1 : l.Pairwise (· ≤ ·)) (h2 : m.Pairwise (· ≤ ·)) : l = m :=
  List.Perm.eq_of_pairwise (fun a b _ _ h3 h4 => by omega) h1 h2 hp
theorem lateF_len (js : List Job) (es : List Int) : (lateF js es).length ≤ js.length := by
  rw [(lateF_perm js es).length_eq, lateIx, List.length_map]
  exact Nat.le_trans (List.length_filter_le _ _) (Nat.le_of_eq List.length_range)
theorem lateF_at {js : List Job} {es : List Int} {i : Nat} {a : Int} (h : (lateF js es)[i]? = some a) : ∃ k : Nat, a = (k : Int) ∧ k < js.length ∧ (jAt js k).2.2 < lAt es k ∧ (lateSrt js es)[i]? = some ((jAt js k).2.2, (k : Int)) := by
  rw [lateF, List.getElem?_map] at h
  obtain ⟨x, hx, rfl⟩ := Option.map_eq_some_iff.mp h
  obtain ⟨k, h1, h2, rfl⟩ := mem_lateSrt.mp (List.mem_of_getElem? hx)
  exact ⟨k, rfl, h1, h2, hx⟩
theorem lateSrt_le {js : List Job} {es : List Int} {i j : Nat} {x y : Int × Int} (h : i < j) (h1 : (lateSrt js es)[i]? = some x) (h2 : (lateSrt js es)[j]? = some y) : x.1 < y.1 ∨ (x.1 = y.1 ∧ x.2 ≤ y.2) := by
  obtain ⟨b1, e1⟩ := List.getElem?_eq_some_iff.mp h1
  obtain ⟨b2, e2⟩ := List.getElem?_eq_some_iff.mp h2
  have hp := List.pairwise_iff_getElem.mp (lateSrt_pw js es) i j b1 b2 h
  rw [e1, e2, SrtO.lexB_no] at hp
  omega
end DL

namespace DL
open PySem L2
/-! ### nearest due first meets all dues, or a stretch asks too much -/
abbrev Piece.has (p : Piece) (t : Int) : Prop := p.2.1 ≤ t ∧ t < p.2.2
structure Ordered (ps : List Piece) : Prop where
  pw : ps.Pairwise fun p q => p.2.2 ≤ q.2.1
  all : ∀ p ∈ ps, 0 ≤ p.2.1 ∧ p.2.1 < p.2.2 ∧ p.2.2 ≤ lastE ps
  nn : 0 ≤ lastE ps
theorem good_ordered {js : List Job} : ∀ ps : List Piece, GoodAll js ps → Ordered ps := by
  refine snoc_ind ?_ ?_
  · exact fun _ => ⟨List.Pairwise.nil, fun p h => (List.not_mem_nil h).elim, Int.le_refl _⟩
  · intro ps p ih h
    obtain ⟨h1, c⟩ := good_snoc.mp h
    obtain ⟨i1, i2, i3⟩ := ih h1
    have tb := c.tb
    have be := c.be
    refine ⟨?_, fun q hq => ?_, ?_⟩
    · rw [List.pairwise_append]
      refine ⟨i1, List.pairwise_singleton _ _, fun a ha b hb => ?_⟩
      rw [List.mem_singleton.mp hb]
      have := i2 a ha
      omega
    · rw [lastE_snoc]
      rcases List.mem_append.mp hq with hq | hq
      · have := i2 q hq
        omega
      · rw [List.mem_singleton.mp hq]
        omega
    · rw [lastE_snoc]
      omega
theorem has_uniq {ps : List Piece} (h : Ordered ps) {p q : Piece} {t : Int} (hp : p ∈ ps) (hq : q ∈ ps) (h1 : Piece.has p t) (h2 : Piece.has q t) : p = q := by
  obtain ⟨i, hi, e1⟩ := List.getElem_of_mem hp
  obtain ⟨j, hj, e2⟩ := List.getElem_of_mem hq
  have pw := List.pairwise_iff_getElem.mp h.pw
  rcases Nat.lt_trichotomy i j with l | l | l
  · have := pw i j hi hj l
    rw [e1, e2] at this
    have a := h1.2
    have b := h2.1
    omega
  · subst l
    exact e1.symm.trans e2
  · have := pw j i hj hi l
    rw [e1, e2] at this
    have a := h2.2
    have b := h1.1
    omega
theorem left_snoc_le {js : List Job} {ps : List Piece} {p : Piece} (c : Cond js (leftAf js ps) (lastE ps) p) (k : Nat) : lAt (leftAf js (ps ++ [p])) k ≤ lAt (leftAf js ps) k := by
  have be := c.be
  rw [leftAf_snoc, leftStep, lAt_set (by rw [leftAf_len]; exact c.pn)]
  by_cases e : k = p.1.toNat
  · rw [if_pos e, e]
    omega
  · rw [if_neg e]
    exact Int.le_refl _
/-- as long as a job is there that is not done, one due no later is worked at -/
theorem edf_gen {js : List Job} {k : Nat} {t : Int} (hk : k < js.length) (hc : (jAt js k).1 ≤ t) : ∀ ps : List Piece, GoodAll js ps → t < lastE ps → (0 < lAt (leftAf js ps) k ∨ ∃ q ∈ ps, q.1.toNat = k ∧ t < q.2.2) → (0 ≤ t) → ∃ p ∈ ps, Piece.has p t ∧ Fst js p.1.toNat k := by
  refine snoc_ind ?_ ?_
  · intro _ h _ h0
    exact absurd h (Int.not_lt.mpr h0)
  · intro ps p ih hg ht h h0
    obtain ⟨g1, c⟩ := good_snoc.mp hg
    rw [lastE_snoc] at ht
    have be := c.be
    have hm := c.much
    have h' : 0 < lAt (leftAf js ps) k ∨ ∃ q ∈ ps, q.1.toNat = k ∧ t < q.2.2 := by
      rcases h with h | ⟨q, hq, h1, h2⟩
      · have := left_snoc_le c k
        exact .inl (by omega)
      · rcases List.mem_append.mp hq with hq | hq
        · exact .inr ⟨q, hq, h1, h2⟩
        · rw [List.mem_singleton.mp hq] at h1
          rw [h1] at hm
          exact .inl (by omega)
    by_cases l : t < lastE ps
    · obtain ⟨q, hq, h1⟩ := ih g1 l h' h0
      exact ⟨q, List.mem_append_left _ hq, h1⟩
    · have hl : 0 < lAt (leftAf js ps) k := by
        rcases h' with h' | ⟨q, hq, _, h2⟩
        · exact h'
        · have := ((good_ordered ps g1).all q hq).2.2
          omega
      have hb : p.2.1 ≤ t := by
        by_cases q : p.2.1 ≤ t
        · exact q
        · have := c.gap k hk hl (by omega)
          omega
      exact ⟨p, List.mem_append_right _ List.mem_cons_self, ⟨hb, ht⟩, c.fst k hk hl (by omega)⟩
theorem edf {js : List Job} {ps : List Piece} (hg : GoodAll js ps) (hs : AllS js) {k : Nat} {t : Int} {q : Piece} (hq : q ∈ ps) (e : q.1.toNat = k) (hc : (jAt js k).1 ≤ t) (ht : t < q.2.2) : ∃ p ∈ ps, Piece.has p t ∧ Fst js p.1.toNat k := by
  have hk : k < js.length := e ▸ (good_places hg q hq).2
  have h0 := (hs _ (jAt_mem hk)).1
  have hl := ((good_ordered ps hg).all q hq).2.2
  exact edf_gen hk hc ps hg (by omega) (.inr ⟨q, hq, e, ht⟩) (by omega)
/-- the least time from which up to e the run works at what is due by then -/
def crowdR (js : List Job) (e : Int) : Int → List Piece → Int
  | b, [] => b
  | b, p :: r => if p.2.1 < b ∧ b ≤ p.2.2 then (if e < (jAt js p.1.toNat).2.2 then b else crowdR js e p.2.1 r) else crowdR js e b r
def crowdF (js : List Job) (ps : List Piece) (e : Int) : Int := crowdR js e e ps.reverse
structure Crowd (js : List Job) (ps : List Piece) (e b : Int) : Prop where
  b0 : 0 ≤ b
  be : b ≤ e
  cov : ∀ t, b ≤ t → t < e → ∃ p ∈ ps, Piece.has p t ∧ (jAt js p.1.toNat).2.2 ≤ e
  stop : (∀ p ∈ ps, b ≤ p.2.1 ∨ p.2.2 < b) ∨ ∃ p ∈ ps, p.2.1 < b ∧ b ≤ p.2.2 ∧ e < (jAt js p.1.toNat).2.2
theorem crowdR_spec {js : List Job} {ps : List Piece} {e : Int} (ho : Ordered ps) : ∀ (r suf : List Piece) (b : Int), r.reverse ++ suf = ps → 0 ≤ b → b ≤ e →
    (∀ t, b ≤ t → t < e → ∃ p ∈ ps, Piece.has p t ∧ (jAt js p.1.toNat).2.2 ≤ e) → (∀ p ∈ suf, b ≤ p.2.1 ∨ p.2.2 < b) → Crowd js ps e (crowdR js e b r)
  | [], suf, b, h, b0, be, cov, hst => ⟨b0, be, cov, .inl (by
      have h : suf = ps := h
      rw [← h]
      exact hst)⟩
  | p :: r, suf, b, h, b0, be, cov, hst => by
    have h' : r.reverse ++ (p :: suf) = ps := by
      rw [← h, List.reverse_cons, List.append_assoc]
      rfl
    have hp : p ∈ ps := h' ▸ List.mem_append_right _ List.mem_cons_self
    obtain ⟨p1, p2, _⟩ := ho.all p hp
    unfold crowdR
    by_cases q : p.2.1 < b ∧ b ≤ p.2.2
    · rw [if_pos q]
      by_cases l : e < (jAt js p.1.toNat).2.2
      · rw [if_pos l]
        exact ⟨b0, be, cov, .inr ⟨p, hp, q.1, q.2, l⟩⟩
      · rw [if_neg l]
        refine crowdR_spec ho r (p :: suf) p.2.1 h' p1 (by omega) (fun t h1 h2 => ?_) (fun s hsu => ?_)
        · by_cases z : b ≤ t
          · exact cov t z h2
          · exact ⟨p, hp, ⟨h1, by omega⟩, by omega⟩
        · rcases List.mem_cons.mp hsu with z | z
          · rw [z]
            exact .inl (Int.le_refl _)
          · have pw := ho.pw
            rw [← h', List.pairwise_append] at pw
            have := (List.pairwise_cons.mp pw.2.1).1 s z
            exact .inl (by omega)
    · rw [if_neg q]
      refine crowdR_spec ho r (p :: suf) b h' b0 be cov (fun s hsu => ?_)
      rcases List.mem_cons.mp hsu with z | z
      · rw [z]
        omega
      · exact hst s z
theorem crowdF_spec {js : List Job} {ps : List Piece} {e : Int} (ho : Ordered ps) (he : 0 ≤ e) : Crowd js ps e (crowdF js ps e) :=
  crowdR_spec ho ps.reverse [] e (by rw [List.reverse_reverse, List.append_nil]) he (Int.le_refl _) (fun t h1 h2 => by omega) (fun p hp => by cases hp)
/-- who has a piece behind b and is due by e comes within -/
theorem crowd_in {js : List Job} {ps : List Piece} {e b : Int} (hg : GoodAll js ps) (hs : AllS js) (c : Crowd js ps e b) {q : Piece} (hq : q ∈ ps) (hd : (jAt js q.1.toNat).2.2 ≤ e) (hb : b < q.2.2 ∨ b ≤ q.2.2) : b ≤ (jAt js q.1.toNat).1 := by
  by_cases z : b ≤ (jAt js q.1.toNat).1
  · exact z
  · exfalso
    obtain ⟨p, hp, h1, h2⟩ := edf (t := b - 1) hg hs hq rfl (by omega) (by omega)
    have o := good_ordered ps hg
    have a1 := h1.1
    have a2 := h1.2
    rcases c.stop with st | ⟨p', hp', g1, g2, g3⟩
    · have := st p hp
      omega
    · have e1 := has_uniq o hp hp' h1 ⟨by omega, by omega⟩
      subst e1
      rcases h2 with h2 | h2 <;> omega
/-! sums -/
theorem sum_le {α : Type} {f g : α → Int} : ∀ {l : List α}, (∀ x ∈ l, f x ≤ g x) → (l.map f).sum ≤ (l.map g).sum
  | [], _ => Int.le_refl _
  | a :: l, h => by
    rw [List.map_cons, List.map_cons, List.sum_cons, List.sum_cons]
    have := sum_le (l := l) fun x hx => h x (List.mem_cons_of_mem _ hx)
    have := h a List.mem_cons_self
    omega
theorem sum_lt {α : Type} {f g : α → Int} {y : α} : ∀ {l : List α}, (∀ x ∈ l, f x ≤ g x) → y ∈ l → f y < g y → (l.map f).sum < (l.map g).sum
  | [], _, hy, _ => by cases hy
  | a :: l, h, hy, hl => by
    rw [List.map_cons, List.map_cons, List.sum_cons, List.sum_cons]
    have h1 := sum_le (l := l) fun x hx => h x (List.mem_cons_of_mem _ hx)
    have h2 := h a List.mem_cons_self
    rcases List.mem_cons.mp hy with e | hy
    · subst e
      omega
    · have := sum_lt (l := l) (fun x hx => h x (List.mem_cons_of_mem _ hx)) hy hl
      omega
def ov (b c : Int) (p : Piece) : Int := max 0 (min p.2.2 c - max p.2.1 b)
theorem cov_sum {ps : List Piece} {P : Piece → Bool} {b : Int} : ∀ n : Nat, (∀ t, b ≤ t → t < b + n → ∃ p ∈ ps, Piece.has p t ∧ P p = true) → (n : Int) ≤ (ps.map fun p => if P p = true then ov b (b + n) p else 0).sum
  | 0, _ => by
    have : (ps.map fun _ => (0 : Int)).sum ≤ (ps.map fun p => if P p = true then ov b (b + (0 : Nat)) p else 0).sum := sum_le fun p _ => by
      unfold ov
      by_cases q : P p = true
      · rw [if_pos q]
        omega
      · rw [if_neg q]
        exact Int.le_refl _
    have h0 : ∀ l : List Piece, (l.map fun _ => (0 : Int)).sum = 0 := fun l => by
      induction l with
      | nil => rfl
      | cons a r ih => rw [List.map_cons, List.sum_cons, ih]; rfl
    rw [h0] at this
    omega
  | n + 1, h => by
    have ih := cov_sum (P := P) n fun t h1 h2 => h t h1 (by omega)
    obtain ⟨p, hp, ⟨h1, h2⟩, h3⟩ := h (b + n) (by omega) (by omega)
    have : (ps.map fun p => if P p = true then ov b (b + n) p else 0).sum < (ps.map fun p => if P p = true then ov b (b + (n + 1 : Nat)) p else 0).sum := by
      refine sum_lt (y := p) (fun q _ => ?_) hp ?_
      · by_cases z : P q = true
        · rw [if_pos z, if_pos z]
          unfold ov
          omega
        · rw [if_neg z, if_neg z]
          exact Int.le_refl _
      · rw [if_pos h3, if_pos h3]
        unfold ov
        omega
    omega
/-- all that is chosen of a list beside the jobs -/
def selS (P : Job → Bool) : List Job → List Int → Int
  | j :: js, x :: l => (if P j = true then x else 0) + selS P js l
  | _, _ => 0
theorem selS_lens (P : Job → Bool) : ∀ js : List Job, selS P js (lens js) = ((js.filter P).map fun j => j.2.1).sum
  | [] => rfl
  | j :: js => by
    show (if P j = true then j.2.1 else 0) + selS P js (lens js) = _
    rw [selS_lens P js]
    by_cases q : P j = true
    · rw [if_pos q, List.filter_cons_of_pos q, List.map_cons, List.sum_cons]
    · rw [if_neg q, List.filter_cons_of_neg q, Int.zero_add]
theorem selS_zero (P : Job → Bool) : ∀ (js : List Job) (n : Nat), selS P js (List.replicate n 0) = 0
  | [], _ => by unfold selS; rfl
  | _ :: _, 0 => rfl
  | j :: js, n + 1 => by
    show (if P j = true then (0 : Int) else 0) + selS P js (List.replicate n 0) = 0
    rw [selS_zero P js n]
    by_cases q : P j = true
    · rw [if_pos q]; rfl
    · rw [if_neg q]; rfl
theorem selS_set (P : Job → Bool) : ∀ (js : List Job) (l : List Int) (k : Nat) (x : Int), k < js.length → k < l.length → selS P js (l.set k x) = selS P js l + (if P (jAt js k) = true then x - lAt l k else 0)
  | [], _, _, _, h, _ => absurd h (Nat.not_lt_zero _)
  | _ :: _, [], _, _, _, h => absurd h (Nat.not_lt_zero _)
  | j :: js, y :: l, 0, x, _, _ => by
    show (if P j = true then x else 0) + selS P js l = (if P j = true then y else 0) + selS P js l + (if P j = true then x - y else 0)
    by_cases q : P j = true
    · rw [if_pos q, if_pos q, if_pos q]; omega
    · rw [if_neg q, if_neg q, if_neg q]; omega
  | j :: js, y :: l, k + 1, x, h, h' => by
    have ih := selS_set P js l k x (by simpa using h) (by simpa using h')
    show (if P j = true then y else 0) + selS P js (l.set k x) = (if P j = true then y else 0) + selS P js l + (if P (jAt js k) = true then x - lAt l k else 0)
    rw [ih]
    omega
theorem sel_left {js : List Job} (P : Job → Bool) : ∀ ps : List Piece, GoodAll js ps → selS P js (leftAf js ps) + (ps.map fun p => if P (jAt js p.1.toNat) = true then p.2.2 - p.2.1 else 0).sum = selS P js (lens js) := by
  refine snoc_ind ?_ ?_
  · intro _
    show selS P js (lens js) + 0 = _
    omega
  · intro ps p ih h
    obtain ⟨h1, c⟩ := good_snoc.mp h
    have ih := ih h1
    rw [leftAf_snoc, leftStep, selS_set P js _ _ _ c.pn (by rw [leftAf_len]; exact c.pn), List.map_append, List.sum_append, List.map_cons, List.sum_cons]
    show _ + ((ps.map fun p => if P (jAt js p.1.toNat) = true then p.2.2 - p.2.1 else 0).sum + (_ + 0)) = _
    by_cases q : P (jAt js p.1.toNat) = true
    · rw [if_pos q, if_pos q]
      omega
    · rw [if_neg q, if_neg q]
      omega
theorem sel_ran {js : List Job} {ps : List Piece} (rn : Ran js ps) (P : Job → Bool) : ((js.filter P).map fun j => j.2.1).sum = (ps.map fun p => if P (jAt js p.1.toNat) = true then p.2.2 - p.2.1 else 0).sum := by
  have h := sel_left P ps rn.good
  rw [zeros_of (leftAf_len js ps) rn.done, selS_zero, Int.zero_add] at h
  rw [← selS_lens]
  exact h.symm
/-- a job that ends past its due: the stretch asks too much -/
theorem crowd_much {js : List Job} {ps : List Piece} {e b : Int} (rn : Ran js ps) (hs : AllS js) (c : Crowd js ps e b) {q : Piece} (hq : q ∈ ps) (hd : (jAt js q.1.toNat).2.2 ≤ e) (hl : e < q.2.2) :
    e - b < ((js.filter fun j => decide (b ≤ j.1) && decide (j.2.2 ≤ e)).map fun j => j.2.1).sum := by
  have o := good_ordered ps rn.good
  have cb := c.be
  rw [sel_ran rn]
  have hn : b + ((e - b).toNat : Nat) = e := by omega
  have h1 : ((e - b).toNat : Int) ≤ (ps.map fun p => if (decide (b ≤ (jAt js p.1.toNat).1) && decide ((jAt js p.1.toNat).2.2 ≤ e)) = true then ov b (b + ((e - b).toNat : Nat)) p else 0).sum := by
    refine cov_sum (ps := ps) (P := fun p => decide (b ≤ (jAt js p.1.toNat).1) && decide ((jAt js p.1.toNat).2.2 ≤ e)) (b := b) _ fun t t1 t2 => ?_
    obtain ⟨p, hp, ph, pd⟩ := c.cov t t1 (by omega)
    have := crowd_in rn.good hs c hp pd (.inl (by have := ph.2; omega))
    exact ⟨p, hp, ph, by rw [decide_eq_true this, decide_eq_true pd]; rfl⟩
  rw [hn] at h1
  have h2 : (ps.map fun p => if (decide (b ≤ (jAt js p.1.toNat).1) && decide ((jAt js p.1.toNat).2.2 ≤ e)) = true then ov b e p else 0).sum < (ps.map fun p => if (decide (b ≤ (jAt js p.1.toNat).1) && decide ((jAt js p.1.toNat).2.2 ≤ e)) = true then p.2.2 - p.2.1 else 0).sum := by
    refine sum_lt (y := q) (fun p hp => ?_) hq ?_
    · have := o.all p hp
      by_cases z : (decide (b ≤ (jAt js p.1.toNat).1) && decide ((jAt js p.1.toNat).2.2 ≤ e)) = true
      · rw [if_pos z, if_pos z]
        unfold ov
        omega
      · rw [if_neg z, if_neg z]
        exact Int.le_refl _
    · have := o.all q hq
      have hc := crowd_in rn.good hs c hq hd (.inl (by omega))
      have z : (decide (b ≤ (jAt js q.1.toNat).1) && decide ((jAt js q.1.toNat).2.2 ≤ e)) = true := by rw [decide_eq_true hc, decide_eq_true hd]; rfl
      rw [if_pos z, if_pos z]
      unfold ov
      omega
  omega
/-! the ends -/
theorem ends_ge {js : List Job} : ∀ ps : List Piece, GoodAll js ps → ∀ p ∈ ps, p.2.2 ≤ lAt (endsAf js.length ps) p.1.toNat := by
  refine snoc_ind ?_ ?_
  · intro _ p hp
    cases hp
  · intro ps p ih hg q hq
    obtain ⟨g1, c⟩ := good_snoc.mp hg
    rw [endsAf_snoc, endStep, lAt_set (by rw [endsAf_len]; exact c.pn)]
    have tb := c.tb
    have be := c.be
    rcases List.mem_append.mp hq with hq | hq
    · have h1 := ih g1 q hq
      have h2 := ((good_ordered ps g1).all q hq).2.2
      by_cases e : q.1.toNat = p.1.toNat
      · rw [if_pos e]
        omega
      · rw [if_neg e]
        exact h1
    · rw [List.mem_singleton.mp hq, if_pos rfl]
      exact Int.le_refl _
theorem ends_ex {js : List Job} {k : Nat} : ∀ ps : List Piece, GoodAll js ps → lAt (endsAf js.length ps) k ≠ 0 → ∃ p ∈ ps, p.1.toNat = k ∧ p.2.2 = lAt (endsAf js.length ps) k := by
  refine snoc_ind ?_ ?_
  · intro _ h
    exfalso
    refine h ?_
    show (List.replicate js.length (0 : Int)).getD k 0 = 0
    rw [List.getD_eq_getElem?_getD, List.getElem?_replicate]
    by_cases q : k < js.length
    · rw [if_pos q]; rfl
    · rw [if_neg q]; rfl
  · intro ps p ih hg h
    obtain ⟨g1, c⟩ := good_snoc.mp hg
    rw [endsAf_snoc, endStep, lAt_set (by rw [endsAf_len]; exact c.pn)] at h ⊢
    by_cases e : k = p.1.toNat
    · rw [if_pos e]
      exact ⟨p, List.mem_append_right _ List.mem_cons_self, e.symm, rfl⟩
    · rw [if_neg e] at h ⊢
      obtain ⟨q, hq, h1, h2⟩ := ih g1 h
      exact ⟨q, List.mem_append_left _ hq, h1, h2⟩
/-! ### the answer -/
def dueF (js : List Job) (k : Int) : Int := (jAt js k.toNat).2.2
noncomputable def answerD (js : List Job) : PyData :=
  match lateF js (endsF js) with
  | [] => .tuple [.str (Str.ofString "plan"), jobsD (workedF js)]
  | k :: _ => .tuple [.str (Str.ofString "late"), .int k, .int (crowdF js (workedF js) (dueF js k)), .int (dueF js k)]
/-- a way that meets the jobs -/
def FitsAll (js : List Job) (ps : List Piece) : Prop := (∀ (i : Nat) (p : Piece), ps[i]? = some p → 0 ≤ p.1 ∧ p.1.toNat < js.length ∧ lastE (ps.take i) ≤ p.2.1 ∧ p.2.1 < p.2.2 ∧ (jAt js p.1.toNat).1 ≤ p.2.1 ∧ p.2.2 ≤ (jAt js p.1.toNat).2.2) ∧ ∀ k, lAt (leftAf js ps) k = 0
/-- a late job and a stretch that asks too much -/
def TooMuch (js : List Job) (k b e : Int) : Prop := 0 ≤ k ∧ k.toNat < js.length ∧ 0 ≤ b ∧ b ≤ (jAt js k.toNat).1 ∧ e = (jAt js k.toNat).2.2 ∧ e - b < ((js.filter fun j => decide (b ≤ j.1) && decide (j.2.2 ≤ e)).map fun j => j.2.1).sum
def RightD (js : List Job) (d : PyData) : Prop := (∃ ps, d = .tuple [.str (Str.ofString "plan"), jobsD ps] ∧ FitsAll js ps) ∨ ∃ k b e, d = .tuple [.str (Str.ofString "late"), .int k, .int b, .int e] ∧ TooMuch js k b e
theorem lateF_nil {js : List Job} {es : List Int} (h : lateF js es = []) {k : Nat} (hk : k < js.length) : lAt es k ≤ (jAt js k).2.2 := by
  by_cases q : lAt es k ≤ (jAt js k).2.2
  · exact q
  · exfalso
    have hm : ((jAt js k).2.2, (k : Int)) ∈ lateSrt js es := mem_lateSrt.mpr ⟨k, hk, by omega, rfl⟩
    have : (k : Int) ∈ lateF js es := List.mem_map_of_mem hm
    rw [h] at this
    cases this
theorem plan_fits {js : List Job} (hs : AllS js) (h : lateF js (endsF js) = []) : FitsAll js (workedF js) := by
  have rn := ran hs
  refine ⟨fun i p hp => ?_, rn.done⟩
  have c := rn.good i p hp
  have hm := List.mem_of_getElem? hp
  have h1 := ends_ge _ rn.good p hm
  have h2 := lateF_nil h c.pn
  have h2 : lAt (endsAf js.length (workedF js)) p.1.toNat ≤ (jAt js p.1.toNat).2.2 := h2
  exact ⟨c.p0, c.pn, c.tb, c.be, c.come, by omega⟩
/-- what a late job tells -/
theorem late_facts {js : List Job} (hs : AllS js) {k : Nat} (hk : k < js.length) (hl : (jAt js k).2.2 < lAt (endsF js) k) :
    ∃ q ∈ workedF js, q.1.toNat = k ∧ (jAt js k).2.2 < q.2.2 ∧ Crowd js (workedF js) (jAt js k).2.2 (crowdF js (workedF js) (jAt js k).2.2) := by
  have rn := ran hs
  obtain ⟨s1, s2, s3⟩ := hs _ (jAt_mem hk)
  obtain ⟨q, hq, e1, e2⟩ := ends_ex (k := k) _ rn.good (by
    show lAt (endsF js) k ≠ 0
    omega)
  have e2 : q.2.2 = lAt (endsF js) k := e2
  exact ⟨q, hq, e1, by omega, crowdF_spec (good_ordered _ rn.good) (by omega)⟩
theorem late_much {js : List Job} (hs : AllS js) {k : Nat} (hk : k < js.length) (hl : (jAt js k).2.2 < lAt (endsF js) k) : TooMuch js (k : Int) (crowdF js (workedF js) (jAt js k).2.2) (jAt js k).2.2 := by
  have rn := ran hs
  obtain ⟨q, hq, e1, h2, c⟩ := late_facts hs hk hl
  have hd : (jAt js q.1.toNat).2.2 ≤ (jAt js k).2.2 := by rw [e1]; exact Int.le_refl _
  have c1 := crowd_in rn.good hs c hq hd (.inl (by have := c.be; omega))
  rw [e1] at c1
  refine ⟨by omega, by rw [Int.toNat_natCast]; exact hk, c.b0, by rw [Int.toNat_natCast]; exact c1, by rw [Int.toNat_natCast], crowd_much rn hs c hq hd h2⟩
theorem answer_right {js : List Job} (hs : AllS js) : RightD js (answerD js) := by
  unfold answerD
  generalize hlt : lateF js (endsF js) = ls
  cases ls with
  | nil => exact .inl ⟨_, rfl, plan_fits hs hlt⟩
  | cons k r =>
    have h0 : (lateF js (endsF js))[0]? = some k := by rw [hlt]; rfl
    obtain ⟨m, rfl, hm, hl, _⟩ := lateF_at h0
    have ed : dueF js (m : Int) = (jAt js m).2.2 := by unfold dueF; rw [Int.toNat_natCast]
    dsimp only
    rw [ed]
    exact .inr ⟨_, _, _, rfl, late_much hs hm hl⟩
theorem answerD_plan {js : List Job} (h : lateF js (endsF js) = []) : answerD js = .tuple [.str (Str.ofString "plan"), jobsD (workedF js)] := by
  unfold answerD
  rw [h]
/-! ### dues made later -/
def laterF (js : List Job) (m : Int) : List Job := js.map fun j => (j.1, j.2.1, j.2.2 + m)
theorem laterF_len (js : List Job) (m : Int) : (laterF js m).length = js.length := List.length_map _
theorem jAt_later {js : List Job} {m : Int} {k : Nat} (h : k < js.length) : jAt (laterF js m) k = ((jAt js k).1, (jAt js k).2.1, (jAt js k).2.2 + m) := by
  refine jAt_of ?_
  rw [laterF, List.getElem?_map, getD_some (d := J0) h]
  rfl
theorem laterF_snd {js : List Job} {m : Int} (hs : AllS js) (h : 0 ≤ m) : AllS (laterF js m) := fun j hj => by
  obtain ⟨i, hi, rfl⟩ := List.mem_map.mp hj
  obtain ⟨h1, h2, h3⟩ := hs i hi
  exact ⟨h1, h2, by show i.1 < i.2.2 + m; omega⟩
theorem nearUp_later {js : List Job} {m : Int} {left : List Int} {t : Int} : ∀ n, n ≤ js.length → nearUp (laterF js m) left t n = nearUp js left t n
  | 0, _ => rfl
  | n + 1, h => by
    have ih := nearUp_later (js := js) (m := m) (left := left) (t := t) n (by omega)
    show nearStep (laterF js m) left t (nearUp (laterF js m) left t n) n = nearStep js left t (nearUp js left t n) n
    rw [ih]
    unfold nearStep
    rw [jAt_later (by omega)]
    by_cases q : (jAt js n).1 ≤ t ∧ 0 < lAt left n
    · rw [if_pos q, if_pos q]
      cases hb : nearUp js left t n with
      | none => rfl
      | some p =>
        have hp := nearUp_lt hb
        dsimp only
        rw [jAt_later (by omega)]
        by_cases c : (jAt js n).2.2 < (jAt js p).2.2
        · rw [if_pos c, if_pos (by show (jAt js n).2.2 + m < (jAt js p).2.2 + m; omega)]
        · rw [if_neg c, if_neg (by show ¬ (jAt js n).2.2 + m < (jAt js p).2.2 + m; omega)]
    · rw [if_neg q, if_neg q]
theorem nearF_later {js : List Job} {m : Int} {left : List Int} {t : Int} : nearF (laterF js m) left t = nearF js left t := by
  unfold nearF
  rw [laterF_len]
  exact nearUp_later _ (Nat.le_refl _)
theorem upF_later {js : List Job} {m t : Int} : upF (laterF js m) t = upF js t := by
  unfold upF laterF
  rw [List.foldl_map]
  rfl
theorem wStep_later {js : List Job} {m : Int} (w : WS) : wStep (laterF js m) w = wStep js w := by
  unfold wStep
  rw [nearF_later, upF_later]
theorem lens_later {js : List Job} {m : Int} : lens (laterF js m) = lens js := by
  unfold lens laterF
  rw [List.map_map]
  rfl
theorem wIter_later {js : List Job} {m : Int} : wIter (laterF js m) = wIter js := by
  funext n
  induction n with
  | zero =>
    show (lens (laterF js m), _, _) = (lens js, _, _)
    rw [lens_later]
  | succ n ih =>
    show wStep (laterF js m) (wIter (laterF js m) n) = wStep js (wIter js n)
    rw [ih, wStep_later]
theorem worked_later {js : List Job} {m : Int} : workedF (laterF js m) = workedF js := by
  unfold workedF wN
  rw [wIter_later]
theorem endsF_later {js : List Job} {m : Int} : endsF (laterF js m) = endsF js := by
  unfold endsF
  rw [worked_later, laterF_len]
def needUp (js : List Job) (es : List Int) : Nat → Int
  | 0 => 0
  | n + 1 => max (needUp js es n) (lAt es n - (jAt js n).2.2)
theorem needUp_spec (js : List Job) (es : List Int) : ∀ n, 0 ≤ needUp js es n ∧ (∀ k, k < n → lAt es k - (jAt js k).2.2 ≤ needUp js es n) ∧ (0 < needUp js es n → ∃ k, k < n ∧ lAt es k - (jAt js k).2.2 = needUp js es n)
  | 0 => ⟨Int.le_refl _, fun k h => absurd h (Nat.not_lt_zero k), fun h => absurd h (Int.lt_irrefl _)⟩
  | n + 1 => by
    obtain ⟨h1, h2, h3⟩ := needUp_spec js es n
    unfold needUp
    refine ⟨by omega, fun k hk => ?_, fun hp => ?_⟩
    · by_cases e : k = n
      · subst e
        omega
      · have := h2 k (by omega)
        omega
    · by_cases q : needUp js es n ≤ lAt es n - (jAt js n).2.2
      · exact ⟨n, Nat.lt_succ_self n, by omega⟩
      · obtain ⟨k, hk, e⟩ := h3 (by omega)
        exact ⟨k, by omega, by omega⟩
noncomputable def needF (js : List Job) : Int := needUp js (endsF js) js.length
theorem needF_spec {js : List Job} (hs : AllS js) : 0 ≤ needF js ∧ (AllS (laterF js (needF js)) ∧ lateF (laterF js (needF js)) (endsF (laterF js (needF js))) = []) ∧
    (0 < needF js → AllS (laterF js (needF js - 1)) ∧ ∃ k b e, answerD (laterF js (needF js - 1)) = .tuple [.str (Str.ofString "late"), .int k, .int b, .int e]) := by
  obtain ⟨h1, h2, h3⟩ := needUp_spec js (endsF js) js.length
  refine ⟨h1, ⟨laterF_snd hs h1, ?_⟩, fun hp => ⟨laterF_snd hs (by omega), ?_⟩⟩
  · cases e : lateF (laterF js (needF js)) (endsF (laterF js (needF js))) with
    | nil => rfl
    | cons a r =>
      exfalso
      obtain ⟨k, _, hk, hl, _⟩ := lateF_at (i := 0) (a := a) (by rw [e]; rfl)
      rw [laterF_len] at hk
      rw [jAt_later hk, endsF_later] at hl
      have := h2 k hk
      have hl : (jAt js k).2.2 + needUp js (endsF js) js.length < lAt (endsF js) k := hl
      omega
  · obtain ⟨k, hk, e⟩ := h3 hp
    unfold answerD
    cases hc : lateF (laterF js (needF js - 1)) (endsF (laterF js (needF js - 1))) with
    | nil =>
      exfalso
      have := lateF_nil hc (k := k) (by rw [laterF_len]; exact hk)
      rw [jAt_later hk, endsF_later] at this
      have this : lAt (endsF js) k ≤ (jAt js k).2.2 + (needUp js (endsF js) js.length - 1) := this
      omega
    | cons a r => exact ⟨_, _, _, rfl⟩
/-! ### the answer, told by the run -/
theorem good_take {js : List Job} {ps : List Piece} (h : GoodAll js ps) (n : Nat) : GoodAll js (ps.take n) := fun i p hp => by
  rw [List.getElem?_take] at hp
  by_cases q : i < n
  · rw [if_pos q] at hp
    rw [List.take_take, Nat.min_eq_left (by omega)]
    exact h i p hp
  · rw [if_neg q] at hp
    cases hp
theorem lastE_ge {js : List Job} {ps : List Piece} (h : GoodAll js ps) {i : Nat} {p q : Piece} (hp : ps[i]? = some p) (hq : q ∈ ps) (hl : q.2.1 < p.2.1) : q.2.2 ≤ lastE (ps.take i) := by
  have o := good_ordered ps h
  obtain ⟨j, hj, e⟩ := List.getElem_of_mem hq
  obtain ⟨hi, e2⟩ := List.getElem?_eq_some_iff.mp hp
  have pw := List.pairwise_iff_getElem.mp o.pw
  have hji : j < i := by
    rcases Nat.lt_trichotomy i j with l | l | l
    · have := pw i j hi hj l
      rw [e, e2] at this
      have := (o.all p (List.mem_of_getElem? hp)).2.1
      omega
    · subst l
      rw [e] at e2
      rw [e2] at hl
      omega
    · exact l
  refine ((good_ordered _ (good_take h i)).all q ?_).2.2
  refine List.mem_of_getElem? (i := j) ?_
  rw [List.getElem?_take, if_pos hji, List.getElem?_eq_getElem hj, e]
def Cov (js : List Job) (ps : List Piece) (b e : Int) : Prop := b < e ∧ 0 ≤ b ∧ GoodAll js ps ∧ ∀ t, b ≤ t → t < e → ∃ p ∈ ps, Piece.has p t ∧ (jAt js p.1.toNat).2.2 ≤ e
def clampF (b e x : Int) : Int := max b (min e x)
theorem within_hit {js : List Job} {ps : List Piece} {b e : Int} (h : Cov js ps b e) {i : Nat} {p : Piece} (hp : ps[i]? = some p) (h1 : b < p.2.2) (h2 : p.2.1 < e) :
    max p.2.1 b = clampF b e (lastE (ps.take i)) ∧ (jAt js p.1.toNat).2.2 ≤ e := by
  obtain ⟨hb, _, hg, hc⟩ := h
  have o := good_ordered ps hg
  have hm := List.mem_of_getElem? hp
  have hall := o.all p hm
  have c := hg i p hp
  have tb := c.tb
  refine ⟨?_, ?_⟩
  · unfold clampF
    by_cases q : p.2.1 ≤ b
    · omega
    · obtain ⟨p', m', ⟨g1, g2⟩, _⟩ := hc (p.2.1 - 1) (by omega) (by omega)
      have := lastE_ge hg hp m' (by omega)
      omega
  · obtain ⟨p', m', g1, g2⟩ := hc (max p.2.1 b) (by omega) (by omega)
    have : p = p' := has_uniq o hm m' (t := max p.2.1 b) ⟨by omega, by omega⟩ g1
    rw [this]
    exact g2
theorem within_miss {js : List Job} {ps : List Piece} {b e : Int} (h : Cov js ps b e) {i : Nat} {p : Piece} (hp : ps[i]? = some p) (h1 : ¬ (b < p.2.2 ∧ p.2.1 < e)) : clampF b e p.2.2 = clampF b e (lastE (ps.take i)) := by
  obtain ⟨hb, _, hg, hc⟩ := h
  have o := good_ordered ps hg
  have hm := List.mem_of_getElem? hp
  have hall := o.all p hm
  have tb := (hg i p hp).tb
  unfold clampF
  by_cases q : b < p.2.2
  · obtain ⟨p', m', ⟨g1, g2⟩, _⟩ := hc (e - 1) (by omega) (by omega)
    have := lastE_ge hg hp m' (by omega)
    omega
  · omega
theorem within_end {js : List Job} {ps : List Piece} {b e : Int} (h : Cov js ps b e) : clampF b e (lastE ps) = e := by
  obtain ⟨hb, _, hg, hc⟩ := h
  obtain ⟨p', m', ⟨g1, g2⟩, _⟩ := hc (e - 1) (by omega) (by omega)
  have := ((good_ordered ps hg).all p' m').2.2
  unfold clampF
  omega
theorem crowd_ahead {js : List Job} {ps : List Piece} {e b : Int} (hg : GoodAll js ps) (c : Crowd js ps e b) (hb : b < e) {p : Piece} (hp : p ∈ ps) (h1 : p.2.1 < b) (h2 : b ≤ p.2.2) : p.2.2 = b ∧ e < (jAt js p.1.toNat).2.2 := by
  have o := good_ordered ps hg
  rcases c.stop with st | ⟨p', hp', g1, g2, g3⟩
  · have := st p hp
    omega
  · have e1 : p = p' := has_uniq o hp hp' (t := b - 1) ⟨by omega, by omega⟩ ⟨by omega, by omega⟩
    subst e1
    refine ⟨?_, g3⟩
    obtain ⟨q, hq, ⟨k1, k2⟩, k3⟩ := c.cov b (Int.le_refl _) hb
    by_cases z : p.2.2 = b
    · exact z
    · exfalso
      have e2 : p = q := has_uniq o hp hq (t := b) ⟨by omega, by omega⟩ ⟨k1, k2⟩
      subst e2
      omega
theorem left_none {js : List Job} {k : Nat} : ∀ ps : List Piece, GoodAll js ps → (∀ p ∈ ps, p.1.toNat ≠ k) → lAt (leftAf js ps) k = lAt (lens js) k := by
  refine snoc_ind ?_ ?_
  · intro _ _
    rfl
  · intro ps p ih hg h
    obtain ⟨g1, c⟩ := good_snoc.mp hg
    rw [leftAf_snoc, leftStep, lAt_set (by rw [leftAf_len]; exact c.pn), if_neg (fun e => h p (List.mem_append_right _ List.mem_cons_self) e.symm)]
    exact ih g1 fun q hq => h q (List.mem_append_left _ hq)
/-- each job's end is the greatest of its pieces' ends -/
theorem ends_max {js : List Job} (hs : AllS js) {k : Nat} (hk : k < js.length) : lAt (endsF js) k ∈ ((workedF js).filter fun p => decide (p.1 = (k : Int))).map (fun p => p.2.2) ∧ ∀ y ∈ ((workedF js).filter fun p => decide (p.1 = (k : Int))).map (fun p => p.2.2), y ≤ lAt (endsF js) k := by
  have rn := ran hs
  have hz : ∃ p ∈ workedF js, p.1.toNat = k := by
    by_cases q : ∃ p ∈ workedF js, p.1.toNat = k
    · exact q
    · exfalso
      have h := left_none (k := k) _ rn.good fun p hp e => q ⟨p, hp, e⟩
      rw [rn.done, lAt_lens hk] at h
      have := (hs _ (jAt_mem hk)).2.1
      omega
  obtain ⟨p, hp, e⟩ := hz
  have h1 := ends_ge _ rn.good p hp
  rw [e] at h1
  have h1 : p.2.2 ≤ lAt (endsF js) k := h1
  have h2 := (good_ordered _ rn.good).all p hp
  obtain ⟨q, hq, e1, e2⟩ := ends_ex (k := k) _ rn.good (by show lAt (endsF js) k ≠ 0; omega)
  refine ⟨List.mem_map.mpr ⟨q, List.mem_filter.mpr ⟨hq, decide_eq_true ?_⟩, e2⟩, fun y hy => ?_⟩
  · have := (good_places rn.good q hq).1
    omega
  · obtain ⟨r, hr, rfl⟩ := List.mem_map.mp hy
    obtain ⟨hr, e3⟩ := List.mem_filter.mp hr
    have e3 := of_decide_eq_true e3
    have h3 := ends_ge _ rn.good r hr
    rw [e3, Int.toNat_natCast] at h3
    exact h3
/-- the late one due first, of several at the least place -/
def lateStep (js : List Job) (es : List Int) (b : Option Nat) (i : Nat) : Option Nat :=
  if (jAt js i).2.2 < lAt es i then
    match b with
    | none => some i
    | some p => if (jAt js i).2.2 < (jAt js p).2.2 then some i else some p
  else b
def lateUp (js : List Job) (es : List Int) : Nat → Option Nat
  | 0 => none
  | n + 1 => lateStep js es (lateUp js es n) n
def LateSpec (js : List Job) (es : List Int) (n : Nat) : Option Nat → Prop
  | none => ∀ i, i < n → ¬ (jAt js i).2.2 < lAt es i
  | some p => p < n ∧ (jAt js p).2.2 < lAt es p ∧ ∀ i, i < n → (jAt js i).2.2 < lAt es i → Fst js p i
theorem lateUp_spec (js : List Job) (es : List Int) : ∀ n, LateSpec js es n (lateUp js es n)
  | 0 => fun i h => absurd h (Nat.not_lt_zero i)
  | n + 1 => by
    have ih := lateUp_spec js es n
    show LateSpec js es (n + 1) (lateStep js es (lateUp js es n) n)
    generalize lateUp js es n = b at ih
    unfold lateStep
    by_cases q : (jAt js n).2.2 < lAt es n
    · rw [if_pos q]
      cases b with
      | none =>
        refine ⟨Nat.lt_succ_self n, q, fun i hi ht => ?_⟩
        by_cases e : i = n
        · subst e
          exact .inr ⟨rfl, Nat.le_refl _⟩
        · exact absurd ht (ih i (by omega))
      | some p =>
        obtain ⟨h1, h2, h3⟩ := ih
        dsimp only
        by_cases c : (jAt js n).2.2 < (jAt js p).2.2
        · rw [if_pos c]
          refine ⟨Nat.lt_succ_self n, q, fun i hi ht => ?_⟩
          by_cases e : i = n
          · subst e
            exact .inr ⟨rfl, Nat.le_refl _⟩
          · have := h3 i (by omega) ht
            rcases this with z | ⟨z, _⟩
            · exact .inl (by omega)
            · exact .inl (by omega)
        · rw [if_neg c]
          refine ⟨by omega, h2, fun i hi ht => ?_⟩
          by_cases e : i = n
          · subst e
            by_cases c2 : (jAt js p).2.2 = (jAt js i).2.2
            · exact .inr ⟨c2, by omega⟩
            · exact .inl (by omega)
          · exact h3 i (by omega) ht
    · rw [if_neg q]
      cases b with
      | none =>
        intro i hi
        by_cases e : i = n
        · subst e
          exact q
        · exact ih i (by omega)
      | some p =>
        obtain ⟨h1, h2, h3⟩ := ih
        refine ⟨by omega, h2, fun i hi ht => ?_⟩
        by_cases e : i = n
        · subst e
          exact absurd ht q
        · exact h3 i (by omega) ht
theorem lateUp_lt {js : List Job} {es : List Int} {n p : Nat} (h : lateUp js es n = some p) : p < n := by
  have := lateUp_spec js es n
  rw [h] at this
  exact this.1
theorem lateUp_none {js : List Job} {es : List Int} (h : lateUp js es js.length = none) : lateF js es = [] := by
  have sp := lateUp_spec js es js.length
  rw [h] at sp
  cases e : lateF js es with
  | nil => rfl
  | cons a r =>
    exfalso
    obtain ⟨k, _, hk, hl, _⟩ := lateF_at (js := js) (es := es) (i := 0) (a := a) (by rw [e]; rfl)
    exact sp k hk hl
theorem lateUp_some {js : List Job} {es : List Int} {p : Nat} (h : lateUp js es js.length = some p) : p < js.length ∧ (jAt js p).2.2 < lAt es p ∧ ∃ r, lateF js es = (p : Int) :: r := by
  have sp := lateUp_spec js es js.length
  rw [h] at sp
  obtain ⟨h1, h2, h3⟩ := sp
  refine ⟨h1, h2, ?_⟩
  have hm : ((jAt js p).2.2, (p : Int)) ∈ lateSrt js es := mem_lateSrt.mpr ⟨p, h1, h2, rfl⟩
  have pw := lateSrt_pw js es
  have hmm := @mem_lateSrt js es
  unfold lateF
  generalize lateSrt js es = l at *
  cases l with
  | nil => cases hm
  | cons x r =>
    refine ⟨r.map (·.2), ?_⟩
    obtain ⟨k, k1, k2, rfl⟩ := hmm.mp List.mem_cons_self
    have f1 := h3 k k1 k2
    have f2 : (jAt js k).2.2 < (jAt js p).2.2 ∨ ((jAt js k).2.2 = (jAt js p).2.2 ∧ (k : Int) ≤ (p : Int)) := by
      rcases List.mem_cons.mp hm with e | hm
      · have e1 := (Prod.mk.inj e).1
        have e2 := (Prod.mk.inj e).2
        exact .inr ⟨e1.symm, by omega⟩
      · have := (List.pairwise_cons.mp pw).1 _ hm
        rw [SrtO.lexB_no] at this
        omega
    have : k = p := by
      rcases f1 with f1 | ⟨f1, f3⟩ <;> omega
    subst this
    rfl
end DL

namespace DL
open PySem L2
/-! ### ways looked at -/
def Fit (js : List Job) (t : Int) (p : Piece) : Prop := (0 ≤ p.1 ∧ p.1 < js.length) ∧ (t ≤ p.2.1 ∧ p.2.1 < p.2.2) ∧ (jAt js p.1.toNat).1 ≤ p.2.1 ∧ p.2.2 ≤ (jAt js p.1.toNat).2.2
instance (js : List Job) (t : Int) (p : Piece) : Decidable (Fit js t p) := inferInstanceAs (Decidable ((0 ≤ p.1 ∧ p.1 < js.length) ∧ (t ≤ p.2.1 ∧ p.2.1 < p.2.2) ∧ (jAt js p.1.toNat).1 ≤ p.2.1 ∧ p.2.2 ≤ (jAt js p.1.toNat).2.2))
def walkB (js : List Job) : Int → List Piece → Bool
  | _, [] => true
  | t, p :: r => if Fit js t p then walkB js p.2.2 r else false
def sumOf (way : List Piece) (k : Nat) : Int := ((way.filter fun p => decide (p.1 = (k : Int))).map fun p => p.2.2 - p.2.1).sum
def firstB : List Piece → Int
  | [] => 0
  | p :: _ => p.2.1
def allB (js : List Job) (way : List Piece) : Bool := decide (∀ k ∈ List.range js.length, sumOf way k = (jAt js k).2.1)
def meetsB (js : List Job) (way : List Piece) : Bool := if walkB js 0 way = true then decide (leftAf js way = List.replicate js.length 0) else false
def dueB (js : List Job) (way : List Piece) : Bool := if walkB js (firstB way) way = true then allB js way else false
theorem walk_places {js : List Job} : ∀ (way : List Piece) (t : Int), walkB js t way = true → PlacesIn js.length way
  | [], _, _ => fun p hp => by cases hp
  | p :: r, t, h => by
    unfold walkB at h
    by_cases q : Fit js t p
    · rw [if_pos q] at h
      intro x hx
      rcases List.mem_cons.mp hx with e | hx
      · rw [e]
        obtain ⟨⟨h1, h2⟩, _⟩ := q
        exact ⟨h1, by omega⟩
      · exact walk_places r _ h x hx
    · rw [if_neg q] at h
      cases h
theorem walk_first {js : List Job} (hs : AllS js) : ∀ way : List Piece, walkB js 0 way = walkB js (firstB way) way
  | [] => rfl
  | p :: r => by
    show (if Fit js 0 p then walkB js p.2.2 r else false) = (if Fit js p.2.1 p then walkB js p.2.2 r else false)
    have e : Fit js 0 p ↔ Fit js p.2.1 p := by
      constructor
      · rintro ⟨h1, ⟨_, h2⟩, h3⟩
        exact ⟨h1, ⟨Int.le_refl _, h2⟩, h3⟩
      · rintro ⟨⟨h1, h1'⟩, ⟨_, h2⟩, h3, h4⟩
        have := (hs _ (jAt_mem (i := p.1.toNat) (by omega))).1
        exact ⟨⟨h1, h1'⟩, ⟨by omega, h2⟩, h3, h4⟩
    by_cases q : Fit js 0 p
    · rw [if_pos q, if_pos (e.mp q)]
    · rw [if_neg q, if_neg (fun z => q (e.mpr z))]
theorem left_sum {js : List Job} {k : Nat} (hk : k < js.length) : ∀ ps : List Piece, PlacesIn js.length ps → lAt (leftAf js ps) k = (jAt js k).2.1 - sumOf ps k := by
  refine snoc_ind ?_ ?_
  · intro _
    show lAt (lens js) k = _ - 0
    rw [lAt_lens hk]
    omega
  · intro ps p ih h
    have ih := ih fun q hq => h q (List.mem_append_left _ hq)
    obtain ⟨p0, pn⟩ := h p (List.mem_append_right _ List.mem_cons_self)
    rw [leftAf_snoc, leftStep, lAt_set (by rw [leftAf_len]; exact pn)]
    unfold sumOf
    rw [List.filter_append, List.map_append, List.sum_append]
    have ih : lAt (leftAf js ps) k = (jAt js k).2.1 - ((ps.filter fun p => decide (p.1 = (k : Int))).map fun p => p.2.2 - p.2.1).sum := ih
    by_cases e : k = p.1.toNat
    · rw [if_pos e]
      have e2 : p.1 = (k : Int) := by omega
      rw [List.filter_cons_of_pos (by exact decide_eq_true e2)]
      show _ = _ - (_ + ((p.2.2 - p.2.1) + 0))
      rw [← e, ih]
      omega
    · rw [if_neg e]
      have e2 : ¬ p.1 = (k : Int) := by omega
      rw [List.filter_cons_of_neg (by simpa using e2)]
      show _ = _ - (_ + 0)
      rw [ih]
      omega
theorem meets_due {js : List Job} (hs : AllS js) (way : List Piece) : meetsB js way = dueB js way := by
  unfold meetsB dueB
  rw [← walk_first hs]
  by_cases q : walkB js 0 way = true
  · rw [if_pos q, if_pos q]
    have hp := walk_places way 0 q
    unfold allB
    refine decide_eq_decide.mpr ⟨fun h k hk => ?_, fun h => zeros_of (leftAf_len js way) fun i => ?_⟩
    · have hk := List.mem_range.mp hk
      have := left_sum hk way hp
      rw [h] at this
      have hz : lAt (List.replicate js.length (0 : Int)) k = 0 := by
        show (List.replicate js.length (0 : Int)).getD k 0 = 0
        rw [List.getD_eq_getElem?_getD, List.getElem?_replicate, if_pos hk]
        rfl
      omega
    · by_cases hk : i < js.length
      · have := left_sum hk way hp
        have := h i (List.mem_range.mpr hk)
        omega
      · show (leftAf js way).getD i 0 = 0
        rw [List.getD_eq_getElem?_getD, List.getElem?_eq_none (by rw [leftAf_len]; omega)]
        rfl
  · rw [if_neg q, if_neg q]
/-! ### the ways that are handed in -/
def pbCell (ns : List Int) (k : Nat) : Int := if 12 ≤ (k : Int) then (cellAt ns 3 + (k : Int)) * 48271 % 2147483647 else cellAt ns (4 + (k : Int))
def pbPlace (ns : List Int) (count : Int) (k : Nat) : Int := if count ≤ (k : Int) then pbCell ns k / 12 % count else (k : Int)
def pbBegin (ns : List Int) (wide t : Int) (k : Nat) : Int := t + pbCell ns k % 3 * wide
def pbEnd (ns : List Int) (wide t : Int) (k : Nat) : Int := pbBegin ns wide t k + (1 + pbCell ns k / 3 % 4) * wide
def pbUp (ns : List Int) (count wide : Int) : Nat → List Piece × Int
  | 0 => ([], 0)
  | k + 1 => ((pbUp ns count wide k).1 ++ [(pbPlace ns count k, pbBegin ns wide (pbUp ns count wide k).2 k, pbEnd ns wide (pbUp ns count wide k).2 k)], pbEnd ns wide (pbUp ns count wide k).2 k)
structure PbInv (count : Int) (n : Nat) (s : List Piece × Int) : Prop where
  len : s.1.length = n
  t0 : 0 ≤ s.2
  pw : s.1.Pairwise fun p q => p.2.2 ≤ q.2.1
  all : ∀ p ∈ s.1, 0 ≤ p.1 ∧ p.1 < count ∧ 0 ≤ p.2.1 ∧ p.2.1 < p.2.2 ∧ p.2.2 ≤ s.2
  own : ∀ k : Nat, k < n → (k : Int) < count → ∃ p ∈ s.1, p.1 = (k : Int)
theorem pb_inv (ns : List Int) {count wide : Int} (hc : 0 < count) (hw : 1 ≤ wide) : ∀ n, PbInv count n (pbUp ns count wide n)
  | 0 => ⟨rfl, Int.le_refl _, List.Pairwise.nil, fun p hp => (List.not_mem_nil hp).elim, fun k hk => absurd hk (Nat.not_lt_zero k)⟩
  | n + 1 => by
    obtain ⟨h1, h2, h3, h4, h5⟩ := pb_inv ns hc hw n
    have b0 : (0 : Int) ≤ pbCell ns n % 3 * wide := Int.mul_nonneg (by omega) (by omega)
    have b1 : (0 : Int) < (1 + pbCell ns n / 3 % 4) * wide := Int.mul_pos (by omega) (by omega)
    have b2 : 0 ≤ pbPlace ns count n ∧ pbPlace ns count n < count := by
      unfold pbPlace
      by_cases q : count ≤ (n : Int)
      · rw [if_pos q]
        exact ⟨Int.emod_nonneg _ (by omega), Int.emod_lt_of_pos _ hc⟩
      · rw [if_neg q]
        omega
    have b3 : pbBegin ns wide (pbUp ns count wide n).2 n = (pbUp ns count wide n).2 + pbCell ns n % 3 * wide := rfl
    have b4 : pbEnd ns wide (pbUp ns count wide n).2 n = pbBegin ns wide (pbUp ns count wide n).2 n + (1 + pbCell ns n / 3 % 4) * wide := rfl
    have e : pbUp ns count wide (n + 1) = ((pbUp ns count wide n).1 ++ [(pbPlace ns count n, pbBegin ns wide (pbUp ns count wide n).2 n, pbEnd ns wide (pbUp ns count wide n).2 n)], pbEnd ns wide (pbUp ns count wide n).2 n) := rfl
    rw [e]
    have hpl : (n : Int) < count → pbPlace ns count n = (n : Int) := fun z => by
      unfold pbPlace
      rw [if_neg (by omega)]
    generalize pbUp ns count wide n = s at *
    refine ⟨by rw [List.length_append, h1]; rfl, by show 0 ≤ pbEnd ns wide s.2 n; omega, ?_, fun p hp => ?_, fun k hk hkc => ?_⟩
    · show (s.1 ++ [_]).Pairwise _
      rw [List.pairwise_append]
      refine ⟨h3, List.pairwise_singleton _ _, fun a ha b hb => ?_⟩
      rw [List.mem_singleton.mp hb]
      have := h4 a ha
      show a.2.2 ≤ pbBegin ns wide s.2 n
      omega
    · have hp : p ∈ s.1 ++ [(pbPlace ns count n, pbBegin ns wide s.2 n, pbEnd ns wide s.2 n)] := hp
      show _ ∧ _ ∧ _ ∧ _ ∧ p.2.2 ≤ pbEnd ns wide s.2 n
      rcases List.mem_append.mp hp with hp | hp
      · have := h4 p hp
        omega
      · rw [List.mem_singleton.mp hp]
        dsimp only
        omega
    · by_cases z : k < n
      · obtain ⟨p, hp, e2⟩ := h5 k z hkc
        exact ⟨p, List.mem_append_left _ hp, e2⟩
      · have : k = n := by omega
        subst this
        exact ⟨_, List.mem_append_right _ List.mem_cons_self, hpl hkc⟩
abbrev P0 : Piece := (0, 0, 1)
def ownOf (ps : List Piece) (k : Nat) : List Piece := ps.filter fun p => decide (p.1 = (k : Int))
def jobOf (ps : List Piece) (cell wide : Int) (k : Nat) : Job := (max 0 (((ownOf ps k).headD P0).2.1 - (cell + (k : Int)) % 3 * wide), sumOf ps k, ((ownOf ps k).getLastD P0).2.2 + (cell / 3 + (k : Int)) % 3 * wide)
def jobsOf (ps : List Piece) (cell wide : Int) (n : Nat) : List Job := (List.range n).map (jobOf ps cell wide)
theorem sum_pos : ∀ l : List Int, (∀ x ∈ l, 1 ≤ x) → 0 ≤ l.sum ∧ (l ≠ [] → 1 ≤ l.sum)
  | [], _ => ⟨Int.le_refl _, fun h => absurd rfl h⟩
  | a :: l, h => by
    have := (sum_pos l fun x hx => h x (List.mem_cons_of_mem _ hx)).1
    have := h a List.mem_cons_self
    rw [List.sum_cons]
    exact ⟨by omega, fun _ => by omega⟩
theorem own_ne {count : Int} {n : Nat} {s : List Piece × Int} (h : PbInv count n s) {k : Nat} (hk : k < n) (hc : (k : Int) < count) : ownOf s.1 k ≠ [] := fun e => by
  obtain ⟨p, hp, e2⟩ := h.own k hk hc
  have : p ∈ ownOf s.1 k := List.mem_filter.mpr ⟨hp, decide_eq_true e2⟩
  rw [e] at this
  cases this
theorem head_last {l : List Piece} (h : l ≠ []) (pw : l.Pairwise fun p q => p.2.2 ≤ q.2.1) (ha : ∀ p ∈ l, 0 ≤ p.2.1 ∧ p.2.1 < p.2.2) : 0 ≤ (l.headD P0).2.1 ∧ (l.headD P0).2.1 < (l.getLastD P0).2.2 := by
  cases l with
  | nil => exact absurd rfl h
  | cons a r =>
    have h1 := ha a List.mem_cons_self
    refine ⟨h1.1, ?_⟩
    show a.2.1 < ((a :: r).getLastD P0).2.2
    rcases List.eq_nil_or_concat r with e | ⟨r', b, e⟩
    · subst e
      exact h1.2
    · rw [List.concat_eq_append] at e
      subst e
      have hb : ((a :: (r' ++ [b])).getLastD P0) = b := by
        rw [List.getLastD_eq_getLast?, ← List.cons_append, List.getLast?_concat]
        rfl
      rw [hb]
      have := (List.pairwise_cons.mp pw).1 b (List.mem_append_right _ List.mem_cons_self)
      have := ha b (List.mem_cons_of_mem _ (List.mem_append_right _ List.mem_cons_self))
      omega
theorem jobsOf_snd {count cell wide : Int} {n : Nat} {s : List Piece × Int} (h : PbInv count n s) (hn : count.toNat ≤ n) (hw : 1 ≤ wide) : AllS (jobsOf s.1 cell wide count.toNat) := fun j hj => by
  obtain ⟨k, hk, rfl⟩ := List.mem_map.mp hj
  have hk := List.mem_range.mp hk
  have hne := own_ne h (k := k) (by omega) (by omega)
  have hsub : ∀ p ∈ ownOf s.1 k, p ∈ s.1 := fun p hp => (List.mem_filter.mp hp).1
  obtain ⟨a1, a2⟩ := head_last hne (List.Pairwise.filter _ h.pw) fun p hp => by have := h.all p (hsub p hp); omega
  have b1 : (0 : Int) ≤ (cell + (k : Int)) % 3 * wide := Int.mul_nonneg (by omega) (by omega)
  have b2 : (0 : Int) ≤ (cell / 3 + (k : Int)) % 3 * wide := Int.mul_nonneg (by omega) (by omega)
  have b3 : 1 ≤ sumOf s.1 k := by
    refine (sum_pos _ fun x hx => ?_).2 ?_
    · obtain ⟨p, hp, rfl⟩ := List.mem_map.mp hx
      have := h.all p (hsub p hp)
      omega
    · intro e
      exact hne (List.map_eq_nil_iff.mp e)
  unfold jobOf
  refine ⟨by dsimp only; omega, b3, ?_⟩
  dsimp only
  omega
theorem jobsOf_len (ps : List Piece) (cell wide : Int) (n : Nat) : (jobsOf ps cell wide n).length = n := by
  unfold jobsOf
  rw [List.length_map, List.length_range]
/-- one piece off -/
def spOthers (count cell : Int) (p : Piece) : List Piece :=
  [(p.1, p.2.1 + 1, p.2.2), (p.1, p.2.1 - 1, p.2.2), (p.1, p.2.1, p.2.2 + 1), (p.1, p.2.1, p.2.2 - 1), (if cell / 81 % 2 = 0 then (p.1 + cell / 162) % (count + 2) - 1 else p.1 - count, p.2.1, p.2.2), (p.1, p.2.1 + 1, p.2.2 + 1)]
def spoilt (ps : List Piece) (cell count : Int) : List Piece :=
  let n := (cell / 9 % ps.length).toNat
  let p := ps.getD n P0
  if cell % 9 < 6 then ps.take n ++ [(spOthers count cell p).getD (cell % 9).toNat P0] ++ ps.drop (n + 1)
  else if cell % 9 = 6 then ps.take n ++ ps.drop (n + 1)
  else if cell % 9 = 7 then ps.take n ++ [p, (p.1, p.2.2, p.2.2)] ++ ps.drop (n + 1)
  else [p] ++ ps.take n ++ ps.drop (n + 1)
/-- one job off -/
def offOthers (j : Job) : List Job :=
  [(j.1 + 1, j.2.1, j.2.2 + 1), (j.1, j.2.1 + 1, j.2.2), (j.1, max 1 (j.2.1 - 1), j.2.2), (j.1, j.2.1, max (j.1 + 1) (j.2.2 - 1)), (j.1, j.2.1, max (j.1 + 1) (j.2.2 - 2))]
def jobOff (js : List Job) (cell : Int) : List Job :=
  js.set (cell / 5 % js.length).toNat ((offOthers (jAt js (cell / 5 % js.length).toNat)).getD (cell % 5).toNat J0)
theorem off_snd {j x : Job} (h : Snd j) (hx : x ∈ offOthers j) : Snd x := by
  obtain ⟨h1, h2, h3⟩ := h
  unfold offOthers at hx
  simp only [List.mem_cons, List.not_mem_nil, or_false] at hx
  rcases hx with e | e | e | e | e <;> subst e <;> refine ⟨?_, ?_, ?_⟩ <;> dsimp only <;> omega
theorem jobOff_snd {js : List Job} {cell : Int} (hs : AllS js) (hn : js ≠ []) : AllS (jobOff js cell) := fun j hj => by
  have hl : 0 < js.length := List.length_pos_iff.mpr hn
  have a0 : 0 ≤ cell / 5 % (js.length : Int) := Int.emod_nonneg _ (by omega)
  have a1 : cell / 5 % (js.length : Int) < js.length := Int.emod_lt_of_pos _ (by omega)
  rcases List.mem_or_eq_of_mem_set hj with h | h
  · exact hs j h
  · have hm : (offOthers (jAt js (cell / 5 % js.length).toNat)).getD (cell % 5).toNat J0 ∈ offOthers (jAt js (cell / 5 % js.length).toNat) := by
      have hlen : (offOthers (jAt js (cell / 5 % js.length).toNat)).length = 5 := rfl
      exact List.mem_of_getElem? (getD_some (by rw [hlen]; omega))
    rw [h]
    exact off_snd (hs _ (jAt_mem (by omega))) hm
theorem jobOff_len (js : List Job) (cell : Int) : (jobOff js cell).length = js.length := List.length_set
theorem enum_range (js : List Job) : ((jobsL js).mapIdx fun (k : Nat) x => PyData.tuple [.int (k : Int), x]) = (List.range js.length).map fun k => .tuple [.int (k : Int), jobD (jAt js k)] := by
  refine List.ext_getElem? fun i => ?_
  rw [List.getElem?_mapIdx, List.getElem?_map, List.getElem?_map]
  by_cases q : i < js.length
  · rw [getD_some (d := J0) q, List.getElem?_range q]
    rfl
  · rw [List.getElem?_eq_none (by omega), List.getElem?_eq_none (by rw [List.length_range]; omega)]
    rfl
theorem take_drop_len {α : Type} (l : List α) (n : Nat) : (l.take n).length + (l.drop (n + 1)).length ≤ l.length := by
  rw [List.length_take, List.length_drop]
  omega
theorem spoilt_len (ps : List Piece) (cell count : Int) : (spoilt ps cell count).length ≤ ps.length + 2 := by
  unfold spoilt
  have h := take_drop_len ps (cell / 9 % ps.length).toNat
  dsimp only
  split
  · simp only [List.length_append, List.length_cons, List.length_nil]
    omega
  · split
    · simp only [List.length_append]
      omega
    · split
      · simp only [List.length_append, List.length_cons, List.length_nil]
        omega
      · simp only [List.length_append, List.length_cons, List.length_nil]
        omega
end DL

namespace DL
open PySem L2
/-! ### refusals -/
/-- where the classes stand -/
class EK where
  (RunError BadJob TooMany OutOfPlace NoRow : Addr)
/-- what the written part says of a class of errors -/
structure ExF (K : PySem.W.Frag) (mg : Str → Option Value) (x : Str) (C : Addr) : Prop where
  g : mg x = some (.ref C)
  x : PySem.W.excIn K C [.type "ValueError", .type "Exception", .type "BaseException", .type "object"] "ValueError.__new__" = true
  k : PySem.W.keepIn K (.ref C) = true
  b : PySem.W.subIn K (.ref C) (.type "BaseException") = some true
  t : PySem.W.typeIn K (.ref C) = some (.type "type")
theorem exm_of {K : PySem.W.Frag} {A B : Addr} {b : Bool} (h1 : PySem.W.subIn K (.ref B) (.type "BaseException") = some true) (h2 : PySem.W.isClsIn K B = true) (h3 : PySem.W.typeIn K (.ref B) = some (.type "type")) (h4 : PySem.W.subIn K (.ref A) (.ref B) = some b) :
    PySem.W.exmOne K (.ref A) (.ref B) = some b := by
  have e1 : (PySem.W.subIn K (.ref B) (.type "BaseException") == some true) = true := by rw [h1] <;> rfl
  have e2 : ((PySem.W.clsIn K B).isSome && PySem.W.typeIn K (.ref B) == some (.type "type")) = true := by
    have h2' : (PySem.W.clsIn K B).isSome = true := h2
    rw [h2', h3] <;> rfl
  show (if (PySem.W.subIn K (.ref B) (.type "BaseException") == some true) = true then (if ((PySem.W.clsIn K B).isSome && PySem.W.typeIn K (.ref B) == some (.type "type")) = true then PySem.W.subIn K (.ref A) (.ref B) else none) else none) = some b
  rw [if_pos e1, if_pos e2]
  exact h4
/-- a def that may refuse, called by its name -/
structure CalX (P : Program) (w : World) (K : PySem.W.Frag) (mg : Str → Option Value) (base : Heap) (k : Nat) (x : Str) (ps : List Str) (R : List PyData → Ro → Prop) : Prop where
  ex : ∃ f fd, FnOk P w K mg base (L2.CX P w) k f fd ps (@SpR ⟨K⟩ R) ∧ mg x = some (.ref f) ∧ PySem.W.keepIn K (.ref f) = true ∧ Binds K fd ps []
theorem calX_of {P : Program} {w : World} {K : PySem.W.Frag} {mg : Str → Option Value} {base : Heap} {k : Nat} {x : Str} {ps : List Str} {R : List PyData → Ro → Prop} {f : Addr} {fd : FuncData}
    (F : FnOk P w K mg base (L2.CX P w) k f fd ps (@SpR ⟨K⟩ R)) (hm : mg x = some (.ref f)) (hk : PySem.W.keepIn K (.ref f) = true) (hb : Binds K fd ps []) : CalX P w K mg base k x ps R := ⟨f, fd, F, hm, hk, hb⟩
section
variable {X : Cx} {k : Nat} {x : Str} {ps : List Str} {R : List PyData → Ro → Prop} {e : Expr} {es : List Expr} {t : TA} {p pos : Pos} {K : PySem.W.Frag}
theorem CalX.pe {E : XK} (C : CalX X.prog X.w K X.mg X.base k x ps R) (hr : Room k X.A) (hg : Gl X x) (hx : Passes (L2.CX X.prog X.w) X E) (ha : PA X (e :: es) t) (hK : X.K = K := by rfl) (hdb : (x == ("__debug__" : Str)) = false := by decide) (he : starEach (e :: es) X.env = (false, eval e X.env) :: starEach es X.env := by rfl) (hpl : (backTo pos (starEach es X.env)).any (·.1) = false := by rfl) :
    PE X (.Call (.Name x p) (e :: es) [] pos) (tCall (@SpR ⟨K⟩ R) [] E t) := by
  subst hK
  obtain ⟨f, fd, F, hm, hk, hb⟩ := C.ex
  exact pe_call F hr hg hm hk hb .nil hx ha hdb he hpl
theorem CalX.peS {W : WX} (C : CalX X.prog X.w K X.mg X.base k x ps R) (hr : Room k X.A) (hg : Gl X x) (tk : Takes X W) (ha : PA X (e :: es) t) (hK : X.K = K := by rfl) (hdb : (x == ("__debug__" : Str)) = false := by decide) (he : starEach (e :: es) X.env = (false, eval e X.env) :: starEach es X.env := by rfl) (hpl : (backTo pos (starEach es X.env)).any (·.1) = false := by rfl) :
    PE X (.Call (.Name x p) (e :: es) [] pos) (tCallS (@SpR ⟨K⟩ R) (WE W) t) := by
  subst hK
  obtain ⟨f, fd, F, hm, hk, hb⟩ := C.ex
  exact pe_callS F hr hg hm hk hb (fun σ => passAt tk σ) ha hdb he hpl
theorem ps_raiseE {m : Str} {j : Nat} {p2 pos' : Pos} {W : WX} {C : Addr} (hc : X.calm = true) (tk : Takes X W) (h : ExF K X.mg x C) (hg : Gl X x) (hK : X.K = K := by rfl) (hdb : (x == ("__debug__" : Str)) = false := by decide) :
    PS X (.Raise (some (.Call (.Name x p) [.Constant (.str m) j p2] [] pos)) none pos') (fun _ σ H => W (.ref C) none σ H) := by
  subst hK
  exact ps_raise hc tk (pmk_own PySem.F.excBase_ValueError h.x h.g h.k (raises_own h.b h.t) hg hdb)
end
section
variable [KK] {E : XK} {S : DSt} {ta : TA} {ds : List PyData} {o : Ou} {u : TS}
theorem x_raise {C : Addr} : DX E (fun _ σ H => E (.ref C) none H) S (.rt (.ex C)) := fun D H σ rl k => k H Gm_le
/-- a call that refuses -/
def Rz (E : XK) (te : TE) (S : DSt) (C : Addr) : Prop := ∀ H σ, Rl H σ S → (∀ H', Same (Gm σ S H) H' → E (.ref C) none H') → ∀ Q, te σ H Q
theorem z_call {R : List PyData → Ro → Prop} {C : Addr} (h : Ea ta S ds) (hR : R ds (.ex C)) : Rz E (tCall (SpR R) [] E ta) S C := fun H σ rl k Q => h H σ rl _ fun vs H1 e1 q1 =>
  ⟨ds, .ex C, by rw [List.append_nil]; exact q1, hR, fun H' e2 => k H' (Gm_le.trans (e1.trans e2))⟩
theorem z_callR {α : Type} {args : α → List PyData} {pre : α → Prop} {res : α → Ro} {C : Addr} (x : α) (h : Ea ta S ds) (hx : ds = args x) (hp : pre x) (hr : res x = .ex C) : Rz E (tCall (SpR (Rf args pre res)) [] E ta) S C := z_call h ⟨x, hp, hx, hr.symm⟩
theorem z_drop {te : TE} {C : Addr} (h : Rz E te S C) : DX E (tDrop te) S (.rt (.ex C)) := fun D H σ rl k => h H σ rl (fun H' e => k H' e) _
theorem z_asg {te : TE} {C : Addr} {g : TG} (h : Rz E te S C) : DX E (tAsg te g) S (.rt (.ex C)) := fun D H σ rl k => h H σ rl (fun H' e => k H' e) _
theorem z_ret {te : TE} {C : Addr} (h : Rz E te S C) : DX E (tRet te) S (.rt (.ex C)) := fun D H σ rl k => h H σ rl (fun H' e => k H' e) _
/-! try, clause by clause -/
/-- what is done with a refusal of class C by the clauses l -/
def Caught (E : XK) (K : PySem.W.Frag) (S : DSt) (C : Addr) (o : Ou) : List (Value × (Addr → Value → Option Addr → TS)) → Prop
  | [] => False
  | (c, ts) :: r => (PySem.W.exmOne K (.ref C) c = some true ∧ ∀ a, DX E (ts a (.ref C) none) S o) ∨ (PySem.W.exmOne K (.ref C) c = some false ∧ Caught E K S C o r)
theorem caught_W {K : PySem.W.Frag} {C : Addr} {Wout : WX} {D : Ends} {σ : St} {H : Hp} {G : Hp} (rl : Rl H σ S) (k : Fin E D G o) (e : Same G (Gm σ S H)) : ∀ l, Caught E K S C o l → wMany K Wout D l (.ref C) none σ H
  | (c, ts) :: r, h => by
    rcases h with ⟨h1, h2⟩ | ⟨h1, h2⟩
    · exact ⟨true, h1, fun _ a _ => h2 a D H σ rl (k.up e), fun z => nomatch z⟩
    · exact ⟨false, h1, (fun z => nomatch z), fun _ => caught_W rl k e r h2⟩
theorem t_tryX {R : List PyData → Ro → Prop} {K : PySem.W.Frag} {C : Addr} {Wout : WX} {l : List (Value × (Addr → Value → Option Addr → TS))} (h : Ea ta S ds) (hR : R ds (.ex C)) (hc : Caught E K S C o l) :
    DX E (fun D σ H => (fun W : WX => tDrop (tCallS (SpR R) (WE W) ta)) (wMany K Wout D l) D σ H) S o := fun D H σ rl k => h H σ rl _ fun vs H1 e1 q1 =>
  ⟨ds, .ex C, q1, hR, fun H' e2 => by
    have e := e1.trans e2
    exact caught_W (rl.mono e) k (Gm_mono e) l hc⟩
theorem t_tryN {R : List PyData → Ro → Prop} {K : PySem.W.Frag} {Wout : WX} {d : PyData} {l : List (Value × (Addr → Value → Option Addr → TS))} (h : Ea ta S ds) (hR : R ds (.va d)) :
    DX E (fun D σ H => (fun W : WX => tDrop (tCallS (SpR R) (WE W) ta)) (wMany K Wout D l) D σ H) S (.nx S) := fun D H σ rl k => h H σ rl _ fun vs H1 e1 q1 =>
  ⟨ds, .va d, q1, hR, fun v H' e2 _ => k σ H' (rl.mono (e1.trans e2)) (Gm_mono (e1.trans e2))⟩
end
end DL

namespace DL
open PySem L2
/-! ### room for one job more -/
def loadP (js : List Job) (a b : Int) : Int := ((js.filter fun j => decide (a ≤ j.1) && decide (j.2.2 ≤ b)).map fun j => j.2.1).sum
theorem span_sum {js : List Job} {b e : Int} : ∀ ps : List Piece, GoodAll js ps → (∀ p ∈ ps, (jAt js p.1.toNat).1 ≤ p.2.1 ∧ p.2.2 ≤ (jAt js p.1.toNat).2.2) →
    (ps.map fun p => if (decide (b ≤ (jAt js p.1.toNat).1) && decide ((jAt js p.1.toNat).2.2 ≤ e)) = true then p.2.2 - p.2.1 else 0).sum ≤ max 0 (min (lastE ps) e - b) := by
  refine snoc_ind ?_ ?_
  · intro _ _
    show (0 : Int) ≤ _
    omega
  · intro ps p ih hg h
    obtain ⟨g1, c⟩ := good_snoc.mp hg
    have ih := ih g1 fun q hq => h q (List.mem_append_left _ hq)
    obtain ⟨h1, h2⟩ := h p (List.mem_append_right _ List.mem_cons_self)
    rw [List.map_append, List.sum_append, List.map_cons, List.sum_cons, lastE_snoc]
    show _ + (_ + (0 : Int)) ≤ _
    have tb := c.tb
    have be := c.be
    by_cases q : (decide (b ≤ (jAt js p.1.toNat).1) && decide ((jAt js p.1.toNat).2.2 ≤ e)) = true
    · rw [if_pos q]
      rw [Bool.and_eq_true, decide_eq_true_eq, decide_eq_true_eq] at q
      omega
    · rw [if_neg q]
      omega
/-- where a plan is, no stretch asks for more than it has -/
theorem load_span {js : List Job} (hs : AllS js) (hl : lateF js (endsF js) = []) {b e : Int} (h : b ≤ e) : loadP js b e ≤ e - b := by
  have rn := ran hs
  have hf := plan_fits hs hl
  have := span_sum (b := b) (e := e) _ rn.good fun p hp => by
    obtain ⟨i, hi, e⟩ := List.getElem_of_mem hp
    obtain ⟨_, _, _, _, c5, c6⟩ := hf.1 i p (by rw [List.getElem?_eq_getElem hi, e])
    exact ⟨c5, c6⟩
  unfold loadP
  rw [sel_ran rn]
  omega
theorem load_mono {js : List Job} {a b a' b' : Int} (h : ∀ j ∈ js, 0 ≤ j.2.1 ∧ (a ≤ j.1 → j.2.2 ≤ b → a' ≤ j.1 ∧ j.2.2 ≤ b')) : loadP js a b ≤ loadP js a' b' := by
  unfold loadP
  induction js with
  | nil => exact Int.le_refl _
  | cons j r ih =>
    have ih := ih fun x hx => h x (List.mem_cons_of_mem _ hx)
    obtain ⟨h1, h2⟩ := h j List.mem_cons_self
    by_cases q : (decide (a ≤ j.1) && decide (j.2.2 ≤ b)) = true
    · have q' := q
      rw [Bool.and_eq_true, decide_eq_true_eq, decide_eq_true_eq] at q'
      obtain ⟨h3, h4⟩ := h2 q'.1 q'.2
      rw [List.filter_cons_of_pos (by exact q), List.filter_cons_of_pos (by rw [decide_eq_true h3, decide_eq_true h4]; rfl), List.map_cons, List.map_cons, List.sum_cons, List.sum_cons]
      omega
    · rw [List.filter_cons_of_neg (by exact q)]
      by_cases q2 : (decide (a' ≤ j.1) && decide (j.2.2 ≤ b')) = true
      · rw [List.filter_cons_of_pos (by exact q2), List.map_cons, List.sum_cons]
        omega
      · rw [List.filter_cons_of_neg (by exact q2)]
        exact ih
def withF (js : List Job) (k : Nat) (j : Job) : List Job := js.take k ++ [j] ++ js.drop k
theorem load_with {js : List Job} {k : Nat} {j : Job} {a b : Int} : loadP (withF js k j) a b = loadP js a b + (if a ≤ j.1 ∧ j.2.2 ≤ b then j.2.1 else 0) := by
  have e : loadP js a b = loadP (js.take k) a b + loadP (js.drop k) a b := by
    unfold loadP
    rw [← List.sum_append, ← List.map_append, ← List.filter_append, List.take_append_drop]
  rw [e]
  unfold withF loadP
  rw [List.filter_append, List.filter_append, List.map_append, List.map_append, List.sum_append, List.sum_append]
  by_cases q : a ≤ j.1 ∧ j.2.2 ≤ b
  · rw [if_pos q, List.filter_cons_of_pos (by rw [decide_eq_true q.1, decide_eq_true q.2]; rfl)]
    show _ + (j.2.1 + 0) + _ = _
    omega
  · rw [if_neg q, List.filter_cons_of_neg (by rw [← Bool.decide_and]; simpa using q)]
    show _ + 0 + _ = _
    omega
theorem with_snd {js : List Job} {k : Nat} {j : Job} (hs : AllS js) (h : Snd j) : AllS (withF js k j) := fun x hx => by
  unfold withF at hx
  rcases List.mem_append.mp hx with hx | hx
  · rcases List.mem_append.mp hx with hx | hx
    · exact hs x (List.mem_of_mem_take hx)
    · rw [List.mem_singleton.mp hx]
      exact h
  · exact hs x (List.mem_of_mem_drop hx)
theorem with_len (js : List Job) (k : Nat) (j : Job) : (withF js k j).length = js.length + 1 := by
  unfold withF
  rw [List.length_append, List.length_append, List.length_take, List.length_drop, List.length_singleton]
  omega
/-! the least of what is left -/
def roomIn (js : List Job) (b : Int) (es : List Int) (m : Int) : Int := es.foldl (fun m e => min m (e - b - loadP js b e)) m
def roomAll (js : List Job) (bs es : List Int) (m : Int) : Int := bs.foldl (fun m b => roomIn js b es m) m
def beginsF (js : List Job) (a : Int) : List Int := a :: (js.filter fun j => decide (j.1 < a)).map fun j => j.1
def stopsF (js : List Job) (d : Int) : List Int := d :: (js.filter fun j => decide (d < j.2.2)).map fun j => j.2.2
def roomF (js : List Job) (a d : Int) : Int := roomAll js (beginsF js a) (stopsF js d) (d - a)
theorem roomIn_spec (js : List Job) (b : Int) : ∀ (es : List Int) (m : Int), roomIn js b es m ≤ m ∧ (∀ e ∈ es, roomIn js b es m ≤ e - b - loadP js b e) ∧ (roomIn js b es m = m ∨ ∃ e ∈ es, roomIn js b es m = e - b - loadP js b e)
  | [], m => ⟨Int.le_refl _, fun e h => (List.not_mem_nil h).elim, .inl rfl⟩
  | e :: es, m => by
    obtain ⟨h1, h2, h3⟩ := roomIn_spec js b es (min m (e - b - loadP js b e))
    have hd : roomIn js b (e :: es) m = roomIn js b es (min m (e - b - loadP js b e)) := rfl
    rw [hd]
    refine ⟨by omega, fun x hx => ?_, ?_⟩
    · rcases List.mem_cons.mp hx with z | z
      · rw [z]
        omega
      · exact h2 x z
    · rcases h3 with h3 | ⟨x, hx, h3⟩
      · by_cases q : m ≤ e - b - loadP js b e
        · exact .inl (by omega)
        · exact .inr ⟨e, List.mem_cons_self, by omega⟩
      · exact .inr ⟨x, List.mem_cons_of_mem _ hx, h3⟩
theorem roomAll_spec (js : List Job) (es : List Int) : ∀ (bs : List Int) (m : Int), roomAll js bs es m ≤ m ∧ (∀ b ∈ bs, ∀ e ∈ es, roomAll js bs es m ≤ e - b - loadP js b e) ∧ (roomAll js bs es m = m ∨ ∃ b ∈ bs, ∃ e ∈ es, roomAll js bs es m = e - b - loadP js b e)
  | [], m => ⟨Int.le_refl _, fun e h => (List.not_mem_nil h).elim, .inl rfl⟩
  | b :: bs, m => by
    obtain ⟨h1, h2, h3⟩ := roomAll_spec js es bs (roomIn js b es m)
    obtain ⟨g1, g2, g3⟩ := roomIn_spec js b es m
    have hd : roomAll js (b :: bs) es m = roomAll js bs es (roomIn js b es m) := rfl
    rw [hd]
    refine ⟨by omega, fun x hx e he => ?_, ?_⟩
    · rcases List.mem_cons.mp hx with z | z
      · rw [z]
        have := g2 e he
        omega
      · exact h2 x z e he
    · rcases h3 with h3 | ⟨x, hx, e, he, h3⟩
      · rcases g3 with g3 | ⟨e, he, g3⟩
        · exact .inl (by omega)
        · exact .inr ⟨b, List.mem_cons_self, e, he, by omega⟩
      · exact .inr ⟨x, List.mem_cons_of_mem _ hx, e, he, h3⟩
theorem begins_le {js : List Job} {a b : Int} (h : b ∈ beginsF js a) : b ≤ a := by
  rcases List.mem_cons.mp h with e | h
  · omega
  · obtain ⟨j, hj, rfl⟩ := List.mem_map.mp h
    have := of_decide_eq_true (List.mem_filter.mp hj).2
    omega
theorem stops_ge {js : List Job} {d e : Int} (h : e ∈ stopsF js d) : d ≤ e := by
  rcases List.mem_cons.mp h with z | h
  · omega
  · obtain ⟨j, hj, rfl⟩ := List.mem_map.mp h
    have := of_decide_eq_true (List.mem_filter.mp hj).2
    omega
theorem room_pos {js : List Job} (hs : AllS js) (hl : lateF js (endsF js) = []) {a d : Int} (h : a < d) : 0 ≤ roomF js a d ∧ roomF js a d ≤ d - a := by
  obtain ⟨h1, _, h3⟩ := roomAll_spec js (stopsF js d) (beginsF js a) (d - a)
  refine ⟨?_, h1⟩
  rcases h3 with h3 | ⟨b, hb, e, he, h3⟩
  · unfold roomF
    omega
  · have := begins_le hb
    have := stops_ge he
    have := load_span hs hl (b := b) (e := e) (by omega)
    unfold roomF
    omega
/-- the least of a list no less than b -/
theorem least_of {b a : Int} : ∀ l : List Int, b ≤ a → ∃ x, x ∈ a :: l ∧ b ≤ x ∧ x ≤ a ∧ ∀ y ∈ l, b ≤ y → x ≤ y
  | [], h => ⟨a, List.mem_cons_self, h, Int.le_refl _, fun y hy => (List.not_mem_nil hy).elim⟩
  | c :: l, h => by
    obtain ⟨x, h1, h2, h3, h4⟩ := least_of l h
    by_cases q : b ≤ c ∧ c < x
    · refine ⟨c, by simp, q.1, by omega, fun y hy hb => ?_⟩
      rcases List.mem_cons.mp hy with e | hy
      · omega
      · have := h4 y hy hb
        omega
    · refine ⟨x, ?_, h2, h3, fun y hy hb => ?_⟩
      · rcases List.mem_cons.mp h1 with e | h1
        · rw [e]; exact List.mem_cons_self
        · exact List.mem_cons_of_mem _ (List.mem_cons_of_mem _ h1)
      · rcases List.mem_cons.mp hy with e | hy
        · subst e
          omega
        · exact h4 y hy hb
theorem most_of {b a : Int} : ∀ l : List Int, a ≤ b → ∃ x, x ∈ a :: l ∧ x ≤ b ∧ a ≤ x ∧ ∀ y ∈ l, y ≤ b → y ≤ x
  | [], h => ⟨a, List.mem_cons_self, h, Int.le_refl _, fun y hy => (List.not_mem_nil hy).elim⟩
  | c :: l, h => by
    obtain ⟨x, h1, h2, h3, h4⟩ := most_of l h
    by_cases q : c ≤ b ∧ x < c
    · refine ⟨c, by simp, q.1, by omega, fun y hy hb => ?_⟩
      rcases List.mem_cons.mp hy with e | hy
      · omega
      · have := h4 y hy hb
        omega
    · refine ⟨x, ?_, h2, h3, fun y hy hb => ?_⟩
      · rcases List.mem_cons.mp h1 with e | h1
        · rw [e]; exact List.mem_cons_self
        · exact List.mem_cons_of_mem _ (List.mem_cons_of_mem _ h1)
      · rcases List.mem_cons.mp hy with e | hy
        · subst e
          omega
        · exact h4 y hy hb
theorem late_some {js : List Job} (hs : AllS js) (h : lateF js (endsF js) ≠ []) : ∃ k b e, answerD js = .tuple [.str (Str.ofString "late"), .int k, .int b, .int e] ∧ b ≤ e ∧ e - b < loadP js b e := by
  unfold answerD
  cases hlt : lateF js (endsF js) with
  | nil => exact absurd hlt h
  | cons k r =>
    have h0 : (lateF js (endsF js))[0]? = some k := by rw [hlt]; rfl
    obtain ⟨m, rfl, hm, hl, _⟩ := lateF_at h0
    have ed : dueF js (m : Int) = (jAt js m).2.2 := by unfold dueF; rw [Int.toNat_natCast]
    dsimp only
    rw [ed]
    obtain ⟨_, _, _, h4, _, h6⟩ := late_much hs hm hl
    rw [Int.toNat_natCast] at h4
    have := (hs _ (jAt_mem hm)).2.2
    exact ⟨_, _, _, rfl, by omega, h6⟩
theorem room_fits {js : List Job} (hs : AllS js) (hl : lateF js (endsF js) = []) {a d : Int} {k : Nat} (ha : 0 ≤ a) (h : a < d) (hr : 0 < roomF js a d) : lateF (withF js k (a, roomF js a d, d)) (endsF (withF js k (a, roomF js a d, d))) = [] := by
  have hs' : AllS (withF js k (a, roomF js a d, d)) := with_snd hs ⟨ha, by show 1 ≤ roomF js a d; omega, h⟩
  by_cases z : lateF (withF js k (a, roomF js a d, d)) (endsF (withF js k (a, roomF js a d, d))) = []
  · exact z
  · exfalso
    obtain ⟨_, b, e, _, h1, h2⟩ := late_some hs' z
    rw [load_with] at h2
    have hsp := load_span hs hl h1
    by_cases q : b ≤ a ∧ d ≤ e
    · rw [if_pos q] at h2
      obtain ⟨b', m1, m2, m3, m4⟩ := least_of ((js.filter fun j => decide (j.1 < a)).map fun j => j.1) q.1
      obtain ⟨e', n1, n2, n3, n4⟩ := most_of ((js.filter fun j => decide (d < j.2.2)).map fun j => j.2.2) q.2
      have hm : loadP js b e ≤ loadP js b' e' := load_mono fun j hj => ⟨by have := (hs j hj).2.1; omega, fun g1 g2 => by
        constructor
        · by_cases c : j.1 < a
          · exact m4 _ (List.mem_map.mpr ⟨j, List.mem_filter.mpr ⟨hj, decide_eq_true c⟩, rfl⟩) g1
          · omega
        · by_cases c : d < j.2.2
          · exact n4 _ (List.mem_map.mpr ⟨j, List.mem_filter.mpr ⟨hj, decide_eq_true c⟩, rfl⟩) g2
          · omega⟩
      have := (roomAll_spec js (stopsF js d) (beginsF js a) (d - a)).2.1 b' m1 e' n1
      have this : roomF js a d ≤ e' - b' - loadP js b' e' := this
      have h2 : e - b < loadP js b e + roomF js a d := h2
      omega
    · rw [if_neg q] at h2
      omega
theorem room_most {js : List Job} (hs : AllS js) (hl : lateF js (endsF js) = []) {a d : Int} {k : Nat} (ha : 0 ≤ a) (h : a < d) : lateF (withF js k (a, roomF js a d + 1, d)) (endsF (withF js k (a, roomF js a d + 1, d))) ≠ [] := fun z => by
  have h0 := room_pos hs hl h
  have hs' : AllS (withF js k (a, roomF js a d + 1, d)) := with_snd hs ⟨ha, by show 1 ≤ roomF js a d + 1; omega, h⟩
  obtain ⟨_, _, h3⟩ := roomAll_spec js (stopsF js d) (beginsF js a) (d - a)
  have h3 : roomF js a d = d - a ∨ ∃ b ∈ beginsF js a, ∃ e ∈ stopsF js d, roomF js a d = e - b - loadP js b e := h3
  have nn : ∀ b e, 0 ≤ loadP js b e := fun b e => by
    unfold loadP
    have : (((js.filter fun j => decide (b ≤ j.1) && decide (j.2.2 ≤ e)).map fun _ => (0 : Int))).sum ≤ ((js.filter fun j => decide (b ≤ j.1) && decide (j.2.2 ≤ e)).map fun j => j.2.1).sum := sum_le fun j hj => by
      have := (hs j (List.mem_filter.mp hj).1).2.1
      omega
    have e0 : ∀ l : List Job, (l.map fun _ => (0 : Int)).sum = 0 := fun l => by
      induction l with
      | nil => rfl
      | cons x r ih => rw [List.map_cons, List.sum_cons, ih]; rfl
    rw [e0] at this
    exact this
  rcases h3 with h3 | ⟨b, hb, e, he, h3⟩
  · have := load_span hs' z (b := a) (e := d) (by omega)
    rw [load_with, if_pos ⟨Int.le_refl _, Int.le_refl _⟩] at this
    have this : loadP js a d + (roomF js a d + 1) ≤ d - a := this
    have := nn a d
    omega
  · have hb' := begins_le hb
    have he' := stops_ge he
    have := load_span hs' z (b := b) (e := e) (by omega)
    rw [load_with, if_pos ⟨hb', he'⟩] at this
    have this : loadP js b e + (roomF js a d + 1) ≤ e - b := this
    omega
end DL

namespace DL
open PySem L2 PySem.Spec PyProof.Rows
/-! ### try with several clauses, some with names -/
/-- an exception of a body (at a, its class cls, its dict d) has come to rest in X -/
structure Rest (X : Cx) (pins : List (Addr × Obj)) (σ : L2.St) (H : Hp) (a : Addr) (cls : Value) (d : Option Addr) (B : Heap) (sI s : Shared) : Prop where
  I : Inv X pins σ H sI
  nb : ∀ b o, sI.heap.get? b = some o → b ∉ frs X.stack → B.get? b = some o
  up : sI.heap.UpToSlots s.heap
  fl : HandSPX.FlyingZ B (X.env :: X.outer) a (Zc cls d) s.heap
  na : H a = none
  os : s.os = sI.os
  ag : AllBare s.gens
section
variable {X : Cx} {pins : List (Addr × Obj)} {σ : L2.St} {H : Hp} {a : Addr} {cls : Value} {d : Option Addr} {B : Heap} {sI s : Shared}
theorem Rest.suite (R : Rest X pins σ H a cls d B sI s) (hs : X.stack = X.env :: X.outer) (hf : X.env.frame = some X.env.locals) : ∃ (oe : Obj) (vs : Array Value), s.heap.get? a = some oe ∧ Zc cls d oe ∧ oe.data = .fields vs ∧ Inv (X.suite a ((a, oe) :: (X.pn ++ pins))) [] σ H s := by
  obtain ⟨I, nb, up, fl, na, os, ag⟩ := R
  obtain ⟨oe, vs, he, hz, hd⟩ := fl.there
  have J : Inv X pins σ H s := I.landed nb fl.1 up os ag
  have out : a ∉ frs (X.env :: X.outer) := fun hm => by
    obtain ⟨_, o', e', hnf⟩ := fl.2.2.1.mem hm
    rw [he] at e'
    cases e'
    exact hnf _ hd
  have nL : a ≠ X.env.locals := fun z => out (List.mem_filterMap.mpr ⟨X.env, List.mem_cons_self, by rw [hf, z]⟩)
  have nF : a ∉ X.fs := fun hm => by
    obtain ⟨e, hm, q⟩ := List.mem_filterMap.mp hm
    exact out (List.mem_filterMap.mpr ⟨e, List.mem_cons_of_mem _ hm, q⟩)
  exact ⟨oe, vs, he, hz, hd, J.suite he hd na nL nF⟩
theorem Rest.with (R : Rest X pins σ H a cls d B sI s) {h : Heap} (fl : HandSPX.FlyingZ B (X.env :: X.outer) a (Zc cls d) h) (up : s.heap.UpToSlots h) : Rest X pins σ H a cls d B sI { s with heap := h } :=
  ⟨R.I, R.nb, R.up.trans up, fl, R.na, R.os, R.ag⟩
/-- no clause takes it -/
theorem Rest.out (R : Rest X pins σ H a cls d B sI s) (hs : X.stack = X.env :: X.outer) (hf : X.env.frame = some X.env.locals) {Wout : WX} (tk : Takes X Wout) (w : Wout cls d σ H) {D : Ends} :
    wpAny (model X.prog X.w) X.A (handleBy (.ref a) X.env []) (SP X pins D) X.xe s := by
  refine wpAny_handleBy_nil ?_
  obtain ⟨_, _, _, oe, vs, T, oT, ts', he, hz, hd, h1, hr⟩ := id R.fl
  unfold PySem.passOn
  refine wpAny_bind (wpAny_field he hd h1 ?_)
  rw [if_neg (show ¬ ((Value.ref T == Value.none) = true) from by simp)]
  have fin : wpAny (model X.prog X.w) X.A (setFlight (.ref a) X.env.frame) (fun _ s4 => wpAny (model X.prog X.w) X.A (throw (.ref a) : Sem Flow) (SP X pins D) X.xe s4) X.xe s := by
    rw [hf]
    refine HandSPX.setFlight_upZ R.fl fun h4 hh4 up4 => wpAny_throw (tk _ _ ?_)
    exact ⟨a, B, sI, pins, σ, H, cls, d, rfl, R.I, R.nb, R.up.trans up4, .inr (.inr (by rw [hs]; exact hh4)), R.na, R.os, R.ag, w⟩
  first
    | exact wpAny_bind (wpAny_pure (wpAny_bind fin))
    | exact wpAny_bind fin
end
/-- a clause: the class it names, the slot of its name if it has one, its suite -/
abbrev Cl := Value × Option Nat × (Addr → Value → Option Addr → TS)
def endsN (i : Nat) (D : Ends) : Ends := { nx := fun σ' H' => D.nx (σ'.set i none) H', rt := D.rt, bk := fun σ' H' => D.bk (σ'.set i none) H', ct := fun σ' H' => D.ct (σ'.set i none) H' }
def suiteW (D : Ends) (i : Option Nat) (ts : Addr → Value → Option Addr → TS) (cls : Value) (d : Option Addr) (σ : L2.St) (H : Hp) : Prop :=
  ∀ a, H a = none → match i with
    | none => ts a cls d D σ H
    | some i => ts a cls d (endsN i D) (σ.set i (some (.ref a))) H
def wCl (K : PySem.W.Frag) (Wout : WX) (D : Ends) : List Cl → WX
  | [] => Wout
  | (c, i, ts) :: r => fun cls d σ H => ∃ b, PySem.W.exmOne K cls c = some b ∧ (b = true → suiteW D i ts cls d σ H) ∧ (b = false → wCl K Wout D r cls d σ H)
def NameAt (X : Cx) : Option Str → Option Nat → Prop
  | none, none => True
  | some n, some i => X.N[i]? = some n ∧ X.env.kindOf n = some .local
  | _, _ => False
inductive ClsOk (X : Cx) : List ExceptHandler → List Cl → Prop
  | nil : ClsOk X [] []
  | cons {x : Str} {n : Option Str} {i : Option Nat} {c : Value} {ts : Addr → Value → Option Addr → TS} {b₀ : Stmt} {suite : List Stmt} {np pos' : Pos} {hds : List ExceptHandler} {l : List Cl} (hc : Names X x c) (hn : NameAt X n i)
      (hsu : ∀ (a : Addr) (oe : Obj) (cls : Value) (d : Option Addr) (pn : List (Addr × Obj)), Zc cls d oe → (∃ vs, oe.data = .fields vs) → PSs (X.suite a ((a, oe) :: pn)) (b₀ :: suite) (ts a cls d)) (r : ClsOk X hds l) :
      ClsOk X (.ExceptHandler (some (.Name x np)) n (b₀ :: suite) pos' :: hds) ((c, i, ts) :: l)
section
variable {X : Cx} {body : List Stmt} {h₀ : ExceptHandler} {hds : List ExceptHandler} {l : List Cl} {pos : Pos} {tb : WX → TS} {Wout : WX}
theorem cls_run (hs : X.stack = X.env :: X.outer) (hf : X.env.frame = some X.env.locals) (hN : X.N.Nodup) (tk : Takes X Wout) {pins : List (Addr × Obj)} {D : Ends} {a : Addr} {cls : Value} {d : Option Addr} {B : Heap} {sI : Shared} {σ : L2.St} {H : Hp} :
    ∀ {hds : List ExceptHandler} {l : List Cl}, ClsOk X hds l → wCl X.K Wout D l cls d σ H → ∀ s, Rest X pins σ H a cls d B sI s → wpAny (model X.prog X.w) X.A (handleBy (.ref a) X.env hds) (SP X pins D) X.xe s := by
  intro hds l h
  induction h with
  | nil => exact fun w s R => R.out hs hf tk w
  | @cons x n i c ts b₀ suite np pos' hds2 l2 hc hn hsu r ih =>
    intro w s R
    obtain ⟨b, hb1, hyes, hno⟩ := w
    obtain ⟨oe, vs, he, hz, hd, S⟩ := R.suite hs hf
    have ok := R.I.ok
    refine wpAny_handleBy_cons (codeAny_handlers_test ?_) (by intro q; cases q)
    have LM := PySem.W.exm_one (M := model X.prog X.w) (h := s.heap) (S.kIn) (fun A Q E s k q => wpAny_typeOf_ref (k _ _ he) (by rw [hz.1]; exact q)) hb1
    have test : ∀ {Q : Value → Shared → Prop} {E : Value → Shared → Prop}, Q c s → wpAny (model X.prog X.w) (X.A.mark (some (.ref a))) (eval (.Name x np) X.env) Q E s := fun {Q E} q => by
      obtain ⟨hg, hdbg, hm | ⟨hm, hv, hnn⟩⟩ := hc
      · exact ld_glob (X := X.suite a ((a, oe) :: (X.pn ++ pins))) S hg hm q hdbg
      · exact ld_blt (X := X.suite a ((a, oe) :: (X.pn ++ pins))) S hg hm hv q hnn hdbg
    refine test (LM.here ?_)
    cases b with
    | false => exact ih (hno rfl) s R
    | true =>
      have hy := hyes rfl a R.na
      cases n with
      | none =>
        cases i with
        | some i => exact hn.elim
        | none =>
          refine codeAny_handlers_suite (HandSPX.lands_againZ R.fl fun h4 fl4 up4 => ?_)
          obtain ⟨oe4, vs4, he4, hz4, hd4, S4⟩ := (R.with fl4 up4).suite hs hf
          refine wpAny_mono ((hsu a oe4 cls d (X.pn ++ pins) hz4 ⟨_, hd4⟩).run [] _ _ H _ S4 hy) (fun f s6 hsp => ?_) (fun _ _ z => False.elim z)
          cases f with
          | next => exact let ⟨σ6, H6, S6, q6⟩ := hsp; ⟨σ6, H6, S6.unsuite ok, q6⟩
          | brk => exact let ⟨σ6, H6, S6, q6⟩ := hsp; ⟨σ6, H6, S6.unsuite ok, q6⟩
          | cont => exact let ⟨σ6, H6, S6, q6⟩ := hsp; ⟨σ6, H6, S6.unsuite ok, q6⟩
          | ret u => exact let ⟨v6, σ6, H6, S6, r6, q6⟩ := hsp; ⟨v6, σ6, H6, S6.unsuite ok, r6, q6⟩
      | some n =>
        cases i with
        | none => exact hn.elim
        | some i =>
          obtain ⟨hi, hln⟩ := hn
          refine codeAny_handlers_suite_as (HandSPX.lands_againZ R.fl fun h4 fl4 up4 => ?_)
          obtain ⟨oe4, vs4, he4, hz4, hd4, S4⟩ := (R.with fl4 up4).suite hs hf
          refine store_ok (X := X.suite a ((a, oe4) :: (X.pn ++ pins))) (v := .ref a) S4 hN hi (.inl hln) rfl (fun s5 S5 => ?_) (.inr hln)
          refine wpAny_mono ((hsu a oe4 cls d (X.pn ++ pins) hz4 ⟨_, hd4⟩).run [] s5 _ H _ S5 hy) (fun f s6 hsp => ?_) (fun _ _ z => False.elim z)
          cases f with
          | next => exact let ⟨σ6, H6, S6, q6⟩ := hsp; gone_ok (S6.unsuite ok) hN hi hln fun s7 J7 => ⟨_, _, J7, q6⟩
          | brk => exact let ⟨σ6, H6, S6, q6⟩ := hsp; gone_ok (S6.unsuite ok) hN hi hln fun s7 J7 => ⟨_, _, J7, q6⟩
          | cont => exact let ⟨σ6, H6, S6, q6⟩ := hsp; gone_ok (S6.unsuite ok) hN hi hln fun s7 J7 => ⟨_, _, J7, q6⟩
          | ret u => exact let ⟨v6, σ6, H6, S6, r6, q6⟩ := hsp; gone_ok (S6.unsuite ok) hN hi hln fun s7 J7 => ⟨_, _, _, J7, r6, q6⟩
/-- the reading of such a try -/
def tTryC (K : PySem.W.Frag) (Wout : WX) (tb : WX → TS) (l : List Cl) : TS := fun D σ H => tb (wCl K Wout D l) D σ H
theorem ps_tryC (hs : X.stack = X.env :: X.outer) (hf : X.env.frame = some X.env.locals) (hN : X.N.Nodup) (tk : Takes X Wout)
    (hb : ∀ (W : WX) (pn : List (Addr × Obj)) (xe : Value → Shared → Prop), Takes (X.tr pn xe) W → PassesOwn (model X.prog X.w) X.A X.env xe → PSs (X.tr pn xe) body (tb W))
    (hh : ClsOk X (h₀ :: hds) l) : PS X (.Try body (h₀ :: hds) [] [] pos) (tTryC X.K Wout tb l) := by
  refine ⟨fun pins s σ H D I h => ?_⟩
  have h : tb (wCl X.K Wout D l) D σ H := h
  have ok := I.ok
  have hfr : X.A.frames = some (X.env :: X.outer) := by rw [ok.frames, hs]
  have run := (hb (wCl X.K Wout D l) (X.pn ++ pins) (fun e s₁ => wpAny (model X.prog X.w) X.A (noteFrame e X.env) (fun _ s₂ => wpAny (model X.prog X.w) X.A (setFlight e none) (fun _ s₃ =>
    wpAny (model X.prog X.w) X.A (handleBy e X.env (h₀ :: hds)) (SP X pins D) X.xe s₃) X.xe s₂) X.xe s₁) (fun u s' xx => by
      obtain ⟨a, B, sI, pins', σ', H', cls, d, rfl, J', nb, up, sky, na, os, ag, w⟩ := xx
      refine Sky.land Zc.steady hfr hf (by rw [← hs]; exact sky) fun h3 fl3 up3 => ?_
      exact cls_run hs hf hN tk hh w _ ⟨J'.ofTry ok, nb, up.trans up3, fl3, na, os, ag⟩) PassesOwn.looking).run [] s σ H D (I.toTry _) h
  refine wpAny_Try_except (wpAny_mono run (fun f s1 hsp => ?_) (fun e s1 he => he))
  cases f with
  | next => exact let ⟨σ', H', J', q⟩ := hsp; wpAny_execs_nil ⟨σ', H', J'.ofTry ok, q⟩
  | brk => exact let ⟨σ', H', J', q⟩ := hsp; ⟨σ', H', J'.ofTry ok, q⟩
  | cont => exact let ⟨σ', H', J', q⟩ := hsp; ⟨σ', H', J'.ofTry ok, q⟩
  | ret u => exact let ⟨v, σ', H', J', r, q⟩ := hsp; ⟨v, σ', H', J'.ofTry ok, r, q⟩
end
end DL

namespace DL
open PySem L2
section
variable [KK] {E E' : XK} {S : DSt} {ta : TA} {te tb : TE} {ds : List PyData} {o : Ou} {u : TS} {C : Addr} {K : PySem.W.Frag}
theorem z_arg1 {sp : Sp} {dvs : List V} (h : Rz E te S C) : Rz E (tCall sp dvs E' (tCons te ta)) S C := fun H σ rl k Q => h H σ rl k _
theorem z_forL {g : TG} {t : TS} (h : Rz E te S C) : DX E (tFor (iList K te) g t) S (.rt (.ex C)) := fun D H σ rl k => h H σ rl (fun H' e => k H' e) _
theorem z_zip2 {g : TG} {t : TS} {d : PyData} {tx : TE} (h0 : Eb tx S d) (h : Rz E te S C) : DX E (tFor (iZip K (tCons tx (tCons te tNil))) g t) S (.rt (.ex C)) := fun D H σ rl k => h0 H σ rl _ fun v H1 e1 _ => h H1 σ (rl.mono e1) (fun H' e => k H' ((Gm_mono e1).trans e)) _
/-! a list with a thing that is no job, or too long a list -/
def Bad (ds : List PyData) : Prop := ¬ (ds.length ≤ 60 ∧ ∀ d ∈ ds, soundD d = true)
def badC [EK] (ds : List PyData) : Addr := if ds.length ≤ 60 then EK.BadJob else EK.TooMany
theorem good_jobs : ∀ {ds : List PyData}, (∀ d ∈ ds, soundD d = true) → ∃ js : List Job, ds = jobsL js ∧ AllS js
  | [], _ => ⟨[], rfl, fun j h => (List.not_mem_nil h).elim⟩
  | d :: ds, h => by
    obtain ⟨js, e, hs⟩ := good_jobs fun x hx => h x (List.mem_cons_of_mem _ hx)
    have h1 := h d List.mem_cons_self
    obtain ⟨a, b, c, rfl⟩ : ∃ a b c, d = .tuple [.int a, .int b, .int c] := by
      unfold soundD at h1
      split at h1
      · exact ⟨_, _, _, rfl⟩
      · cases h1
    refine ⟨(a, b, c) :: js, by rw [e]; rfl, fun j hj => ?_⟩
    rcases List.mem_cons.mp hj with z | z
    · rw [z]
      exact (soundD_job (a, b, c)).mp h1
    · exact hs j z
/-- promises of a def of a list of jobs (and of 0, 1, 2 things more): good jobs, or a refusal -/
def RX0 [EK] {α : Type} (args : α → List PyData) (pre : α → Prop) (res : α → Ro) : List PyData → Ro → Prop :=
  Rf (α := α ⊕ List PyData) (Sum.elim args fun y => [.list y]) (Sum.elim pre fun y => Bad y) (Sum.elim res fun y => .ex (badC y))
def RX1 [EK] {α : Type} (args : α → List PyData) (pre : α → Prop) (res : α → Ro) : List PyData → Ro → Prop :=
  Rf (α := α ⊕ (List PyData × PyData)) (Sum.elim args fun y => [.list y.1, y.2]) (Sum.elim pre fun y => Bad y.1) (Sum.elim res fun y => .ex (badC y.1))
def RX2 [EK] {α : Type} (args : α → List PyData) (pre : α → Prop) (res : α → Ro) : List PyData → Ro → Prop :=
  Rf (α := α ⊕ (List PyData × PyData × PyData)) (Sum.elim args fun y => [.list y.1, y.2.1, y.2.2]) (Sum.elim pre fun y => Bad y.1) (Sum.elim res fun y => .ex (badC y.1))
section
variable [EK] {α : Type} {args : α → List PyData} {pre : α → Prop} {res : α → Ro} {d a b : PyData} {es : List PyData}
theorem e_call0 (x : α) (h : Ea ta S ds) (hx : ds = args x) (hp : pre x) (hr : res x = .va d) : Eb (tCall (SpR (RX0 args pre res)) [] E ta) S d := e_call h ⟨.inl x, hp, hx, hr.symm⟩
theorem n_call0 (x : α) (h : Ea ta S ds) (hx : ds = args x) (hp : pre x) (hr : res x = .nw es) : En (tCall (SpR (RX0 args pre res)) [] E ta) S es := n_call h ⟨.inl x, hp, hx, hr.symm⟩
theorem z_call0 (h : Ea ta S [.list ds]) (hb : Bad ds) : Rz E (tCall (SpR (RX0 args pre res)) [] E ta) S (badC ds) := z_call h ⟨.inr ds, hb, rfl, rfl⟩
theorem e_call1 (x : α) (h : Ea ta S ds) (hx : ds = args x) (hp : pre x) (hr : res x = .va d) : Eb (tCall (SpR (RX1 args pre res)) [] E ta) S d := e_call h ⟨.inl x, hp, hx, hr.symm⟩
theorem z_call1 (h : Ea ta S [.list ds, a]) (hb : Bad ds) : Rz E (tCall (SpR (RX1 args pre res)) [] E ta) S (badC ds) := z_call h ⟨.inr (ds, a), hb, rfl, rfl⟩
theorem e_call2 (x : α) (h : Ea ta S ds) (hx : ds = args x) (hp : pre x) (hr : res x = .va d) : Eb (tCall (SpR (RX2 args pre res)) [] E ta) S d := e_call h ⟨.inl x, hp, hx, hr.symm⟩
theorem z_call2 (h : Ea ta S [.list ds, a, b]) (hb : Bad ds) : Rz E (tCall (SpR (RX2 args pre res)) [] E ta) S (badC ds) := z_call h ⟨.inr (ds, a, b), hb, rfl, rfl⟩
theorem len_of0 {n : Nat} (h : ∀ x, (args x).length = n) (hn : n = 1 := by rfl) : ∀ vs H Q E, SpR (RX0 args pre res) vs H Q E → vs.length = n := len_of fun x => by
  cases x with
  | inl x => exact h x
  | inr y => exact hn.symm
theorem len_of1 {n : Nat} (h : ∀ x, (args x).length = n) (hn : n = 2 := by rfl) : ∀ vs H Q E, SpR (RX1 args pre res) vs H Q E → vs.length = n := len_of fun x => by
  cases x with
  | inl x => exact h x
  | inr y => exact hn.symm
theorem len_of2 {n : Nat} (h : ∀ x, (args x).length = n) (hn : n = 3 := by rfl) : ∀ vs H Q E, SpR (RX2 args pre res) vs H Q E → vs.length = n := len_of fun x => by
  cases x with
  | inl x => exact h x
  | inr y => exact hn.symm
theorem run_def0 {N : List Str} {t : TS} {vs : List V} {H : Hp} {Q : VK} (h : SpR (RX0 args pre res) vs H Q E)
    (hb : (∀ x, pre x → DX E t ((args x).map Sl.va ++ List.replicate (N.length - (args x).length) Sl.no) (.rt (res x))) ∧ ∀ ds, Bad ds → DX E t (.va (.list ds) :: List.replicate (N.length - 1) Sl.no) (.rt (.ex (badC ds)))) : t { nx := fun _ H' => Q .non H', rt := Q } (L2.start N vs) H :=
  run_def h fun x hx => by
    cases x with
    | inl x => exact hb.1 x hx
    | inr y => exact hb.2 y hx
theorem run_def1 {N : List Str} {t : TS} {vs : List V} {H : Hp} {Q : VK} (h : SpR (RX1 args pre res) vs H Q E)
    (hb : (∀ x, pre x → DX E t ((args x).map Sl.va ++ List.replicate (N.length - (args x).length) Sl.no) (.rt (res x))) ∧ ∀ ds a, Bad ds → DX E t (.va (.list ds) :: .va a :: List.replicate (N.length - 2) Sl.no) (.rt (.ex (badC ds)))) : t { nx := fun _ H' => Q .non H', rt := Q } (L2.start N vs) H :=
  run_def h fun x hx => by
    cases x with
    | inl x => exact hb.1 x hx
    | inr y => exact hb.2 y.1 y.2 hx
theorem run_def2 {N : List Str} {t : TS} {vs : List V} {H : Hp} {Q : VK} (h : SpR (RX2 args pre res) vs H Q E)
    (hb : (∀ x, pre x → DX E t ((args x).map Sl.va ++ List.replicate (N.length - (args x).length) Sl.no) (.rt (res x))) ∧ ∀ ds a b, Bad ds → DX E t (.va (.list ds) :: .va a :: .va b :: List.replicate (N.length - 3) Sl.no) (.rt (.ex (badC ds)))) : t { nx := fun _ H' => Q .non H', rt := Q } (L2.start N vs) H :=
  run_def h fun x hx => by
    cases x with
    | inl x => exact hb.1 x hx
    | inr y => exact hb.2 y.1 y.2.1 y.2.2 hx
end
/-! f-strings, join -/
def EJ (ts : List TE) (acc : Str) (S : DSt) (out : Str) : Prop := ∀ H σ, Rl H σ S → ∀ Q : Str → Hp → Prop, (∀ H', Same H H' → Q out H') → tJs ts acc σ H Q
theorem ej_nil {acc : Str} : EJ [] acc S acc := fun H σ rl Q q => q H (Same.refl H)
theorem ej_cons {t : TE} {ts : List TE} {acc y out : Str} (h : Eb t S (.str y)) (hz : (acc ++ y).length ≤ sizeLine) (r : EJ ts (acc ++ y) S out) : EJ (t :: ts) acc S out := fun H σ rl Q q => h H σ rl _ fun v H1 e1 q1 =>
  ⟨y, q1, hz, r H1 σ (rl.mono e1) Q fun H' e2 => q H' (e1.trans e2)⟩
theorem e_fmtI {i : Int} (h : Eb te S (.int i)) (hz : i.natAbs.log2 < 1920) : Eb (tFmt te) S (.str (Str.ofString (toString i))) := fun H σ rl Q q => h H σ rl _ fun v H1 e1 q1 =>
  .inr ⟨i, q1, hz, q _ H1 e1 rfl⟩
theorem e_joined {ts : List TE} {out : Str} (h : EJ ts Str.empty S out) : Eb (fun σ H Q => tJs ts Str.empty σ H fun out H1 => Q (.str out) H1) S (.str out) := fun H σ rl Q q => h H σ rl _ fun H' e => q _ H' e rfl
theorem strs_of {H : Hp} : ∀ {ys : List Str} {xs : List V}, DaL H (ys.map .str) xs → xs = ys.map V.str
  | [], _, h => h
  | y :: ys, _, h => by
    obtain ⟨v, vs, rfl, h1, h2⟩ := h
    have h1 : v = .str y := h1
    rw [h1, strs_of (ys := ys) h2]
    rfl
def rJoin (K : PySem.W.Frag) : V → List V → Hp → VK → Prop := fun x xs H Q => ∃ a p, ∃ ys : List Str, x = .str a ∧ xs = [.ref p] ∧ (SqL K H p (ys.map V.str) ∨ SqT K H p (ys.map V.str)) ∧
      (ys.map (·.length)).sum + ys.length * a.length ≤ 16777216 ∧ Q (.str (Txt.join a ys)) H
theorem e_join {a : Str} {ys : List Str} (ho : Eb te S (.str a)) (h : Eb tb S (.list (ys.map .str))) (hz : (ys.map (·.length)).sum + ys.length * a.length ≤ 16777216) : Eb (tM1 (rJoin K) te tb) S (.str (Txt.join a ys)) := fun H σ rl Q q =>
  ho H σ rl _ fun v H1 e1 q1 => ⟨⟨a, q1⟩, h H1 σ (rl.mono e1) _ fun w H2 e2 q2 => by
    obtain ⟨p, xs, rfl, h3, h4⟩ := q2
    have e := strs_of h4
    subst e
    exact ⟨a, p, ys, q1, rfl, .inl (SqL.of h3), hz, q _ H2 (e1.trans e2) rfl⟩⟩
end
section
variable {X : Cx} {o e : Expr} {to te : TE} (K : PySem.W.Frag)
theorem j_join {apos pos : Pos} (ho : PE X o to) (he : PE X e te) (hK : X.K = K := by rfl) (hs : starEach [e] X.env = [(false, eval e X.env)] := by rfl) (hbase : attributeBase o "join" X.env (eval o X.env) = eval o X.env := by rfl) (hline : (apos.endLine == pos.line) = true := by rfl) :
    PE X (.Call (.Attribute o "join" apos) [e] [] pos) (tM1 (rJoin K) to te) := by
  subst hK
  exact pe_join ho he hs hbase hline
/-- isinstance of the exception that a clause holds -/
def rIsX (K : PySem.W.Frag) (a : Addr) (cls : Value) (d : Option Addr) : List V → Hp → VK → Prop := fun xs H Q => ∃ D, cls = .ref D ∧ d = none ∧ ExcC K D ∧ rIsE K D a xs H Q
theorem j_isE {a : Addr} {oe : Obj} {cls : Value} {d : Option Addr} {pn : List (Addr × Obj)} (hz : Zc cls d oe) (hf : ∃ vs, oe.data = .fields vs) (hK : X.K = K := by rfl) : CallR (X.suite a ((a, oe) :: pn)) (.builtin "isinstance") (rIsX K a cls d) := by
  subst hK
  intro pins s σ H xs us Q I r h
  obtain ⟨D, rfl, rfl, hC, h⟩ := h
  exact call_isE hC hz hf pins s σ H xs us Q I r h
end
end DL

namespace DL
open PySem L2
section
variable [KK] {E : XK} {S : DSt} {ta : TA} {te tb : TE} {tt tu : TT} {ds : List PyData} {o : Ou} {t u : TS} {C : Addr} {K : PySem.W.Frag} {i : Nat} {a : Addr} {b c : Bool} {r : Ro}
/-- a list of a length that no owned list has -/
theorem Ep.lone (h : Eb te S (.list ds)) (im : immL ds = true) (n : ∀ (j : Nat) es, S[j]? = some (.ow es) → es.length ≠ ds.length) : Ep te S (.list ds) := fun H σ r Q q => h H σ r Q fun v H1 e h1 => q v H1 e (by
  obtain ⟨a, xs, rfl, h2, h3⟩ := h1
  refine ⟨a, xs, rfl, Gm_of (fun w => ?_) h2, (r.mono e).immL im h3⟩
  rcases w with ⟨j, es, w1, w2⟩ | ⟨j, s, w1, w2⟩
  · obtain ⟨l, ys, z1, z2, z3⟩ := (r.mono e).ow j es w1
    rw [w2] at z1
    cases z1
    rw [h2] at z2
    cases z2
    exact n j es w1 (by rw [← z3.length, h3.length])
  · obtain ⟨C, dx, fs, z⟩ := ((r.mono e).bo j s w1).ins w2
    rw [h2] at z
    cases z)
/-! suites that hold the exception by a name (slot i holds it, at a) -/
def DXa (E : XK) (i : Nat) (a : Addr) (t : TS) (S : DSt) (o : Ou) : Prop := ∀ D H σ, Rl H σ S → σ[i]? = some (some (.ref a)) → Fin E D (Gm σ S H) o → t D σ H
def Eta (i : Nat) (a : Addr) (tt : TT) (b : Bool) : Prop := ∀ H (σ : St) (Q : Bool → Hp → Prop), σ[i]? = some (some (.ref a)) → (∀ H1, Same H H1 → Q b H1) → tt σ H Q
theorem xa_of (h : DX E t S o) : DXa E i a t S o := fun D H σ rl _ k => h D H σ rl k
theorem xa_yes (h : Eta i a tt true) (h1 : DXa E i a t S (.rt r)) {v : TS} : DXa E i a (tSeq (tIfS tt t u) v) S (.rt r) := fun D H σ rl e k => h H σ _ e fun H1 e1 => h1 _ H1 σ (rl.mono e1) e (FinR.up (Gm_mono e1) k)
theorem xa_no (h : Eta i a tt false) (h1 : DXa E i a u S o) : DXa E i a (tSeq (tIfS tt t tNext) u) S o := fun D H σ rl e k => h H σ _ e fun H1 e1 => h1 D H1 σ (rl.mono e1) e (k.up (Gm_mono e1))
theorem xa_retIf {d : PyData} (h : Eta i a tt b) (h1 : b = true → Eb te S d) (h2 : b = false → Eb tb S d) : DXa E i a (tRet (tIf tt te tb)) S (.rt (.va d)) := fun D H σ rl e k => h H σ _ e fun H0 e0 => (by
  cases b with
  | true => exact h1 rfl H0 σ (rl.mono e0) _ fun v H1 e1 q => k v H1 (Gm_le.trans (e0.trans e1)) q
  | false => exact h2 rfl H0 σ (rl.mono e0) _ fun v H1 e1 q => k v H1 (Gm_le.trans (e0.trans e1)) q)
omit [KK] in
theorem eta_or (h1 : Eta i a tt b) (h2 : b = false → Eta i a tu c) : Eta i a (tOr tt tu) (b || c) := fun H σ Q e q => h1 H σ _ e fun H1 e1 => (by
  cases b with
  | true => exact q H1 e1
  | false => exact h2 rfl H1 σ _ e fun H2 e2 => q H2 (e1.trans e2))
omit [KK] in
theorem eta_and (h1 : Eta i a tt b) (h2 : b = true → Eta i a tu c) : Eta i a (tAnd tt tu) (b && c) := fun H σ Q e q => h1 H σ _ e fun H1 e1 => (by
  cases b with
  | false => exact q H1 e1
  | true => exact h2 rfl H1 σ _ e fun H2 e2 => q H2 (e1.trans e2))
omit [KK] in
theorem eta_not (h : Eta i a tt b) : Eta i a (tNot tt) (!b) := fun H σ Q e q => h H σ _ e fun H1 e1 => q H1 e1
omit [KK] in
theorem Eta.to (h : Eta i a tt b) (e : b = c) : Eta i a tt c := e ▸ h
omit [KK] in
theorem eta_is {c : V} {cv : Value} (h : PySem.W.kitOne K (.ref C) cv = some b) (hx : ExcC K C) (hc : ∀ u, RelV c u → u = cv) : Eta i a (tTru K (tCB (rIsX K a (.ref C) none) (tCons (tVar i) (tCons (tC c) tNil)))) b := fun H σ Q e q =>
  ⟨.ref a, e, C, rfl, rfl, hx, c, cv, b, rfl, hc, h, b, rfl, q H (Same.refl H)⟩
omit [KK] in
theorem eta_isO {D : Addr} (h : PySem.W.kitOne K (.ref C) (.ref D) = some b) (hx : ExcC K C) : Eta i a (tTru K (tCB (rIsX K a (.ref C) none) (tCons (tVar i) (tCons (tC (.ref D)) tNil)))) b := eta_is h hx fun _ r => r
omit [KK] in
theorem eta_isT {T : String} (h : PySem.W.kitOne K (.ref C) (.type T) = some b) (hx : ExcC K C) : Eta i a (tTru K (tCB (rIsX K a (.ref C) none) (tCons (tVar i) (tCons (tC (.ty T)) tNil)))) b := eta_is h hx fun _ r => r
/-! isinstance(e, (A, B, ..)) -/
omit [KK] in
def rIsXT (K : PySem.W.Frag) (a : Addr) (cls : Value) (d : Option Addr) : List V → Hp → VK → Prop := fun xs H Q => ∃ (D tp : Addr) (cs : List V) (us : List Value) (b : Bool), cls = .ref D ∧ d = none ∧ ExcC K D ∧ xs = [.ref a, .ref tp] ∧ H tp = some (.tup cs) ∧ Paired ClsV cs us ∧ PySem.W.kitAny K (.ref D) us = some b ∧ Q (.bl b) H
omit [KK] in
theorem j_isET {X : Cx} (K : PySem.W.Frag) {oe : Obj} {cls : Value} {d : Option Addr} {pn : List (Addr × Obj)} (hz : Zc cls d oe) (hf : ∃ vs, oe.data = .fields vs) (hK : X.K = K := by rfl) : CallR (X.suite a ((a, oe) :: pn)) (.builtin "isinstance") (rIsXT K a cls d) := by
  subst hK
  intro pins s σ H xs us Q I r h
  obtain ⟨D, tp, cs, ws, b, rfl, rfl, hx, rfl, hT, k, e, q⟩ := h
  obtain ⟨u1, u2, rfl, r1, r2⟩ := vals2 r
  cases (show u1 = Value.ref a from r1)
  cases (show u2 = Value.ref tp from r2)
  obtain ⟨_, its, rv, o, h1, h2, n, h3⟩ := I.hok tp _ hT
  have e3 := ClsV.all k rv
  subst e3
  obtain ⟨oc, od, dt, sl⟩ := o
  simp only at h2 h3
  subst h2 h3
  obtain ⟨hget, _⟩ := I.pin (a, oe) (List.mem_append.mpr (.inl List.mem_cons_self))
  obtain ⟨vs, hv⟩ := hf
  have J : PySem.W.InstAt s.heap a oe D none := by
    obtain ⟨oc, od, oda, osl⟩ := oe
    obtain ⟨z1, z2⟩ := hz
    dsimp only at z1 z2 hv
    subst z1 z2 hv
    exact ⟨hget, rfl, rfl, trivial⟩
  exact PySem.W.kia_tup (PySem.W.handS_kitx_exc hx.hg hx.hk hx.hs hx.hd hx.ha hx.hn hx.ht hx.hm) I.kIn J h1 e (fun z => nomatch z) fun tk => ⟨.bl b, H, I.tok tk, rfl, q⟩
omit [KK] in
theorem eta_isTup {ta : TA} {cs : List V} {us : List Value} (ht : ∀ σ H (Q : List V → Hp → Prop), Q cs H → ta σ H Q) (hcs : cs.length ≤ 1000) (hp : Paired ClsV cs us) (h : PySem.W.kitAny K (.ref C) us = some b) (hx : ExcC K C) : Eta i a (tTru K (tCB (rIsXT K a (.ref C) none) (tCons (tVar i) (tCons (tTup ta) tNil)))) b := fun H σ Q e q =>
  ⟨.ref a, e, ht σ H _ ⟨line_of (by omega), fun p hp1 => ⟨C, p, cs, us, b, rfl, rfl, hx, rfl, upd_same, hp, h, b, rfl, q _ (same_new hp1)⟩⟩⟩
/-! try with named clauses -/
def CaughtC (E : XK) (K : PySem.W.Frag) (S : DSt) (C : Addr) (o : Ou) : List Cl → Prop
  | [] => False
  | (c, none, ts) :: r => (PySem.W.exmOne K (.ref C) c = some true ∧ ∀ a, DX E (ts a (.ref C) none) S o) ∨ (PySem.W.exmOne K (.ref C) c = some false ∧ CaughtC E K S C o r)
  | (c, some i, ts) :: r => (PySem.W.exmOne K (.ref C) c = some true ∧ S[i]? = some .no ∧ ∃ q, o = .rt q ∧ ∀ a, DXa E i a (ts a (.ref C) none) S o) ∨ (PySem.W.exmOne K (.ref C) c = some false ∧ CaughtC E K S C o r)
theorem Rl.any1 {H : Hp} {σ : St} {S : DSt} (rl : Rl H σ S) {i : Nat} {v : Option V} (hS : S[i]? = some .no) : Rl H (σ.set i v) S ∧ Same (Gm σ S H) (Gm (σ.set i v) S H) := by
  have nn : ∀ {j : Nat} {s : Sl}, s ≠ .no → S[j]? = some s → j ≠ i := fun {j s} hs h e => by
    rw [e, hS] at h
    exact hs (Option.some.inj h).symm
  have hset : S.set i .no = S := by
    refine List.ext_getElem? fun j => ?_
    by_cases e : i = j
    · subst e
      rw [List.getElem?_set_self (List.getElem?_eq_some_iff.mp hS).1, hS]
    · rw [List.getElem?_set_ne e]
  have own : ∀ l, Own (σ.set i v) S l → Own σ S l := fun l w => Own.set_va (i := i) (s := .no) (v := v) (fun ds e => by cases e) rfl (by rw [hset]; exact w)
  have sm : Same (Gm σ S H) (Gm (σ.set i v) S H) := Gm_le_of own
  have hbo := rl.bo_put (i := i) (v := v) (s0 := .no) (H' := H) sm (fun _ _ _ q => q) fun _ => trivial
  rw [hset] at hbo
  refine ⟨⟨by rw [List.length_set]; exact rl.len, fun j d' h' => ?_, fun j ds h' => ?_, fun j k ds es l h1 h2 h3 h4 => ?_, hbo, rl.one⟩, sm⟩
  · obtain ⟨w, h1, h2⟩ := rl.va j d' h'
    exact ⟨w, by rw [List.getElem?_set_ne (Ne.symm (nn (fun z => by cases z) h'))]; exact h1, Da.mono sm _ _ h2⟩
  · obtain ⟨l, xs, h1, h2, h3⟩ := rl.ow j ds h'
    exact ⟨l, xs, by rw [List.getElem?_set_ne (Ne.symm (nn (fun z => by cases z) h'))]; exact h1, h2, DaL.mono sm _ _ h3⟩
  · rw [List.getElem?_set_ne (Ne.symm (nn (fun z => by cases z) h1))] at h3
    rw [List.getElem?_set_ne (Ne.symm (nn (fun z => by cases z) h2))] at h4
    exact rl.sep j k ds es l h1 h2 h3 h4
theorem caughtC_W {K : PySem.W.Frag} {C : Addr} {Wout : WX} {D : Ends} {σ : St} {H : Hp} {G : Hp} (rl : Rl H σ S) (k : Fin E D G o) (e : Same G (Gm σ S H)) : ∀ l, CaughtC E K S C o l → wCl K Wout D l (.ref C) none σ H
  | (c, none, ts) :: r, h => by
    rcases h with ⟨h1, h2⟩ | ⟨h1, h2⟩
    · exact ⟨true, h1, fun _ a _ => h2 a D H σ rl (k.up e), fun z => nomatch z⟩
    · exact ⟨false, h1, (fun z => nomatch z), fun _ => caughtC_W rl k e r h2⟩
  | (c, some i, ts) :: r, h => by
    rcases h with ⟨h1, hS, q, eo, h2⟩ | ⟨h1, h2⟩
    · refine ⟨true, h1, fun _ a _ => ?_, fun z => nomatch z⟩
      obtain ⟨r1, s1⟩ := rl.any1 (v := some (.ref a)) hS
      have hlt : i < σ.length := by
        rw [rl.len]
        exact (List.getElem?_eq_some_iff.mp hS).1
      subst eo
      exact h2 a (endsN i D) H _ r1 (List.getElem?_set_self hlt) (FinR.up (e.trans s1) k)
    · exact ⟨false, h1, (fun z => nomatch z), fun _ => caughtC_W rl k e r h2⟩
/-- a body that refuses, whatever is wished of refusals -/
def Tz (t : WX → TS) (S : DSt) (C : Addr) : Prop := ∀ (W : WX) (D : Ends) H σ, Rl H σ S → (∀ H', Same H H' → W (.ref C) none σ H') → t W D σ H
/-- a body that does not -/
def Tn (E : XK) (t : WX → TS) (S : DSt) (o : Ou) : Prop := ∀ (W : WX), DX E (t W) S o
theorem t_tryC {Wout : WX} {l : List Cl} {t : WX → TS} (h : Tz t S C) (hc : CaughtC E K S C o l) : DX E (tTryC K Wout t l) S o := fun D H σ rl k =>
  h _ D H σ rl fun H' e => caughtC_W (rl.mono e) k (Gm_mono e) l hc
theorem t_tryCN {Wout : WX} {l : List Cl} {t : WX → TS} (h : Tn E t S o) : DX E (tTryC K Wout t l) S o := fun D H σ rl k => h _ D H σ rl k
theorem tz_drop {R : List PyData → Ro → Prop} (h : Ea ta S ds) (hR : R ds (.ex C)) : Tz (fun W : WX => tDrop (tCallS (SpR R) (WE W) ta)) S C := fun W D H σ rl k => h H σ rl _ fun vs H1 e1 q1 => ⟨ds, .ex C, q1, hR, fun H' e2 => k H' (e1.trans e2)⟩
theorem tz_ret {R : List PyData → Ro → Prop} (h : Ea ta S ds) (hR : R ds (.ex C)) : Tz (fun W : WX => tRet (tCallS (SpR R) (WE W) ta)) S C := fun W D H σ rl k => h H σ rl _ fun vs H1 e1 q1 => ⟨ds, .ex C, q1, hR, fun H' e2 => k H' (e1.trans e2)⟩
theorem tn_drop {R : List PyData → Ro → Prop} {d : PyData} (h : Ea ta S ds) (hR : R ds (.va d)) : Tn E (fun W : WX => tDrop (tCallS (SpR R) (WE W) ta)) S (.nx S) := fun W D H σ rl k => h H σ rl _ fun vs H1 e1 q1 =>
  ⟨ds, .va d, q1, hR, fun v H' e2 _ => k σ H' (rl.mono (e1.trans e2)) (Gm_mono (e1.trans e2))⟩
theorem tn_ret {R : List PyData → Ro → Prop} {d : PyData} (h : Ea ta S ds) (hR : R ds (.va d)) : Tn E (fun W : WX => tRet (tCallS (SpR R) (WE W) ta)) S (.rt (.va d)) := fun W D H σ rl k => h H σ rl _ fun vs H1 e1 q1 =>
  ⟨ds, .va d, q1, hR, fun v H' e2 q2 => k v H' (Gm_le.trans (e1.trans e2)) q2⟩
theorem tn_retN {R : List PyData → Ro → Prop} {es : List PyData} (h : Ea ta S ds) (hR : R ds (.nw es)) : Tn E (fun W : WX => tRet (tCallS (SpR R) (WE W) ta)) S (.rt (.nw es)) := fun W D H σ rl k => h H σ rl _ fun vs H1 e1 q1 =>
  ⟨ds, .nw es, q1, hR, fun l H' e2 hl q2 => k l H' (Gm_le.trans (e1.trans e2)) (Gm_le.free (e1.free hl)) q2⟩
end
end DL

namespace DL
open PySem L2
variable [KK]
/-! ### instances with one field: calls that change them -/
def heldN : Str := Str.ofString "held"
theorem hid_le {b : Addr} {H : Hp} : Same (hid b H) H := fun a o q => by
  unfold hid at q
  split at q
  · cases q
  · exact q
theorem hid_of {b a : Addr} {H : Hp} {o : HO} (n : a ≠ b) (h : H a = some o) : hid b H a = some o := by
  unfold hid
  rw [if_neg n]
  exact h
theorem hid_ne {b a : Addr} {H : Hp} {o : HO} (h : hid b H a = some o) : a ≠ b := fun z => by
  unfold hid at h
  rw [if_pos z] at h
  cases h
section
variable {H H' : Hp} {σ : St} {S : DSt}
/-- owned lists, instances, seen from behind a change at b -/
theorem Rl.ownedX {b : Addr} (rl : Rl H σ S) (e : Same (hid b H) H') (hb : ∃ C dx fs, H b = some (.ins C dx fs)) (hb' : ∃ C dx fs, H' b = some (.ins C dx fs)) {l : Addr} (w : Own σ S l) : (∃ xs, H' l = some (.lst xs)) ∨ ∃ C dx fs, H' l = some (.ins C dx fs) := by
  by_cases z : l = b
  · subst z
    exact .inr hb'
  · rcases rl.owned w with ⟨xs, q⟩ | ⟨C, dx, fs, q⟩
    · exact .inl ⟨xs, e l _ (hid_of z q)⟩
    · exact .inr ⟨C, dx, fs, e l _ (hid_of z q)⟩
/-- slot i tells anew of its instances; one of them, at b, was changed -/
theorem Rl.rebook {b : Addr} {i : Nat} {s0 s1 : Sl} (rl : Rl H σ S) (hi : S[i]? = some s0) (hs : s1.books = s0.books) (hb : b ∈ s0.books) (e : Same (hid b H) H')
    (ok : Same (Gm σ S H) (Gm σ (S.set i s1) H') → (∀ l, Own σ (S.set i s1) l ↔ Own σ S l) → SlOk H' (Gm σ (S.set i s1) H') σ[i]? s1) :
    Rl H' σ (S.set i s1) ∧ Same (Gm σ S H) (Gm σ (S.set i s1) H') := by
  have hiS : i < S.length := (List.getElem?_eq_some_iff.mp hi).1
  have ne0 : s0.books ≠ [] := List.ne_nil_of_mem hb
  have ne1 : s1.books ≠ [] := by rw [hs]; exact ne0
  have back : ∀ {j : Nat} {s : Sl}, (S.set i s1)[j]? = some s → (j = i ∧ s = s1) ∨ (j ≠ i ∧ S[j]? = some s) := fun {j s} h => by
    rcases set_get h with ⟨a, b, _⟩ | ⟨a, b⟩
    · exact .inl ⟨a, b.symm⟩
    · exact .inr ⟨a, b⟩
  have oth : ∀ {j : Nat} {s : Sl}, j ≠ i → S[j]? = some s → s.books = [] := fun {j s} n h => by
    cases q : s.books with
    | nil => rfl
    | cons x r => exact absurd (rl.one j i s s0 h hi (by rw [q]; simp) ne0) n
  have own : ∀ l, Own σ (S.set i s1) l ↔ Own σ S l := fun l => by
    constructor
    · rintro (⟨j, ds, h1, h2⟩ | ⟨j, s, h1, h2⟩)
      · rcases back h1 with ⟨_, z⟩ | ⟨_, h1⟩
        · rw [← z] at ne1
          exact absurd rfl ne1
        · exact .inl ⟨j, ds, h1, h2⟩
      · rcases back h1 with ⟨_, z⟩ | ⟨_, h1⟩
        · rw [z, hs] at h2
          exact .inr ⟨i, s0, hi, h2⟩
        · exact .inr ⟨j, s, h1, h2⟩
    · rintro (⟨j, ds, h1, h2⟩ | ⟨j, s, h1, h2⟩)
      · have n : j ≠ i := fun z => by
          rw [z, hi] at h1
          cases h1
          exact ne0 rfl
        exact .inl ⟨j, ds, by rw [List.getElem?_set_ne (Ne.symm n)]; exact h1, h2⟩
      · by_cases n : j = i
        · rw [n, hi] at h1
          cases h1
          exact .inr ⟨i, s1, List.getElem?_set_self hiS, by rw [hs]; exact h2⟩
        · exact .inr ⟨j, s, by rw [List.getElem?_set_ne (Ne.symm n)]; exact h1, h2⟩
  have ob : Own σ S b := .inr ⟨i, s0, hi, hb⟩
  have sm : Same (Gm σ S H) (Gm σ (S.set i s1) H') := fun a o q => by
    obtain ⟨n, q⟩ := Gm_some q
    exact Gm_of (fun w => n ((own a).mp w)) (e a o (hid_of (fun z => n (z ▸ ob)) q))
  obtain ⟨Cb, dxb, fsb, hins⟩ := (rl.bo i s0 hi).ins hb
  refine ⟨⟨by rw [List.length_set]; exact rl.len, fun j d h => ?_, fun j ds h => ?_, fun j k ds es l h1 h2 => ?_, fun j s h => ?_, fun j k s t h1 h2 b1 b2 => ?_⟩, sm⟩
  · rcases back h with ⟨_, z⟩ | ⟨_, h⟩
    · rw [← z] at ne1
      exact absurd rfl ne1
    · obtain ⟨v, q1, q2⟩ := rl.va j d h
      exact ⟨v, q1, Da.mono sm _ _ q2⟩
  · rcases back h with ⟨_, z⟩ | ⟨_, h⟩
    · rw [← z] at ne1
      exact absurd rfl ne1
    · obtain ⟨l, xs, q1, q2, q3⟩ := rl.ow j ds h
      exact ⟨l, xs, q1, e l _ (hid_of (fun z => by rw [z, hins] at q2; cases q2) q2), DaL.mono sm _ _ q3⟩
  · rcases back h1 with ⟨_, z⟩ | ⟨_, h1⟩
    · rw [← z] at ne1
      exact absurd rfl ne1
    rcases back h2 with ⟨_, z⟩ | ⟨_, h2⟩
    · rw [← z] at ne1
      exact absurd rfl ne1
    exact rl.sep j k ds es l h1 h2
  · rcases back h with ⟨z1, z2⟩ | ⟨n, h⟩
    · subst z1 z2
      exact ok sm own
    · exact (rl.bo j s h).mono sm fun a o ha => by
        rw [oth n h] at ha
        cases ha
  · rcases back h1 with ⟨z1, _⟩ | ⟨n, h1⟩
    · rcases back h2 with ⟨z3, _⟩ | ⟨n, h2⟩
      · rw [z1, z3]
      · exact absurd (oth n h2) b2
    · exact absurd (oth n h1) b1
/-- no owned list may be told by bs -/
def NeL (S : DSt) (bs : List PyData) : Prop := ∀ (j : Nat) es, S[j]? = some (.ow es) → ∀ H xs, DaL H bs xs → DaL H es xs → False
theorem neL_free (n : noOwL S = true) {bs : List PyData} : NeL S bs := fun j es h => absurd h (noOwL_get n j es)
/-- what an instance holds behind a change, seen by who owns it -/
theorem BkAt.own {C b : Addr} {bs : List PyData} {S' : DSt} (rl : Rl H σ S) (hb : ∃ C dx fs, H b = some (.ins C dx fs)) (own : ∀ l, Own σ S' l ↔ Own σ S l) (e : Same (hid b H) H') (h : BkAt H' (hid b H') C b bs) (nl : NeL S bs) : BkAt H' (Gm σ S' H') C b bs := by
  obtain ⟨dx, l, xs, h1, h2, h3, h4, h5⟩ := h
  have ox := fun (m : Addr) (w : Own σ S' m) => rl.ownedX e hb ⟨_, _, _, h1⟩ ((own m).mp w)
  have bt : But H H' := fun a o q hn => e a o (hid_of (fun z => by
    obtain ⟨C2, d2, f2, q2⟩ := hb
    rw [z, q2] at q
    exact hn C2 d2 f2 (Option.some.inj q).symm) q)
  refine ⟨dx, l, xs, h1, Gm_of (fun w => ?_) (hid_le _ _ h2), Gm_of (fun w => ?_) (hid_le _ _ h3), ?_, h5⟩
  · have h2 := hid_le _ _ h2
    rcases ox dx w with ⟨ys, q⟩ | ⟨C2, d2, f2, q⟩ <;> rw [h2] at q <;> cases q
  · rcases (own l).mp w with ⟨j, es, q1, q2⟩ | ⟨j, s, q1, q2⟩
    · obtain ⟨l2, ys, w1, w2, w3⟩ := rl.ow j es q1
      rw [q2] at w1
      cases w1
      have z := e l _ (hid_of (hid_ne h3) w2)
      rw [hid_le _ _ h3] at z
      cases z
      exact nl j es q1 H' xs (DaL.mono hid_le _ _ h4) (DaL.but bt _ _ (DaL.mono Gm_le _ _ w3))
    · obtain ⟨C2, d2, f2, q⟩ := (rl.bo j s q1).ins q2
      have z := e l _ (hid_of (hid_ne h3) q)
      rw [hid_le _ _ h3] at z
      cases z
  · refine DaL.tups (fun a ys q => Gm_of (fun w => ?_) (hid_le _ _ q)) _ _ h5 h4
    have q := hid_le _ _ q
    rcases ox a w with ⟨zs, q2⟩ | ⟨C2, d2, f2, q2⟩ <;> rw [q] at q2 <;> cases q2
/-- the state S owns an instance of C at b, that holds bs; S' is the same state where it holds bs' -/
structure BkSt (S : DSt) (C b : Addr) (bs bs' : List PyData) (S' : DSt) : Prop where
  ob : OwnB S b
  at_ : ∀ H σ, Rl H σ S → BkAt H (Gm σ S H) C b bs
  up : ∀ H σ H', Rl H σ S → Same (hid b H) H' → BkAt H' (hid b H') C b bs' → Rl H' σ S' ∧ Same (Gm σ S H) (Gm σ S' H')
variable {C b : Addr} {bs bs' : List PyData} {i : Nat}
theorem bkSlot (hi : S[i]? = some (.bk C b bs)) (nl : NeL S bs') : BkSt S C b bs bs' (S.set i (.bk C b bs')) where
  ob := ⟨i, _, hi, by simp [Sl.books]⟩
  at_ := fun H σ rl => (rl.bo i _ hi).2
  up := fun H σ H' rl e h => by
    have hb := (rl.bo i _ hi).ins (a := b) (by simp [Sl.books])
    exact rl.rebook (s1 := .bk C b bs') hi rfl (by simp [Sl.books]) e fun sm own => ⟨(rl.bo i _ hi).1, BkAt.own rl hb own e h nl⟩
theorem bkList {ps : List (Addr × List PyData)} {k : Nat} (hi : S[i]? = some (.bl C ps)) (hk : ps[k]? = some (b, bs)) (nl : NeL S bs') : BkSt S C b bs bs' (S.set i (.bl C (ps.set k (b, bs')))) where
  ob := ⟨i, _, hi, List.mem_map.mpr ⟨_, List.mem_of_getElem? hk, rfl⟩⟩
  at_ := fun H σ rl => (rl.bo i _ hi).2.2 _ (List.mem_of_getElem? hk)
  up := fun H σ H' rl e h => by
    have hm : b ∈ (Sl.bl C ps).books := List.mem_map.mpr ⟨_, List.mem_of_getElem? hk, rfl⟩
    have hb := (rl.bo i _ hi).ins hm
    have hmap : ∀ {β : Type} (f : Addr → β), (ps.set k (b, bs')).map (fun p => f p.1) = ps.map fun p => f p.1 := fun f => by
      rw [List.map_set]
      refine List.ext_getElem? fun j => ?_
      by_cases z : k = j
      · subst z
        have hlt := (List.getElem?_eq_some_iff.mp hk).1
        rw [List.getElem?_set_self (by rw [List.length_map]; exact hlt), List.getElem?_map, hk]
        rfl
      · rw [List.getElem?_set_ne z]
    refine rl.rebook (s1 := .bl C (ps.set k (b, bs'))) hi (show (ps.set k (b, bs')).map (·.1) = ps.map (·.1) from hmap id) hm e fun sm own => ?_
    obtain ⟨⟨l, q1, q2⟩, q3, q4⟩ := rl.bo i _ hi
    have hm1 : (ps.set k (b, bs')).map (·.1) = ps.map (·.1) := hmap id
    refine ⟨⟨l, q1, by rw [hmap V.ref]; exact sm _ _ q2⟩, by rw [hm1]; exact q3, fun p hp => ?_⟩
    rcases List.mem_iff_getElem?.mp hp with ⟨j, hj⟩
    rcases set_get hj with ⟨_, z, _⟩ | ⟨n, hj⟩
    · rw [← z]
      exact BkAt.own rl hb own e h nl
    · have hp2 := List.mem_of_getElem? hj
      refine (q4 p hp2).mono sm fun o q => e p.1 o (hid_of (fun z => n ?_) q)
      have hlt := (List.getElem?_eq_some_iff.mp hk).1
      have hlt2 := (List.getElem?_eq_some_iff.mp hj).1
      have e1 : (ps.map (·.1))[j]? = some b := by rw [List.getElem?_map, hj]; exact congrArg some z
      have e2 : (ps.map (·.1))[k]? = some b := by rw [List.getElem?_map, hk]; rfl
      exact (List.getElem?_inj (by rw [List.length_map]; exact hlt2) q3).mp (e1.trans e2.symm)
end
/-! ### promises of defs that take an instance first -/
/-- it may be changed -/
def SpB (C : Addr) (R : List PyData → List PyData → Ro → List PyData → Prop) : Sp := fun vs H Q E => ∃ b bs ds r bs' ws, vs = .ref b :: ws ∧ BkAt H (hid b H) C b bs ∧ DaL H ds ws ∧ R bs ds r bs' ∧ FinP (fun H' => BkAt H' (hid b H') C b bs') E Q (hid b H) r
/-- it is read alone -/
def SpP (C : Addr) (R : List PyData → List PyData → Ro → Prop) : Sp := fun vs H Q E => ∃ b bs ds r ws, vs = .ref b :: ws ∧ BkAt H H C b bs ∧ DaL H ds ws ∧ R bs ds r ∧ FinR E Q H r
section
variable {E : XK} {S S' S'' : DSt} {te ta tb : TE} {tt tu : TT} {t u : TS} {tw : TA} {d d1 d2 : PyData} {ds es bs bs' : List PyData} {K : PySem.W.Frag} {r : Ro} {o : Ou} {C b : Addr} {i : Nat} {c c2 : Bool}
theorem SpB.len {R : List PyData → List PyData → Ro → List PyData → Prop} {n : Nat} (h : ∀ bs ds r bs', R bs ds r bs' → ds.length + 1 = n) : ∀ vs H Q E, SpB C R vs H Q E → vs.length = n := fun vs H Q E ⟨b, bs, ds, r, bs', ws, e, _, h2, h3, _⟩ => by
  rw [e, List.length_cons, h2.length]
  exact h _ _ _ _ h3
theorem SpP.len {R : List PyData → List PyData → Ro → Prop} {n : Nat} (h : ∀ bs ds r, R bs ds r → ds.length + 1 = n) : ∀ vs H Q E, SpP C R vs H Q E → vs.length = n := fun vs H Q E ⟨b, bs, ds, r, ws, e, _, h2, h3, _⟩ => by
  rw [e, List.length_cons, h2.length]
  exact h _ _ _ h3
theorem start_bk {H : Hp} {ws : List V} (n : Nat) {s0 : Sl} (hs : s0 = .bk C b bs ∨ s0 = .bp C b bs) (hB : ∃ G, BkAt H G C b bs ∧ Same G (Gm (some (.ref b) :: (ws.map some ++ List.replicate n none)) (s0 :: (ds.map Sl.va ++ List.replicate n Sl.no)) H)) (h : DaL H ds ws) :
    Rl H (some (.ref b) :: (ws.map some ++ List.replicate n none)) (s0 :: (ds.map Sl.va ++ List.replicate n Sl.no)) := by
  have rl := start_rl (H := H) n h
  obtain ⟨G, hG, sG⟩ := hB
  have tail : ∀ (j : Nat) s, (ds.map Sl.va ++ List.replicate n Sl.no)[j]? = some s → s = .no ∨ ∃ d, s = .va d := fun j s e => by
    rcases List.mem_append.mp (List.mem_of_getElem? e) with z | z
    · obtain ⟨x, _, q⟩ := List.mem_map.mp z
      exact .inr ⟨x, q.symm⟩
    · exact .inl (List.mem_replicate.mp z).2
  have hins : ∃ C dx fs, H b = some (.ins C dx fs) := by
    obtain ⟨dx, _, _, q, _⟩ := hG
    exact ⟨C, dx, _, q⟩
  have notO : ∀ l, Own (some (.ref b) :: (ws.map some ++ List.replicate n none)) (s0 :: (ds.map Sl.va ++ List.replicate n Sl.no)) l → l = b := fun l w => by
    rcases w with ⟨j, es, h1, _⟩ | ⟨j, s, h1, h2⟩
    · cases j with
      | zero =>
        have h1 : s0 = .ow es := Option.some.inj h1
        rcases hs with z | z <;> rw [z] at h1 <;> cases h1
      | succ j => rcases tail j _ (by simpa using h1) with z | ⟨d, z⟩ <;> cases z
    · cases j with
      | zero =>
        have h1 : s0 = s := Option.some.inj h1
        subst h1
        rcases hs with z | z <;> rw [z] at h2
        · simpa [Sl.books] using h2
        · cases h2
      | succ j => rcases tail j _ (by simpa using h1) with z | ⟨d, z⟩ <;> rw [z] at h2 <;> cases h2
  have bt : But H (Gm (some (.ref b) :: (ws.map some ++ List.replicate n none)) (s0 :: (ds.map Sl.va ++ List.replicate n Sl.no)) H) := fun a o q hn => Gm_of (fun w => by
    obtain ⟨C2, d2, f2, q2⟩ := hins
    rw [notO a w, q2] at q
    exact hn C2 d2 f2 (Option.some.inj q).symm) q
  have plain : ∀ (j : Nat) s, (s0 :: (ds.map Sl.va ++ List.replicate n Sl.no))[j]? = some s → j ≠ 0 → s.books = [] ∧ ∀ H G v, SlOk H G v s := fun j s e hj => by
    cases j with
    | zero => exact absurd rfl hj
    | succ j => rcases tail j s (by simpa using e) with z | ⟨d, z⟩ <;> subst z <;> exact ⟨rfl, fun _ _ _ => trivial⟩
  refine ⟨by simp [h.length], fun j d e => ?_, fun j es e => ?_, fun j k es fs l e => ?_, fun j s e => ?_, fun j k s t h1 h2 b1 b2 => ?_⟩
  · cases j with
    | zero =>
      have e : s0 = .va d := Option.some.inj e
      rcases hs with z | z <;> rw [z] at e <;> cases e
    | succ j =>
      obtain ⟨v, q1, q2⟩ := rl.va j d (by simpa using e)
      exact ⟨v, by simpa using q1, Da.but bt _ _ (Da.mono Gm_le _ _ q2)⟩
  · cases j with
    | zero =>
      have e : s0 = .ow es := Option.some.inj e
      rcases hs with z | z <;> rw [z] at e <;> cases e
    | succ j => rcases tail j _ (by simpa using e) with z | ⟨d, z⟩ <;> cases z
  · cases j with
    | zero =>
      have e : s0 = .ow es := Option.some.inj e
      rcases hs with z | z <;> rw [z] at e <;> cases e
    | succ j => rcases tail j _ (by simpa using e) with z | ⟨d, z⟩ <;> cases z
  · by_cases hj : j = 0
    · subst hj
      have e : s0 = s := Option.some.inj e
      subst e
      rcases hs with z | z
      · subst z
        exact ⟨rfl, hG.mono sG fun _ q => q⟩
      · subst z
        refine ⟨rfl, hG.mono sG fun o q => ?_⟩
        exact Gm_of (fun w => by
          rcases w with ⟨j, es, h1, _⟩ | ⟨j, s, h1, h2⟩
          · cases j with
            | zero => cases h1
            | succ j => rcases tail j _ (by simpa using h1) with z | ⟨d, z⟩ <;> cases z
          · cases j with
            | zero =>
              cases h1
              cases h2
            | succ j => rcases tail j _ (by simpa using h1) with z | ⟨d, z⟩ <;> rw [z] at h2 <;> cases h2) q
    · exact (plain j s e hj).2 _ _ _
  · have z1 : j = 0 := Classical.byContradiction fun n => b1 (plain j s h1 n).1
    have z2 : k = 0 := Classical.byContradiction fun n => b2 (plain k t h2 n).1
    rw [z1, z2]
theorem start_eq {N : List Str} {x : V} {ws : List V} {n : Nat} (hn : n = N.length - (ws.length + 1)) : L2.start N (x :: ws) = some x :: (ws.map some ++ List.replicate n none) := by
  unfold L2.start
  rw [List.length_cons, hn]
  rfl
theorem run_ofB {R : List PyData → List PyData → Ro → List PyData → Prop} {N : List Str} {t : TS} {vs : List V} {H : Hp} {Q : VK} (h : SpB C R vs H Q E)
    (hb : ∀ b bs ds r bs', R bs ds r bs' → DX E t (.bk C b bs :: (ds.map Sl.va ++ List.replicate (N.length - (ds.length + 1)) Sl.no)) (.rt (.bo C b bs' r))) : t { nx := fun _ H' => Q .non H', rt := Q } (L2.start N vs) H := by
  obtain ⟨b, bs, ds, r, bs', ws, rfl, h1, h2, h3, h4⟩ := h
  rw [start_eq (n := N.length - (ds.length + 1)) (by rw [h2.length])]
  have g : Gm (some (.ref b) :: (ws.map some ++ List.replicate (N.length - (ds.length + 1)) none)) (.bk C b bs :: (ds.map Sl.va ++ List.replicate (N.length - (ds.length + 1)) Sl.no)) H = hid b H := by
    funext a
    by_cases z : a = b
    · subst z
      unfold Gm hid
      rw [if_pos rfl, if_pos (.inr ⟨0, _, rfl, by simp [Sl.books]⟩)]
    · unfold Gm hid
      rw [if_neg z, if_neg]
      rintro (⟨j, es, q1, _⟩ | ⟨j, s, q1, q2⟩)
      · cases j with
        | zero => cases q1
        | succ j =>
          rcases List.mem_append.mp (List.mem_of_getElem? (by simpa using q1)) with z | z
          · obtain ⟨x, _, q⟩ := List.mem_map.mp z
            cases q
          · have := (List.mem_replicate.mp z).2
            cases this
      · cases j with
        | zero =>
          cases q1
          exact z (by simpa [Sl.books] using q2)
        | succ j =>
          rcases List.mem_append.mp (List.mem_of_getElem? (by simpa using q1)) with z | z
          · obtain ⟨x, _, q⟩ := List.mem_map.mp z
            rw [← q] at q2
            cases q2
          · rw [(List.mem_replicate.mp z).2] at q2
            cases q2
  have rl := start_bk (N.length - (ds.length + 1)) (.inl rfl) ⟨hid b H, h1, by rw [g]; exact Same.refl _⟩ h2
  exact hb b bs ds r bs' h3 { nx := fun _ H' => Q .non H', rt := Q } H _ rl (by rw [g]; exact h4)
theorem run_ofP {R : List PyData → List PyData → Ro → Prop} {N : List Str} {t : TS} {vs : List V} {H : Hp} {Q : VK} (h : SpP C R vs H Q E)
    (hb : ∀ b bs ds r, R bs ds r → DX E t (.bp C b bs :: (ds.map Sl.va ++ List.replicate (N.length - (ds.length + 1)) Sl.no)) (.rt r)) : t { nx := fun _ H' => Q .non H', rt := Q } (L2.start N vs) H := by
  obtain ⟨b, bs, ds, r, ws, rfl, h1, h2, h3, h4⟩ := h
  rw [start_eq (n := N.length - (ds.length + 1)) (by rw [h2.length])]
  have g : Gm (some (.ref b) :: (ws.map some ++ List.replicate (N.length - (ds.length + 1)) none)) (.bp C b bs :: (ds.map Sl.va ++ List.replicate (N.length - (ds.length + 1)) Sl.no)) H = H := Gm_free (by
    have : ∀ (l : List PyData) (n : Nat), noOw (l.map Sl.va ++ List.replicate n Sl.no) = true := fun l n => by
      induction l with
      | nil =>
        induction n with
        | zero => rfl
        | succ n ih => exact ih
      | cons a l ih => exact ih
    exact this ds _)
  have rl := start_bk (N.length - (ds.length + 1)) (.inr rfl) ⟨H, h1, by rw [g]; exact Same.refl _⟩ h2
  exact hb b bs ds r h3 { nx := fun _ H' => Q .non H', rt := Q } H _ rl (by rw [g]; exact h4)

/-! ### the field -/
theorem e_held (hi : S[i]? = some (.bk C b bs) ∨ S[i]? = some (.bp C b bs)) (c : Cls K C) (n : NoAttr K C "held") : Ep (tFld K (tVar i) "held") S (.list bs) := fun H σ rl Q q => by
  rcases hi with hi | hi
  · obtain ⟨h1, dx, h, xs, h2, h3, h4, h5, h6⟩ := rl.bo i _ hi
    exact ⟨_, h1, b, C, dx, _, _, rfl, h2, c, n, rfl, q _ H (Same.refl H) ⟨h, xs, rfl, h4, h5⟩⟩
  · obtain ⟨h1, dx, h, xs, h2, h3, h4, h5, h6⟩ := rl.bo i _ hi
    exact ⟨_, h1, b, C, dx, _, _, rfl, Gm_le _ _ h2, c, n, rfl, q _ H (Same.refl H) ⟨h, xs, rfl, h4, h5⟩⟩
/-- self.held = e -/
theorem x_held (hi : S[i]? = some (.bk C b bs)) (h : Ep te S (.list bs')) (im : immL bs' = true) (nl : NeL S bs') (c : Cls K C) (n : NoAttr K C "held") : DX E (sFld K (tVar i) te "held") S (.nx (S.set i (.bk C b bs'))) := fun D H σ rl k =>
  h H σ rl _ fun v H1 e1 q1 => by
    have rl1 := rl.mono e1
    obtain ⟨h1, dx, h, xs, h2, h3, h4, h5, h6⟩ := rl1.bo i _ hi
    obtain ⟨l, ys, rfl, q2, q3⟩ := q1
    refine ⟨_, h1, b, C, dx, _, rfl, h2, c, n, (by show 1 < 1000; decide), ?_⟩
    have ep : putF "held" (.ref l) [(Str.ofString "held", V.ref h)] = [(Str.ofString "held", .ref l)] := by
      show (if Str.ofString "held" = Str.ofString "held" then _ else _) = _
      rw [if_pos rfl]
    rw [ep]
    have e2 : Same (hid b H1) (upd H1 b (.ins C dx [(Str.ofString "held", .ref l)])) := fun a o q => by
      rw [upd_ne (hid_ne q)]
      exact hid_le _ _ q
    have nb : ∀ a o, Gm σ S H1 a = some o → a ≠ b := fun a o q z => (Gm_some q).1 (z ▸ .inr ⟨i, _, hi, by simp [Sl.books]⟩)
    have e3 : Same (Gm σ S H1) (hid b (upd H1 b (.ins C dx [(Str.ofString "held", .ref l)]))) := fun a o q => hid_of (nb a o q) (by rw [upd_ne (nb a o q)]; exact (Gm_some q).2)
    obtain ⟨r2, s2⟩ := (bkSlot hi nl).up _ _ _ rl1 e2 ⟨dx, l, ys, upd_same, e3 _ _ h3, e3 _ _ q2, DaL.mono e3 _ _ q3, im⟩
    exact k _ _ r2 ((Gm_mono e1).trans s2)

/-! ### expressions that change instances -/
def EbM (te : TE) (S S' : DSt) (d : PyData) : Prop := ∀ H σ, Rl H σ S → ∀ Q : VK, (∀ v H1, Rl H1 σ S' → Same (Gm σ S H) (Gm σ S' H1) → Da H1 d v → Q v H1) → te σ H Q
def EtM (tt : TT) (S S' : DSt) (b : Bool) : Prop := ∀ H σ, Rl H σ S → ∀ Q : Bool → Hp → Prop, (∀ H1, Rl H1 σ S' → Same (Gm σ S H) (Gm σ S' H1) → Q b H1) → tt σ H Q
/-- it gives the instance at b -/
def Er (te : TE) (S : DSt) (b : Addr) : Prop := ∀ H σ, Rl H σ S → ∀ Q : VK, (∀ H1, Same H H1 → Q (.ref b) H1) → te σ H Q
theorem er_var (hi : S[i]? = some (.bk C b bs) ∨ S[i]? = some (.bp C b bs)) : Er (tVar i) S b := fun H σ rl Q q => by
  rcases hi with hi | hi
  · exact ⟨_, (rl.bo i _ hi).1, q H (Same.refl H)⟩
  · exact ⟨_, (rl.bo i _ hi).1, q H (Same.refl H)⟩
theorem er_ix {ps : List (Addr × List PyData)} {k : Int} {p : Addr × List PyData} (hi : S[i]? = some (.bl C ps)) (hw : Eb tb S (.int k)) (hk : atI ps k = some p) : Er (tOp (rIx K) (tVar i) tb) S p.1 := fun H σ rl Q q => by
  obtain ⟨⟨l, h1, h2⟩, _, _⟩ := rl.bo i _ hi
  refine ⟨_, h1, hw H σ rl _ fun w H1 e1 q1 => ?_⟩
  have hk' : (ixN ps.length k).bind (fun j => ps[j]?) = some p := hk
  obtain ⟨j, hj, hdj⟩ := Option.bind_eq_some_iff.mp hk'
  refine .inl ⟨l, _, k, .ref p.1, rfl, q1, SqL.of (e1 _ _ (Gm_le _ _ h2)), ?_, q H1 e1⟩
  show (ixN (ps.map fun p => V.ref p.1).length k).bind (fun j => (ps.map fun p => V.ref p.1)[j]?) = some (.ref p.1)
  rw [List.length_map, hj]
  show (ps.map fun p => V.ref p.1)[j]? = _
  rw [List.getElem?_map, hdj]
  rfl
theorem m_of (h : Eb te S d) : EbM te S S d := fun H σ rl Q q => h H σ rl Q fun v H1 e h1 => q v H1 (rl.mono e) (Gm_mono e) h1
theorem EbM.to {d' : PyData} (h : EbM te S S' d) (e : d = d') : EbM te S S' d' := e ▸ h
theorem EtM.to (h : EtM tt S S' c) (e : c = c2) : EtM tt S S' c2 := e ▸ h
theorem m_op {r : R2} (ha : EbM ta S S' d1) (hb : Eb tb S' d2) (hr : ∀ (x y : V) (H : Hp) (Q : VK), Da H d1 x → Da H d2 y → (∀ v H1, Same H H1 → Da H1 d v → Q v H1) → r x y H Q) : EbM (tOp r ta tb) S S' d := fun H σ rl Q q =>
  ha H σ rl _ fun x H1 r1 e1 h1 => hb H1 σ r1 _ fun y H2 e2 h2 => hr x y H2 Q (Da.mono e2 _ _ h1) h2 fun v H3 e3 h3 => q v H3 ((r1.mono e2).mono e3) (e1.trans (Gm_mono (e2.trans e3))) h3
theorem m_eq (ha : EbM ta S S' d1) (hb : Eb tb S' d2) (h1 : SeqAt.shaped d1 = true) (h2 : SeqAt.shaped d2 = true) : EbM (tOp (rEqD K) ta tb) S S' (.bool (PyData.eqv d1 d2)) :=
  m_op ha hb fun x y H Q q1 q2 q => ⟨d1, d2, Da.dp _ _ (SeqAt.canLay_of_shaped h1) q1, Da.dp _ _ (SeqAt.canLay_of_shaped h2) q2, h1, h2, q _ H (Same.refl H) rfl⟩
theorem m_ne (ha : EbM ta S S' d1) (hb : Eb tb S' d2) (h1 : SeqAt.shaped d1 = true) (h2 : SeqAt.shaped d2 = true) : EbM (tOp (rNeD K) ta tb) S S' (.bool (!PyData.eqv d1 d2)) :=
  m_op ha hb fun x y H Q q1 q2 q => ⟨d1, d2, Da.dp _ _ (SeqAt.canLay_of_shaped h1) q1, Da.dp _ _ (SeqAt.canLay_of_shaped h2) q2, h1, h2, q _ H (Same.refl H) rfl⟩
theorem mt_test (h : EbM te S S' (.bool c)) : EtM (tTest te) S S' c := fun H σ rl Q q => h H σ rl _ fun x H1 r1 e1 q1 => ⟨c, q1, q H1 r1 e1⟩
theorem mt_of (h : Et tt S c) : EtM tt S S c := fun H σ rl Q q => h H σ rl _ fun H1 e1 => q H1 (rl.mono e1) (Gm_mono e1)
theorem mt_or (h1 : EtM tt S S' false) (h2 : EtM tu S' S'' c) : EtM (tOr tt tu) S S'' c := fun H σ rl Q q => h1 H σ rl _ fun H1 r1 e1 => h2 H1 σ r1 Q fun H2 r2 e2 => q H2 r2 (e1.trans e2)
theorem m_and (h1 : EbM ta S S' (.bool true)) (h2 : EbM tb S' S'' d) : EbM (tAndV ta tb) S S'' d := fun H σ rl Q q =>
  h1 H σ rl _ fun x H1 r1 e1 q1 => ⟨true, q1, h2 H1 σ r1 Q fun v H2 r2 e2 q2 => q v H2 r2 (e1.trans e2) q2⟩
theorem mx_if (hc : EtM tt S S' c) (h1 : c = true → DX E t S' o) (h2 : c = false → DX E u S' o) : DX E (tIfS tt t u) S o := fun D H σ rl k =>
  hc H σ rl _ fun H1 r1 e1 => by
    cases c with
    | true => exact h1 rfl D H1 σ r1 (k.up e1)
    | false => exact h2 rfl D H1 σ r1 (k.up e1)
theorem mx_drop (h : EbM te S S' d) : DX E (tDrop te) S (.nx S') := fun D H σ rl k => h H σ rl _ fun v H1 r1 e1 q => k σ H1 r1 e1
theorem mx_asg {j : Nat} (h : EbM te S S' d) (im : imm d = true) : DX E (tAsg te (gName j)) S (.nx (S'.set j (.va d))) := fun D H σ rl k => h H σ rl _ fun v H1 r1 e1 q => by
  obtain ⟨h1, h2⟩ := r1.put (i := j) (r1.imm im q)
  exact k _ _ h1 (e1.trans h2)
theorem mx_asgB {j : Nat} (h : EbM te S S' d) (n : noOwL S' = true) : DX E (tAsg te (gName j)) S (.nx (S'.set j (.va d))) := fun D H σ rl k => h H σ rl _ fun v H1 r1 e1 q => by
  obtain ⟨h1, h2⟩ := r1.put (i := j) (Da.but (Gm_but r1 n) _ _ q)
  exact k _ _ h1 (e1.trans h2)
/-- a list that no owned list is told by -/
theorem mx_asgN {j : Nat} (h : EbM te S S' (.list ds)) (im : immL ds = true) (nl : NeL S' ds) : DX E (tAsg te (gName j)) S (.nx (S'.set j (.va (.list ds)))) := fun D H σ rl k => h H σ rl _ fun v H1 r1 e1 q => by
  obtain ⟨a, xs, rfl, q1, q2⟩ := q
  have q3 : Da (Gm σ S' H1) (.list ds) (.ref a) := by
    refine ⟨a, xs, rfl, Gm_of (fun w => ?_) q1, r1.immL im q2⟩
    rcases w with ⟨j2, es, w1, w2⟩ | ⟨j2, s, w1, w2⟩
    · obtain ⟨l2, ys, z1, z2, z3⟩ := r1.ow j2 es w1
      rw [w2] at z1
      cases z1
      rw [q1] at z2
      cases z2
      exact nl j2 es w1 H1 xs q2 (DaL.mono Gm_le _ _ z3)
    · obtain ⟨C2, d2, f2, z⟩ := (r1.bo j2 s w1).ins w2
      rw [q1] at z
      cases z
  obtain ⟨h1, h2⟩ := r1.put (i := j) q3
  exact k _ _ h1 (e1.trans h2)
/-! the end of a def that took an instance -/
theorem bk_last {H : Hp} {σ : St} (rl : Rl H σ S) (hi : S[i]? = some (.bk C b bs)) : BkAt H (hid b H) C b bs :=
  (rl.bo i _ hi).2.mono (fun a o q => hid_of (fun z => (Gm_some q).1 (z ▸ .inr ⟨i, _, hi, by simp [Sl.books]⟩)) (Gm_some q).2) fun _ q => q
theorem x_retB (hi : S[i]? = some (.bk C b bs)) (h : Eb te S d) : DX E (tRet te) S (.rt (.bo C b bs (.va d))) := fun D H σ rl k => h H σ rl _ fun v H1 e1 q => k v H1 (Gm_le.trans e1) (bk_last (rl.mono e1) hi) q
theorem x_retBN (hi : S[i]? = some (.bk C b bs)) (h : En te S ds) : DX E (tRet te) S (.rt (.bo C b bs (.nw ds))) := fun D H σ rl k => h H σ rl _ fun l H1 e1 hl q => k l H1 (Gm_le.trans e1) (bk_last (rl.mono e1) hi) (Gm_le.free hl) q
theorem x_raiseB {C2 : Addr} (hi : S[i]? = some (.bk C b bs)) : DX E (fun _ σ H => E (.ref C2) none H) S (.rt (.bo C b bs (.ex C2))) := fun D H σ rl k => k H Gm_le (bk_last rl hi)
theorem mx_retB (h : EbM te S S' d) (hi : S'[i]? = some (.bk C b bs)) : DX E (tRet te) S (.rt (.bo C b bs (.va d))) := fun D H σ rl k => h H σ rl _ fun v H1 r1 e1 q => k v H1 (e1.trans Gm_le) (bk_last r1 hi) q
theorem mx_ret (h : EbM te S S' d) : DX E (tRet te) S (.rt (.va d)) := fun D H σ rl k => h H σ rl _ fun v H1 r1 e1 q => k v H1 (e1.trans Gm_le) q

/-! ### calls -/
theorem m_call {R : List PyData → List PyData → Ro → List PyData → Prop} (er : Er te S b) (st : BkSt S C b bs bs' S') (ha : Ea tw S ds) (hR : R bs ds (.va d) bs') : EbM (tCall (SpB C R) [] E (tCons te tw)) S S' d := fun H σ rl Q q =>
  er H σ rl _ fun H1 e1 => ha H1 σ (rl.mono e1) _ fun ws H2 e2 q2 => by
    have rl2 := (rl.mono e1).mono e2
    refine ⟨b, bs, ds, .va d, bs', ws, by rw [List.append_nil], (st.at_ _ _ rl2).mono (fun a o z => hid_of (fun y => (Gm_some z).1 (y ▸ .inr st.ob)) (Gm_some z).2) fun _ z => z, q2, hR, fun v H' e3 hB q3 => ?_⟩
    obtain ⟨r3, s3⟩ := st.up _ _ _ rl2 e3 hB
    exact q v H' r3 ((Gm_mono (e1.trans e2)).trans s3) q3
theorem m_callN {R : List PyData → List PyData → Ro → List PyData → Prop} (er : Er te S b) (st : BkSt S C b bs bs' S') (ha : Ea tw S ds) (hR : R bs ds (.nw es) bs') : EbM (tCall (SpB C R) [] E (tCons te tw)) S S' (.list es) := fun H σ rl Q q =>
  er H σ rl _ fun H1 e1 => ha H1 σ (rl.mono e1) _ fun ws H2 e2 q2 => by
    have rl2 := (rl.mono e1).mono e2
    refine ⟨b, bs, ds, .nw es, bs', ws, by rw [List.append_nil], (st.at_ _ _ rl2).mono (fun a o z => hid_of (fun y => (Gm_some z).1 (y ▸ .inr st.ob)) (Gm_some z).2) fun _ z => z, q2, hR, fun l H' e3 hB _ q3 => ?_⟩
    obtain ⟨r3, s3⟩ := st.up _ _ _ rl2 e3 hB
    exact q _ H' r3 ((Gm_mono (e1.trans e2)).trans s3) q3
/-- o.m(..), in a try -/
def tMethW (C : Addr) (m : Str) (sp : Sp) (E : St → XK) (ta : TE) (t : TA) : TE := fun σ H Q => ta σ H fun x H1 => ∃ a dx fs, x = .ref a ∧ H1 a = some (.ins C dx fs) ∧ fs.lookup m = none ∧ t σ H1 fun vs H2 => sp (x :: vs) H2 Q (E σ)
theorem at_ins {H : Hp} {σ : St} (st : BkSt S C b bs bs' S') (rl : Rl H σ S) {m : Str} (hm : (m == Str.ofString "held") = false) : ∃ dx fs, H b = some (.ins C dx fs) ∧ fs.lookup m = none := by
  obtain ⟨dx, h, _, h1, _⟩ := st.at_ _ _ rl
  refine ⟨dx, _, h1, ?_⟩
  show (match m == Str.ofString "held" with | true => some (V.ref h) | false => List.lookup m []) = none
  rw [hm]
  rfl
theorem m_meth {R : List PyData → List PyData → Ro → List PyData → Prop} {m : Str} (er : Er te S b) (st : BkSt S C b bs bs' S') (ha : Ea tw S ds) (hR : R bs ds (.va d) bs') (hm : (m == Str.ofString "held") = false) : EbM (tMeth C m (SpB C R) [] E te tw) S S' d := fun H σ rl Q q =>
  er H σ rl _ fun H1 e1 => by
    obtain ⟨dx, fs, z1, z2⟩ := at_ins st (rl.mono e1) hm
    refine ⟨b, dx, fs, rfl, z1, z2, ha H1 σ (rl.mono e1) _ fun ws H2 e2 q2 => ?_⟩
    have rl2 := (rl.mono e1).mono e2
    refine ⟨b, bs, ds, .va d, bs', ws, by rw [List.append_nil], (st.at_ _ _ rl2).mono (fun a o z => hid_of (fun y => (Gm_some z).1 (y ▸ .inr st.ob)) (Gm_some z).2) fun _ z => z, q2, hR, fun v H' e3 hB q3 => ?_⟩
    obtain ⟨r3, s3⟩ := st.up _ _ _ rl2 e3 hB
    exact q v H' r3 ((Gm_mono (e1.trans e2)).trans s3) q3
theorem m_methW {R : List PyData → List PyData → Ro → List PyData → Prop} {m : Str} {X : St → XK} (er : Er te S b) (st : BkSt S C b bs bs' S') (ha : Ea tw S ds) (hR : R bs ds (.va d) bs') (hm : (m == Str.ofString "held") = false) : EbM (tMethW C m (SpB C R) X te tw) S S' d := fun H σ rl Q q =>
  er H σ rl _ fun H1 e1 => by
    obtain ⟨dx, fs, z1, z2⟩ := at_ins st (rl.mono e1) hm
    refine ⟨b, dx, fs, rfl, z1, z2, ha H1 σ (rl.mono e1) _ fun ws H2 e2 q2 => ?_⟩
    have rl2 := (rl.mono e1).mono e2
    refine ⟨b, bs, ds, .va d, bs', ws, rfl, (st.at_ _ _ rl2).mono (fun a o z => hid_of (fun y => (Gm_some z).1 (y ▸ .inr st.ob)) (Gm_some z).2) fun _ z => z, q2, hR, fun v H' e3 hB q3 => ?_⟩
    obtain ⟨r3, s3⟩ := st.up _ _ _ rl2 e3 hB
    exact q v H' r3 ((Gm_mono (e1.trans e2)).trans s3) q3
/-- a body that refuses, and may have changed instances -/
def TzM (t : WX → TS) (S S' : DSt) (C : Addr) : Prop := ∀ (W : WX) (D : Ends) H σ, Rl H σ S → (∀ H', Rl H' σ S' → Same (Gm σ S H) (Gm σ S' H') → W (.ref C) none σ H') → t W D σ H
theorem t_tryCM {Wout : WX} {l : List Cl} {t : WX → TS} {C2 : Addr} (h : TzM t S S' C2) (hc : CaughtC E K S' C2 o l) : DX E (tTryC K Wout t l) S o := fun D H σ rl k =>
  h _ D H σ rl fun H' r e => caughtC_W r k e l hc
theorem z_methW {R : List PyData → List PyData → Ro → List PyData → Prop} {m : Str} {W : WX} {C2 : Addr} {H : Hp} {σ : St} {Q : VK} (er : Er te S b) (st : BkSt S C b bs bs' S') (ha : Ea tw S ds) (hR : R bs ds (.ex C2) bs') (hm : (m == Str.ofString "held") = false) (rl : Rl H σ S)
    (k : ∀ H', Rl H' σ S' → Same (Gm σ S H) (Gm σ S' H') → W (.ref C2) none σ H') : tMethW C m (SpB C R) (WE W) te tw σ H Q :=
  er H σ rl _ fun H1 e1 => by
    obtain ⟨dx, fs, z1, z2⟩ := at_ins st (rl.mono e1) hm
    refine ⟨b, dx, fs, rfl, z1, z2, ha H1 σ (rl.mono e1) _ fun ws H2 e2 q2 => ?_⟩
    have rl2 := (rl.mono e1).mono e2
    refine ⟨b, bs, ds, .ex C2, bs', ws, rfl, (st.at_ _ _ rl2).mono (fun a o z => hid_of (fun y => (Gm_some z).1 (y ▸ .inr st.ob)) (Gm_some z).2) fun _ z => z, q2, hR, fun H' e3 hB => ?_⟩
    obtain ⟨r3, s3⟩ := st.up _ _ _ rl2 e3 hB
    exact k H' r3 ((Gm_mono (e1.trans e2)).trans s3)
theorem tzm_drop {R : List PyData → List PyData → Ro → List PyData → Prop} {m : Str} {C2 : Addr} (er : Er te S b) (st : BkSt S C b bs bs' S') (ha : Ea tw S ds) (hR : R bs ds (.ex C2) bs') (hm : (m == Str.ofString "held") = false) : TzM (fun W : WX => tDrop (tMethW C m (SpB C R) (WE W) te tw)) S S' C2 := fun W D H σ rl k => z_methW er st ha hR hm rl k
theorem tzm_asg {R : List PyData → List PyData → Ro → List PyData → Prop} {m : Str} {C2 : Addr} {g : TG} (er : Er te S b) (st : BkSt S C b bs bs' S') (ha : Ea tw S ds) (hR : R bs ds (.ex C2) bs') (hm : (m == Str.ofString "held") = false) : TzM (fun W : WX => tAsg (tMethW C m (SpB C R) (WE W) te tw) g) S S' C2 := fun W D H σ rl k => z_methW er st ha hR hm rl k
/-- methods that read alone -/
def BkHas (S : DSt) (C b : Addr) (bs : List PyData) : Prop := ∀ H σ, Rl H σ S → BkAt H H C b bs
theorem has_slot (hi : S[i]? = some (.bk C b bs) ∨ S[i]? = some (.bp C b bs)) : BkHas S C b bs := fun H σ rl => by
  rcases hi with hi | hi
  · exact (rl.bo i _ hi).2.mono Gm_le fun _ z => z
  · exact (rl.bo i _ hi).2.mono Gm_le fun _ z => Gm_le _ _ z
theorem has_list {ps : List (Addr × List PyData)} {k : Int} {p : Addr × List PyData} (hi : S[i]? = some (.bl C ps)) (hk : atI ps k = some p) : BkHas S C p.1 p.2 := fun H σ rl => by
  have hk' : (ixN ps.length k).bind (fun j => ps[j]?) = some p := hk
  obtain ⟨j, hj, hdj⟩ := Option.bind_eq_some_iff.mp hk'
  exact ((rl.bo i _ hi).2.2 p (List.mem_of_getElem? hdj)).mono Gm_le fun _ z => z
theorem n_methP {R : List PyData → List PyData → Ro → Prop} {m : Str} (er : Er te S b) (st : BkHas S C b bs) (hR : R bs [] (.nw es)) (hm : (m == Str.ofString "held") = false) : En (tMeth C m (SpP C R) [] E te tNil) S es := fun H σ rl Q q => by
  refine er H σ rl _ fun H1 e1 => ?_
  have hB := st _ _ (rl.mono e1)
  obtain ⟨dx, h, _, h1, _⟩ := id hB
  refine ⟨b, dx, _, rfl, h1, ?_, b, bs, [], .nw es, [], rfl, hB, rfl, hR, fun l H' e2 hl q2 => q l H' (e1.trans e2) (e1.free hl) q2⟩
  show (match m == Str.ofString "held" with | true => some (V.ref h) | false => List.lookup m []) = none
  rw [hm]
  rfl
/-- new().append(e): the list is thrown away -/
theorem x_appT (h : En te S ds) (he : Eb ta S d) (hz : ds.length < 100000) : DX E (tDrop (tBM K "list" rAppend te (tCons ta tNil))) S (.nx S) := fun D H σ rl k =>
  h H σ rl _ fun l H1 e1 hl q1 => by
    obtain ⟨a, xs, e, q2, q3⟩ := q1
    cases e
    refine ⟨.inl ⟨rfl, xs, SqL.of q2⟩, he H1 σ (rl.mono e1) _ fun v H2 e2 q4 => ?_⟩
    refine ⟨l, xs, v, rfl, rfl, e2 _ _ q2, Nat.lt_of_lt_of_le (by rw [q3.length]; exact hz) (by decide : 100000 ≤ sizeLine), ?_⟩
    have e3 : Same H (upd H2 l (.lst (xs ++ [v]))) := fun a o q => by
      rw [upd_ne (ne_of_none q hl)]
      exact e2 _ _ (e1 _ _ q)
    exact k σ _ (rl.mono e3) (Gm_mono e3)
/-! ### making instances -/
/-- __init__ -/
def spInit (C : Addr) : Sp := fun vs H Q _ => ∃ b dx, vs = [.ref b] ∧ H b = some (.ins C dx []) ∧ H dx = some (.own b) ∧ ∀ H' h, Same (hid b H) H' → hid b H h = none → H' b = some (.ins C dx [(Str.ofString "held", .ref h)]) → H' h = some (.lst []) → h ≠ b → Q .non H'
theorem run_init {N : List Str} {vs : List V} {H : Hp} {Q : VK} (hN : 1 ≤ N.length) (h : spInit C vs H Q E) (c : Cls K C) (n : NoAttr K C "held") : sFld K (tVar 0) (tLst tNil) "held" { nx := fun _ H' => Q .non H', rt := Q } (L2.start N vs) H := by
  obtain ⟨b, dx, rfl, h1, h2, k⟩ := h
  refine ⟨Nat.zero_le _, fun l hl => ?_⟩
  have nbl : b ≠ l := ne_of_none h1 hl
  refine ⟨_, rfl, b, C, dx, [], rfl, by rw [upd_ne nbl]; exact h1, c, n, (by show 0 < 1000; decide), ?_⟩
  refine k _ l (fun a o q => ?_) ?_ upd_same (by rw [upd_ne nbl.symm, upd_same]) nbl.symm
  · rw [upd_ne (hid_ne q), upd_ne (ne_of_none (hid_le _ _ q) hl)]
    exact hid_le _ _ q
  · unfold hid
    rw [if_neg nbl.symm]
    exact hl
/-- a new instance: it, its dict, its list -/
structure New (H H' : Hp) (C b dx h : Addr) : Prop where
  same : Same H H'
  fb : H b = none
  fd : H dx = none
  fh : H h = none
  hb : H' b = some (.ins C dx [(Str.ofString "held", .ref h)])
  hd : H' dx = some (.own b)
  hh : H' h = some (.lst [])
theorem New.bk {H H' : Hp} {C b dx h : Addr} (n : New H H' C b dx h) : BkAt H' (hid b H') C b [] :=
  ⟨dx, h, [], n.hb, hid_of (fun z => by have q := n.hd; rw [z, n.hb] at q; cases q) n.hd, hid_of (fun z => by have q := n.hh; rw [z, n.hb] at q; cases q) n.hh, rfl, rfl⟩
theorem mk_new {H : Hp} {σ : St} {Q : VK} (k : ∀ b dx h H', New H H' C b dx h → Q (.ref b) H') : tMake C (spInit C) [] E tNil σ H Q := fun b dx hb hdx ne => by
  refine ⟨b, dx, rfl, upd_same, by rw [upd_ne ne, upd_same], fun H' h e hh h1 h2 nh => ⟨rfl, ?_⟩⟩
  have e0 : Same H (hid b (upd (upd H dx (.own b)) b (.ins C dx []))) := fun a o q => hid_of (ne_of_none q hb) (by rw [upd_ne (ne_of_none q hb), upd_ne (ne_of_none q hdx)]; exact q)
  exact k b dx h H' ⟨e0.trans e, hb, hdx, e0.free hh, h1, e _ _ (hid_of ne (by rw [upd_ne ne, upd_same])), h2⟩
/-- f(C(), ..): the instance is known to the callee alone -/
theorem x_retMk {E1 E2 : XK} {R : List PyData → List PyData → Ro → List PyData → Prop} (ha : Ea tw S ds) (hR : R [] ds (.va d) bs') : DX E (tRet (tCall (SpB C R) [] E1 (tCons (tMake C (spInit C) [] E2 tNil) tw))) S (.rt (.va d)) := fun D H σ rl k => by
  unfold tRet tCall tCons
  refine mk_new fun b dx h H1 n => ha H1 σ (rl.mono n.same) _ fun ws H2 e2 q2 => ?_
  have hB2 : BkAt H2 (hid b H2) C b [] := n.bk.mono (fun a o q => hid_of (hid_ne q) (e2 _ _ (hid_le _ _ q))) fun o q => e2 _ _ q
  refine ⟨b, [], ds, .va d, bs', ws, by rw [List.append_nil], hB2, q2, hR, fun v H' e3 _ q3 => ?_⟩
  refine k v H' (fun a o q => ?_) q3
  have q := Gm_le _ _ q
  exact e3 _ _ (hid_of (ne_of_none q n.fb) (e2 _ _ (n.same _ _ q)))
/-- xs = [C(), C()] -/
theorem x_mk2 {E1 E2 : XK} {j : Nat} (hj : S[j]? = some .no) (hno : ∀ (i : Nat) s, S[i]? = some s → s.books = []) (hu : ∀ b0 b1, b0 ≠ b1 → DX E u (S.set j (.bl C [(b0, []), (b1, [])])) o) :
    DX E (tSeq (tAsg (tLst (tCons (tMake C (spInit C) [] E1 tNil) (tCons (tMake C (spInit C) [] E2 tNil) tNil))) (gName j)) u) S o := fun D H σ rl k => by
  unfold tSeq tAsg tLst tCons
  refine mk_new fun b0 dx0 h0 H1 n0 => ?_
  refine mk_new fun b1 dx1 h1 H2 n1 => ?_
  refine ⟨line_of (by simp), fun l hl => ?_⟩
  have e3 : Same H2 (upd H2 l (.lst [.ref b0, .ref b1])) := same_new hl
  have e03 : Same H (upd H2 l (.lst [.ref b0, .ref b1])) := (n0.same.trans n1.same).trans e3
  have n01 : b0 ≠ b1 := ne_of_none n0.hb n1.fb
  have hjS : j < S.length := (List.getElem?_eq_some_iff.mp hj).1
  have i0 := e3 _ _ (n1.same _ _ n0.hb)
  have i1 := e3 _ _ n1.hb
  have own : ∀ m, Own (σ.set j (some (.ref l))) (S.set j (.bl C [(b0, []), (b1, [])])) m → Own σ S m ∨ m = b0 ∨ m = b1 := fun m w => by
    rcases w with ⟨i, es, h1, h2⟩ | ⟨i, s, h1, h2⟩
    · rcases set_get h1 with ⟨_, z, _⟩ | ⟨n, h1⟩
      · cases z
      · rw [List.getElem?_set_ne (Ne.symm n)] at h2
        exact .inl (.inl ⟨i, es, h1, h2⟩)
    · rcases set_get h1 with ⟨_, z, _⟩ | ⟨n, h1⟩
      · rw [← z] at h2
        simp [Sl.books] at h2
        exact .inr h2
      · rw [hno i s h1] at h2
        cases h2
  generalize hH3 : upd H2 l (.lst [.ref b0, .ref b1]) = H3 at *
  have hl3 : H3 l = some (.lst [.ref b0, .ref b1]) := by rw [← hH3]; exact upd_same
  have freeN : ∀ m o, H m = none → H3 m = some o → NoIns o → Gm (σ.set j (some (.ref l))) (S.set j (.bl C [(b0, []), (b1, [])])) H3 m = some o := fun m o f q hn => Gm_of (fun w => by
    rcases own m w with w | w | w
    · rcases rl.owned w with ⟨ys, z⟩ | ⟨C2, d2, f2, z⟩ <;> rw [f] at z <;> cases z
    · rw [w, i0] at q
      exact hn _ _ _ (Option.some.inj q).symm
    · rw [w, i1] at q
      exact hn _ _ _ (Option.some.inj q).symm) q
  have sm : Same (Gm σ S H) (Gm (σ.set j (some (.ref l))) (S.set j (.bl C [(b0, []), (b1, [])])) H3) := fun a o q => by
    obtain ⟨n, q⟩ := Gm_some q
    refine Gm_of (fun w => ?_) (e03 _ _ q)
    rcases own a w with w | w | w
    · exact n w
    · exact (ne_of_none q n0.fb) w
    · exact (ne_of_none (n0.same _ _ q) n1.fb) w
  have noown : ∀ z, NoIns (.own z) := fun z C dx fs e => by cases e
  have nolst : ∀ z, NoIns (.lst z) := fun z C dx fs e => by cases e
  have bk0 : BkAt H3 (Gm (σ.set j (some (.ref l))) (S.set j (.bl C [(b0, []), (b1, [])])) H3) C b0 [] :=
    ⟨dx0, h0, [], i0, freeN _ _ n0.fd (e3 _ _ (n1.same _ _ n0.hd)) (noown _), freeN _ _ n0.fh (e3 _ _ (n1.same _ _ n0.hh)) (nolst _), rfl, rfl⟩
  have bk1 : BkAt H3 (Gm (σ.set j (some (.ref l))) (S.set j (.bl C [(b0, []), (b1, [])])) H3) C b1 [] :=
    ⟨dx1, h1, [], i1, freeN _ _ (n0.same.free n1.fd) (e3 _ _ n1.hd) (noown _), freeN _ _ (n0.same.free n1.fh) (e3 _ _ n1.hh) (nolst _), rfl, rfl⟩
  have hlH : H l = none := (n0.same.trans n1.same).free hl
  refine hu b0 b1 n01 D H3 _ ⟨by rw [List.length_set, List.length_set]; exact rl.len, fun i d h => ?_, fun i es h => ?_, fun i k ds es m q1 q2 q3 q4 => ?_, fun i s h => ?_, fun i k s t q1 q2 b1' b2' => ?_⟩ (k.up sm)
  · rcases set_get h with ⟨_, z, _⟩ | ⟨n, h⟩
    · cases z
    · obtain ⟨v, q1, q2⟩ := rl.va i d h
      exact ⟨v, by rw [List.getElem?_set_ne (Ne.symm n)]; exact q1, Da.mono sm _ _ q2⟩
  · rcases set_get h with ⟨_, z, _⟩ | ⟨n, h⟩
    · cases z
    · obtain ⟨m, xs, q1, q2, q3⟩ := rl.ow i es h
      exact ⟨m, xs, by rw [List.getElem?_set_ne (Ne.symm n)]; exact q1, e03 _ _ q2, DaL.mono sm _ _ q3⟩
  · rcases set_get q1 with ⟨_, z, _⟩ | ⟨n, q1⟩
    · cases z
    rcases set_get q2 with ⟨_, z, _⟩ | ⟨n2, q2⟩
    · cases z
    rw [List.getElem?_set_ne (Ne.symm n)] at q3
    rw [List.getElem?_set_ne (Ne.symm n2)] at q4
    exact rl.sep i k ds es m q1 q2 q3 q4
  · rcases set_get h with ⟨z1, z, _⟩ | ⟨n, h⟩
    · subst z1
      rw [← z]
      refine ⟨⟨l, List.getElem?_set_self (by rw [rl.len]; exact hjS), freeN _ _ hlH hl3 (nolst _)⟩, by simp [n01], fun p hp => ?_⟩
      simp at hp
      rcases hp with z | z
      · rw [z]; exact bk0
      · rw [z]; exact bk1
    · rw [List.getElem?_set_ne (Ne.symm n)]
      exact (rl.bo i s h).mono sm fun a o ha => by
        rw [hno i s h] at ha
        cases ha
  · rcases set_get q1 with ⟨z1, _, _⟩ | ⟨n, q1⟩
    · rcases set_get q2 with ⟨z2, _, _⟩ | ⟨n2, q2⟩
      · rw [z1, z2]
      · exact absurd (hno k t q2) b2'
    · exact absurd (hno i s q1) b1'
/-- xs = [[], []] -/
theorem x_set2 {j : Nat} : DX E (tAsg (tLst (tCons (tLst tNil) (tCons (tLst tNil) tNil))) (gName j)) S (.nx (S.set j (.ow [.list [], .list []]))) := fun D H σ rl k => by
  unfold tAsg tLst tCons
  refine ⟨Nat.zero_le _, fun p hp => ?_⟩
  refine ⟨Nat.zero_le _, fun q hq => ?_⟩
  refine ⟨line_of (by simp), fun l hl => ?_⟩
  have e1 : Same H (upd H p (.lst [])) := same_new hp
  have e2 : Same (upd H p (.lst [])) (upd (upd H p (.lst [])) q (.lst [])) := same_new hq
  have e3 : Same (upd (upd H p (.lst [])) q (.lst [])) (upd (upd (upd H p (.lst [])) q (.lst [])) l (.lst [.ref p, .ref q])) := same_new hl
  have hp2 : (upd (upd H p (.lst [])) q (.lst [])) p = some (.lst []) := e2 _ _ upd_same
  have hq2 : (upd (upd H p (.lst [])) q (.lst [])) q = some (.lst []) := upd_same
  have npl : p ≠ l := ne_of_none hp2 hl
  have nql : q ≠ l := ne_of_none hq2 hl
  have e03 : Same H (upd (upd (upd H p (.lst [])) q (.lst [])) l (.lst [.ref p, .ref q])) := (e1.trans e2).trans e3
  have fl : H l = none := (e1.trans e2).free hl
  have fq : H q = none := e1.free hq
  have no : ∀ m, H m = none → ¬ Own σ S m := fun m f => rl.notOwn f
  obtain ⟨r2, s2⟩ := rl.putO (i := j) (ds := [.list [], .list []]) e03 fl upd_same
    ⟨_, _, rfl, ⟨p, [], rfl, hid_of npl (Gm_of (no p hp) (e3 _ _ hp2)), rfl⟩, _, _, rfl, ⟨q, [], rfl, hid_of nql (Gm_of (no q fq) (e3 _ _ hq2)), rfl⟩, rfl⟩
  exact k _ _ r2 s2
end
end DL

namespace DL
open PySem L2
/-- where the class of the instances stands -/
class CKs where
  Book : Addr
/-- promises by their arguments -/
def RfB {α : Type} (bs args : α → List PyData) (pre : α → Prop) (res : α → Ro) (bs' : α → List PyData) : List PyData → List PyData → Ro → List PyData → Prop := fun b d r b' => ∃ x, pre x ∧ b = bs x ∧ d = args x ∧ r = res x ∧ b' = bs' x
def RfP {α : Type} (bs args : α → List PyData) (pre : α → Prop) (res : α → Ro) : List PyData → List PyData → Ro → Prop := fun b d r => ∃ x, pre x ∧ b = bs x ∧ d = args x ∧ r = res x
/-- a def that is called by its name, with a promise of any kind -/
structure CalS (P : Program) (w : World) (K : PySem.W.Frag) (mg : Str → Option Value) (base : Heap) (k : Nat) (x : Str) (ps : List Str) (sp : Sp) : Prop where
  ex : ∃ f fd, FnOk P w K mg base CX0 k f fd ps sp ∧ mg x = some (.ref f) ∧ PySem.W.keepIn K (.ref f) = true ∧ Binds K fd ps []
/-- a method, that may refuse if T is L2.CX -/
structure Met (P : Program) (w : World) (K : PySem.W.Frag) (mg : Str → Option Value) (base : Heap) (T : CXT) (k : Nat) (C : Addr) (m : Str) (ps : List Str) (sp : Sp) : Prop where
  ex : ∃ f fd, FnOk P w K mg base T k f fd ps sp ∧ Meth K C m f ∧ Binds K fd ps []
/-- the class's making -/
structure Mak (P : Program) (w : World) (K : PySem.W.Frag) (mg : Str → Option Value) (base : Heap) (k : Nat) (C : Addr) (x : Str) (ps : List Str) (sp : Sp) : Prop where
  ex : ∃ f fd, FnOk P w K mg base CX0 k f fd ps sp ∧ Mk K C f ∧ Binds K fd ps [] ∧ mg x = some (.ref C)
section
variable {X : Cx} {k : Nat} {x m f : Str} {ps : List Str} {sp : Sp} {o e : Expr} {es : List Expr} {t : TA} {ta tv : TE} {p pos apos pos' : Pos} {K : PySem.W.Frag} {C : Addr} {E : XK}
theorem calS_of {P : Program} {w : World} {mg : Str → Option Value} {base : Heap} {f : Addr} {fd : FuncData} (F : FnOk P w K mg base CX0 k f fd ps sp) (hm : mg x = some (.ref f)) (hk : PySem.W.keepIn K (.ref f) = true) (hb : Binds K fd ps []) : CalS P w K mg base k x ps sp := ⟨f, fd, F, hm, hk, hb⟩
theorem CalS.pe (c : CalS X.prog X.w X.K X.mg X.base k x ps sp) (hr : Room k X.A) (hg : Gl X x) (ha : PA X (e :: es) t) (hdb : (x == ("__debug__" : Str)) = false := by decide) (he : starEach (e :: es) X.env = (false, eval e X.env) :: starEach es X.env := by rfl) (hpl : (backTo pos (starEach es X.env)).any (·.1) = false := by rfl) :
    PE X (.Call (.Name x p) (e :: es) [] pos) (tCall sp [] E0 t) := by
  obtain ⟨f, fd, F, hm, hk, hb⟩ := c.ex
  exact pe_call F hr hg hm hk hb .nil pass0 ha hdb he hpl
theorem j_fld (he : PE X e ta) (hK : X.K = K := by rfl) (hb : attributeBase e f X.env (eval e X.env) = eval e X.env := by rfl) : PE X (.Attribute e f pos) (tFld K ta f) := by
  subst hK
  exact pe_fld he hb
theorem j_sfld (ha : PE X o ta) (hv : PE X e tv) (hK : X.K = K := by rfl) (hs : swapsWith e (some (.Attribute o f pos')) pos.line X.env = pure false := by rfl) : PS X (.Assign [.Attribute o f pos'] e pos) (sFld K ta tv f) := by
  subst hK
  exact ps_fld ha hv hs
theorem Mak.pe (c : Mak X.prog X.w X.K X.mg X.base k C x ps sp) (hr : Room (k + 1) X.A) (hg : Gl X x) (hdb : (x == ("__debug__" : Str)) = false := by decide) : PE X (.Call (.Name x p) [] [] pos) (tMake C sp [] E0 tNil) := by
  obtain ⟨f, fd, F, hm, hb, hx⟩ := c.ex
  exact pe_make0 hm F hr hg hx hb .nil pass0 hdb
theorem Met.pe {T : CXT} {pl : Sem Bool} (c : Met X.prog X.w X.K X.mg X.base T k C m ps sp) (cl : Cls X.K C) (hr : Room k X.A) (hx : Passes T X E) (ho : PE X o ta) (ha : PA X (e :: es) t) (hst : starEach (e :: es) X.env = (false, eval e X.env) :: starEach es X.env := by rfl)
    (hpl : (backTo pos (starEach es X.env)).any (·.1) = false := by rfl)
    (ht : eval (.Call (.Attribute o m apos) (e :: es) [] pos) X.env = (do let ov ← eval o X.env; standAt apos.atName; let (g, first) ← holding [ov] (getMethod ov m pl); callWith pos g first (backTo pos (starEach (e :: es) X.env)) (backToKw pos (keywordEach [] X.env))) := by rfl) :
    PE X (.Call (.Attribute o m apos) (e :: es) [] pos) (tMeth C m sp [] E ta t) := by
  obtain ⟨f, fd, F, hm, hb⟩ := c.ex
  exact pe_meth (pl := pl) ho cl hm F hr hb .nil hx ha hst hpl ht
theorem Met.pe0 {T : CXT} {pl : Sem Bool} (c : Met X.prog X.w X.K X.mg X.base T k C m ps sp) (cl : Cls X.K C) (hr : Room k X.A) (hx : Passes T X E) (ho : PE X o ta)
    (ht : eval (.Call (.Attribute o m apos) [] [] pos) X.env = (do let ov ← eval o X.env; standAt apos.atName; let (g, first) ← holding [ov] (getMethod ov m pl); callWith pos g first (backTo pos (starEach [] X.env)) (backToKw pos (keywordEach [] X.env))) := by rfl) :
    PE X (.Call (.Attribute o m apos) [] [] pos) (tMeth C m sp [] E ta tNil) := by
  obtain ⟨f, fd, F, hm, hb⟩ := c.ex
  exact pe_meth0 (pl := pl) ho cl hm F hr hb .nil hx ht
/-- in a try -/
theorem Met.peW {W : WX} {pl : Sem Bool} (c : Met X.prog X.w X.K X.mg X.base (L2.CX X.prog X.w) k C m ps sp) (cl : Cls X.K C) (hr : Room k X.A) (tk : Takes X W) (ho : PE X o ta) (ha : PA X (e :: es) t) (hst : starEach (e :: es) X.env = (false, eval e X.env) :: starEach es X.env := by rfl)
    (hpl : (backTo pos (starEach es X.env)).any (·.1) = false := by rfl)
    (ht : eval (.Call (.Attribute o m apos) (e :: es) [] pos) X.env = (do let ov ← eval o X.env; standAt apos.atName; let (g, first) ← holding [ov] (getMethod ov m pl); callWith pos g first (backTo pos (starEach (e :: es) X.env)) (backToKw pos (keywordEach [] X.env))) := by rfl) :
    PE X (.Call (.Attribute o m apos) (e :: es) [] pos) (tMethW C m sp (WE W) ta t) := by
  obtain ⟨f, fd, F, hm, hb⟩ := c.ex
  refine ⟨fun pins s σ H Q I h => PySem.W.methodCall_KW (pl := pl) (thn (ho.run pins s σ H _ I h) fun u s1 ⟨y, H1, I1, ry, a, dx, fs, ey, ea, l, q⟩ => ?_) ht⟩
  subst ey
  obtain rfl : u = Value.ref a := ry
  exact getmeth_ok I1 ea cl hm l (PySem.W.callWith_K (first := [.ref a]) (h₀ := X.base) I.ok.mod.kin hm.kp (thn (ha.run pos pins s1 σ H1 _ I1 q) fun us s2 ⟨vs, H2, I2, r, q2⟩ =>
    ⟨I2.kIn, run_fnS (us := .ref a :: us) (vs := .ref a :: vs) F hr hb (passAt tk σ) I2 (.cons rfl r) q2⟩) hst hpl)
end
section
variable [KK] {E : XK} {S S' : DSt} {te ta : TE} {tw : TA} {d : PyData} {ds es bs' : List PyData} {C b : Addr} {α : Type} {bs args bs2 : α → List PyData} {pre : α → Prop} {res : α → Ro} {K : PySem.W.Frag}
theorem run_defB {N : List Str} {t : TS} {vs : List V} {H : Hp} {Q : VK} (h : SpB C (RfB bs args pre res bs2) vs H Q E)
    (hb : ∀ b x, pre x → DX E t (.bk C b (bs x) :: ((args x).map Sl.va ++ List.replicate (N.length - ((args x).length + 1)) Sl.no)) (.rt (.bo C b (bs2 x) (res x)))) : t { nx := fun _ H' => Q .non H', rt := Q } (L2.start N vs) H :=
  run_ofB h fun b o ds r o' ⟨x, hp, e1, e2, e3, e4⟩ => by
    subst e1 e2 e3 e4
    exact hb b x hp
theorem run_defP {N : List Str} {t : TS} {vs : List V} {H : Hp} {Q : VK} (h : SpP C (RfP bs args pre res) vs H Q E)
    (hb : ∀ b x, pre x → DX E t (.bp C b (bs x) :: ((args x).map Sl.va ++ List.replicate (N.length - ((args x).length + 1)) Sl.no)) (.rt (res x))) : t { nx := fun _ H' => Q .non H', rt := Q } (L2.start N vs) H :=
  run_ofP h fun b o ds r ⟨x, hp, e1, e2, e3⟩ => by
    subst e1 e2 e3
    exact hb b x hp
theorem len_ofB {n : Nat} (h : ∀ x, (args x).length + 1 = n) : ∀ vs H Q E, SpB C (RfB bs args pre res bs2) vs H Q E → vs.length = n := SpB.len fun o ds r o' ⟨x, _, _, e, _⟩ => by
  rw [e]
  exact h x
theorem len_ofP {n : Nat} (h : ∀ x, (args x).length + 1 = n) : ∀ vs H Q E, SpP C (RfP bs args pre res) vs H Q E → vs.length = n := SpP.len fun o ds r ⟨x, _, _, e, _⟩ => by
  rw [e]
  exact h x
/-- a slice of the script -/
theorem n_slF {tl th : TO} {lo hi : Option Int} {ns : List Int} (h : Eb te S (frz ns)) (h1 : Eo tl S lo) (h2 : Eo th S hi) : En (tSl (rSl KK.K) te tl th) S (((ns.drop (HT.sIx ns.length 0 lo)).take (HT.sIx ns.length ns.length hi - HT.sIx ns.length 0 lo)).map .int) := fun H σ r Q q =>
  h H σ r _ fun v H1 e1 q1 => h1 H1 σ (r.mono e1) _ fun H2 e2 => h2 H2 σ ((r.mono e1).mono e2) _ fun H3 e3 => by
    obtain ⟨a, rfl, h4⟩ := q1
    rw [frzV_map] at h4
    have e13 := e2.trans e3
    refine .inl ⟨a, _, rfl, e13.seq h4, fun p hp => q p _ ((e1.trans e13).trans (same_new hp)) ((e1.trans e13).free hp) ⟨p, _, rfl, upd_same, ?_⟩⟩
    unfold cutV
    rw [List.length_map, ← List.map_drop, ← List.map_take]
    exact DaL.of_ints
end
end DL
namespace DL
open PySem L2
section
variable [KK] {E : XK} {S S' : DSt} {te ta : TE} {d : PyData} {C b : Addr} {bs : List PyData} {i : Nat}
theorem m_isN (ha : EbM ta S S' d) : EbM (tOp rIsNo ta (tC .non)) S S' (.bool (isNo d)) :=
  m_op ha e_non fun x y H Q q1 q2 q => ⟨q2, q _ H (Same.refl H) (by rw [q1.isNo]; rfl)⟩
theorem m_notN (ha : EbM ta S S' d) : EbM (tOp rNotNo ta (tC .non)) S S' (.bool (!isNo d)) :=
  m_op ha e_non fun x y H Q q1 q2 q => ⟨q2, q _ H (Same.refl H) (by rw [q1.isNo]; rfl)⟩
/-- a list of jobs is no list of lists, and no list of pairs of pairs -/
theorem ne_list {js : List Job} {a r : List PyData} : ∀ H xs, DaL H (jobsL js) xs → DaL H (.list a :: r) xs → False := fun H xs h1 h2 => by
  obtain ⟨v, vs, rfl, q1, _⟩ := h2
  cases js with
  | nil => cases (show v :: vs = [] from h1)
  | cons j js =>
    obtain ⟨v2, vs2, e, q2, _⟩ := h1
    cases e
    obtain ⟨l, ys, rfl, z1, _⟩ := q1
    obtain ⟨l2, ys2, e, z2, _⟩ := q2
    cases e
    rw [z1] at z2
    cases z2
theorem ne_tup {js : List Job} {t r' r : List PyData} : ∀ H xs, DaL H (jobsL js) xs → DaL H (.tuple (.tuple t :: r') :: r) xs → False := fun H xs h1 h2 => by
  obtain ⟨v, vs, rfl, q1, _⟩ := h2
  cases js with
  | nil => cases (show v :: vs = [] from h1)
  | cons j js =>
    obtain ⟨v2, vs2, e, q2, _⟩ := h1
    cases e
    obtain ⟨l, ys, rfl, z1, z3⟩ := q1
    obtain ⟨l2, ys2, e, z2, z4⟩ := q2
    cases e
    rw [z1] at z2
    cases z2
    obtain ⟨u, us, rfl, w1, _⟩ := z3
    obtain ⟨u2, us2, e, w2, _⟩ := z4
    cases e
    obtain ⟨l3, ys3, rfl, _⟩ := w1
    cases (show V.ref l3 = .int j.1 from w2)
end
end DL

namespace DL
open PySem L2
/-! ### the book, in plain Lean -/
theorem jobsL_snoc (js : List Job) (j : Job) : jobsL js ++ [jobD j] = jobsL (js ++ [j]) := by
  show js.map (fun j : Job => jobD j) ++ [jobD j] = (js ++ [j]).map fun j : Job => jobD j
  rw [List.map_append]
  rfl
theorem jobsL_cut (js : List Job) (n m : Nat) : (jobsL js).take n ++ (jobsL js).drop m = jobsL (js.take n ++ js.drop m) := by
  show (js.map fun j : Job => jobD j).take n ++ (js.map fun j : Job => jobD j).drop m = (js.take n ++ js.drop m).map fun j : Job => jobD j
  rw [List.map_append, List.map_take, List.map_drop]
def lateT : PyData → PyData
  | .tuple [_, a, b, c] => .tuple [a, b, c]
  | _ => .none
/-- whether all can be met -/
def Can (js : List Job) : Prop := lateF js (endsF js) = []
open Classical in
noncomputable def takeJ (js : List Job) (j : Job) : List Job := if 60 ≤ js.length then js else if Can (js ++ [j]) then js ++ [j] else js
def cutJ (js : List Job) (p : Int) : List Job := js.take p.toNat ++ js.drop (p.toNat + 1)
def InP (js : List Job) (p : Int) : Prop := 0 ≤ p ∧ p < (js.length : Int)
instance (js : List Job) (p : Int) : Decidable (InP js p) := by unfold InP; exact inferInstance
theorem snd_snoc {js : List Job} {j : Job} (hs : AllS js) (hj : Snd j) : AllS (js ++ [j]) := fun i hi => by
  rcases List.mem_append.mp hi with h | h
  · exact hs i h
  · rw [List.mem_singleton.mp h]
    exact hj
theorem can_of {js : List Job} (hs : AllS js) (h : ∀ b e, b ≤ e → loadP js b e ≤ e - b) : Can js := Classical.byContradiction fun n => by
  obtain ⟨k, b, e, _, h1, h2⟩ := late_some hs n
  have := h b e h1
  omega
theorem can_load {js : List Job} (hs : AllS js) (h : Can js) {b e : Int} (he : b ≤ e) : loadP js b e ≤ e - b := load_span hs h he
theorem sum_sub : ∀ {l m : List Int}, l.Sublist m → (∀ x ∈ m, 0 ≤ x) → l.sum ≤ m.sum
  | _, _, .slnil, _ => Int.le_refl _
  | _, _, .cons a h, hx => by
    have ih := sum_sub h fun x hm => hx x (List.mem_cons_of_mem _ hm)
    have := hx a List.mem_cons_self
    rw [List.sum_cons]
    omega
  | _, _, .cons₂ a h, hx => by
    have ih := sum_sub h fun x hm => hx x (List.mem_cons_of_mem _ hm)
    rw [List.sum_cons, List.sum_cons]
    omega
theorem load_sub {l m : List Job} (h : l.Sublist m) (hs : AllS m) (b e : Int) : loadP l b e ≤ loadP m b e := by
  unfold loadP
  refine sum_sub ((h.filter _).map _) fun x hx => ?_
  obtain ⟨j, hj, rfl⟩ := List.mem_map.mp hx
  have := (hs j (List.mem_filter.mp hj).1).2.1
  omega
theorem cut_sub (js : List Job) (p : Int) : (cutJ js p).Sublist js := by
  unfold cutJ
  have h : (js.drop (p.toNat + 1)).Sublist (js.drop p.toNat) := by
    rw [← List.drop_drop]
    exact List.drop_sublist _ _
  have h2 := (List.Sublist.refl (js.take p.toNat)).append h
  rw [List.take_append_drop] at h2
  exact h2
theorem snd_sub {l m : List Job} (h : l.Sublist m) (hs : AllS m) : AllS l := fun j hj => hs j (h.subset hj)
theorem can_sub {l m : List Job} (h : l.Sublist m) (hs : AllS m) (hc : Can m) : Can l := can_of (snd_sub h hs) fun b e he => by
  have h1 := load_sub h hs b e
  have h2 := can_load hs hc he
  omega
theorem cut_len {js : List Job} {p : Int} (h : InP js p) : (cutJ js p).length = js.length - 1 := by
  obtain ⟨h0, h1⟩ := h
  unfold cutJ
  rw [List.length_append, List.length_take, List.length_drop]
  omega
/-- what a book holds -/
structure Hold (js : List Job) : Prop where
  len : js.length ≤ 60
  snd : AllS js
  can : Can js
theorem hold_nil : Hold [] := ⟨by decide, fun j h => (List.not_mem_nil h).elim, can_of (fun j h => (List.not_mem_nil h).elim) fun b e h => by show (0 : Int) ≤ e - b; omega⟩
theorem Hold.cut {js : List Job} (h : Hold js) (p : Int) : Hold (cutJ js p) :=
  ⟨Nat.le_trans (cut_sub js p).length_le h.len, snd_sub (cut_sub js p) h.snd, can_sub (cut_sub js p) h.snd h.can⟩
theorem Hold.take {js : List Job} (h : Hold js) {j : Job} (hj : Snd j) : Hold (takeJ js j) := by
  unfold takeJ
  by_cases h60 : 60 ≤ js.length
  · rw [if_pos h60]
    exact h
  rw [if_neg h60]
  by_cases hc : Can (js ++ [j])
  · rw [if_pos hc]
    exact ⟨by rw [List.length_append, List.length_singleton]; omega, snd_snoc h.snd hj, hc⟩
  · rw [if_neg hc]
    exact h
theorem take_len (js : List Job) (j : Job) : (takeJ js j).length ≤ js.length + 1 := by
  unfold takeJ
  split
  · omega
  · split
    · rw [List.length_append, List.length_singleton]
      omega
    · omega
/-- one job alone, no longer than it may be -/
theorem can_one {j : Job} (hj : Snd j) (h : j.2.1 ≤ j.2.2 - j.1) : Can [j] := can_of (fun i hi => by rw [List.mem_singleton.mp hi]; exact hj) fun b e he => by
  obtain ⟨h1, h2, h3⟩ := hj
  unfold loadP
  by_cases q : (decide (b ≤ j.1) && decide (j.2.2 ≤ e)) = true
  · rw [List.filter_cons_of_pos (p := fun j : Job => decide (b ≤ j.1) && decide (j.2.2 ≤ e)) q]
    rw [Bool.and_eq_true, decide_eq_true_eq, decide_eq_true_eq] at q
    show j.2.1 + 0 ≤ e - b
    omega
  · rw [List.filter_cons_of_neg (p := fun j : Job => decide (b ≤ j.1) && decide (j.2.2 ≤ e)) q]
    show (0 : Int) ≤ e - b
    omega
theorem load_app (l m : List Job) (b e : Int) : loadP (l ++ m) b e = loadP l b e + loadP m b e := by
  unfold loadP
  rw [List.filter_append, List.map_append, List.sum_append]
theorem load_one (j : Job) (b e : Int) : loadP [j] b e = if b ≤ j.1 ∧ j.2.2 ≤ e then j.2.1 else 0 := by
  unfold loadP
  by_cases q : (decide (b ≤ j.1) && decide (j.2.2 ≤ e)) = true
  · rw [List.filter_cons_of_pos (p := fun j : Job => decide (b ≤ j.1) && decide (j.2.2 ≤ e)) q]
    rw [Bool.and_eq_true, decide_eq_true_eq, decide_eq_true_eq] at q
    rw [if_pos q]
    show j.2.1 + 0 = _
    omega
  · rw [List.filter_cons_of_neg (p := fun j : Job => decide (b ≤ j.1) && decide (j.2.2 ≤ e)) q]
    rw [Bool.and_eq_true, decide_eq_true_eq, decide_eq_true_eq] at q
    rw [if_neg q]
    rfl
/-! sixty jobs of length 1 -/
def unitJ (k : Nat) : Job := ((k : Int), 1, 61)
def units (n : Nat) : List Job := (List.range n).map unitJ
theorem units_snd {n : Nat} (h : n ≤ 60) : AllS (units n) := fun j hj => by
  obtain ⟨k, hk, rfl⟩ := List.mem_map.mp hj
  have := List.mem_range.mp hk
  exact ⟨by show (0 : Int) ≤ (k : Int); omega, Int.le_refl 1, by show (k : Int) < 61; omega⟩
theorem units_succ (n : Nat) : units (n + 1) = units n ++ [unitJ n] := by
  unfold units
  rw [List.range_succ, List.map_append]
  rfl
theorem units_load {b e : Int} : ∀ n : Nat, 0 ≤ loadP (units n) b e ∧ (e < 61 → loadP (units n) b e = 0) ∧ loadP (units n) b e ≤ n ∧ ((n : Int) ≤ b → loadP (units n) b e = 0) ∧ (b ≤ n → loadP (units n) b e ≤ n - b ∨ b < 0)
  | 0 => ⟨Int.le_refl _, fun _ => rfl, Int.le_refl _, fun _ => rfl, fun h => by
    by_cases q : b < 0
    · exact .inr q
    · refine .inl ?_
      show (0 : Int) ≤ 0 - b
      have : b ≤ (0 : Nat) := h
      omega⟩
  | n + 1 => by
    obtain ⟨h1, h2, h3, h4, h5⟩ := units_load (b := b) (e := e) n
    have e1 : loadP (units (n + 1)) b e = loadP (units n) b e + (if b ≤ (n : Int) ∧ 61 ≤ e then 1 else 0) := by
      rw [units_succ, load_app, load_one]
      rfl
    rw [e1]
    by_cases q : b ≤ (n : Int) ∧ 61 ≤ e
    · rw [if_pos q]
      refine ⟨by omega, fun h => by omega, by omega, fun h => by omega, fun h => ?_⟩
      rcases h5 q.1 with z | z
      · exact .inl (by omega)
      · exact .inr z
    · rw [if_neg q]
      refine ⟨by omega, fun h => by rw [h2 h]; rfl, by omega, fun h => by rw [h4 (by omega)]; rfl, fun h => ?_⟩
      by_cases z : b < 0
      · exact .inr z
      · refine .inl ?_
        by_cases z2 : b ≤ (n : Int)
        · rw [h2 (by omega)]
          omega
        · rw [h4 (by omega)]
          omega
/-- of n such jobs, and of any fewer -/
theorem units_span {b e : Int} {n : Nat} (hn : n ≤ 60) (he : b ≤ e) : loadP (units n) b e ≤ max 0 (e - max b 0 - 1) ∧ loadP (units n) b e ≤ n ∧ 0 ≤ loadP (units n) b e := by
  obtain ⟨h1, h2, h3, h4, h5⟩ := units_load (b := b) (e := e) n
  refine ⟨?_, h3, h1⟩
  by_cases z : e < 61
  · rw [h2 z]
    omega
  · by_cases z2 : b ≤ n
    · rcases h5 z2 with w | w <;> omega
    · rw [h4 (by omega)]
      omega
theorem units_can {n : Nat} (h : n ≤ 60) : Can (units n) := can_of (units_snd h) fun b e he => by
  have := (units_span (b := b) (e := e) h he).1
  omega
theorem units_len (n : Nat) : (units n).length = n := by
  unfold units
  rw [List.length_map, List.length_range]
theorem units_hold {n : Nat} (h : n ≤ 60) : Hold (units n) := ⟨by rw [units_len]; exact h, units_snd h, units_can h⟩
theorem units_take {n : Nat} (h : n < 60) : takeJ (units n) (unitJ n) = units (n + 1) := by
  unfold takeJ
  rw [if_neg (by rw [units_len]; omega), ← units_succ, if_pos (units_can h)]
/-- one is dropped -/
def fullA (p : Nat) : List Job := cutJ (units 60) (p : Int)
theorem fullA_load {p : Nat} (hp : p < 60) (b e : Int) : loadP (units 60) b e = loadP (fullA p) b e + (if b ≤ (p : Int) ∧ 61 ≤ e then 1 else 0) := by
  have e1 : units 60 = (units 60).take p ++ ([unitJ p] ++ (units 60).drop (p + 1)) := by
    have h : (units 60).drop p = unitJ p :: (units 60).drop (p + 1) := by
      have hlt : p < (units 60).length := by rw [units_len]; exact hp
      rw [List.drop_eq_getElem_cons hlt]
      congr 1
      have h2 : (units 60)[p]? = some (unitJ p) := by
        show ((List.range 60).map unitJ)[p]? = _
        rw [List.getElem?_map, List.getElem?_range hp]
        rfl
      rw [List.getElem?_eq_getElem hlt] at h2
      exact Option.some.inj h2
    show _ = (units 60).take p ++ (unitJ p :: (units 60).drop (p + 1))
    rw [← h, List.take_append_drop]
  have e2 : fullA p = (units 60).take p ++ (units 60).drop (p + 1) := by
    unfold fullA cutJ
    rw [Int.toNat_natCast]
  rw [e2, load_app]
  rw (occs := .pos [1]) [e1]
  rw [load_app, load_app, load_one]
  show loadP ((units 60).take p) b e + ((if b ≤ (p : Int) ∧ 61 ≤ e then (1 : Int) else 0) + loadP ((units 60).drop (p + 1)) b e) = _
  omega
theorem fullA_hold (p : Nat) : Hold (fullA p) := (units_hold (Nat.le_refl _)).cut _
theorem fullA_len {p : Nat} (hp : p < 60) : (fullA p).length = 59 := by
  have := cut_len (js := units 60) (p := (p : Int)) ⟨by omega, by rw [units_len]; omega⟩
  rw [units_len] at this
  exact this
theorem units_all : loadP (units 60) 0 61 = 60 := by decide +kernel
theorem full_late {p : Nat} (hp : p < 60) : ¬ Can (fullA p ++ [(0, 3, 61)]) := fun h => by
  have hs : AllS (fullA p ++ [(0, 3, 61)]) := snd_snoc (fullA_hold p).snd ⟨by decide, by decide, by decide⟩
  have := can_load hs h (b := 0) (e := 61) (by decide)
  rw [load_app, load_one] at this
  have h2 := fullA_load hp 0 61
  rw [units_all] at h2
  rw [if_pos ⟨by decide, by decide⟩] at this
  rw [if_pos ⟨by omega, by decide⟩] at h2
  have : loadP (fullA p) 0 61 + 3 ≤ 61 - 0 := this
  omega
def fullB (p : Nat) : List Job := fullA p ++ [(0, 1, 900)]
theorem fullB_hold {p : Nat} (hp : p < 60) : Hold (fullB p) := by
  have hs : AllS (fullB p) := snd_snoc (fullA_hold p).snd ⟨by decide, by decide, by decide⟩
  refine ⟨by unfold fullB; rw [List.length_append, fullA_len hp]; decide, hs, can_of hs fun b e he => ?_⟩
  have h1 := units_span (n := 60) (b := b) (e := e) (Nat.le_refl _) he
  have h2 := fullA_load hp b e
  unfold fullB
  rw [load_app, load_one]
  by_cases q : b ≤ (0 : Int) ∧ (900 : Int) ≤ e
  · rw [if_pos q]
    show loadP (fullA p) b e + 1 ≤ e - b
    split at h2 <;> omega
  · rw [if_neg q]
    split at h2 <;> omega
theorem fullB_take {p : Nat} (hp : p < 60) : takeJ (fullA p) (0, 1, 900) = fullB p := by
  unfold takeJ
  have h := (fullB_hold hp).can
  unfold fullB at h
  rw [if_neg (by rw [fullA_len hp]; decide), if_pos h]
  rfl
theorem fullB_len {p : Nat} (hp : p < 60) : (fullB p).length = 60 := by
  unfold fullB
  rw [List.length_append, fullA_len hp]
  rfl
/-- two are dropped from the front, one is taken -/
def fullC (p : Nat) : List Job := (fullB p).drop 2
theorem fullC_eq (p : Nat) : cutJ (cutJ (fullB p) 0) 0 = fullC p := by
  unfold cutJ fullC
  show [] ++ (([] ++ (fullB p).drop 1)).drop 1 = _
  rw [List.nil_append, List.nil_append, List.drop_drop]
theorem fullC_can {p : Nat} (hp : p < 60) : Can (fullC p ++ [(0, 3, 61)]) := by
  have hsub : (fullC p).Sublist (fullB p) := List.drop_sublist _ _
  have hsC : AllS (fullC p) := snd_sub hsub (fullB_hold hp).snd
  have hs : AllS (fullC p ++ [(0, 3, 61)]) := snd_snoc hsC ⟨by decide, by decide, by decide⟩
  refine can_of hs fun b e he => ?_
  have h0 := load_sub hsub (fullB_hold hp).snd b e
  have h1 := units_span (n := 60) (b := b) (e := e) (Nat.le_refl _) he
  have h2 := fullA_load hp b e
  have e3 : loadP (fullB p) b e = loadP (fullA p) b e + (if b ≤ (0 : Int) ∧ (900 : Int) ≤ e then 1 else 0) := by
    unfold fullB
    rw [load_app, load_one]
  rw [load_app, load_one]
  -- the jobs of length 1 that are left
  have hc : loadP (fullC p) b e ≤ 57 + (if b ≤ (0 : Int) ∧ (900 : Int) ≤ e then 1 else 0) := by
    have e4 : fullC p = (fullA p).drop 2 ++ [(0, 1, 900)] := by
      unfold fullC fullB
      rw [List.drop_append_of_le_length (by rw [fullA_len hp]; decide)]
    rw [e4, load_app, load_one]
    have h5 : ∀ l : List Job, (∀ j ∈ l, j.2.1 = 1) → loadP l b e ≤ l.length := fun l => by
      induction l with
      | nil => exact fun _ => Int.le_refl _
      | cons j r ih =>
        intro h
        have := ih fun i hi => h i (List.mem_cons_of_mem _ hi)
        have h1 := h j List.mem_cons_self
        have e : loadP (j :: r) b e = loadP [j] b e + loadP r b e := load_app [j] r b e
        rw [e, load_one, List.length_cons]
        split <;> omega
    have h6 := h5 ((fullA p).drop 2) fun j hj => by
      have hm := (cut_sub (units 60) (p : Int)).subset (List.mem_of_mem_drop hj)
      obtain ⟨k, _, rfl⟩ := List.mem_map.mp hm
      rfl
    rw [List.length_drop, fullA_len hp] at h6
    show loadP ((fullA p).drop 2) b e + (if b ≤ (0 : Int) ∧ (900 : Int) ≤ e then (1 : Int) else 0) ≤ _
    omega
  by_cases q : b ≤ (0 : Int) ∧ (61 : Int) ≤ e
  · rw [if_pos q]
    show loadP (fullC p) b e + 3 ≤ e - b
    split at hc <;> omega
  · rw [if_neg q]
    split at e3 <;> split at h2 <;> omega
theorem fullC_hold {p : Nat} (hp : p < 60) : Hold (fullC p) := by
  have hsub : (fullC p).Sublist (fullB p) := List.drop_sublist _ _
  exact ⟨Nat.le_trans hsub.length_le (fullB_hold hp).len, snd_sub hsub (fullB_hold hp).snd, can_sub hsub (fullB_hold hp).snd (fullB_hold hp).can⟩
theorem fullC_len {p : Nat} (hp : p < 60) : (fullC p).length = 58 := by
  unfold fullC
  rw [List.length_drop, fullB_len hp]
end DL

namespace DL
open PySem L2
def topS (i : Nat) : Stmt := PySem.Challenge.pw_deadlinerun_k13_whole_book.main.body.getD i (.Pass ⟨0, 0, 0, 0⟩)
/-! short words: readings by the tree's head -/
local macro_rules | `(tactic| walk_at "side") => `(tactic| first | assumption | exact shaped_jobs _ | exact shaped_ints _ | exact shaped_bool _ | exact shaped_str (by decide +kernel) | rfl | decide | omega | (solve | simp) | (solve | (constructor <;> omega)))
local macro_rules | `(tactic| walk_at "at") => `(tactic| first | assumption | rfl)
local macro_rules | `(tactic| walk_at "Eo") => `(tactic| first | exact o_no | (apply o_some; walk_at "Eb"))
local macro_rules | `(tactic| walk_at "Ea") => `(tactic| first | exact a_nil | (apply a_cons; (walk_at "Eb"); (walk_at "Ea")))
local macro_rules | `(tactic| walk_at "Eap") => `(tactic| first | exact ap_nil | (apply ap_cons; (walk_at "Ep"); (walk_at "Eap")))
local macro_rules | `(tactic| walk_at "Ep") => `(tactic| first
  | exact e_var rfl
  | (apply Ep.imm (d := PyData.int _); (walk_at "Eb"); exact rfl)
  | (apply Ep.new; (walk_at "En"); (walk_at "imm"))
  | (apply ep_tup; (walk_at "Eap"); (walk_at "side"))
  | (apply Ep.free; (walk_at "Eb"); exact rfl)
  | (apply Ep.imm; (walk_at "Eb"); (walk_at "imm")))
local macro_rules | `(tactic| walk_at "imm") => `(tactic| first | rfl | assumption | (exact immL_ints _) | (exact immL_jobs _))
local macro_rules | `(tactic| walk_at "Et") => `(tactic| first
  | (apply t_test; walk_at "Eb")
  | (apply t_B; walk_at "Eb")
  | (apply t_and; (walk_at "Et"); (intro _; walk_at "Et"))
  | (apply t_or; (walk_at "Et"); (intro _; walk_at "Et"))
  | (apply t_not; walk_at "Et")
  | (apply t_truB; walk_at "Eb")
  | (apply t_truL; walk_at "Eb")
  | (apply t_truI; walk_at "Eb")
  | (apply t_truS; (walk_at "Eb"); (walk_at "side")))
local macro_rules | `(tactic| walk_at "En") => `(tactic| first
  | (apply n_lst; (walk_at "Ea"); (walk_at "side"))
  | (apply e_cat; (walk_at "Eb"); (walk_at "Eb"); (walk_at "side"))
  | (apply n_zeros; (walk_at "Eb"); (walk_at "side"))
  | (apply e_rep; (walk_at "Eb"); (walk_at "Eb"); (walk_at "side"); (walk_at "side"))
  | (apply n_list; (walk_at "Eb"))
  | (apply n_slL; (walk_at "Eb"); (walk_at "Eo"); (walk_at "Eo"))
  | (apply n_rev; (walk_at "Eb"))
  | (walk_at "call"))
local macro_rules | `(tactic| walk_at "call") => `(tactic| fail)
local macro_rules | `(tactic| walk_at "Eb") => `(tactic| first
  | exact (e_var rfl).b
  | exact e_own rfl
  | exact e_int
  | exact e_str
  | exact e_bl
  | exact e_non
  | (apply e_add; (walk_at "Eb"); (walk_at "Eb"))
  | (apply e_ii (g := fun i j => i - j); (walk_at "Eb"); (walk_at "Eb"))
  | (apply e_ib (g := fun i j => decide (i < j)); (walk_at "Eb"); (walk_at "Eb"))
  | (apply e_ib (g := fun i j => decide (i ≤ j)); (walk_at "Eb"); (walk_at "Eb"))
  | (apply e_ib (g := fun i j => decide (j < i)); (walk_at "Eb"); (walk_at "Eb"))
  | (apply e_ib (g := fun i j => decide (j ≤ i)); (walk_at "Eb"); (walk_at "Eb"))
  | (apply e_mul; (walk_at "Eb"); (walk_at "Eb"); (walk_at "mul"))
  | (apply e_iic (C := CDiv) (g := fun i j => i / j); (walk_at "Eb"); (walk_at "Eb"); exact ⟨by decide, by decide⟩)
  | (apply e_iic (C := fun _ j => 0 < j) (g := fun i j => i % j); (walk_at "Eb"); (walk_at "Eb"); (walk_at "pos"))
  | (apply e_iic (C := CPow) (g := fun i j => i ^ j.toNat); (walk_at "Eb"); (walk_at "Eb"); exact ⟨by decide, by decide, by decide⟩)
  | (apply e_ixT; (walk_at "Eb"); (walk_at "Eb"); (walk_at "at"))
  | (apply e_ixL; (walk_at "Eb"); (walk_at "Eb"); (walk_at "at"))
  | (apply e_ixF; (walk_at "Eb"); (walk_at "Eb"); (walk_at "at"))
  | (apply e_ixS; (walk_at "Eb"); (walk_at "Eb"); (walk_at "side"); (walk_at "at"))
  | (apply e_eqI; (walk_at "Eb"); (walk_at "Eb"))
  | (apply e_neI; (walk_at "Eb"); (walk_at "Eb"))
  | (apply e_eq; (walk_at "Eb"); (walk_at "Eb"); (walk_at "side"); (walk_at "side"))
  | (apply e_ne; (walk_at "Eb"); (walk_at "Eb"); (walk_at "side"); (walk_at "side"))
  | (apply e_inL; (walk_at "Eb"); (walk_at "Eb"))
  | (apply e_notInL; (walk_at "Eb"); (walk_at "Eb"))
  | (apply e_maxD; (walk_at "Eb"); (walk_at "Eb"))
  | (apply e_isN; (walk_at "Eb"))
  | (apply e_notN; (walk_at "Eb"))
  | (apply e_chain (g := fun i j => decide (i ≤ j)) (g' := fun i j => decide (i < j)); (walk_at "Eb"); (walk_at "Eb"); (walk_at "Eb"))
  | (apply e_chain (g := fun i j => decide (i ≤ j)) (g' := fun i j => decide (i ≤ j)); (walk_at "Eb"); (walk_at "Eb"); (walk_at "Eb"))
  | (apply e_chain (g := fun i j => decide (i < j)) (g' := fun i j => decide (i ≤ j)); (walk_at "Eb"); (walk_at "Eb"); (walk_at "Eb"))
  | (apply e_and; (walk_at "Eb"); (intro _; walk_at "Eb"))
  | (apply e_or; (walk_at "Eb"); (intro _; walk_at "Eb"))
  | (apply e_not; (walk_at "Eb"))
  | (apply e_neg; (walk_at "Eb"))
  | (apply e_tup; (walk_at "Ea"); (walk_at "side"))
  | (apply e_lenL; (walk_at "Eb"))
  | (apply e_lenF; (walk_at "Eb"))
  | (apply e_lenT; (walk_at "Eb"))
  | (apply e_lenS; (walk_at "Eb"); (walk_at "side"))
  | (apply e_sum; (walk_at "Eb"))
  | (apply e_max2; (walk_at "Eb"); (walk_at "Eb"))
  | (apply e_min2; (walk_at "Eb"); (walk_at "Eb"))
  | (apply e_isInt; (walk_at "Eb"))
  | (apply e_isBl; (walk_at "Eb"))
  | (apply e_isTup; (walk_at "Eb"))
  | (apply e_isLst; (walk_at "Eb"))
  | (apply e_isStr; (walk_at "Eb"))
  | (apply En.b; (walk_at "En"))
  | (walk_at "call"))
local macro_rules | `(tactic| walk_at "mul") => `(tactic| first | exact .inl ⟨by decide, by decide⟩ | exact .inr ⟨by decide, by decide⟩ | (refine .inl ⟨?_, ?_⟩ <;> omega) | (refine .inr ⟨?_, ?_⟩ <;> omega))
local macro_rules | `(tactic| walk_at "pos") => `(tactic| first | assumption | (show (0 : Int) < _; first | assumption | decide | omega))
/-- targets -/
local macro_rules | `(tactic| walk_at "Dg") => `(tactic| first | exact g_name | (apply g_tup; (walk_at "DgL"); (first | rfl | (solve | simp))))
local macro_rules | `(tactic| walk_at "DgL") => `(tactic| first | exact gs_nil | (apply gs_cons; (walk_at "Dg"); (walk_at "DgL")))
local macro_rules | `(tactic| walk_at "Le") => `(tactic| repeat (first | exact Le.nil | exact Le.rfl' | apply Le.eq | apply Le.va | apply Le.ow | apply Le.fz))
section
variable [EK]
variable [CKs]
variable {P : Program} {w : World} {K : PySem.W.Frag} {mg : Str → Option Value} {base : Heap}
/-! ### whole -/
abbrev s_whole : Stmt := topS 8
abbrev n_whole : List Str := ["thing"]
theorem sc_whole : FnScope n_whole ["thing"] (defScope s_whole) := ⟨rfl, rfl, rfl, by decide +kernel, rfl, by decide +kernel, by decide +kernel⟩
abbrev R_whole := Rf (fun d : PyData => [d]) (fun _ => True) (fun d => .va (.bool (wholeD d)))
theorem k_whole [KK] {E : XK} {S : DSt} {ta : TA} {d : PyData} (h : Ea ta S [d]) : Eb (tCall (SpR R_whole) [] E ta) S (.bool (wholeD d)) := e_callR d h rfl trivial rfl
local macro_rules | `(tactic| walk_at "call") => `(tactic| (apply k_whole; walk_at "Ea"))
theorem ok_whole {f : Addr} {fd : FuncData} (F : Fun K "whole" "whole" s_whole f fd) (m_f : mg "whole" = some (.ref f)) (b_isinstance : mg "isinstance" = none) (b_bool : mg "bool" = none) (b_int : mg "int" = none) : Cal P w K mg base 1 "whole" ["thing"] R_whole := by
  letI : KK := ⟨K⟩
  refine cal_of (F.ok sc_whole (len_of fun _ => rfl) (fun cdv A outer s H vs Q E hr h => ⟨_,
      (pss_one (ps_ret (pe_and (pe_callB (j_isi K) (by rfl) b_isinstance (by decide +kernel) (pa_cons (pv 0) (pa_cons (pe_bltn (v := .ty "int") (by rfl) b_int (by decide +kernel) rfl) pa_nil))) (pe_one (pe_not (pe_callB (j_isi K) (by rfl) b_isinstance (by decide +kernel) (pa_cons (pv 0) (pa_cons (pe_bltn (v := .ty "bool") (by rfl) b_bool (by decide +kernel) rfl) pa_nil)))))))), ?_⟩)) m_f F.kp (F.binds (ps := ["thing"]) fun _ _ _ _ _ _ us hl => match us, hl with | [_], _ => rfl)
  refine run_def (N := n_whole) h fun x hx => ?_

  exact x_ret' (by walk_at "Eb") (by cases x <;> rfl)
/-! ### sound -/
abbrev s_sound : Stmt := topS 9
abbrev n_sound : List Str := ["job"]
theorem sc_sound : FnScope n_sound ["job"] (defScope s_sound) := ⟨rfl, rfl, rfl, by decide +kernel, rfl, by decide +kernel, by decide +kernel⟩
abbrev R_sound := Rf (fun d : PyData => [d]) (fun _ => True) (fun d => .va (.bool (soundD d)))
theorem k_sound [KK] {E : XK} {S : DSt} {ta : TA} {d : PyData} (h : Ea ta S [d]) : Eb (tCall (SpR R_sound) [] E ta) S (.bool (soundD d)) := e_callR d h rfl trivial rfl
local macro_rules | `(tactic| walk_at "call") => `(tactic| (apply k_sound; walk_at "Ea"))
theorem ok_sound {f : Addr} {fd : FuncData} (F : Fun K "sound" "sound" s_sound f fd) (m_f : mg "sound" = some (.ref f)) (b_len : mg "len" = none) (b_isinstance : mg "isinstance" = none) (b_tuple : mg "tuple" = none) (c_whole : Cal P w K mg base 1 "whole" ["thing"] R_whole) : Cal P w K mg base 2 "sound" ["job"] R_sound := by
  letI : KK := ⟨K⟩
  refine cal_of (F.ok sc_sound (len_of fun _ => rfl) (fun cdv A outer s H vs Q E hr h => ⟨_,
      (pss_cons (ps_if (PW.pt (pw_or (pt_not (j_tru K (pe_callB (j_isi K) (by rfl) b_isinstance (by decide +kernel) (pa_cons (pv 0) (pa_cons (pe_bltn (v := .ty "tuple") (by rfl) b_tuple (by decide +kernel) rfl) pa_nil))))) (pw_or1 (pt_cmpR (j_ne K hr.units) (pe_callB (j_len K) (by rfl) b_len (by decide +kernel) (pa_cons (pv 0) pa_nil)) pe_int (nomark _))))) (pss_one (ps_ret pe_bl)) pss_nil)
      (pss_cons (ps_if (PW.pt (pw_or (pt_not (j_tru K (c_whole.pe (hr.mono (by decide)) rfl (pa_cons (j_ix K (pv 0) pe_int) pa_nil)))) (pw_or (pt_not (j_tru K (c_whole.pe (hr.mono (by decide)) rfl (pa_cons (j_ix K (pv 0) pe_int) pa_nil)))) (pw_or1 (pt_not (j_tru K (c_whole.pe (hr.mono (by decide)) rfl (pa_cons (j_ix K (pv 0) pe_int) pa_nil)))))))) (pss_one (ps_ret pe_bl)) pss_nil)
      (pss_one (ps_ret (pe_and (pe_cmpR op_ge (j_ix K (pv 0) pe_int) pe_int (nomark _)) (pe_and (pe_cmpR op_ge (j_ix K (pv 0) pe_int) pe_int (nomark _)) (pe_one (pe_cmpR op_gt (j_ix K (pv 0) pe_int) (j_ix K (pv 0) pe_int) (nomark _))))))))), ?_⟩)) m_f F.kp (F.binds (ps := ["job"]) fun _ _ _ _ _ _ us hl => match us, hl with | [_], _ => rfl)
  refine run_def (N := n_sound) h fun x hx => ?_

  have no : ∀ d : PyData, isTup d = false → soundD d = false := fun d h => by
    unfold soundD
    split
    · cases h
    · rfl
  by_cases ht : isTup x = true
  · obtain ⟨ds, rfl⟩ : ∃ ds, x = .tuple ds := by
      cases x <;> first | exact ⟨_, rfl⟩ | cases ht
    by_cases h3 : ds.length = 3
    · obtain ⟨a, b, c, rfl⟩ : ∃ a b c, ds = [a, b, c] := by
        match ds, h3 with
        | [a, b, c], _ => exact ⟨a, b, c, rfl⟩
      refine x_seq (x_if (b := false) (Et.to (by walk_at "Et") (by rfl)) (fun h => nomatch h) fun _ => x_next) ?_
      by_cases hw : (!wholeD a || (!wholeD b || !wholeD c)) = true
      · have e : soundD (.tuple [a, b, c]) = false := by
          unfold soundD
          split
          · rename_i h
            cases h
            cases hw
          · rfl
        show DX _ _ _ (.rt (.va (.bool (soundD (.tuple [a, b, c])))))
        rw [e]
        exact x_seqR (x_if (b := true) (Et.to (by walk_at "Et") hw) (fun _ => x_ret (by walk_at "Eb")) fun h => nomatch h)
      · have hw' : (!wholeD a || (!wholeD b || !wholeD c)) = false := by simpa using hw
        refine x_seq (x_if (b := false) (Et.to (by walk_at "Et") hw') (fun h => nomatch h) fun _ => x_next) ?_
        have hi : ∀ d : PyData, wholeD d = true → ∃ i, d = .int i := fun d h => by
          cases d <;> first | exact ⟨_, rfl⟩ | cases h
        simp only [Bool.or_eq_false_iff, Bool.not_eq_false'] at hw'
        obtain ⟨i, rfl⟩ := hi a hw'.1
        obtain ⟨j, rfl⟩ := hi b hw'.2.1
        obtain ⟨k, rfl⟩ := hi c hw'.2.2
        exact x_ret' (by walk_at "Eb") (by show PyData.bool _ = PyData.bool (decide (0 ≤ i) && decide (1 ≤ j) && decide (i < k)); rw [Bool.and_assoc])
    · have e : soundD (.tuple ds) = false := by
        unfold soundD
        split
        · rename_i h
          cases h
          exact absurd rfl h3
        · rfl
      show DX _ _ _ (.rt (.va (.bool (soundD (.tuple ds)))))
      rw [e]
      have hn : (!decide (((ds.length : Nat) : Int) = 3)) = true := by
        rw [decide_eq_false (by omega)]
        rfl
      exact x_seqR (x_if (b := true) (Et.to (by walk_at "Et") (by rw [hn]; rfl)) (fun _ => x_ret (by walk_at "Eb")) fun h => nomatch h)
  · have ht' : isTup x = false := by simpa using ht
    show DX _ _ _ (.rt (.va (.bool (soundD x))))
    rw [no x ht']
    refine x_seqR (x_if (b := true) (Et.to (t_or (a := !isTup x) (b := false) (by walk_at "Et") fun h => ?_) (by rw [ht']; rfl)) (fun _ => x_ret (by walk_at "Eb")) fun h => nomatch h)
    rw [ht'] at h
    cases h
/-! ### looked -/
abbrev s_looked : Stmt := topS 10
abbrev n_looked : List Str := ["jobs", "job"]
theorem sc_looked : FnScope n_looked ["jobs"] (defScope s_looked) := ⟨rfl, rfl, rfl, by decide +kernel, rfl, by decide +kernel, by decide +kernel⟩
/-- jobs in order: the very list comes back -/
abbrev R_looked := Rf (fun js : List Job => [jobsD js]) (fun js => js.length ≤ 60 ∧ AllS js) (fun js => .va (jobsD js))
theorem k_looked [KK] {E : XK} {S : DSt} {ta : TA} {js : List Job} (h : Ea ta S [jobsD js]) (hl : js.length ≤ 60) (hs : AllS js) : Eb (tCall (SpR R_looked) [] E ta) S (jobsD js) := e_callR js h rfl ⟨hl, hs⟩ rfl
local macro_rules | `(tactic| walk_at "call") => `(tactic| (apply k_looked; (walk_at "Ea"); (walk_at "side"); (walk_at "side")))
theorem ok_looked {f : Addr} {fd : FuncData} (F : Fun K "looked" "looked" s_looked f fd) (m_f : mg "looked" = some (.ref f)) (b_len : mg "len" = none) {t_LIMIT : Tok} (m_LIMIT : mg "LIMIT" = some (.int 60 t_LIMIT)) (c_sound : Cal P w K mg base 2 "sound" ["job"] R_sound) : Cal P w K mg base 3 "looked" ["jobs"] R_looked := by
  letI : KK := ⟨K⟩
  refine cal_of (F.ok sc_looked (len_of fun _ => rfl) (fun cdv A outer s H vs Q E hr h => ⟨_,
      (pss_cons (ps_if (pt_cmpR op_gt (pe_callB (j_len K) (by rfl) b_len (by decide +kernel) (pa_cons (pv 0) pa_nil)) (pe_glob (v := .int 60) rfl m_LIMIT ⟨_, rfl⟩) (nomark _)) (pss_one ps_never) pss_nil)
      (pss_cons (ps_for PassesOwn.never rfl (j_iList K (pv 0)) (pg_name (i := 1) sc_looked.nd rfl (Or.inl rfl))
        (pss_one (ps_if (pt_not (j_tru K (c_sound.pe (hr.mono (by decide)) rfl (pa_cons (pv 1) pa_nil)))) (pss_one ps_never) pss_nil)))
      (pss_one (ps_ret (pv 0))))), ?_⟩)) m_f F.kp (F.binds (ps := ["jobs"]) fun _ _ _ _ _ _ us hl => match us, hl with | [_], _ => rfl)
  refine run_def (N := n_looked) h fun x hx => ?_

  obtain ⟨hl, hs⟩ := hx
  refine x_seq (x_if (b := false) (Et.to (by walk_at "Et") (decide_eq_false (by simp only [List.length_map]; omega))) (fun h => nomatch h) fun _ => x_next) ?_
  refine x_seq (x_for (fun _ => [.va (jobsD x), .no]) (i_list (by walk_at "Ep")) Le.rfl' fun i d hd => ?_) (x_ret (by walk_at "Eb"))
  rw [List.getElem?_map] at hd
  obtain ⟨j, hj, rfl⟩ := Option.map_eq_some_iff.mp hd
  have h1 := hs j (List.mem_of_getElem? hj)
  refine ⟨_, _, _, g_name, .inl (x_if (b := false) (Et.to (by walk_at "Et") ?_) (fun h => nomatch h) fun _ => x_next), by walk_at "Le"⟩
  rw [(soundD_job j).mpr h1]
  rfl
/-! ### nearest -/
abbrev s_nearest : Stmt := topS 12
abbrev n_nearest : List Str := ["jobs", "left", "time", "best", "place", "job"]
theorem sc_nearest : FnScope n_nearest ["jobs", "left", "time"] (defScope s_nearest) := ⟨rfl, rfl, rfl, by decide +kernel, rfl, by decide +kernel, by decide +kernel⟩
abbrev R_nearest := Rf (fun x : List Job × List Int × Int => [jobsD x.1, intsD x.2.1, .int x.2.2]) (fun x => x.2.1.length = x.1.length) (fun x => .va (optD (nearF x.1 x.2.1 x.2.2)))
theorem k_nearest [KK] {E : XK} {S : DSt} {ta : TA} {js : List Job} {left : List Int} {t : Int} (h : Ea ta S [jobsD js, intsD left, .int t]) (hl : left.length = js.length) : Eb (tCall (SpR R_nearest) [] E ta) S (optD (nearF js left t)) := e_callR (js, left, t) h rfl hl rfl
local macro_rules | `(tactic| walk_at "call") => `(tactic| (apply k_nearest; (walk_at "Ea"); (walk_at "side")))
theorem ok_nearest {f : Addr} {fd : FuncData} (F : Fun K "nearest" "nearest" s_nearest f fd) (m_f : mg "nearest" = some (.ref f)) (b_enumerate : mg "enumerate" = none) : Cal P w K mg base 1 "nearest" ["jobs", "left", "time"] R_nearest := by
  letI : KK := ⟨K⟩
  refine cal_of (F.ok sc_nearest (len_of fun _ => rfl) (fun cdv A outer s H vs Q E hr h => ⟨_,
      (pss_cons (ps_set (i := 3) sc_nearest.nd rfl (Or.inl rfl) pe_non)
      (pss_cons (ps_for PassesOwn.never rfl (j_enum K rfl b_enumerate (pa_cons (pv 0) pa_nil)) (j_tup K (n := 2) rfl (pgs_cons (pg_name (i := 4) sc_nearest.nd rfl (Or.inl rfl)) (pgs_cons (pg_name (i := 5) sc_nearest.nd rfl (Or.inl rfl)) pgs_nil)))
        (pss_one (ps_if (PW.pt (pw_and (pt_cmpR op_le (j_ix K (pv 5) pe_int) (pv 2) (nomark _)) (pw_and1 (pt_cmpR op_gt (j_ix K (pv 1) (pv 4)) pe_int (nomark _))))) (pss_one (ps_if (PW.pt (pw_or (pt_cmpR op_isNo (pv 3) pe_non (nomark _)) (pw_or1 (pt_cmpR op_lt (j_ix K (pv 5) pe_int) (j_ix K (j_ix K (pv 0) (pv 3)) pe_int) (nomark _))))) (pss_one (ps_set (i := 3) sc_nearest.nd rfl (Or.inl rfl) (pv 4))) pss_nil)) pss_nil)))
      (pss_one (ps_ret (pv 3))))), ?_⟩)) m_f F.kp (F.binds (ps := ["jobs", "left", "time"]) fun _ _ _ _ _ _ us hl => match us, hl with | [_, _, _], _ => rfl)
  refine run_def (N := n_nearest) h fun x hx => ?_

  obtain ⟨js, left, t⟩ := x
  have hl : left.length = js.length := hx
  show DX _ _ _ (.rt (.va (optD (nearF js left t))))
  refine x_seq (x_set (d := .none) (by walk_at "Ep")) ?_
  refine x_seq (x_for (fun i => [.va (jobsD js), .va (intsD left), .va (.int t), .va (optD (nearUp js left t i)), .no, .no]) (i_enum (by walk_at "Ep")) (by walk_at "Le") fun i d hd => ?_) ?_
  · rw [List.getElem?_mapIdx, List.getElem?_map, Option.map_map] at hd
    obtain ⟨j, hj, rfl⟩ := Option.map_eq_some_iff.mp hd
    have hi : i < js.length := (List.getElem?_eq_some_iff.mp hj).1
    have ej := jAt_of hj
    have hat : atI (left.map PyData.int) (i : Int) = some (.int (lAt left i)) := at_map (getD_some (by omega))
    have hlt : ∀ p, nearUp js left t i = some p → p < i := fun p h => nearUp_lt h
    show ∃ ws S1 S2, Dg ws _ (.tuple [.int (i : Int), jobD j]) _ S1 ∧ _ ∧ Le S2 [.va (jobsD js), .va (intsD left), .va (.int t), .va (optD (nearStep js left t (nearUp js left t i) i)), .no, .no]
    generalize nearUp js left t i = b at *
    refine ⟨_, _, [.va (jobsD js), .va (intsD left), .va (.int t), .va (optD (nearStep js left t b i)), .va (.int (i : Int)), .va (jobD j)], g_tup (gs_cons g_name (gs_cons g_name gs_nil)) rfl, .inl ?_, by walk_at "Le"⟩
    unfold nearStep
    rw [ej]
    by_cases q : j.1 ≤ t ∧ 0 < lAt left i
    · rw [if_pos q]
      refine x_if (b := true) (Et.to (by walk_at "Et") (by rw [decide_eq_true q.1, decide_eq_true q.2]; rfl)) (fun _ => ?_) (fun h => nomatch h)
      cases b with
      | none =>
        exact x_if (b := true) (Et.to (t_or (a := true) (b := false) (Et.to (by walk_at "Et") (by rfl)) (fun h => nomatch h)) (by rfl)) (fun _ => x_post (x_set (d := .int (i : Int)) (by walk_at "Ep")) (by walk_at "Le")) (fun h => nomatch h)
      | some p =>
        have hp : p < js.length := by have := hlt p rfl; omega
        have hat2 : atI (jobsL js) (p : Int) = some (jobD (jAt js p)) := at_map (getD_some hp)
        by_cases c : j.2.2 < (jAt js p).2.2
        · show DX _ _ _ (.nx [.va (jobsD js), .va (intsD left), .va (.int t), .va (optD (if j.2.2 < (jAt js p).2.2 then some i else some p)), .va (.int (i : Int)), .va (jobD j)])
          rw [if_pos c]
          exact x_if (b := true) (Et.to (t_or (a := false) (b := true) (Et.to (by walk_at "Et") (by rfl)) (fun _ => Et.to (by walk_at "Et") (by exact decide_eq_true c))) (by rfl)) (fun _ => x_post (x_set (d := .int (i : Int)) (by walk_at "Ep")) (by walk_at "Le")) (fun h => nomatch h)
        · show DX _ _ _ (.nx [.va (jobsD js), .va (intsD left), .va (.int t), .va (optD (if j.2.2 < (jAt js p).2.2 then some i else some p)), .va (.int (i : Int)), .va (jobD j)])
          rw [if_neg c]
          exact x_if (b := false) (Et.to (t_or (a := false) (b := false) (Et.to (by walk_at "Et") (by rfl)) (fun _ => Et.to (by walk_at "Et") (by exact decide_eq_false c))) (by rfl)) (fun h => nomatch h) (fun _ => x_next)
    · rw [if_neg q]
      refine x_if (b := false) (Et.to (by walk_at "Et") (by rw [← Bool.decide_and]; exact decide_eq_false q)) (fun h => nomatch h) (fun _ => x_next)
  · rw [List.length_mapIdx, List.length_map]
    exact x_ret (by walk_at "Eb")
/-! ### upcoming -/
abbrev s_upcoming : Stmt := topS 13
abbrev n_upcoming : List Str := ["jobs", "time", "found", "job"]
theorem sc_upcoming : FnScope n_upcoming ["jobs", "time"] (defScope s_upcoming) := ⟨rfl, rfl, rfl, by decide +kernel, rfl, by decide +kernel, by decide +kernel⟩
abbrev R_upcoming := Rf (fun x : List Job × Int => [jobsD x.1, .int x.2]) (fun _ => True) (fun x => .va (optI (upF x.1 x.2)))
theorem k_upcoming [KK] {E : XK} {S : DSt} {ta : TA} {js : List Job} {t : Int} (h : Ea ta S [jobsD js, .int t]) : Eb (tCall (SpR R_upcoming) [] E ta) S (optI (upF js t)) := e_callR (js, t) h rfl trivial rfl
local macro_rules | `(tactic| walk_at "call") => `(tactic| (apply k_upcoming; (walk_at "Ea")))
theorem ok_upcoming {f : Addr} {fd : FuncData} (F : Fun K "upcoming" "upcoming" s_upcoming f fd) (m_f : mg "upcoming" = some (.ref f)) : Cal P w K mg base 1 "upcoming" ["jobs", "time"] R_upcoming := by
  letI : KK := ⟨K⟩
  refine cal_of (F.ok sc_upcoming (len_of fun _ => rfl) (fun cdv A outer s H vs Q E hr h => ⟨_,
      (pss_cons (ps_set (i := 2) sc_upcoming.nd rfl (Or.inl rfl) pe_non)
      (pss_cons (ps_for PassesOwn.never rfl (j_iList K (pv 0)) (pg_name (i := 3) sc_upcoming.nd rfl (Or.inl rfl))
        (pss_one (ps_if (PW.pt (pw_and (pt_cmpR op_gt (j_ix K (pv 3) pe_int) (pv 1) (nomark _)) (pw_and1 (PW.pt (pw_or (pt_cmpR op_isNo (pv 2) pe_non (nomark _)) (pw_or1 (pt_cmpR op_lt (j_ix K (pv 3) pe_int) (pv 2) (nomark _)))))))) (pss_one (ps_set (i := 2) sc_upcoming.nd rfl (Or.inl rfl) (j_ix K (pv 3) pe_int))) pss_nil)))
      (pss_one (ps_ret (pv 2))))), ?_⟩)) m_f F.kp (F.binds (ps := ["jobs", "time"]) fun _ _ _ _ _ _ us hl => match us, hl with | [_, _], _ => rfl)
  refine run_def (N := n_upcoming) h fun x hx => ?_

  obtain ⟨js, t⟩ := x
  show DX _ _ _ (.rt (.va (optI (upF js t))))
  refine x_seq (x_set (d := .none) (by walk_at "Ep")) ?_
  refine x_seq (x_for (fun i => [.va (jobsD js), .va (.int t), .va (optI (upF (js.take i) t)), .no]) (i_list (by walk_at "Ep")) (by walk_at "Le") fun i d hd => ?_) ?_
  · rw [List.getElem?_map] at hd
    obtain ⟨j, hj, rfl⟩ := Option.map_eq_some_iff.mp hd
    rw [upF_take hj]
    generalize upF (js.take i) t = b
    refine ⟨_, _, [.va (jobsD js), .va (.int t), .va (optI (upStep t b j)), .va (jobD j)], g_name, .inl ?_, by walk_at "Le"⟩
    unfold upStep
    by_cases q : t < j.1
    · rw [if_pos q]
      cases b with
      | none =>
        exact x_if (b := true) (Et.to (t_and (a := true) (b := true) (Et.to (by walk_at "Et") (by exact decide_eq_true q)) (fun _ => Et.to (t_or (a := true) (b := false) (Et.to (by walk_at "Et") (by rfl)) (fun h => nomatch h)) (by rfl))) (by rfl)) (fun _ => x_post (x_set (d := .int j.1) (by walk_at "Ep")) (by walk_at "Le")) (fun h => nomatch h)
      | some c =>
        show DX _ _ _ (.nx [.va (jobsD js), .va (.int t), .va (optI (if j.1 < c then some j.1 else some c)), .va (jobD j)])
        by_cases c2 : j.1 < c
        · rw [if_pos c2]
          exact x_if (b := true) (Et.to (t_and (a := true) (b := true) (Et.to (by walk_at "Et") (by exact decide_eq_true q)) (fun _ => Et.to (t_or (a := false) (b := true) (Et.to (by walk_at "Et") (by rfl)) (fun _ => Et.to (by walk_at "Et") (by exact decide_eq_true c2))) (by rfl))) (by rfl)) (fun _ => x_post (x_set (d := .int j.1) (by walk_at "Ep")) (by walk_at "Le")) (fun h => nomatch h)
        · rw [if_neg c2]
          exact x_if (b := false) (Et.to (t_and (a := true) (b := false) (Et.to (by walk_at "Et") (by exact decide_eq_true q)) (fun _ => Et.to (t_or (a := false) (b := false) (Et.to (by walk_at "Et") (by rfl)) (fun _ => Et.to (by walk_at "Et") (by exact decide_eq_false c2))) (by rfl))) (by rfl)) (fun h => nomatch h) (fun _ => x_next)
    · rw [if_neg q]
      exact x_if (b := false) (Et.to (t_and (a := false) (b := false) (Et.to (by walk_at "Et") (by exact decide_eq_false q)) (fun h => nomatch h)) (by rfl)) (fun h => nomatch h) (fun _ => x_next)
  · rw [List.length_map, List.take_length]
    exact x_ret (by walk_at "Eb")
/-! ### joined -/
abbrev s_joined : Stmt := topS 14
abbrev n_joined : List Str := ["pieces", "piece"]
theorem sc_joined : FnScope n_joined ["pieces", "piece"] (defScope s_joined) := ⟨rfl, rfl, rfl, by decide +kernel, rfl, by decide +kernel, by decide +kernel⟩
abbrev R_joined := Rf (fun x : List Piece × Piece => [jobsD x.1, jobD x.2]) (fun x => x.1.length ≤ 1000) (fun x => .nw (jobsL (joinF x.1 x.2)))
theorem k_joined [KK] {E : XK} {S : DSt} {ta : TA} {ps : List Piece} {p : Piece} (h : Ea ta S [jobsD ps, jobD p]) (hl : ps.length ≤ 1000) : En (tCall (SpR R_joined) [] E ta) S (jobsL (joinF ps p)) := n_callR (ps, p) h rfl hl rfl
local macro_rules | `(tactic| walk_at "call") => `(tactic| (apply k_joined; (walk_at "Ea"); (walk_at "side")))
theorem ok_joined {f : Addr} {fd : FuncData} (F : Fun K "joined" "joined" s_joined f fd) (m_f : mg "joined" = some (.ref f)) : Cal P w K mg base 1 "joined" ["pieces", "piece"] R_joined := by
  letI : KK := ⟨K⟩
  refine cal_of (F.ok sc_joined (len_of fun _ => rfl) (fun cdv A outer s H vs Q E hr h => ⟨_,
      (pss_cons (ps_if (PW.pt (pw_and (j_tru K (pv 0)) (pw_and (pt_cmpR (j_eq K hr.units) (j_ix K (j_ix K (pv 0) (pe_un un_neg pe_int)) pe_int) (j_ix K (pv 1) pe_int) (nomark _)) (pw_and1 (pt_cmpR (j_eq K hr.units) (j_ix K (j_ix K (pv 0) (pe_un un_neg pe_int)) pe_int) (j_ix K (pv 1) pe_int) (nomark _)))))) (pss_one (ps_ret (pe_op op_plus (j_sl K (pv 0) po_none (po_some (pe_un un_neg pe_int))) (pe_lst (pa_cons (pe_tup (pa_cons (j_ix K (pv 1) pe_int) (pa_cons (j_ix K (j_ix K (pv 0) (pe_un un_neg pe_int)) pe_int) (pa_cons (j_ix K (pv 1) pe_int) pa_nil)))) pa_nil))))) pss_nil)
      (pss_one (ps_ret (pe_op op_plus (pv 0) (pe_lst (pa_cons (pv 1) pa_nil)))))), ?_⟩)) m_f F.kp (F.binds (ps := ["pieces", "piece"]) fun _ _ _ _ _ _ us hl => match us, hl with | [_, _], _ => rfl)
  refine run_def (N := n_joined) h fun x hx => ?_

  obtain ⟨ps, p⟩ := x
  have hl : ps.length ≤ 1000 := hx
  have hl2 : (jobsL ps).length ≤ 1000 := by rw [List.length_map]; exact hl
  show DX _ _ _ (.rt (.nw (jobsL (joinF ps p))))
  have put : ∀ qs : List Piece, jobsL qs ++ [jobD p] = jobsL (qs ++ [p]) := fun qs => by
    rw [jobsL, jobsL, List.map_append]
    rfl
  rcases List.eq_nil_or_concat ps with e | ⟨qs, l, e⟩
  · subst e
    refine x_seq (x_if (b := false) (Et.to (t_and (a := false) (b := false) (Et.to (by walk_at "Et") (by rfl)) (fun h => nomatch h)) (by rfl)) (fun h => nomatch h) (fun _ => x_next)) ?_
    exact x_retN (En.to (by walk_at "En") (by rfl))
  · rw [List.concat_eq_append] at e
    subst e
    rw [joinF_last]
    have hat : atI (jobsL (qs ++ [l])) (-1) = some (jobD l) := by
      rw [jobsL, List.map_append]
      exact atI_last _ _
    have hz : (!(jobsL (qs ++ [l])).isEmpty) = true := by
      rw [jobsL, List.map_append]
      cases qs <;> rfl
    by_cases c : l.1 = p.1 ∧ l.2.2 = p.2.1
    · rw [if_pos c]
      refine x_seqR (x_if (b := true) (Et.to (by walk_at "Et") (by rw [hz, decide_eq_true c.1, decide_eq_true c.2]; rfl)) (fun _ => ?_) (fun h => nomatch h))
      refine x_retN (En.to (e_cat (ds := cutD (jobsL (qs ++ [l])) none (some (-1))) (es := [jobD (p.1, l.2.1, p.2.2)]) (by walk_at "Eb") (by walk_at "Eb") ?_) ?_)
      · rw [cutD_init, List.length_dropLast]
        show _ + 1 ≤ _
        omega
      · rw [cutD_init, jobsL, List.map_append, List.dropLast_append_of_ne_nil (by simp), jobsL, List.map_append]
        simp
    · rw [if_neg c]
      refine x_seq (x_if (b := false) (Et.to (by walk_at "Et") (by
        rw [hz, ← Bool.decide_and, Bool.true_and]
        exact decide_eq_false c)) (fun h => nomatch h) (fun _ => x_next)) ?_
      rw [← put]
      have hl3 : (jobsL (qs ++ [l])).length + [jobD p].length ≤ 100000 := by
        show _ + 1 ≤ _
        omega
      exact x_retN (by walk_at "En")
/-! ### worked -/
abbrev s_worked : Stmt := topS 15
abbrev n_worked : List Str := ["jobs", "left", "pieces", "time", "place", "coming", "stop", "job"]
theorem sc_worked : FnScope n_worked ["jobs"] (defScope s_worked) := ⟨rfl, rfl, rfl, by decide +kernel, rfl, by decide +kernel, by decide +kernel⟩
abbrev R_worked := Rf (fun js : List Job => [jobsD js]) (fun js => js.length ≤ 60 ∧ AllS js) (fun js => .nw (jobsL (workedF js)))
theorem k_worked [KK] {E : XK} {S : DSt} {ta : TA} {js : List Job} (h : Ea ta S [jobsD js]) (hp : js.length ≤ 60 ∧ AllS js) : En (tCall (SpR R_worked) [] E ta) S (jobsL (workedF js)) := n_callR js h rfl hp rfl
local macro_rules | `(tactic| walk_at "call") => `(tactic| (apply k_worked; (walk_at "Ea"); (walk_at "side")))
def wSl (js : List Job) (w : WS) : DSt := [.va (jobsD js), .ow (w.1.map .int), .ow (jobsL w.2.1), .va (.int w.2.2), .no, .no, .no, .no]
theorem ok_worked {f : Addr} {fd : FuncData} (F : Fun K "worked" "worked" s_worked f fd) (m_f : mg "worked" = some (.ref f)) (b_max : mg "max" = none) (c_nearest : Cal P w K mg base 1 "nearest" ["jobs", "left", "time"] R_nearest) (c_upcoming : Cal P w K mg base 1 "upcoming" ["jobs", "time"] R_upcoming) (c_joined : Cal P w K mg base 1 "joined" ["pieces", "piece"] R_joined) : Cal P w K mg base 2 "worked" ["jobs"] R_worked := by
  letI : KK := ⟨K⟩
  refine cal_of (F.ok sc_worked (len_of fun _ => rfl) (fun cdv A outer s H vs Q E hr h => ⟨_,
      (pss_cons (ps_setLc (i := 1) (own := [("job", 7)]) rfl sc_worked.nd rfl rfl (sw_true rfl rfl rfl (by decide +kernel)) (j_iList K (pv 0)) (blkOk_by (own := [("job", 7)]) (N := n_worked) (sc := (defScope s_worked)) (by decide +kernel)) (fun _ _ _ _ _ => (pg_name (i := 7) sc_worked.nd rfl (Or.inl rfl))) (fun _ _ _ _ _ => pts_nil) (fun _ _ _ _ _ => (j_ix K (pv 7) pe_int)))
      (pss_cons (ps_set (i := 2) sc_worked.nd rfl (Or.inl rfl) (pe_lst pa_nil))
      (pss_cons (ps_set (i := 3) sc_worked.nd rfl (Or.inl rfl) pe_int)
      (pss_cons (ps_while PassesOwn.never (pt_cmpR op_gt (pe_maxD K rfl hr.units (by rfl) b_max (pv 1) pe_int) pe_int (nomark _)) (pss_cons (ps_set (i := 4) sc_worked.nd rfl (Or.inl rfl) (c_nearest.pe (hr.mono (by decide)) rfl (pa_cons (pv 0) (pa_cons (pv 1) (pa_cons (pv 3) pa_nil)))))
        (pss_cons (ps_set (i := 5) sc_worked.nd rfl (Or.inl rfl) (c_upcoming.pe (hr.mono (by decide)) rfl (pa_cons (pv 0) (pa_cons (pv 3) pa_nil))))
        (pss_one (ps_if (pt_cmpR op_isNo (pv 4) pe_non (nomark _)) (pss_one (ps_set (i := 3) sc_worked.nd rfl (Or.inl rfl) (pv 5))) (pss_cons (ps_set (i := 6) sc_worked.nd rfl (Or.inl rfl) (pe_op op_plus (pv 3) (j_ix K (pv 1) (pv 4))))
          (pss_cons (ps_if (PW.pt (pw_and (pt_cmpR op_notNo (pv 5) pe_non (nomark _)) (pw_and1 (pt_cmpR op_lt (pv 5) (pv 6) (nomark _))))) (pss_one (ps_set (i := 6) sc_worked.nd rfl (Or.inl rfl) (pv 5))) pss_nil)
          (pss_cons (ps_set (i := 2) sc_worked.nd rfl (Or.inl rfl) (c_joined.pe (hr.mono (by decide)) rfl (pa_cons (pv 2) (pa_cons (pe_tup (pa_cons (pv 4) (pa_cons (pv 3) (pa_cons (pv 6) pa_nil)))) pa_nil))))
          (pss_cons (ps_asg (pe_op op_sub (j_ix K (pv 1) (pv 4)) (pe_op op_sub (pv 6) (pv 3))) (pg_sub (pv 1) (pv 4) set_list))
          (pss_one (ps_set (i := 3) sc_worked.nd rfl (Or.inl rfl) (pv 6))))))))))))
      (pss_one (ps_ret (pv 2))))))), ?_⟩)) m_f F.kp (F.binds (ps := ["jobs"]) fun _ _ _ _ _ _ us hl => match us, hl with | [_], _ => rfl)
  refine run_def (N := n_worked) h fun x hx => ?_

  obtain ⟨hl, hs⟩ : x.length ≤ 60 ∧ AllS x := hx
  show DX _ _ _ (.rt (.nw (jobsL (workedF x))))
  refine x_seq (x_setO (i := 1) (ds := (lens x).map .int) (En.to (n_lc x (fun j => jobD j) (fun _ => true) (fun j => .int j.2.1) (i_list (by walk_at "Ep")) (by omega) fun j hj => ⟨_, _, by simp, g_name, t_yes, fun _ => ⟨by walk_at "Eb", rfl⟩⟩) (by rw [List.filter_eq_self.mpr (fun _ _ => rfl), lens, List.map_map]; rfl)) (immL_ints _)) ?_
  refine x_seq (x_setO (i := 2) (ds := jobsL []) (by walk_at "En") rfl) ?_
  refine x_seq (x_set (d := .int 0) (by walk_at "Ep")) ?_
  obtain ⟨n1, n2⟩ := wN_spec hs
  refine x_seq (S1 := wSl x (wIter x (wN x))) (x_while (fun i => wSl x (wIter x i)) (wN x) (by walk_at "Le") (fun i hi => ?_) (fun i hi => ?_) ?_) ?_
  · exact Et.to (by walk_at "Et") (by exact decide_eq_true ((mxD_pos _).mpr (n1 i hi)))
  · obtain ⟨iv, lv⟩ := rinv_at hs i fun k hk => n1 k (by omega)
    have hlen := iv.len
    have hb := n1 i hi
    have fw := iv.few
    show ∃ S2, DX _ _ (wSl x (wIter x i)) (.nx S2) ∧ Le S2 (wSl x (wStep x (wIter x i)))
    generalize wIter x i = w at *
    obtain ⟨left, ps, t⟩ := w
    have hlen : left.length = x.length := hlen
    refine ⟨wSl x (wStep x (left, ps, t)), ?_, Le.rfl'⟩
    show DX _ _ [.va (jobsD x), .ow (left.map .int), .ow (jobsL ps), .va (.int t), .no, .no, .no, .no] _
    refine x_seq (x_set (i := 4) (d := optD (nearF x left t)) (Ep.imm (k_nearest (by walk_at "Ea") hlen) (by cases nearF x left t <;> rfl))) ?_
    refine x_seq (x_set (i := 5) (d := optI (upF x t)) (Ep.imm (k_upcoming (by walk_at "Ea")) (by cases upF x t <;> rfl))) ?_
    have hn := nearF_spec x left t
    have hu := upF_spec x t
    unfold wStep
    dsimp only
    generalize nearF x left t = b at hn
    generalize upF x t = c at hu
    cases b with
    | none =>
      obtain ⟨k, hk, hp⟩ := busy_at hb
      have hk : k < left.length := hk
      obtain ⟨c0, ec⟩ : ∃ c0, c = some c0 := by
        cases c with
        | some c0 => exact ⟨c0, rfl⟩
        | none => exact absurd ⟨hu _ (jAt_mem (by omega)), hp⟩ (hn k (by omega))
      subst ec
      refine x_if (b := true) (Et.to (by walk_at "Et") (by rfl)) (fun _ => ?_) (fun h => nomatch h)
      refine x_post (x_set (i := 3) (d := .int c0) (by walk_at "Ep")) (by walk_at "Le")
    | some p =>
      dsimp only
      have hpl : p < left.length := by have := hn.1; omega
      have hat : atI (left.map PyData.int) (p : Int) = some (.int (lAt left p)) := at_map (getD_some hpl)
      refine x_if (b := false) (Et.to (by walk_at "Et") (by rfl)) (fun h => nomatch h) (fun _ => ?_)
      refine x_seq (x_set (i := 6) (d := .int (t + lAt left p)) (by walk_at "Ep")) ?_
      refine x_seq (S1 := [.va (jobsD x), .ow (left.map .int), .ow (jobsL ps), .va (.int t), .va (.int (p : Int)), .no, .va (.int (stopF t (lAt left p) c)), .no]) ?_ ?_
      · cases c with
        | none => exact x_if (b := false) (Et.to (t_and (a := false) (b := false) (Et.to (by walk_at "Et") (by rfl)) (fun h => nomatch h)) (by rfl)) (fun h => nomatch h) (fun _ => x_post x_next (by walk_at "Le"))
        | some c0 =>
          show DX _ _ _ (.nx [.va (jobsD x), .ow (left.map .int), .ow (jobsL ps), .va (.int t), .va (.int (p : Int)), .no, .va (.int (if c0 < t + lAt left p then c0 else t + lAt left p)), .no])
          by_cases q : c0 < t + lAt left p
          · rw [if_pos q]
            exact x_if (b := true) (Et.to (t_and (a := true) (b := true) (Et.to (by walk_at "Et") (by rfl)) (fun _ => Et.to (by walk_at "Et") (by exact decide_eq_true q))) (by rfl)) (fun _ => x_post (x_set (i := 6) (d := .int c0) (by walk_at "Ep")) (by walk_at "Le")) (fun h => nomatch h)
          · rw [if_neg q]
            exact x_if (b := false) (Et.to (t_and (a := true) (b := false) (Et.to (by walk_at "Et") (by rfl)) (fun _ => Et.to (by walk_at "Et") (by exact decide_eq_false q))) (by rfl)) (fun h => nomatch h) (fun _ => x_post x_next (by walk_at "Le"))
      · generalize stopF t (lAt left p) c = e
        have hps : ps.length ≤ 1000 := by
          have fw : ps.length + (cntA x t + cntB left) ≤ 2 * x.length := fw
          omega
        refine x_seq (x_setO (i := 2) (ds := jobsL (joinF ps ((p : Int), t, e))) (k_joined (p := ((p : Int), t, e)) (by walk_at "Ea") hps) (immL_jobs _)) ?_
        have hix : ixN (left.map PyData.int).length (p : Int) = some p := by
          rw [List.length_map]
          unfold ixN
          rw [if_pos (by omega), if_pos (by omega)]
          simp
        refine x_seq (x_put (i := 1) (j := p) (z := (p : Int)) (d := .int (lAt left p - (e - t))) rfl (by walk_at "Eb") rfl (by walk_at "Eb") hix) ?_
        refine x_post (x_set (i := 3) (d := .int e) (by walk_at "Ep")) ?_
        rw [← List.map_set]
        walk_at "Le"
  · exact Et.to (by walk_at "Et") (by exact decide_eq_false fun h => n2 ((mxD_pos _).mp h))
  · exact x_retO (i := 2) rfl
/-! ### last_ends -/
abbrev s_last_ends : Stmt := topS 18
abbrev n_last_ends : List Str := ["jobs", "pieces", "found", "place", "begin", "end"]
theorem sc_last_ends : FnScope n_last_ends ["jobs", "pieces"] (defScope s_last_ends) := ⟨rfl, rfl, rfl, by decide +kernel, rfl, by decide +kernel, by decide +kernel⟩
abbrev R_last_ends := Rf (fun x : List Job × List Piece => [jobsD x.1, jobsD x.2]) (fun x => x.1.length ≤ 60 ∧ PlacesIn x.1.length x.2) (fun x => .nw ((endsAf x.1.length x.2).map .int))
theorem k_last_ends [KK] {E : XK} {S : DSt} {ta : TA} {js : List Job} {ps : List Piece} (h : Ea ta S [jobsD js, jobsD ps]) (hl : js.length ≤ 60) (hp : PlacesIn js.length ps) : En (tCall (SpR R_last_ends) [] E ta) S ((endsAf js.length ps).map .int) := n_callR (js, ps) h rfl ⟨hl, hp⟩ rfl
local macro_rules | `(tactic| walk_at "call") => `(tactic| (apply k_last_ends; (walk_at "Ea"); (walk_at "side"); (walk_at "side")))
theorem ok_last_ends {f : Addr} {fd : FuncData} (F : Fun K "last_ends" "last_ends" s_last_ends f fd) (m_f : mg "last_ends" = some (.ref f)) (b_len : mg "len" = none) : Cal P w K mg base 1 "last_ends" ["jobs", "pieces"] R_last_ends := by
  letI : KK := ⟨K⟩
  refine cal_of (F.ok sc_last_ends (len_of fun _ => rfl) (fun cdv A outer s H vs Q E hr h => ⟨_,
      (pss_cons (ps_set (i := 2) sc_last_ends.nd rfl (Or.inl rfl) (pe_op op_times (pe_lst (pa_cons pe_int pa_nil)) (pe_callB (j_len K) (by rfl) b_len (by decide +kernel) (pa_cons (pv 0) pa_nil))))
      (pss_cons (ps_for PassesOwn.never rfl (j_iList K (pv 1)) (j_tup K (n := 3) rfl (pgs_cons (pg_name (i := 3) sc_last_ends.nd rfl (Or.inl rfl)) (pgs_cons (pg_name (i := 4) sc_last_ends.nd rfl (Or.inl rfl)) (pgs_cons (pg_name (i := 5) sc_last_ends.nd rfl (Or.inl rfl)) pgs_nil))))
        (pss_one (ps_asg (pv 5) (pg_sub (pv 2) (pv 3) set_list))))
      (pss_one (ps_ret (pv 2))))), ?_⟩)) m_f F.kp (F.binds (ps := ["jobs", "pieces"]) fun _ _ _ _ _ _ us hl => match us, hl with | [_, _], _ => rfl)
  refine run_def (N := n_last_ends) h fun x hx => ?_

  obtain ⟨js, ps⟩ := x
  obtain ⟨hl, hp⟩ : js.length ≤ 60 ∧ PlacesIn js.length ps := hx
  have ez : En (tOp rTimes (tLst (tCons (tC (.int 0)) tNil)) (tCB (rLen K) (tCons (tVar 0) tNil))) ([.va (jobsD js), .va (jobsD ps), .no, .no, .no, .no]) ((List.replicate js.length (0 : Int)).map .int) :=
    n_zeros (Eb.to (by walk_at "Eb") (by rw [List.length_map])) (by omega)
  refine x_seq (x_setO (i := 2) ez (immL_ints _)) ?_
  refine x_seq (x_for (fun i => [.va (jobsD js), .va (jobsD ps), .ow ((endsAf js.length (ps.take i)).map .int), .no, .no, .no]) (i_list (by walk_at "Ep")) (by walk_at "Le") fun i d hd => ?_) ?_
  · rw [List.getElem?_map] at hd
    obtain ⟨p, hpi, rfl⟩ := Option.map_eq_some_iff.mp hd
    obtain ⟨p0, pn⟩ := hp p (List.mem_of_getElem? hpi)
    have hlen := endsAf_len js.length (ps.take i)
    rw [endsAf_take hpi]
    unfold endStep
    generalize endsAf js.length (ps.take i) = es at *
    have a3 : ixN (es.map PyData.int).length p.1 = some p.1.toNat := ixN_pos p0 (by rw [List.length_map, hlen]; exact pn)
    refine ⟨_, _, [.va (jobsD js), .va (jobsD ps), .ow ((es.set p.1.toNat p.2.2).map .int), .no, .no, .no], g_tup (gs_cons g_name (gs_cons g_name (gs_cons g_name gs_nil))) rfl, .inl ?_, Le.rfl'⟩
    refine x_post (x_put (i := 2) (j := p.1.toNat) (z := p.1) (d := .int p.2.2) rfl (by walk_at "Eb") rfl (by walk_at "Eb") a3) ?_
    rw [List.map_set]
    walk_at "Le"
  · rw [List.length_map, List.take_length]
    exact x_retO (i := 2) rfl
/-! ### ends -/
abbrev s_ends : Stmt := topS 19
abbrev n_ends : List Str := ["jobs"]
theorem sc_ends : FnScope n_ends ["jobs"] (defScope s_ends) := ⟨rfl, rfl, rfl, by decide +kernel, rfl, by decide +kernel, by decide +kernel⟩
abbrev R_ends := Rf (fun js : List Job => [jobsD js]) (fun js => js.length ≤ 60 ∧ AllS js) (fun js => .nw ((endsF js).map .int))
theorem k_ends [KK] {E : XK} {S : DSt} {ta : TA} {js : List Job} (h : Ea ta S [jobsD js]) (hp : js.length ≤ 60 ∧ AllS js) : En (tCall (SpR R_ends) [] E ta) S ((endsF js).map .int) := n_callR js h rfl hp rfl
local macro_rules | `(tactic| walk_at "call") => `(tactic| (apply k_ends; (walk_at "Ea"); (walk_at "side")))
theorem ok_ends {f : Addr} {fd : FuncData} (F : Fun K "ends" "ends" s_ends f fd) (m_f : mg "ends" = some (.ref f)) (c_last_ends : Cal P w K mg base 1 "last_ends" ["jobs", "pieces"] R_last_ends) (c_worked : Cal P w K mg base 2 "worked" ["jobs"] R_worked) (c_looked : Cal P w K mg base 3 "looked" ["jobs"] R_looked) : Cal P w K mg base 4 "ends" ["jobs"] R_ends := by
  letI : KK := ⟨K⟩
  refine cal_of (F.ok sc_ends (len_of fun _ => rfl) (fun cdv A outer s H vs Q E hr h => ⟨_,
      (pss_one (ps_ret (c_last_ends.pe (hr.mono (by decide)) rfl (pa_cons (c_looked.pe (hr.mono (by decide)) rfl (pa_cons (pv 0) pa_nil)) (pa_cons (c_worked.pe (hr.mono (by decide)) rfl (pa_cons (pv 0) pa_nil)) pa_nil))))), ?_⟩)) m_f F.kp (F.binds (ps := ["jobs"]) fun _ _ _ _ _ _ us hl => match us, hl with | [_], _ => rfl)
  refine run_def (N := n_ends) h fun x hx => ?_

  obtain ⟨hl, hs⟩ : x.length ≤ 60 ∧ AllS x := hx
  have hp : x.length ≤ 60 ∧ AllS x := ⟨hl, hs⟩
  have hq : PlacesIn x.length (workedF x) := good_places (ran hs).good
  exact x_retN (by walk_at "En")
/-! ### late -/
abbrev s_late : Stmt := topS 20
abbrev n_late : List Str := ["jobs", "found", "pairs", "place", "due"]
theorem sc_late : FnScope n_late ["jobs"] (defScope s_late) := ⟨rfl, rfl, rfl, by decide +kernel, rfl, by decide +kernel, by decide +kernel⟩
abbrev R_late := Rf (fun js : List Job => [jobsD js]) (fun js => js.length ≤ 60 ∧ AllS js) (fun js => .nw ((lateF js (endsF js)).map .int))
theorem k_late [KK] {E : XK} {S : DSt} {ta : TA} {js : List Job} (h : Ea ta S [jobsD js]) (hp : js.length ≤ 60 ∧ AllS js) : En (tCall (SpR R_late) [] E ta) S ((lateF js (endsF js)).map .int) := n_callR js h rfl hp rfl
local macro_rules | `(tactic| walk_at "call") => `(tactic| (apply k_late; (walk_at "Ea"); (walk_at "side")))
theorem ok_late {f : Addr} {fd : FuncData} (F : Fun K "late" "late" s_late f fd) (m_f : mg "late" = some (.ref f)) (b_range : mg "range" = none) (b_len : mg "len" = none) (b_sorted : mg "sorted" = none) (c_ends : Cal P w K mg base 4 "ends" ["jobs"] R_ends) : Cal P w K mg base 5 "late" ["jobs"] R_late := by
  letI : KK := ⟨K⟩
  refine cal_of (F.ok sc_late (len_of fun _ => rfl) (fun cdv A outer s H vs Q E hr h => ⟨_,
      (pss_cons (ps_set (i := 1) sc_late.nd rfl (Or.inr rfl) (c_ends.pe (hr.mono (by decide)) rfl (pa_cons (pv 0) pa_nil)))
      (pss_cons (ps_setLc (i := 2) (own := [("place", 3)]) rfl sc_late.nd rfl rfl (sw_true rfl rfl rfl (by decide +kernel)) (pi_range1 rfl b_range (pa_cons (pe_callB (j_len K) (by rfl) b_len (by decide +kernel) (pa_cons (pv 0) pa_nil)) pa_nil)) (blkOk_by (own := [("place", 3)]) (N := n_late) (sc := (defScope s_late)) (by decide +kernel)) (fun _ _ _ _ _ => (pg_name (i := 3) sc_late.nd rfl (Or.inl rfl))) (fun _ _ _ _ _ => (pts_one (pt_cmpR op_gt (j_ix K (pv 1) (pv 3)) (j_ix K (j_ix K (pv 0) (pv 3)) pe_int) (nomark _)))) (fun _ _ _ _ _ => (pe_tup (pa_cons (j_ix K (j_ix K (pv 0) (pv 3)) pe_int) (pa_cons (pv 3) pa_nil)))))
      (pss_one (ps_ret (pe_lc (own := [("due", 4), ("place", 3)]) rfl sc_late.nd (j_iList K (pe_callB (j_sorted K) (by rfl) b_sorted (by decide +kernel) (pa_cons (pv 2) pa_nil))) (blkOk_by (own := [("due", 4), ("place", 3)]) (N := n_late) (sc := (defScope s_late)) (by decide +kernel)) (fun _ _ _ _ _ => (j_tup K (n := 2) rfl (pgs_cons (pg_name (i := 4) sc_late.nd rfl (Or.inl rfl)) (pgs_cons (pg_name (i := 3) sc_late.nd rfl (Or.inl rfl)) pgs_nil)))) (fun _ _ _ _ _ => pts_nil) (fun _ _ _ _ _ => (pv 3))))))), ?_⟩)) m_f F.kp (F.binds (ps := ["jobs"]) fun _ _ _ _ _ _ us hl => match us, hl with | [_], _ => rfl)
  refine run_def (N := n_late) h fun x hx => ?_

  obtain ⟨hl, hs⟩ : x.length ≤ 60 ∧ AllS x := hx
  have hp : x.length ≤ 60 ∧ AllS x := ⟨hl, hs⟩
  refine x_seq (x_set (i := 1) (d := intsD (endsF x)) (Ep.new (by walk_at "En") (immL_ints _))) ?_
  have hel := endsF_len x
  generalize endsF x = es at *
  refine x_seq (x_set (i := 2) (d := .list ((latePr x es).map prD)) (Ep.new (En.to (n_lc (List.range x.length) (fun k => .int (k : Int)) (fun k => decide ((jAt x k).2.2 < lAt es k)) (fun k => prD ((jAt x k).2.2, (k : Int))) ?a1 (by rw [List.length_range]; omega) fun k hk => ?a2) ?a3) ?a4)) ?_
  case a1 =>
    have h := i_rng1 (S := [.va (jobsD x), .va (intsD es), .no, .no, .no]) (n := (x.length : Int)) (ta := tCons (tCB (rLen K) (tCons (tVar 0) tNil)) tNil) (a_cons (Eb.to (by walk_at "Eb") (by rw [List.length_map])) a_nil) (by omega)
    rw [Int.toNat_natCast] at h
    exact h
  case a2 =>
    have hk' : k < x.length := List.mem_range.mp hk
    have a1 : atI (jobsL x) (k : Int) = some (jobD (jAt x k)) := at_map (getD_some hk')
    have a2 : atI (es.map PyData.int) (k : Int) = some (.int (lAt es k)) := at_map (getD_some (by omega))
    exact ⟨_, _, by simp, g_name, by walk_at "Et", fun _ => ⟨by walk_at "Eb", rfl⟩⟩
  case a3 => rw [latePr, List.map_map]; rfl
  case a4 => exact immL_map fun _ _ => rfl
  have hls : (lateSrt x es).length ≤ x.length := by
    rw [(lateSrt_perm x es).length_eq, latePr, List.length_map]
    exact Nat.le_trans (List.length_filter_le _ _) (Nat.le_of_eq List.length_range)
  have ey : En (tCB (rSortedJ K) (tCons (tVar 2) tNil)) ([.va (jobsD x), .va (intsD es), .va (.list ((latePr x es).map prD)), .no, .no]) ((lateSrt x es).map prD) := n_sortedP (by walk_at "Eb") fun ms h1 h2 => srt_uniq (h1.trans (lateSrt_perm x es).symm) h2 (lateSrt_pw x es)
  refine x_retN (En.to (n_lc (lateSrt x es) prD (fun _ => true) (fun p => .int p.2) (i_list (Ep.new ey (immL_map fun _ _ => rfl))) (by omega) fun p hp => ⟨_, _, by simp, g_tup (gs_cons g_name (gs_cons g_name gs_nil)) rfl, t_yes, fun _ => ⟨by walk_at "Eb", rfl⟩⟩) ?_)
  rw [List.filter_eq_self.mpr (fun _ _ => rfl), lateF, List.map_map]
  rfl
/-! ### crowded -/
abbrev s_crowded : Stmt := topS 22
abbrev n_crowded : List Str := ["jobs", "pieces", "end", "begin", "place", "since", "until"]
theorem sc_crowded : FnScope n_crowded ["jobs", "pieces", "end"] (defScope s_crowded) := ⟨rfl, rfl, rfl, by decide +kernel, rfl, by decide +kernel, by decide +kernel⟩
def crowdStp (js : List Job) (e : Int) (b : Int) (p : Piece) : Int ⊕ Ro := if p.2.1 < b ∧ b ≤ p.2.2 then (if e < (jAt js p.1.toNat).2.2 then .inr (.va (.int b)) else .inl p.2.1) else .inl b
theorem crowd_go (js : List Job) (e : Int) : ∀ (r : List Piece) (b : Int), (∀ b', goS (crowdStp js e) b r = .inl b' → crowdR js e b r = b') ∧ ∀ q, goS (crowdStp js e) b r = .inr q → q = .va (.int (crowdR js e b r))
  | [], b => ⟨fun b' h => Sum.inl.inj h, fun q h => (nomatch h)⟩
  | p :: r, b => by
    unfold goS crowdR crowdStp
    by_cases q : p.2.1 < b ∧ b ≤ p.2.2
    · rw [if_pos q, if_pos q]
      by_cases l : e < (jAt js p.1.toNat).2.2
      · rw [if_pos l, if_pos l]
        exact ⟨fun b' h => (nomatch h), fun q h => (Sum.inr.inj h).symm⟩
      · rw [if_neg l, if_neg l]
        exact crowd_go js e r p.2.1
    · rw [if_neg q, if_neg q]
      exact crowd_go js e r b
abbrev R_crowded := Rf (fun x : List Job × List Piece × Int => [jobsD x.1, jobsD x.2.1, .int x.2.2]) (fun x => PlacesIn x.1.length x.2.1) (fun x => .va (.int (crowdF x.1 x.2.1 x.2.2)))
theorem k_crowded [KK] {E : XK} {S : DSt} {ta : TA} {js : List Job} {ps : List Piece} {e : Int} (h : Ea ta S [jobsD js, jobsD ps, .int e]) (hp : PlacesIn js.length ps) : Eb (tCall (SpR R_crowded) [] E ta) S (.int (crowdF js ps e)) := e_callR (js, ps, e) h rfl hp rfl
local macro_rules | `(tactic| walk_at "call") => `(tactic| (apply k_crowded; (walk_at "Ea"); (walk_at "side")))
theorem ok_crowded {f : Addr} {fd : FuncData} (F : Fun K "crowded" "crowded" s_crowded f fd) (m_f : mg "crowded" = some (.ref f)) : Cal P w K mg base 1 "crowded" ["jobs", "pieces", "end"] R_crowded := by
  letI : KK := ⟨K⟩
  refine cal_of (F.ok sc_crowded (len_of fun _ => rfl) (fun cdv A outer s H vs Q E hr h => ⟨_,
      (pss_cons (ps_set (i := 3) sc_crowded.nd rfl (Or.inl rfl) (pv 2))
      (pss_cons (ps_for PassesOwn.never rfl (j_iList K (j_rev K (pv 1))) (j_tup K (n := 3) rfl (pgs_cons (pg_name (i := 4) sc_crowded.nd rfl (Or.inl rfl)) (pgs_cons (pg_name (i := 5) sc_crowded.nd rfl (Or.inl rfl)) (pgs_cons (pg_name (i := 6) sc_crowded.nd rfl (Or.inl rfl)) pgs_nil))))
        (pss_one (ps_if (PW.pt (pw_and (pt_cmpR op_lt (pv 5) (pv 3) (nomark _)) (pw_and1 (pt_cmpR op_ge (pv 6) (pv 3) (nomark _))))) (pss_cons (ps_if (pt_cmpR op_gt (j_ix K (j_ix K (pv 0) (pv 4)) pe_int) (pv 2) (nomark _)) (pss_one (ps_ret (pv 3))) pss_nil)
          (pss_one (ps_set (i := 3) sc_crowded.nd rfl (Or.inl rfl) (pv 5)))) pss_nil)))
      (pss_one (ps_ret (pv 3))))), ?_⟩)) m_f F.kp (F.binds (ps := ["jobs", "pieces", "end"]) fun _ _ _ _ _ _ us hl => match us, hl with | [_, _, _], _ => rfl)
  refine run_def (N := n_crowded) h fun x hx => ?_

  obtain ⟨js, ps, e⟩ := x
  have hp : PlacesIn js.length ps := hx
  refine x_seq (x_set (d := .int e) (by walk_at "Ep")) ?_
  refine x_forQ (xs := ps.reverse) (f := fun p => jobD p) (b0 := e) (crowdStp js e) (fun b => [.va (jobsD js), .va (jobsD ps), .va (.int e), .va (.int b), .no, .no, .no]) (fun _ => True) (i_list (Ep.new (En.to (by walk_at "En") (by exact List.map_reverse.symm)) (immL_jobs _))) (by walk_at "Le") trivial (fun b p _ hpm => ?_) (fun b h _ => x_ret' (by walk_at "Eb") (by rw [← (crowd_go js e _ _).1 b h]; rfl)) (fun r h => (crowd_go js e _ _).2 r h)
  obtain ⟨p0, pn⟩ := hp p (List.mem_reverse.mp hpm)
  have a1 : atI (jobsL js) p.1 = some (jobD (jAt js p.1.toNat)) := atI_pos p0 (by rw [List.getElem?_map, getD_some (d := J0) pn]; rfl)
  unfold crowdStp
  by_cases q : p.2.1 < b ∧ b ≤ p.2.2
  · rw [if_pos q]
    by_cases l : e < (jAt js p.1.toNat).2.2
    · rw [if_pos l]
      exact ⟨_, [.va (jobsD js), .va (jobsD ps), .va (.int e), .va (.int b), .va (.int p.1), .va (.int p.2.1), .va (.int p.2.2)], g_tup (gs_cons g_name (gs_cons g_name (gs_cons g_name gs_nil))) rfl, x_if (b := true) (Et.to (by walk_at "Et") (by rw [decide_eq_true q.1, decide_eq_true q.2]; rfl)) (fun _ => x_seqR (x_if (b := true) (Et.to (by walk_at "Et") (by exact decide_eq_true l)) (fun _ => x_ret (by walk_at "Eb")) (fun h => nomatch h))) (fun h => nomatch h)⟩
    · rw [if_neg l]
      exact ⟨trivial, _, [.va (jobsD js), .va (jobsD ps), .va (.int e), .va (.int b), .va (.int p.1), .va (.int p.2.1), .va (.int p.2.2)], [.va (jobsD js), .va (jobsD ps), .va (.int e), .va (.int p.2.1), .no, .no, .no], g_tup (gs_cons g_name (gs_cons g_name (gs_cons g_name gs_nil))) rfl, .inl (x_if (b := true) (Et.to (by walk_at "Et") (by rw [decide_eq_true q.1, decide_eq_true q.2]; rfl)) (fun _ => x_seq (x_if (b := false) (Et.to (by walk_at "Et") (by exact decide_eq_false l)) (fun h => nomatch h) (fun _ => x_next)) (x_post (x_set (d := .int p.2.1) (by walk_at "Ep")) (by walk_at "Le"))) (fun h => nomatch h)), Le.rfl'⟩
  · rw [if_neg q]
    exact ⟨trivial, _, [.va (jobsD js), .va (jobsD ps), .va (.int e), .va (.int b), .va (.int p.1), .va (.int p.2.1), .va (.int p.2.2)], [.va (jobsD js), .va (jobsD ps), .va (.int e), .va (.int b), .no, .no, .no], g_tup (gs_cons g_name (gs_cons g_name (gs_cons g_name gs_nil))) rfl, .inl (x_if (b := false) (Et.to (by walk_at "Et") (by rw [← Bool.decide_and]; exact decide_eq_false q)) (fun h => nomatch h) (fun _ => x_post x_next (by walk_at "Le"))), Le.rfl'⟩
/-! ### answer -/
abbrev s_answer : Stmt := topS 23
abbrev n_answer : List Str := ["jobs", "pieces", "places", "end"]
theorem sc_answer : FnScope n_answer ["jobs"] (defScope s_answer) := ⟨rfl, rfl, rfl, by decide +kernel, rfl, by decide +kernel, by decide +kernel⟩
abbrev R_answer := Rf (fun js : List Job => [jobsD js]) (fun js => js.length ≤ 60 ∧ AllS js) (fun js => .va (answerD js))
theorem k_answer [KK] {E : XK} {S : DSt} {ta : TA} {js : List Job} (h : Ea ta S [jobsD js]) (hp : js.length ≤ 60 ∧ AllS js) : Eb (tCall (SpR R_answer) [] E ta) S (answerD js) := e_callR js h rfl hp rfl
local macro_rules | `(tactic| walk_at "call") => `(tactic| (apply k_answer; (walk_at "Ea"); (walk_at "side")))
theorem ok_answer {f : Addr} {fd : FuncData} (F : Fun K "answer" "answer" s_answer f fd) (m_f : mg "answer" = some (.ref f)) (c_looked : Cal P w K mg base 3 "looked" ["jobs"] R_looked) (c_worked : Cal P w K mg base 2 "worked" ["jobs"] R_worked) (c_late : Cal P w K mg base 5 "late" ["jobs"] R_late) (c_crowded : Cal P w K mg base 1 "crowded" ["jobs", "pieces", "end"] R_crowded) : Cal P w K mg base 6 "answer" ["jobs"] R_answer := by
  letI : KK := ⟨K⟩
  refine cal_of (F.ok sc_answer (len_of fun _ => rfl) (fun cdv A outer s H vs Q E hr h => ⟨_,
      (pss_cons (ps_expr (c_looked.pe (hr.mono (by decide)) rfl (pa_cons (pv 0) pa_nil)))
      (pss_cons (ps_set (i := 1) sc_answer.nd rfl (Or.inl rfl) (c_worked.pe (hr.mono (by decide)) rfl (pa_cons (pv 0) pa_nil)))
      (pss_cons (ps_set (i := 2) sc_answer.nd rfl (Or.inl rfl) (c_late.pe (hr.mono (by decide)) rfl (pa_cons (pv 0) pa_nil)))
      (pss_cons (ps_if (pt_not (j_tru K (pv 2))) (pss_one (ps_ret (pe_tup (pa_cons pe_str (pa_cons (pv 1) pa_nil))))) pss_nil)
      (pss_cons (ps_set (i := 3) sc_answer.nd rfl (Or.inl rfl) (j_ix K (j_ix K (pv 0) (j_ix K (pv 2) pe_int)) pe_int))
      (pss_one (ps_ret (pe_tup (pa_cons pe_str (pa_cons (j_ix K (pv 2) pe_int) (pa_cons (c_crowded.pe (hr.mono (by decide)) rfl (pa_cons (pv 0) (pa_cons (pv 1) (pa_cons (pv 3) pa_nil)))) (pa_cons (pv 3) pa_nil)))))))))))), ?_⟩)) m_f F.kp (F.binds (ps := ["jobs"]) fun _ _ _ _ _ _ us hl => match us, hl with | [_], _ => rfl)
  refine run_def (N := n_answer) h fun x hx => ?_

  obtain ⟨hl, hs⟩ : x.length ≤ 60 ∧ AllS x := hx
  have hp : x.length ≤ 60 ∧ AllS x := ⟨hl, hs⟩
  have hq : PlacesIn x.length (workedF x) := good_places (ran hs).good
  show DX _ _ _ (.rt (.va (answerD x)))
  refine x_seq (S1 := [.va (jobsD x), .no, .no, .no]) (x_drop (by walk_at "Eb")) ?_
  refine x_seq (x_set (d := jobsD (workedF x)) (Ep.new (by walk_at "En") (immL_jobs _))) ?_
  refine x_seq (x_set (d := intsD (lateF x (endsF x))) (Ep.new (by walk_at "En") (immL_ints _))) ?_
  unfold answerD
  generalize hlt : lateF x (endsF x) = ls
  cases ls with
  | nil => exact x_seqR (x_if (b := true) (Et.to (by walk_at "Et") (by rfl)) (fun _ => x_ret (by walk_at "Eb")) (fun h => nomatch h))
  | cons k r =>
    have h0 : (lateF x (endsF x))[0]? = some k := by rw [hlt]; rfl
    obtain ⟨m, rfl, hm, _, _⟩ := lateF_at h0
    have a0 : atI (List.map PyData.int ((m : Int) :: r)) 0 = some (.int (m : Int)) := by
      show atI _ ((0 : Nat) : Int) = _
      exact atI_nat rfl
    have a1 : atI (jobsL x) (m : Int) = some (jobD (jAt x m)) := at_map (getD_some hm)
    have ed : dueF x (m : Int) = (jAt x m).2.2 := by unfold dueF; rw [Int.toNat_natCast]
    refine x_seq (x_if (b := false) (Et.to (by walk_at "Et") (by rfl)) (fun h => nomatch h) (fun _ => x_next)) ?_
    dsimp only
    rw [ed]
    refine x_seq (x_set (d := .int (jAt x m).2.2) (by walk_at "Ep")) ?_
    exact x_ret (by walk_at "Eb")
/-! ### Book.take -/
abbrev s_Book_take : Stmt := inClass (topS 25) 1
abbrev n_Book_take : List Str := ["self", "job", "found"]
theorem sc_Book_take : FnScope n_Book_take ["self", "job"] (defScope s_Book_take) := ⟨rfl, rfl, rfl, by decide +kernel, rfl, by decide +kernel, by decide +kernel⟩
open Classical in
noncomputable def takeR [EK] (js : List Job) (j : Job) : Ro := if 60 ≤ js.length then .ex EK.TooMany else if Can (js ++ [j]) then .va .none else .va (lateT (answerD (js ++ [j])))
abbrev R_Book_take [EK] := RfB (α := (List Job × Job) ⊕ (List Job × PyData)) (Sum.elim (fun x => jobsL x.1) fun y => jobsL y.1) (Sum.elim (fun x => [jobD x.2]) fun y => [y.2]) (Sum.elim (fun x => (x.1.length ≤ 60 ∧ AllS x.1) ∧ Snd x.2) fun y => (y.1.length ≤ 60 ∧ AllS y.1) ∧ soundD y.2 = false)
  (Sum.elim (fun x => takeR x.1 x.2) fun _ => .ex EK.BadJob) (Sum.elim (fun x => jobsL (takeJ x.1 x.2)) fun y => jobsL y.1)
local macro_rules | `(tactic| walk_at "call") => `(tactic| (apply Ep.b; apply e_held; (first | exact .inl rfl | exact .inr rfl); assumption; assumption))
theorem ok_Book_take {f : Addr} {fd : FuncData} (F : Fun K "take" "Book.take" s_Book_take f fd) (me : Meth K CKs.Book "take" f) (b_len : mg "len" = none) {t_LIMIT : Tok} (m_LIMIT : mg "LIMIT" = some (.int 60 t_LIMIT)) (e_BadJob : ExF K mg "BadJob" EK.BadJob) (e_TooMany : ExF K mg "TooMany" EK.TooMany) (c_sound : Cal P w K mg base 2 "sound" ["job"] R_sound) (c_answer : Cal P w K mg base 6 "answer" ["jobs"] R_answer) (cl : Cls K CKs.Book) (nH : NoAttr K CKs.Book "held") : Met P w K mg base (L2.CX P w) 7 CKs.Book "take" ["self", "job"] (@SpB ⟨K⟩ CKs.Book R_Book_take) := by
  letI : KK := ⟨K⟩
  refine ⟨f, fd, F.okX sc_Book_take (len_ofB fun x => by first | rfl | (cases x <;> rfl)) (fun cdv A outer s H vs Q E hr h => ⟨_,
      (pss_cons (ps_if (pt_not (j_tru K (c_sound.pe (hr.mono (by decide)) rfl (pa_cons (pv 1) pa_nil)))) (pss_one (ps_raiseE rfl (takes_of rfl rfl rfl rfl) e_BadJob rfl)) pss_nil)
      (pss_cons (ps_if (pt_cmpR op_ge (pe_callB (j_len K) (by rfl) b_len (by decide +kernel) (pa_cons (j_fld (K := K) (pv 0)) pa_nil)) (pe_glob (v := .int 60) rfl m_LIMIT ⟨_, rfl⟩) (nomark _)) (pss_one (ps_raiseE rfl (takes_of rfl rfl rfl rfl) e_TooMany rfl)) pss_nil)
      (pss_cons (ps_set (i := 2) sc_Book_take.nd rfl (Or.inl rfl) (c_answer.pe (hr.mono (by decide)) rfl (pa_cons (pe_op op_plus (j_fld (K := K) (pv 0)) (pe_lst (pa_cons (pv 1) pa_nil))) pa_nil)))
      (pss_cons (ps_if (pt_cmpR (j_eq K hr.units) (j_ix K (pv 2) pe_int) pe_str (nomark _)) (pss_one (ps_ret (pe_tup (pa_cons (j_ix K (pv 2) pe_int) (pa_cons (j_ix K (pv 2) pe_int) (pa_cons (j_ix K (pv 2) pe_int) pa_nil)))))) pss_nil)
      (pss_cons (j_sfld (K := K) (pv 0) (pe_op op_plus (j_fld (K := K) (pv 0)) (pe_lst (pa_cons (pv 1) pa_nil))))
      (pss_one (ps_ret pe_non))))))), ?_⟩), me, F.binds (ps := ["self", "job"]) fun _ _ _ _ _ _ us hl => match us, hl with | [_, _], _ => rfl⟩
  refine run_defB (N := n_Book_take) h fun b x hx => ?_

  cases x with
  | inr y =>
    obtain ⟨js, d⟩ := y
    obtain ⟨⟨hl, hs⟩, hd⟩ : (js.length ≤ 60 ∧ AllS js) ∧ soundD d = false := hx
    show DX _ _ [.bk CKs.Book b (jobsL js), .va d, .no] (.rt (.bo CKs.Book b (jobsL js) (.ex EK.BadJob)))
    exact x_seqR (x_if (b := true) (Et.to (by walk_at "Et") (by rw [hd]; rfl)) (fun _ => x_raiseB (i := 0) rfl) (fun h => nomatch h))
  | inl y =>
    obtain ⟨js, j⟩ := y
    obtain ⟨⟨hl, hs⟩, hj⟩ : (js.length ≤ 60 ∧ AllS js) ∧ Snd j := hx
    have hd : soundD (jobD j) = true := (soundD_job j).mpr hj
    have hlen : (jobsL js).length = js.length := List.length_map _
    show DX _ _ [.bk CKs.Book b (jobsL js), .va (jobD j), .no] (.rt (.bo CKs.Book b (jobsL (takeJ js j)) (takeR js j)))
    refine x_seq (x_if (b := false) (Et.to (by walk_at "Et") (by rw [hd]; rfl)) (fun h => nomatch h) (fun _ => x_next)) ?_
    unfold takeR takeJ
    by_cases h60 : 60 ≤ js.length
    · rw [if_pos h60, if_pos h60]
      exact x_seqR (x_if (b := true) (Et.to (by walk_at "Et") (by exact decide_eq_true (by rw [hlen]; omega))) (fun _ => x_raiseB (i := 0) rfl) (fun h => nomatch h))
    rw [if_neg h60, if_neg h60]
    refine x_seq (x_if (b := false) (Et.to (by walk_at "Et") (by exact decide_eq_false (by rw [hlen]; omega))) (fun h => nomatch h) (fun _ => x_next)) ?_
    have hs2 : AllS (js ++ [j]) := fun i hi => by
      rcases List.mem_append.mp hi with h | h
      · exact hs i h
      · rw [List.mem_singleton.mp h]
        exact hj
    have hp2 : (js ++ [j]).length ≤ 60 ∧ AllS (js ++ [j]) := ⟨by rw [List.length_append, List.length_singleton]; omega, hs2⟩
    have ec : jobsL js ++ [jobD j] = jobsL (js ++ [j]) := jobsL_snoc js j
    have eh : En (tOp rPlus (tFld K (tVar 0) "held") (tLst (tCons (tVar 1) tNil))) [.bk CKs.Book b (jobsL js), .va (jobD j), .no] (jobsL (js ++ [j])) := En.to (e_cat (by walk_at "Eb") (by walk_at "Eb") (by rw [hlen, List.length_singleton]; omega)) ec
    refine x_seq (x_set (i := 2) (d := answerD (js ++ [j])) (Ep.freeB (k_answer (a_cons eh.b a_nil) hp2) rfl)) ?_
    by_cases hc : Can (js ++ [j])
    · rw [if_pos hc, if_pos hc, answerD_plan hc]
      generalize jobsD (workedF (js ++ [j])) = pd
      refine x_seq (x_if (b := false) (Et.to (by walk_at "Et") (by rfl)) (fun h => nomatch h) (fun _ => x_next)) ?_
      have eh2 : En (tOp rPlus (tFld K (tVar 0) "held") (tLst (tCons (tVar 1) tNil))) [.bk CKs.Book b (jobsL js), .va (jobD j), .va (.tuple [.str (Str.ofString "plan"), pd])] (jobsL (js ++ [j])) := En.to (e_cat (by walk_at "Eb") (by walk_at "Eb") (by rw [hlen, List.length_singleton]; omega)) ec
      refine x_seq (x_held (bs' := jobsL (js ++ [j])) rfl (Ep.new eh2 (immL_jobs _)) (immL_jobs _) (neL_free rfl) cl nH) ?_
      exact x_retB (i := 0) rfl (by walk_at "Eb")
    · rw [if_neg hc, if_neg hc]
      obtain ⟨k, x, e, ea, _, _⟩ := late_some hs2 hc
      rw [ea]
      exact x_seqR (x_if (b := true) (Et.to (by walk_at "Et") (by rfl)) (fun _ => x_retB (i := 0) rfl (by walk_at "Eb")) (fun h => nomatch h))
/-! ### _law_load -/
abbrev s_L_load : Stmt := topS 29
abbrev n_L_load : List Str := ["_law_jobs", "_law_begin", "_law_end", "_law_job"]
theorem sc_L_load : FnScope n_L_load ["_law_jobs", "_law_begin", "_law_end"] (defScope s_L_load) := ⟨rfl, rfl, rfl, by decide +kernel, rfl, by decide +kernel, by decide +kernel⟩
def loadL (js : List Job) (a b : Int) : Int := ((js.filter fun j => decide (a ≤ j.1) && decide (j.2.2 ≤ b)).map fun j => j.2.1).sum
abbrev R_L_load := Rf (fun x : List Job × Int × Int => [jobsD x.1, .int x.2.1, .int x.2.2]) (fun x => x.1.length ≤ 1000) (fun x => .va (.int (loadL x.1 x.2.1 x.2.2)))
theorem k_L_load [KK] {E : XK} {S : DSt} {ta : TA} {js : List Job} {a b : Int} (h : Ea ta S [jobsD js, .int a, .int b]) (hl : js.length ≤ 1000) : Eb (tCall (SpR R_L_load) [] E ta) S (.int (loadL js a b)) := e_callR (js, a, b) h rfl hl rfl
local macro_rules | `(tactic| walk_at "call") => `(tactic| (apply k_L_load; (walk_at "Ea"); (walk_at "side")))
theorem ok_L_load {f : Addr} {fd : FuncData} (F : Fun K "_law_load" "_law_load" s_L_load f fd) (m_f : mg "_law_load" = some (.ref f)) (b_sum : mg "sum" = none) : Cal P w K mg base 1 "_law_load" ["_law_jobs", "_law_begin", "_law_end"] R_L_load := by
  letI : KK := ⟨K⟩
  refine cal_of (F.ok sc_L_load (len_of fun _ => rfl) (fun cdv A outer s H vs Q E hr h => ⟨_,
      (pss_one (ps_ret (pe_callB (j_sum K rfl) (by rfl) b_sum (by decide +kernel) (pa_cons (pe_lc (own := [("_law_job", 3)]) rfl sc_L_load.nd (j_iList K (pv 0)) (blkOk_by (own := [("_law_job", 3)]) (N := n_L_load) (sc := (defScope s_L_load)) (by decide +kernel)) (fun _ _ _ _ _ => (pg_name (i := 3) sc_L_load.nd rfl (Or.inl rfl))) (fun _ _ _ _ _ => (pts_one (PW.pt (pw_and (pt_cmpR op_ge (j_ix K (pv 3) pe_int) (pv 1) (nomark _)) (pw_and1 (pt_cmpR op_le (j_ix K (pv 3) pe_int) (pv 2) (nomark _))))))) (fun _ _ _ _ _ => (j_ix K (pv 3) pe_int))) pa_nil)))), ?_⟩)) m_f F.kp (F.binds (ps := ["_law_jobs", "_law_begin", "_law_end"]) fun _ _ _ _ _ _ us hl => match us, hl with | [_, _, _], _ => rfl)
  refine run_def (N := n_L_load) h fun x hx => ?_

  obtain ⟨js, a, b⟩ := x
  have hl : js.length ≤ 1000 := hx
  refine x_ret' (e_sum (ns := (js.filter fun j => decide (a ≤ j.1) && decide (j.2.2 ≤ b)).map fun j => j.2.1) (En.b (En.to (n_lc js (fun j => jobD j) (fun j => decide (a ≤ j.1) && decide (j.2.2 ≤ b)) (fun j => .int j.2.1) (i_list (by walk_at "Ep")) (by omega) fun j hj => ⟨_, _, by simp, g_name, by walk_at "Et", fun _ => ⟨by walk_at "Eb", rfl⟩⟩) (by rw [List.map_map]; rfl)))) rfl
/-! ### _law_whole -/
abbrev s_L_whole : Stmt := topS 27
abbrev n_L_whole : List Str := ["_law_found"]
theorem sc_L_whole : FnScope n_L_whole ["_law_found"] (defScope s_L_whole) := ⟨rfl, rfl, rfl, by decide +kernel, rfl, by decide +kernel, by decide +kernel⟩
abbrev R_L_whole := Rf (fun d : PyData => [d]) (fun _ => True) (fun d => .va (.bool (wholeD d)))
theorem k_L_whole [KK] {E : XK} {S : DSt} {ta : TA} {d : PyData} (h : Ea ta S [d]) : Eb (tCall (SpR R_L_whole) [] E ta) S (.bool (wholeD d)) := e_callR d h rfl trivial rfl
local macro_rules | `(tactic| walk_at "call") => `(tactic| (apply k_L_whole; walk_at "Ea"))
theorem ok_L_whole {f : Addr} {fd : FuncData} (F : Fun K "_law_whole" "_law_whole" s_L_whole f fd) (m_f : mg "_law_whole" = some (.ref f)) (b_isinstance : mg "isinstance" = none) (b_bool : mg "bool" = none) (b_int : mg "int" = none) : Cal P w K mg base 1 "_law_whole" ["_law_found"] R_L_whole := by
  letI : KK := ⟨K⟩
  refine cal_of (F.ok sc_L_whole (len_of fun _ => rfl) (fun cdv A outer s H vs Q E hr h => ⟨_,
      (pss_one (ps_ret (pe_and (pe_callB (j_isi K) (by rfl) b_isinstance (by decide +kernel) (pa_cons (pv 0) (pa_cons (pe_bltn (v := .ty "int") (by rfl) b_int (by decide +kernel) rfl) pa_nil))) (pe_one (pe_not (pe_callB (j_isi K) (by rfl) b_isinstance (by decide +kernel) (pa_cons (pv 0) (pa_cons (pe_bltn (v := .ty "bool") (by rfl) b_bool (by decide +kernel) rfl) pa_nil)))))))), ?_⟩)) m_f F.kp (F.binds (ps := ["_law_found"]) fun _ _ _ _ _ _ us hl => match us, hl with | [_], _ => rfl)
  refine run_def (N := n_L_whole) h fun x hx => ?_

  exact x_ret' (by walk_at "Eb") (by cases x <;> rfl)
/-! ### _law_crowded -/
abbrev s_L_crowded : Stmt := topS 32
abbrev n_L_crowded : List Str := ["_law_jobs", "_law_place", "_law_begin", "_law_end"]
theorem sc_L_crowded : FnScope n_L_crowded ["_law_jobs", "_law_place", "_law_begin", "_law_end"] (defScope s_L_crowded) := ⟨rfl, rfl, rfl, by decide +kernel, rfl, by decide +kernel, by decide +kernel⟩
abbrev R_L_crowded := Rf (fun x : List Job × Int × Int × Int => [jobsD x.1, .int x.2.1, .int x.2.2.1, .int x.2.2.2]) (fun x => x.1.length ≤ 1000 ∧ TooMuch x.1 x.2.1 x.2.2.1 x.2.2.2) (fun _ => .va (.bool true))
theorem k_L_crowded [KK] {E : XK} {S : DSt} {ta : TA} {js : List Job} {k b e : Int} (h : Ea ta S [jobsD js, .int k, .int b, .int e]) (hl : js.length ≤ 1000) (hf : TooMuch js k b e) : Eb (tCall (SpR R_L_crowded) [] E ta) S (.bool true) := e_callR (js, k, b, e) h rfl ⟨hl, hf⟩ rfl
local macro_rules | `(tactic| walk_at "call") => `(tactic| (apply k_L_crowded; (walk_at "Ea"); (walk_at "side"); (walk_at "side")))
theorem ok_L_crowded {f : Addr} {fd : FuncData} (F : Fun K "_law_crowded" "_law_crowded" s_L_crowded f fd) (m_f : mg "_law_crowded" = some (.ref f)) (b_len : mg "len" = none) (c_L_whole : Cal P w K mg base 1 "_law_whole" ["_law_found"] R_L_whole) (c_L_load : Cal P w K mg base 1 "_law_load" ["_law_jobs", "_law_begin", "_law_end"] R_L_load) : Cal P w K mg base 2 "_law_crowded" ["_law_jobs", "_law_place", "_law_begin", "_law_end"] R_L_crowded := by
  letI : KK := ⟨K⟩
  refine cal_of (F.ok sc_L_crowded (len_of fun _ => rfl) (fun cdv A outer s H vs Q E hr h => ⟨_,
      (pss_cons (ps_if (PW.pt (pw_or (pt_not (j_tru K (c_L_whole.pe (hr.mono (by decide)) rfl (pa_cons (pv 1) pa_nil)))) (pw_or (pt_not (j_tru K (c_L_whole.pe (hr.mono (by decide)) rfl (pa_cons (pv 2) pa_nil)))) (pw_or1 (pt_not (j_tru K (c_L_whole.pe (hr.mono (by decide)) rfl (pa_cons (pv 3) pa_nil)))))))) (pss_one (ps_ret pe_bl)) pss_nil)
      (pss_cons (ps_if (PW.pt (pw_or (pt_not (pt_chain op_le op_lt pe_int (pv 1) (pe_callB (j_len K) (by rfl) b_len (by decide +kernel) (pa_cons (pv 0) pa_nil)))) (pw_or (pt_not (pt_chain op_le op_le pe_int (pv 2) (j_ix K (j_ix K (pv 0) (pv 1)) pe_int))) (pw_or1 (pt_cmpR (j_ne K hr.units) (pv 3) (j_ix K (j_ix K (pv 0) (pv 1)) pe_int) (nomark _)))))) (pss_one (ps_ret pe_bl)) pss_nil)
      (pss_one (ps_ret (pe_cmpR op_gt (c_L_load.pe (hr.mono (by decide)) rfl (pa_cons (pv 0) (pa_cons (pv 2) (pa_cons (pv 3) pa_nil)))) (pe_op op_sub (pv 3) (pv 2)) (nomark _)))))), ?_⟩)) m_f F.kp (F.binds (ps := ["_law_jobs", "_law_place", "_law_begin", "_law_end"]) fun _ _ _ _ _ _ us hl => match us, hl with | [_, _, _, _], _ => rfl)
  refine run_def (N := n_L_crowded) h fun x hx => ?_

  obtain ⟨js, k, b, e⟩ := x
  obtain ⟨hl, c1, c2, c3, c4, c5, c6⟩ : js.length ≤ 1000 ∧ TooMuch js k b e := hx
  have a1 : atI (jobsL js) k = some (jobD (jAt js k.toNat)) := atI_pos c1 (by rw [List.getElem?_map, getD_some (d := J0) c2]; rfl)
  have b1 : k < ((js.map fun j : Job => jobD j).length : Int) := by
    rw [List.length_map]
    omega
  refine x_seq (x_if (b := false) (Et.to (by walk_at "Et") (by rfl)) (fun h => nomatch h) (fun _ => x_next)) ?_
  refine x_seq (x_if (b := false) (Et.to (by walk_at "Et") (by
    rw [decide_eq_true c1, decide_eq_true b1, decide_eq_true c3, decide_eq_true c4, decide_eq_true c5]
    rfl)) (fun h => nomatch h) (fun _ => x_next)) ?_
  exact x_ret' (by walk_at "Eb") (by exact congrArg PyData.bool (decide_eq_true c6))
/-! ### _law_taken -/
abbrev s_L_taken : Stmt := topS 35
abbrev n_L_taken : List Str := ["_law_book", "_law_held", "_law_job", "_law_found"]
theorem sc_L_taken : FnScope n_L_taken ["_law_book", "_law_held", "_law_job"] (defScope s_L_taken) := ⟨rfl, rfl, rfl, by decide +kernel, rfl, by decide +kernel, by decide +kernel⟩
abbrev R_L_taken := RfB (α := List Job × Job) (fun x => jobsL x.1) (fun x => [jobsD x.1, jobD x.2]) (fun x => x.1.length ≤ 59 ∧ AllS x.1 ∧ Snd x.2) (fun x => .va (jobsD (takeJ x.1 x.2))) (fun x => jobsL (takeJ x.1 x.2))
theorem shaped_late (k y e : Int) : SeqAt.shaped (.tuple [.str (Str.ofString "late"), .int k, .int y, .int e]) = true := by
  have d1 : PyData.strOk (Str.ofString "late") = true := by decide +kernel
  simp [SeqAt.shaped, PyData.canLay0, PyData.canLayAll0, PyData.depth, PyData.depthAll, d1]
theorem hm_take : (Str.ofString "take" == Str.ofString "held") = false := by decide +kernel
theorem hm_drop : (Str.ofString "drop" == Str.ofString "held") = false := by decide +kernel
theorem hm_listed : (Str.ofString "listed" == Str.ofString "held") = false := by decide +kernel
theorem hm_plan : (Str.ofString "plan" == Str.ofString "held") = false := by decide +kernel
theorem R_take_yes [EK] {js : List Job} {j : Job} (hl : js.length ≤ 59) (hs : AllS js) (hj : Snd j) (hc : Can (js ++ [j])) : R_Book_take (jobsL js) [jobD j] (.va .none) (jobsL (takeJ js j)) :=
  ⟨.inl (js, j), ⟨⟨by show js.length ≤ 60; omega, hs⟩, hj⟩, rfl, rfl, by show Ro.va .none = takeR js j; unfold takeR; rw [if_neg (by omega), if_pos hc], rfl⟩
theorem R_take_no [EK] {js : List Job} {j : Job} (hl : js.length ≤ 59) (hs : AllS js) (hj : Snd j) (hc : ¬ Can (js ++ [j])) : R_Book_take (jobsL js) [jobD j] (.va (lateT (answerD (js ++ [j])))) (jobsL (takeJ js j)) :=
  ⟨.inl (js, j), ⟨⟨by show js.length ≤ 60; omega, hs⟩, hj⟩, rfl, rfl, by show Ro.va _ = takeR js j; unfold takeR; rw [if_neg (by omega), if_neg hc], rfl⟩
theorem R_take_full [EK] {js : List Job} {j : Job} (hl : js.length = 60) (hs : AllS js) (hj : Snd j) : R_Book_take (jobsL js) [jobD j] (.ex EK.TooMany) (jobsL js) :=
  ⟨.inl (js, j), ⟨⟨by show js.length ≤ 60; omega, hs⟩, hj⟩, rfl, rfl, by show Ro.ex _ = takeR js j; unfold takeR; rw [if_pos (by omega)], by show jobsL js = jobsL (takeJ js j); unfold takeJ; rw [if_pos (by omega)]⟩
theorem R_take_odd [EK] {js : List Job} {d : PyData} (hl : js.length ≤ 60) (hs : AllS js) (hd : soundD d = false) : R_Book_take (jobsL js) [d] (.ex EK.BadJob) (jobsL js) := ⟨.inr (js, d), ⟨⟨hl, hs⟩, hd⟩, rfl, rfl, rfl, rfl⟩
theorem ok_L_taken {f : Addr} {fd : FuncData} (F : Fun K "_law_taken" "_law_taken" s_L_taken f fd) (m_f : mg "_law_taken" = some (.ref f)) (b_len : mg "len" = none) (b_isinstance : mg "isinstance" = none) (b_tuple : mg "tuple" = none) (c_answer : Cal P w K mg base 6 "answer" ["jobs"] R_answer) (c_L_crowded : Cal P w K mg base 2 "_law_crowded" ["_law_jobs", "_law_place", "_law_begin", "_law_end"] R_L_crowded) (cl : Cls K CKs.Book) (nH : NoAttr K CKs.Book "held") (h_take : Met P w K mg base (L2.CX P w) 7 CKs.Book "take" ["self", "job"] (@SpB ⟨K⟩ CKs.Book R_Book_take)) : CalS P w K mg base 8 "_law_taken" ["_law_book", "_law_held", "_law_job"] (@SpB ⟨K⟩ CKs.Book R_L_taken) := by
  letI : KK := ⟨K⟩
  refine calS_of (F.ok sc_L_taken (len_ofB fun x => by first | rfl | (cases x <;> rfl)) (fun cdv A outer s H vs Q E hr h => ⟨_,
      (pss_cons (ps_set (i := 3) sc_L_taken.nd rfl (Or.inl rfl) (h_take.pe (E := E0) cl (hr.mono (by decide)) passL (pv 0) (pa_cons (pv 2) pa_nil)))
      (pss_cons (ps_if (pt_cmpR op_isNo (pv 3) pe_non (nomark _)) (pss_one (ps_ret (pe_op op_plus (pv 1) (pe_lst (pa_cons (pv 2) pa_nil))))) pss_nil)
      (pss_cons (ps_if (PW.pt (pw_or (pt_not (j_tru K (pe_callB (j_isi K) (by rfl) b_isinstance (by decide +kernel) (pa_cons (pv 3) (pa_cons (pe_bltn (v := .ty "tuple") (by rfl) b_tuple (by decide +kernel) rfl) pa_nil))))) (pw_or1 (pt_cmpR (j_ne K hr.units) (pe_callB (j_len K) (by rfl) b_len (by decide +kernel) (pa_cons (pv 3) pa_nil)) pe_int (nomark _))))) (pss_one (ps_ret pe_non)) pss_nil)
      (pss_cons (ps_if (pt_cmpR (j_ne K hr.units) (c_answer.pe (hr.mono (by decide)) rfl (pa_cons (pe_op op_plus (pv 1) (pe_lst (pa_cons (pv 2) pa_nil))) pa_nil)) (pe_tup (pa_cons pe_str (pa_cons (j_ix K (pv 3) pe_int) (pa_cons (j_ix K (pv 3) pe_int) (pa_cons (j_ix K (pv 3) pe_int) pa_nil))))) (nomark _)) (pss_one (ps_ret pe_non)) pss_nil)
      (pss_one (ps_ret (pe_ifExp (j_tru K (c_L_crowded.pe (hr.mono (by decide)) rfl (pa_cons (pe_op op_plus (pv 1) (pe_lst (pa_cons (pv 2) pa_nil))) (pa_cons (j_ix K (pv 3) pe_int) (pa_cons (j_ix K (pv 3) pe_int) (pa_cons (j_ix K (pv 3) pe_int) pa_nil)))))) (pv 1) pe_non))))))), ?_⟩)) m_f F.kp (F.binds (ps := ["_law_book", "_law_held", "_law_job"]) fun _ _ _ _ _ _ us hl => match us, hl with | [_, _, _], _ => rfl)
  refine run_defB (N := n_L_taken) h fun b x hx => ?_

  obtain ⟨js, j⟩ := x
  obtain ⟨hl, hs, hj⟩ : js.length ≤ 59 ∧ AllS js ∧ Snd j := hx
  have hlen : (jobsL js).length = js.length := List.length_map _
  show DX _ _ [.bk CKs.Book b (jobsL js), .va (jobsD js), .va (jobD j), .no] (.rt (.bo CKs.Book b (jobsL (takeJ js j)) (.va (jobsD (takeJ js j)))))
  by_cases hc : Can (js ++ [j])
  · refine x_seq (mx_asg (m_meth (er_var (i := 0) (.inl rfl)) (bkSlot (i := 0) rfl (neL_free rfl)) (by walk_at "Ea") (R_take_yes hl hs hj hc) hm_take) rfl) ?_
    have et : takeJ js j = js ++ [j] := by
      unfold takeJ
      rw [if_neg (by omega), if_pos hc]
    rw [et]
    show DX _ _ [.bk CKs.Book b (jobsL (js ++ [j])), .va (jobsD js), .va (jobD j), .va .none] _
    have ec : En (tOp rPlus (tVar 1) (tLst (tCons (tVar 2) tNil))) [.bk CKs.Book b (jobsL (js ++ [j])), .va (jobsD js), .va (jobD j), .va .none] (jobsL (js ++ [j])) := En.to (e_cat (by walk_at "Eb") (by walk_at "Eb") (by rw [hlen, List.length_singleton]; omega)) (jobsL_snoc js j)
    exact x_seqR (x_if (b := true) (Et.to (by walk_at "Et") (by rfl)) (fun _ => x_retB (i := 0) rfl ec.b) (fun h => nomatch h))
  · have hs2 := snd_snoc hs hj
    obtain ⟨k, y, e, ea, _, _⟩ := late_some hs2 hc
    have hr := answer_right hs2
    have hR := R_take_no hl hs hj hc
    rw [ea] at hr hR
    obtain ⟨k2, y2, e2, z, tm⟩ : ∃ k2 y2 e2, PyData.tuple [.str (Str.ofString "late"), .int k, .int y, .int e] = .tuple [.str (Str.ofString "late"), .int k2, .int y2, .int e2] ∧ TooMuch (js ++ [j]) k2 y2 e2 := by
      rcases hr with ⟨ps, z, _⟩ | h
      · cases z
      · exact h
    cases z
    refine x_seq (mx_asg (d := .tuple [.int k, .int y, .int e]) (m_meth (er_var (i := 0) (.inl rfl)) (bkSlot (i := 0) rfl (neL_free rfl)) (by walk_at "Ea") hR hm_take) rfl) ?_
    have et : takeJ js j = js := by
      unfold takeJ
      rw [if_neg (by omega), if_neg hc]
    rw [et]
    show DX _ _ [.bk CKs.Book b (jobsL js), .va (jobsD js), .va (jobD j), .va (.tuple [.int k, .int y, .int e])] _
    have ec : En (tOp rPlus (tVar 1) (tLst (tCons (tVar 2) tNil))) [.bk CKs.Book b (jobsL js), .va (jobsD js), .va (jobD j), .va (.tuple [.int k, .int y, .int e])] (jobsL (js ++ [j])) := En.to (e_cat (by walk_at "Eb") (by walk_at "Eb") (by rw [hlen, List.length_singleton]; omega)) (jobsL_snoc js j)
    have hp2 : (js ++ [j]).length ≤ 60 ∧ AllS (js ++ [j]) := ⟨by rw [List.length_append, List.length_singleton]; omega, hs2⟩
    have sh : SeqAt.shaped (.tuple [.str (Str.ofString "late"), .int k, .int y, .int e]) = true := shaped_late k y e
    refine x_seq (x_if (b := false) (Et.to (by walk_at "Et") (by rfl)) (fun h => nomatch h) (fun _ => x_next)) ?_
    refine x_seq (x_if (b := false) (Et.to (by walk_at "Et") (by rfl)) (fun h => nomatch h) (fun _ => x_next)) ?_
    refine x_seq (x_if (b := false) (Et.to (t_test (e_ne ((k_answer (a_cons ec.b a_nil) hp2).to (by exact ea)) (by walk_at "Eb") sh sh)) (by rw [SeqAt.eqv_refl _ (SeqAt.canLay_of_shaped sh)]; rfl)) (fun h => nomatch h) (fun _ => x_next)) ?_
    exact x_retB (i := 0) rfl (e_if (b := true) (t_truB (k_L_crowded (a_cons ec.b (by walk_at "Ea")) (by omega) tm)) (fun _ => by walk_at "Eb") (fun h => nomatch h))
/-! ### _law_triple -/
abbrev s_L_triple : Stmt := topS 30
abbrev n_L_triple : List Str := ["_law_piece"]
theorem sc_L_triple : FnScope n_L_triple ["_law_piece"] (defScope s_L_triple) := ⟨rfl, rfl, rfl, by decide +kernel, rfl, by decide +kernel, by decide +kernel⟩
abbrev R_L_triple := Rf (fun p : Piece => [jobD p]) (fun _ => True) (fun _ => .va (.bool true))
theorem k_L_triple [KK] {E : XK} {S : DSt} {ta : TA} {p : Piece} (h : Ea ta S [jobD p]) : Eb (tCall (SpR R_L_triple) [] E ta) S (.bool true) := e_callR p h rfl trivial rfl
local macro_rules | `(tactic| walk_at "call") => `(tactic| (apply k_L_triple; walk_at "Ea"))
theorem ok_L_triple {f : Addr} {fd : FuncData} (F : Fun K "_law_triple" "_law_triple" s_L_triple f fd) (m_f : mg "_law_triple" = some (.ref f)) (b_len : mg "len" = none) (b_isinstance : mg "isinstance" = none) (b_tuple : mg "tuple" = none) (c_L_whole : Cal P w K mg base 1 "_law_whole" ["_law_found"] R_L_whole) : Cal P w K mg base 2 "_law_triple" ["_law_piece"] R_L_triple := by
  letI : KK := ⟨K⟩
  refine cal_of (F.ok sc_L_triple (len_of fun _ => rfl) (fun cdv A outer s H vs Q E hr h => ⟨_,
      (pss_cons (ps_if (PW.pt (pw_or (pt_not (j_tru K (pe_callB (j_isi K) (by rfl) b_isinstance (by decide +kernel) (pa_cons (pv 0) (pa_cons (pe_bltn (v := .ty "tuple") (by rfl) b_tuple (by decide +kernel) rfl) pa_nil))))) (pw_or1 (pt_cmpR (j_ne K hr.units) (pe_callB (j_len K) (by rfl) b_len (by decide +kernel) (pa_cons (pv 0) pa_nil)) pe_int (nomark _))))) (pss_one (ps_ret pe_bl)) pss_nil)
      (pss_one (ps_ret (pe_and (c_L_whole.pe (hr.mono (by decide)) rfl (pa_cons (j_ix K (pv 0) pe_int) pa_nil)) (pe_and (c_L_whole.pe (hr.mono (by decide)) rfl (pa_cons (j_ix K (pv 0) pe_int) pa_nil)) (pe_one (c_L_whole.pe (hr.mono (by decide)) rfl (pa_cons (j_ix K (pv 0) pe_int) pa_nil)))))))), ?_⟩)) m_f F.kp (F.binds (ps := ["_law_piece"]) fun _ _ _ _ _ _ us hl => match us, hl with | [_], _ => rfl)
  refine run_def (N := n_L_triple) h fun x hx => ?_

  refine x_seq (x_if (b := false) (Et.to (by walk_at "Et") (by rfl)) (fun h => nomatch h) (fun _ => x_next)) ?_
  exact x_ret' (by walk_at "Eb") (by rfl)
/-! ### _law_meets -/
abbrev s_L_meets : Stmt := topS 31
abbrev n_L_meets : List Str := ["_law_jobs", "_law_pieces", "_law_left", "_law_now", "_law_piece", "_law_job"]
theorem sc_L_meets : FnScope n_L_meets ["_law_jobs", "_law_pieces"] (defScope s_L_meets) := ⟨rfl, rfl, rfl, by decide +kernel, rfl, by decide +kernel, by decide +kernel⟩
abbrev R_L_meets := Rf (fun x : List Job × List Piece => [jobsD x.1, jobsD x.2]) (fun x => x.1.length ≤ 1000 ∧ FitsAll x.1 x.2) (fun _ => .va (.bool true))
theorem k_L_meets [KK] {E : XK} {S : DSt} {ta : TA} {js : List Job} {ps : List Piece} (h : Ea ta S [jobsD js, jobsD ps]) (hl : js.length ≤ 1000) (hf : FitsAll js ps) : Eb (tCall (SpR R_L_meets) [] E ta) S (.bool true) := e_callR (js, ps) h rfl ⟨hl, hf⟩ rfl
local macro_rules | `(tactic| walk_at "call") => `(tactic| (apply k_L_meets; (walk_at "Ea"); (walk_at "side"); (walk_at "side")))
theorem ok_L_meets {f : Addr} {fd : FuncData} (F : Fun K "_law_meets" "_law_meets" s_L_meets f fd) (m_f : mg "_law_meets" = some (.ref f)) (b_isinstance : mg "isinstance" = none) (b_list : mg "list" = none) (b_len : mg "len" = none) (c_L_triple : Cal P w K mg base 2 "_law_triple" ["_law_piece"] R_L_triple) : Cal P w K mg base 3 "_law_meets" ["_law_jobs", "_law_pieces"] R_L_meets := by
  letI : KK := ⟨K⟩
  refine cal_of (F.ok sc_L_meets (len_of fun _ => rfl) (fun cdv A outer s H vs Q E hr h => ⟨_,
      (pss_cons (ps_setLc (i := 2) (own := [("_law_job", 5)]) rfl sc_L_meets.nd rfl rfl (sw_true rfl rfl rfl (by decide +kernel)) (j_iList K (pv 0)) (blkOk_by (own := [("_law_job", 5)]) (N := n_L_meets) (sc := (defScope s_L_meets)) (by decide +kernel)) (fun _ _ _ _ _ => (pg_name (i := 5) sc_L_meets.nd rfl (Or.inl rfl))) (fun _ _ _ _ _ => pts_nil) (fun _ _ _ _ _ => (j_ix K (pv 5) pe_int)))
      (pss_cons (ps_set (i := 3) sc_L_meets.nd rfl (Or.inl rfl) pe_int)
      (pss_cons (ps_if (pt_not (j_tru K (pe_callB (j_isi K) (by rfl) b_isinstance (by decide +kernel) (pa_cons (pv 1) (pa_cons (pe_bltn (v := .ty "list") (by rfl) b_list (by decide +kernel) rfl) pa_nil))))) (pss_one (ps_ret pe_bl)) pss_nil)
      (pss_cons (ps_for PassesOwn.never rfl (j_iList K (pv 1)) (pg_name (i := 4) sc_L_meets.nd rfl (Or.inl rfl))
        (pss_cons (ps_if (PW.pt (pw_or (pt_not (j_tru K (c_L_triple.pe (hr.mono (by decide)) rfl (pa_cons (pv 4) pa_nil)))) (pw_or (pt_not (pt_chain op_le op_lt pe_int (j_ix K (pv 4) pe_int) (pe_callB (j_len K) (by rfl) b_len (by decide +kernel) (pa_cons (pv 0) pa_nil)))) (pw_or1 (pt_not (pt_chain op_le op_lt (pv 3) (j_ix K (pv 4) pe_int) (j_ix K (pv 4) pe_int))))))) (pss_one (ps_ret pe_bl)) pss_nil)
        (pss_cons (ps_if (PW.pt (pw_or (pt_cmpR op_lt (j_ix K (pv 4) pe_int) (j_ix K (j_ix K (pv 0) (j_ix K (pv 4) pe_int)) pe_int) (nomark _)) (pw_or1 (pt_cmpR op_gt (j_ix K (pv 4) pe_int) (j_ix K (j_ix K (pv 0) (j_ix K (pv 4) pe_int)) pe_int) (nomark _))))) (pss_one (ps_ret pe_bl)) pss_nil)
        (pss_cons (ps_asg (pe_op op_sub (j_ix K (pv 2) (j_ix K (pv 4) pe_int)) (pe_op op_sub (j_ix K (pv 4) pe_int) (j_ix K (pv 4) pe_int))) (pg_sub (pv 2) (j_ix K (pv 4) pe_int) set_list))
        (pss_one (ps_set (i := 3) sc_L_meets.nd rfl (Or.inl rfl) (j_ix K (pv 4) pe_int)))))))
      (pss_one (ps_ret (pe_cmpR (j_eq K hr.units) (pv 2) (pe_op op_times (pe_lst (pa_cons pe_int pa_nil)) (pe_callB (j_len K) (by rfl) b_len (by decide +kernel) (pa_cons (pv 0) pa_nil))) (nomark _)))))))), ?_⟩)) m_f F.kp (F.binds (ps := ["_law_jobs", "_law_pieces"]) fun _ _ _ _ _ _ us hl => match us, hl with | [_, _], _ => rfl)
  refine run_def (N := n_L_meets) h fun x hx => ?_

  obtain ⟨js, ps⟩ := x
  obtain ⟨hl, hf, hz⟩ : js.length ≤ 1000 ∧ FitsAll js ps := hx
  show DX _ _ [.va (jobsD js), .va (jobsD ps), .no, .no, .no, .no] (.rt (.va (.bool true)))
  refine x_seq (x_setO (i := 2) (ds := (lens js).map .int) (En.to (n_lc js (fun j => jobD j) (fun _ => true) (fun j => .int j.2.1) (i_list (by walk_at "Ep")) (by omega) fun j hj => ⟨_, _, by simp, g_name, t_yes, fun _ => ⟨by walk_at "Eb", rfl⟩⟩) (by rw [List.filter_eq_self.mpr (fun _ _ => rfl), lens, List.map_map]; rfl)) (immL_ints _)) ?_
  refine x_seq (x_set (d := .int 0) (by walk_at "Ep")) ?_
  refine x_seq (x_if (b := false) (Et.to (by walk_at "Et") (by rfl)) (fun h => nomatch h) (fun _ => x_next)) ?_
  refine x_seq (x_for (fun i => [.va (jobsD js), .va (jobsD ps), .ow ((leftAf js (ps.take i)).map .int), .va (.int (lastE (ps.take i))), .no, .no]) (i_list (by walk_at "Ep")) (by walk_at "Le") fun i d hd => ?_) ?_
  · rw [List.getElem?_map] at hd
    obtain ⟨p, hp, rfl⟩ := Option.map_eq_some_iff.mp hd
    obtain ⟨c1, c2, c3, c4, c5, c6⟩ := hf i p hp
    have hlen := leftAf_len js (ps.take i)
    rw [leftAf_take hp, lastE_take hp]
    unfold leftStep
    generalize leftAf js (ps.take i) = left at *
    generalize lastE (ps.take i) = t at *
    have a1 : atI (jobsL js) p.1 = some (jobD (jAt js p.1.toNat)) := atI_pos c1 (by rw [List.getElem?_map, getD_some (d := J0) c2]; rfl)
    have a2 : atI (left.map PyData.int) p.1 = some (.int (lAt left p.1.toNat)) := atI_pos c1 (by rw [List.getElem?_map, getD_some (d := (0 : Int)) (by rw [hlen]; exact c2)]; rfl)
    have a3 : ixN (left.map PyData.int).length p.1 = some p.1.toNat := ixN_pos c1 (by rw [List.length_map, hlen]; exact c2)
    have b1 : p.1 < ((js.map fun j : Job => jobD j).length : Int) := by
      rw [List.length_map]
      omega
    refine ⟨_, _, [.va (jobsD js), .va (jobsD ps), .ow ((left.set p.1.toNat (lAt left p.1.toNat - (p.2.2 - p.2.1))).map .int), .va (.int p.2.2), .no, .no], g_name, .inl ?_, Le.rfl'⟩
    refine x_seq (x_if (b := false) (Et.to (by walk_at "Et") (by
      rw [decide_eq_true c1, decide_eq_true b1, decide_eq_true c3, decide_eq_true c4]
      rfl)) (fun h => nomatch h) (fun _ => x_next)) ?_
    refine x_seq (x_if (b := false) (Et.to (by walk_at "Et") (by
      rw [decide_eq_false (Int.not_lt.mpr c5), decide_eq_false (Int.not_lt.mpr c6)]
      rfl)) (fun h => nomatch h) (fun _ => x_next)) ?_
    refine x_seq (x_put (i := 2) (j := p.1.toNat) (z := p.1) (d := .int (lAt left p.1.toNat - (p.2.2 - p.2.1))) rfl (by walk_at "Eb") rfl (by walk_at "Eb") a3) ?_
    refine x_post (x_set (d := .int p.2.2) (by walk_at "Ep")) ?_
    rw [List.map_set]
    walk_at "Le"
  · rw [List.length_map, List.take_length]
    have hz := zeros_of (leftAf_len js ps) hz
    rw [hz]
    have ez : En (tOp rTimes (tLst (tCons (tC (.int 0)) tNil)) (tCB (rLen K) (tCons (tVar 0) tNil))) ([.va (jobsD js), .va (jobsD ps), .ow ((List.replicate js.length (0 : Int)).map .int), .va (.int (lastE ps)), .no, .no]) ((List.replicate js.length (0 : Int)).map .int) :=
      n_zeros (Eb.to (by walk_at "Eb") (by rw [List.length_map])) hl
    exact x_ret' (e_eq (by walk_at "Eb") ez.b (shaped_ints _) (shaped_ints _)) (by rw [eqv_ints, decide_eq_true rfl])
/-! ### Book.listed -/
abbrev s_Book_listed : Stmt := inClass (topS 25) 3
abbrev n_Book_listed : List Str := ["self"]
theorem sc_Book_listed : FnScope n_Book_listed ["self"] (defScope s_Book_listed) := ⟨rfl, rfl, rfl, by decide +kernel, rfl, by decide +kernel, by decide +kernel⟩
abbrev R_Book_listed := RfP (fun js : List Job => jobsL js) (fun _ => []) (fun js => js.length ≤ 60) (fun js => .nw (jobsL js))
local macro_rules | `(tactic| walk_at "call") => `(tactic| (apply Ep.b; apply e_held; (first | exact .inl rfl | exact .inr rfl); assumption; assumption))
theorem R_listed {js : List Job} (hl : js.length ≤ 60) : R_Book_listed (jobsL js) [] (.nw (jobsL js)) := ⟨js, hl, rfl, rfl, rfl⟩
theorem ok_Book_listed {f : Addr} {fd : FuncData} (F : Fun K "listed" "Book.listed" s_Book_listed f fd) (me : Meth K CKs.Book "listed" f) (b_list : mg "list" = none) (cl : Cls K CKs.Book) (nH : NoAttr K CKs.Book "held") : Met P w K mg base CX0 1 CKs.Book "listed" ["self"] (@SpP ⟨K⟩ CKs.Book R_Book_listed) := by
  letI : KK := ⟨K⟩
  refine ⟨f, fd, F.ok sc_Book_listed (len_ofP fun x => by first | rfl | (cases x <;> rfl)) (fun cdv A outer s H vs Q E hr h => ⟨_,
      (pss_one (ps_ret (pe_callTy (j_list K) (by rfl) b_list (by decide +kernel) (pa_cons (j_fld (K := K) (pv 0)) pa_nil)))), ?_⟩), me, F.binds (ps := ["self"]) fun _ _ _ _ _ _ us hl => match us, hl with | [_], _ => rfl⟩
  refine run_defP (N := n_Book_listed) h fun b x hx => ?_

  show DX _ _ [.bp CKs.Book b (jobsL x)] (.rt (.nw (jobsL x)))
  exact x_retN (by walk_at "En")
/-! ### run -/
abbrev s_run : Stmt := topS 16
abbrev n_run : List Str := ["jobs"]
theorem sc_run : FnScope n_run ["jobs"] (defScope s_run) := ⟨rfl, rfl, rfl, by decide +kernel, rfl, by decide +kernel, by decide +kernel⟩
abbrev R_run := Rf (fun js : List Job => [jobsD js]) (fun js => js.length ≤ 60 ∧ AllS js) (fun js => .nw (jobsL (workedF js)))
theorem k_run [KK] {E : XK} {S : DSt} {ta : TA} {js : List Job} (h : Ea ta S [jobsD js]) (hp : js.length ≤ 60 ∧ AllS js) : En (tCall (SpR R_run) [] E ta) S (jobsL (workedF js)) := n_callR js h rfl hp rfl
local macro_rules | `(tactic| walk_at "call") => `(tactic| (apply k_run; (walk_at "Ea"); (walk_at "side")))
theorem ok_run {f : Addr} {fd : FuncData} (F : Fun K "run" "run" s_run f fd) (m_f : mg "run" = some (.ref f)) (c_worked : Cal P w K mg base 2 "worked" ["jobs"] R_worked) (c_looked : Cal P w K mg base 3 "looked" ["jobs"] R_looked) : Cal P w K mg base 4 "run" ["jobs"] R_run := by
  letI : KK := ⟨K⟩
  refine cal_of (F.ok sc_run (len_of fun _ => rfl) (fun cdv A outer s H vs Q E hr h => ⟨_,
      (pss_one (ps_ret (c_worked.pe (hr.mono (by decide)) rfl (pa_cons (c_looked.pe (hr.mono (by decide)) rfl (pa_cons (pv 0) pa_nil)) pa_nil)))), ?_⟩)) m_f F.kp (F.binds (ps := ["jobs"]) fun _ _ _ _ _ _ us hl => match us, hl with | [_], _ => rfl)
  refine run_def (N := n_run) h fun x hx => ?_

  obtain ⟨hl, hs⟩ : x.length ≤ 60 ∧ AllS x := hx
  have hp : x.length ≤ 60 ∧ AllS x := ⟨hl, hs⟩
  exact x_retN (by walk_at "En")
/-! ### Book.plan -/
abbrev s_Book_plan : Stmt := inClass (topS 25) 4
abbrev n_Book_plan : List Str := ["self"]
theorem sc_Book_plan : FnScope n_Book_plan ["self"] (defScope s_Book_plan) := ⟨rfl, rfl, rfl, by decide +kernel, rfl, by decide +kernel, by decide +kernel⟩
abbrev R_Book_plan := RfP (fun js : List Job => jobsL js) (fun _ => []) (fun js => js.length ≤ 60 ∧ AllS js) (fun js => .nw (jobsL (workedF js)))
local macro_rules | `(tactic| walk_at "call") => `(tactic| (apply Ep.b; apply e_held; (first | exact .inl rfl | exact .inr rfl); assumption; assumption))
theorem R_plan {js : List Job} (hl : js.length ≤ 60) (hs : AllS js) : R_Book_plan (jobsL js) [] (.nw (jobsL (workedF js))) := ⟨js, ⟨hl, hs⟩, rfl, rfl, rfl⟩
theorem ok_Book_plan {f : Addr} {fd : FuncData} (F : Fun K "plan" "Book.plan" s_Book_plan f fd) (me : Meth K CKs.Book "plan" f) (c_run : Cal P w K mg base 4 "run" ["jobs"] R_run) (cl : Cls K CKs.Book) (nH : NoAttr K CKs.Book "held") : Met P w K mg base CX0 5 CKs.Book "plan" ["self"] (@SpP ⟨K⟩ CKs.Book R_Book_plan) := by
  letI : KK := ⟨K⟩
  refine ⟨f, fd, F.ok sc_Book_plan (len_ofP fun x => by first | rfl | (cases x <;> rfl)) (fun cdv A outer s H vs Q E hr h => ⟨_,
      (pss_one (ps_ret (c_run.pe (hr.mono (by decide)) rfl (pa_cons (j_fld (K := K) (pv 0)) pa_nil)))), ?_⟩), me, F.binds (ps := ["self"]) fun _ _ _ _ _ _ us hl => match us, hl with | [_], _ => rfl⟩
  refine run_defP (N := n_Book_plan) h fun b x hx => ?_

  have hp : x.length ≤ 60 ∧ AllS x := hx
  show DX _ _ [.bp CKs.Book b (jobsL x)] (.rt (.nw (jobsL (workedF x))))
  exact x_retN (k_run (by walk_at "Ea") hp)
/-! ### Book.drop -/
abbrev s_Book_drop : Stmt := inClass (topS 25) 2
abbrev n_Book_drop : List Str := ["self", "place", "job"]
theorem sc_Book_drop : FnScope n_Book_drop ["self", "place"] (defScope s_Book_drop) := ⟨rfl, rfl, rfl, by decide +kernel, rfl, by decide +kernel, by decide +kernel⟩
abbrev R_Book_drop [EK] := RfB (α := List Job × Int) (fun x => jobsL x.1) (fun x => [.int x.2]) (fun x => x.1.length ≤ 60) (fun x => if InP x.1 x.2 then .va (jobD (jAt x.1 x.2.toNat)) else .ex EK.OutOfPlace) (fun x => jobsL (if InP x.1 x.2 then cutJ x.1 x.2 else x.1))
local macro_rules | `(tactic| walk_at "call") => `(tactic| (apply Ep.b; apply e_held; (first | exact .inl rfl | exact .inr rfl); assumption; assumption))
theorem R_drop_yes [EK] {js : List Job} {p : Int} (hl : js.length ≤ 60) (hp : InP js p) : R_Book_drop (jobsL js) [.int p] (.va (jobD (jAt js p.toNat))) (jobsL (cutJ js p)) := ⟨(js, p), hl, rfl, rfl, (if_pos hp).symm, by show jobsL _ = jobsL (if InP js p then cutJ js p else js); rw [if_pos hp]⟩
theorem R_drop_no [EK] {js : List Job} {p : Int} (hl : js.length ≤ 60) (hp : ¬ InP js p) : R_Book_drop (jobsL js) [.int p] (.ex EK.OutOfPlace) (jobsL js) := ⟨(js, p), hl, rfl, rfl, (if_neg hp).symm, by show jobsL _ = jobsL (if InP js p then cutJ js p else js); rw [if_neg hp]⟩
theorem ok_Book_drop {f : Addr} {fd : FuncData} (F : Fun K "drop" "Book.drop" s_Book_drop f fd) (me : Meth K CKs.Book "drop" f) (b_len : mg "len" = none) (e_OutOfPlace : ExF K mg "OutOfPlace" EK.OutOfPlace) (cl : Cls K CKs.Book) (nH : NoAttr K CKs.Book "held") : Met P w K mg base (L2.CX P w) 1 CKs.Book "drop" ["self", "place"] (@SpB ⟨K⟩ CKs.Book R_Book_drop) := by
  letI : KK := ⟨K⟩
  refine ⟨f, fd, F.okX sc_Book_drop (len_ofB fun x => by first | rfl | (cases x <;> rfl)) (fun cdv A outer s H vs Q E hr h => ⟨_,
      (pss_cons (ps_if (pt_not (pt_chain op_le op_lt pe_int (pv 1) (pe_callB (j_len K) (by rfl) b_len (by decide +kernel) (pa_cons (j_fld (K := K) (pv 0)) pa_nil)))) (pss_one (ps_raiseE rfl (takes_of rfl rfl rfl rfl) e_OutOfPlace rfl)) pss_nil)
      (pss_cons (ps_set (i := 2) sc_Book_drop.nd rfl (Or.inl rfl) (j_ix K (j_fld (K := K) (pv 0)) (pv 1)))
      (pss_cons (j_sfld (K := K) (pv 0) (pe_op op_plus (j_sl K (j_fld (K := K) (pv 0)) po_none (po_some (pv 1))) (j_sl K (j_fld (K := K) (pv 0)) (po_some (pe_op op_plus (pv 1) pe_int)) po_none)))
      (pss_one (ps_ret (pv 2)))))), ?_⟩), me, F.binds (ps := ["self", "place"]) fun _ _ _ _ _ _ us hl => match us, hl with | [_, _], _ => rfl⟩
  refine run_defB (N := n_Book_drop) h fun b x hx => ?_

  obtain ⟨js, p⟩ := x
  have hl : js.length ≤ 60 := hx
  have hlen : (jobsL js).length = js.length := List.length_map _
  show DX _ _ [.bk CKs.Book b (jobsL js), .va (.int p), .no] (.rt (.bo CKs.Book b (jobsL (if InP js p then cutJ js p else js)) (if InP js p then .va (jobD (jAt js p.toNat)) else .ex EK.OutOfPlace)))
  by_cases hp : InP js p
  · rw [if_pos hp, if_pos hp]
    obtain ⟨h0, h1⟩ := hp
    have a1 : atI (jobsL js) p = some (jobD (jAt js p.toNat)) := atI_pos h0 (by rw [List.getElem?_map, getD_some (d := J0) (by omega)]; rfl)
    refine x_seq (x_if (b := false) (Et.to (by walk_at "Et") (by rw [hlen, decide_eq_true h0, decide_eq_true h1]; rfl)) (fun h => nomatch h) (fun _ => x_next)) ?_
    refine x_seq (x_set (i := 2) (d := jobD (jAt js p.toNat)) (Ep.freeB (by walk_at "Eb") rfl)) ?_
    refine x_seq (x_held (bs' := jobsL (cutJ js p)) rfl (Ep.new (En.to (n_cut (by walk_at "Eb") (by walk_at "Eb") (by walk_at "Eb") (by walk_at "Eb") h0 (by omega) (by rw [hlen]; omega)) (by
      rw [jobsL_cut, show (p + 1).toNat = p.toNat + 1 by omega]
      rfl)) (immL_jobs _)) (immL_jobs _) (neL_free rfl) cl nH) ?_
    exact x_retB (i := 0) rfl (by walk_at "Eb")
  · rw [if_neg hp, if_neg hp]
    refine x_seqR (x_if (b := true) (Et.to (by walk_at "Et") ?_) (fun _ => x_raiseB (i := 0) rfl) (fun h => nomatch h))
    rw [hlen, Bool.not_eq_true', Bool.and_eq_false_iff, decide_eq_false_iff_not, decide_eq_false_iff_not]
    by_cases z : 0 ≤ p
    · exact .inr fun w => hp ⟨z, w⟩
    · exact .inl z
/-! ### _law_many -/
abbrev s_L_many : Stmt := topS 37
abbrev n_L_many : List Str := ["_law_book", "_law_cell", "_law_count", "_law_held", "_law_k", "_law_mix", "_law_come", "_law_job", "_law_after", "_law_place"]
theorem sc_L_many : FnScope n_L_many ["_law_book", "_law_cell", "_law_count"] (defScope s_L_many) := ⟨rfl, rfl, rfl, by decide +kernel, rfl, by decide +kernel, by decide +kernel⟩
def manyM (c : Int) (k : Nat) : Int := (c + 7 * (k : Int) + 1) * 48271 % 2147483647
def manyJ (c : Int) (k : Nat) : Job := (manyM c k % 40, 1 + manyM c k / 40 % 9, manyM c k % 40 + 9 + manyM c k / 360 % 14)
theorem manyJ_snd (c : Int) (k : Nat) : Snd (manyJ c k) ∧ Can [manyJ c k] := by
  unfold manyJ
  generalize manyM c k = m
  have h : Snd (m % 40, 1 + m / 40 % 9, m % 40 + 9 + m / 360 % 14) := ⟨by show 0 ≤ m % 40; omega, by show 1 ≤ 1 + m / 40 % 9; omega, by show m % 40 < m % 40 + 9 + m / 360 % 14; omega⟩
  exact ⟨h, can_one h (by show 1 + m / 40 % 9 ≤ m % 40 + 9 + m / 360 % 14 - m % 40; omega)⟩
def manyP (c : Int) (k : Nat) (h : List Job) : Int := manyM c k / 5040 % (h.length : Int)
theorem manyP_in (c : Int) (k : Nat) {h : List Job} (hh : h ≠ []) : InP h (manyP c k h) := by
  have hl : (0 : Int) < h.length := by
    cases h with
    | nil => exact absurd rfl hh
    | cons a r => rw [List.length_cons]; omega
  exact ⟨Int.emod_nonneg _ (by omega), Int.emod_lt_of_pos _ hl⟩
open Classical in
noncomputable def many1 (c : Int) (k : Nat) (h : List Job) : List Job := if Can (h ++ [manyJ c k]) then h ++ [manyJ c k] else takeJ (cutJ h (manyP c k h)) (manyJ c k)
open Classical in
noncomputable def many2 (c : Int) (k : Nat) (h : List Job) : List Job := if (k : Int) % 4 = 3 ∧ h ≠ [] then cutJ h (manyP c k h) else h
noncomputable def manyH (c : Int) : Nat → List Job
  | 0 => []
  | k + 1 => many2 c k (many1 c k (manyH c k))
theorem many1_hold {c : Int} {k : Nat} {h : List Job} (hh : Hold h) (hl : h.length ≤ 50) : Hold (many1 c k h) ∧ (many1 c k h).length ≤ h.length + 1 := by
  unfold many1
  by_cases q : Can (h ++ [manyJ c k])
  · rw [if_pos q]
    have e : (h ++ [manyJ c k]).length = h.length + 1 := by rw [List.length_append, List.length_singleton]
    exact ⟨⟨by omega, snd_snoc hh.snd (manyJ_snd c k).1, q⟩, by omega⟩
  · rw [if_neg q]
    have hn : h ≠ [] := fun z => q (by rw [z]; exact (manyJ_snd c k).2)
    have h1 := take_len (cutJ h (manyP c k h)) (manyJ c k)
    have h2 := cut_len (manyP_in c k hn)
    exact ⟨(hh.cut _).take (manyJ_snd c k).1, by omega⟩
theorem many2_hold {c : Int} {k : Nat} {h : List Job} (hh : Hold h) : Hold (many2 c k h) ∧ (many2 c k h).length ≤ h.length := by
  unfold many2
  by_cases q : (k : Int) % 4 = 3 ∧ h ≠ []
  · rw [if_pos q]
    have h2 := cut_len (manyP_in c k q.2)
    exact ⟨hh.cut _, by omega⟩
  · rw [if_neg q]
    exact ⟨hh, Nat.le_refl _⟩
theorem manyH_hold (c : Int) : ∀ k : Nat, k ≤ 30 → Hold (manyH c k) ∧ (manyH c k).length ≤ k
  | 0, _ => ⟨hold_nil, Nat.le_refl _⟩
  | k + 1, h => by
    obtain ⟨h1, h2⟩ := manyH_hold c k (by omega)
    obtain ⟨h3, h4⟩ := many1_hold (c := c) (k := k) h1 (by omega)
    obtain ⟨h5, h6⟩ := many2_hold (c := c) (k := k) h3
    exact ⟨h5, by show (many2 c k (many1 c k (manyH c k))).length ≤ k + 1; omega⟩
abbrev R_L_many := RfB (α := Int × Nat) (fun _ => []) (fun x => [.int x.1, .int (x.2 : Int)]) (fun x => x.2 ≤ 30) (fun _ => .va (.bool true)) (fun x => jobsL (manyH x.1 x.2))
theorem ok_L_many {f : Addr} {fd : FuncData} (F : Fun K "_law_many" "_law_many" s_L_many f fd) (m_f : mg "_law_many" = some (.ref f)) (b_range : mg "range" = none) (b_len : mg "len" = none) (c_L_taken : CalS P w K mg base 8 "_law_taken" ["_law_book", "_law_held", "_law_job"] (@SpB ⟨K⟩ CKs.Book R_L_taken)) (c_L_meets : Cal P w K mg base 3 "_law_meets" ["_law_jobs", "_law_pieces"] R_L_meets) (cl : Cls K CKs.Book) (nH : NoAttr K CKs.Book "held") (h_drop : Met P w K mg base (L2.CX P w) 1 CKs.Book "drop" ["self", "place"] (@SpB ⟨K⟩ CKs.Book R_Book_drop)) (h_listed : Met P w K mg base CX0 1 CKs.Book "listed" ["self"] (@SpP ⟨K⟩ CKs.Book R_Book_listed)) (h_plan : Met P w K mg base CX0 5 CKs.Book "plan" ["self"] (@SpP ⟨K⟩ CKs.Book R_Book_plan)) : CalS P w K mg base 9 "_law_many" ["_law_book", "_law_cell", "_law_count"] (@SpB ⟨K⟩ CKs.Book R_L_many) := by
  letI : KK := ⟨K⟩
  refine calS_of (F.ok sc_L_many (len_ofB fun x => by first | rfl | (cases x <;> rfl)) (fun cdv A outer s H vs Q E hr h => ⟨_,
      (pss_cons (ps_set (i := 3) sc_L_many.nd rfl (Or.inl rfl) (pe_lst pa_nil))
      (pss_cons (ps_for PassesOwn.never rfl (pi_range1 rfl b_range (pa_cons (pv 2) pa_nil)) (pg_name (i := 4) sc_L_many.nd rfl (Or.inl rfl))
        (pss_cons (ps_set (i := 5) sc_L_many.nd rfl (Or.inl rfl) (pe_op op_mod (pe_op op_times (pe_op op_plus (pe_op op_plus (pv 1) (pe_op op_times pe_int (pv 4))) pe_int) pe_int) pe_int))
        (pss_cons (ps_set (i := 6) sc_L_many.nd rfl (Or.inl rfl) (pe_op op_mod (pv 5) pe_int))
        (pss_cons (ps_set (i := 7) sc_L_many.nd rfl (Or.inl rfl) (pe_tup (pa_cons (pv 6) (pa_cons (pe_op op_plus pe_int (pe_op op_mod (pe_op op_fdiv (pv 5) pe_int) pe_int)) (pa_cons (pe_op op_plus (pe_op op_plus (pv 6) pe_int) (pe_op op_mod (pe_op op_fdiv (pv 5) pe_int) pe_int)) pa_nil)))))
        (pss_cons (ps_set (i := 8) sc_L_many.nd rfl (Or.inl rfl) (c_L_taken.pe (hr.mono (by decide)) rfl (pa_cons (pv 0) (pa_cons (pv 3) (pa_cons (pv 7) pa_nil)))))
        (pss_cons (ps_if (pt_cmpR (j_eq K hr.units) (pv 8) (pv 3) (nomark _)) (pss_cons (ps_set (i := 9) sc_L_many.nd rfl (Or.inl rfl) (pe_op op_mod (pe_op op_fdiv (pv 5) pe_int) (pe_callB (j_len K) (by rfl) b_len (by decide +kernel) (pa_cons (pv 3) pa_nil))))
          (pss_cons (ps_if (pt_cmpR (j_ne K hr.units) (h_drop.pe (E := E0) cl (hr.mono (by decide)) passL (pv 0) (pa_cons (pv 9) pa_nil)) (j_ix K (pv 3) (pv 9)) (nomark _)) (pss_one (ps_ret pe_bl)) pss_nil)
          (pss_one (ps_set (i := 8) sc_L_many.nd rfl (Or.inl rfl) (c_L_taken.pe (hr.mono (by decide)) rfl (pa_cons (pv 0) (pa_cons (pe_op op_plus (j_sl K (pv 3) po_none (po_some (pv 9))) (j_sl K (pv 3) (po_some (pe_op op_plus (pv 9) pe_int)) po_none)) (pa_cons (pv 7) pa_nil)))))))) pss_nil)
        (pss_cons (ps_if (PW.pt (pw_or (pt_cmpR op_isNo (pv 8) pe_non (nomark _)) (pw_or1 (pt_cmpR (j_ne K hr.units) (h_listed.pe0 (E := E0) cl (hr.mono (by decide)) pass0 (pv 0)) (pv 8) (nomark _))))) (pss_one (ps_ret pe_bl)) pss_nil)
        (pss_cons (ps_set (i := 3) sc_L_many.nd rfl (Or.inl rfl) (pv 8))
        (pss_one (ps_if (PW.pt (pw_and (pt_cmpR (j_eq K hr.units) (pe_op op_mod (pv 4) pe_int) pe_int (nomark _)) (pw_and1 (j_tru K (pv 3))))) (pss_cons (ps_set (i := 9) sc_L_many.nd rfl (Or.inl rfl) (pe_op op_mod (pe_op op_fdiv (pv 5) pe_int) (pe_callB (j_len K) (by rfl) b_len (by decide +kernel) (pa_cons (pv 3) pa_nil))))
          (pss_cons (ps_if (pt_cmpR (j_ne K hr.units) (h_drop.pe (E := E0) cl (hr.mono (by decide)) passL (pv 0) (pa_cons (pv 9) pa_nil)) (j_ix K (pv 3) (pv 9)) (nomark _)) (pss_one (ps_ret pe_bl)) pss_nil)
          (pss_one (ps_set (i := 3) sc_L_many.nd rfl (Or.inl rfl) (pe_op op_plus (j_sl K (pv 3) po_none (po_some (pv 9))) (j_sl K (pv 3) (po_some (pe_op op_plus (pv 9) pe_int)) po_none)))))) pss_nil))))))))))
      (pss_one (ps_ret (pe_and (pe_cmpR (j_eq K hr.units) (h_listed.pe0 (E := E0) cl (hr.mono (by decide)) pass0 (pv 0)) (pv 3) (nomark _)) (pe_one (c_L_meets.pe (hr.mono (by decide)) rfl (pa_cons (pv 3) (pa_cons (h_plan.pe0 (E := E0) cl (hr.mono (by decide)) pass0 (pv 0)) pa_nil))))))))), ?_⟩)) m_f F.kp (F.binds (ps := ["_law_book", "_law_cell", "_law_count"]) fun _ _ _ _ _ _ us hl => match us, hl with | [_, _, _], _ => rfl)
  refine run_defB (N := n_L_many) h fun b x hx => ?_

  obtain ⟨c, n⟩ := x
  have hn : n ≤ 30 := hx
  show DX _ _ [.bk CKs.Book b [], .va (.int c), .va (.int (n : Int)), .no, .no, .no, .no, .no, .no, .no] (.rt (.bo CKs.Book b (jobsL (manyH c n)) (.va (.bool true))))
  have shj : ∀ j : Job, SeqAt.shaped (jobD j) = true := fun j => by simp [SeqAt.shaped, PyData.canLay0, PyData.canLayAll0, PyData.depth, PyData.depthAll]
  refine x_seq (x_set (i := 3) (d := jobsD []) (by walk_at "Ep")) ?_
  refine x_seq (x_for (fun i => [.bk CKs.Book b (jobsL (manyH c i)), .va (.int c), .va (.int (n : Int)), .va (jobsD (manyH c i)), .no, .no, .no, .no, .no, .no]) (i_rng1 (n := (n : Int)) (by walk_at "Ea") ⟨by omega, by omega⟩) (by walk_at "Le") fun i d hd => ?_) ?_
  · rw [List.getElem?_map] at hd
    obtain ⟨k, hk, rfl⟩ := Option.map_eq_some_iff.mp hd
    have hk : (List.range n)[i]? = some k := hk
    have hi : i < n := by
      have := (List.getElem?_eq_some_iff.mp hk).1
      rw [List.length_range] at this
      exact this
    have ek : k = i := by
      rw [List.getElem?_range hi] at hk
      exact (Option.some.inj hk).symm
    subst ek
    obtain ⟨hh, hl⟩ := manyH_hold c k (by omega)
    show ∃ ws S1 S2, Dg ws _ _ [.bk CKs.Book b (jobsL (manyH c k)), .va (.int c), .va (.int (n : Int)), .va (jobsD (manyH c k)), .no, .no, .no, .no, .no, .no] S1 ∧ _ ∧ Le S2 [.bk CKs.Book b (jobsL (many2 c k (many1 c k (manyH c k)))), .va (.int c), .va (.int (n : Int)), .va (jobsD (many2 c k (many1 c k (manyH c k)))), .no, .no, .no, .no, .no, .no]
    generalize manyH c k = h at hh hl
    have hlen : (jobsL h).length = h.length := List.length_map _
    obtain ⟨hj, hj1⟩ := manyJ_snd c k
    obtain ⟨h1h, h1l⟩ := many1_hold (c := c) (k := k) hh (by omega)
    obtain ⟨h2h, h2l⟩ := many2_hold (c := c) (k := k) h1h
    have ep : ∀ g : List Job, manyP c k g = manyM c k / 5040 % (g.length : Int) := fun g => rfl
    have pin := fun {g : List Job} (q : g ≠ []) => manyP_in c k q
    have m1 : ¬ Can (h ++ [manyJ c k]) → many1 c k h = takeJ (cutJ h (manyP c k h)) (manyJ c k) := fun q => if_neg q
    have m1' : Can (h ++ [manyJ c k]) → many1 c k h = h ++ [manyJ c k] := fun q => if_pos q
    have m2 : ¬ ((k : Int) % 4 = 3 ∧ many1 c k h ≠ []) → many2 c k (many1 c k h) = many1 c k h := fun q => if_neg q
    have m2' : (k : Int) % 4 = 3 ∧ many1 c k h ≠ [] → many2 c k (many1 c k h) = cutJ (many1 c k h) (manyP c k (many1 c k h)) := fun q => if_pos q
    have ej : jobD (manyJ c k) = .tuple [.int (manyM c k % 40), .int (1 + manyM c k / 40 % 9), .int (manyM c k % 40 + 9 + manyM c k / 360 % 14)] := rfl
    refine ⟨_, [.bk CKs.Book b (jobsL h), .va (.int c), .va (.int (n : Int)), .va (jobsD h), .va (.int (k : Int)), .no, .no, .no, .no, .no], [.bk CKs.Book b (jobsL (many2 c k (many1 c k h))), .va (.int c), .va (.int (n : Int)), .va (jobsD (many2 c k (many1 c k h))), .va (.int (k : Int)), .va (.int (manyM c k)), .va (.int (manyM c k % 40)), .va (jobD (manyJ c k)), .va (jobsD (many1 c k h)), .no], g_name, .inl ?_, by walk_at "Le"⟩
    refine x_seq (x_set (i := 5) (d := .int (manyM c k)) (by walk_at "Ep")) ?_
    show DX _ _ [.bk CKs.Book b (jobsL h), .va (.int c), .va (.int (n : Int)), .va (jobsD h), .va (.int (k : Int)), .va (.int (manyM c k)), .no, .no, .no, .no] _
    generalize many1 c k h = h1 at *
    generalize many2 c k h1 = h2 at *
    generalize manyJ c k = j at *
    generalize manyM c k = m at *
    refine x_seq (x_set (i := 6) (d := .int (m % 40)) (by walk_at "Ep")) ?_
    refine x_seq (x_set (i := 7) (d := jobD j) (by rw [ej]; walk_at "Ep")) ?_
    show DX _ _ [.bk CKs.Book b (jobsL h), .va (.int c), .va (.int (n : Int)), .va (jobsD h), .va (.int (k : Int)), .va (.int m), .va (.int (m % 40)), .va (jobD j), .no, .no] _
    have hR : ∀ g : List Job, g.length ≤ 59 → AllS g → R_L_taken (jobsL g) [jobsD g, jobD j] (.va (jobsD (takeJ g j))) (jobsL (takeJ g j)) := fun g q1 q2 => ⟨(g, j), ⟨q1, q2, hj⟩, rfl, rfl, rfl, rfl⟩
    refine x_seq (mx_asgB (j := 8) (m_call (er_var (i := 0) (.inl rfl)) (bkSlot (i := 0) rfl (neL_free rfl)) (by walk_at "Ea") (hR h (by omega) hh.snd)) rfl) ?_
    show DX _ _ [.bk CKs.Book b (jobsL (takeJ h j)), .va (.int c), .va (.int (n : Int)), .va (jobsD h), .va (.int (k : Int)), .va (.int m), .va (.int (m % 40)), .va (jobD j), .va (jobsD (takeJ h j)), .no] _
    refine x_seq (S1 := [.bk CKs.Book b (jobsL h1), .va (.int c), .va (.int (n : Int)), .va (jobsD h), .va (.int (k : Int)), .va (.int m), .va (.int (m % 40)), .va (jobD j), .va (jobsD h1), .no]) ?_ ?_
    · by_cases q : Can (h ++ [j])
      · rw [m1' q]
        have et : takeJ h j = h ++ [j] := by
          unfold takeJ
          rw [if_neg (by omega), if_pos q]
        rw [et]
        exact x_if (b := false) (Et.to (t_test (e_eq (by walk_at "Eb") (by walk_at "Eb") (shaped_jobs _) (shaped_jobs _))) (by
          rw [eqv_jobs]
          exact decide_eq_false fun z => by
            have := congrArg List.length z
            rw [List.length_append, List.length_singleton] at this
            omega)) (fun h => nomatch h) (fun _ => x_next)
      · rw [m1 q]
        have et : takeJ h j = h := by
          unfold takeJ
          rw [if_neg (by omega), if_neg q]
        rw [et]
        have hn0 : h ≠ [] := fun z => q (by rw [z]; exact hj1)
        have ip := pin hn0
        have hm : (0 : Int) < ((jobsL h).length : Int) := by
          have h1 := ip.1
          have h2 := ip.2
          omega
        refine x_if (b := true) (Et.to (t_test (e_eq (by walk_at "Eb") (by walk_at "Eb") (shaped_jobs _) (shaped_jobs _))) (by rw [eqv_jobs]; exact decide_eq_true rfl)) (fun _ => ?_) (fun h => nomatch h)
        refine x_seq (x_set (i := 9) (d := .int (manyP c k h)) (Ep.imm (Eb.to (by walk_at "Eb") (by rw [hlen, ep])) rfl)) ?_
        generalize manyP c k h = p at *
        show DX _ _ [.bk CKs.Book b (jobsL h), .va (.int c), .va (.int (n : Int)), .va (jobsD h), .va (.int (k : Int)), .va (.int m), .va (.int (m % 40)), .va (jobD j), .va (jobsD h), .va (.int p)] _
        have a1 : atI (jobsL h) p = some (jobD (jAt h p.toNat)) := atI_pos ip.1 (by rw [List.getElem?_map, getD_some (d := J0) (by have h1 := ip.1; have h2 := ip.2; omega)]; rfl)
        refine x_seq (mx_if (c := false) (S' := [.bk CKs.Book b (jobsL (cutJ h p)), .va (.int c), .va (.int (n : Int)), .va (jobsD h), .va (.int (k : Int)), .va (.int m), .va (.int (m % 40)), .va (jobD j), .va (jobsD h), .va (.int p)])
          (EtM.to (mt_test (m_ne (m_meth (er_var (i := 0) (.inl rfl)) (bkSlot (i := 0) rfl (neL_free rfl)) (by walk_at "Ea") (R_drop_yes hh.len ip) hm_drop) (by walk_at "Eb") (shj _) (shj _))) (by rw [SeqAt.eqv_refl _ (SeqAt.canLay_of_shaped (shj _))]; rfl)) (fun h => nomatch h) (fun _ => x_next)) ?_
        have hc2 := cut_len ip
        have hc3 := (hh.cut p).snd
        exact x_post (mx_asgB (j := 8) (m_call (er_var (i := 0) (.inl rfl)) (bkSlot (i := 0) rfl (neL_free rfl)) (a_cons ((n_cut (by walk_at "Eb") (by walk_at "Eb") (by walk_at "Eb") (by walk_at "Eb") ip.1 (by have := ip.1; omega) (by rw [hlen]; omega)).b.to (by
          rw [jobsL_cut, show (p + 1).toNat = p.toNat + 1 by have := ip.1; omega]
          rfl)) (a_cons (by walk_at "Eb") a_nil)) (hR (cutJ h p) (by omega) hc3)) rfl) (by walk_at "Le")
    refine x_seq (x_if (b := false) (Et.to (t_or (a := false) (b := false) (Et.to (by walk_at "Et") (by rfl)) (fun _ => Et.to (t_test (e_ne (n_methP (er_var (i := 0) (.inl rfl)) (has_slot (i := 0) (.inl rfl)) (R_listed h1h.len) hm_listed).b (by walk_at "Eb") (shaped_jobs _) (shaped_jobs _))) (by rw [eqv_jobs, decide_eq_true rfl]; rfl))) (by rfl)) (fun h => nomatch h) (fun _ => x_next)) ?_
    refine x_seq (x_set (i := 3) (d := jobsD h1) (by walk_at "Ep")) ?_
    show DX _ _ [.bk CKs.Book b (jobsL h1), .va (.int c), .va (.int (n : Int)), .va (jobsD h1), .va (.int (k : Int)), .va (.int m), .va (.int (m % 40)), .va (jobD j), .va (jobsD h1), .no] _
    by_cases q : (k : Int) % 4 = 3 ∧ h1 ≠ []
    · rw [m2' q]
      have ip := pin q.2
      have hlen1 : (jobsL h1).length = h1.length := List.length_map _
      have hm : (0 : Int) < ((jobsL h1).length : Int) := by
        have h1 := ip.1
        have h2 := ip.2
        omega
      have hne : (jobsL h1).isEmpty = false := by
        cases h1 with
        | nil => exact absurd rfl q.2
        | cons _ _ => rfl
      refine x_if (b := true) (Et.to (t_and (a := true) (b := true) (Et.to (by walk_at "Et") (by exact decide_eq_true q.1)) (fun _ => Et.to (t_truL (by walk_at "Eb")) (by rw [hne]; rfl))) (by rfl)) (fun _ => ?_) (fun h => nomatch h)
      refine x_seq (x_set (i := 9) (d := .int (manyP c k h1)) (Ep.imm (Eb.to (by walk_at "Eb") (by rw [hlen1, ep])) rfl)) ?_
      generalize manyP c k h1 = p at *
      show DX _ _ [.bk CKs.Book b (jobsL h1), .va (.int c), .va (.int (n : Int)), .va (jobsD h1), .va (.int (k : Int)), .va (.int m), .va (.int (m % 40)), .va (jobD j), .va (jobsD h1), .va (.int p)] _
      have a1 : atI (jobsL h1) p = some (jobD (jAt h1 p.toNat)) := atI_pos ip.1 (by rw [List.getElem?_map, getD_some (d := J0) (by have h1 := ip.1; have h2 := ip.2; omega)]; rfl)
      refine x_seq (mx_if (c := false) (S' := [.bk CKs.Book b (jobsL (cutJ h1 p)), .va (.int c), .va (.int (n : Int)), .va (jobsD h1), .va (.int (k : Int)), .va (.int m), .va (.int (m % 40)), .va (jobD j), .va (jobsD h1), .va (.int p)])
        (EtM.to (mt_test (m_ne (m_meth (er_var (i := 0) (.inl rfl)) (bkSlot (i := 0) rfl (neL_free rfl)) (by walk_at "Ea") (R_drop_yes h1h.len ip) hm_drop) (by walk_at "Eb") (shj _) (shj _))) (by rw [SeqAt.eqv_refl _ (SeqAt.canLay_of_shaped (shj _))]; rfl)) (fun h => nomatch h) (fun _ => x_next)) ?_
      exact x_post (x_set (i := 3) (d := jobsD (cutJ h1 p)) (Ep.new (En.to (n_cut (by walk_at "Eb") (by walk_at "Eb") (by walk_at "Eb") (by walk_at "Eb") ip.1 (by have := ip.1; omega) (by rw [hlen1]; omega)) (by
        rw [jobsL_cut, show (p + 1).toNat = p.toNat + 1 by have := ip.1; omega]
        rfl)) (immL_jobs _))) (by walk_at "Le")
    · rw [m2 q]
      refine x_if (b := false) (Et.to (t_and (a := decide ((k : Int) % 4 = 3)) (b := !(jobsL h1).isEmpty) (by walk_at "Et") (fun _ => t_truL (by walk_at "Eb"))) (by
        rw [Bool.and_eq_false_iff]
        by_cases z : (k : Int) % 4 = 3
        · refine .inr ?_
          cases h1 with
          | nil => rfl
          | cons a r => exact absurd ⟨z, List.cons_ne_nil a r⟩ q
        · exact .inl (decide_eq_false z))) (fun h => nomatch h) (fun _ => x_next)
  rw [List.length_map, List.length_range]
  show DX _ _ [.bk CKs.Book b (jobsL (manyH c n)), .va (.int c), .va (.int (n : Int)), .va (jobsD (manyH c n)), .no, .no, .no, .no, .no, .no] _
  obtain ⟨hh, hl⟩ := manyH_hold c n hn
  exact x_retB (i := 0) rfl ((e_and (a := true) (b := true) ((e_eq (n_methP (er_var (i := 0) (.inl rfl)) (has_slot (i := 0) (.inl rfl)) (R_listed hh.len) hm_listed).b (by walk_at "Eb") (shaped_jobs _) (shaped_jobs _)).to (by rw [eqv_jobs, decide_eq_true rfl]))
    (fun _ => k_L_meets (a_cons (by walk_at "Eb") (a_cons (n_methP (er_var (i := 0) (.inl rfl)) (has_slot (i := 0) (.inl rfl)) (R_plan hh.len hh.snd) hm_plan).b a_nil)) (by omega) (plan_fits hh.snd hh.can))).to (by rfl))
/-! ### Book.__init__ -/
abbrev s_Book_init : Stmt := inClass (topS 25) 0
abbrev n_Book_init : List Str := ["self"]
theorem sc_Book_init : FnScope n_Book_init ["self"] (defScope s_Book_init) := ⟨rfl, rfl, rfl, by decide +kernel, rfl, by decide +kernel, by decide +kernel⟩

theorem ok_Book_init {f : Addr} {fd : FuncData} (F : Fun K "__init__" "Book.__init__" s_Book_init f fd) (me : Mk K CKs.Book f) (gB : mg "Book" = some (.ref CKs.Book)) (cl : Cls K CKs.Book) (nH : NoAttr K CKs.Book "held") : Mak P w K mg base 1 CKs.Book "Book" ["self"] (spInit CKs.Book) := by
  letI : KK := ⟨K⟩
  exact ⟨f, fd, F.ok sc_Book_init (fun vs H Q E h => by obtain ⟨b, dx, rfl, _⟩ := h; rfl) (fun cdv A outer s H vs Q E hr h => ⟨_,
      (pss_one (j_sfld (K := K) (pv 0) (pe_lst pa_nil))), run_init (N := n_Book_init) (by decide) h cl nH⟩), me, F.binds (ps := ["self"]) fun _ _ _ _ _ _ us hl => match us, hl with | [_], _ => rfl, gB⟩
/-! ### _law_full -/
abbrev s_L_full : Stmt := topS 36
abbrev n_L_full : List Str := ["_law_book", "_law_place", "_law_k", "_law_found", "_law_job", "_law_jobs"]
theorem sc_L_full : FnScope n_L_full ["_law_book", "_law_place"] (defScope s_L_full) := ⟨rfl, rfl, rfl, by decide +kernel, rfl, by decide +kernel, by decide +kernel⟩
def foundS (n : Nat) : Str := if n = 0 then Str.ofString "" else if n = 1 then Str.ofString "" ++ Str.ofString "many " else if n = 2 then (Str.ofString "" ++ Str.ofString "many ") ++ Str.ofString "many " else ((Str.ofString "" ++ Str.ofString "many ") ++ Str.ofString "many ") ++ Str.ofString "job"
abbrev R_L_full := RfB (α := Nat) (fun _ => []) (fun p => [.int (p : Int)]) (fun p => p < 60) (fun _ => .va (.bool true)) (fun p => jobsL (fullC p ++ [(0, 3, 61)]))
theorem ok_L_full {f : Addr} {fd : FuncData} (F : Fun K "_law_full" "_law_full" s_L_full f fd) (m_f : mg "_law_full" = some (.ref f)) (b_range : mg "range" = none) (b_len : mg "len" = none) (e_BadJob : ExF K mg "BadJob" EK.BadJob) (e_TooMany : ExF K mg "TooMany" EK.TooMany) (xm_BadJob_BadJob : PySem.W.exmOne K (.ref EK.BadJob) (.ref EK.BadJob) = some true) (xm_TooMany_BadJob : PySem.W.exmOne K (.ref EK.TooMany) (.ref EK.BadJob) = some false) (xm_OutOfPlace_BadJob : PySem.W.exmOne K (.ref EK.OutOfPlace) (.ref EK.BadJob) = some false) (xm_BadJob_TooMany : PySem.W.exmOne K (.ref EK.BadJob) (.ref EK.TooMany) = some false) (xm_TooMany_TooMany : PySem.W.exmOne K (.ref EK.TooMany) (.ref EK.TooMany) = some true) (xm_OutOfPlace_TooMany : PySem.W.exmOne K (.ref EK.OutOfPlace) (.ref EK.TooMany) = some false) (c_L_taken : CalS P w K mg base 8 "_law_taken" ["_law_book", "_law_held", "_law_job"] (@SpB ⟨K⟩ CKs.Book R_L_taken)) (c_run : Cal P w K mg base 4 "run" ["jobs"] R_run) (cl : Cls K CKs.Book) (nH : NoAttr K CKs.Book "held") (h_take : Met P w K mg base (L2.CX P w) 7 CKs.Book "take" ["self", "job"] (@SpB ⟨K⟩ CKs.Book R_Book_take)) (h_drop : Met P w K mg base (L2.CX P w) 1 CKs.Book "drop" ["self", "place"] (@SpB ⟨K⟩ CKs.Book R_Book_drop)) (h_listed : Met P w K mg base CX0 1 CKs.Book "listed" ["self"] (@SpP ⟨K⟩ CKs.Book R_Book_listed)) (h_plan : Met P w K mg base CX0 5 CKs.Book "plan" ["self"] (@SpP ⟨K⟩ CKs.Book R_Book_plan)) : CalS P w K mg base 9 "_law_full" ["_law_book", "_law_place"] (@SpB ⟨K⟩ CKs.Book R_L_full) := by
  letI : KK := ⟨K⟩
  refine calS_of (F.ok sc_L_full (len_ofB fun x => by first | rfl | (cases x <;> rfl)) (fun cdv A outer s H vs Q E hr h => ⟨_,
      (pss_cons (ps_for PassesOwn.never rfl (pi_range1 rfl b_range (pa_cons pe_int pa_nil)) (pg_name (i := 2) sc_L_full.nd rfl (Or.inl rfl))
        (pss_one (ps_if (pt_cmpR op_notNo (h_take.pe (E := E0) cl (hr.mono (by decide)) passL (pv 0) (pa_cons (pe_tup (pa_cons (pv 2) (pa_cons pe_int (pa_cons pe_int pa_nil)))) pa_nil)) pe_non (nomark _)) (pss_one (ps_ret pe_bl)) pss_nil)))
      (pss_cons (ps_set (i := 3) sc_L_full.nd rfl (Or.inl rfl) pe_str)
      (pss_cons (ps_for PassesOwn.never rfl (j_iList K (pe_lst (pa_cons (pe_tup (pa_cons pe_int (pa_cons pe_int (pa_cons pe_int pa_nil)))) (pa_cons (pe_tup (pa_cons pe_int (pa_cons pe_int (pa_cons pe_int pa_nil)))) (pa_cons (pe_tup (pa_cons pe_int (pa_cons pe_int (pa_cons pe_int pa_nil)))) pa_nil))))) (pg_name (i := 4) sc_L_full.nd rfl (Or.inl rfl))
        (pss_one (ps_tryC rfl rfl sc_L_full.nd takes0 (fun W pn xe tk _ => (pss_one (ps_expr (h_take.peW cl (hr.mono (by decide)) tk (pv 0) (pa_cons (pv 4) pa_nil))))) (ClsOk.cons (c := .ref EK.TooMany) (n := none) (i := none) ⟨rfl, by decide, Or.inl e_TooMany.g⟩ trivial (fun a oe cls d pn hz hf => (pss_one (ps_set (i := 3) sc_L_full.nd rfl (Or.inl rfl) (pe_op op_plus (pv 3) pe_str)))) (ClsOk.cons (c := .ref EK.BadJob) (n := none) (i := none) ⟨rfl, by decide, Or.inl e_BadJob.g⟩ trivial (fun a oe cls d pn hz hf => (pss_one (ps_set (i := 3) sc_L_full.nd rfl (Or.inl rfl) (pe_op op_plus (pv 3) pe_str)))) ClsOk.nil)))))
      (pss_cons (ps_setLc (i := 5) (own := [("_law_k", 2)]) rfl sc_L_full.nd rfl rfl (sw_true rfl rfl rfl (by decide +kernel)) (pi_range1 rfl b_range (pa_cons pe_int pa_nil)) (blkOk_by (own := [("_law_k", 2)]) (N := n_L_full) (sc := (defScope s_L_full)) (by decide +kernel)) (fun _ _ _ _ _ => (pg_name (i := 2) sc_L_full.nd rfl (Or.inl rfl))) (fun _ _ _ _ _ => pts_nil) (fun _ _ _ _ _ => (pe_tup (pa_cons (pv 2) (pa_cons pe_int (pa_cons pe_int pa_nil))))))
      (pss_cons (ps_if (PW.pt (pw_or (pt_cmpR (j_ne K hr.units) (pv 3) pe_str (nomark _)) (pw_or (pt_cmpR (j_ne K hr.units) (h_listed.pe0 (E := E0) cl (hr.mono (by decide)) pass0 (pv 0)) (pv 5) (nomark _)) (pw_or1 (pt_cmpR (j_ne K hr.units) (h_drop.pe (E := E0) cl (hr.mono (by decide)) passL (pv 0) (pa_cons (pv 1) pa_nil)) (j_ix K (pv 5) (pv 1)) (nomark _)))))) (pss_one (ps_ret pe_bl)) pss_nil)
      (pss_cons (ps_set (i := 5) sc_L_full.nd rfl (Or.inl rfl) (pe_op op_plus (j_sl K (pv 5) po_none (po_some (pv 1))) (j_sl K (pv 5) (po_some (pe_op op_plus (pv 1) pe_int)) po_none)))
      (pss_cons (ps_if (PW.pt (pw_or (pt_cmpR (j_ne K hr.units) (c_L_taken.pe (hr.mono (by decide)) rfl (pa_cons (pv 0) (pa_cons (pv 5) (pa_cons (pe_tup (pa_cons pe_int (pa_cons pe_int (pa_cons pe_int pa_nil)))) pa_nil)))) (pv 5) (nomark _)) (pw_or1 (pt_cmpR op_notNo (h_take.pe (E := E0) cl (hr.mono (by decide)) passL (pv 0) (pa_cons (pe_tup (pa_cons pe_int (pa_cons pe_int (pa_cons pe_int pa_nil)))) pa_nil)) pe_non (nomark _))))) (pss_one (ps_ret pe_bl)) pss_nil)
      (pss_cons (ps_tryC rfl rfl sc_L_full.nd takes0 (fun W pn xe tk _ => (pss_one (ps_expr (h_take.peW cl (hr.mono (by decide)) tk (pv 0) (pa_cons (pe_tup (pa_cons pe_int (pa_cons pe_int (pa_cons pe_int pa_nil)))) pa_nil))))) (ClsOk.cons (c := .ref EK.TooMany) (n := none) (i := none) ⟨rfl, by decide, Or.inl e_TooMany.g⟩ trivial (fun a oe cls d pn hz hf => (pss_one (ps_set (i := 5) sc_L_full.nd rfl (Or.inl rfl) (pe_op op_plus (pv 5) (pe_lst (pa_cons (pe_tup (pa_cons pe_int (pa_cons pe_int (pa_cons pe_int pa_nil)))) pa_nil)))))) ClsOk.nil))
      (pss_cons (ps_if (PW.pt (pw_or (pt_cmpR op_lt (pe_callB (j_len K) (by rfl) b_len (by decide +kernel) (pa_cons (pv 5) pa_nil)) pe_int (nomark _)) (pw_or (pt_cmpR (j_ne K hr.units) (h_listed.pe0 (E := E0) cl (hr.mono (by decide)) pass0 (pv 0)) (pv 5) (nomark _)) (pw_or1 (pt_cmpR (j_ne K hr.units) (h_plan.pe0 (E := E0) cl (hr.mono (by decide)) pass0 (pv 0)) (c_run.pe (hr.mono (by decide)) rfl (pa_cons (pv 5) pa_nil)) (nomark _)))))) (pss_one (ps_ret pe_bl)) pss_nil)
      (pss_cons (ps_expr (h_drop.pe (E := E0) cl (hr.mono (by decide)) passL (pv 0) (pa_cons pe_int pa_nil)))
      (pss_cons (ps_expr (h_drop.pe (E := E0) cl (hr.mono (by decide)) passL (pv 0) (pa_cons pe_int pa_nil)))
      (pss_one (ps_ret (pe_and (pe_cmpR op_isNo (h_take.pe (E := E0) cl (hr.mono (by decide)) passL (pv 0) (pa_cons (pe_tup (pa_cons pe_int (pa_cons pe_int (pa_cons pe_int pa_nil)))) pa_nil)) pe_non (nomark _)) (pe_one (pe_cmpR (j_eq K hr.units) (h_listed.pe0 (E := E0) cl (hr.mono (by decide)) pass0 (pv 0)) (pe_op op_plus (j_sl K (pv 5) (po_some pe_int) po_none) (pe_lst (pa_cons (pe_tup (pa_cons pe_int (pa_cons pe_int (pa_cons pe_int pa_nil)))) pa_nil))) (nomark _))))))))))))))))), ?_⟩)) m_f F.kp (F.binds (ps := ["_law_book", "_law_place"]) fun _ _ _ _ _ _ us hl => match us, hl with | [_, _], _ => rfl)
  refine run_defB (N := n_L_full) h fun b x hx => ?_

  have hp : x < 60 := hx
  show DX _ _ [.bk CKs.Book b (jobsL (units 0)), .va (.int (x : Int)), .no, .no, .no, .no] (.rt (.bo CKs.Book b (jobsL (fullC x ++ [(0, 3, 61)])) (.va (.bool true))))
  have u60 := units_hold (n := 60) (Nat.le_refl _)
  have ul : (units 60).length = 60 := units_len 60
  -- sixty are taken
  refine x_seq (x_for (fun i => [.bk CKs.Book b (jobsL (units i)), .va (.int (x : Int)), .no, .no, .no, .no]) (i_rng1 (n := 60) (by walk_at "Ea") ⟨by decide, by decide⟩) (by walk_at "Le") fun i d hd => ?_) ?_
  · rw [List.getElem?_map] at hd
    obtain ⟨k, hk, rfl⟩ := Option.map_eq_some_iff.mp hd
    have hi : i < 60 := by
      have := (List.getElem?_eq_some_iff.mp hk).1
      rw [List.length_range] at this
      exact this
    have ek : k = i := by
      have hk : (List.range 60)[i]? = some k := hk
      rw [List.getElem?_range hi] at hk
      exact (Option.some.inj hk).symm
    subst ek
    have ui := units_hold (n := k) (by omega)
    have hj : Snd (unitJ k) := units_snd (n := 60) (Nat.le_refl _) _ (List.mem_map.mpr ⟨k, List.mem_range.mpr hi, rfl⟩)
    have hR := R_take_yes (js := units k) (j := unitJ k) (by rw [units_len]; omega) ui.snd hj (by rw [← units_succ]; exact units_can (by omega))
    rw [units_take hi] at hR
    refine ⟨_, [.bk CKs.Book b (jobsL (units k)), .va (.int (x : Int)), .va (.int (k : Int)), .no, .no, .no], [.bk CKs.Book b (jobsL (units (k + 1))), .va (.int (x : Int)), .va (.int (k : Int)), .no, .no, .no], g_name, .inl ?_, by walk_at "Le"⟩
    exact mx_if (c := false) (S' := [.bk CKs.Book b (jobsL (units (k + 1))), .va (.int (x : Int)), .va (.int (k : Int)), .no, .no, .no]) (mt_test (m_notN (m_meth (er_var (i := 0) (.inl rfl)) (bkSlot (i := 0) rfl (neL_free rfl)) (a_cons (by walk_at "Eb") a_nil) hR hm_take))) (fun h => nomatch h) (fun _ => x_next)
  rw [List.length_map, List.length_range]
  show DX _ _ [.bk CKs.Book b (jobsL (units 60)), .va (.int (x : Int)), .no, .no, .no, .no] _
  refine x_seq (x_set (i := 3) (d := .str (foundS 0)) (Ep.freeB (by walk_at "Eb") rfl)) ?_
  -- three are refused
  refine x_seq (x_for (fun i => [.bk CKs.Book b (jobsL (units 60)), .va (.int (x : Int)), .no, .va (.str (foundS i)), .no, .no]) (i_list (ds := [jobD (0, 1, 900), jobD (0, 3, 61), jobD (0, 1, 0)]) (Ep.freeB (by walk_at "Eb") rfl)) (by walk_at "Le") fun i d hd => ?_) ?_
  · have hi : i < 3 := (List.getElem?_eq_some_iff.mp hd).1
    have snd1 : Snd (0, 1, 900) := ⟨by decide, by decide, by decide⟩
    have snd2 : Snd (0, 3, 61) := ⟨by decide, by decide, by decide⟩
    match i, hi with
    | 0, _ =>
      have ed : jobD (0, 1, 900) = d := Option.some.inj hd
      subst ed
      refine ⟨_, [.bk CKs.Book b (jobsL (units 60)), .va (.int (x : Int)), .no, .va (.str (foundS 0)), .va (jobD (0, 1, 900)), .no], [.bk CKs.Book b (jobsL (units 60)), .va (.int (x : Int)), .no, .va (.str (foundS 1)), .va (jobD (0, 1, 900)), .no], g_name, .inl ?_, by walk_at "Le"⟩
      exact t_tryCM (S' := [.bk CKs.Book b (jobsL (units 60)), .va (.int (x : Int)), .no, .va (.str (foundS 0)), .va (jobD (0, 1, 900)), .no]) (tzm_drop (er_var (i := 0) (.inl rfl)) (bkSlot (i := 0) rfl (neL_free rfl)) (by walk_at "Ea") (R_take_full ul u60.snd snd1) hm_take) (.inl ⟨xm_TooMany_TooMany, fun _ => x_set (i := 3) (d := .str (foundS 1)) (Ep.freeB (e_addS (by walk_at "Eb") (by walk_at "Eb") (by decide +kernel)) rfl)⟩)
    | 1, _ =>
      have ed : jobD (0, 3, 61) = d := Option.some.inj hd
      subst ed
      refine ⟨_, [.bk CKs.Book b (jobsL (units 60)), .va (.int (x : Int)), .no, .va (.str (foundS 1)), .va (jobD (0, 3, 61)), .no], [.bk CKs.Book b (jobsL (units 60)), .va (.int (x : Int)), .no, .va (.str (foundS 2)), .va (jobD (0, 3, 61)), .no], g_name, .inl ?_, by walk_at "Le"⟩
      exact t_tryCM (S' := [.bk CKs.Book b (jobsL (units 60)), .va (.int (x : Int)), .no, .va (.str (foundS 1)), .va (jobD (0, 3, 61)), .no]) (tzm_drop (er_var (i := 0) (.inl rfl)) (bkSlot (i := 0) rfl (neL_free rfl)) (by walk_at "Ea") (R_take_full ul u60.snd snd2) hm_take) (.inl ⟨xm_TooMany_TooMany, fun _ => x_set (i := 3) (d := .str (foundS 2)) (Ep.freeB (e_addS (by walk_at "Eb") (by walk_at "Eb") (by decide +kernel)) rfl)⟩)
    | 2, _ =>
      have ed : jobD (0, 1, 0) = d := Option.some.inj hd
      subst ed
      refine ⟨_, [.bk CKs.Book b (jobsL (units 60)), .va (.int (x : Int)), .no, .va (.str (foundS 2)), .va (jobD (0, 1, 0)), .no], [.bk CKs.Book b (jobsL (units 60)), .va (.int (x : Int)), .no, .va (.str (foundS 3)), .va (jobD (0, 1, 0)), .no], g_name, .inl ?_, by walk_at "Le"⟩
      exact t_tryCM (S' := [.bk CKs.Book b (jobsL (units 60)), .va (.int (x : Int)), .no, .va (.str (foundS 2)), .va (jobD (0, 1, 0)), .no]) (tzm_drop (er_var (i := 0) (.inl rfl)) (bkSlot (i := 0) rfl (neL_free rfl)) (by walk_at "Ea") (R_take_odd (by rw [ul]; decide) u60.snd rfl) hm_take) (.inr ⟨xm_BadJob_TooMany, .inl ⟨xm_BadJob_BadJob, fun _ => x_set (i := 3) (d := .str (foundS 3)) (Ep.freeB (e_addS (by walk_at "Eb") (by walk_at "Eb") (by decide +kernel)) rfl)⟩⟩)
  show DX _ _ [.bk CKs.Book b (jobsL (units 60)), .va (.int (x : Int)), .no, .va (.str (foundS 3)), .no, .no] _
  refine x_seq (x_set (i := 5) (d := jobsD (units 60)) (Ep.new (En.to (n_lc (List.range 60) (fun k => .int (k : Int)) (fun _ => true) (fun k => jobD (unitJ k)) (i_rng1 (n := 60) (by walk_at "Ea") ⟨by decide, by decide⟩) (by decide) fun k hk => ⟨_, _, by simp, g_name, t_yes, fun _ => ⟨by walk_at "Eb", rfl⟩⟩) (by rw [List.filter_eq_self.mpr (fun _ _ => rfl)]; unfold units jobsL; rw [List.map_map]; rfl)) (immL_jobs _))) ?_
  have ip : InP (units 60) (x : Int) := ⟨by omega, by rw [ul]; omega⟩
  have a1 : atI (jobsL (units 60)) (x : Int) = some (jobD (jAt (units 60) (x : Int).toNat)) := atI_pos (by omega) (by rw [List.getElem?_map, getD_some (d := J0) (by rw [ul]; omega)]; rfl)
  have shj : ∀ j : Job, SeqAt.shaped (jobD j) = true := fun j => by simp [SeqAt.shaped, PyData.canLay0, PyData.canLayAll0, PyData.depth, PyData.depthAll]
  have hl60 : (units 60).length ≤ 60 := by rw [ul]; decide
  have sf : SeqAt.shaped (.str (foundS 3)) = true := shaped_str (by decide +kernel)
  show DX _ _ [.bk CKs.Book b (jobsL (units 60)), .va (.int (x : Int)), .no, .va (.str (foundS 3)), .no, .va (jobsD (units 60))] _
  refine x_seq (mx_if (c := false) (S' := [.bk CKs.Book b (jobsL (fullA x)), .va (.int (x : Int)), .no, .va (.str (foundS 3)), .no, .va (jobsD (units 60))])
    (mt_or (mt_of (Et.to (t_test (e_ne (by walk_at "Eb") (by walk_at "Eb") sf (shaped_str (by decide +kernel)))) (by decide +kernel))) (mt_or (mt_of (Et.to (t_test (e_ne (n_methP (er_var (i := 0) (.inl rfl)) (has_slot (i := 0) (.inl rfl)) (R_listed hl60) hm_listed).b (by walk_at "Eb") (shaped_jobs _) (shaped_jobs _))) (by rw [eqv_jobs, decide_eq_true rfl]; rfl)))
      (EtM.to (mt_test (m_ne (m_meth (er_var (i := 0) (.inl rfl)) (bkSlot (i := 0) rfl (neL_free rfl)) (by walk_at "Ea") (R_drop_yes hl60 ip) hm_drop) (by walk_at "Eb") (shj _) (shj _))) (by rw [SeqAt.eqv_refl _ (SeqAt.canLay_of_shaped (shj _))]; rfl)))) (fun h => nomatch h) (fun _ => x_next)) ?_
  have hA := fullA_hold x
  have lA := fullA_len hp
  have snd1 : Snd (0, 1, 900) := ⟨by decide, by decide, by decide⟩
  have snd2 : Snd (0, 3, 61) := ⟨by decide, by decide, by decide⟩
  have hlen60 : (jobsL (units 60)).length = 60 := by rw [List.length_map, ul]
  refine x_seq (x_set (i := 5) (d := jobsD (fullA x)) (Ep.new (En.to (n_cut (by walk_at "Eb") (by walk_at "Eb") (by walk_at "Eb") (by walk_at "Eb") (by omega) (by omega) (by rw [hlen60]; decide)) (by
    rw [jobsL_cut, show ((x : Int) + 1).toNat = (x : Int).toNat + 1 by omega]
    rfl)) (immL_jobs _))) ?_
  have tA : takeJ (fullA x) (0, 3, 61) = fullA x := by
    unfold takeJ
    rw [if_neg (by omega), if_neg (full_late hp)]
  have RA : R_L_taken (jobsL (fullA x)) [jobsD (fullA x), jobD (0, 3, 61)] (.va (jobsD (fullA x))) (jobsL (fullA x)) := ⟨(fullA x, (0, 3, 61)), ⟨by show (fullA x).length ≤ 59; omega, hA.snd, snd2⟩, rfl, rfl, by show Ro.va _ = .va (jobsD (takeJ (fullA x) (0, 3, 61))); rw [tA], by show _ = jobsL (takeJ (fullA x) (0, 3, 61)); rw [tA]⟩
  have RB := R_take_yes (js := fullA x) (j := (0, 1, 900)) (by omega) hA.snd snd1 (fullB_hold hp).can
  rw [fullB_take hp] at RB
  have hB := fullB_hold hp
  have lB := fullB_len hp
  show DX _ _ [.bk CKs.Book b (jobsL (fullA x)), .va (.int (x : Int)), .no, .va (.str (foundS 3)), .no, .va (jobsD (fullA x))] _
  refine x_seq (mx_if (c := false) (S' := [.bk CKs.Book b (jobsL (fullB x)), .va (.int (x : Int)), .no, .va (.str (foundS 3)), .no, .va (jobsD (fullA x))])
    (mt_or (S' := [.bk CKs.Book b (jobsL (fullA x)), .va (.int (x : Int)), .no, .va (.str (foundS 3)), .no, .va (jobsD (fullA x))]) (EtM.to (mt_test (m_ne (m_call (er_var (i := 0) (.inl rfl)) (bkSlot (i := 0) rfl (neL_free rfl)) (by walk_at "Ea") RA) (by walk_at "Eb") (shaped_jobs _) (shaped_jobs _))) (by rw [eqv_jobs, decide_eq_true rfl]; rfl))
      (mt_test (m_notN (m_meth (er_var (i := 0) (.inl rfl)) (bkSlot (i := 0) rfl (neL_free rfl)) (by walk_at "Ea") RB hm_take)))) (fun h => nomatch h) (fun _ => x_next)) ?_
  refine x_seq (S1 := [.bk CKs.Book b (jobsL (fullB x)), .va (.int (x : Int)), .no, .va (.str (foundS 3)), .no, .va (jobsD (fullB x))]) (t_tryCM (S' := [.bk CKs.Book b (jobsL (fullB x)), .va (.int (x : Int)), .no, .va (.str (foundS 3)), .no, .va (jobsD (fullA x))]) (tzm_drop (er_var (i := 0) (.inl rfl)) (bkSlot (i := 0) rfl (neL_free rfl)) (by walk_at "Ea") (R_take_full lB hB.snd snd1) hm_take)
    (.inl ⟨xm_TooMany_TooMany, fun _ => x_set (i := 5) (d := jobsD (fullB x)) (Ep.new (En.to (e_cat (by walk_at "Eb") (by walk_at "Eb") (by rw [List.length_map, lA]; decide)) (jobsL_snoc _ _)) (immL_jobs _))⟩)) ?_
  have lB2 : (jobsL (fullB x)).length = 60 := by rw [List.length_map, lB]
  have hpB : (fullB x).length ≤ 60 ∧ AllS (fullB x) := ⟨hB.len, hB.snd⟩
  refine x_seq (x_if (b := false) (Et.to (t_or (a := false) (b := false) (Et.to (by walk_at "Et") (by rw [lB2]; rfl)) (fun _ => Et.to (t_or (a := false) (b := false) (Et.to (t_test (e_ne (n_methP (er_var (i := 0) (.inl rfl)) (has_slot (i := 0) (.inl rfl)) (R_listed hB.len) hm_listed).b (by walk_at "Eb") (shaped_jobs _) (shaped_jobs _))) (by rw [eqv_jobs, decide_eq_true rfl]; rfl))
    (fun _ => Et.to (t_test (e_ne (n_methP (er_var (i := 0) (.inl rfl)) (has_slot (i := 0) (.inl rfl)) (R_plan hB.len hB.snd) hm_plan).b (k_run (by walk_at "Ea") hpB).b (shaped_jobs _) (shaped_jobs _))) (by rw [eqv_jobs, decide_eq_true rfl]; rfl))) (by rfl))) (by rfl)) (fun h => nomatch h) (fun _ => x_next)) ?_
  have i0 : InP (fullB x) 0 := ⟨by decide, by rw [lB]; decide⟩
  have l1 : (cutJ (fullB x) 0).length = 59 := by rw [cut_len i0, lB]
  have i1 : InP (cutJ (fullB x) 0) 0 := ⟨by decide, by rw [l1]; decide⟩
  have RD1 := R_drop_yes (js := fullB x) (p := 0) hB.len i0
  have RD2 := R_drop_yes (js := cutJ (fullB x) 0) (p := 0) (by rw [l1]; decide) i1
  rw [fullC_eq] at RD2
  refine x_seq (mx_drop (m_meth (er_var (i := 0) (.inl rfl)) (bkSlot (i := 0) rfl (neL_free rfl)) (by walk_at "Ea") RD1 hm_drop)) ?_
  show DX _ _ [.bk CKs.Book b (jobsL (cutJ (fullB x) 0)), .va (.int (x : Int)), .no, .va (.str (foundS 3)), .no, .va (jobsD (fullB x))] _
  refine x_seq (mx_drop (m_meth (er_var (i := 0) (.inl rfl)) (bkSlot (i := 0) rfl (neL_free rfl)) (by walk_at "Ea") RD2 hm_drop)) ?_
  show DX _ _ [.bk CKs.Book b (jobsL (fullC x)), .va (.int (x : Int)), .no, .va (.str (foundS 3)), .no, .va (jobsD (fullB x))] _
  have lC := fullC_len hp
  have hC := fullC_hold hp
  have RC := R_take_yes (js := fullC x) (j := (0, 3, 61)) (by omega) hC.snd snd2 (fullC_can hp)
  have tCj : takeJ (fullC x) (0, 3, 61) = fullC x ++ [(0, 3, 61)] := by
    unfold takeJ
    rw [if_neg (by omega), if_pos (fullC_can hp)]
  rw [tCj] at RC
  have lD : (fullC x ++ [(0, 3, 61)]).length ≤ 60 := by rw [List.length_append, lC]; decide
  have e2 : En (tOp rPlus (tSl (rSl K) (tVar 5) (tPart (tC (.int 2))) tNoPart) (tLst (tCons (tTup (tCons (tC (.int 0)) (tCons (tC (.int 3)) (tCons (tC (.int 61)) tNil)))) tNil))) [.bk CKs.Book b (jobsL (fullC x ++ [(0, 3, 61)])), .va (.int (x : Int)), .no, .va (.str (foundS 3)), .no, .va (jobsD (fullB x))] (jobsL (fullC x ++ [(0, 3, 61)])) := by
    have n1 := n_slL (K := K) (S := [.bk CKs.Book b (jobsL (fullC x ++ [(0, 3, 61)])), .va (.int (x : Int)), .no, .va (.str (foundS 3)), .no, .va (jobsD (fullB x))]) (te := tVar 5) (ds := jobsL (fullB x)) (e_var rfl).b (o_some (i := 2) e_int) o_no
    rw [cutD_drop (by decide)] at n1
    have e3 : (jobsL (fullB x)).drop (2 : Int).toNat = jobsL (fullC x) := by
      unfold fullC
      exact (List.map_drop ..).symm
    rw [e3] at n1
    exact En.to (e_cat n1.b (by walk_at "Eb") (by rw [List.length_map, lC]; decide)) (jobsL_snoc _ _)
  exact mx_retB (i := 0) (EbM.to (m_and (S' := [.bk CKs.Book b (jobsL (fullC x ++ [(0, 3, 61)])), .va (.int (x : Int)), .no, .va (.str (foundS 3)), .no, .va (jobsD (fullB x))]) (m_isN (m_meth (er_var (i := 0) (.inl rfl)) (bkSlot (i := 0) rfl (neL_free rfl)) (by walk_at "Ea") RC hm_take))
    (m_of (e_eq (n_methP (er_var (i := 0) (.inl rfl)) (has_slot (i := 0) (.inl rfl)) (R_listed lD) hm_listed).b e2.b (shaped_jobs _) (shaped_jobs _)))) (by rw [eqv_jobs, decide_eq_true rfl])) rfl
/-! ### _law_deed -/
abbrev s_L_deed : Stmt := topS 34
abbrev n_L_deed : List Str := ["_law_book", "_law_held", "_law_cell", "_law_wide", "_law_place", "_law_job", "e", "_law_come"]
theorem sc_L_deed : FnScope n_L_deed ["_law_book", "_law_held", "_law_cell", "_law_wide"] (defScope s_L_deed) := ⟨rfl, rfl, rfl, by decide +kernel, rfl, by decide +kernel, by decide +kernel⟩
def deedP0 (js : List Job) (c : Int) : Int := c / 9 % (2 * (js.length : Int) + 5) - (js.length : Int) - 2
def deedP (js : List Job) (c : Int) : Int := if c / 9 % 11 = 3 then deedP0 js c * 10 ^ (30 : Int).toNat else deedP0 js c
def deedJ (c w : Int) : Job := (c / 9 % 30 * w, (1 + c / 270 % 5) * w, c / 9 % 30 * w + (1 + c / 1350 % 24) * w)
theorem deedJ_snd {c w : Int} (hw : 1 ≤ w) : Snd (deedJ c w) := by
  have h1 : 0 ≤ c / 9 % 30 * w := Int.mul_nonneg (by omega) (by omega)
  have h2 : 1 * w ≤ (1 + c / 270 % 5) * w := Int.mul_le_mul_of_nonneg_right (by omega) (by omega)
  have h3 : 1 * w ≤ (1 + c / 1350 % 24) * w := Int.mul_le_mul_of_nonneg_right (by omega) (by omega)
  refine ⟨h1, ?_, ?_⟩
  · show 1 ≤ (1 + c / 270 % 5) * w
    omega
  · show c / 9 % 30 * w < c / 9 % 30 * w + (1 + c / 1350 % 24) * w
    omega
noncomputable def deedF (js : List Job) (c w : Int) : List Job := if c % 9 = 7 then js else if 5 < c % 9 then (if InP js (deedP js c) then cutJ js (deedP js c) else js) else takeJ js (deedJ c w)
def oddT (c : Int) : PyData := [PyData.tuple [.int 0, .int 0, .int 4], .tuple [.int 3, .int 1, .int 3], .tuple [.int 2, .int 1], .tuple [.bool true, .int 1, .int 5], .list [.int 0, .int 1, .int 40], .none].getD (c / 9 % 6).toNat .none
theorem oddT_at (c : Int) : atI [PyData.tuple [.int 0, .int 0, .int 4], .tuple [.int 3, .int 1, .int 3], .tuple [.int 2, .int 1], .tuple [.bool true, .int 1, .int 5], .list [.int 0, .int 1, .int 40], .none] (c / 9 % 6) = some (oddT c) :=
  atI_pos (by omega) (getD_some (by show (c / 9 % 6).toNat < 6; omega))
theorem oddT_no (c : Int) : soundD (oddT c) = false := by
  have h : ∀ n : Nat, n < 6 → soundD ([PyData.tuple [.int 0, .int 0, .int 4], .tuple [.int 3, .int 1, .int 3], .tuple [.int 2, .int 1], .tuple [.bool true, .int 1, .int 5], .list [.int 0, .int 1, .int 40], .none].getD n .none) = false := fun n hn => by
    match n, hn with
    | 0, _ => rfl
    | 1, _ => rfl
    | 2, _ => rfl
    | 3, _ => rfl
    | 4, _ => rfl
    | 5, _ => rfl
  exact h _ (by omega)
abbrev R_L_deed := RfB (α := List Job × Int × Int) (fun x => jobsL x.1) (fun x => [jobsD x.1, .int x.2.1, .int x.2.2]) (fun x => x.1.length ≤ 59 ∧ AllS x.1 ∧ 1 ≤ x.2.2) (fun x => .va (jobsD (deedF x.1 x.2.1 x.2.2))) (fun x => jobsL (deedF x.1 x.2.1 x.2.2))
theorem ok_L_deed {f : Addr} {fd : FuncData} (F : Fun K "_law_deed" "_law_deed" s_L_deed f fd) (m_f : mg "_law_deed" = some (.ref f)) (b_len : mg "len" = none) (b_isinstance : mg "isinstance" = none) (e_BadJob : ExF K mg "BadJob" EK.BadJob) (e_RunError : ExF K mg "RunError" EK.RunError) (e_TooMany : ExF K mg "TooMany" EK.TooMany) (e_NoRow : ExF K mg "NoRow" EK.NoRow) (e_OutOfPlace : ExF K mg "OutOfPlace" EK.OutOfPlace) (xm_BadJob_BadJob : PySem.W.exmOne K (.ref EK.BadJob) (.ref EK.BadJob) = some true) (xm_TooMany_BadJob : PySem.W.exmOne K (.ref EK.TooMany) (.ref EK.BadJob) = some false) (xm_OutOfPlace_BadJob : PySem.W.exmOne K (.ref EK.OutOfPlace) (.ref EK.BadJob) = some false) (xm_BadJob_RunError : PySem.W.exmOne K (.ref EK.BadJob) (.ref EK.RunError) = some true) (xm_TooMany_RunError : PySem.W.exmOne K (.ref EK.TooMany) (.ref EK.RunError) = some true) (xm_OutOfPlace_RunError : PySem.W.exmOne K (.ref EK.OutOfPlace) (.ref EK.RunError) = some true) (ec_BadJob : ExcC K EK.BadJob) (ec_TooMany : ExcC K EK.TooMany) (ec_OutOfPlace : ExcC K EK.OutOfPlace) (kt_BadJob_TooMany : PySem.W.kitOne K (.ref EK.BadJob) (.ref EK.TooMany) = some false) (kt_TooMany_TooMany : PySem.W.kitOne K (.ref EK.TooMany) (.ref EK.TooMany) = some true) (kt_OutOfPlace_TooMany : PySem.W.kitOne K (.ref EK.OutOfPlace) (.ref EK.TooMany) = some false) (kt_BadJob_NoRow : PySem.W.kitOne K (.ref EK.BadJob) (.ref EK.NoRow) = some false) (kt_TooMany_NoRow : PySem.W.kitOne K (.ref EK.TooMany) (.ref EK.NoRow) = some false) (kt_OutOfPlace_NoRow : PySem.W.kitOne K (.ref EK.OutOfPlace) (.ref EK.NoRow) = some false) (kt_BadJob_BadJob : PySem.W.kitOne K (.ref EK.BadJob) (.ref EK.BadJob) = some true) (kt_TooMany_BadJob : PySem.W.kitOne K (.ref EK.TooMany) (.ref EK.BadJob) = some false) (kt_OutOfPlace_BadJob : PySem.W.kitOne K (.ref EK.OutOfPlace) (.ref EK.BadJob) = some false) (kt_BadJob_OutOfPlace : PySem.W.kitOne K (.ref EK.BadJob) (.ref EK.OutOfPlace) = some false) (kt_TooMany_OutOfPlace : PySem.W.kitOne K (.ref EK.TooMany) (.ref EK.OutOfPlace) = some false) (kt_OutOfPlace_OutOfPlace : PySem.W.kitOne K (.ref EK.OutOfPlace) (.ref EK.OutOfPlace) = some true) (c_L_taken : CalS P w K mg base 8 "_law_taken" ["_law_book", "_law_held", "_law_job"] (@SpB ⟨K⟩ CKs.Book R_L_taken)) (cl : Cls K CKs.Book) (nH : NoAttr K CKs.Book "held") (h_take : Met P w K mg base (L2.CX P w) 7 CKs.Book "take" ["self", "job"] (@SpB ⟨K⟩ CKs.Book R_Book_take)) (h_drop : Met P w K mg base (L2.CX P w) 1 CKs.Book "drop" ["self", "place"] (@SpB ⟨K⟩ CKs.Book R_Book_drop)) : CalS P w K mg base 9 "_law_deed" ["_law_book", "_law_held", "_law_cell", "_law_wide"] (@SpB ⟨K⟩ CKs.Book R_L_deed) := by
  letI : KK := ⟨K⟩
  refine calS_of (F.ok sc_L_deed (len_ofB fun x => by first | rfl | (cases x <;> rfl)) (fun cdv A outer s H vs Q E hr h => ⟨_,
      (pss_cons (ps_if (pt_cmpR (j_eq K hr.units) (pe_op op_mod (pv 2) pe_int) pe_int (nomark _)) (pss_cons (ps_tryC rfl rfl sc_L_deed.nd takes0 (fun W pn xe tk _ => (pss_one (ps_expr (h_take.peW cl (hr.mono (by decide)) tk (pv 0) (pa_cons (j_ix K (pe_lst (pa_cons (pe_tup (pa_cons pe_int (pa_cons pe_int (pa_cons pe_int pa_nil)))) (pa_cons (pe_tup (pa_cons pe_int (pa_cons pe_int (pa_cons pe_int pa_nil)))) (pa_cons (pe_tup (pa_cons pe_int (pa_cons pe_int pa_nil))) (pa_cons (pe_tup (pa_cons pe_bl (pa_cons pe_int (pa_cons pe_int pa_nil)))) (pa_cons (pe_lst (pa_cons pe_int (pa_cons pe_int (pa_cons pe_int pa_nil)))) (pa_cons pe_non pa_nil))))))) (pe_op op_mod (pe_op op_fdiv (pv 2) pe_int) pe_int)) pa_nil))))) (ClsOk.cons (c := .ref EK.BadJob) (n := none) (i := none) ⟨rfl, by decide, Or.inl e_BadJob.g⟩ trivial (fun a oe cls d pn hz hf => (pss_one (ps_ret (pv 1)))) ClsOk.nil))
        (pss_one (ps_ret pe_non))) pss_nil)
      (pss_cons (ps_if (pt_cmpR op_gt (pe_op op_mod (pv 2) pe_int) pe_int (nomark _)) (pss_cons (ps_set (i := 4) sc_L_deed.nd rfl (Or.inl rfl) (pe_op op_sub (pe_op op_sub (pe_op op_mod (pe_op op_fdiv (pv 2) pe_int) (pe_op op_plus (pe_op op_times pe_int (pe_callB (j_len K) (by rfl) b_len (by decide +kernel) (pa_cons (pv 1) pa_nil))) pe_int)) (pe_callB (j_len K) (by rfl) b_len (by decide +kernel) (pa_cons (pv 1) pa_nil))) pe_int))
        (pss_cons (ps_if (pt_cmpR (j_eq K hr.units) (pe_op op_mod (pe_op op_fdiv (pv 2) pe_int) pe_int) pe_int (nomark _)) (pss_one (ps_set (i := 4) sc_L_deed.nd rfl (Or.inl rfl) (pe_op op_times (pv 4) (pe_op op_pow pe_int pe_int)))) pss_nil)
        (pss_cons (ps_tryC rfl rfl sc_L_deed.nd takes0 (fun W pn xe tk _ => (pss_one (ps_set (i := 5) sc_L_deed.nd rfl (Or.inl rfl) (h_drop.peW cl (hr.mono (by decide)) tk (pv 0) (pa_cons (pv 4) pa_nil))))) (ClsOk.cons (c := .ref EK.RunError) (n := some "e") (i := some 6) ⟨rfl, by decide, Or.inl e_RunError.g⟩ ⟨rfl, rfl⟩ (fun a oe cls d pn hz hf => (pss_cons (ps_if (PW.pt (pw_or (pt_not (j_tru K (pe_callB (j_isE K hz hf) (by rfl) b_isinstance (by decide +kernel) (pa_cons (pv 6) (pa_cons (pe_glob (v := .ref EK.OutOfPlace) rfl e_OutOfPlace.g rfl) pa_nil))))) (pw_or1 (j_tru K (pe_callB (j_isET K hz hf) (by rfl) b_isinstance (by decide +kernel) (pa_cons (pv 6) (pa_cons (pe_tup (pa_cons (pe_glob (v := .ref EK.BadJob) rfl e_BadJob.g rfl) (pa_cons (pe_glob (v := .ref EK.NoRow) rfl e_NoRow.g rfl) (pa_cons (pe_glob (v := .ref EK.TooMany) rfl e_TooMany.g rfl) pa_nil)))) pa_nil))))))) (pss_one (ps_ret pe_non)) pss_nil)
            (pss_one (ps_ret (pe_ifExp (pt_chain op_le op_lt pe_int (pv 4) (pe_callB (j_len K) (by rfl) b_len (by decide +kernel) (pa_cons (pv 1) pa_nil))) pe_non (pv 1)))))) ClsOk.nil))
        (pss_cons (ps_if (PW.pt (pw_or (pt_not (pt_chain op_le op_lt pe_int (pv 4) (pe_callB (j_len K) (by rfl) b_len (by decide +kernel) (pa_cons (pv 1) pa_nil)))) (pw_or1 (pt_cmpR (j_ne K hr.units) (pv 5) (j_ix K (pv 1) (pv 4)) (nomark _))))) (pss_one (ps_ret pe_non)) pss_nil)
        (pss_one (ps_ret (pe_op op_plus (j_sl K (pv 1) po_none (po_some (pv 4))) (j_sl K (pv 1) (po_some (pe_op op_plus (pv 4) pe_int)) po_none)))))))) pss_nil)
      (pss_cons (ps_set (i := 7) sc_L_deed.nd rfl (Or.inl rfl) (pe_op op_times (pe_op op_mod (pe_op op_fdiv (pv 2) pe_int) pe_int) (pv 3)))
      (pss_one (ps_ret (c_L_taken.pe (hr.mono (by decide)) rfl (pa_cons (pv 0) (pa_cons (pv 1) (pa_cons (pe_tup (pa_cons (pv 7) (pa_cons (pe_op op_times (pe_op op_plus pe_int (pe_op op_mod (pe_op op_fdiv (pv 2) pe_int) pe_int)) (pv 3)) (pa_cons (pe_op op_plus (pv 7) (pe_op op_times (pe_op op_plus pe_int (pe_op op_mod (pe_op op_fdiv (pv 2) pe_int) pe_int)) (pv 3))) pa_nil)))) pa_nil))))))))), ?_⟩)) m_f F.kp (F.binds (ps := ["_law_book", "_law_held", "_law_cell", "_law_wide"]) fun _ _ _ _ _ _ us hl => match us, hl with | [_, _, _, _], _ => rfl)
  refine run_defB (N := n_L_deed) h fun b x hx => ?_

  obtain ⟨js, c, w⟩ := x
  obtain ⟨hl, hs, hw⟩ : js.length ≤ 59 ∧ AllS js ∧ 1 ≤ w := hx
  have hlen : (jobsL js).length = js.length := List.length_map _
  show DX _ _ [.bk CKs.Book b (jobsL js), .va (jobsD js), .va (.int c), .va (.int w), .no, .no, .no, .no] (.rt (.bo CKs.Book b (jobsL (deedF js c w)) (.va (jobsD (deedF js c w)))))
  unfold deedF
  by_cases q7 : c % 9 = 7
  · rw [if_pos q7]
    have ha := oddT_at c
    refine x_seqR (x_if (b := true) (Et.to (by walk_at "Et") (by exact decide_eq_true q7)) (fun _ => ?_) (fun h => nomatch h))
    exact x_seqR (t_tryCM (tzm_drop (er_var (i := 0) (.inl rfl)) (bkSlot (i := 0) rfl (neL_free rfl)) (a_cons (by walk_at "Eb") a_nil) (R_take_odd (by omega) hs (oddT_no c)) hm_take) (.inl ⟨xm_BadJob_BadJob, fun _ => x_retB (i := 0) rfl (by walk_at "Eb")⟩))
  rw [if_neg q7]
  refine x_seq (x_if (b := false) (Et.to (by walk_at "Et") (by exact decide_eq_false q7)) (fun h => nomatch h) (fun _ => x_next)) ?_
  by_cases q5 : 5 < c % 9
  · rw [if_pos q5]
    refine x_seqR (x_if (b := true) (Et.to (by walk_at "Et") (by exact decide_eq_true q5)) (fun _ => ?_) (fun h => nomatch h))
    have hm : (0 : Int) < 2 * ((jobsL js).length : Int) + 5 := by omega
    have b0 := Int.emod_nonneg (c / 9) (b := 2 * (js.length : Int) + 5) (by omega)
    have b1 := Int.emod_lt_of_pos (c / 9) (b := 2 * (js.length : Int) + 5) (by omega)
    refine x_seq (x_set (i := 4) (d := .int (deedP0 js c)) (Ep.imm (Eb.to (by walk_at "Eb") (by rw [hlen]; rfl)) rfl)) ?_
    have hb : -200 ≤ deedP0 js c ∧ deedP0 js c ≤ 200 := by
      unfold deedP0
      omega
    have ep : deedP js c = if c / 9 % 11 = 3 then deedP0 js c * 10 ^ (30 : Int).toNat else deedP0 js c := rfl
    generalize deedP0 js c = p0 at *
    show DX _ _ [.bk CKs.Book b (jobsL js), .va (jobsD js), .va (.int c), .va (.int w), .va (.int p0), .no, .no, .no] _
    refine x_seq (S1 := [.bk CKs.Book b (jobsL js), .va (jobsD js), .va (.int c), .va (.int w), .va (.int (deedP js c)), .no, .no, .no]) (by
      rw [ep]
      by_cases q3 : c / 9 % 11 = 3
      · rw [if_pos q3]
        exact x_if (b := true) (Et.to (by walk_at "Et") (by exact decide_eq_true q3)) (fun _ => x_set (by walk_at "Ep")) (fun h => nomatch h)
      · rw [if_neg q3]
        exact x_if (b := false) (Et.to (by walk_at "Et") (by exact decide_eq_false q3)) (fun h => nomatch h) (fun _ => x_next)) ?_
    generalize deedP js c = p at *
    by_cases hp : InP js p
    · rw [if_pos hp]
      obtain ⟨h0, h1⟩ := id hp
      have a1 : atI (jobsL js) p = some (jobD (jAt js p.toNat)) := atI_pos h0 (by rw [List.getElem?_map, getD_some (d := J0) (by omega)]; rfl)
      have sh : SeqAt.shaped (jobD (jAt js p.toNat)) = true := rfl
      refine x_seq (t_tryCN (fun W => mx_asg (m_methW (er_var (i := 0) (.inl rfl)) (bkSlot (i := 0) rfl (neL_free rfl)) (by walk_at "Ea") (R_drop_yes (by omega) hp) hm_drop) rfl)) ?_
      show DX _ _ [.bk CKs.Book b (jobsL (cutJ js p)), .va (jobsD js), .va (.int c), .va (.int w), .va (.int p), .va (jobD (jAt js p.toNat)), .no, .no] _
      refine x_seq (x_if (b := false) (Et.to (t_or (a := false) (b := false) (Et.to (by walk_at "Et") (by rw [hlen, decide_eq_true h0, decide_eq_true h1]; rfl)) (fun _ => Et.to (t_test (e_ne (by walk_at "Eb") (by walk_at "Eb") sh sh)) (by rw [SeqAt.eqv_refl _ (SeqAt.canLay_of_shaped sh)]; rfl))) (by rfl)) (fun h => nomatch h) (fun _ => x_next)) ?_
      exact x_retB (i := 0) rfl ((n_cut (by walk_at "Eb") (by walk_at "Eb") (by walk_at "Eb") (by walk_at "Eb") h0 (by omega) (by rw [hlen]; omega)).b.to (by
        rw [jobsL_cut, show (p + 1).toNat = p.toNat + 1 by omega]
        rfl))
    · rw [if_neg hp]
      have hd : (decide (0 ≤ p) && decide (p < ((jobsL js).length : Int))) = false := by
        rw [hlen, Bool.and_eq_false_iff, decide_eq_false_iff_not, decide_eq_false_iff_not]
        by_cases z : 0 ≤ p
        · exact .inr fun w => hp ⟨z, w⟩
        · exact .inl z
      refine x_seqR (t_tryCM (tzm_asg (er_var (i := 0) (.inl rfl)) (bkSlot (i := 0) rfl (neL_free rfl)) (by walk_at "Ea") (R_drop_no (by omega) hp) hm_drop) (.inl ⟨xm_OutOfPlace_RunError, rfl, _, rfl, fun a => ?_⟩))
      refine xa_no (Eta.to (eta_or (b := false) (c := false) (eta_not (b := true) (eta_isO kt_OutOfPlace_OutOfPlace ec_OutOfPlace)) fun _ => eta_isTup (cs := [.ref EK.BadJob, .ref EK.NoRow, .ref EK.TooMany]) (us := [.ref EK.BadJob, .ref EK.NoRow, .ref EK.TooMany]) (fun σ H Q q => q) (by simp) (.cons (.own _) (.cons (.own _) (.cons (.own _) .nil)))
        (kitAny_cons kt_OutOfPlace_BadJob (fun _ => kitAny_cons kt_OutOfPlace_NoRow (fun _ => kitAny_cons kt_OutOfPlace_TooMany (fun _ => kitAny_nil) (fun h => nomatch h)) (fun h => nomatch h)) (fun h => nomatch h)) ec_OutOfPlace) rfl) (xa_of ?_)
      exact x_retB (i := 0) rfl (e_if (b := false) (Et.to (by walk_at "Et") (by exact hd)) (fun h => nomatch h) (fun _ => by walk_at "Eb"))
  · rw [if_neg q5]
    refine x_seq (x_if (b := false) (Et.to (by walk_at "Et") (by exact decide_eq_false q5)) (fun h => nomatch h) (fun _ => x_next)) ?_
    have c0 : 0 ≤ c / 9 % 30 ∧ c / 9 % 30 < 30 := by omega
    have c1 : 0 ≤ 1 + c / 270 % 5 ∧ 1 + c / 270 % 5 < 30 := by omega
    have c2 : 0 ≤ 1 + c / 1350 % 24 ∧ 1 + c / 1350 % 24 < 30 := by omega
    refine x_seq (x_set (i := 7) (d := .int (c / 9 % 30 * w)) (by walk_at "Ep")) ?_
    have hR : R_L_taken (jobsL js) [jobsD js, jobD (deedJ c w)] (.va (jobsD (takeJ js (deedJ c w)))) (jobsL (takeJ js (deedJ c w))) := ⟨(js, deedJ c w), ⟨hl, hs, deedJ_snd hw⟩, rfl, rfl, rfl, rfl⟩
    exact mx_retB (i := 0) (m_call (er_var (i := 0) (.inl rfl)) (bkSlot (i := 0) rfl (neL_free rfl)) (a_cons (by walk_at "Eb") (a_cons (by walk_at "Eb") a_nil)) hR) rfl
/-! ### _law_cell_at -/
abbrev s_L_cell_at : Stmt := topS 28
abbrev n_L_cell_at : List Str := ["_law_script", "_law_k"]
theorem sc_L_cell_at : FnScope n_L_cell_at ["_law_script", "_law_k"] (defScope s_L_cell_at) := ⟨rfl, rfl, rfl, by decide +kernel, rfl, by decide +kernel, by decide +kernel⟩
abbrev R_L_cell_at := Rf (fun x : List Int × Int => [frz x.1, .int x.2]) (fun x => 0 ≤ x.2) (fun x => .va (.int (cellAt x.1 x.2)))
theorem ok_L_cell_at {f : Addr} {fd : FuncData} (F : Fun K "_law_cell_at" "_law_cell_at" s_L_cell_at f fd) (m_f : mg "_law_cell_at" = some (.ref f)) (b_len : mg "len" = none) : Cal P w K mg base 1 "_law_cell_at" ["_law_script", "_law_k"] R_L_cell_at := by
  letI : KK := ⟨K⟩
  refine cal_of (F.ok sc_L_cell_at (len_of fun _ => rfl) (fun cdv A outer s H vs Q E hr h => ⟨_,
      (pss_cons (ps_if (pt_cmpR op_lt (pv 1) (pe_callB (j_len K) (by rfl) b_len (by decide +kernel) (pa_cons (pv 0) pa_nil)) (nomark _)) (pss_one (ps_ret (j_ix K (pv 0) (pv 1)))) pss_nil)
      (pss_one (ps_ret pe_int))), ?_⟩)) m_f F.kp (F.binds (ps := ["_law_script", "_law_k"]) fun _ _ _ _ _ _ us hl => match us, hl with | [_, _], _ => rfl)
  refine run_def (N := n_L_cell_at) h fun x hx => ?_

  obtain ⟨ns, k⟩ := x
  have hk : 0 ≤ k := hx
  show DX _ _ _ (.rt (.va (.int (cellAt ns k))))
  unfold cellAt
  by_cases h1 : k < (ns.length : Int)
  · rw [if_pos h1]
    have ha : atI ns k = some (ns.getD k.toNat 0) := atI_pos hk (getD_some (by omega))
    exact x_seqR (x_if (by walk_at "Et") (fun _ => x_ret (by walk_at "Eb")) fun h => absurd h1 (of_decide_eq_false h))
  · rw [if_neg h1]
    refine x_seq (x_if (by walk_at "Et") (fun h => absurd (of_decide_eq_true h) h1) fun _ => x_next) ?_
    exact x_ret (by walk_at "Eb")
/-! ### law -/
abbrev s_law : Stmt := topS 38
abbrev n_law : List Str := ["_law_script", "_law_books", "_law_held", "_law_wide", "_law_kept", "_law_cell", "_law_which", "_law_told", "_law_after", "_law_k", "_law_listed", "_law_ones"]
theorem sc_law : FnScope n_law ["_law_script"] (defScope s_law) := ⟨rfl, rfl, rfl, by decide +kernel, rfl, by decide +kernel, by decide +kernel⟩
theorem k_cell13 [KK] {E : XK} {S : DSt} {ta : TA} {ns : List Int} {k : Int} (h : Ea ta S [frz ns, .int k]) (hk : 0 ≤ k) : Eb (tCall (SpR R_L_cell_at) [] E ta) S (.int (cellAt ns k)) := e_callR (ns, k) h rfl hk rfl
local macro_rules | `(tactic| walk_at "call") => `(tactic| (apply k_cell13; (walk_at "Ea"); (walk_at "side")))
theorem neL_nil [KK] {bs : List PyData} : NeL [] bs := fun j es h => nomatch h
theorem neL_skip [KK] {S : DSt} {s : Sl} {bs : List PyData} (hs : ∀ es, s ≠ .ow es) (h : NeL S bs) : NeL (s :: S) bs := fun j es hj => by
  cases j with
  | zero => exact absurd (Option.some.inj hj) (hs es)
  | succ j => exact h j es hj
theorem neL_ow [KK] {S : DSt} {ds bs : List PyData} (hd : ∀ H xs, DaL H bs xs → DaL H ds xs → False) (h : NeL S bs) : NeL (.ow ds :: S) bs := fun j es hj => by
  cases j with
  | zero =>
    cases hj
    exact hd
  | succ j => exact h j es hj
/-- what two books hold -/
abbrev Two := List Job × List Job
abbrev psOf (b0 b1 : Addr) (g : Two) : List (Addr × List PyData) := [(b0, jobsL g.1), (b1, jobsL g.2)]
abbrev hdOf (g : Two) : List PyData := [jobsD g.1, jobsD g.2]
def pick2b (b0 b1 : Addr) (w : Int) : Addr := if w = 0 then b0 else b1
def pickG (g : Two) (w : Int) : List Job := if w = 0 then g.1 else g.2
def putG (g : Two) (w : Int) (h : List Job) : Two := if w = 0 then (h, g.2) else (g.1, h)
theorem two_cases {w : Int} (h : 0 ≤ w ∧ w < 2) : w = 0 ∨ w = 1 := by omega
theorem ps_at {b0 b1 : Addr} {g : Two} {w : Int} (h : 0 ≤ w ∧ w < 2) : atI (psOf b0 b1 g) w = some (pick2b b0 b1 w, jobsL (pickG g w)) := by
  rcases two_cases h with rfl | rfl <;> rfl
theorem ps_get {b0 b1 : Addr} {g : Two} {w : Int} (h : 0 ≤ w ∧ w < 2) : (psOf b0 b1 g)[w.toNat]? = some (pick2b b0 b1 w, jobsL (pickG g w)) := by
  rcases two_cases h with rfl | rfl <;> rfl
theorem ps_set2 {b0 b1 : Addr} {g : Two} {w : Int} (h : 0 ≤ w ∧ w < 2) (js : List Job) : (psOf b0 b1 g).set w.toNat (pick2b b0 b1 w, jobsL js) = psOf b0 b1 (putG g w js) := by
  rcases two_cases h with rfl | rfl <;> rfl
theorem hd_at {g : Two} {w : Int} (h : 0 ≤ w ∧ w < 2) : atI (hdOf g) w = some (jobsD (pickG g w)) := by
  rcases two_cases h with rfl | rfl <;> rfl
theorem hd_set {g : Two} {w : Int} (h : 0 ≤ w ∧ w < 2) (js : List Job) : (hdOf g).set w.toNat (jobsD js) = hdOf (putG g w js) := by
  rcases two_cases h with rfl | rfl <;> rfl
theorem hd_ix {g : Two} {w : Int} (h : 0 ≤ w ∧ w < 2) : ixN (hdOf g).length w = some w.toNat := by
  rcases two_cases h with rfl | rfl <;> rfl
theorem pick_put {g : Two} {w : Int} (js : List Job) : pickG (putG g w js) w = js := by
  unfold pickG putG
  by_cases h : w = 0
  · rw [if_pos h, if_pos h]
  · rw [if_neg h, if_neg h]
noncomputable def keptP (js : List Job) : PyData := .tuple [jobsD js, jobsD (workedF js)]
noncomputable def keptD (js : List Job) : PyData := .tuple [keptP js, keptP js]
theorem ne_kept [KK] {js : List Job} {r : List (List Job)} (h : r ≠ []) : ∀ H xs, DaL H (jobsL js) xs → DaL H (r.map keptD) xs → False := by
  cases r with
  | nil => exact absurd rfl h
  | cons a r => exact ne_tup
theorem shaped_kept (js : List Job) : SeqAt.shaped (keptP js) = true := by
  have h := shaped_jobs js
  have h2 := shaped_jobs (workedF js)
  unfold keptP
  unfold SeqAt.shaped at h h2 ⊢
  rw [Bool.and_eq_true] at h h2 ⊢
  have d1 : PyData.depthAll (jobsL js) ≤ 1 := depth_map (n := 1) js (f := fun j => jobD j) fun _ _ => by simp [PyData.depth, PyData.depthAll]
  have d2 : PyData.depthAll (jobsL (workedF js)) ≤ 1 := depth_map (n := 1) (workedF js) (f := fun j => jobD j) fun _ _ => by simp [PyData.depth, PyData.depthAll]
  have h1 := h.1
  have h3 := h2.1
  refine ⟨by simp only [PyData.canLay0, PyData.canLayAll0, Bool.and_true, Bool.and_eq_true] at h1 h3 ⊢; exact ⟨h1, h3⟩, decide_eq_true ?_⟩
  simp only [PyData.depth, PyData.depthAll]
  omega
/-- one deed: the books, and what was told -/
noncomputable def bookStep (w : Int) (s : Two × List (List Job)) (c : Int) : Two × List (List Job) := (putG s.1 (c % 2) (deedF (pickG s.1 (c % 2)) (c / 2) w), s.2 ++ [pickG s.1 (c % 2)])
noncomputable def bookSt (w : Int) (cs : List Int) (i : Nat) : Two × List (List Job) := (cs.take i).foldl (bookStep w) (([], []), [])
theorem bookSt_succ {w : Int} {cs : List Int} {i : Nat} {c : Int} (h : cs[i]? = some c) : bookSt w cs (i + 1) = bookStep w (bookSt w cs i) c := by
  unfold bookSt
  rw [List.take_add_one, h, List.foldl_append]
  rfl
theorem deed_hold {js : List Job} (h : Hold js) (c : Int) {w : Int} (hw : 1 ≤ w) : Hold (deedF js c w) ∧ (deedF js c w).length ≤ js.length + 1 := by
  unfold deedF
  by_cases q7 : c % 9 = 7
  · rw [if_pos q7]
    exact ⟨h, by omega⟩
  rw [if_neg q7]
  by_cases q5 : 5 < c % 9
  · rw [if_pos q5]
    by_cases q : InP js (deedP js c)
    · rw [if_pos q]
      have := cut_len q
      exact ⟨h.cut _, by omega⟩
    · rw [if_neg q]
      exact ⟨h, by omega⟩
  · rw [if_neg q5]
    exact ⟨h.take (deedJ_snd hw), take_len _ _⟩
structure BookOk (s : Two × List (List Job)) (i : Nat) : Prop where
  h0 : Hold s.1.1
  h1 : Hold s.1.2
  l0 : s.1.1.length ≤ i
  l1 : s.1.2.length ≤ i
  r : s.2.length = i
theorem book_ok {w : Int} (hw : 1 ≤ w) {cs : List Int} : ∀ i : Nat, i ≤ cs.length → BookOk (bookSt w cs i) i
  | 0, _ => ⟨hold_nil, hold_nil, Nat.le_refl _, Nat.le_refl _, rfl⟩
  | i + 1, hi => by
    obtain ⟨c, hc⟩ : ∃ c, cs[i]? = some c := ⟨_, List.getElem?_eq_getElem (by omega)⟩
    have ih := book_ok (cs := cs) hw i (by omega)
    rw [bookSt_succ hc]
    generalize bookSt w cs i = s at ih
    obtain ⟨g, r⟩ := s
    obtain ⟨h0, h1, l0, l1, hr⟩ := ih
    have z := deed_hold h0 (c / 2) hw
    have z1 := deed_hold h1 (c / 2) hw
    have hr2 : (r ++ [pickG g (c % 2)]).length = i + 1 := by
      rw [List.length_append, List.length_singleton]
      exact congrArg (· + 1) hr
    rcases two_cases (w := c % 2) (by omega) with e | e
    · unfold bookStep
      rw [e]
      rw [e] at hr2
      exact ⟨z.1, h1, Nat.le_trans z.2 (Nat.succ_le_succ l0), Nat.le_succ_of_le l1, hr2⟩
    · unfold bookStep
      rw [e]
      rw [e] at hr2
      exact ⟨h0, z1.1, Nat.le_succ_of_le l0, Nat.le_trans z1.2 (Nat.succ_le_succ l1), hr2⟩
theorem pick_ok {s : Two × List (List Job)} {i : Nat} (h : BookOk s i) (w : Int) : Hold (pickG s.1 w) ∧ (pickG s.1 w).length ≤ i := by
  unfold pickG
  split
  · exact ⟨h.h0, h.l0⟩
  · exact ⟨h.h1, h.l1⟩
theorem ok_law {f : Addr} {fd : FuncData} (F : Fun K "law" "law" s_law f fd) (b_list : mg "list" = none) (b_range : mg "range" = none) (b_isinstance : mg "isinstance" = none) (c_L_cell_at : Cal P w K mg base 1 "_law_cell_at" ["_law_script", "_law_k"] R_L_cell_at) (c_L_many : CalS P w K mg base 9 "_law_many" ["_law_book", "_law_cell", "_law_count"] (@SpB ⟨K⟩ CKs.Book R_L_many)) (c_L_full : CalS P w K mg base 9 "_law_full" ["_law_book", "_law_place"] (@SpB ⟨K⟩ CKs.Book R_L_full)) (c_L_deed : CalS P w K mg base 9 "_law_deed" ["_law_book", "_law_held", "_law_cell", "_law_wide"] (@SpB ⟨K⟩ CKs.Book R_L_deed)) (c_L_meets : Cal P w K mg base 3 "_law_meets" ["_law_jobs", "_law_pieces"] R_L_meets) (c_run : Cal P w K mg base 4 "run" ["jobs"] R_run) (cl : Cls K CKs.Book) (nH : NoAttr K CKs.Book "held") (h_plan : Met P w K mg base CX0 5 CKs.Book "plan" ["self"] (@SpP ⟨K⟩ CKs.Book R_Book_plan)) (h_listed : Met P w K mg base CX0 1 CKs.Book "listed" ["self"] (@SpP ⟨K⟩ CKs.Book R_Book_listed)) (mk_Book : Mak P w K mg base 1 CKs.Book "Book" ["self"] (spInit CKs.Book)) : FnOk P w K mg base CX0 10 f fd ["_law_script"] (spLaw K) := by
  refine F.ok sc_law (fun vs H Q E h => by obtain ⟨a, ns, rfl, _⟩ := h; rfl) (fun cdv A outer s H vs Q E hr h => ⟨_,
      (pss_cons (ps_if (pt_cmpR (j_eq K hr.units) (pe_op op_mod (c_L_cell_at.pe (hr.mono (by decide)) rfl (pa_cons (pv 0) (pa_cons pe_int pa_nil))) pe_int) pe_int (nomark _)) (pss_one (ps_ret (c_L_many.pe (hr.mono (by decide)) rfl (pa_cons (mk_Book.pe (hr.mono (by decide)) rfl) (pa_cons (c_L_cell_at.pe (hr.mono (by decide)) rfl (pa_cons (pv 0) (pa_cons pe_int pa_nil))) (pa_cons (pe_op op_plus pe_int (pe_op op_mod (pe_op op_fdiv (c_L_cell_at.pe (hr.mono (by decide)) rfl (pa_cons (pv 0) (pa_cons pe_int pa_nil))) pe_int) pe_int)) pa_nil)))))) pss_nil)
      (pss_cons (ps_set (i := 1) sc_law.nd rfl (Or.inl rfl) (pe_lst (pa_cons (mk_Book.pe (hr.mono (by decide)) rfl) (pa_cons (mk_Book.pe (hr.mono (by decide)) rfl) pa_nil))))
      (pss_cons (ps_set (i := 2) sc_law.nd rfl (Or.inl rfl) (pe_lst (pa_cons (pe_lst pa_nil) (pa_cons (pe_lst pa_nil) pa_nil))))
      (pss_cons (ps_set (i := 3) sc_law.nd rfl (Or.inl rfl) pe_int)
      (pss_cons (ps_if (pt_cmpR (j_eq K hr.units) (pe_op op_mod (c_L_cell_at.pe (hr.mono (by decide)) rfl (pa_cons (pv 0) (pa_cons pe_int pa_nil))) pe_int) pe_int (nomark _)) (pss_one (ps_set (i := 3) sc_law.nd rfl (Or.inl rfl) (pe_op op_plus pe_int (pe_op op_mod (pe_op op_fdiv (c_L_cell_at.pe (hr.mono (by decide)) rfl (pa_cons (pv 0) (pa_cons pe_int pa_nil))) pe_int) (pe_op op_pow pe_int pe_int))))) pss_nil)
      (pss_cons (ps_if (pt_cmpR (j_eq K hr.units) (pe_op op_mod (c_L_cell_at.pe (hr.mono (by decide)) rfl (pa_cons (pv 0) (pa_cons pe_int pa_nil))) pe_int) pe_int (nomark _)) (pss_one (ps_ret (c_L_full.pe (hr.mono (by decide)) rfl (pa_cons (j_ix K (pv 1) pe_int) (pa_cons (pe_op op_mod (c_L_cell_at.pe (hr.mono (by decide)) rfl (pa_cons (pv 0) (pa_cons pe_int pa_nil))) pe_int) pa_nil))))) pss_nil)
      (pss_cons (ps_set (i := 4) sc_law.nd rfl (Or.inl rfl) (pe_lst pa_nil))
      (pss_cons (ps_for PassesOwn.never rfl (j_iList K (j_sl K (pv 0) (po_some pe_int) (po_some pe_int))) (pg_name (i := 5) sc_law.nd rfl (Or.inl rfl))
        (pss_cons (ps_set (i := 6) sc_law.nd rfl (Or.inl rfl) (pe_op op_mod (pv 5) pe_int))
        (pss_cons (ps_set (i := 7) sc_law.nd rfl (Or.inl rfl) (pe_tup (pa_cons (h_listed.pe0 (E := E0) cl (hr.mono (by decide)) pass0 (j_ix K (pv 1) (pv 6))) (pa_cons (h_plan.pe0 (E := E0) cl (hr.mono (by decide)) pass0 (j_ix K (pv 1) (pv 6))) pa_nil))))
        (pss_cons (ps_expr (j_app K (pv 4) (pe_tup (pa_cons (pv 7) (pa_cons (pe_tup (pa_cons (pe_callTy (j_list K) (by rfl) b_list (by decide +kernel) (pa_cons (j_ix K (pv 7) pe_int) pa_nil)) (pa_cons (pe_callTy (j_list K) (by rfl) b_list (by decide +kernel) (pa_cons (j_ix K (pv 7) pe_int) pa_nil)) pa_nil))) pa_nil)))))
        (pss_cons (ps_set (i := 8) sc_law.nd rfl (Or.inl rfl) (c_L_deed.pe (hr.mono (by decide)) rfl (pa_cons (j_ix K (pv 1) (pv 6)) (pa_cons (pe_callTy (j_list K) (by rfl) b_list (by decide +kernel) (pa_cons (j_ix K (pv 2) (pv 6)) pa_nil)) (pa_cons (pe_op op_fdiv (pv 5) pe_int) (pa_cons (pv 3) pa_nil))))))
        (pss_cons (ps_if (PW.pt (pw_or (pt_cmpR op_isNo (pv 8) pe_non (nomark _)) (pw_or1 (pt_not (j_tru K (c_L_meets.pe (hr.mono (by decide)) rfl (pa_cons (pv 8) (pa_cons (h_plan.pe0 (E := E0) cl (hr.mono (by decide)) pass0 (j_ix K (pv 1) (pv 6))) pa_nil)))))))) (pss_one (ps_ret pe_bl)) pss_nil)
        (pss_cons (ps_expr (j_app K (h_plan.pe0 (E := E0) cl (hr.mono (by decide)) pass0 (j_ix K (pv 1) (pv 6))) (pe_tup (pa_cons pe_int (pa_cons pe_int (pa_cons pe_int pa_nil))))))
        (pss_cons (ps_if (pt_cmpR (j_ne K hr.units) (h_plan.pe0 (E := E0) cl (hr.mono (by decide)) pass0 (j_ix K (pv 1) (pv 6))) (c_run.pe (hr.mono (by decide)) rfl (pa_cons (pe_callTy (j_list K) (by rfl) b_list (by decide +kernel) (pa_cons (pv 8) pa_nil)) pa_nil)) (nomark _)) (pss_one (ps_ret pe_bl)) pss_nil)
        (pss_cons (ps_asg (pv 8) (pg_sub (pv 2) (pv 6) set_list))
        (pss_one (ps_for PassesOwn.never rfl (pi_range1 rfl b_range (pa_cons pe_int pa_nil)) (pg_name (i := 9) sc_law.nd rfl (Or.inl rfl))
          (pss_cons (ps_set (i := 10) sc_law.nd rfl (Or.inl rfl) (h_listed.pe0 (E := E0) cl (hr.mono (by decide)) pass0 (j_ix K (pv 1) (pv 9))))
          (pss_cons (ps_if (PW.pt (pw_or (pt_not (j_tru K (pe_callB (j_isi K) (by rfl) b_isinstance (by decide +kernel) (pa_cons (pv 10) (pa_cons (pe_bltn (v := .ty "list") (by rfl) b_list (by decide +kernel) rfl) pa_nil))))) (pw_or1 (pt_cmpR (j_ne K hr.units) (pv 10) (j_ix K (pv 2) (pv 9)) (nomark _))))) (pss_one (ps_ret pe_bl)) pss_nil)
          (pss_one (ps_expr (j_app K (pv 10) (pe_tup (pa_cons pe_int (pa_cons pe_int (pa_cons pe_int pa_nil))))))))))))))))))))
      (pss_cons (ps_for PassesOwn.never rfl (j_iList K (pv 4)) (j_tup K (n := 2) rfl (pgs_cons (pg_name (i := 7) sc_law.nd rfl (Or.inl rfl)) (pgs_cons (pg_name (i := 11) sc_law.nd rfl (Or.inl rfl)) pgs_nil)))
        (pss_one (ps_if (pt_cmpR (j_ne K hr.units) (pv 7) (pv 11) (nomark _)) (pss_one (ps_ret pe_bl)) pss_nil)))
      (pss_one (ps_ret (pe_cmpR (j_eq K hr.units) (h_listed.pe0 (E := E0) cl (hr.mono (by decide)) pass0 (j_ix K (pv 1) pe_int)) (j_ix K (pv 2) pe_int) (nomark _))))))))))))), ?_⟩)
  letI : KK := ⟨K⟩
  refine law_run (N := n_law) h fun ns hns => ?_

  show DX _ _ [.va (frz ns), .no, .no, .no, .no, .no, .no, .no, .no, .no, .no, .no] _
  by_cases q25 : cellAt ns 0 % 64 = 25
  · refine x_seqR (x_if (b := true) (Et.to (by walk_at "Et") (by exact decide_eq_true q25)) (fun _ => ?_) (fun h => nomatch h))
    have hb : 0 ≤ 16 + cellAt ns 0 / 64 % 10 ∧ 16 + cellAt ns 0 / 64 % 10 ≤ 25 := by omega
    have hR : R_L_many [] [.int (cellAt ns 1), .int (16 + cellAt ns 0 / 64 % 10)] (.va (.bool true)) (jobsL (manyH (cellAt ns 1) (16 + cellAt ns 0 / 64 % 10).toNat)) :=
      ⟨(cellAt ns 1, (16 + cellAt ns 0 / 64 % 10).toNat), by show (16 + cellAt ns 0 / 64 % 10).toNat ≤ 30; omega, rfl, by show _ = [PyData.int (cellAt ns 1), PyData.int ((16 + cellAt ns 0 / 64 % 10).toNat : Int)]; rw [Int.toNat_of_nonneg hb.1], rfl, rfl⟩
    exact x_retMk (by walk_at "Ea") hR
  refine x_seq (x_if (b := false) (Et.to (by walk_at "Et") (by exact decide_eq_false q25)) (fun h => nomatch h) (fun _ => x_next)) ?_
  refine x_mk2 (j := 1) rfl (fun i s h => ?_) fun b0 b1 hb => ?_
  · match i, h with
    | 0, h => cases h; rfl
    | 1, h => cases h; rfl
    | 2, h => cases h; rfl
    | 3, h => cases h; rfl
    | 4, h => cases h; rfl
    | 5, h => cases h; rfl
    | 6, h => cases h; rfl
    | 7, h => cases h; rfl
    | 8, h => cases h; rfl
    | 9, h => cases h; rfl
    | 10, h => cases h; rfl
    | 11, h => cases h; rfl
  show DX _ _ [.va (frz ns), .bl CKs.Book (psOf b0 b1 ([], [])), .no, .no, .no, .no, .no, .no, .no, .no, .no, .no] _
  refine x_seq (x_set2 (j := 2)) ?_
  show DX _ _ [.va (frz ns), .bl CKs.Book (psOf b0 b1 ([], [])), .ow (hdOf ([], [])), .no, .no, .no, .no, .no, .no, .no, .no, .no] _
  refine x_seq (x_set (i := 3) (d := .int 1) (by walk_at "Ep")) ?_
  obtain ⟨w, hw, ew⟩ : ∃ w : Int, 1 ≤ w ∧ w = if cellAt ns 0 % 4 = 3 then 2 + cellAt ns 0 / 4 % 10 ^ (56 : Int).toNat else 1 := by
    refine ⟨_, ?_, rfl⟩
    split
    · have h0 : (0 : Int) < 10 ^ (56 : Int).toNat := by decide +kernel
      have h1 := Int.emod_nonneg (cellAt ns 0 / 4) (Int.ne_of_gt h0)
      omega
    · exact Int.le_refl _
  refine x_seq (S1 := [.va (frz ns), .bl CKs.Book (psOf b0 b1 ([], [])), .ow (hdOf ([], [])), .va (.int w), .no, .no, .no, .no, .no, .no, .no, .no]) (by
    rw [ew]
    have hp : (0 : Int) < 10 ^ (56 : Int).toNat := by decide +kernel
    by_cases q3 : cellAt ns 0 % 4 = 3
    · rw [if_pos q3]
      exact x_if (b := true) (Et.to (by walk_at "Et") (by exact decide_eq_true q3)) (fun _ => x_set (by walk_at "Ep")) (fun h => nomatch h)
    · rw [if_neg q3]
      exact x_if (b := false) (Et.to (by walk_at "Et") (by exact decide_eq_false q3)) (fun h => nomatch h) (fun _ => x_next)) ?_
  by_cases q9 : cellAt ns 0 % 64 = 9
  · refine x_seqR (x_if (b := true) (Et.to (by walk_at "Et") (by exact decide_eq_true q9)) (fun _ => ?_) (fun h => nomatch h))
    have hb : 0 ≤ cellAt ns 1 % 60 ∧ cellAt ns 1 % 60 < 60 := by omega
    have hR : R_L_full (jobsL []) [.int (cellAt ns 1 % 60)] (.va (.bool true)) (jobsL (fullC (cellAt ns 1 % 60).toNat ++ [(0, 3, 61)])) :=
      ⟨(cellAt ns 1 % 60).toNat, by show (cellAt ns 1 % 60).toNat < 60; omega, rfl, by show _ = [PyData.int ((cellAt ns 1 % 60).toNat : Int)]; rw [Int.toNat_of_nonneg hb.1], rfl, rfl⟩
    exact mx_ret (m_call (er_ix (i := 1) rfl (by walk_at "Eb") (ps_at (g := ([], [])) (w := 0) (by omega))) (bkList (i := 1) (k := 0) rfl rfl (neL_skip (fun es h => nomatch h) (neL_skip (fun es h => nomatch h) (neL_ow ne_list (neL_free rfl))))) (by walk_at "Ea") hR)
  refine x_seq (x_if (b := false) (Et.to (by walk_at "Et") (by exact decide_eq_false q9)) (fun h => nomatch h) (fun _ => x_next)) ?_
  refine x_seq (x_setO (i := 4) (ds := []) (by walk_at "En") rfl) ?_
  show DX _ _ [.va (frz ns), .bl CKs.Book (psOf b0 b1 ([], [])), .ow (hdOf ([], [])), .va (.int w), .ow [], .no, .no, .no, .no, .no, .no, .no] _
  obtain ⟨cs, hcs, ecs⟩ : ∃ cs : List Int, cs.length ≤ 16 ∧ En (tSl (rSl K) (tVar 0) (tPart (tC (.int 1))) (tPart (tC (.int 17)))) [.va (frz ns), .bl CKs.Book (psOf b0 b1 ([], [])), .ow (hdOf ([], [])), .va (.int w), .ow [], .no, .no, .no, .no, .no, .no, .no] (cs.map .int) := by
    refine ⟨_, ?_, n_slF (e_var rfl).b (o_some e_int) (o_some e_int)⟩
    have s1 : HT.sIx ns.length 0 (some (1 : Int)) = min 1 ns.length := HT.sIx_nat _ _ 1
    have s2 : HT.sIx ns.length ns.length (some (17 : Int)) = min 17 ns.length := HT.sIx_nat _ _ 17
    rw [List.length_take, List.length_drop, s1, s2]
    omega
  refine x_seq (x_for (fun i => [.va (frz ns), .bl CKs.Book (psOf b0 b1 (bookSt w cs i).1), .ow (hdOf (bookSt w cs i).1), .va (.int w), .ow ((bookSt w cs i).2.map keptD), .no, .no, .no, .no, .no, .no, .no]) (i_list (Ep.new ecs (immL_ints _))) (by walk_at "Le") fun i d hd => ?_) ?_
  · rw [List.getElem?_map] at hd
    obtain ⟨c, hc, rfl⟩ := Option.map_eq_some_iff.mp hd
    have hi : i < cs.length := (List.getElem?_eq_some_iff.mp hc).1
    have ok := book_ok hw i (Nat.le_of_lt hi)
    have ok2 := book_ok hw (i + 1) hi
    rw [bookSt_succ hc] at ok2 ⊢
    generalize bookSt w cs i = s at *
    have pk := pick_ok ok (c % 2)
    obtain ⟨g, rs⟩ := s
    have hr : rs.length = i := ok.r
    have hw2 : 0 ≤ c % 2 ∧ c % 2 < 2 := by omega
    have pd : Hold (deedF (pickG g (c % 2)) (c / 2) w) := (deed_hold pk.1 (c / 2) hw).1
    have eg : (bookStep w (g, rs) c).1 = putG g (c % 2) (deedF (pickG g (c % 2)) (c / 2) w) := rfl
    have er : (bookStep w (g, rs) c).2 = rs ++ [pickG g (c % 2)] := rfl
    have pk2 := pick_ok ok2
    rw [eg] at pk2 ⊢
    rw [er]
    obtain ⟨jh, jl⟩ : Hold (pickG g (c % 2)) ∧ (pickG g (c % 2)).length ≤ i := pk
    have pat := ps_at (b0 := b0) (b1 := b1) (g := g) hw2
    have pget := ps_get (b0 := b0) (b1 := b1) (g := g) hw2
    have pset := ps_set2 (b0 := b0) (b1 := b1) (g := g) hw2 (deedF (pickG g (c % 2)) (c / 2) w)
    have hat := hd_at (g := g) hw2
    have hset := hd_set (g := g) hw2 (deedF (pickG g (c % 2)) (c / 2) w)
    have hix := hd_ix (g := g) hw2
    have pat2 := ps_at (b0 := b0) (b1 := b1) (g := putG g (c % 2) (deedF (pickG g (c % 2)) (c / 2) w)) hw2
    rw [pick_put] at pat2
    have hR : R_L_deed (jobsL (pickG g (c % 2))) [jobsD (pickG g (c % 2)), .int (c / 2), .int w] (.va (jobsD (deedF (pickG g (c % 2)) (c / 2) w))) (jobsL (deedF (pickG g (c % 2)) (c / 2) w)) := ⟨(pickG g (c % 2), c / 2, w), ⟨by show (pickG g (c % 2)).length ≤ 59; omega, jh.snd, hw⟩, rfl, rfl, rfl, rfl⟩
    generalize pickG g (c % 2) = js at *
    generalize deedF js (c / 2) w = js2 at *
    generalize putG g (c % 2) js2 = g2 at *
    refine ⟨_, [.va (frz ns), .bl CKs.Book (psOf b0 b1 g), .ow (hdOf g), .va (.int w), .ow (rs.map keptD), .va (.int c), .no, .no, .no, .no, .no, .no], [.va (frz ns), .bl CKs.Book (psOf b0 b1 g2), .ow (hdOf g2), .va (.int w), .ow ((rs ++ [js]).map keptD), .va (.int c), .va (.int (c % 2)), .va (keptP js), .va (jobsD js2), .no, .no, .no], g_name, .inl ?_, by walk_at "Le"⟩
    refine x_seq (x_set (i := 6) (d := .int (c % 2)) (by walk_at "Ep")) ?_
    generalize c % 2 = wh at *
    show DX _ _ [.va (frz ns), .bl CKs.Book (psOf b0 b1 g), .ow (hdOf g), .va (.int w), .ow (rs.map keptD), .va (.int c), .va (.int wh), .no, .no, .no, .no, .no] _
    refine x_seq (x_set (i := 7) (d := keptP js) (ep_tup (ap_cons (Ep.new (n_methP (er_ix (i := 1) rfl (by walk_at "Eb") pat) (has_list (i := 1) rfl pat) (R_listed jh.len) hm_listed) (immL_jobs _)) (ap_cons (Ep.new (n_methP (er_ix (i := 1) rfl (by walk_at "Eb") pat) (has_list (i := 1) rfl pat) (R_plan jh.len jh.snd) hm_plan) (immL_jobs _)) ap_nil)) (by show 2 ≤ 100000; decide))) ?_
    show DX _ _ [.va (frz ns), .bl CKs.Book (psOf b0 b1 g), .ow (hdOf g), .va (.int w), .ow (rs.map keptD), .va (.int c), .va (.int wh), .va (keptP js), .no, .no, .no, .no] _
    refine x_seq (x_appP (i := 4) (d := keptD js) rfl (ep_tup (ap_cons (e_var rfl) (ap_cons (ep_tup (ap_cons (Ep.new (n_list (e_ixT (e_var rfl).b e_int rfl)) (immL_jobs js)) (ap_cons (Ep.new (n_list (e_ixT (e_var rfl).b e_int rfl)) (immL_jobs (workedF js))) ap_nil)) (by show 2 ≤ 100000; decide)) ap_nil)) (by show 2 ≤ 100000; decide)) (by rw [List.length_map]; omega)) ?_
    rw [show rs.map keptD ++ [keptD js] = (rs ++ [js]).map keptD by rw [List.map_append]; rfl]
    have hrs : rs ++ [js] ≠ [] := fun z => by cases rs <;> cases z
    generalize rs ++ [js] = rs2 at *
    show DX _ _ [.va (frz ns), .bl CKs.Book (psOf b0 b1 g), .ow (hdOf g), .va (.int w), .ow (rs2.map keptD), .va (.int c), .va (.int wh), .va (keptP js), .no, .no, .no, .no] _
    have nl : ∀ p : List (Addr × List PyData), NeL [.va (frz ns), .bl CKs.Book p, .ow (hdOf g), .va (.int w), .ow (rs2.map keptD), .va (.int c), .va (.int wh), .va (keptP js), .no, .no, .no, .no] (jobsL js2) := fun p =>
      neL_skip (fun es h => nomatch h) (neL_skip (fun es h => nomatch h) (neL_ow ne_list (neL_skip (fun es h => nomatch h) (neL_ow (ne_kept hrs) (neL_free rfl)))))
    have bst := bkList (i := 1) (C := CKs.Book) (S := [.va (frz ns), .bl CKs.Book (psOf b0 b1 g), .ow (hdOf g), .va (.int w), .ow (rs2.map keptD), .va (.int c), .va (.int wh), .va (keptP js), .no, .no, .no, .no]) (bs' := jobsL js2) rfl pget (nl _)
    rw [pset] at bst
    refine x_seq (mx_asgN (j := 8) (m_call (er_ix (i := 1) rfl (by walk_at "Eb") pat) bst (a_cons (by walk_at "Eb") (a_cons (by walk_at "Eb") (a_cons (by walk_at "Eb") a_nil))) hR) (immL_jobs _) (nl _)) ?_
    show DX _ _ [.va (frz ns), .bl CKs.Book (psOf b0 b1 g2), .ow (hdOf g), .va (.int w), .ow (rs2.map keptD), .va (.int c), .va (.int wh), .va (keptP js), .va (jobsD js2), .no, .no, .no] _
    have hl2 := pd.len
    refine x_seq (x_if (b := false) (Et.to (t_or (a := false) (b := false) (Et.to (by walk_at "Et") (by rfl)) (fun _ => Et.to (t_not (t_truB (k_L_meets (a_cons (by walk_at "Eb") (a_cons (n_methP (er_ix (i := 1) rfl (by walk_at "Eb") pat2) (has_list (i := 1) rfl pat2) (R_plan pd.len pd.snd) hm_plan).b a_nil)) (by omega) (plan_fits pd.snd pd.can)))) (by rfl))) (by rfl)) (fun h => nomatch h) (fun _ => x_next)) ?_
    have wl := ran_len pd.snd
    refine x_seq (x_appT (d := jobD (0, 0, 0)) (n_methP (er_ix (i := 1) rfl (by walk_at "Eb") pat2) (has_list (i := 1) rfl pat2) (R_plan pd.len pd.snd) hm_plan) (by walk_at "Eb") (by rw [List.length_map]; omega)) ?_
    refine x_seq (x_if (b := false) (Et.to (t_test (e_ne (n_methP (er_ix (i := 1) rfl (by walk_at "Eb") pat2) (has_list (i := 1) rfl pat2) (R_plan pd.len pd.snd) hm_plan).b (k_run (a_cons (n_list (e_var rfl).b).b a_nil) ⟨pd.len, pd.snd⟩).b (shaped_jobs _) (shaped_jobs _))) (by rw [eqv_jobs, decide_eq_true rfl]; rfl)) (fun h => nomatch h) (fun _ => x_next)) ?_
    refine x_seq (x_putP (i := 2) (d := jobsD js2) rfl (e_var rfl) (by walk_at "Eb") hix) ?_
    rw [hset]
    show DX _ _ [.va (frz ns), .bl CKs.Book (psOf b0 b1 g2), .ow (hdOf g2), .va (.int w), .ow (rs2.map keptD), .va (.int c), .va (.int wh), .va (keptP js), .va (jobsD js2), .no, .no, .no] _
    refine x_for (fun i => [.va (frz ns), .bl CKs.Book (psOf b0 b1 g2), .ow (hdOf g2), .va (.int w), .ow (rs2.map keptD), .va (.int c), .va (.int wh), .va (keptP js), .va (jobsD js2), .no, .no, .no]) (i_rng1 (n := 2) (by walk_at "Ea") ⟨by decide, by decide⟩) (by walk_at "Le") fun m d2 hd2 => ?_
    rw [List.getElem?_map] at hd2
    obtain ⟨k, hk, rfl⟩ := Option.map_eq_some_iff.mp hd2
    have hk2 : (0 : Int) ≤ (k : Int) ∧ (k : Int) < 2 := by
      have : k ∈ List.range 2 := List.mem_of_getElem? hk
      have := List.mem_range.mp this
      omega
    have pk3 := pk2 (k : Int)
    have pat3 := ps_at (b0 := b0) (b1 := b1) (g := g2) hk2
    have hat3 := hd_at (g := g2) hk2
    obtain ⟨ph, pl⟩ : Hold (pickG g2 (k : Int)) ∧ (pickG g2 (k : Int)).length ≤ i + 1 := pk3
    generalize pickG g2 (k : Int) = jk at *
    refine ⟨_, [.va (frz ns), .bl CKs.Book (psOf b0 b1 g2), .ow (hdOf g2), .va (.int w), .ow (rs2.map keptD), .va (.int c), .va (.int wh), .va (keptP js), .va (jobsD js2), .va (.int (k : Int)), .no, .no], [.va (frz ns), .bl CKs.Book (psOf b0 b1 g2), .ow (hdOf g2), .va (.int w), .ow (rs2.map keptD), .va (.int c), .va (.int wh), .va (keptP js), .va (jobsD js2), .va (.int (k : Int)), .ow (jobsL jk ++ [jobD (0, 1, 2)]), .no], g_name, .inl ?_, by walk_at "Le"⟩
    refine x_seq (x_setO (i := 10) (ds := jobsL jk) (n_methP (er_ix (i := 1) rfl (by walk_at "Eb") pat3) (has_list (i := 1) rfl pat3) (R_listed ph.len) hm_listed) (immL_jobs _)) ?_
    show DX _ _ [.va (frz ns), .bl CKs.Book (psOf b0 b1 g2), .ow (hdOf g2), .va (.int w), .ow (rs2.map keptD), .va (.int c), .va (.int wh), .va (keptP js), .va (jobsD js2), .va (.int (k : Int)), .ow (jobsL jk), .no] _
    refine x_seq (x_if (b := false) (Et.to (t_or (a := false) (b := false) (Et.to (by walk_at "Et") (by rfl)) (fun _ => Et.to (t_test (e_ne (e_own rfl) (e_ixL (e_own rfl) (by walk_at "Eb") hat3) (shaped_jobs _) (shaped_jobs _))) (by rw [eqv_jobs, decide_eq_true rfl]; rfl))) (by rfl)) (fun h => nomatch h) (fun _ => x_next)) ?_
    exact x_app (i := 10) (d := jobD (0, 1, 2)) rfl (by walk_at "Eb") rfl (by rw [List.length_map]; omega)
  rw [List.length_map]
  have ok := book_ok hw cs.length (Nat.le_refl _)
  generalize bookSt w cs cs.length = s at *
  obtain ⟨g, rs⟩ := s
  obtain ⟨jh, jl⟩ := pick_ok ok 0
  have pat := ps_at (b0 := b0) (b1 := b1) (g := g) (w := 0) (by omega)
  have hat := hd_at (g := g) (w := 0) (by omega)
  show DX _ _ [.va (frz ns), .bl CKs.Book (psOf b0 b1 g), .ow (hdOf g), .va (.int w), .ow (rs.map keptD), .no, .no, .no, .no, .no, .no, .no] _
  refine x_pre (S1 := [.va (frz ns), .bl CKs.Book (psOf b0 b1 g), .ow (hdOf g), .va (.int w), .va (.list (rs.map keptD)), .no, .no, .no, .no, .no, .no, .no]) ?_ (by walk_at "Le")
  refine x_seq (x_for (fun i => [.va (frz ns), .bl CKs.Book (psOf b0 b1 g), .ow (hdOf g), .va (.int w), .va (.list (rs.map keptD)), .no, .no, .no, .no, .no, .no, .no]) (i_list (e_var rfl)) (by walk_at "Le") fun i d hd => ?_) ?_
  · rw [List.getElem?_map] at hd
    obtain ⟨js, hjs, rfl⟩ := Option.map_eq_some_iff.mp hd
    refine ⟨_, [.va (frz ns), .bl CKs.Book (psOf b0 b1 g), .ow (hdOf g), .va (.int w), .va (.list (rs.map keptD)), .no, .no, .va (keptP js), .no, .no, .no, .va (keptP js)], [.va (frz ns), .bl CKs.Book (psOf b0 b1 g), .ow (hdOf g), .va (.int w), .va (.list (rs.map keptD)), .no, .no, .va (keptP js), .no, .no, .no, .va (keptP js)], g_tup (gs_cons g_name (gs_cons g_name gs_nil)) rfl, .inl ?_, by walk_at "Le"⟩
    exact x_if (b := false) (Et.to (t_test (e_ne (e_var rfl).b (e_var rfl).b (shaped_kept _) (shaped_kept _))) (by rw [SeqAt.eqv_refl _ (SeqAt.canLay_of_shaped (shaped_kept _))]; rfl)) (fun h => nomatch h) (fun _ => x_next)
  exact x_ret ((e_eq (n_methP (er_ix (i := 1) rfl (by walk_at "Eb") pat) (has_list (i := 1) rfl pat) (R_listed jh.len) hm_listed).b (e_ixL (e_own rfl) (by walk_at "Eb") hat) (shaped_jobs _) (shaped_jobs _)).to (by rw [eqv_jobs, decide_eq_true rfl]))
end
theorem all_mk {l : PySem.W.OpenLaw} {w : World} {K : PySem.W.Frag} {h : Heap} {mg : Str → Option Value} {fa f0 f1 f2 f3 f4 f5 f6 f7 f8 f9 f10 f11 f12 f13 f14 f15 f16 f17 f18 f19 f20 f21 f22 f23 f24 f25 f26 f27 f28 : Addr} (X : K.In h) (G : h.Ns mainGlobals mg) (hfa : mg "law" = some (.ref fa))
    {od0 an0 od1 an1 od2 an2 od3 an3 od4 an4 od5 an5 od6 an6 od7 an7 od8 an8 od9 an9 od10 an10 od11 an11 od12 an12 od13 an13 od14 an14 od15 an15 od16 an16 od17 an17 od18 an18 od19 an19 od20 an20 od21 an21 od22 an22 od23 an23 od24 an24 od25 an25 od26 an26 od27 an27 od28 an28 : Option Addr}
    {sl0 sl1 sl2 sl3 sl4 sl5 sl6 sl7 sl8 sl9 sl10 sl11 sl12 sl13 sl14 sl15 sl16 sl17 sl18 sl19 sl20 sl21 sl22 sl23 sl24 sl25 sl26 sl27 sl28 : Array (Option Value)}
    {oc0 kV0 dc0 pm0 cd0 ct0 oc1 kV1 dc1 pm1 cd1 ct1 oc2 kV2 dc2 pm2 cd2 ct2 oc3 kV3 dc3 pm3 cd3 ct3 oc4 kV4 dc4 pm4 cd4 ct4 oc5 kV5 dc5 pm5 cd5 ct5 oc6 kV6 dc6 pm6 cd6 ct6 oc7 kV7 dc7 pm7 cd7 ct7 oc8 kV8 dc8 pm8 cd8 ct8 oc9 kV9 dc9 pm9 cd9 ct9 oc10 kV10 dc10 pm10 cd10 ct10 oc11 kV11 dc11 pm11 cd11 ct11 oc12 kV12 dc12 pm12 cd12 ct12 oc13 kV13 dc13 pm13 cd13 ct13 oc14 kV14 dc14 pm14 cd14 ct14 oc15 kV15 dc15 pm15 cd15 ct15 oc16 kV16 dc16 pm16 cd16 ct16 oc17 kV17 dc17 pm17 cd17 ct17 oc18 kV18 dc18 pm18 cd18 ct18 oc19 kV19 dc19 pm19 cd19 ct19 oc20 kV20 dc20 pm20 cd20 ct20 oc21 kV21 dc21 pm21 cd21 ct21 oc22 kV22 dc22 pm22 cd22 ct22 oc23 kV23 dc23 pm23 cd23 ct23 oc24 kV24 dc24 pm24 cd24 ct24 oc25 kV25 dc25 pm25 cd25 ct25 oc26 kV26 dc26 pm26 cd26 ct26 oc27 kV27 dc27 pm27 cd27 ct27 oc28 kV28 dc28 pm28 cd28 ct28 : Value}
    {C : Addr} (aC : PySem.W.nsIn K mainGlobals "Book" = some (some (.ref C))) (pg : PySem.W.plainGet K C Str.empty = true) (hd : PySem.W.hasDictIn K C = true) (po : PySem.W.plainOver K C = true) (sa : PySem.W.findIn K (.ref C) "__setattr__" = some (some (.builtin "object.__setattr__"))) (mkC : PySem.W.makesIn K C = true) (kc : PySem.W.keepIn K (.ref C) = true) (nH : PySem.W.findIn K (.ref C) "held" = some none)
    (a0 : PySem.W.nsIn K mainGlobals "whole" = some (some (.ref f0))) (l0 : K.lookup f0 = some ⟨oc0, od0, .func (PySem.W.fnOf "whole" "whole" (defArgs s_whole) (defBody s_whole) (defScope s_whole) .none kV0 dc0 pm0 an0 cd0 ct0), sl0⟩) (c0 : PySem.W.codeIn K cd0 "whole" = true) (k0 : PySem.W.keepIn K (.ref f0) = true)
    (a1 : PySem.W.nsIn K mainGlobals "sound" = some (some (.ref f1))) (l1 : K.lookup f1 = some ⟨oc1, od1, .func (PySem.W.fnOf "sound" "sound" (defArgs s_sound) (defBody s_sound) (defScope s_sound) .none kV1 dc1 pm1 an1 cd1 ct1), sl1⟩) (c1 : PySem.W.codeIn K cd1 "sound" = true) (k1 : PySem.W.keepIn K (.ref f1) = true)
    (a2 : PySem.W.nsIn K mainGlobals "looked" = some (some (.ref f2))) (l2 : K.lookup f2 = some ⟨oc2, od2, .func (PySem.W.fnOf "looked" "looked" (defArgs s_looked) (defBody s_looked) (defScope s_looked) .none kV2 dc2 pm2 an2 cd2 ct2), sl2⟩) (c2 : PySem.W.codeIn K cd2 "looked" = true) (k2 : PySem.W.keepIn K (.ref f2) = true)
    (a3 : PySem.W.nsIn K mainGlobals "nearest" = some (some (.ref f3))) (l3 : K.lookup f3 = some ⟨oc3, od3, .func (PySem.W.fnOf "nearest" "nearest" (defArgs s_nearest) (defBody s_nearest) (defScope s_nearest) .none kV3 dc3 pm3 an3 cd3 ct3), sl3⟩) (c3 : PySem.W.codeIn K cd3 "nearest" = true) (k3 : PySem.W.keepIn K (.ref f3) = true)
    (a4 : PySem.W.nsIn K mainGlobals "upcoming" = some (some (.ref f4))) (l4 : K.lookup f4 = some ⟨oc4, od4, .func (PySem.W.fnOf "upcoming" "upcoming" (defArgs s_upcoming) (defBody s_upcoming) (defScope s_upcoming) .none kV4 dc4 pm4 an4 cd4 ct4), sl4⟩) (c4 : PySem.W.codeIn K cd4 "upcoming" = true) (k4 : PySem.W.keepIn K (.ref f4) = true)
    (a5 : PySem.W.nsIn K mainGlobals "joined" = some (some (.ref f5))) (l5 : K.lookup f5 = some ⟨oc5, od5, .func (PySem.W.fnOf "joined" "joined" (defArgs s_joined) (defBody s_joined) (defScope s_joined) .none kV5 dc5 pm5 an5 cd5 ct5), sl5⟩) (c5 : PySem.W.codeIn K cd5 "joined" = true) (k5 : PySem.W.keepIn K (.ref f5) = true)
    (a6 : PySem.W.nsIn K mainGlobals "worked" = some (some (.ref f6))) (l6 : K.lookup f6 = some ⟨oc6, od6, .func (PySem.W.fnOf "worked" "worked" (defArgs s_worked) (defBody s_worked) (defScope s_worked) .none kV6 dc6 pm6 an6 cd6 ct6), sl6⟩) (c6 : PySem.W.codeIn K cd6 "worked" = true) (k6 : PySem.W.keepIn K (.ref f6) = true)
    (a7 : PySem.W.nsIn K mainGlobals "last_ends" = some (some (.ref f7))) (l7 : K.lookup f7 = some ⟨oc7, od7, .func (PySem.W.fnOf "last_ends" "last_ends" (defArgs s_last_ends) (defBody s_last_ends) (defScope s_last_ends) .none kV7 dc7 pm7 an7 cd7 ct7), sl7⟩) (c7 : PySem.W.codeIn K cd7 "last_ends" = true) (k7 : PySem.W.keepIn K (.ref f7) = true)
    (a8 : PySem.W.nsIn K mainGlobals "ends" = some (some (.ref f8))) (l8 : K.lookup f8 = some ⟨oc8, od8, .func (PySem.W.fnOf "ends" "ends" (defArgs s_ends) (defBody s_ends) (defScope s_ends) .none kV8 dc8 pm8 an8 cd8 ct8), sl8⟩) (c8 : PySem.W.codeIn K cd8 "ends" = true) (k8 : PySem.W.keepIn K (.ref f8) = true)
    (a9 : PySem.W.nsIn K mainGlobals "late" = some (some (.ref f9))) (l9 : K.lookup f9 = some ⟨oc9, od9, .func (PySem.W.fnOf "late" "late" (defArgs s_late) (defBody s_late) (defScope s_late) .none kV9 dc9 pm9 an9 cd9 ct9), sl9⟩) (c9 : PySem.W.codeIn K cd9 "late" = true) (k9 : PySem.W.keepIn K (.ref f9) = true)
    (a10 : PySem.W.nsIn K mainGlobals "crowded" = some (some (.ref f10))) (l10 : K.lookup f10 = some ⟨oc10, od10, .func (PySem.W.fnOf "crowded" "crowded" (defArgs s_crowded) (defBody s_crowded) (defScope s_crowded) .none kV10 dc10 pm10 an10 cd10 ct10), sl10⟩) (c10 : PySem.W.codeIn K cd10 "crowded" = true) (k10 : PySem.W.keepIn K (.ref f10) = true)
    (a11 : PySem.W.nsIn K mainGlobals "answer" = some (some (.ref f11))) (l11 : K.lookup f11 = some ⟨oc11, od11, .func (PySem.W.fnOf "answer" "answer" (defArgs s_answer) (defBody s_answer) (defScope s_answer) .none kV11 dc11 pm11 an11 cd11 ct11), sl11⟩) (c11 : PySem.W.codeIn K cd11 "answer" = true) (k11 : PySem.W.keepIn K (.ref f11) = true)
    (a12 : PySem.W.findIn K (.ref C) "take" = some (some (.ref f12))) (l12 : K.lookup f12 = some ⟨oc12, od12, .func (PySem.W.fnOf "take" "Book.take" (defArgs s_Book_take) (defBody s_Book_take) (defScope s_Book_take) .none kV12 dc12 pm12 an12 cd12 ct12), sl12⟩) (c12 : PySem.W.codeIn K cd12 "Book.take" = true) (k12 : PySem.W.keepIn K (.ref f12) = true) (i12 : PySem.W.isFn K (.ref f12) = true)
    (a13 : PySem.W.nsIn K mainGlobals "_law_load" = some (some (.ref f13))) (l13 : K.lookup f13 = some ⟨oc13, od13, .func (PySem.W.fnOf "_law_load" "_law_load" (defArgs s_L_load) (defBody s_L_load) (defScope s_L_load) .none kV13 dc13 pm13 an13 cd13 ct13), sl13⟩) (c13 : PySem.W.codeIn K cd13 "_law_load" = true) (k13 : PySem.W.keepIn K (.ref f13) = true)
    (a14 : PySem.W.nsIn K mainGlobals "_law_whole" = some (some (.ref f14))) (l14 : K.lookup f14 = some ⟨oc14, od14, .func (PySem.W.fnOf "_law_whole" "_law_whole" (defArgs s_L_whole) (defBody s_L_whole) (defScope s_L_whole) .none kV14 dc14 pm14 an14 cd14 ct14), sl14⟩) (c14 : PySem.W.codeIn K cd14 "_law_whole" = true) (k14 : PySem.W.keepIn K (.ref f14) = true)
    (a15 : PySem.W.nsIn K mainGlobals "_law_crowded" = some (some (.ref f15))) (l15 : K.lookup f15 = some ⟨oc15, od15, .func (PySem.W.fnOf "_law_crowded" "_law_crowded" (defArgs s_L_crowded) (defBody s_L_crowded) (defScope s_L_crowded) .none kV15 dc15 pm15 an15 cd15 ct15), sl15⟩) (c15 : PySem.W.codeIn K cd15 "_law_crowded" = true) (k15 : PySem.W.keepIn K (.ref f15) = true)
    (a16 : PySem.W.nsIn K mainGlobals "_law_taken" = some (some (.ref f16))) (l16 : K.lookup f16 = some ⟨oc16, od16, .func (PySem.W.fnOf "_law_taken" "_law_taken" (defArgs s_L_taken) (defBody s_L_taken) (defScope s_L_taken) .none kV16 dc16 pm16 an16 cd16 ct16), sl16⟩) (c16 : PySem.W.codeIn K cd16 "_law_taken" = true) (k16 : PySem.W.keepIn K (.ref f16) = true)
    (a17 : PySem.W.nsIn K mainGlobals "_law_triple" = some (some (.ref f17))) (l17 : K.lookup f17 = some ⟨oc17, od17, .func (PySem.W.fnOf "_law_triple" "_law_triple" (defArgs s_L_triple) (defBody s_L_triple) (defScope s_L_triple) .none kV17 dc17 pm17 an17 cd17 ct17), sl17⟩) (c17 : PySem.W.codeIn K cd17 "_law_triple" = true) (k17 : PySem.W.keepIn K (.ref f17) = true)
    (a18 : PySem.W.nsIn K mainGlobals "_law_meets" = some (some (.ref f18))) (l18 : K.lookup f18 = some ⟨oc18, od18, .func (PySem.W.fnOf "_law_meets" "_law_meets" (defArgs s_L_meets) (defBody s_L_meets) (defScope s_L_meets) .none kV18 dc18 pm18 an18 cd18 ct18), sl18⟩) (c18 : PySem.W.codeIn K cd18 "_law_meets" = true) (k18 : PySem.W.keepIn K (.ref f18) = true)
    (a19 : PySem.W.findIn K (.ref C) "listed" = some (some (.ref f19))) (l19 : K.lookup f19 = some ⟨oc19, od19, .func (PySem.W.fnOf "listed" "Book.listed" (defArgs s_Book_listed) (defBody s_Book_listed) (defScope s_Book_listed) .none kV19 dc19 pm19 an19 cd19 ct19), sl19⟩) (c19 : PySem.W.codeIn K cd19 "Book.listed" = true) (k19 : PySem.W.keepIn K (.ref f19) = true) (i19 : PySem.W.isFn K (.ref f19) = true)
    (a20 : PySem.W.nsIn K mainGlobals "run" = some (some (.ref f20))) (l20 : K.lookup f20 = some ⟨oc20, od20, .func (PySem.W.fnOf "run" "run" (defArgs s_run) (defBody s_run) (defScope s_run) .none kV20 dc20 pm20 an20 cd20 ct20), sl20⟩) (c20 : PySem.W.codeIn K cd20 "run" = true) (k20 : PySem.W.keepIn K (.ref f20) = true)
    (a21 : PySem.W.findIn K (.ref C) "plan" = some (some (.ref f21))) (l21 : K.lookup f21 = some ⟨oc21, od21, .func (PySem.W.fnOf "plan" "Book.plan" (defArgs s_Book_plan) (defBody s_Book_plan) (defScope s_Book_plan) .none kV21 dc21 pm21 an21 cd21 ct21), sl21⟩) (c21 : PySem.W.codeIn K cd21 "Book.plan" = true) (k21 : PySem.W.keepIn K (.ref f21) = true) (i21 : PySem.W.isFn K (.ref f21) = true)
    (a22 : PySem.W.findIn K (.ref C) "drop" = some (some (.ref f22))) (l22 : K.lookup f22 = some ⟨oc22, od22, .func (PySem.W.fnOf "drop" "Book.drop" (defArgs s_Book_drop) (defBody s_Book_drop) (defScope s_Book_drop) .none kV22 dc22 pm22 an22 cd22 ct22), sl22⟩) (c22 : PySem.W.codeIn K cd22 "Book.drop" = true) (k22 : PySem.W.keepIn K (.ref f22) = true) (i22 : PySem.W.isFn K (.ref f22) = true)
    (a23 : PySem.W.nsIn K mainGlobals "_law_many" = some (some (.ref f23))) (l23 : K.lookup f23 = some ⟨oc23, od23, .func (PySem.W.fnOf "_law_many" "_law_many" (defArgs s_L_many) (defBody s_L_many) (defScope s_L_many) .none kV23 dc23 pm23 an23 cd23 ct23), sl23⟩) (c23 : PySem.W.codeIn K cd23 "_law_many" = true) (k23 : PySem.W.keepIn K (.ref f23) = true)
    (a24 : PySem.W.findIn K (.ref C) "__init__" = some (some (.ref f24))) (l24 : K.lookup f24 = some ⟨oc24, od24, .func (PySem.W.fnOf "__init__" "Book.__init__" (defArgs s_Book_init) (defBody s_Book_init) (defScope s_Book_init) .none kV24 dc24 pm24 an24 cd24 ct24), sl24⟩) (c24 : PySem.W.codeIn K cd24 "Book.__init__" = true) (k24 : PySem.W.keepIn K (.ref f24) = true) (i24 : PySem.W.isFn K (.ref f24) = true)
    (a25 : PySem.W.nsIn K mainGlobals "_law_full" = some (some (.ref f25))) (l25 : K.lookup f25 = some ⟨oc25, od25, .func (PySem.W.fnOf "_law_full" "_law_full" (defArgs s_L_full) (defBody s_L_full) (defScope s_L_full) .none kV25 dc25 pm25 an25 cd25 ct25), sl25⟩) (c25 : PySem.W.codeIn K cd25 "_law_full" = true) (k25 : PySem.W.keepIn K (.ref f25) = true)
    (a26 : PySem.W.nsIn K mainGlobals "_law_deed" = some (some (.ref f26))) (l26 : K.lookup f26 = some ⟨oc26, od26, .func (PySem.W.fnOf "_law_deed" "_law_deed" (defArgs s_L_deed) (defBody s_L_deed) (defScope s_L_deed) .none kV26 dc26 pm26 an26 cd26 ct26), sl26⟩) (c26 : PySem.W.codeIn K cd26 "_law_deed" = true) (k26 : PySem.W.keepIn K (.ref f26) = true)
    (a27 : PySem.W.nsIn K mainGlobals "_law_cell_at" = some (some (.ref f27))) (l27 : K.lookup f27 = some ⟨oc27, od27, .func (PySem.W.fnOf "_law_cell_at" "_law_cell_at" (defArgs s_L_cell_at) (defBody s_L_cell_at) (defScope s_L_cell_at) .none kV27 dc27 pm27 an27 cd27 ct27), sl27⟩) (c27 : PySem.W.codeIn K cd27 "_law_cell_at" = true) (k27 : PySem.W.keepIn K (.ref f27) = true)
    (a28 : PySem.W.nsIn K mainGlobals "law" = some (some (.ref f28))) (l28 : K.lookup f28 = some ⟨oc28, od28, .func (PySem.W.fnOf "law" "law" (defArgs s_law) (defBody s_law) (defScope s_law) .none kV28 dc28 pm28 an28 cd28 ct28), sl28⟩) (c28 : PySem.W.codeIn K cd28 "law" = true) (k28 : PySem.W.keepIn K (.ref f28) = true)
    (z_isinstance : PySem.W.nsIn K mainGlobals "isinstance" = some none)
    (z_bool : PySem.W.nsIn K mainGlobals "bool" = some none)
    (z_int : PySem.W.nsIn K mainGlobals "int" = some none)
    (z_len : PySem.W.nsIn K mainGlobals "len" = some none)
    (z_tuple : PySem.W.nsIn K mainGlobals "tuple" = some none)
    (z_enumerate : PySem.W.nsIn K mainGlobals "enumerate" = some none)
    (z_max : PySem.W.nsIn K mainGlobals "max" = some none)
    (z_range : PySem.W.nsIn K mainGlobals "range" = some none)
    (z_sorted : PySem.W.nsIn K mainGlobals "sorted" = some none)
    (z_sum : PySem.W.nsIn K mainGlobals "sum" = some none)
    (z_list : PySem.W.nsIn K mainGlobals "list" = some none)
    {t_LIMIT : Tok} (y_LIMIT : PySem.W.nsIn K mainGlobals "LIMIT" = some (some (.int 60 t_LIMIT)))
    {qBadJob : Addr} (qa_BadJob : PySem.W.nsIn K mainGlobals "BadJob" = some (some (.ref qBadJob))) (qx_BadJob : PySem.W.excIn K qBadJob [.type "ValueError", .type "Exception", .type "BaseException", .type "object"] "ValueError.__new__" = true) (qk_BadJob : PySem.W.keepIn K (.ref qBadJob) = true) (qb_BadJob : PySem.W.subIn K (.ref qBadJob) (.type "BaseException") = some true) (qt_BadJob : PySem.W.typeIn K (.ref qBadJob) = some (.type "type")) (qi_BadJob : PySem.W.isClsIn K qBadJob = true)
    {qTooMany : Addr} (qa_TooMany : PySem.W.nsIn K mainGlobals "TooMany" = some (some (.ref qTooMany))) (qx_TooMany : PySem.W.excIn K qTooMany [.type "ValueError", .type "Exception", .type "BaseException", .type "object"] "ValueError.__new__" = true) (qk_TooMany : PySem.W.keepIn K (.ref qTooMany) = true) (qb_TooMany : PySem.W.subIn K (.ref qTooMany) (.type "BaseException") = some true) (qt_TooMany : PySem.W.typeIn K (.ref qTooMany) = some (.type "type")) (qi_TooMany : PySem.W.isClsIn K qTooMany = true)
    {qOutOfPlace : Addr} (qa_OutOfPlace : PySem.W.nsIn K mainGlobals "OutOfPlace" = some (some (.ref qOutOfPlace))) (qx_OutOfPlace : PySem.W.excIn K qOutOfPlace [.type "ValueError", .type "Exception", .type "BaseException", .type "object"] "ValueError.__new__" = true) (qk_OutOfPlace : PySem.W.keepIn K (.ref qOutOfPlace) = true) (qb_OutOfPlace : PySem.W.subIn K (.ref qOutOfPlace) (.type "BaseException") = some true) (qt_OutOfPlace : PySem.W.typeIn K (.ref qOutOfPlace) = some (.type "type")) (qi_OutOfPlace : PySem.W.isClsIn K qOutOfPlace = true)
    {qRunError : Addr} (qa_RunError : PySem.W.nsIn K mainGlobals "RunError" = some (some (.ref qRunError))) (qx_RunError : PySem.W.excIn K qRunError [.type "ValueError", .type "Exception", .type "BaseException", .type "object"] "ValueError.__new__" = true) (qk_RunError : PySem.W.keepIn K (.ref qRunError) = true) (qb_RunError : PySem.W.subIn K (.ref qRunError) (.type "BaseException") = some true) (qt_RunError : PySem.W.typeIn K (.ref qRunError) = some (.type "type")) (qi_RunError : PySem.W.isClsIn K qRunError = true)
    {qNoRow : Addr} (qa_NoRow : PySem.W.nsIn K mainGlobals "NoRow" = some (some (.ref qNoRow))) (qx_NoRow : PySem.W.excIn K qNoRow [.type "ValueError", .type "Exception", .type "BaseException", .type "object"] "ValueError.__new__" = true) (qk_NoRow : PySem.W.keepIn K (.ref qNoRow) = true) (qb_NoRow : PySem.W.subIn K (.ref qNoRow) (.type "BaseException") = some true) (qt_NoRow : PySem.W.typeIn K (.ref qNoRow) = some (.type "type")) (qi_NoRow : PySem.W.isClsIn K qNoRow = true)
    (qs_BadJob_BadJob : PySem.W.subIn K (.ref qBadJob) (.ref qBadJob) = some true)
    (qs_TooMany_BadJob : PySem.W.subIn K (.ref qTooMany) (.ref qBadJob) = some false)
    (qs_OutOfPlace_BadJob : PySem.W.subIn K (.ref qOutOfPlace) (.ref qBadJob) = some false)
    (qs_BadJob_TooMany : PySem.W.subIn K (.ref qBadJob) (.ref qTooMany) = some false)
    (qs_TooMany_TooMany : PySem.W.subIn K (.ref qTooMany) (.ref qTooMany) = some true)
    (qs_OutOfPlace_TooMany : PySem.W.subIn K (.ref qOutOfPlace) (.ref qTooMany) = some false)
    (qs_BadJob_RunError : PySem.W.subIn K (.ref qBadJob) (.ref qRunError) = some true)
    (qs_TooMany_RunError : PySem.W.subIn K (.ref qTooMany) (.ref qRunError) = some true)
    (qs_OutOfPlace_RunError : PySem.W.subIn K (.ref qOutOfPlace) (.ref qRunError) = some true)
    (r1_BadJob : PySem.W.findIn K (.ref qBadJob) "__getattribute__" = some (some (.builtin "BaseException.__getattribute__"))) (r2_BadJob : PySem.W.findIn K (.ref qBadJob) "__getattr__" = some none) (r3_BadJob : PySem.W.hasDictIn K qBadJob = true) (r4_BadJob : PySem.W.findIn K (.ref qBadJob) "__class__" = some (some (.builtin "object.__class__"))) (r5_BadJob : PySem.W.mroIn K qBadJob (.type "object") = some true)
    (r1_TooMany : PySem.W.findIn K (.ref qTooMany) "__getattribute__" = some (some (.builtin "BaseException.__getattribute__"))) (r2_TooMany : PySem.W.findIn K (.ref qTooMany) "__getattr__" = some none) (r3_TooMany : PySem.W.hasDictIn K qTooMany = true) (r4_TooMany : PySem.W.findIn K (.ref qTooMany) "__class__" = some (some (.builtin "object.__class__"))) (r5_TooMany : PySem.W.mroIn K qTooMany (.type "object") = some true)
    (r1_OutOfPlace : PySem.W.findIn K (.ref qOutOfPlace) "__getattribute__" = some (some (.builtin "BaseException.__getattribute__"))) (r2_OutOfPlace : PySem.W.findIn K (.ref qOutOfPlace) "__getattr__" = some none) (r3_OutOfPlace : PySem.W.hasDictIn K qOutOfPlace = true) (r4_OutOfPlace : PySem.W.findIn K (.ref qOutOfPlace) "__class__" = some (some (.builtin "object.__class__"))) (r5_OutOfPlace : PySem.W.mroIn K qOutOfPlace (.type "object") = some true)
    (r6 : PySem.W.specialIn K (.builtin "object.__class__") "__get__" = some (some (.builtin "getset_descriptor.__get__"))) (r7 : PySem.W.takesIn K (.builtin "object.__class__") = some true)
    (kt_BadJob_TooMany : PySem.W.kitOne K (.ref qBadJob) (.ref qTooMany) = some false)
    (kt_TooMany_TooMany : PySem.W.kitOne K (.ref qTooMany) (.ref qTooMany) = some true)
    (kt_OutOfPlace_TooMany : PySem.W.kitOne K (.ref qOutOfPlace) (.ref qTooMany) = some false)
    (kt_BadJob_NoRow : PySem.W.kitOne K (.ref qBadJob) (.ref qNoRow) = some false)
    (kt_TooMany_NoRow : PySem.W.kitOne K (.ref qTooMany) (.ref qNoRow) = some false)
    (kt_OutOfPlace_NoRow : PySem.W.kitOne K (.ref qOutOfPlace) (.ref qNoRow) = some false)
    (kt_BadJob_BadJob : PySem.W.kitOne K (.ref qBadJob) (.ref qBadJob) = some true)
    (kt_TooMany_BadJob : PySem.W.kitOne K (.ref qTooMany) (.ref qBadJob) = some false)
    (kt_OutOfPlace_BadJob : PySem.W.kitOne K (.ref qOutOfPlace) (.ref qBadJob) = some false)
    (kt_BadJob_OutOfPlace : PySem.W.kitOne K (.ref qBadJob) (.ref qOutOfPlace) = some false)
    (kt_TooMany_OutOfPlace : PySem.W.kitOne K (.ref qTooMany) (.ref qOutOfPlace) = some false)
    (kt_OutOfPlace_OutOfPlace : PySem.W.kitOne K (.ref qOutOfPlace) (.ref qOutOfPlace) = some true)
    : ∃ fd : FuncData, (∀ (s : Shared) (v : Value), BindsTo s fd ⟨[v], []⟩ [("_law_script", v)]) ∧ ∀ base : Heap, K.In base → base.Ns mainGlobals mg → FnOk l.prog w K mg base CX0 10 fa fd ["_law_script"] (spLaw K) := by
  have e := hfa.symm.trans (PySem.W.mg_of X G a28)
  cases e
  refine ⟨PySem.W.fnOf "law" "law" (defArgs s_law) (defBody s_law) (defScope s_law) .none kV28 dc28 pm28 an28 cd28 ct28, fun s v => .of_eq rfl, fun base _ _ => ?_⟩
  letI : EK := ⟨qRunError, qBadJob, qTooMany, qOutOfPlace, qNoRow⟩
  letI : CKs := ⟨C⟩
  have cl : Cls K CKs.Book := ⟨pg, hd, po, sa⟩
  have gB : mg "Book" = some (.ref CKs.Book) := PySem.W.mg_of X G aC
  have e_BadJob : ExF K mg "BadJob" EK.BadJob := ⟨PySem.W.mg_of X G qa_BadJob, qx_BadJob, qk_BadJob, qb_BadJob, qt_BadJob⟩
  have e_TooMany : ExF K mg "TooMany" EK.TooMany := ⟨PySem.W.mg_of X G qa_TooMany, qx_TooMany, qk_TooMany, qb_TooMany, qt_TooMany⟩
  have e_OutOfPlace : ExF K mg "OutOfPlace" EK.OutOfPlace := ⟨PySem.W.mg_of X G qa_OutOfPlace, qx_OutOfPlace, qk_OutOfPlace, qb_OutOfPlace, qt_OutOfPlace⟩
  have e_RunError : ExF K mg "RunError" EK.RunError := ⟨PySem.W.mg_of X G qa_RunError, qx_RunError, qk_RunError, qb_RunError, qt_RunError⟩
  have e_NoRow : ExF K mg "NoRow" EK.NoRow := ⟨PySem.W.mg_of X G qa_NoRow, qx_NoRow, qk_NoRow, qb_NoRow, qt_NoRow⟩
  have xm_BadJob_BadJob : PySem.W.exmOne K (.ref EK.BadJob) (.ref EK.BadJob) = some true := exm_of qb_BadJob qi_BadJob qt_BadJob qs_BadJob_BadJob
  have xm_TooMany_BadJob : PySem.W.exmOne K (.ref EK.TooMany) (.ref EK.BadJob) = some false := exm_of qb_BadJob qi_BadJob qt_BadJob qs_TooMany_BadJob
  have xm_OutOfPlace_BadJob : PySem.W.exmOne K (.ref EK.OutOfPlace) (.ref EK.BadJob) = some false := exm_of qb_BadJob qi_BadJob qt_BadJob qs_OutOfPlace_BadJob
  have xm_BadJob_TooMany : PySem.W.exmOne K (.ref EK.BadJob) (.ref EK.TooMany) = some false := exm_of qb_TooMany qi_TooMany qt_TooMany qs_BadJob_TooMany
  have xm_TooMany_TooMany : PySem.W.exmOne K (.ref EK.TooMany) (.ref EK.TooMany) = some true := exm_of qb_TooMany qi_TooMany qt_TooMany qs_TooMany_TooMany
  have xm_OutOfPlace_TooMany : PySem.W.exmOne K (.ref EK.OutOfPlace) (.ref EK.TooMany) = some false := exm_of qb_TooMany qi_TooMany qt_TooMany qs_OutOfPlace_TooMany
  have xm_BadJob_RunError : PySem.W.exmOne K (.ref EK.BadJob) (.ref EK.RunError) = some true := exm_of qb_RunError qi_RunError qt_RunError qs_BadJob_RunError
  have xm_TooMany_RunError : PySem.W.exmOne K (.ref EK.TooMany) (.ref EK.RunError) = some true := exm_of qb_RunError qi_RunError qt_RunError qs_TooMany_RunError
  have xm_OutOfPlace_RunError : PySem.W.exmOne K (.ref EK.OutOfPlace) (.ref EK.RunError) = some true := exm_of qb_RunError qi_RunError qt_RunError qs_OutOfPlace_RunError
  have ec_BadJob : ExcC K EK.BadJob := ⟨r1_BadJob, r2_BadJob, qb_BadJob, r3_BadJob, r4_BadJob, r6, r7, r5_BadJob⟩
  have ec_TooMany : ExcC K EK.TooMany := ⟨r1_TooMany, r2_TooMany, qb_TooMany, r3_TooMany, r4_TooMany, r6, r7, r5_TooMany⟩
  have ec_OutOfPlace : ExcC K EK.OutOfPlace := ⟨r1_OutOfPlace, r2_OutOfPlace, qb_OutOfPlace, r3_OutOfPlace, r4_OutOfPlace, r6, r7, r5_OutOfPlace⟩
  have b_isinstance := PySem.W.mg_none_of X G z_isinstance
  have b_bool := PySem.W.mg_none_of X G z_bool
  have b_int := PySem.W.mg_none_of X G z_int
  have b_len := PySem.W.mg_none_of X G z_len
  have b_tuple := PySem.W.mg_none_of X G z_tuple
  have b_enumerate := PySem.W.mg_none_of X G z_enumerate
  have b_max := PySem.W.mg_none_of X G z_max
  have b_range := PySem.W.mg_none_of X G z_range
  have b_sorted := PySem.W.mg_none_of X G z_sorted
  have b_sum := PySem.W.mg_none_of X G z_sum
  have b_list := PySem.W.mg_none_of X G z_list
  have m_LIMIT := PySem.W.mg_of X G y_LIMIT
  have c_whole := ok_whole (P := l.prog) (w := w) (base := base) (fun_mk (st := s_whole) l0 c0 k0) (PySem.W.mg_of X G a0) b_isinstance b_bool b_int
  have c_sound := ok_sound (P := l.prog) (w := w) (base := base) (fun_mk (st := s_sound) l1 c1 k1) (PySem.W.mg_of X G a1) b_len b_isinstance b_tuple c_whole
  have c_looked := ok_looked (P := l.prog) (w := w) (base := base) (fun_mk (st := s_looked) l2 c2 k2) (PySem.W.mg_of X G a2) b_len m_LIMIT c_sound
  have c_nearest := ok_nearest (P := l.prog) (w := w) (base := base) (fun_mk (st := s_nearest) l3 c3 k3) (PySem.W.mg_of X G a3) b_enumerate
  have c_upcoming := ok_upcoming (P := l.prog) (w := w) (base := base) (fun_mk (st := s_upcoming) l4 c4 k4) (PySem.W.mg_of X G a4)
  have c_joined := ok_joined (P := l.prog) (w := w) (base := base) (fun_mk (st := s_joined) l5 c5 k5) (PySem.W.mg_of X G a5)
  have c_worked := ok_worked (P := l.prog) (w := w) (base := base) (fun_mk (st := s_worked) l6 c6 k6) (PySem.W.mg_of X G a6) b_max c_nearest c_upcoming c_joined
  have c_last_ends := ok_last_ends (P := l.prog) (w := w) (base := base) (fun_mk (st := s_last_ends) l7 c7 k7) (PySem.W.mg_of X G a7) b_len
  have c_ends := ok_ends (P := l.prog) (w := w) (base := base) (fun_mk (st := s_ends) l8 c8 k8) (PySem.W.mg_of X G a8) c_last_ends c_worked c_looked
  have c_late := ok_late (P := l.prog) (w := w) (base := base) (fun_mk (st := s_late) l9 c9 k9) (PySem.W.mg_of X G a9) b_range b_len b_sorted c_ends
  have c_crowded := ok_crowded (P := l.prog) (w := w) (base := base) (fun_mk (st := s_crowded) l10 c10 k10) (PySem.W.mg_of X G a10)
  have c_answer := ok_answer (P := l.prog) (w := w) (base := base) (fun_mk (st := s_answer) l11 c11 k11) (PySem.W.mg_of X G a11) c_looked c_worked c_late c_crowded
  have h_take := ok_Book_take (P := l.prog) (w := w) (base := base) (fun_mk (st := s_Book_take) l12 c12 k12) ⟨a12, i12, k12⟩ b_len m_LIMIT e_BadJob e_TooMany c_sound c_answer cl nH
  have c_L_load := ok_L_load (P := l.prog) (w := w) (base := base) (fun_mk (st := s_L_load) l13 c13 k13) (PySem.W.mg_of X G a13) b_sum
  have c_L_whole := ok_L_whole (P := l.prog) (w := w) (base := base) (fun_mk (st := s_L_whole) l14 c14 k14) (PySem.W.mg_of X G a14) b_isinstance b_bool b_int
  have c_L_crowded := ok_L_crowded (P := l.prog) (w := w) (base := base) (fun_mk (st := s_L_crowded) l15 c15 k15) (PySem.W.mg_of X G a15) b_len c_L_whole c_L_load
  have c_L_taken := ok_L_taken (P := l.prog) (w := w) (base := base) (fun_mk (st := s_L_taken) l16 c16 k16) (PySem.W.mg_of X G a16) b_len b_isinstance b_tuple c_answer c_L_crowded cl nH h_take
  have c_L_triple := ok_L_triple (P := l.prog) (w := w) (base := base) (fun_mk (st := s_L_triple) l17 c17 k17) (PySem.W.mg_of X G a17) b_len b_isinstance b_tuple c_L_whole
  have c_L_meets := ok_L_meets (P := l.prog) (w := w) (base := base) (fun_mk (st := s_L_meets) l18 c18 k18) (PySem.W.mg_of X G a18) b_isinstance b_list b_len c_L_triple
  have h_listed := ok_Book_listed (P := l.prog) (w := w) (base := base) (fun_mk (st := s_Book_listed) l19 c19 k19) ⟨a19, i19, k19⟩ b_list cl nH
  have c_run := ok_run (P := l.prog) (w := w) (base := base) (fun_mk (st := s_run) l20 c20 k20) (PySem.W.mg_of X G a20) c_worked c_looked
  have h_plan := ok_Book_plan (P := l.prog) (w := w) (base := base) (fun_mk (st := s_Book_plan) l21 c21 k21) ⟨a21, i21, k21⟩ c_run cl nH
  have h_drop := ok_Book_drop (P := l.prog) (w := w) (base := base) (fun_mk (st := s_Book_drop) l22 c22 k22) ⟨a22, i22, k22⟩ b_len e_OutOfPlace cl nH
  have c_L_many := ok_L_many (P := l.prog) (w := w) (base := base) (fun_mk (st := s_L_many) l23 c23 k23) (PySem.W.mg_of X G a23) b_range b_len c_L_taken c_L_meets cl nH h_drop h_listed h_plan
  have mk_Book := ok_Book_init (P := l.prog) (w := w) (base := base) (fun_mk (st := s_Book_init) l24 c24 k24) ⟨mkC, a24, i24, kc⟩ gB cl nH
  have c_L_full := ok_L_full (P := l.prog) (w := w) (base := base) (fun_mk (st := s_L_full) l25 c25 k25) (PySem.W.mg_of X G a25) b_range b_len e_BadJob e_TooMany xm_BadJob_BadJob xm_TooMany_BadJob xm_OutOfPlace_BadJob xm_BadJob_TooMany xm_TooMany_TooMany xm_OutOfPlace_TooMany c_L_taken c_run cl nH h_take h_drop h_listed h_plan
  have c_L_deed := ok_L_deed (P := l.prog) (w := w) (base := base) (fun_mk (st := s_L_deed) l26 c26 k26) (PySem.W.mg_of X G a26) b_len b_isinstance e_BadJob e_RunError e_TooMany e_NoRow e_OutOfPlace xm_BadJob_BadJob xm_TooMany_BadJob xm_OutOfPlace_BadJob xm_BadJob_RunError xm_TooMany_RunError xm_OutOfPlace_RunError ec_BadJob ec_TooMany ec_OutOfPlace kt_BadJob_TooMany kt_TooMany_TooMany kt_OutOfPlace_TooMany kt_BadJob_NoRow kt_TooMany_NoRow kt_OutOfPlace_NoRow kt_BadJob_BadJob kt_TooMany_BadJob kt_OutOfPlace_BadJob kt_BadJob_OutOfPlace kt_TooMany_OutOfPlace kt_OutOfPlace_OutOfPlace c_L_taken cl nH h_take h_drop
  have c_L_cell_at := ok_L_cell_at (P := l.prog) (w := w) (base := base) (fun_mk (st := s_L_cell_at) l27 c27 k27) (PySem.W.mg_of X G a27) b_len
  exact ok_law (fun_mk (st := s_law) l28 c28 k28) b_list b_range b_isinstance c_L_cell_at c_L_many c_L_full c_L_deed c_L_meets c_run cl nH h_plan h_listed mk_Book
theorem walk {l : PySem.W.OpenLaw} {q : Program} {loose : List Str} {XP : (Str → Option Value) → Heap → Prop} {YP : World → Heap → Prop} {d : DefRec} {K : Params → PySem.W.Frag} (hn : l.most = some 63) (hdf : d.params.defaults = [])
    (hY : ∀ (w : World) (h : Heap), YP w h → (K w.params).In h)
    (F : ∀ (w : World) (mg : Str → Option Value) (fa : Addr) (h : Heap), (K w.params).In h → h.Ns mainGlobals mg → mg d.name = some (.ref fa) →
      ∃ fd : FuncData, (∀ (s : Shared) (u : Value), BindsTo s fd ⟨[u], []⟩ [("_law_script", u)]) ∧ ∀ base : Heap, (K w.params).In base → base.Ns mainGlobals mg → FnOk l.prog w (K w.params) mg base CX0 10 fa fd ["_law_script"] (spLaw (K w.params))) :
    PySem.W.WalkO q loose XP YP l.row.toRowW d [] (fun f vs => PySem.call f vs) :=
  L2.walk_of (n := 63) (k := 10) (x := "_law_script") (CX := fun _ => CX0) (sp := fun w => spLaw (K w.params)) hn (by decide) hdf ⟨rfl, by decide, by decide⟩ hY F (fun _ _ a ns hl _ hS => ⟨a, ns, rfl, hS, hl, fun _ => rfl⟩) fun _ _ _ _ _ z => z
end DL

open PySem PySem.W PyProof.Rows in
set_option maxRecDepth 100000 in
set_option maxHeartbeats 0 in
theorem PySem.Challenge.cw_deadlinerun_k13_whole_book_holds : PySem.Challenge.rw_deadlinerun_k13_whole_book.Holds := by
  w_on; o_law; k_head; (case hw => w_witness2)
  k_fill
  refine DL.walk (l := PySem.Challenge.rw_deadlinerun_k13_whole_book) rfl rfl (fun w h Y => PySem.W.kIn_of Y) ?F
  case F =>
    intro w mg fa h KX G hmg
    refine' DL.all_mk KX G hmg ?aC ?pg ?hd ?po ?sa ?mkC ?kc ?nH ?a0 ?l0 ?c0 ?k0 ?a1 ?l1 ?c1 ?k1 ?a2 ?l2 ?c2 ?k2 ?a3 ?l3 ?c3 ?k3 ?a4 ?l4 ?c4 ?k4 ?a5 ?l5 ?c5 ?k5 ?a6 ?l6 ?c6 ?k6 ?a7 ?l7 ?c7 ?k7 ?a8 ?l8 ?c8 ?k8 ?a9 ?l9 ?c9 ?k9 ?a10 ?l10 ?c10 ?k10 ?a11 ?l11 ?c11 ?k11 ?a12 ?l12 ?c12 ?k12 ?i12 ?a13 ?l13 ?c13 ?k13 ?a14 ?l14 ?c14 ?k14 ?a15 ?l15 ?c15 ?k15 ?a16 ?l16 ?c16 ?k16 ?a17 ?l17 ?c17 ?k17 ?a18 ?l18 ?c18 ?k18 ?a19 ?l19 ?c19 ?k19 ?i19 ?a20 ?l20 ?c20 ?k20 ?a21 ?l21 ?c21 ?k21 ?i21 ?a22 ?l22 ?c22 ?k22 ?i22 ?a23 ?l23 ?c23 ?k23 ?a24 ?l24 ?c24 ?k24 ?i24 ?a25 ?l25 ?c25 ?k25 ?a26 ?l26 ?c26 ?k26 ?a27 ?l27 ?c27 ?k27 ?a28 ?l28 ?c28 ?k28 ?z_isinstance ?z_bool ?z_int ?z_len ?z_tuple ?z_enumerate ?z_max ?z_range ?z_sorted ?z_sum ?z_list ?y_LIMIT ?qa_BadJob ?qx_BadJob ?qk_BadJob ?qb_BadJob ?qt_BadJob ?qi_BadJob ?qa_TooMany ?qx_TooMany ?qk_TooMany ?qb_TooMany ?qt_TooMany ?qi_TooMany ?qa_OutOfPlace ?qx_OutOfPlace ?qk_OutOfPlace ?qb_OutOfPlace ?qt_OutOfPlace ?qi_OutOfPlace ?qa_RunError ?qx_RunError ?qk_RunError ?qb_RunError ?qt_RunError ?qi_RunError ?qa_NoRow ?qx_NoRow ?qk_NoRow ?qb_NoRow ?qt_NoRow ?qi_NoRow ?qs_BadJob_BadJob ?qs_TooMany_BadJob ?qs_OutOfPlace_BadJob ?qs_BadJob_TooMany ?qs_TooMany_TooMany ?qs_OutOfPlace_TooMany ?qs_BadJob_RunError ?qs_TooMany_RunError ?qs_OutOfPlace_RunError ?r1_BadJob ?r2_BadJob ?r3_BadJob ?r4_BadJob ?r5_BadJob ?r1_TooMany ?r2_TooMany ?r3_TooMany ?r4_TooMany ?r5_TooMany ?r1_OutOfPlace ?r2_OutOfPlace ?r3_OutOfPlace ?r4_OutOfPlace ?r5_OutOfPlace ?r6 ?r7 ?kt_BadJob_TooMany ?kt_TooMany_TooMany ?kt_OutOfPlace_TooMany ?kt_BadJob_NoRow ?kt_TooMany_NoRow ?kt_OutOfPlace_NoRow ?kt_BadJob_BadJob ?kt_TooMany_BadJob ?kt_OutOfPlace_BadJob ?kt_BadJob_OutOfPlace ?kt_TooMany_OutOfPlace ?kt_OutOfPlace_OutOfPlace
    (case aC => k_is)
    (case pg => k_is)
    (case hd => k_is)
    (case po => k_is)
    (case sa => k_is)
    (case mkC => k_is)
    (case kc => k_is)
    (case nH => k_is)
    (case a0 => k_is)
    (case l0 => k_is)
    (case c0 => k_is)
    (case k0 => k_is)
    (case a1 => k_is)
    (case l1 => k_is)
    (case c1 => k_is)
    (case k1 => k_is)
    (case a2 => k_is)
    (case l2 => k_is)
    (case c2 => k_is)
    (case k2 => k_is)
    (case a3 => k_is)
    (case l3 => k_is)
    (case c3 => k_is)
    (case k3 => k_is)
    (case a4 => k_is)
    (case l4 => k_is)
    (case c4 => k_is)
    (case k4 => k_is)
    (case a5 => k_is)
    (case l5 => k_is)
    (case c5 => k_is)
    (case k5 => k_is)
    (case a6 => k_is)
    (case l6 => k_is)
    (case c6 => k_is)
    (case k6 => k_is)
    (case a7 => k_is)
    (case l7 => k_is)
    (case c7 => k_is)
    (case k7 => k_is)
    (case a8 => k_is)
    (case l8 => k_is)
    (case c8 => k_is)
    (case k8 => k_is)
    (case a9 => k_is)
    (case l9 => k_is)
    (case c9 => k_is)
    (case k9 => k_is)
    (case a10 => k_is)
    (case l10 => k_is)
    (case c10 => k_is)
    (case k10 => k_is)
    (case a11 => k_is)
    (case l11 => k_is)
    (case c11 => k_is)
    (case k11 => k_is)
    (case a12 => k_is)
    (case l12 => k_is)
    (case c12 => k_is)
    (case k12 => k_is)
    (case i12 => k_is)
    (case a13 => k_is)
    (case l13 => k_is)
    (case c13 => k_is)
    (case k13 => k_is)
    (case a14 => k_is)
    (case l14 => k_is)
    (case c14 => k_is)
    (case k14 => k_is)
    (case a15 => k_is)
    (case l15 => k_is)
    (case c15 => k_is)
    (case k15 => k_is)
    (case a16 => k_is)
    (case l16 => k_is)
    (case c16 => k_is)
    (case k16 => k_is)
    (case a17 => k_is)
    (case l17 => k_is)
    (case c17 => k_is)
    (case k17 => k_is)
    (case a18 => k_is)
    (case l18 => k_is)
    (case c18 => k_is)
    (case k18 => k_is)
    (case a19 => k_is)
    (case l19 => k_is)
    (case c19 => k_is)
    (case k19 => k_is)
    (case i19 => k_is)
    (case a20 => k_is)
    (case l20 => k_is)
    (case c20 => k_is)
    (case k20 => k_is)
    (case a21 => k_is)
    (case l21 => k_is)
    (case c21 => k_is)
    (case k21 => k_is)
    (case i21 => k_is)
    (case a22 => k_is)
    (case l22 => k_is)
    (case c22 => k_is)
    (case k22 => k_is)
    (case i22 => k_is)
    (case a23 => k_is)
    (case l23 => k_is)
    (case c23 => k_is)
    (case k23 => k_is)
    (case a24 => k_is)
    (case l24 => k_is)
    (case c24 => k_is)
    (case k24 => k_is)
    (case i24 => k_is)
    (case a25 => k_is)
    (case l25 => k_is)
    (case c25 => k_is)
    (case k25 => k_is)
    (case a26 => k_is)
    (case l26 => k_is)
    (case c26 => k_is)
    (case k26 => k_is)
    (case a27 => k_is)
    (case l27 => k_is)
    (case c27 => k_is)
    (case k27 => k_is)
    (case a28 => k_is)
    (case l28 => k_is)
    (case c28 => k_is)
    (case k28 => k_is)
    (case z_isinstance => k_is)
    (case z_bool => k_is)
    (case z_int => k_is)
    (case z_len => k_is)
    (case z_tuple => k_is)
    (case z_enumerate => k_is)
    (case z_max => k_is)
    (case z_range => k_is)
    (case z_sorted => k_is)
    (case z_sum => k_is)
    (case z_list => k_is)
    (case y_LIMIT => k_is)
    (case qa_BadJob => k_is)
    (case qx_BadJob => k_exc)
    (case qk_BadJob => k_is)
    (case qb_BadJob => k_is)
    (case qt_BadJob => k_is)
    (case qi_BadJob => k_is)
    (case qa_TooMany => k_is)
    (case qx_TooMany => k_exc)
    (case qk_TooMany => k_is)
    (case qb_TooMany => k_is)
    (case qt_TooMany => k_is)
    (case qi_TooMany => k_is)
    (case qa_OutOfPlace => k_is)
    (case qx_OutOfPlace => k_exc)
    (case qk_OutOfPlace => k_is)
    (case qb_OutOfPlace => k_is)
    (case qt_OutOfPlace => k_is)
    (case qi_OutOfPlace => k_is)
    (case qa_RunError => k_is)
    (case qx_RunError => k_exc)
    (case qk_RunError => k_is)
    (case qb_RunError => k_is)
    (case qt_RunError => k_is)
    (case qi_RunError => k_is)
    (case qa_NoRow => k_is)
    (case qx_NoRow => k_exc)
    (case qk_NoRow => k_is)
    (case qb_NoRow => k_is)
    (case qt_NoRow => k_is)
    (case qi_NoRow => k_is)
    (case qs_BadJob_BadJob => first | rfl | k_is)
    (case qs_TooMany_BadJob => first | rfl | k_is)
    (case qs_OutOfPlace_BadJob => first | rfl | k_is)
    (case qs_BadJob_TooMany => first | rfl | k_is)
    (case qs_TooMany_TooMany => first | rfl | k_is)
    (case qs_OutOfPlace_TooMany => first | rfl | k_is)
    (case qs_BadJob_RunError => first | rfl | k_is)
    (case qs_TooMany_RunError => first | rfl | k_is)
    (case qs_OutOfPlace_RunError => first | rfl | k_is)
    (case r1_BadJob => k_is)
    (case r2_BadJob => k_is)
    (case r3_BadJob => k_is)
    (case r4_BadJob => k_is)
    (case r5_BadJob => k_is)
    (case r1_TooMany => k_is)
    (case r2_TooMany => k_is)
    (case r3_TooMany => k_is)
    (case r4_TooMany => k_is)
    (case r5_TooMany => k_is)
    (case r1_OutOfPlace => k_is)
    (case r2_OutOfPlace => k_is)
    (case r3_OutOfPlace => k_is)
    (case r4_OutOfPlace => k_is)
    (case r5_OutOfPlace => k_is)
    (case r6 => k_is)
    (case r7 => k_is)
    (case kt_BadJob_TooMany => first | rfl | k_is)
    (case kt_TooMany_TooMany => first | rfl | k_is)
    (case kt_OutOfPlace_TooMany => first | rfl | k_is)
    (case kt_BadJob_NoRow => first | rfl | k_is)
    (case kt_TooMany_NoRow => first | rfl | k_is)
    (case kt_OutOfPlace_NoRow => first | rfl | k_is)
    (case kt_BadJob_BadJob => first | rfl | k_is)
    (case kt_TooMany_BadJob => first | rfl | k_is)
    (case kt_OutOfPlace_BadJob => first | rfl | k_is)
    (case kt_BadJob_OutOfPlace => first | rfl | k_is)
    (case kt_TooMany_OutOfPlace => first | rfl | k_is)
    (case kt_OutOfPlace_OutOfPlace => first | rfl | k_is)
#print axioms PySem.Challenge.cw_deadlinerun_k13_whole_book_holds
