import PyProof.Rows.All
import Wide.All
import OpenK.AllK
import Wide.FinOn
import HandS.ForMost
import HandS.Exc
import HandS.TryOnly
import HandS.WordsExc
import HandS.Defaults
import HandS.TupAny
import HandS.ClsMeth
import HandS.HeadHook1
import HandS.HeadHook2
import KE.GoesMore
import HandS.Zip
import HandS.Deep
import HandS.Small
import HandS.Style
import HandS.More
import HandS.IsInst
import HandS.Codes
import HandS.Flow
import HandS.Star
import HandS.SetFor
import KE.KItemsList
import PyProof.ZipIter
import HandS.ListItems
import HandS.OwnEq
import HandS.ExcInit
import HandS.ExcField
import HandS.ExcIs
import HandS.Nested
import KE.KExcSuper
import KE.KSuper
import HandS.HotCalls
import HandS.ExcInitHot
import HandS.Head0
import HandS.Head1
import HandS.Head2
import HandS.HeadEnd
import PySem.Challenge.RW_twinrope_k76_bills_of_trips
import HandS.FStr
set_option Elab.async false
set_option linter.all false
set_option maxRecDepth 100000
set_option maxHeartbeats 4000000
/-! A layer over the hand layer: data as trees (D), what stands still (F), what may change (a store of cells), and the readings' weakest preconditions over these. -/
namespace Tw
open PySem L2

/-! ### data -/
inductive D where
  | non | bl (b : Bool) | int (i : Int) | str (x : Str) | ty (n : String) | ref (a : Addr)
  | lst (ds : List D) | tup (ds : List D) | sq (ds : List D) | obj (C : Addr) (ns : List Str) (ds : List D)

/-- what F (which stands still) says of a value -/
inductive Rep (K : PySem.W.Frag) (F : Hp) : V → D → Prop
  | non : Rep K F .non .non
  | bl (b : Bool) : Rep K F (.bl b) (.bl b)
  | int (i : Int) : Rep K F (.int i) (.int i)
  | str (x : Str) : Rep K F (.str x) (.str x)
  | ty (n : String) : Rep K F (.ty n) (.ty n)
  | ref (a : Addr) : Rep K F (.ref a) (.ref a)
  | lst {a : Addr} {vs : List V} {ds : List D} (h : F a = some (.lst vs)) (hl : vs.length = ds.length) (hr : ∀ (i : Nat) v d, vs[i]? = some v → ds[i]? = some d → Rep K F v d) : Rep K F (.ref a) (.lst ds)
  | tup {a : Addr} {vs : List V} {ds : List D} (h : SqT K F a vs) (hl : vs.length = ds.length) (hr : ∀ (i : Nat) v d, vs[i]? = some v → ds[i]? = some d → Rep K F v d) : Rep K F (.ref a) (.tup ds)
  | sq {a : Addr} {vs : List V} {ds : List D} (h : SqL K F a vs) (hl : vs.length = ds.length) (hr : ∀ (i : Nat) v d, vs[i]? = some v → ds[i]? = some d → Rep K F v d) : Rep K F (.ref a) (.sq ds)
  | obj {a C dx : Addr} {fs : List (Str × V)} {ds : List D} (h : F a = some (.ins C dx fs)) (hl : fs.length = ds.length) (hr : ∀ (i : Nat) v d, (fs.map (·.2))[i]? = some v → ds[i]? = some d → Rep K F v d) : Rep K F (.ref a) (.obj C (fs.map (·.1)) ds)

def RepL (K : PySem.W.Frag) (F : Hp) (vs : List V) (ds : List D) : Prop := vs.length = ds.length ∧ ∀ (i : Nat) v d, vs[i]? = some v → ds[i]? = some d → Rep K F v d

section
variable {K : PySem.W.Frag} {F F' F1 F2 H H' H1 H2 : Hp}
theorem same_t {a : Addr} {xs : List V} (e : Same F F') (h : SqT K F a xs) : SqT K F' a xs := by
  rcases h with (h | ⟨o, h⟩) | h
  · exact .inl (.inl (e _ _ h))
  · exact .inl (.inr ⟨o, e _ _ h⟩)
  · exact .inr h
theorem Rep.mono {v : V} {d : D} (e : Same F F') (h : Rep K F v d) : Rep K F' v d := by
  induction h with
  | non => exact .non
  | bl b => exact .bl b
  | int i => exact .int i
  | str x => exact .str x
  | ty n => exact .ty n
  | ref a => exact .ref a
  | lst h hl hr ih => exact .lst (e _ _ h) hl ih
  | tup h hl hr ih => exact .tup (same_t e h) hl ih
  | sq h hl hr ih => exact .sq (e.seq h) hl ih
  | obj h hl hr ih => exact .obj (e _ _ h) hl ih
theorem RepL.mono {vs : List V} {ds : List D} (e : Same F F') (h : RepL K F vs ds) : RepL K F' vs ds := ⟨h.1, fun i v d h1 h2 => (h.2 i v d h1 h2).mono e⟩
theorem RepL.nil : RepL K F [] [] := ⟨rfl, fun i v d h1 _ => by simp at h1⟩
theorem RepL.cons {v : V} {vs : List V} {d : D} {ds : List D} (h : Rep K F v d) (r : RepL K F vs ds) : RepL K F (v :: vs) (d :: ds) := by
  refine ⟨by simp [r.1], fun i w e h1 h2 => ?_⟩
  cases i with
  | zero =>
    simp at h1 h2
    subst h1; subst h2
    exact h
  | succ i =>
    simp at h1 h2
    exact r.2 i w e h1 h2
theorem RepL.uncons {vs : List V} {d : D} {ds : List D} (h : RepL K F vs (d :: ds)) : ∃ v r, vs = v :: r ∧ Rep K F v d ∧ RepL K F r ds := by
  cases vs with
  | nil => exact absurd h.1 (by simp)
  | cons v r => exact ⟨v, r, rfl, h.2 0 v d rfl rfl, ⟨by simpa using h.1, fun i w e h1 h2 => h.2 (i + 1) w e (by simpa using h1) (by simpa using h2)⟩⟩
theorem RepL.unnil {vs : List V} (h : RepL K F vs []) : vs = [] := by
  cases vs with
  | nil => rfl
  | cons v r => exact absurd h.1 (by simp)
theorem RepL.append {vs ws : List V} {ds es : List D} (h : RepL K F vs ds) (g : RepL K F ws es) : RepL K F (vs ++ ws) (ds ++ es) := by
  induction vs generalizing ds with
  | nil =>
    have e : ds = [] := by
      cases ds with
      | nil => rfl
      | cons d r => exact absurd h.1 (by simp)
    subst e
    exact g
  | cons v r ih =>
    cases ds with
    | nil => exact absurd h.1 (by simp)
    | cons d ds =>
      obtain ⟨v', r', e, h1, h2⟩ := h.uncons
      obtain ⟨rfl, rfl⟩ := List.cons.inj e
      exact RepL.cons h1 (ih h2)
theorem RepL.get {vs : List V} {ds : List D} {i : Nat} {d : D} (h : RepL K F vs ds) (e : ds[i]? = some d) : ∃ v, vs[i]? = some v ∧ Rep K F v d := by
  have hi : i < vs.length := by rw [h.1]; exact (List.getElem?_eq_some_iff.mp e).1
  exact ⟨vs[i], List.getElem?_eq_getElem hi, h.2 i _ d (List.getElem?_eq_getElem hi) e⟩
theorem RepL.set {vs : List V} {ds : List D} {i : Nat} {v : V} {d : D} (h : RepL K F vs ds) (r : Rep K F v d) : RepL K F (vs.set i v) (ds.set i d) := by
  refine ⟨by simp [h.1], fun j w e h1 h2 => ?_⟩
  by_cases hj : i = j
  · subst hj
    have hi : i < vs.length := by
      have := (List.getElem?_eq_some_iff.mp h1).1
      simpa using this
    rw [List.getElem?_set_self hi] at h1
    rw [List.getElem?_set_self (by rw [← h.1]; exact hi)] at h2
    cases h1; cases h2
    exact r
  · rw [List.getElem?_set_ne hj] at h1 h2
    exact h.2 j w e h1 h2
theorem RepL.take {vs : List V} {ds : List D} (n : Nat) (h : RepL K F vs ds) : RepL K F (vs.take n) (ds.take n) := by
  refine ⟨by simp [h.1], fun j w e h1 h2 => ?_⟩
  rw [List.getElem?_take] at h1 h2
  split at h1
  · rename_i hj
    rw [if_pos hj] at h2
    exact h.2 j w e h1 h2
  · cases h1
theorem RepL.drop {vs : List V} {ds : List D} (n : Nat) (h : RepL K F vs ds) : RepL K F (vs.drop n) (ds.drop n) := by
  refine ⟨by simp [h.1], fun j w e h1 h2 => ?_⟩
  rw [List.getElem?_drop] at h1 h2
  exact h.2 _ w e h1 h2
theorem RepL.reverse {vs : List V} {ds : List D} (h : RepL K F vs ds) : RepL K F vs.reverse ds.reverse := by
  induction vs generalizing ds with
  | nil =>
    cases ds with
    | nil => exact .nil
    | cons d r => exact absurd h.1 (by simp)
  | cons v r ih =>
    cases ds with
    | nil => exact absurd h.1 (by simp)
    | cons d ds =>
      obtain ⟨v', r', e, h1, h2⟩ := h.uncons
      obtain ⟨rfl, rfl⟩ := List.cons.inj e
      rw [List.reverse_cons, List.reverse_cons]
      exact (ih h2).append (RepL.cons h1 .nil)
theorem RepL.eraseIdx {vs : List V} {ds : List D} (n : Nat) (h : RepL K F vs ds) : RepL K F (vs.eraseIdx n) (ds.eraseIdx n) := by
  rw [List.eraseIdx_eq_take_drop_succ, List.eraseIdx_eq_take_drop_succ]
  exact (h.take n).append (h.drop (n + 1))
theorem RepL.dropLast {vs : List V} {ds : List D} (h : RepL K F vs ds) : RepL K F vs.dropLast ds.dropLast := by
  rw [List.dropLast_eq_take, List.dropLast_eq_take, h.1]
  exact h.take _
/-- ints, texts, bools are what they are -/
theorem RepL.ints {vs : List V} {ns : List Int} (h : RepL K F vs (ns.map D.int)) : vs = ns.map V.int := by
  induction ns generalizing vs with
  | nil => exact h.unnil
  | cons n r ih =>
    obtain ⟨v, r', rfl, h1, h2⟩ := RepL.uncons (d := D.int n) (ds := r.map D.int) h
    cases h1
    rw [ih h2]
    rfl
theorem RepL.bls {vs : List V} {ns : List Bool} (h : RepL K F vs (ns.map D.bl)) : vs = ns.map V.bl := by
  induction ns generalizing vs with
  | nil => exact h.unnil
  | cons n r ih =>
    obtain ⟨v, r', rfl, h1, h2⟩ := RepL.uncons (d := D.bl n) (ds := r.map D.bl) h
    cases h1
    rw [ih h2]
    rfl
end

/-! ### what may change -/
inductive Cell where
  | lst (ds : List D)
  | ins (C : Addr) (ns : List Str) (ds : List D)
  | xd (ns : List Str) (ds : List D)
abbrev Store := Addr → Option Cell
def stU (S : Store) (a : Addr) (c : Cell) : Store := fun b => if b = a then some c else S b
def stD (S : Store) (a : Addr) : Store := fun b => if b = a then none else S b
theorem stU_same {S : Store} {a : Addr} {c : Cell} : stU S a c a = some c := if_pos rfl
theorem stU_ne {S : Store} {a b : Addr} {c : Cell} (h : b ≠ a) : stU S a c b = S b := if_neg h
theorem stD_same {S : Store} {a : Addr} : stD S a a = none := if_pos rfl
theorem stD_ne {S : Store} {a b : Addr} (h : b ≠ a) : stD S a b = S b := if_neg h
theorem stU_U {S : Store} {a : Addr} {c c' : Cell} : stU (stU S a c) a c' = stU S a c' := by
  funext b; unfold stU; split <;> rfl
theorem stD_U {S : Store} {a : Addr} {c : Cell} (h : S a = none) : stD (stU S a c) a = S := by
  funext b; unfold stD stU
  by_cases e : b = a
  · rw [if_pos e, e, h]
  · rw [if_neg e, if_neg e]
theorem stU_comm {S : Store} {a b : Addr} {c c' : Cell} (h : a ≠ b) : stU (stU S a c) b c' = stU (stU S b c') a c := by
  funext x; unfold stU
  by_cases e : x = b
  · rw [if_pos e, if_pos e]
    by_cases e2 : x = a
    · exact absurd (e2.symm.trans e) h
    · rw [if_neg e2]
  · rw [if_neg e]
    by_cases e2 : x = a
    · rw [if_pos e2, if_pos e2]
    · rw [if_neg e2, if_neg e2, if_neg e]
theorem stU_eq {S : Store} {a : Addr} {c : Cell} (h : S a = some c) : stU S a c = S := by
  funext b; unfold stU
  by_cases e : b = a
  · rw [if_pos e, e, h]
  · rw [if_neg e]
theorem ne_st {S : Store} {a b : Addr} {c : Cell} (h : S a = some c) (h' : S b = none) : a ≠ b := fun e => by
  rw [e, h'] at h
  cases h
/-- S' has no more than S -/
def Sub (S' S : Store) : Prop := ∀ a c, S' a = some c → S a = some c
theorem Sub.refl (S : Store) : Sub S S := fun _ _ h => h
theorem Sub.trans {S S1 S2 : Store} (a : Sub S S1) (b : Sub S1 S2) : Sub S S2 := fun x c h => b x c (a x c h)
theorem Sub.new {S : Store} {a : Addr} {c : Cell} (h : S a = none) : Sub S (stU S a c) := fun b c' e => by
  rw [stU_ne (ne_st e h)]
  exact e
theorem Sub.newT {S S' : Store} {a : Addr} {c : Cell} (s : Sub S S') (h : S a = none) : Sub S (stU S' a c) := fun b c' e => by
  rw [stU_ne (ne_st e h)]
  exact s b c' e
theorem Sub.del {S : Store} {a : Addr} : Sub (stD S a) S := fun b c e => by
  unfold stD at e
  split at e
  · cases e
  · exact e
theorem Sub.none {S S' : Store} (s : Sub S S') {a : Addr} (h : S' a = none) : S a = none := by
  cases e : S a with
  | none => rfl
  | some c =>
    rw [s a c e] at h
    cases h

def CellOk (K : PySem.W.Frag) (F H : Hp) (a : Addr) : Cell → Prop
  | .lst ds => ∃ vs, H a = some (.lst vs) ∧ RepL K F vs ds
  | .ins C ns ds => ∃ dx fs, H a = some (.ins C dx fs) ∧ fs.map (·.1) = ns ∧ RepL K F (fs.map (·.2)) ds
  | .xd ns ds => ∃ fs, H a = some (.xd fs) ∧ fs.map (·.1) = ns ∧ RepL K F (fs.map (·.2)) ds
structure SatS (K : PySem.W.Frag) (F H : Hp) (S : Store) : Prop where
  ext : Same F H
  off : ∀ a c, S a = some c → F a = none
  cell : ∀ a c, S a = some c → CellOk K F H a c
abbrev Env := List (Option D)
def Slots (K : PySem.W.Frag) (F : Hp) (σ : L2.St) (Γ : Env) : Prop := σ.length = Γ.length ∧ ∀ (i : Nat) d, Γ[i]? = some (some d) → ∃ v, σ[i]? = some (some v) ∧ Rep K F v d

section
variable {K : PySem.W.Frag} {F F' F1 F2 H H' H1 H2 : Hp} {S S' S1 : Store} {σ : L2.St} {Γ : Env}
theorem CellOk.mono {a : Addr} {c : Cell} (h : CellOk K F H a c) (e : Same F F') (k : ∀ o, H a = some o → H' a = some o) : CellOk K F' H' a c := by
  cases c with
  | lst ds => obtain ⟨vs, h1, h2⟩ := h; exact ⟨vs, k _ h1, h2.mono e⟩
  | ins C ns ds => obtain ⟨dx, fs, h1, h2, h3⟩ := h; exact ⟨dx, fs, k _ h1, h2, h3.mono e⟩
  | xd ns ds => obtain ⟨fs, h1, h2, h3⟩ := h; exact ⟨fs, k _ h1, h2, h3.mono e⟩
theorem CellOk.there {a : Addr} {c : Cell} (h : CellOk K F H a c) : ∃ o, H a = some o := by
  cases c with
  | lst ds => obtain ⟨vs, h1, h2⟩ := h; exact ⟨_, h1⟩
  | ins C ns ds => obtain ⟨dx, fs, h1, h2, h3⟩ := h; exact ⟨_, h1⟩
  | xd ns ds => obtain ⟨fs, h1, h2, h3⟩ := h; exact ⟨_, h1⟩
theorem SatS.no {p : Addr} (h : SatS K F H S) (hp : H p = none) : S p = none := by
  cases e : S p with
  | none => rfl
  | some c =>
    obtain ⟨o, q⟩ := (h.cell p c e).there
    rw [hp] at q
    cases q
theorem same_upd {p : Addr} {o : HO} (h : H p = none) : Same H (upd H p o) := fun b u e => by
  rw [upd_ne (ne_of_none e h)]
  exact e
/-- a new thing that stands still -/
theorem SatS.newF {p : Addr} {o : HO} (h : SatS K F H S) (hp : H p = none) : SatS K (upd F p o) (upd H p o) S := by
  have fp : F p = none := h.ext.free hp
  refine ⟨fun b u e => ?_, fun a c e => ?_, fun a c e => ?_⟩
  · by_cases hb : b = p
    · subst hb; rw [upd_same] at e; rw [upd_same]; exact e
    · rw [upd_ne hb] at e; rw [upd_ne hb]; exact h.ext b u e
  · have ne : a ≠ p := ne_st e (h.no hp)
    rw [upd_ne ne]; exact h.off a c e
  · have ne : a ≠ p := ne_st e (h.no hp)
    exact (h.cell a c e).mono (same_upd fp) fun u hu => by rw [upd_ne ne]; exact hu
/-- a new thing that is not told of -/
theorem SatS.newH {p : Addr} {o : HO} (h : SatS K F H S) (hp : H p = none) : SatS K F (upd H p o) S := by
  refine ⟨fun b u e => ?_, h.off, fun a c e => ?_⟩
  · rw [upd_ne (ne_of_none (h.ext b u e) hp)]; exact h.ext b u e
  · have ne : a ≠ p := ne_st e (h.no hp)
    exact (h.cell a c e).mono (Same.refl _) fun u hu => by rw [upd_ne ne]; exact hu
/-- a cell: new, or written -/
theorem SatS.put {p : Addr} {o : HO} {c : Cell} (h : SatS K F H S) (hp : F p = none) (hc : CellOk K F (upd H p o) p c) : SatS K F (upd H p o) (stU S p c) := by
  refine ⟨fun b u e => ?_, fun a c' e => ?_, fun a c' e => ?_⟩
  · rw [upd_ne (ne_of_none e hp)]; exact h.ext b u e
  · by_cases ha : a = p
    · rw [ha]; exact hp
    · rw [stU_ne ha] at e; exact h.off a c' e
  · by_cases ha : a = p
    · subst ha
      rw [stU_same] at e; cases e
      exact hc
    · rw [stU_ne ha] at e
      exact (h.cell a c' e).mono (Same.refl _) fun u hu => by rw [upd_ne ha]; exact hu
theorem SatS.sub (h : SatS K F H S) (s : Sub S' S) : SatS K F H S' := ⟨h.ext, fun a c e => h.off a c (s a c e), fun a c e => h.cell a c (s a c e)⟩
/-- a list that from now on stands still -/
theorem SatS.freeze {p : Addr} {ds : List D} (h : SatS K F H S) (hp : S p = some (.lst ds)) : ∃ vs, F p = none ∧ SatS K (upd F p (.lst vs)) H (stD S p) ∧ Rep K (upd F p (.lst vs)) (.ref p) (.lst ds) := by
  obtain ⟨vs, h1, h2⟩ := h.cell p _ hp
  have fp := h.off p _ hp
  have sm : Same F (upd F p (.lst vs)) := same_upd fp
  refine ⟨vs, fp, ⟨fun b u e => ?_, fun a c e => ?_, fun a c e => ?_⟩, .lst upd_same h2.1 fun i v d e1 e2 => (h2.2 i v d e1 e2).mono sm⟩
  · by_cases hb : b = p
    · subst hb; rw [upd_same] at e; cases e; exact h1
    · rw [upd_ne hb] at e; exact h.ext b u e
  · unfold stD at e
    split at e
    · cases e
    · rename_i ne
      rw [upd_ne ne]; exact h.off a c e
  · unfold stD at e
    split at e
    · cases e
    · exact (h.cell a c e).mono sm fun _ q => q
/-- an instance that from now on stands still -/
theorem SatS.freezeI {p C : Addr} {ns : List Str} {ds : List D} (h : SatS K F H S) (hp : S p = some (.ins C ns ds)) : ∃ dx fs, F p = none ∧ SatS K (upd F p (.ins C dx fs)) H (stD S p) ∧ Rep K (upd F p (.ins C dx fs)) (.ref p) (.obj C ns ds) := by
  obtain ⟨dx, fs, h1, h2, h3⟩ := h.cell p _ hp
  have fp := h.off p _ hp
  have sm : Same F (upd F p (.ins C dx fs)) := same_upd fp
  have hl : fs.length = ds.length := by rw [← h3.1, List.length_map]
  refine ⟨dx, fs, fp, ⟨fun b u e => ?_, fun a c e => ?_, fun a c e => ?_⟩, ?_⟩
  · by_cases hb : b = p
    · subst hb; rw [upd_same] at e; cases e; exact h1
    · rw [upd_ne hb] at e; exact h.ext b u e
  · unfold stD at e
    split at e
    · cases e
    · rename_i ne
      rw [upd_ne ne]; exact h.off a c e
  · unfold stD at e
    split at e
    · cases e
    · exact (h.cell a c e).mono sm fun _ q => q
  · rw [← h2]
    exact .obj upd_same hl fun i v d e1 e2 => (h3.2 i v d e1 e2).mono sm
theorem Slots.mono (h : Slots K F σ Γ) (e : Same F F') : Slots K F' σ Γ := ⟨h.1, fun i d q => let ⟨v, q1, q2⟩ := h.2 i d q; ⟨v, q1, q2.mono e⟩⟩
theorem Slots.set {i : Nat} {v : V} {d : D} (h : Slots K F σ Γ) (r : Rep K F v d) : Slots K F (σ.set i (some v)) (Γ.set i (some d)) := by
  refine ⟨by simp [h.1], fun j e q => ?_⟩
  by_cases hj : i = j
  · subst hj
    have hi : i < Γ.length := by
      have := (List.getElem?_eq_some_iff.mp q).1
      simpa using this
    rw [List.getElem?_set_self hi] at q
    cases q
    exact ⟨v, List.getElem?_set_self (by rw [h.1]; exact hi), r⟩
  · rw [List.getElem?_set_ne hj] at q
    rw [List.getElem?_set_ne hj]
    exact h.2 j e q
/-- forgetting -/
theorem Slots.weak {Γ' : Env} (h : Slots K F σ Γ) (hl : Γ'.length = Γ.length) (w : ∀ (i : Nat) d, Γ'[i]? = some (some d) → Γ[i]? = some (some d)) : Slots K F σ Γ' := ⟨h.1.trans hl.symm, fun i d q => h.2 i d (w i d q)⟩
end

/-! ### the step from one moment to a later one -/
/-- what is neither told of nor in the store stays, and stays so -/
def Step (F : Hp) (S : Store) (H F' : Hp) (S' : Store) (H' : Hp) : Prop := ∀ b o, H b = some o → S b = none → H' b = some o ∧ S' b = none ∧ (F b = none → F' b = none)
theorem Step.refl (F : Hp) (S : Store) (H : Hp) : Step F S H F S H := fun _ _ h h' => ⟨h, h', id⟩
theorem Step.trans {F F1 F2 : Hp} {S S1 S2 : Store} {H H1 H2 : Hp} (a : Step F S H F1 S1 H1) (b : Step F1 S1 H1 F2 S2 H2) : Step F S H F2 S2 H2 := fun x o h h' =>
  let ⟨p, q, r⟩ := a x o h h'
  let ⟨p2, q2, r2⟩ := b x o p q
  ⟨p2, q2, fun z => r2 (r z)⟩
structure Post (K : PySem.W.Frag) (F H : Hp) (S : Store) (F' H' : Hp) (S' : Store) : Prop where
  same : Same F F'
  sat : SatS K F' H' S'
  step : Step F S H F' S' H'
section
variable {K : PySem.W.Frag} {F F' F1 F2 H H' H1 H2 : Hp} {S S' S1 S2 : Store} {p : Addr}
theorem Post.refl (h : SatS K F H S) : Post K F H S F H S := ⟨Same.refl _, h, Step.refl _ _ _⟩
theorem Post.trans (a : Post K F H S F1 H1 S1) (b : Post K F1 H1 S1 F2 H2 S2) : Post K F H S F2 H2 S2 := ⟨a.same.trans b.same, b.sat, a.step.trans b.step⟩
theorem Post.newF {o : HO} (h : SatS K F H S) (hp : H p = none) : Post K F H S (upd F p o) (upd H p o) S := ⟨same_upd (h.ext.free hp), h.newF hp, fun b u e e' => ⟨by rw [upd_ne (ne_of_none e hp)]; exact e, e', fun z => by rw [upd_ne (ne_of_none e hp)]; exact z⟩⟩
theorem Post.newH {o : HO} (h : SatS K F H S) (hp : H p = none) : Post K F H S F (upd H p o) S := ⟨Same.refl _, h.newH hp, fun b u e e' => ⟨by rw [upd_ne (ne_of_none e hp)]; exact e, e', id⟩⟩
theorem Post.newS {o : HO} {c : Cell} (h : SatS K F H S) (hp : H p = none) (hc : CellOk K F (upd H p o) p c) : Post K F H S F (upd H p o) (stU S p c) := ⟨Same.refl _, h.put (h.ext.free hp) hc, fun b u e e' => ⟨by rw [upd_ne (ne_of_none e hp)]; exact e, by rw [stU_ne (ne_of_none e hp)]; exact e', id⟩⟩
theorem Post.write {o : HO} {c c' : Cell} (h : SatS K F H S) (hp : S p = some c') (hc : CellOk K F (upd H p o) p c) : Post K F H S F (upd H p o) (stU S p c) := ⟨Same.refl _, h.put (h.off p _ hp) hc, fun b u e e' => by
  have ne : b ≠ p := fun z => by rw [z, hp] at e'; cases e'
  exact ⟨by rw [upd_ne ne]; exact e, by rw [stU_ne ne]; exact e', id⟩⟩
theorem Post.sub (a : Post K F H S F' H' S1) (s : Sub S' S1) : Post K F H S F' H' S' := ⟨a.same, a.sat.sub s, fun b o h h' => let ⟨p, q, r⟩ := a.step b o h h'; ⟨p, s.none q, r⟩⟩
theorem Post.freeze {ds : List D} (h : SatS K F H S) (hp : S p = some (.lst ds)) : ∃ F', Post K F H S F' H (stD S p) ∧ Rep K F' (.ref p) (.lst ds) := by
  obtain ⟨vs, fp, h1, h2⟩ := h.freeze hp
  exact ⟨_, ⟨same_upd fp, h1, fun b o e e' => ⟨e, Sub.del.none e', fun z => by
    have ne : b ≠ p := fun q => by rw [q, hp] at e'; cases e'
    rw [upd_ne ne]; exact z⟩⟩, h2⟩
theorem Post.freezeI {C : Addr} {ns : List Str} {ds : List D} (h : SatS K F H S) (hp : S p = some (.ins C ns ds)) : ∃ F', Post K F H S F' H (stD S p) ∧ Rep K F' (.ref p) (.obj C ns ds) := by
  obtain ⟨dx, fs, fp, h1, h2⟩ := h.freezeI hp
  exact ⟨_, ⟨same_upd fp, h1, fun b o e e' => ⟨e, Sub.del.none e', fun z => by
    have ne : b ≠ p := fun q => by rw [q, hp] at e'; cases e'
    rw [upd_ne ne]; exact z⟩⟩, h2⟩
/-- a thing that stood aside is told of from now on -/
theorem SatS.adoptF {o : HO} (h : SatS K F H S) (hp : H p = some o) (fp : F p = none) (sp : S p = none) : SatS K (upd F p o) H S := by
  refine ⟨fun b u e => ?_, fun a c e => ?_, fun a c e => ?_⟩
  · by_cases hb : b = p
    · subst hb; rw [upd_same] at e; cases e; exact hp
    · rw [upd_ne hb] at e; exact h.ext b u e
  · have ne : a ≠ p := ne_st e sp
    rw [upd_ne ne]; exact h.off a c e
  · exact (h.cell a c e).mono (same_upd fp) fun _ q => q
theorem SatS.adoptS {c : Cell} (h : SatS K F H S) (fp : F p = none) (hc : CellOk K F H p c) : SatS K F H (stU S p c) := by
  refine ⟨h.ext, fun a c' e => ?_, fun a c' e => ?_⟩
  · by_cases ha : a = p
    · rw [ha]; exact fp
    · rw [stU_ne ha] at e; exact h.off a c' e
  · by_cases ha : a = p
    · subst ha
      rw [stU_same] at e; cases e
      exact hc
    · rw [stU_ne ha] at e
      exact h.cell a c' e
end

/-! ### weakest preconditions -/
structure EndsD where
  nx : Store → Env → Prop
  rt : D → Store → Prop
  bk : Store → Env → Prop := fun _ _ => False
  ct : Store → Env → Prop := fun _ _ => False
section
variable (K : PySem.W.Frag)
def WE (t : TE) (S : Store) (Γ : Env) (Φ : D → Store → Prop) : Prop := ∀ (F H : Hp) (σ : L2.St) (Q : VK), SatS K F H S → Slots K F σ Γ →
  (∀ F' H' v d S', Post K F H S F' H' S' → Rep K F' v d → Φ d S' → Q v H') → t σ H Q
def WT (t : TT) (S : Store) (Γ : Env) (Φ : Bool → Store → Prop) : Prop := ∀ (F H : Hp) (σ : L2.St) (Q : Bool → Hp → Prop), SatS K F H S → Slots K F σ Γ →
  (∀ F' H' b S', Post K F H S F' H' S' → Φ b S' → Q b H') → t σ H Q
def WA (t : TA) (S : Store) (Γ : Env) (Φ : List D → Store → Prop) : Prop := ∀ (F H : Hp) (σ : L2.St) (Q : List V → Hp → Prop), SatS K F H S → Slots K F σ Γ →
  (∀ F' H' vs ds S', Post K F H S F' H' S' → RepL K F' vs ds → Φ ds S' → Q vs H') → t σ H Q
def WO (t : TO) (S : Store) (Γ : Env) (Φ : Option Int → Store → Prop) : Prop := ∀ (F H : Hp) (σ : L2.St) (Q : Option Int → Hp → Prop), SatS K F H S → Slots K F σ Γ →
  (∀ F' H' o S', Post K F H S F' H' S' → Φ o S' → Q o H') → t σ H Q
/-- operations on values -/
def R1W (r : V → Hp → VK → Prop) (x : D) (S : Store) (Φ : D → Store → Prop) : Prop := ∀ (F H : Hp) (vx : V) (Q : VK), SatS K F H S → Rep K F vx x →
  (∀ F' H' v d S', Post K F H S F' H' S' → Rep K F' v d → Φ d S' → Q v H') → r vx H Q
def R2W (r : R2) (x y : D) (S : Store) (Φ : D → Store → Prop) : Prop := ∀ (F H : Hp) (vx vy : V) (Q : VK), SatS K F H S → Rep K F vx x → Rep K F vy y →
  (∀ F' H' v d S', Post K F H S F' H' S' → Rep K F' v d → Φ d S' → Q v H') → r vx vy H Q
def RLW (r : List V → Hp → VK → Prop) (xs : List D) (S : Store) (Φ : D → Store → Prop) : Prop := ∀ (F H : Hp) (vs : List V) (Q : VK), SatS K F H S → RepL K F vs xs →
  (∀ F' H' v d S', Post K F H S F' H' S' → Rep K F' v d → Φ d S' → Q v H') → r vs H Q
def RMW (r : V → List V → Hp → VK → Prop) (x : D) (xs : List D) (S : Store) (Φ : D → Store → Prop) : Prop := ∀ (F H : Hp) (vx : V) (vs : List V) (Q : VK), SatS K F H S → Rep K F vx x → RepL K F vs xs →
  (∀ F' H' v d S', Post K F H S F' H' S' → Rep K F' v d → Φ d S' → Q v H') → r vx vs H Q
def RSW (r : V → V → V → Hp → (Hp → Prop) → Prop) (o i x : D) (S : Store) (Φ : Store → Prop) : Prop := ∀ (F H : Hp) (vo vi vx : V) (Q : Hp → Prop), SatS K F H S → Rep K F vo o → Rep K F vi i → Rep K F vx x →
  (∀ F' H' S', Post K F H S F' H' S' → Φ S' → Q H') → r vo vi vx H Q
def WG (g : TG) (x : D) (S : Store) (Γ : Env) (Φ : Store → Env → Prop) : Prop := ∀ (F H : Hp) (σ : L2.St) (v : V) (Q : L2.St → Hp → Prop), SatS K F H S → Slots K F σ Γ → Rep K F v x →
  (∀ F' H' σ' S' Γ', Post K F H S F' H' S' → Slots K F' σ' Γ' → Φ S' Γ' → Q σ' H') → g v σ H Q
def WGs (g : TGs) (xs : List D) (S : Store) (Γ : Env) (Φ : Store → Env → Prop) : Prop := ∀ (F H : Hp) (σ : L2.St) (vs : List V) (Q : L2.St → Hp → Prop), SatS K F H S → Slots K F σ Γ → RepL K F vs xs →
  (∀ F' H' σ' S' Γ', Post K F H S F' H' S' → Slots K F' σ' Γ' → Φ S' Γ' → Q σ' H') → g vs σ H Q
def WS (t : TS) (S : Store) (Γ : Env) (Ψ : EndsD) : Prop := ∀ (F H : Hp) (σ : L2.St) (D0 : Ends), SatS K F H S → Slots K F σ Γ →
  (∀ F' H' σ' S' Γ', Post K F H S F' H' S' → Slots K F' σ' Γ' → Ψ.nx S' Γ' → D0.nx σ' H') →
  (∀ F' H' v d S', Post K F H S F' H' S' → Rep K F' v d → Ψ.rt d S' → D0.rt v H') →
  (∀ F' H' σ' S' Γ', Post K F H S F' H' S' → Slots K F' σ' Γ' → Ψ.bk S' Γ' → D0.bk σ' H') →
  (∀ F' H' σ' S' Γ', Post K F H S F' H' S' → Slots K F' σ' Γ' → Ψ.ct S' Γ' → D0.ct σ' H') → t D0 σ H
/-- an iterator's items while F stands -/
structure Walks (J : It) (F : Hp) (ds : List D) : Prop where
  go : ∀ (i : Nat) H, i < ds.length → Same F H → J.go i H
  yld : ∀ (i : Nat) F1 H1 S v H2 x, ds[i]? = some x → Same F F1 → SatS K F1 H1 S → J.yld i H1 v H2 → ∃ F2, Post K F1 H1 S F2 H2 S ∧ Rep K F2 v x
  stop : ∀ H, Same F H → J.stop ds.length H
def WI (wi : TI) (S : Store) (Γ : Env) (Φ : List D → Store → Prop) : Prop := ∀ (F H : Hp) (σ : L2.St) (R : It → Hp → Prop), SatS K F H S → Slots K F σ Γ →
  (∀ F' H' J ds S', Post K F H S F' H' S' → Walks K J F' ds → Φ ds S' → R J H') → wi σ H R
end
end Tw

set_option Elab.async false
set_option linter.all false
set_option maxRecDepth 100000
set_option maxHeartbeats 4000000
/-! Rules: expressions, tests, arguments, statements, targets, loops, comprehensions, over the store. -/
namespace Tw
open PySem L2
theorem ln {n : Nat} (h : n ≤ 1000000) : n ≤ sizeLine := Nat.le_trans h (by decide)
theorem lnl {n : Nat} (h : n ≤ 1000000) : n < sizeLine := Nat.lt_of_le_of_lt h (by decide)

section
variable {K : PySem.W.Frag} {S S' S1 : Store} {Γ Γ' : Env} {Φ Φ' : D → Store → Prop} {ta tb tc te to : TE} {x y z d : D} {σ : L2.St}

theorem WE.mono (h : WE K te S Γ Φ) (k : ∀ d S', Φ d S' → Φ' d S') : WE K te S Γ Φ' := fun F H σ Q hs hg hq => h F H σ Q hs hg fun F' H' v d S' p r f => hq F' H' v d S' p r (k d S' f)
theorem WT.mono {t : TT} {Φ Φ' : Bool → Store → Prop} (h : WT K t S Γ Φ) (k : ∀ d S', Φ d S' → Φ' d S') : WT K t S Γ Φ' := fun F H σ Q hs hg hq => h F H σ Q hs hg fun F' H' b S' p f => hq F' H' b S' p (k b S' f)
theorem WS.mono {t : TS} {Ψ Ψ' : EndsD} (h : WS K t S Γ Ψ) (k1 : ∀ S' Γ', Ψ.nx S' Γ' → Ψ'.nx S' Γ') (k2 : ∀ d S', Ψ.rt d S' → Ψ'.rt d S') (k3 : ∀ S' Γ', Ψ.bk S' Γ' → Ψ'.bk S' Γ') (k4 : ∀ S' Γ', Ψ.ct S' Γ' → Ψ'.ct S' Γ') : WS K t S Γ Ψ' :=
  fun F H σ D0 hs hg q1 q2 q3 q4 => h F H σ D0 hs hg (fun F' H' σ' S' Γ' p r f => q1 F' H' σ' S' Γ' p r (k1 _ _ f)) (fun F' H' v d S' p r f => q2 F' H' v d S' p r (k2 _ _ f)) (fun F' H' σ' S' Γ' p r f => q3 F' H' σ' S' Γ' p r (k3 _ _ f)) (fun F' H' σ' S' Γ' p r f => q4 F' H' σ' S' Γ' p r (k4 _ _ f))
/-- dropping cells at the end -/
theorem WE.sub (h : WE K te S Γ fun d S1 => ∃ S2, Sub S2 S1 ∧ Φ d S2) : WE K te S Γ Φ := fun F H σ Q hs hg hq => h F H σ Q hs hg fun F' H' v d S' p r ⟨S2, s, f⟩ => hq F' H' v d S2 (p.sub s) r f
/-- .. and a list that is handed back stands still from now on -/
theorem WE.frz (h : WE K te S Γ fun d S1 => ∃ p ds, d = .ref p ∧ S1 p = some (.lst ds) ∧ Φ (.lst ds) (stD S1 p)) : WE K te S Γ Φ := fun F H σ Q hs hg hq => h F H σ Q hs hg fun F' H' v d S' p r ⟨a, ds, e, hp, f⟩ => by
  subst e
  cases r
  obtain ⟨F2, p2, r2⟩ := Post.freeze p.sat hp
  exact hq F2 H' (.ref a) (.lst ds) _ (p.trans p2) r2 f

/-! ### names, constants -/
theorem w_var {i : Nat} (h : Γ[i]? = some (some d)) (k : Φ d S) : WE K (tVar i) S Γ Φ := fun F H σ Q hs hg hq => by
  obtain ⟨v, e, r⟩ := hg.2 i d h
  exact ⟨v, e, hq F H v d S (Post.refl hs) r k⟩
theorem w_cI {i : Int} (k : Φ (.int i) S) : WE K (tC (.int i)) S Γ Φ := fun F H σ Q hs hg hq => hq F H _ _ S (Post.refl hs) (.int i) k
theorem w_cB {b : Bool} (k : Φ (.bl b) S) : WE K (tC (.bl b)) S Γ Φ := fun F H σ Q hs hg hq => hq F H _ _ S (Post.refl hs) (.bl b) k
theorem w_cN (k : Φ .non S) : WE K (tC .non) S Γ Φ := fun F H σ Q hs hg hq => hq F H _ _ S (Post.refl hs) .non k
theorem w_cS {x : Str} (k : Φ (.str x) S) : WE K (tC (.str x)) S Γ Φ := fun F H σ Q hs hg hq => hq F H _ _ S (Post.refl hs) (.str x) k
theorem w_cT {n : String} (k : Φ (.ty n) S) : WE K (tC (.ty n)) S Γ Φ := fun F H σ Q hs hg hq => hq F H _ _ S (Post.refl hs) (.ty n) k
theorem w_cR {a : Addr} (k : Φ (.ref a) S) : WE K (tC (.ref a)) S Γ Φ := fun F H σ Q hs hg hq => hq F H _ _ S (Post.refl hs) (.ref a) k

/-! ### operators -/
theorem w_op {r : R2} (h : WE K ta S Γ fun x S1 => WE K tb S1 Γ fun y S2 => R2W K r x y S2 Φ) : WE K (tOp r ta tb) S Γ Φ := fun F H σ Q hs hg hq =>
  h F H σ _ hs hg fun F1 H1 vx x S1 p1 r1 h1 => h1 F1 H1 σ _ p1.sat (hg.mono p1.same) fun F2 H2 vy y S2 p2 r2 h2 =>
    h2 F2 H2 vx vy Q p2.sat (r1.mono p2.same) r2 fun F3 H3 v d S3 p3 r3 f => hq F3 H3 v d S3 ((p1.trans p2).trans p3) r3 f
theorem w_un {r : V → Hp → VK → Prop} (h : WE K ta S Γ fun x S1 => R1W K r x S1 Φ) : WE K (tUn r ta) S Γ Φ := fun F H σ Q hs hg hq =>
  h F H σ _ hs hg fun F1 H1 vx x S1 p1 r1 h1 => h1 F1 H1 vx Q p1.sat r1 fun F3 H3 v d S3 p3 r3 f => hq F3 H3 v d S3 (p1.trans p3) r3 f
/-- a op1 b op2 c -/
theorem w_chain {r r' : R2} (h : WE K ta S Γ fun x S1 => WE K tb S1 Γ fun y S2 => R2W K r x y S2 fun b S3 => ∃ k, b = .bl k ∧ if k = true then WE K tc S3 Γ fun z S4 => R2W K r' y z S4 Φ else Φ (.bl false) S3) : WE K (tChain r r' ta tb tc) S Γ Φ := fun F H σ Q hs hg hq =>
  h F H σ _ hs hg fun F1 H1 vx x S1 p1 r1 h1 => h1 F1 H1 σ _ p1.sat (hg.mono p1.same) fun F2 H2 vy y S2 p2 r2 h2 =>
    h2 F2 H2 vx vy _ p2.sat (r1.mono p2.same) r2 fun F3 H3 v d S3 p3 r3 ⟨k, e, f⟩ => by
      subst e
      cases r3
      refine ⟨k, rfl, ?_⟩
      cases k with
      | true =>
        refine iteT ?_
        exact f F3 H3 σ _ p3.sat (((hg.mono p1.same).mono p2.same).mono p3.same) fun F4 H4 vz z S4 p4 r4 h4 => h4 F4 H4 vy vz Q p4.sat ((r2.mono p3.same).mono p4.same) r4 fun F5 H5 v d S5 p5 r5 f5 => hq F5 H5 v d S5 ((((p1.trans p2).trans p3).trans p4).trans p5) r5 f5
      | false =>
        refine iteF ?_
        exact hq F3 H3 _ _ S3 ((p1.trans p2).trans p3) (.bl false) f
theorem rw_I0 {f : Int → Int → Int} {i j : Int} (k : Φ (.int (f i j)) S) : R2W K (rI0 fun i j => .int (f i j)) (.int i) (.int j) S Φ := fun F H vx vy Q hs rx ry hq => by
  cases rx; cases ry
  exact ⟨i, j, rfl, rfl, hq F H _ _ S (Post.refl hs) (.int _) k⟩
theorem rw_B0 {f : Int → Int → Bool} {i j : Int} (k : Φ (.bl (f i j)) S) : R2W K (rI0 fun i j => .bl (f i j)) (.int i) (.int j) S Φ := fun F H vx vy Q hs rx ry hq => by
  cases rx; cases ry
  exact ⟨i, j, rfl, rfl, hq F H _ _ S (Post.refl hs) (.bl _) k⟩
theorem rw_I {C : Int → Int → Prop} {f : Int → Int → Int} {i j : Int} (hc : C i j) (k : Φ (.int (f i j)) S) : R2W K (rI C fun i j => .int (f i j)) (.int i) (.int j) S Φ := fun F H vx vy Q hs rx ry hq => by
  cases rx; cases ry
  exact ⟨i, j, rfl, rfl, hc, hq F H _ _ S (Post.refl hs) (.int _) k⟩
theorem rw_U {f : Int → Int} {i : Int} (k : Φ (.int (f i)) S) : R1W K (rU fun i => .int (f i)) (.int i) S Φ := fun F H vx Q hs rx hq => by
  cases rx
  exact ⟨i, rfl, hq F H _ _ S (Post.refl hs) (.int _) k⟩
/-- one of several readings of an operator -/
def rOr (r r' : R2) : R2 := fun x y H Q => r x y H Q ∨ r' x y H Q
theorem opr_or {X : Cx} {f : Value → Value → Sem Value} {r r' : R2} (h : OpR X f r) (h' : OpR X f r') : OpR X f (rOr r r') := OpR.or h h'
theorem rw_1 {r r' : R2} (h : R2W K r x y S Φ) : R2W K (rOr r r') x y S Φ := fun F H vx vy Q hs rx ry hq => .inl (h F H vx vy Q hs rx ry hq)
theorem rw_2 {r r' : R2} (h : R2W K r' x y S Φ) : R2W K (rOr r r') x y S Φ := fun F H vx vy Q hs rx ry hq => .inr (h F H vx vy Q hs rx ry hq)
/-- == and != of scalars -/
theorem rw_eqI {i j : Int} (k : Φ (.bl (decide (i = j))) S) : R2W K rEq (.int i) (.int j) S Φ := fun F H vx vy Q hs rx ry hq => by
  cases rx; cases ry
  have e : decide (V.int i = V.int j) = decide (i = j) := by simp
  exact ⟨rfl, by rw [e]; exact hq F H _ _ S (Post.refl hs) (.bl _) k⟩
theorem rw_neI {i j : Int} (k : Φ (.bl (!decide (i = j))) S) : R2W K rNe (.int i) (.int j) S Φ := fun F H vx vy Q hs rx ry hq => by
  cases rx; cases ry
  have e : decide (V.int i = V.int j) = decide (i = j) := by simp
  exact ⟨rfl, by rw [e]; exact hq F H _ _ S (Post.refl hs) (.bl _) k⟩
theorem rw_eqS {i j : Str} (k : Φ (.bl (decide (i = j))) S) : R2W K rEq (.str i) (.str j) S Φ := fun F H vx vy Q hs rx ry hq => by
  cases rx; cases ry
  have e : decide (V.str i = V.str j) = decide (i = j) := by simp
  exact ⟨rfl, by rw [e]; exact hq F H _ _ S (Post.refl hs) (.bl _) k⟩
theorem rw_neS {i j : Str} (k : Φ (.bl (!decide (i = j))) S) : R2W K rNe (.str i) (.str j) S Φ := fun F H vx vy Q hs rx ry hq => by
  cases rx; cases ry
  have e : decide (V.str i = V.str j) = decide (i = j) := by simp
  exact ⟨rfl, by rw [e]; exact hq F H _ _ S (Post.refl hs) (.bl _) k⟩
theorem rw_eqB {i j : Bool} (k : Φ (.bl (decide (i = j))) S) : R2W K rEq (.bl i) (.bl j) S Φ := fun F H vx vy Q hs rx ry hq => by
  cases rx; cases ry
  have e : decide (V.bl i = V.bl j) = decide (i = j) := by simp
  exact ⟨rfl, by rw [e]; exact hq F H _ _ S (Post.refl hs) (.bl _) k⟩
theorem rw_neB {i j : Bool} (k : Φ (.bl (!decide (i = j))) S) : R2W K rNe (.bl i) (.bl j) S Φ := fun F H vx vy Q hs rx ry hq => by
  cases rx; cases ry
  have e : decide (V.bl i = V.bl j) = decide (i = j) := by simp
  exact ⟨rfl, by rw [e]; exact hq F H _ _ S (Post.refl hs) (.bl _) k⟩

/-! ### sequences -/
/-- x is the sequence ds: a list or tuple that stands still, or a list of the store -/
inductive SeqOf (S : Store) : D → List D → Prop
  | l {ds : List D} : SeqOf S (.lst ds) ds
  | t {ds : List D} : SeqOf S (.tup ds) ds
  | s {ds : List D} : SeqOf S (.sq ds) ds
  | r {p : Addr} {ds : List D} (h : S p = some (.lst ds)) : SeqOf S (.ref p) ds
/-- a list -/
inductive LstOf (S : Store) : D → List D → Prop
  | l {ds : List D} : LstOf S (.lst ds) ds
  | r {p : Addr} {ds : List D} (h : S p = some (.lst ds)) : LstOf S (.ref p) ds
theorem SeqOf.get {F H : Hp} {vx : V} {ds : List D} (h : SeqOf S x ds) (hs : SatS K F H S) (r : Rep K F vx x) : ∃ a vs, vx = .ref a ∧ RepL K F vs ds ∧ (SqL K H a vs ∨ SqT K H a vs) := by
  cases h with
  | l => cases r with | lst h hl hr => exact ⟨_, _, rfl, ⟨hl, hr⟩, .inl (SqL.of (hs.ext _ _ h))⟩
  | t => cases r with | tup h hl hr => exact ⟨_, _, rfl, ⟨hl, hr⟩, .inr (same_t hs.ext h)⟩
  | s => cases r with | sq h hl hr => exact ⟨_, _, rfl, ⟨hl, hr⟩, .inl (hs.ext.seq h)⟩
  | r h =>
    cases r
    obtain ⟨vs, h1, h2⟩ := hs.cell _ _ h
    exact ⟨_, vs, rfl, h2, .inl (SqL.of h1)⟩
theorem LstOf.get {F H : Hp} {vx : V} {ds : List D} (h : LstOf S x ds) (hs : SatS K F H S) (r : Rep K F vx x) : ∃ a vs, vx = .ref a ∧ RepL K F vs ds ∧ H a = some (.lst vs) := by
  cases h with
  | l => cases r with | lst h hl hr => exact ⟨_, _, rfl, ⟨hl, hr⟩, hs.ext _ _ h⟩
  | r h =>
    cases r
    obtain ⟨vs, h1, h2⟩ := hs.cell _ _ h
    exact ⟨_, vs, rfl, h2, h1⟩
/-- x[i] -/
def rIxU (K : PySem.W.Frag) : R2 := rOr (rIxL K) (rIxT K)
theorem ix_U {X : Cx} : IxR X (rIxU X.K) := by
  intro value slice pins s σ H x y v u Q I rx ry h hs
  rcases h with h | h
  · exact ix_list value slice pins s σ H x y v u Q I rx ry h hs
  · exact ix_tup value slice pins s σ H x y v u Q I rx ry h hs
theorem rw_ix {ds : List D} {i : Int} (h : SeqOf S x ds) (ha : atI ds i = some d) (k : Φ d S) : R2W K (rIxU K) x (.int i) S Φ := fun F H vx vy Q hs rx ry hq => by
  cases ry
  obtain ⟨a, vs, rfl, rl, hq1⟩ := h.get hs rx
  have hv : ∃ v, atI vs i = some v ∧ Rep K F v d := by
    unfold atI at ha ⊢
    rw [rl.1]
    cases e : ixN ds.length i with
    | none => rw [e] at ha; cases ha
    | some j =>
      rw [e] at ha
      exact rl.get ha
  obtain ⟨v, e, r⟩ := hv
  rcases hq1 with q | q
  · exact .inl ⟨a, vs, i, v, rfl, rfl, q, e, hq F H v d S (Post.refl hs) r k⟩
  · exact .inr ⟨a, vs, i, v, rfl, rfl, q, e, hq F H v d S (Post.refl hs) r k⟩
theorem at_nat {α : Type} {xs : List α} {i : Int} (h0 : 0 ≤ i) {x : α} (h : xs[i.toNat]? = some x) : atI xs i = some x := by
  have hl := (List.getElem?_eq_some_iff.mp h).1
  unfold atI ixN
  rw [if_pos h0, if_pos (by omega)]
  exact h
theorem at_map {α : Type} {f : α → D} {xs : List α} {i : Int} (dflt : α) (h0 : 0 ≤ i) (h1 : i < xs.length) : atI (xs.map f) i = some (f (xs.getD i.toNat dflt)) := by
  refine at_nat h0 ?_
  have h2 : i.toNat < xs.length := by omega
  rw [List.getElem?_map, List.getElem?_eq_getElem h2, List.getD_eq_getElem?_getD, List.getElem?_eq_getElem h2]
  rfl
/-- xs[i] of a list of things of one kind -/
theorem rw_ixm {α : Type} {f : α → D} {xs : List α} {i : Int} (dflt : α) (h : SeqOf S x (xs.map f)) (h0 : 0 ≤ i) (h1 : i < xs.length) (k : Φ (f (xs.getD i.toNat dflt)) S) : R2W K (rIxU K) x (.int i) S Φ := rw_ix h (at_map dflt h0 h1) k

/-! ### arguments, displays, calls of builtins -/
theorem wa_nil {Φ : List D → Store → Prop} (k : Φ [] S) : WA K tNil S Γ Φ := fun F H σ Q hs hg hq => hq F H [] [] S (Post.refl hs) .nil k
theorem wa_cons {Φ : List D → Store → Prop} {tr : TA} (h : WE K ta S Γ fun x S1 => WA K tr S1 Γ fun xs S2 => Φ (x :: xs) S2) : WA K (tCons ta tr) S Γ Φ := fun F H σ Q hs hg hq =>
  h F H σ _ hs hg fun F1 H1 vx x S1 p1 r1 h1 => h1 F1 H1 σ _ p1.sat (hg.mono p1.same) fun F2 H2 vs xs S2 p2 r2 f => hq F2 H2 (vx :: vs) (x :: xs) S2 (p1.trans p2) (.cons (r1.mono p2.same) r2) f
theorem w_tup {t : TA} (h : WA K t S Γ fun ds S1 => ds.length ≤ 1000000 ∧ Φ (.tup ds) S1) : WE K (tTup t) S Γ Φ := fun F H σ Q hs hg hq =>
  h F H σ _ hs hg fun F1 H1 vs ds S1 p1 r1 ⟨hl, f⟩ => ⟨ln (by rw [r1.1]; exact hl), fun p hp => hq _ _ (.ref p) (.tup ds) S1 (p1.trans (Post.newF p1.sat hp)) (.tup (SqT.of upd_same) r1.1 fun i v d e1 e2 => (r1.2 i v d e1 e2).mono (same_upd (p1.sat.ext.free hp))) f⟩
/-- a list that will stand still -/
theorem w_lst {t : TA} (h : WA K t S Γ fun ds S1 => ds.length ≤ 1000000 ∧ Φ (.lst ds) S1) : WE K (tLst t) S Γ Φ := fun F H σ Q hs hg hq =>
  h F H σ _ hs hg fun F1 H1 vs ds S1 p1 r1 ⟨hl, f⟩ => ⟨ln (by rw [r1.1]; exact hl), fun p hp => hq _ _ (.ref p) (.lst ds) S1 (p1.trans (Post.newF p1.sat hp)) (.lst upd_same r1.1 fun i v d e1 e2 => (r1.2 i v d e1 e2).mono (same_upd (p1.sat.ext.free hp))) f⟩
/-- a list that will change -/
def tLstM : TA → TE := tLst
theorem w_lstM {t : TA} (h : WA K t S Γ fun ds S1 => ds.length ≤ 1000000 ∧ ∀ p, S1 p = none → Φ (.ref p) (stU S1 p (.lst ds))) : WE K (tLstM t) S Γ Φ := fun F H σ Q hs hg hq =>
  h F H σ _ hs hg fun F1 H1 vs ds S1 p1 r1 ⟨hl, f⟩ => ⟨ln (by rw [r1.1]; exact hl), fun p hp => hq _ _ (.ref p) (.ref p) _ (p1.trans (Post.newS (c := .lst ds) p1.sat hp ⟨vs, upd_same, r1⟩)) (.ref p) (f p (p1.sat.no hp))⟩
theorem w_cb {r : List V → Hp → VK → Prop} {t : TA} (h : WA K t S Γ fun xs S1 => RLW K r xs S1 Φ) : WE K (tCB r t) S Γ Φ := fun F H σ Q hs hg hq =>
  h F H σ _ hs hg fun F1 H1 vs xs S1 p1 r1 h1 => h1 F1 H1 vs Q p1.sat r1 fun F3 H3 v d S3 p3 r3 f => hq F3 H3 v d S3 (p1.trans p3) r3 f
/-- the value of an expression, made to change from now on: M marks -/
def tMut (t : TE) : TE := t

def rLenQ (K : PySem.W.Frag) : List V → Hp → VK → Prop := fun xs H Q => ∃ p ys, xs = [.ref p] ∧ (SqL K H p ys ∨ SqT K H p ys) ∧ Q (.int ys.length) H
theorem call_lenQ {X : Cx} : CallR X (.builtin "len") (rLenQ X.K) := call_len_seq
theorem rw_len {ds : List D} (h : SeqOf S x ds) (k : Φ (.int ds.length) S) : RLW K (rLenQ K) [x] S Φ := fun F H vs Q hs rl hq => by
  obtain ⟨vx, r, rfl, r1, r2⟩ := rl.uncons
  rw [r2.unnil]
  obtain ⟨a, ws, rfl, q, hq1⟩ := h.get hs r1
  exact ⟨a, ws, rfl, hq1, by rw [q.1]; exact hq F H _ _ S (Post.refl hs) (.int _) k⟩
def rAbsQ : List V → Hp → VK → Prop := fun xs H Q => ∃ i, xs = [.int i] ∧ Q (.int (if i < 0 then -i else i)) H
theorem call_absQ {X : Cx} : CallR X (.builtin "abs") rAbsQ := call_abs
theorem rw_abs {i : Int} (k : Φ (.int (i.natAbs : Int)) S) : RLW K rAbsQ [.int i] S Φ := fun F H vs Q hs rl hq => by
  obtain ⟨vx, r, rfl, r1, r2⟩ := rl.uncons
  rw [r2.unnil]
  cases r1
  have e : (if i < 0 then -i else i) = (i.natAbs : Int) := by split <;> omega
  exact ⟨i, rfl, by rw [e]; exact hq F H _ _ S (Post.refl hs) (.int _) k⟩
def rMax2Q : List V → Hp → VK → Prop := fun xs H Q => ∃ i j, xs = [.int i, .int j] ∧ Q (.int (if j > i then j else i)) H
theorem call_max2Q {X : Cx} (hc : X.calm = true) : CallR X (.builtin "max") rMax2Q := call_max2 hc
theorem rw_max2 {i j : Int} (k : Φ (.int (max i j)) S) : RLW K rMax2Q [.int i, .int j] S Φ := fun F H vs Q hs rl hq => by
  obtain ⟨vx, r, rfl, r1, r2⟩ := rl.uncons
  obtain ⟨vy, r', rfl, r3, r4⟩ := r2.uncons
  rw [r4.unnil]
  cases r1; cases r3
  have e : (if j > i then j else i) = max i j := by split <;> omega
  exact ⟨i, j, rfl, by rw [e]; exact hq F H _ _ S (Post.refl hs) (.int _) k⟩
def rMin2Q : List V → Hp → VK → Prop := fun xs H Q => ∃ i j, xs = [.int i, .int j] ∧ Q (.int (if j < i then j else i)) H
theorem call_min2Q {X : Cx} (hc : X.calm = true) : CallR X (.builtin "min") rMin2Q := call_min2 hc
theorem rw_min2 {i j : Int} (k : Φ (.int (min i j)) S) : RLW K rMin2Q [.int i, .int j] S Φ := fun F H vs Q hs rl hq => by
  obtain ⟨vx, r, rfl, r1, r2⟩ := rl.uncons
  obtain ⟨vy, r', rfl, r3, r4⟩ := r2.uncons
  rw [r4.unnil]
  cases r1; cases r3
  have e : (if j < i then j else i) = min i j := by split <;> omega
  exact ⟨i, j, rfl, by rw [e]; exact hq F H _ _ S (Post.refl hs) (.int _) k⟩
def rIntQ : List V → Hp → VK → Prop := fun xs H Q => (∃ i, xs = [.int i] ∧ Q (.int i) H) ∨ ∃ k, xs = [.bl k] ∧ Q (.int (if k then 1 else 0)) H
theorem call_intQ {X : Cx} : CallR X (.type "int") rIntQ := call_int1
theorem rw_int {i : Int} (k : Φ (.int i) S) : RLW K rIntQ [.int i] S Φ := fun F H vs Q hs rl hq => by
  obtain ⟨vx, r, rfl, r1, r2⟩ := rl.uncons
  rw [r2.unnil]
  cases r1
  exact .inl ⟨i, rfl, hq F H _ _ S (Post.refl hs) (.int _) k⟩
def rListQ (K : PySem.W.Frag) : List V → Hp → VK → Prop := fun xs H Q => ∃ p ys, xs = [.ref p] ∧ (SqL K H p ys ∨ SqT K H p ys) ∧ ∀ l, H l = none → Q (.ref l) (upd H l (.lst ys))
theorem call_listQ {X : Cx} : CallR X (.type "list") (rListQ X.K) := call_list_of
theorem rw_list {ds : List D} (h : SeqOf S x ds) (k : Φ (.lst ds) S) : RLW K (rListQ K) [x] S Φ := fun F H vs Q hs rl hq => by
  obtain ⟨vx, r, rfl, r1, r2⟩ := rl.uncons
  rw [r2.unnil]
  obtain ⟨a, ws, rfl, q, hq1⟩ := h.get hs r1
  exact ⟨a, ws, rfl, hq1, fun l hl => hq _ _ (.ref l) (.lst ds) S (Post.newF hs hl) (.lst upd_same q.1 fun i v d e1 e2 => (q.2 i v d e1 e2).mono (same_upd (hs.ext.free hl))) k⟩
def rListM (K : PySem.W.Frag) : List V → Hp → VK → Prop := rListQ K
theorem rw_listM {ds : List D} (h : SeqOf S x ds) (k : ∀ p, S p = none → Φ (.ref p) (stU S p (.lst ds))) : RLW K (rListM K) [x] S Φ := fun F H vs Q hs rl hq => by
  obtain ⟨vx, r, rfl, r1, r2⟩ := rl.uncons
  rw [r2.unnil]
  obtain ⟨a, ws, rfl, q, hq1⟩ := h.get hs r1
  exact ⟨a, ws, rfl, hq1, fun l hl => hq _ _ (.ref l) (.ref l) _ (Post.newS (c := .lst ds) hs hl ⟨ws, upd_same, q⟩) (.ref l) (k l (hs.no hl))⟩
def rTupleQ (K : PySem.W.Frag) : List V → Hp → VK → Prop := fun xs H Q => ∃ p ys, xs = [.ref p] ∧ ((SqL K H p ys ∧ ∀ l, H l = none → Q (.ref l) (upd H l (.tup ys))) ∨ (SqT K H p ys ∧ Q (.ref p) H))
theorem call_tupleQ {X : Cx} : CallR X (.type "tuple") (rTupleQ X.K) := call_tuple_of
theorem rw_tuple {ds : List D} (h : SeqOf S x ds) (k : Φ (.tup ds) S) : RLW K (rTupleQ K) [x] S Φ := fun F H vs Q hs rl hq => by
  obtain ⟨vx, r, rfl, r1, r2⟩ := rl.uncons
  rw [r2.unnil]
  have fin : ∀ a ws, RepL K F ws ds → SqL K H a ws → (∃ p ys, [V.ref a] = [.ref p] ∧ ((SqL K H p ys ∧ ∀ l, H l = none → Q (.ref l) (upd H l (.tup ys))) ∨ (SqT K H p ys ∧ Q (.ref p) H))) := fun a ws q z =>
    ⟨a, ws, rfl, .inl ⟨z, fun l hl => hq _ _ (.ref l) (.tup ds) S (Post.newF hs hl) (.tup (SqT.of upd_same) q.1 fun i v d e1 e2 => (q.2 i v d e1 e2).mono (same_upd (hs.ext.free hl))) k⟩⟩
  cases h with
  | l => cases r1 with | lst h hl hr => exact fin _ _ ⟨hl, hr⟩ (SqL.of (hs.ext _ _ h))
  | t =>
    have old := r1
    cases r1 with | tup h hl hr => exact ⟨_, _, rfl, .inr ⟨same_t hs.ext h, hq F H _ _ S (Post.refl hs) old k⟩⟩
  | s => cases r1 with | sq h hl hr => exact fin _ _ ⟨hl, hr⟩ (hs.ext.seq h)
  | r h =>
    cases r1
    obtain ⟨ws, h1, h2⟩ := hs.cell _ _ h
    exact fin _ _ h2 (SqL.of h1)

/-! ### slices -/
theorem wo_none {Φ : Option Int → Store → Prop} (k : Φ none S) : WO K tNoPart S Γ Φ := fun F H σ Q hs hg hq => hq F H none S (Post.refl hs) k
theorem wo_some {Φ : Option Int → Store → Prop} {t : TE} (h : WE K t S Γ fun d S1 => ∃ i, d = .int i ∧ Φ (some i) S1) : WO K (tPart t) S Γ Φ := fun F H σ Q hs hg hq =>
  h F H σ _ hs hg fun F' H' v d S' p r ⟨i, e, f⟩ => by
    subst e
    cases r
    exact ⟨i, rfl, hq F' H' (some i) S' p f⟩
def RCW (K : PySem.W.Frag) (r : V → Option Int → Option Int → Hp → VK → Prop) (x : D) (lo hi : Option Int) (S : Store) (Φ : D → Store → Prop) : Prop := ∀ (F H : Hp) (vx : V) (Q : VK), SatS K F H S → Rep K F vx x →
  (∀ F' H' v d S', Post K F H S F' H' S' → Rep K F' v d → Φ d S' → Q v H') → r vx lo hi H Q
theorem w_sl {r : V → Option Int → Option Int → Hp → VK → Prop} {tl th : TO} (h : WE K te S Γ fun x S1 => WO K tl S1 Γ fun lo S2 => WO K th S2 Γ fun hi S3 => RCW K r x lo hi S3 Φ) : WE K (tSl r te tl th) S Γ Φ := fun F H σ Q hs hg hq =>
  h F H σ _ hs hg fun F1 H1 vx x S1 p1 r1 h1 => h1 F1 H1 σ _ p1.sat (hg.mono p1.same) fun F2 H2 lo S2 p2 h2 => h2 F2 H2 σ _ p2.sat ((hg.mono p1.same).mono p2.same) fun F3 H3 hi S3 p3 h3 =>
    h3 F3 H3 vx Q p3.sat ((r1.mono p2.same).mono p3.same) fun F4 H4 v d S4 p4 r4 f => hq F4 H4 v d S4 (((p1.trans p2).trans p3).trans p4) r4 f
/-- xs[lo:hi] -/
def cutD {α : Type} (xs : List α) (lo hi : Option Int) : List α := (xs.drop (HT.sIx xs.length 0 lo)).take (HT.sIx xs.length xs.length hi - HT.sIx xs.length 0 lo)
theorem cutD_map {α β : Type} {f : α → β} {xs : List α} {lo hi : Option Int} : cutD (xs.map f) lo hi = (cutD xs lo hi).map f := by
  unfold cutD
  rw [List.length_map, List.map_take, List.map_drop]
theorem cutD_to {α : Type} {xs : List α} {k : Int} (h : 0 ≤ k) : cutD xs none (some k) = xs.take k.toNat := by
  obtain ⟨n, rfl⟩ := Int.eq_ofNat_of_zero_le h
  unfold cutD
  rw [HT.sIx_none, HT.sIx_nat, List.drop_zero, Nat.sub_zero, Int.toNat_natCast]
  by_cases hn : n ≤ xs.length
  · rw [Nat.min_eq_left hn]
  · rw [Nat.min_eq_right (by omega), List.take_length, List.take_of_length_le (by omega)]
theorem cutD_from {α : Type} {xs : List α} {k : Int} (h : 0 ≤ k) : cutD xs (some k) none = xs.drop k.toNat := by
  obtain ⟨n, rfl⟩ := Int.eq_ofNat_of_zero_le h
  unfold cutD
  rw [HT.sIx_none, HT.sIx_nat, Int.toNat_natCast]
  by_cases hn : n ≤ xs.length
  · rw [Nat.min_eq_left hn, List.take_of_length_le (by simp)]
  · rw [Nat.min_eq_right (by omega), List.drop_of_length_le (by omega), List.drop_of_length_le (by omega)]
    simp
theorem cutD_mid {α : Type} {xs : List α} {j k : Int} (h : 0 ≤ j) (h' : 0 ≤ k) : cutD xs (some j) (some k) = (xs.drop j.toNat).take (k.toNat - j.toNat) := by
  obtain ⟨m, rfl⟩ := Int.eq_ofNat_of_zero_le h
  obtain ⟨n, rfl⟩ := Int.eq_ofNat_of_zero_le h'
  unfold cutD
  rw [HT.sIx_nat, HT.sIx_nat, Int.toNat_natCast, Int.toNat_natCast]
  by_cases hm : m ≤ xs.length
  · rw [Nat.min_eq_left hm]
    by_cases hn : n ≤ xs.length
    · rw [Nat.min_eq_left hn]
    · rw [Nat.min_eq_right (show xs.length ≤ n by omega), List.take_of_length_le (by simp), List.take_of_length_le (by simp; omega)]
  · have e1 : xs.drop (min m xs.length) = [] := List.drop_of_length_le (by omega)
    have e2 : xs.drop m = [] := List.drop_of_length_le (by omega)
    rw [e1, e2]
    simp
theorem RepL.cut {F : Hp} {vs : List V} {ds : List D} {lo hi : Option Int} (h : RepL K F vs ds) : RepL K F (cutV vs lo hi) (cutD ds lo hi) := by
  unfold cutV cutD
  rw [h.1]
  exact (h.drop _).take _
def rSlU (K : PySem.W.Frag) : V → Option Int → Option Int → Hp → VK → Prop := fun x lo hi H Q => rSlL K x lo hi H Q ∨ rSlA K x lo hi H Q
theorem sl_U {X : Cx} : SlR X (rSlU X.K) := SlR.or sl_list sl_tupA
theorem rc_lst {ds : List D} {lo hi : Option Int} (h : SeqOf S x ds) (hn : ∀ es, x ≠ .tup es) (k : Φ (.lst (cutD ds lo hi)) S) : RCW K (rSlU K) x lo hi S Φ := fun F H vx Q hs rx hq => by
  have fin : ∀ a ws, RepL K F ws ds → SqL K H a ws → rSlU K (.ref a) lo hi H Q := fun a ws q z => .inl ⟨a, ws, rfl, z, fun p hp => hq _ _ (.ref p) (.lst (cutD ds lo hi)) S (Post.newF hs hp) (.lst upd_same q.cut.1 fun i v d e1 e2 => (q.cut.2 i v d e1 e2).mono (same_upd (hs.ext.free hp))) k⟩
  cases h with
  | l => cases rx with | lst h hl hr => exact fin _ _ ⟨hl, hr⟩ (SqL.of (hs.ext _ _ h))
  | t => exact absurd rfl (hn _)
  | s => cases rx with | sq h hl hr => exact fin _ _ ⟨hl, hr⟩ (hs.ext.seq h)
  | r h =>
    cases rx
    obtain ⟨ws, h1, h2⟩ := hs.cell _ _ h
    exact fin _ _ h2 (SqL.of h1)
theorem rc_tup {ds : List D} {lo hi : Option Int} (k : Φ (.tup (cutD ds lo hi)) S) : RCW K (rSlU K) (.tup ds) lo hi S Φ := fun F H vx Q hs rx hq => by
  have old := rx
  cases rx with
  | tup h hl hr =>
    rename_i a vs
    have q : RepL K F vs ds := ⟨hl, hr⟩
    refine .inr ⟨a, vs, rfl, same_t hs.ext h, fun hw => ?_, fun _ p hp => hq _ _ (.ref p) (.tup (cutD ds lo hi)) S (Post.newF hs hp) (.tup (SqT.of upd_same) q.cut.1 fun i v d e1 e2 => (q.cut.2 i v d e1 e2).mono (same_upd (hs.ext.free hp))) k⟩
    have e : cutD ds lo hi = ds := by
      unfold cutD
      rw [← q.1, hw.1, hw.2, List.drop_zero, Nat.sub_zero, q.1, List.take_length]
    exact hq F H _ (.tup (cutD ds lo hi)) S (Post.refl hs) (by rw [e]; exact old) k

/-! ### changing lists -/
theorem rs_set {p : Addr} {ds : List D} {i : Int} {j : Nat} {Φ : Store → Prop} (h : S p = some (.lst ds)) (hi : ixN ds.length i = some j) (k : Φ (stU S p (.lst (ds.set j x)))) : RSW K rSetL (.ref p) (.int i) x S Φ := fun F H vo vi vx Q hs ro ri rx hq => by
  cases ro; cases ri
  obtain ⟨vs, h1, h2⟩ := hs.cell _ _ h
  refine ⟨p, vs, i, j, rfl, rfl, h1, by rw [h2.1]; exact hi, hq _ _ _ (Post.write (c := .lst (ds.set j x)) hs h ⟨_, upd_same, h2.set rx⟩) k⟩
theorem ix_nat {n : Nat} {i : Int} (h0 : 0 ≤ i) (h1 : i < n) : ixN n i = some i.toNat := by
  unfold ixN
  rw [if_pos h0, if_pos h1]
theorem w_append {p : Addr} {ds : List D} (h : WE K to S Γ fun o S1 => ∃ p ds0, o = .ref p ∧ S1 p = some (.lst ds0) ∧ WE K te S1 Γ fun x S2 => ∃ ds, S2 p = some (.lst ds) ∧ ds.length < 1000000 ∧ Φ .non (stU S2 p (.lst (ds ++ [x])))) : WE K (tBM K "list" rAppend to (tCons te tNil)) S Γ Φ := fun F H σ Q hs hg hq =>
  h F H σ _ hs hg fun F1 H1 vx x S1 p1 r1 ⟨p, ds0, e, h0, h1⟩ => by
    subst e
    cases r1
    obtain ⟨ws, hw, _⟩ := p1.sat.cell _ _ h0
    refine ⟨.inl ⟨rfl, _, SqL.of hw⟩, h1 F1 H1 σ _ p1.sat (hg.mono p1.same) fun F2 H2 vy y S2 p2 r2 ⟨ds, h2, hl, f⟩ => ?_⟩
    obtain ⟨vs, hv, rv⟩ := p2.sat.cell _ _ h2
    refine ⟨p, vs, vy, rfl, rfl, hv, lnl (by rw [rv.1]; omega), ?_⟩
    exact hq _ _ _ _ _ ((p1.trans p2).trans (Post.write (c := .lst (ds ++ [y])) p2.sat h2 ⟨_, upd_same, rv.append (.cons r2 .nil)⟩)) .non f
theorem w_extend (h : WE K to S Γ fun o S1 => ∃ p ds0, o = .ref p ∧ S1 p = some (.lst ds0) ∧ WE K te S1 Γ fun x S2 => ∃ ds es, LstOf S2 x es ∧ S2 p = some (.lst ds) ∧ ds.length + es.length ≤ 1000000 ∧ Φ .non (stU S2 p (.lst (ds ++ es)))) : WE K (tBM K "list" rExtend to (tCons te tNil)) S Γ Φ := fun F H σ Q hs hg hq =>
  h F H σ _ hs hg fun F1 H1 vx x S1 p1 r1 ⟨p, ds0, e, h0, h1⟩ => by
    subst e
    cases r1
    obtain ⟨ws, hw, _⟩ := p1.sat.cell _ _ h0
    refine ⟨.inl ⟨rfl, _, SqL.of hw⟩, h1 F1 H1 σ _ p1.sat (hg.mono p1.same) fun F2 H2 vy y S2 p2 r2 ⟨ds, es, hx, h2, hl, f⟩ => ?_⟩
    obtain ⟨vs, hv, rv⟩ := p2.sat.cell _ _ h2
    obtain ⟨b, zs, rfl, rz, hz⟩ := hx.get p2.sat r2
    refine ⟨p, b, vs, zs, rfl, rfl, hv, hz, ln (by rw [rv.1, rz.1]; exact hl), ?_⟩
    exact hq _ _ _ _ _ ((p1.trans p2).trans (Post.write (c := .lst (ds ++ es)) p2.sat h2 ⟨_, upd_same, rv.append rz⟩)) .non f
theorem w_pop (h : WE K to S Γ fun o S1 => ∃ p ds d, o = .ref p ∧ S1 p = some (.lst ds) ∧ ds[ds.length - 1]? = some d ∧ Φ d (stU S1 p (.lst ds.dropLast))) : WE K (tBM0 K "list" rPop to) S Γ Φ := fun F H σ Q hs hg hq =>
  h F H σ _ hs hg fun F1 H1 vx x S1 p1 r1 ⟨p, ds, d, e, h1, hd, f⟩ => by
    subst e
    cases r1
    obtain ⟨vs, hv, rv⟩ := p1.sat.cell _ _ h1
    obtain ⟨v, e1, r⟩ := rv.get hd
    refine ⟨.inl ⟨rfl, _, SqL.of hv⟩, p, vs, v, rfl, rfl, hv, by rw [rv.1]; exact e1, ?_⟩
    exact hq _ _ _ _ _ (p1.trans (Post.write (c := .lst ds.dropLast) p1.sat h1 ⟨_, upd_same, rv.dropLast⟩)) r f
theorem w_popAt (h : WE K to S Γ fun o S1 => ∃ p ds0, o = .ref p ∧ S1 p = some (.lst ds0) ∧ WE K te S1 Γ fun i S2 => ∃ ds d j, i = .int j ∧ 0 ≤ j ∧ S2 p = some (.lst ds) ∧ ds[j.toNat]? = some d ∧ ds.length ≤ 1000000 ∧ Φ d (stU S2 p (.lst (ds.eraseIdx j.toNat)))) : WE K (tBM K "list" rPopAt to (tCons te tNil)) S Γ Φ := fun F H σ Q hs hg hq =>
  h F H σ _ hs hg fun F1 H1 vx x S1 p1 r1 ⟨p, ds0, e, h0, h1⟩ => by
    subst e
    cases r1
    obtain ⟨ws, hw, _⟩ := p1.sat.cell _ _ h0
    refine ⟨.inl ⟨rfl, _, SqL.of hw⟩, h1 F1 H1 σ _ p1.sat (hg.mono p1.same) fun F2 H2 vy y S2 p2 r2 ⟨ds, d, j, e, hj, h2, hd, hl, f⟩ => ?_⟩
    subst e
    cases r2
    obtain ⟨vs, hv, rv⟩ := p2.sat.cell _ _ h2
    obtain ⟨v, e1, r⟩ := rv.get hd
    have hlt : j.toNat < vs.length := (List.getElem?_eq_some_iff.mp e1).1
    have hl' : vs.length ≤ 1000000 := by rw [rv.1]; exact hl
    refine ⟨p, vs, j, j.toNat, v, rfl, rfl, hv, by omega, by omega, ?_, e1, ?_⟩
    · unfold seqIndex?
      simp [show ¬ j < 0 by omega, show ¬ ((vs.length : Int) ≤ j) by omega]
    · exact hq _ _ _ _ _ ((p1.trans p2).trans (Post.write (c := .lst (ds.eraseIdx j.toNat)) p2.sat h2 ⟨_, upd_same, rv.eraseIdx _⟩)) r f
end
end Tw

set_option Elab.async false
set_option linter.all false
set_option maxRecDepth 100000
set_option maxHeartbeats 4000000
/-! Rules: fields, calls, tests, statements, loops, comprehensions. -/
namespace Tw
open PySem L2

section
variable {K : PySem.W.Frag} {S S' S1 : Store} {Γ Γ' : Env} {Φ Φ' : D → Store → Prop} {ta tb tc te to : TE} {x y z d : D} {σ : L2.St}
/-! ### fields -/
inductive InsOf (S : Store) : D → Addr → List Str → List D → Prop
  | o {C : Addr} {ns : List Str} {ds : List D} : InsOf S (.obj C ns ds) C ns ds
  | r {p C : Addr} {ns : List Str} {ds : List D} (h : S p = some (.ins C ns ds)) : InsOf S (.ref p) C ns ds
theorem InsOf.get {F H : Hp} {vx : V} {C : Addr} {ns : List Str} {ds : List D} (h : InsOf S x C ns ds) (hs : SatS K F H S) (r : Rep K F vx x) : ∃ a dx fs, vx = .ref a ∧ H a = some (.ins C dx fs) ∧ fs.map (·.1) = ns ∧ RepL K F (fs.map (·.2)) ds := by
  cases h with
  | o => cases r with | obj h hl hr => exact ⟨_, _, _, rfl, hs.ext _ _ h, rfl, ⟨by rw [List.length_map]; exact hl, hr⟩⟩
  | r h =>
    cases r
    obtain ⟨dx, fs, h1, h2, h3⟩ := hs.cell _ _ h
    exact ⟨_, dx, fs, rfl, h1, h2, h3⟩
theorem lookup_fld {F : Hp} {f : Str} {d : D} : ∀ {fs : List (Str × V)} {ds : List D}, RepL K F (fs.map (·.2)) ds → ((fs.map (·.1)).zip ds).lookup f = some d → ∃ v, fs.lookup f = some v ∧ Rep K F v d
  | [], _, _, h => by simp at h
  | (g, v) :: r, [], q, _ => absurd q.1 (by simp)
  | (g, v) :: r, e :: ds, q, h => by
    obtain ⟨v', r', e1, h1, h2⟩ := q.uncons
    obtain ⟨rfl, rfl⟩ := List.cons.inj e1
    simp only [List.map_cons, List.zip_cons_cons, List.lookup_cons] at h ⊢
    cases hg : (f == g) with
    | true =>
      rw [hg] at h
      cases h
      exact ⟨v, rfl, h1⟩
    | false =>
      rw [hg] at h
      exact lookup_fld h2 h
theorem lookup_nofld {f : Str} : ∀ {fs : List (Str × V)}, f ∉ fs.map (·.1) → fs.lookup f = none
  | [], _ => rfl
  | (g, v) :: r, h => by
    simp only [List.map_cons, List.mem_cons, not_or] at h
    rw [List.lookup_cons, show (f == g) = false by simpa using h.1]
    exact lookup_nofld h.2
theorem putF_new {f : Str} {v : V} : ∀ {fs : List (Str × V)}, f ∉ fs.map (·.1) → putF f v fs = fs ++ [(f, v)]
  | [], _ => rfl
  | (g, w) :: r, h => by
    simp only [List.map_cons, List.mem_cons, not_or] at h
    show (if g = f then _ else _) = _
    rw [if_neg (fun e => h.1 e.symm), putF_new h.2]
    rfl
theorem putF_old {f : Str} {v : V} : ∀ {fs : List (Str × V)} {i : Nat}, (fs.map (·.1))[i]? = some f → (fs.map (·.1)).Nodup → (putF f v fs).map (·.1) = fs.map (·.1) ∧ (putF f v fs).map (·.2) = (fs.map (·.2)).set i v
  | [], _, h, _ => by simp at h
  | (g, w) :: r, 0, h, nd => by
    simp only [List.map_cons, List.getElem?_cons_zero, Option.some.injEq] at h
    subst h
    show ((if g = g then _ else _ : List (Str × V))).map _ = _ ∧ _
    rw [if_pos rfl]
    constructor
    · rfl
    · show ((if g = g then _ else _ : List (Str × V))).map _ = _
      rw [if_pos rfl]
      rfl
  | (g, w) :: r, i + 1, h, nd => by
    simp only [List.map_cons, List.getElem?_cons_succ] at h
    simp only [List.map_cons, List.nodup_cons] at nd
    have ne : ¬ g = f := fun e => nd.1 (by rw [e]; exact List.mem_of_getElem? h)
    obtain ⟨h1, h2⟩ := putF_old (v := v) h nd.2
    constructor
    · show ((if g = f then _ else _ : List (Str × V))).map _ = _
      rw [if_neg ne]
      simp [h1]
    · show ((if g = f then _ else _ : List (Str × V))).map _ = _
      rw [if_neg ne]
      simp [h2]
/-- e.f -/
theorem w_fld {f : Str} (h : WE K te S Γ fun x S1 => ∃ C ns ds d, InsOf S1 x C ns ds ∧ Cls K C ∧ NoAttr K C f ∧ (ns.zip ds).lookup f = some d ∧ Φ d S1) : WE K (tFld K te f) S Γ Φ := fun F H σ Q hs hg hq =>
  h F H σ _ hs hg fun F1 H1 vx x S1 p1 r1 ⟨C, ns, ds, d, hi, hc, hn, hl, f1⟩ => by
    obtain ⟨a, dx, fs, rfl, ha, e, rl⟩ := hi.get p1.sat r1
    subst e
    obtain ⟨v, hv, rv⟩ := lookup_fld rl hl
    exact ⟨a, C, dx, fs, v, rfl, ha, hc, hn, hv, hq _ _ v d S1 p1 rv f1⟩
/-- e.NAME, a constant of the class -/
theorem w_con {f : Str} {v : V} {u : Value} (hv : ∀ F, Rep K F v d) (h : WE K te S Γ fun x S1 => ∃ C ns ds, InsOf S1 x C ns ds ∧ Cls K C ∧ Con K C f v u ∧ f ∉ ns ∧ Φ d S1) : WE K (tCon K te f) S Γ Φ := fun F H σ Q hs hg hq =>
  h F H σ _ hs hg fun F1 H1 vx x S1 p1 r1 ⟨C, ns, ds, hi, hc, hk, hn, f1⟩ => by
    obtain ⟨a, dx, fs, rfl, ha, e, rl⟩ := hi.get p1.sat r1
    subst e
    exact ⟨a, C, dx, fs, v, u, rfl, ha, hc, hk, lookup_nofld hn, hq _ _ v d S1 p1 (hv _) f1⟩
/-- e.f = value: a new field of an instance of the store -/
theorem ws_fld {f : Str} {Ψ : EndsD} (h : WE K te S Γ fun y S1 => WE K ta S1 Γ fun x S2 => ∃ p C ns ds, x = .ref p ∧ S2 p = some (.ins C ns ds) ∧ Cls K C ∧ NoAttr K C f ∧ f ∉ ns ∧ ns.length < 900 ∧ Ψ.nx (stU S2 p (.ins C (ns ++ [f]) (ds ++ [y]))) Γ) : WS K (sFld K ta te f) S Γ Ψ := fun F H σ D0 hs hg q1 q2 q3 q4 =>
  h F H σ _ hs hg fun F1 H1 vy y S1 p1 r1 h1 => h1 F1 H1 σ _ p1.sat (hg.mono p1.same) fun F2 H2 vx x S2 p2 r2 ⟨p, C, ns, ds, e, hp, hc, hn, hf, hl, k⟩ => by
    subst e
    cases r2
    obtain ⟨dx, fs, h1, h2, h3⟩ := p2.sat.cell _ _ hp
    subst h2
    have e : putF f vy fs = fs ++ [(f, vy)] := putF_new hf
    refine ⟨p, C, dx, fs, rfl, h1, hc, hn, by rw [List.length_map] at hl; omega, ?_⟩
    rw [e]
    refine q1 _ _ σ _ Γ ((p1.trans p2).trans (Post.write (c := .ins C (fs.map (·.1) ++ [f]) (ds ++ [y])) p2.sat hp ⟨dx, _, upd_same, by simp, ?_⟩)) ((hg.mono p1.same).mono p2.same) k
    rw [List.map_append]
    exact h3.append (.cons (r1.mono p2.same) .nil)
/-- .. a field that is there -/
theorem ws_fldO {f : Str} {Ψ : EndsD} (h : WE K te S Γ fun y S1 => WE K ta S1 Γ fun x S2 => ∃ p C ns ds i, x = .ref p ∧ S2 p = some (.ins C ns ds) ∧ Cls K C ∧ NoAttr K C f ∧ ns[i]? = some f ∧ ns.Nodup ∧ ns.length < 900 ∧ Ψ.nx (stU S2 p (.ins C ns (ds.set i y))) Γ) : WS K (sFld K ta te f) S Γ Ψ := fun F H σ D0 hs hg q1 q2 q3 q4 =>
  h F H σ _ hs hg fun F1 H1 vy y S1 p1 r1 h1 => h1 F1 H1 σ _ p1.sat (hg.mono p1.same) fun F2 H2 vx x S2 p2 r2 ⟨p, C, ns, ds, i, e, hp, hc, hn, hf, nd, hl, k⟩ => by
    subst e
    cases r2
    obtain ⟨dx, fs, h1, h2, h3⟩ := p2.sat.cell _ _ hp
    subst h2
    obtain ⟨e1, e2⟩ := putF_old (v := vy) hf nd
    refine ⟨p, C, dx, fs, rfl, h1, hc, hn, by rw [List.length_map] at hl; omega, ?_⟩
    refine q1 _ _ σ _ Γ ((p1.trans p2).trans (Post.write (c := .ins C (fs.map (·.1)) (ds.set i y)) p2.sat hp ⟨dx, _, upd_same, e1, ?_⟩)) ((hg.mono p1.same).mono p2.same) k
    rw [e2]
    exact h3.set (r1.mono p2.same)

/-! ### calls of defs -/
abbrev Spec := List D → Store → (D → Store → Prop) → Prop
def spOf (K : PySem.W.Frag) (sp : Spec) : Sp := fun vs H Q _ => ∃ F S ds Φ, SatS K F H S ∧ RepL K F vs ds ∧ sp ds S Φ ∧ ∀ F' H' v d S', Post K F H S F' H' S' → Rep K F' v d → Φ d S' → Q v H'
theorem w_call {sp : Spec} {E : XK} {t : TA} (h : WA K t S Γ fun ds S1 => sp ds S1 Φ) : WE K (tCall (spOf K sp) [] E t) S Γ Φ := fun F H σ Q hs hg hq =>
  h F H σ _ hs hg fun F1 H1 vs ds S1 p1 r1 f => ⟨F1, S1, ds, Φ, p1.sat, by rw [List.append_nil]; exact r1, f, fun F' H' v d S' p r k => hq F' H' v d S' (p1.trans p) r k⟩
/-- with defaults that stand still -/
theorem w_callD {sp : Spec} {E : XK} {t : TA} {dvs : List V} {dds : List D} (hd : ∀ F, RepL K F dvs dds) (h : WA K t S Γ fun ds S1 => sp (ds ++ dds) S1 Φ) : WE K (tCall (spOf K sp) dvs E t) S Γ Φ := fun F H σ Q hs hg hq =>
  h F H σ _ hs hg fun F1 H1 vs ds S1 p1 r1 f => ⟨F1, S1, ds ++ dds, Φ, p1.sat, r1.append (hd _), f, fun F' H' v d S' p r k => hq F' H' v d S' (p1.trans p) r k⟩
theorem w_meth {sp : Spec} {E : XK} {t : TA} {C : Addr} {m : Str} (h : WE K to S Γ fun x S1 => ∃ ns es, InsOf S1 x C ns es ∧ m ∉ ns ∧ WA K t S1 Γ fun ds S2 => sp (x :: ds) S2 Φ) : WE K (tMeth C m (spOf K sp) [] E to t) S Γ Φ := fun F H σ Q hs hg hq =>
  h F H σ _ hs hg fun F1 H1 vx x S1 p1 r1 ⟨ns, es, hi, hm, h1⟩ => by
    obtain ⟨a, dx, fs, rfl, ha, e, rl⟩ := hi.get p1.sat r1
    subst e
    refine ⟨a, dx, fs, rfl, ha, lookup_nofld hm, ?_⟩
    exact h1 F1 H1 σ _ p1.sat (hg.mono p1.same) fun F2 H2 vs ds S2 p2 r2 f => ⟨F2, S2, x :: ds, Φ, p2.sat, by rw [List.append_nil]; exact .cons (r1.mono p2.same) r2, f, fun F' H' v d S' p r k => hq F' H' v d S' ((p1.trans p2).trans p) r k⟩
theorem w_methD {sp : Spec} {E : XK} {t : TA} {C : Addr} {m : Str} {dvs : List V} {dds : List D} (hd : ∀ F, RepL K F dvs dds) (h : WE K to S Γ fun x S1 => ∃ ns es, InsOf S1 x C ns es ∧ m ∉ ns ∧ WA K t S1 Γ fun ds S2 => sp (x :: (ds ++ dds)) S2 Φ) : WE K (tMeth C m (spOf K sp) dvs E to t) S Γ Φ := fun F H σ Q hs hg hq =>
  h F H σ _ hs hg fun F1 H1 vx x S1 p1 r1 ⟨ns, es, hi, hm, h1⟩ => by
    obtain ⟨a, dx, fs, rfl, ha, e, rl⟩ := hi.get p1.sat r1
    subst e
    refine ⟨a, dx, fs, rfl, ha, lookup_nofld hm, ?_⟩
    exact h1 F1 H1 σ _ p1.sat (hg.mono p1.same) fun F2 H2 vs ds S2 p2 r2 f => ⟨F2, S2, x :: (ds ++ dds), Φ, p2.sat, .cons (r1.mono p2.same) (r2.append (hd _)), f, fun F' H' v d S' p r k => hq F' H' v d S' ((p1.trans p2).trans p) r k⟩
/-- C(..), an instance that then stands still -/
theorem w_make {sp : Spec} {E : XK} {t : TA} {C : Addr} (h : WA K t S Γ fun ds S1 => ∀ p, S1 p = none → sp (.ref p :: ds) (stU S1 p (.ins C [] [])) fun d S2 => d = .non ∧ ∃ ns es, S2 p = some (.ins C ns es) ∧ Φ (.obj C ns es) (stD S2 p)) : WE K (tMake C (spOf K sp) [] E t) S Γ Φ := fun F H σ Q hs hg hq =>
  h F H σ _ hs hg fun F1 H1 vs ds S1 p1 r1 f => fun p dx hp hdx hne => by
    have s1 := p1.sat.newH (o := .own p) hdx
    have hp' : upd H1 dx (.own p) p = none := by rw [upd_ne (Ne.symm hne)]; exact hp
    have p2 : Post K F1 H1 S1 F1 (upd (upd H1 dx (.own p)) p (.ins C dx [])) (stU S1 p (.ins C [] [])) := (Post.newH p1.sat hdx).trans (Post.newS (c := .ins C [] []) s1 hp' ⟨dx, [], upd_same, rfl, .nil⟩)
    refine ⟨F1, _, .ref p :: ds, _, p2.sat, ?_, f p (p1.sat.no hp), fun F' H' v d S' p3 r3 ⟨e, ns, es, hS, k⟩ => ?_⟩
    · rw [List.append_nil]
      exact .cons (.ref p) r1
    · subst e
      cases r3
      obtain ⟨F4, p4, r4⟩ := Post.freezeI p3.sat hS
      exact ⟨rfl, hq F4 H' (.ref p) _ _ (((p1.trans p2).trans p3).trans p4) r4 k⟩
/-- .. one that may change -/
theorem w_makeM {sp : Spec} {E : XK} {t : TA} {C : Addr} (h : WA K t S Γ fun ds S1 => ∀ p, S1 p = none → sp (.ref p :: ds) (stU S1 p (.ins C [] [])) fun d S2 => d = .non ∧ Φ (.ref p) S2) : WE K (tMake C (spOf K sp) [] E t) S Γ Φ := fun F H σ Q hs hg hq =>
  h F H σ _ hs hg fun F1 H1 vs ds S1 p1 r1 f => fun p dx hp hdx hne => by
    have s1 := p1.sat.newH (o := .own p) hdx
    have hp' : upd H1 dx (.own p) p = none := by rw [upd_ne (Ne.symm hne)]; exact hp
    have p2 : Post K F1 H1 S1 F1 (upd (upd H1 dx (.own p)) p (.ins C dx [])) (stU S1 p (.ins C [] [])) := (Post.newH p1.sat hdx).trans (Post.newS (c := .ins C [] []) s1 hp' ⟨dx, [], upd_same, rfl, .nil⟩)
    refine ⟨F1, _, .ref p :: ds, _, p2.sat, ?_, f p (p1.sat.no hp), fun F' H' v d S' p3 r3 ⟨e, k⟩ => ?_⟩
    · rw [List.append_nil]
      exact .cons (.ref p) r1
    · subst e
      cases r3
      exact ⟨rfl, hq F' H' (.ref p) (.ref p) _ ((p1.trans p2).trans p3) (.ref p) k⟩

/-! ### tests -/
theorem w_test {Φ : Bool → Store → Prop} (h : WE K te S Γ fun d S1 => ∃ k, d = .bl k ∧ Φ k S1) : WT K (tTest te) S Γ Φ := fun F H σ Q hs hg hq =>
  h F H σ _ hs hg fun F' H' v d S' p r ⟨k, e, f⟩ => by
    subst e
    cases r
    exact ⟨k, rfl, hq F' H' k S' p f⟩
theorem w_tB {Φ : Bool → Store → Prop} (h : WE K te S Γ fun d S1 => ∃ k, d = .bl k ∧ Φ k S1) : WT K (tB te) S Γ Φ := fun F H σ Q hs hg hq =>
  h F H σ _ hs hg fun F' H' v d S' p r ⟨k, e, f⟩ => by
    subst e
    cases r
    exact ⟨k, rfl, hq F' H' k S' p f⟩
/-- truth -/
def tTru (K : PySem.W.Frag) (te : TE) : TT := fun σ H Q => te σ H fun x H' => ∃ k, TruV K x H' k ∧ Q k H'
theorem pt_tru {X : Cx} {a : Expr} {ta : TE} (ha : PE X a ta) (he : ∀ whole, isTrue a X.env whole = (do let v ← whole; standAt a.pos; holding [v] (truthy v)) := by intro _; rfl) : PT X a (tTru X.K ta) := pt_truth ha he
inductive TruD (S : Store) : D → Bool → Prop
  | non : TruD S .non false
  | bl {b : Bool} : TruD S (.bl b) b
  | int {i : Int} : TruD S (.int i) (i != 0)
  | seq {x : D} {ds : List D} (h : SeqOf S x ds) : TruD S x (!ds.isEmpty)
theorem isE {α β : Type} {xs : List α} {ys : List β} (h : xs.length = ys.length) : xs.isEmpty = ys.isEmpty := by
  cases xs with
  | nil => cases ys with | nil => rfl | cons _ _ => simp at h
  | cons _ _ => cases ys with | nil => simp at h | cons _ _ => rfl
theorem w_tru {Φ : Bool → Store → Prop} (h : WE K te S Γ fun d S1 => ∃ k, TruD S1 d k ∧ Φ k S1) : WT K (tTru K te) S Γ Φ := fun F H σ Q hs hg hq =>
  h F H σ _ hs hg fun F' H' v d S' p r ⟨k, t, f⟩ => by
    refine ⟨k, ?_, hq F' H' k S' p f⟩
    cases t with
    | non => cases r; rfl
    | bl => cases r; rfl
    | int => cases r; rfl
    | seq h =>
      obtain ⟨a, vs, rfl, rl, q⟩ := h.get p.sat r
      rcases q with q | q
      · exact .inl ⟨vs, q, by rw [isE rl.1]⟩
      · exact .inr (.inl ⟨vs, q, by rw [isE rl.1]⟩)
theorem w_and {t u : TT} {Φ : Bool → Store → Prop} (h : WT K t S Γ fun b S1 => if b = true then WT K u S1 Γ Φ else Φ false S1) : WT K (tAnd t u) S Γ Φ := fun F H σ Q hs hg hq =>
  h F H σ _ hs hg fun F1 H1 b S1 p1 f => by
    cases b with
    | true => exact iteT (f F1 H1 σ Q p1.sat (hg.mono p1.same) fun F2 H2 b S2 p2 f2 => hq F2 H2 b S2 (p1.trans p2) f2)
    | false => exact iteF (hq F1 H1 false S1 p1 f)
theorem w_or {t u : TT} {Φ : Bool → Store → Prop} (h : WT K t S Γ fun b S1 => if b = true then Φ true S1 else WT K u S1 Γ Φ) : WT K (tOr t u) S Γ Φ := fun F H σ Q hs hg hq =>
  h F H σ _ hs hg fun F1 H1 b S1 p1 f => by
    cases b with
    | true => exact iteT (hq F1 H1 true S1 p1 f)
    | false => exact iteF (f F1 H1 σ Q p1.sat (hg.mono p1.same) fun F2 H2 b S2 p2 f2 => hq F2 H2 b S2 (p1.trans p2) f2)
theorem w_not {t : TT} {Φ : Bool → Store → Prop} (h : WT K t S Γ fun b S1 => Φ (!b) S1) : WT K (tNot t) S Γ Φ := fun F H σ Q hs hg hq =>
  h F H σ _ hs hg fun F1 H1 b S1 p1 f => hq F1 H1 (!b) S1 p1 f
theorem w_andV (h : WE K ta S Γ fun x S1 => ∃ k, x = .bl k ∧ if k = true then WE K tb S1 Γ Φ else Φ (.bl false) S1) : WE K (tAndV ta tb) S Γ Φ := fun F H σ Q hs hg hq =>
  h F H σ _ hs hg fun F1 H1 v x S1 p1 r1 ⟨k, e, f⟩ => by
    subst e
    cases r1
    refine ⟨k, rfl, ?_⟩
    cases k with
    | true => exact iteT (f F1 H1 σ Q p1.sat (hg.mono p1.same) fun F2 H2 v d S2 p2 r2 f2 => hq F2 H2 v d S2 (p1.trans p2) r2 f2)
    | false => exact iteF (hq F1 H1 _ _ S1 p1 (.bl false) f)
theorem w_orV (h : WE K ta S Γ fun x S1 => ∃ k, x = .bl k ∧ if k = true then Φ (.bl true) S1 else WE K tb S1 Γ Φ) : WE K (tOrV ta tb) S Γ Φ := fun F H σ Q hs hg hq =>
  h F H σ _ hs hg fun F1 H1 v x S1 p1 r1 ⟨k, e, f⟩ => by
    subst e
    cases r1
    refine ⟨k, rfl, ?_⟩
    cases k with
    | true => exact iteT (hq F1 H1 _ _ S1 p1 (.bl true) f)
    | false => exact iteF (f F1 H1 σ Q p1.sat (hg.mono p1.same) fun F2 H2 v d S2 p2 r2 f2 => hq F2 H2 v d S2 (p1.trans p2) r2 f2)
theorem w_notV (h : WE K ta S Γ fun x S1 => ∃ k, x = .bl k ∧ Φ (.bl (!k)) S1) : WE K (tNotV ta) S Γ Φ := fun F H σ Q hs hg hq =>
  h F H σ _ hs hg fun F1 H1 v x S1 p1 r1 ⟨k, e, f⟩ => by
    subst e
    cases r1
    exact ⟨k, rfl, hq F1 H1 _ _ S1 p1 (.bl _) f⟩
theorem w_ifE {t : TT} (h : WT K t S Γ fun b S1 => if b = true then WE K ta S1 Γ Φ else WE K tb S1 Γ Φ) : WE K (tIf t ta tb) S Γ Φ := fun F H σ Q hs hg hq =>
  h F H σ _ hs hg fun F1 H1 b S1 p1 f => by
    cases b with
    | true => exact iteT (f F1 H1 σ Q p1.sat (hg.mono p1.same) fun F2 H2 v d S2 p2 r2 f2 => hq F2 H2 v d S2 (p1.trans p2) r2 f2)
    | false => exact iteF (f F1 H1 σ Q p1.sat (hg.mono p1.same) fun F2 H2 v d S2 p2 r2 f2 => hq F2 H2 v d S2 (p1.trans p2) r2 f2)
end

/-! ### targets -/
section
variable {K : PySem.W.Frag} {S S' S1 : Store} {Γ Γ' : Env} {Φ : Store → Env → Prop} {ta tb tc te to : TE} {x y z d : D} {σ : L2.St}
theorem wg_name {i : Nat} (k : Φ S (Γ.set i (some x))) : WG K (gName i) x S Γ Φ := fun F H σ v Q hs hg r hq => hq F H _ S _ (Post.refl hs) (hg.set r) k
theorem wgs_nil (k : Φ S Γ) : WGs K gNil [] S Γ Φ := fun F H σ vs Q hs hg r hq => ⟨r.unnil, hq F H _ S _ (Post.refl hs) hg k⟩
theorem wgs_cons {t : TG} {u : TGs} {xs : List D} (h : WG K t x S Γ fun S1 Γ1 => WGs K u xs S1 Γ1 Φ) : WGs K (gCons t u) (x :: xs) S Γ Φ := fun F H σ vs Q hs hg r hq => by
  obtain ⟨v, r', rfl, r1, r2⟩ := r.uncons
  exact ⟨v, r', rfl, h F H σ v _ hs hg r1 fun F1 H1 σ1 S1 Γ1 p1 g1 f => f F1 H1 σ1 r' Q p1.sat g1 (r2.mono p1.same) fun F2 H2 σ2 S2 Γ2 p2 g2 f2 => hq F2 H2 σ2 S2 Γ2 (p1.trans p2) g2 f2⟩
theorem wg_tup {n : Nat} {t : TGs} {xs : List D} (hn : xs.length = n) (h : WGs K t xs S Γ Φ) : WG K (gTup K n t) (.tup xs) S Γ Φ := fun F H σ v Q hs hg r hq => by
  cases r with
  | tup h' hl hr => exact ⟨_, _, rfl, same_t hs.ext h', by rw [hl]; exact hn, h F H σ _ Q hs hg ⟨hl, hr⟩ hq⟩
theorem wg_sub {ti : TE} {t : TSet} (h : WE K to S Γ fun o S1 => WE K ti S1 Γ fun i S2 => RSW K t o i x S2 fun S3 => Φ S3 Γ) : WG K (gSub to ti t) x S Γ Φ := fun F H σ v Q hs hg r hq =>
  h F H σ _ hs hg fun F1 H1 vo o S1 p1 r1 h1 => h1 F1 H1 σ _ p1.sat (hg.mono p1.same) fun F2 H2 vi i S2 p2 r2 h2 =>
    h2 F2 H2 vo vi v _ p2.sat (r1.mono p2.same) r2 ((r.mono p1.same).mono p2.same) fun F3 H3 S3 p3 f => hq F3 H3 σ S3 Γ ((p1.trans p2).trans p3) (((hg.mono p1.same).mono p2.same).mono p3.same) f
end

/-! ### statements -/
section
variable {K : PySem.W.Frag} {S S' S1 : Store} {Γ Γ' : Env} {Ψ : EndsD} {ta tb tc te to : TE} {x y z d : D} {σ : L2.St} {t u : TS}
theorem ws_next (k : Ψ.nx S Γ) : WS K tNext S Γ Ψ := fun F H σ D0 hs hg q1 q2 q3 q4 => q1 F H σ S Γ (Post.refl hs) hg k
theorem ws_break (k : Ψ.bk S Γ) : WS K tBreak S Γ Ψ := fun F H σ D0 hs hg q1 q2 q3 q4 => q3 F H σ S Γ (Post.refl hs) hg k
theorem ws_cont (k : Ψ.ct S Γ) : WS K tCont S Γ Ψ := fun F H σ D0 hs hg q1 q2 q3 q4 => q4 F H σ S Γ (Post.refl hs) hg k
theorem ws_seq (h : WS K t S Γ { Ψ with nx := fun S1 Γ1 => WS K u S1 Γ1 Ψ }) : WS K (tSeq t u) S Γ Ψ := fun F H σ D0 hs hg q1 q2 q3 q4 =>
  h F H σ _ hs hg (fun F1 H1 σ1 S1 Γ1 p1 g1 f => f F1 H1 σ1 D0 p1.sat g1 (fun F2 H2 σ2 S2 Γ2 p2 g2 f2 => q1 F2 H2 σ2 S2 Γ2 (p1.trans p2) g2 f2) (fun F2 H2 v d S2 p2 r2 f2 => q2 F2 H2 v d S2 (p1.trans p2) r2 f2)
    (fun F2 H2 σ2 S2 Γ2 p2 g2 f2 => q3 F2 H2 σ2 S2 Γ2 (p1.trans p2) g2 f2) (fun F2 H2 σ2 S2 Γ2 p2 g2 f2 => q4 F2 H2 σ2 S2 Γ2 (p1.trans p2) g2 f2)) q2 q3 q4
theorem ws_asg {g : TG} (h : WE K te S Γ fun x S1 => WG K g x S1 Γ Ψ.nx) : WS K (tAsg te g) S Γ Ψ := fun F H σ D0 hs hg q1 q2 q3 q4 =>
  h F H σ _ hs hg fun F1 H1 v x S1 p1 r1 f => f F1 H1 σ v _ p1.sat (hg.mono p1.same) r1 fun F2 H2 σ2 S2 Γ2 p2 g2 f2 => q1 F2 H2 σ2 S2 Γ2 (p1.trans p2) g2 f2
/-- name = value -/
theorem ws_set {i : Nat} (h : WE K te S Γ fun x S1 => Ψ.nx S1 (Γ.set i (some x))) : WS K (tAsg te (gName i)) S Γ Ψ := ws_asg (h.mono fun _ _ k => wg_name k)
theorem ws_drop (h : WE K te S Γ fun x S1 => Ψ.nx S1 Γ) : WS K (tDrop te) S Γ Ψ := fun F H σ D0 hs hg q1 q2 q3 q4 =>
  h F H σ _ hs hg fun F1 H1 v x S1 p1 r1 f => q1 F1 H1 σ S1 Γ p1 (hg.mono p1.same) f
theorem ws_ret (h : WE K te S Γ fun x S1 => ∃ S2, Sub S2 S1 ∧ Ψ.rt x S2) : WS K (tRet te) S Γ Ψ := fun F H σ D0 hs hg q1 q2 q3 q4 =>
  h F H σ _ hs hg fun F1 H1 v x S1 p1 r1 ⟨S2, s, f⟩ => q2 F1 H1 v x S2 (p1.sub s) r1 f
theorem ws_retN (h : ∃ S2, Sub S2 S ∧ Ψ.rt .non S2) : WS K tRetN S Γ Ψ := fun F H σ D0 hs hg q1 q2 q3 q4 => by
  obtain ⟨S2, s, f⟩ := h
  exact q2 F H _ _ S2 ((Post.refl hs).sub s) .non f
theorem ws_if {c : TT} (h : WT K c S Γ fun b S1 => if b = true then WS K t S1 Γ Ψ else WS K u S1 Γ Ψ) : WS K (tIfS c t u) S Γ Ψ := fun F H σ D0 hs hg q1 q2 q3 q4 =>
  h F H σ _ hs hg fun F1 H1 b S1 p1 f => by
    cases b with
    | true => exact iteT (f F1 H1 σ D0 p1.sat (hg.mono p1.same) (fun F2 H2 σ2 S2 Γ2 p2 g2 f2 => q1 F2 H2 σ2 S2 Γ2 (p1.trans p2) g2 f2) (fun F2 H2 v d S2 p2 r2 f2 => q2 F2 H2 v d S2 (p1.trans p2) r2 f2)
        (fun F2 H2 σ2 S2 Γ2 p2 g2 f2 => q3 F2 H2 σ2 S2 Γ2 (p1.trans p2) g2 f2) (fun F2 H2 σ2 S2 Γ2 p2 g2 f2 => q4 F2 H2 σ2 S2 Γ2 (p1.trans p2) g2 f2))
    | false => exact iteF (f F1 H1 σ D0 p1.sat (hg.mono p1.same) (fun F2 H2 σ2 S2 Γ2 p2 g2 f2 => q1 F2 H2 σ2 S2 Γ2 (p1.trans p2) g2 f2) (fun F2 H2 v d S2 p2 r2 f2 => q2 F2 H2 v d S2 (p1.trans p2) r2 f2)
        (fun F2 H2 σ2 S2 Γ2 p2 g2 f2 => q3 F2 H2 σ2 S2 Γ2 (p1.trans p2) g2 f2) (fun F2 H2 σ2 S2 Γ2 p2 g2 f2 => q4 F2 H2 σ2 S2 Γ2 (p1.trans p2) g2 f2))
/-- an if both of whose ways come to the same moment -/
theorem ws_ifM {c : TT} (M : Store → Env → Prop) (h : WS K (tIfS c t u) S Γ { Ψ with nx := M }) (k : ∀ S' Γ', M S' Γ' → Ψ.nx S' Γ') : WS K (tIfS c t u) S Γ Ψ := h.mono k (fun _ _ z => z) (fun _ _ z => z) (fun _ _ z => z)
/-- a op= e at a name -/
theorem ws_aug {i : Nat} {f : Int → Int → Int} {a : Int} (ha : Γ[i]? = some (some (.int a))) (h : WE K te S Γ fun y S1 => ∃ b, y = .int b ∧ Ψ.nx S1 (Γ.set i (some (.int (f a b))))) : WS K (tAug i te (ipI f)) S Γ Ψ := fun F H σ D0 hs hg q1 q2 q3 q4 => by
  obtain ⟨v, e, r⟩ := hg.2 i _ ha
  cases r
  refine ⟨_, e, h F H σ _ hs hg fun F1 H1 w y S1 p1 r1 ⟨b, e1, k⟩ => ?_⟩
  subst e1
  cases r1
  exact ⟨a, b, rfl, rfl, q1 F1 H1 _ S1 _ p1 ((hg.mono p1.same).set (.int _)) k⟩
/-- what stands still from now on -/
theorem ws_frz {p : Addr} {ds : List D} {Γ' : Env} (hp : S p = some (.lst ds)) (hl : Γ'.length = Γ.length) (hΓ : ∀ (i : Nat) d, Γ'[i]? = some (some d) → Γ[i]? = some (some d) ∨ (Γ[i]? = some (some (.ref p)) ∧ d = .lst ds)) (h : WS K t (stD S p) Γ' Ψ) : WS K t S Γ Ψ := fun F H σ D0 hs hg q1 q2 q3 q4 => by
  obtain ⟨F1, p1, r1⟩ := Post.freeze hs hp
  refine h F1 H σ D0 p1.sat ⟨(hg.mono p1.same).1.trans hl.symm, fun i d q => ?_⟩ (fun F2 H2 σ2 S2 Γ2 p2 g2 f2 => q1 F2 H2 σ2 S2 Γ2 (p1.trans p2) g2 f2) (fun F2 H2 v d S2 p2 r2 f2 => q2 F2 H2 v d S2 (p1.trans p2) r2 f2)
        (fun F2 H2 σ2 S2 Γ2 p2 g2 f2 => q3 F2 H2 σ2 S2 Γ2 (p1.trans p2) g2 f2) (fun F2 H2 σ2 S2 Γ2 p2 g2 f2 => q4 F2 H2 σ2 S2 Γ2 (p1.trans p2) g2 f2)
  rcases hΓ i d q with z | ⟨z, e⟩
  · exact (hg.mono p1.same).2 i d z
  · obtain ⟨v, e1, r⟩ := (hg.mono p1.same).2 i _ z
    cases r
    subst e
    exact ⟨_, e1, r1⟩
/-- cells that are done with -/
theorem ws_sub (s : Sub S' S) (h : WS K t S' Γ Ψ) : WS K t S Γ Ψ := fun F H σ D0 hs hg q1 q2 q3 q4 => by
  have p1 : Post K F H S F H S' := (Post.refl hs).sub s
  exact h F H σ D0 p1.sat hg (fun F2 H2 σ2 S2 Γ2 p2 g2 f2 => q1 F2 H2 σ2 S2 Γ2 (p1.trans p2) g2 f2) (fun F2 H2 v d S2 p2 r2 f2 => q2 F2 H2 v d S2 (p1.trans p2) r2 f2)
        (fun F2 H2 σ2 S2 Γ2 p2 g2 f2 => q3 F2 H2 σ2 S2 Γ2 (p1.trans p2) g2 f2) (fun F2 H2 σ2 S2 Γ2 p2 g2 f2 => q4 F2 H2 σ2 S2 Γ2 (p1.trans p2) g2 f2)
end

/-! ### loops -/
section
variable {K : PySem.W.Frag} {S S' S1 : Store} {Γ Γ' : Env} {Ψ : EndsD} {ta tb tc te to : TE} {x y z d : D} {σ : L2.St} {t u : TS}
theorem Walks.mono {J : It} {F F' : Hp} {ds : List D} (h : Walks K J F ds) (e : Same F F') : Walks K J F' ds := ⟨fun i H hi s => h.go i H hi (e.trans s), fun i F1 H1 S v H2 x hx s => h.yld i F1 H1 S v H2 x hx (e.trans s), fun H s => h.stop H (e.trans s)⟩
/-- for g in wi: an invariant by the turn -/
theorem ws_for {wi : TI} {g : TG} (h : WI K wi S Γ fun ds S1 => ∃ I : Nat → Store → Env → Prop, I 0 S1 Γ ∧
    (∀ (i : Nat) x S' Γ', ds[i]? = some x → I i S' Γ' → WG K g x S' Γ' fun S2 Γ2 => WS K t S2 Γ2 { nx := I (i + 1), ct := I (i + 1), bk := Ψ.nx, rt := Ψ.rt }) ∧ ∀ S' Γ', I ds.length S' Γ' → Ψ.nx S' Γ') : WS K (tFor wi g t) S Γ Ψ := fun F H σ D0 hs hg q1 q2 q3 q4 =>
  h F H σ _ hs hg fun F1 H1 J ds S1 p1 w ⟨I, h0, hs1, hd⟩ => by
    refine ⟨fun i m σ' H' => m = ds.length - i ∧ i ≤ ds.length ∧ ∃ F' S' Γ', Post K F1 H1 S1 F' H' S' ∧ Slots K F' σ' Γ' ∧ I i S' Γ', ⟨_, rfl, Nat.zero_le _, F1, S1, Γ, Post.refl p1.sat, hg.mono p1.same, h0⟩, ?_⟩
    rintro i m σ2 H2 ⟨rfl, hi, F2, S2, Γ2, p2, g2, i2⟩
    by_cases hlt : i < ds.length
    · refine .inr ⟨w.go i H2 hlt (p2.same.trans p2.sat.ext), fun σ' H' => ∃ F' S' Γ', Post K F1 H1 S1 F' H' S' ∧ Slots K F' σ' Γ' ∧ I (i + 1) S' Γ', fun σ' H' n => ⟨ds.length - (i + 1), by omega, rfl, hlt, n⟩, fun v H3 y3 => ?_⟩
      have hx : ds[i]? = some ds[i] := List.getElem?_eq_getElem hlt
      obtain ⟨F3, p3, r3⟩ := w.yld i F2 H2 S2 v H3 _ hx p2.same p2.sat y3
      refine hs1 i _ S2 Γ2 hx i2 F3 H3 σ2 v _ p3.sat (g2.mono p3.same) r3 fun F4 H4 σ4 S4 Γ4 p4 g4 f4 => ?_
      have p14 := (p2.trans p3).trans p4
      exact f4 F4 H4 σ4 _ p4.sat g4 (fun F5 H5 σ5 S5 Γ5 p5 g5 f5 => ⟨F5, S5, Γ5, p14.trans p5, g5, f5⟩) (fun F5 H5 v d S5 p5 r5 f5 => q2 F5 H5 v d S5 (p1.trans (p14.trans p5)) r5 f5)
        (fun F5 H5 σ5 S5 Γ5 p5 g5 f5 => q1 F5 H5 σ5 S5 Γ5 (p1.trans (p14.trans p5)) g5 f5) (fun F5 H5 σ5 S5 Γ5 p5 g5 f5 => ⟨F5, S5, Γ5, p14.trans p5, g5, f5⟩)
    · have e : i = ds.length := by omega
      subst e
      exact .inl ⟨w.stop H2 (p2.same.trans p2.sat.ext), q1 F2 H2 σ2 S2 Γ2 (p1.trans p2) g2 (hd S2 Γ2 i2)⟩
/-- while: an invariant with its measure -/
theorem ws_while {c : TT} (I : Nat → Store → Env → Prop) (h0 : ∃ m, I m S Γ) (h : ∀ m S' Γ', I m S' Γ' → WT K c S' Γ' fun b S1 => if b = true then
      WS K t S1 Γ' { nx := fun S2 Γ2 => ∃ m', m' < m ∧ I m' S2 Γ2, ct := fun S2 Γ2 => ∃ m', m' < m ∧ I m' S2 Γ2, bk := Ψ.nx, rt := Ψ.rt } else Ψ.nx S1 Γ') : WS K (tWhile c t) S Γ Ψ := fun F H σ D0 hs hg q1 q2 q3 q4 => by
  obtain ⟨m0, i0⟩ := h0
  refine ⟨fun m σ' H' => ∃ F' S' Γ', Post K F H S F' H' S' ∧ Slots K F' σ' Γ' ∧ I m S' Γ', ⟨m0, F, S, Γ, Post.refl hs, hg, i0⟩, ?_⟩
  rintro m σ1 H1 ⟨F1, S1, Γ1, p1, g1, i1⟩
  refine h m S1 Γ1 i1 F1 H1 σ1 _ p1.sat g1 fun F2 H2 b S2 p2 f => ?_
  have p12 := p1.trans p2
  cases b with
  | true =>
    refine iteT ⟨fun σ' H' => ∃ m', m' < m ∧ ∃ F' S' Γ', Post K F H S F' H' S' ∧ Slots K F' σ' Γ' ∧ I m' S' Γ', fun σ' H' n => n, ?_⟩
    have fin : ∀ F5 H5 σ5 S5 Γ5, Post K F2 H2 S2 F5 H5 S5 → Slots K F5 σ5 Γ5 → (∃ m', m' < m ∧ I m' S5 Γ5) → ∃ m', m' < m ∧ ∃ F' S' Γ', Post K F H S F' H5 S' ∧ Slots K F' σ5 Γ' ∧ I m' S' Γ' := fun F5 H5 σ5 S5 Γ5 p5 g5 ⟨m', hm, f5⟩ => ⟨m', hm, F5, S5, Γ5, p12.trans p5, g5, f5⟩
    exact f F2 H2 σ1 _ p2.sat (g1.mono p2.same) fin (fun F5 H5 v d S5 p5 r5 f5 => q2 F5 H5 v d S5 (p12.trans p5) r5 f5) (fun F5 H5 σ5 S5 Γ5 p5 g5 f5 => q1 F5 H5 σ5 S5 Γ5 (p12.trans p5) g5 f5) fin
  | false => exact iteF (q1 F2 H2 σ1 S2 Γ1 p12 (g1.mono p2.same) f)

/-! ### what is walked -/
variable {Φ : List D → Store → Prop}
theorem walks_l {F : Hp} {a : Addr} {vs : List V} {ds : List D} (h : SqL K F a vs) (r : RepL K F vs ds) : Walks K (Itl K a) F ds where
  go := fun i H hi s => by
    have hi' : i < vs.length := by rw [r.1]; exact hi
    exact ⟨vs, vs[i], s.seq h, List.getElem?_eq_getElem hi'⟩
  yld := fun i F1 H1 S v H2 x hx s hs y => by
    obtain ⟨e, y⟩ := y
    subst e
    exact ⟨F1, Post.refl hs, (r.2 i v x (y vs ((s.trans hs.ext).seq h)) hx).mono s⟩
  stop := fun H s => ⟨vs, s.seq h, Nat.le_of_eq r.1⟩
theorem walks_t {F : Hp} {a : Addr} {vs : List V} {ds : List D} (h : SqT K F a vs) (r : RepL K F vs ds) : Walks K (Itt K a) F ds where
  go := fun i H hi s => by
    have hi' : i < vs.length := by rw [r.1]; exact hi
    exact ⟨vs, vs[i], same_t s h, List.getElem?_eq_getElem hi'⟩
  yld := fun i F1 H1 S v H2 x hx s hs y => by
    obtain ⟨e, y⟩ := y
    subst e
    exact ⟨F1, Post.refl hs, (r.2 i v x (y vs (same_t (s.trans hs.ext) h)) hx).mono s⟩
  stop := fun H s => ⟨vs, same_t s h, Nat.le_of_eq r.1⟩
theorem wi_list (h : WE K te S Γ fun x S1 => ∃ ds, (x = .lst ds ∨ x = .sq ds) ∧ Φ ds S1) : WI K (iList K te) S Γ Φ := fun F H σ R hs hg hq =>
  h F H σ _ hs hg fun F1 H1 v x S1 p1 r1 ⟨ds, e, f⟩ => by
    rcases e with e | e
    · subst e
      cases r1 with
      | lst h hl hr => exact ⟨_, rfl, ⟨_, SqL.of (p1.sat.ext _ _ h)⟩, hq F1 H1 _ ds S1 p1 (walks_l (SqL.of h) ⟨hl, hr⟩) f⟩
    · subst e
      cases r1 with
      | sq h hl hr => exact ⟨_, rfl, ⟨_, p1.sat.ext.seq h⟩, hq F1 H1 _ ds S1 p1 (walks_l h ⟨hl, hr⟩) f⟩
theorem wi_tup (h : WE K te S Γ fun x S1 => ∃ ds, x = .tup ds ∧ Φ ds S1) : WI K (iTup K te) S Γ Φ := fun F H σ R hs hg hq =>
  h F H σ _ hs hg fun F1 H1 v x S1 p1 r1 ⟨ds, e, f⟩ => by
    subst e
    cases r1 with
    | tup h hl hr => exact ⟨_, rfl, ⟨_, same_t p1.sat.ext h⟩, hq F1 H1 _ ds S1 p1 (walks_t h ⟨hl, hr⟩) f⟩
/-- the ints lo, lo + 1, .. -/
def rng (lo : Int) (n : Nat) : List D := (List.range n).map fun k => .int (lo + (k : Nat))
theorem walks_r {F : Hp} (lo : Int) (n : Nat) : Walks K (Itr lo n) F (rng lo n) where
  go := fun i H hi s => by
    have : i < n := by simpa [rng] using hi
    exact this
  yld := fun i F1 H1 S v H2 x hx s hs y => by
    obtain ⟨e, y⟩ := y
    subst e
    have hi : i < n := by
      have := (List.getElem?_eq_some_iff.mp hx).1
      simpa [rng] using this
    unfold rng at hx
    rw [List.getElem?_map, List.getElem?_range hi] at hx
    cases hx
    subst y
    exact ⟨F1, Post.refl hs, .int _⟩
  stop := fun H s => by
    show n ≤ (rng lo n).length
    simp [rng]
theorem wi_rng1 {ta : TA} (h : WA K ta S Γ fun xs S1 => ∃ n : Int, xs = [.int n] ∧ n ≤ 1000000 ∧ -1000000 ≤ n ∧ Φ (rng 0 n.toNat) S1) : WI K (iRng1 ta) S Γ Φ := fun F H σ R hs hg hq =>
  h F H σ _ hs hg fun F1 H1 vs xs S1 p1 r1 ⟨n, e, hn, hn', f⟩ => by
    subst e
    obtain ⟨v, r, rfl, r2, r3⟩ := r1.uncons
    rw [r3.unnil]
    cases r2
    exact ⟨n, rfl, by omega, by omega, hq F1 H1 _ _ S1 p1 (walks_r 0 n.toNat) f⟩
theorem wi_rng2 {ta : TA} (h : WA K ta S Γ fun xs S1 => ∃ m n : Int, xs = [.int m, .int n] ∧ (n ≤ 1000000 ∧ -1000000 ≤ n ∧ m ≤ 1000000 ∧ -1000000 ≤ m) ∧ Φ (rng m (n - m).toNat) S1) : WI K (iRng2 ta) S Γ Φ := fun F H σ R hs hg hq =>
  h F H σ _ hs hg fun F1 H1 vs xs S1 p1 r1 ⟨m, n, e, ⟨h1, h2, h3, h4⟩, f⟩ => by
    subst e
    obtain ⟨v, r, rfl, r2, r3⟩ := r1.uncons
    obtain ⟨v', r', rfl, r4, r5⟩ := r3.uncons
    rw [r5.unnil]
    cases r2; cases r4
    exact ⟨m, n, rfl, ⟨by omega, by omega, by omega, by omega⟩, hq F1 H1 _ _ S1 p1 (walks_r m (n - m).toNat) f⟩
/-- (0, x), (1, y), .. -/
def enumD (ds : List D) : List D := ds.mapIdx fun i d => .tup [.int (i : Nat), d]
theorem enumD_get {ds : List D} {i : Nat} {x : D} (h : (enumD ds)[i]? = some x) : ∃ d, ds[i]? = some d ∧ x = .tup [.int (i : Nat), d] := by
  unfold enumD at h
  rw [List.getElem?_mapIdx] at h
  cases e : ds[i]? with
  | none => rw [e] at h; cases h
  | some d => rw [e] at h; cases h; exact ⟨d, rfl, rfl⟩
theorem walks_e {F : Hp} {a : Addr} {vs : List V} {ds : List D} (h : SqL K F a vs) (r : RepL K F vs ds) : Walks K (Ite K a) F (enumD ds) where
  go := fun i H hi s => by
    have hi' : i < vs.length := by rw [r.1]; simpa [enumD] using hi
    exact ⟨vs, vs[i], s.seq h, List.getElem?_eq_getElem hi'⟩
  yld := fun i F1 H1 S v H2 x hx s hs y => by
    obtain ⟨T, w, rfl, hT, rfl, y⟩ := y
    obtain ⟨d, hd, rfl⟩ := enumD_get hx
    have rw' := (r.2 i w d (y vs ((s.trans hs.ext).seq h)) hd).mono s
    have sm := same_upd (o := .tup [.int (i : Nat), w]) (hs.ext.free hT)
    refine ⟨_, Post.newF hs hT, .tup (SqT.of upd_same) rfl ?_⟩
    exact (RepL.cons (.int _) (RepL.cons (rw'.mono sm) .nil)).2
  stop := fun H s => ⟨vs, s.seq h, by simp [enumD, r.1]⟩
theorem wi_enumL {ta : TA} (h : WA K ta S Γ fun xs S1 => ∃ ds, (xs = [.lst ds] ∨ xs = [.sq ds]) ∧ Φ (enumD ds) S1) : WI K (iEnum K ta) S Γ Φ := fun F H σ R hs hg hq =>
  h F H σ _ hs hg fun F1 H1 vs xs S1 p1 r1 ⟨ds, e, f⟩ => by
    rcases e with e | e
    · subst e
      obtain ⟨v, r, rfl, r2, r3⟩ := r1.uncons
      rw [r3.unnil]
      cases r2 with
      | lst h hl hr => exact ⟨_, _, rfl, SqL.of (p1.sat.ext _ _ h), hq F1 H1 _ _ S1 p1 (walks_e (SqL.of h) ⟨hl, hr⟩) f⟩
    · subst e
      obtain ⟨v, r, rfl, r2, r3⟩ := r1.uncons
      rw [r3.unnil]
      cases r2 with
      | sq h hl hr => exact ⟨_, _, rfl, p1.sat.ext.seq h, hq F1 H1 _ _ S1 p1 (walks_e h ⟨hl, hr⟩) f⟩
/-- pairs -/
def zipD (ds es : List D) : List D := (ds.zip es).map fun p => .tup [p.1, p.2]
theorem zipD_get {ds es : List D} {i : Nat} {x : D} (h : (zipD ds es)[i]? = some x) : ∃ d e, ds[i]? = some d ∧ es[i]? = some e ∧ x = .tup [d, e] := by
  unfold zipD at h
  rw [List.getElem?_map] at h
  cases e : (ds.zip es)[i]? with
  | none => rw [e] at h; cases h
  | some p =>
    rw [e] at h
    cases h
    obtain ⟨h1, h2⟩ := List.getElem?_zip_eq_some.mp e
    exact ⟨_, _, h1, h2, rfl⟩
theorem zipD_len {ds es : List D} : (zipD ds es).length = min ds.length es.length := by simp [zipD]
theorem walks_z {F : Hp} {a b : Addr} {vs ws : List V} {ds es : List D} (h : SqL K F a vs) (h' : SqL K F b ws) (r : RepL K F vs ds) (r' : RepL K F ws es) : Walks K (Itz K a b) F (zipD ds es) where
  go := fun i H hi s => by
    rw [zipD_len] at hi
    have h1 : i < vs.length := by rw [r.1]; omega
    have h2 : i < ws.length := by rw [r'.1]; omega
    exact ⟨vs, ws, vs[i], ws[i], s.seq h, s.seq h', List.getElem?_eq_getElem h1, List.getElem?_eq_getElem h2⟩
  yld := fun i F1 H1 S v H2 x hx s hs y => by
    obtain ⟨T, w, w', rfl, hT, rfl, y1, y2⟩ := y
    obtain ⟨d, e, hd, he, rfl⟩ := zipD_get hx
    have q1 := (r.2 i w d (y1 vs ((s.trans hs.ext).seq h)) hd).mono s
    have q2 := (r'.2 i w' e (y2 ws ((s.trans hs.ext).seq h')) he).mono s
    have sm := same_upd (o := .tup [w, w']) (hs.ext.free hT)
    refine ⟨_, Post.newF hs hT, .tup (SqT.of upd_same) rfl ?_⟩
    exact (RepL.cons (q1.mono sm) (RepL.cons (q2.mono sm) .nil)).2
  stop := fun H s => ⟨vs, ws, s.seq h, s.seq h', by rw [zipD_len, r.1, r'.1]; omega⟩
theorem wi_zipL {ta : TA} (h : WA K ta S Γ fun xs S1 => ∃ ds es, xs = [.lst ds, .lst es] ∧ Φ (zipD ds es) S1) : WI K (iZip K ta) S Γ Φ := fun F H σ R hs hg hq =>
  h F H σ _ hs hg fun F1 H1 vs xs S1 p1 r1 ⟨ds, es, e, f⟩ => by
    subst e
    obtain ⟨v, r, rfl, r2, r3⟩ := r1.uncons
    obtain ⟨v', r', rfl, r4, r5⟩ := r3.uncons
    rw [r5.unnil]
    cases r2 with
    | lst h hl hr =>
      cases r4 with
      | lst h' hl' hr' => exact ⟨_, _, _, _, rfl, SqL.of (p1.sat.ext _ _ h), SqL.of (p1.sat.ext _ _ h'), hq F1 H1 _ _ S1 p1 (walks_z (SqL.of h) (SqL.of h') ⟨hl, hr⟩ ⟨hl', hr'⟩) f⟩
end

/-! ### list comprehensions -/
section
variable {K : PySem.W.Frag} {S S' S1 : Store} {Γ Γ' : Env} {Φ Φ' : D → Store → Prop} {ta tb tc te to : TE} {x y z d : D} {σ : L2.St}
def Only (vs : List Nat) (σ σ' : L2.St) : Prop := σ'.length = σ.length ∧ ∀ j, j ∉ vs → σ'[j]? = σ[j]?
theorem Only.refl {vs : List Nat} : Only vs σ σ := ⟨rfl, fun _ _ => rfl⟩
theorem Only.trans {vs : List Nat} {σ1 σ2 σ3 : L2.St} (a : Only vs σ1 σ2) (b : Only vs σ2 σ3) : Only vs σ1 σ3 := ⟨b.1.trans a.1, fun j h => (b.2 j h).trans (a.2 j h)⟩
/-- the target stores at vs alone -/
structure GOnly (g : TG) (vs : List Nat) : Prop where
  only : ∀ v σ H (Q : L2.St → Hp → Prop), g v σ H Q → g v σ H fun σ' H' => Only vs σ σ' ∧ Q σ' H'
  mono : ∀ v σ H (Q Q' : L2.St → Hp → Prop), (∀ σ' H', Q σ' H' → Q' σ' H') → g v σ H Q → g v σ H Q'
structure GsOnly (g : TGs) (vs : List Nat) : Prop where
  only : ∀ v σ H (Q : L2.St → Hp → Prop), g v σ H Q → g v σ H fun σ' H' => Only vs σ σ' ∧ Q σ' H'
  mono : ∀ v σ H (Q Q' : L2.St → Hp → Prop), (∀ σ' H', Q σ' H' → Q' σ' H') → g v σ H Q → g v σ H Q'
theorem go_name {i : Nat} {vs : List Nat} (h : i ∈ vs) : GOnly (gName i) vs := ⟨fun v σ H Q q => ⟨⟨by simp, fun j hj => List.getElem?_set_ne (fun e => hj (by rw [← e]; exact h))⟩, q⟩, fun v σ H Q Q' k q => k _ _ q⟩
theorem gos_nil {vs : List Nat} : GsOnly gNil vs := ⟨fun v σ H Q q => ⟨q.1, Only.refl, q.2⟩, fun v σ H Q Q' k q => ⟨q.1, k _ _ q.2⟩⟩
theorem gos_cons {t : TG} {u : TGs} {vs : List Nat} (h : GOnly t vs) (h' : GsOnly u vs) : GsOnly (gCons t u) vs := ⟨fun v σ H Q q => by
  obtain ⟨v0, r, e, q⟩ := q
  refine ⟨v0, r, e, h.mono _ _ _ _ _ (fun σ1 H1 z => ?_) (h.only _ _ _ _ q)⟩
  exact h'.mono _ _ _ _ _ (fun σ2 H2 z2 => ⟨z.1.trans z2.1, z2.2⟩) (h'.only _ _ _ _ z.2), fun v σ H Q Q' k q => by
  obtain ⟨v0, r, e, q⟩ := q
  exact ⟨v0, r, e, h.mono _ _ _ _ _ (fun σ1 H1 z => h'.mono _ _ _ _ _ k z) q⟩⟩
theorem go_tup {n : Nat} {t : TGs} {vs : List Nat} (h : GsOnly t vs) : GOnly (gTup K n t) vs := ⟨fun v σ H Q ⟨a, xs, e, h1, h2, q⟩ => ⟨a, xs, e, h1, h2, h.only _ _ _ _ q⟩, fun v σ H Q Q' k ⟨a, xs, e, h1, h2, q⟩ => ⟨a, xs, e, h1, h2, h.mono _ _ _ _ _ k q⟩⟩
theorem wipe_at {i : Nat} : ∀ {vs : List Nat}, i ∈ vs → i < σ.length → (wipe σ vs)[i]? = some none
  | [], h, _ => by simp at h
  | v :: vs, h, hl => by
    unfold wipe
    by_cases e : v = i
    · subst e
      exact List.getElem?_set_self (by rw [wipe_length]; exact hl)
    · rw [List.getElem?_set_ne e]
      refine wipe_at ?_ hl
      rcases List.mem_cons.mp h with z | z
      · exact absurd z.symm e
      · exact z
theorem wipe_off {i : Nat} : ∀ {vs : List Nat}, i ∉ vs → (wipe σ vs)[i]? = σ[i]?
  | [], _ => rfl
  | v :: vs, h => by
    have h1 : v ≠ i := fun e => h (by rw [e]; exact List.mem_cons_self)
    have h2 : i ∉ vs := fun m => h (List.mem_cons_of_mem _ m)
    unfold wipe
    rw [List.getElem?_set_ne h1]
    exact wipe_off h2
theorem wipe_only {vs : List Nat} {σ' : L2.St} (h : Only vs σ σ') : wipe σ' vs = wipe σ vs := by
  refine List.ext_getElem? fun i => ?_
  by_cases hi : i ∈ vs
  · by_cases hl : i < σ.length
    · rw [wipe_at hi hl, wipe_at hi (by rw [h.1]; exact hl)]
    · rw [List.getElem?_eq_none (by rw [wipe_length, h.1]; omega), List.getElem?_eq_none (by rw [wipe_length]; omega)]
  · rw [wipe_off hi, wipe_off hi, h.2 i hi]
theorem wipe_wipe {vs : List Nat} : wipe (wipe σ vs) vs = wipe σ vs := wipe_only ⟨wipe_length _ _, fun j hj => wipe_off hj⟩
/-- .. of what is known of the slots -/
def wipeE (Γ : Env) : List Nat → Env
  | [] => Γ
  | v :: vs => (wipeE Γ vs).set v none
theorem wipeE_length : ∀ {vs : List Nat}, (wipeE Γ vs).length = Γ.length
  | [] => rfl
  | v :: vs => by unfold wipeE; rw [List.length_set, wipeE_length]
theorem wipeE_some {i : Nat} : ∀ {vs : List Nat}, (wipeE Γ vs)[i]? = some (some d) → Γ[i]? = some (some d) ∧ i ∉ vs
  | [], h => ⟨h, by simp⟩
  | v :: vs, h => by
    unfold wipeE at h
    by_cases hi : v = i
    · subst hi
      by_cases hv : v < (wipeE Γ vs).length
      · rw [List.getElem?_set_self hv] at h; cases h
      · rw [List.getElem?_eq_none (by simpa using hv)] at h; cases h
    · rw [List.getElem?_set_ne hi] at h
      obtain ⟨h1, h2⟩ := wipeE_some h
      exact ⟨h1, by simp only [List.mem_cons, not_or]; exact ⟨fun e => hi e.symm, h2⟩⟩
theorem Slots.wipe {F : Hp} {vs : List Nat} (h : Slots K F σ Γ) : Slots K F (L2.wipe σ vs) (wipeE Γ vs) := ⟨by rw [wipe_length, wipeE_length]; exact h.1, fun i d q => by
  obtain ⟨q1, q2⟩ := wipeE_some q
  obtain ⟨v, e, r⟩ := h.2 i d q1
  exact ⟨v, by rw [wipe_off q2]; exact e, r⟩⟩
/-- the comprehension's list at p stands aside -/
theorem w_lc_core {wi : TI} {g : TG} {tt : TT} {vs : List Nat} {Θ : List D → Store → Prop} (hg : GOnly g vs)
    (h : WI K wi S Γ fun ds S1 => ∃ I : Nat → List D → Store → Prop, I 0 [] S1 ∧ ds.length ≤ 1000000 ∧
      (∀ (i : Nat) x acc S', ds[i]? = some x → acc.length ≤ i → I i acc S' → WG K g x S' (wipeE Γ vs) fun S2 Γ2 => WT K tt S2 Γ2 fun b S3 => if b = true then WE K te S3 Γ2 fun y S4 => I (i + 1) (acc ++ [y]) S4 else I (i + 1) acc S3) ∧
      ∀ acc S', I ds.length acc S' → Θ acc S') (F H : Hp) (Q : VK) (hs : SatS K F H S) (hσ : Slots K F σ Γ)
    (hq : ∀ F' H' p vacc acc S', Post K F H S F' H' S' → H' p = some (.lst vacc) → F' p = none → S' p = none → RepL K F' vacc acc → Θ acc S' → (∀ b o, H b = some o → S b = none → b ≠ p) → Q (.ref p) H') : tLc wi g tt te vs σ H Q :=
  h F H σ _ hs hσ fun F1 H1 J ds S1 p1 w ⟨I, h0, hl, hstep, hend⟩ => fun p hp => by
    have hnp : ∀ b o, H b = some o → S b = none → b ≠ p := fun b o e e' z => by
      rw [← z, (p1.step b o e e').1] at hp
      cases hp
    refine ⟨fun i m H2 => m = ds.length - i ∧ i ≤ ds.length ∧ ∃ F2 S2 acc vacc, Post K F1 H1 S1 F2 H2 S2 ∧ H2 p = some (.lst vacc) ∧ F2 p = none ∧ S2 p = none ∧ RepL K F2 vacc acc ∧ acc.length ≤ i ∧ I i acc S2, ⟨_, rfl, Nat.zero_le _, F1, S1, [], [], Post.newH p1.sat hp, upd_same, p1.sat.ext.free hp, p1.sat.no hp, .nil, Nat.le_refl _, h0⟩, ?_⟩
    rintro i m H2 ⟨rfl, hi, F2, S2, acc, vacc, p2, e1, e2, e3, ra, hal, i2⟩
    by_cases hlt : i < ds.length
    · refine .inr ⟨w.go i H2 hlt (p2.same.trans p2.sat.ext), fun H' => ∃ F' S' acc vacc, Post K F1 H1 S1 F' H' S' ∧ H' p = some (.lst vacc) ∧ F' p = none ∧ S' p = none ∧ RepL K F' vacc acc ∧ acc.length ≤ i + 1 ∧ I (i + 1) acc S', fun H' n => ⟨ds.length - (i + 1), by omega, rfl, hlt, n⟩, fun v H3 y3 => ?_⟩
      have hx : ds[i]? = some ds[i] := List.getElem?_eq_getElem hlt
      obtain ⟨F3, p3, r3⟩ := w.yld i F2 H2 S2 v H3 _ hx p2.same p2.sat y3
      obtain ⟨a1, a2, a3⟩ := p3.step p _ e1 e3
      refine hg.mono _ _ _ _ _ (fun σ4 H4 z => ?_) (hg.only _ _ _ _ (hstep i _ acc S2 hx hal i2 F3 H3 (wipe σ vs) v (fun σ4 H4 => tt σ4 H4 fun b H3 => if b = true then te σ4 H3 fun y H4 => ∃ acc, H4 p = some (.lst acc) ∧ acc.length < sizeLine ∧ ∃ F' S' acc_1 vacc, Post K F1 H1 S1 F' (upd H4 p (.lst (acc ++ [y]))) S' ∧ (upd H4 p (.lst (acc ++ [y]))) p = some (.lst vacc) ∧ F' p = none ∧ S' p = none ∧ RepL K F' vacc acc_1 ∧ acc_1.length ≤ i + 1 ∧ I (i + 1) acc_1 S'
          else ∃ F' S' acc vacc, Post K F1 H1 S1 F' H3 S' ∧ H3 p = some (.lst vacc) ∧ F' p = none ∧ S' p = none ∧ RepL K F' vacc acc ∧ acc.length ≤ i + 1 ∧ I (i + 1) acc S') p3.sat ((((hσ.mono p1.same).mono p2.same).mono p3.same).wipe) r3 fun F4 H4 σ4 S4 Γ4 p4 g4 f4 => ?_))
      · exact ⟨(wipe_only z.1).trans wipe_wipe, z.2⟩
      · obtain ⟨b1, b2, b3⟩ := p4.step p _ a1 a2
        refine f4 F4 H4 σ4 _ p4.sat g4 fun F5 H5 b S5 p5 f5 => ?_
        obtain ⟨c1, c2, c3⟩ := p5.step p _ b1 b2
        have p15 := ((p2.trans p3).trans p4).trans p5
        have f5p : F5 p = none := c3 (b3 (a3 e2))
        cases b with
        | true =>
          refine iteT (f5 F5 H5 σ4 _ p5.sat (g4.mono p5.same) fun F6 H6 vy y S6 p6 r6 f6 => ?_)
          obtain ⟨d1, d2, d3⟩ := p6.step p _ c1 c2
          have ra6 : RepL K F6 vacc acc := ((((ra.mono p3.same).mono p4.same).mono p5.same).mono p6.same)
          refine ⟨vacc, d1, lnl (by rw [ra.1]; omega), F6, S6, acc ++ [y], vacc ++ [vy], ?_, upd_same, d3 f5p, d2, ra6.append (.cons r6 .nil), by simp; omega, f6⟩
          have p16 := p15.trans p6
          refine ⟨p16.same, ⟨fun b u e => ?_, p16.sat.off, fun a c e => ?_⟩, fun b o e e' => ?_⟩
          · rw [upd_ne (ne_of_none e (d3 f5p))]
            exact p16.sat.ext b u e
          · have ne : a ≠ p := ne_st e d2
            exact (p16.sat.cell a c e).mono (Same.refl _) fun u hu => by rw [upd_ne ne]; exact hu
          · obtain ⟨g1, g2, g3⟩ := p16.step b o e e'
            exact ⟨by rw [upd_ne (ne_of_none e hp)]; exact g1, g2, g3⟩
        | false =>
          refine iteF ⟨F5, S5, acc, vacc, p15, c1, f5p, c2, (((ra.mono p3.same).mono p4.same).mono p5.same), by omega, f5⟩
    · have e : i = ds.length := by omega
      subst e
      exact .inl ⟨w.stop H2 (p2.same.trans p2.sat.ext), hq F2 H2 p vacc acc S2 (p1.trans p2) e1 e2 e3 ra (hend acc S2 i2) hnp⟩
theorem w_lc {wi : TI} {g : TG} {tt : TT} {vs : List Nat} (hg : GOnly g vs)
    (h : WI K wi S Γ fun ds S1 => ∃ I : Nat → List D → Store → Prop, I 0 [] S1 ∧ ds.length ≤ 1000000 ∧
      (∀ (i : Nat) x acc S', ds[i]? = some x → acc.length ≤ i → I i acc S' → WG K g x S' (wipeE Γ vs) fun S2 Γ2 => WT K tt S2 Γ2 fun b S3 => if b = true then WE K te S3 Γ2 fun y S4 => I (i + 1) (acc ++ [y]) S4 else I (i + 1) acc S3) ∧
      ∀ acc S', I ds.length acc S' → Φ (.lst acc) S') : WE K (tLc wi g tt te vs) S Γ Φ := fun F H σ Q hs hσ hq =>
  w_lc_core (Θ := fun acc S' => Φ (.lst acc) S') hg h F H Q hs hσ fun F' H' p vacc acc S' p1 e1 e2 e3 ra f hnp => by
    refine hq (upd F' p (.lst vacc)) H' (.ref p) (.lst acc) S' ⟨p1.same.trans (same_upd e2), p1.sat.adoptF e1 e2 e3, fun b o e e' => ?_⟩ (.lst upd_same ra.1 fun i v d q1 q2 => (ra.2 i v d q1 q2).mono (same_upd e2)) f
    obtain ⟨g1, g2, g3⟩ := p1.step b o e e'
    exact ⟨g1, g2, fun z => by rw [upd_ne (hnp b o e e')]; exact g3 z⟩
def tLcM (wi : TI) (g : TG) (tt : TT) (te : TE) (vs : List Nat) : TE := tLc wi g tt te vs
/-- .. that may change -/
theorem w_lcM {wi : TI} {g : TG} {tt : TT} {vs : List Nat} (hg : GOnly g vs)
    (h : WI K wi S Γ fun ds S1 => ∃ I : Nat → List D → Store → Prop, I 0 [] S1 ∧ ds.length ≤ 1000000 ∧
      (∀ (i : Nat) x acc S', ds[i]? = some x → acc.length ≤ i → I i acc S' → WG K g x S' (wipeE Γ vs) fun S2 Γ2 => WT K tt S2 Γ2 fun b S3 => if b = true then WE K te S3 Γ2 fun y S4 => I (i + 1) (acc ++ [y]) S4 else I (i + 1) acc S3) ∧
      ∀ acc S' p, I ds.length acc S' → S' p = none → Φ (.ref p) (stU S' p (.lst acc))) : WE K (tLcM wi g tt te vs) S Γ Φ := fun F H σ Q hs hσ hq =>
  w_lc_core (Θ := fun acc S' => ∀ p, S' p = none → Φ (.ref p) (stU S' p (.lst acc))) hg (fun F H σ R hs hσ k => h F H σ R hs hσ fun F' H' J ds S' p w ⟨I, i1, i2, i3, i4⟩ => k F' H' J ds S' p w ⟨I, i1, i2, i3, fun acc S' z p => i4 acc S' p z⟩) F H Q hs hσ fun F' H' p vacc acc S' p1 e1 e2 e3 ra f hnp => by
    refine hq F' H' (.ref p) (.ref p) (stU S' p (.lst acc)) ⟨p1.same, p1.sat.adoptS e2 ⟨vacc, e1, ra⟩, fun b o e e' => ?_⟩ (.ref p) (f p e3)
    obtain ⟨g1, g2, g3⟩ := p1.step b o e e'
    exact ⟨g1, by rw [stU_ne (hnp b o e e')]; exact g2, g3⟩
theorem wt_yes {Φ : Bool → Store → Prop} (k : Φ true S) : WT K tYes S Γ Φ := fun F H σ Q hs hg hq => hq F H true S (Post.refl hs) k
/-- [.. for .. in ..] of things of one kind, nothing changed -/
theorem w_map {α : Type} {xs : List α} {f h : α → D} {wi : TI} {g : TG} {vs : List Nat} (hg : GOnly g vs)
    (hw : WI K wi S Γ fun ds S1 => ds = xs.map f ∧ xs.length ≤ 1000000 ∧ (∀ a, a ∈ xs → WG K g (f a) S1 (wipeE Γ vs) fun S2 Γ2 => WE K te S2 Γ2 fun y S4 => y = h a ∧ S4 = S1) ∧ Φ (.lst (xs.map h)) S1) : WE K (tLc wi g tYes te vs) S Γ Φ :=
  w_lc hg fun F H σ R hs hσ hq => hw F H σ R hs hσ fun F' H' J ds S1 p w ⟨e, hl, hstep, k⟩ => by
    subst e
    refine hq F' H' J _ S1 p w ⟨fun i acc S' => acc = (xs.take i).map h ∧ S' = S1, ⟨rfl, rfl⟩, by rw [List.length_map]; exact hl, fun i x acc S' hx hal ⟨e1, e2⟩ => ?_, fun acc S' ⟨e1, e2⟩ => ?_⟩
    · subst e1 e2
      rw [List.getElem?_map] at hx
      cases ha : xs[i]? with
      | none => rw [ha] at hx; cases hx
      | some a =>
        rw [ha] at hx
        cases hx
        have hst := hstep a (List.mem_of_getElem? ha)
        refine fun F H σ v Q hs hg r hq => hst F H σ v Q hs hg r fun F' H' σ' S' Γ' p sl z => hq F' H' σ' S' Γ' p sl (wt_yes (if_pos rfl ▸ z.mono fun y S4 ⟨q1, q2⟩ => ⟨?_, q2⟩))
        subst q1
        rw [List.take_add_one, ha, List.map_append]
        rfl
    · subst e1 e2
      rw [List.length_map, List.take_length]
      exact k
/-- .. with an if -/
theorem w_filter {α : Type} {xs : List α} {f h : α → D} {q : α → Bool} {wi : TI} {g : TG} {tt : TT} {vs : List Nat} (hg : GOnly g vs)
    (hw : WI K wi S Γ fun ds S1 => ds = xs.map f ∧ xs.length ≤ 1000000 ∧ (∀ a, a ∈ xs → WG K g (f a) S1 (wipeE Γ vs) fun S2 Γ2 => WT K tt S2 Γ2 fun b S3 => b = q a ∧ S3 = S1 ∧ (q a = true → WE K te S3 Γ2 fun y S4 => y = h a ∧ S4 = S1)) ∧ Φ (.lst ((xs.filter q).map h)) S1) : WE K (tLc wi g tt te vs) S Γ Φ :=
  w_lc hg fun F H σ R hs hσ hq => hw F H σ R hs hσ fun F' H' J ds S1 p w ⟨e, hl, hstep, k⟩ => by
    subst e
    refine hq F' H' J _ S1 p w ⟨fun i acc S' => acc = ((xs.take i).filter q).map h ∧ S' = S1, ⟨rfl, rfl⟩, by rw [List.length_map]; exact hl, fun i x acc S' hx hal ⟨e1, e2⟩ => ?_, fun acc S' ⟨e1, e2⟩ => ?_⟩
    · subst e1 e2
      rw [List.getElem?_map] at hx
      cases ha : xs[i]? with
      | none => rw [ha] at hx; cases hx
      | some a =>
        rw [ha] at hx
        cases hx
        have hst := hstep a (List.mem_of_getElem? ha)
        refine fun F H σ v Q hs hg r hq => hst F H σ v Q hs hg r fun F' H' σ' S' Γ' p sl z => hq F' H' σ' S' Γ' p sl (z.mono fun b S3 ⟨q1, q2, q3⟩ => ?_)
        subst q1 q2
        cases hqa : q a with
        | true =>
          refine iteT ((q3 hqa).mono fun y S4 ⟨q4, q5⟩ => ⟨?_, q5⟩)
          subst q4
          rw [List.take_add_one, ha, List.filter_append, List.map_append]
          simp [hqa]
        | false =>
          refine iteF ⟨?_, rfl⟩
          rw [List.take_add_one, ha, List.filter_append, List.map_append]
          simp [hqa]
    · subst e1 e2
      rw [List.length_map, List.take_length]
      exact k
end
end Tw

set_option Elab.async false
set_option linter.all false
set_option maxRecDepth 100000
set_option maxHeartbeats 4000000
/-! Defs: what the head says of them, their promises, their calls. -/
namespace Tw
open PySem PySem.Spec PyProof.Rows L2

/-- what the head says: the defs and the facts, by their places -/
structure Hd (fn : List He.DefD) (fa : List He.Fa) (xs : List (PySem.W.Frag → Bool)) (K : PySem.W.Frag) (mg : Str → Option Value) : Prop where
  defs : ∀ (i : Nat) d, fn[i]? = some d → ∃ fd, FunD K d.name d.qual d.params d.body d.scope (d.dvs K) (d.kws K) (He.fAd K d.at_) fd
  facts : ∀ (i : Nat) f, fa[i]? = some f → f.ok K = true
  glos : ∀ (i : Nat) x, fa[i]? = some (.glo x) → mg x = some (.ref (He.ga K x))
  frees : ∀ (i : Nat) x, fa[i]? = some (.free x) → mg x = none
  more : ∀ (i : Nat) b, xs[i]? = some b → b K = true

/-- a def keeps its promise, all its parameters written -/
def FnE (P : Program) (w : World) (K : PySem.W.Frag) (mg : Str → Option Value) (base : Heap) (k : Nat) (f : Addr) (ps : List Str) (sp : Sp) : Prop :=
  ∃ fd, FnOk P w K mg base CX0 k f fd ps sp ∧ Binds K fd ps [] ∧ PySem.W.keepIn K (.ref f) = true

def startE (N : List Str) (ds : List D) : Env := ds.map some ++ List.replicate (N.length - ds.length) none
theorem slots_start {K : PySem.W.Frag} {F : Hp} {N : List Str} {vs : List V} {ds : List D} (h : RepL K F vs ds) : Slots K F (L2.start N vs) (startE N ds) := by
  refine ⟨by simp [L2.start, startE, h.1], fun i d q => ?_⟩
  unfold startE at q
  by_cases hi : i < ds.length
  · rw [List.getElem?_append_left (by simpa using hi), List.getElem?_map] at q
    cases e : ds[i]? with
    | none => rw [e] at q; cases q
    | some d' =>
      rw [e] at q
      cases q
      obtain ⟨v, e1, r⟩ := h.get e
      refine ⟨v, ?_, r⟩
      unfold L2.start
      rw [List.getElem?_append_left (by rw [List.length_map, h.1]; exact hi), List.getElem?_map, e1]
      rfl
  · rw [List.getElem?_append_right (by simpa using hi), List.getElem?_replicate] at q
    split at q <;> cases q

section
variable {P : Program} {w : World} {K : PySem.W.Frag} {mg : Str → Option Value} {base : Heap} {fn : List He.DefD} {fa : List He.Fa} {xs : List (PySem.W.Frag → Bool)}
/-- THE RULE: a def by its body -/
theorem Hd.ok (T : Hd fn fa xs K mg) (i : Nat) {d : He.DefD} (hi : fn[i]? = some d) {N ps : List Str} {k : Nat} {sp : Spec} (hdf : d.dfl = []) (S : FnScope N ps d.scope) (len : ∀ ds S Φ, sp ds S Φ → ds.length = ps.length)
    (hb : ∀ (kV doc pm : Value) (an : Option Addr) (cdv ct : Value) (us : List Value), us.length = ps.length → bindArgs (PySem.W.fnOf d.name d.qual d.params d.body d.scope .none kV doc pm an cdv ct) ⟨us, []⟩ = pure (ps.zip us))
    (body : ∀ (cdv : Value) (A : Around) (outer : List PySem.Env) (s : Shared) (H : Hp) (E : XK), Room k (A.deeper (envOfC d.qual d.scope s.heap.objs.size (He.fAd K d.at_) cdv)) →
      ∃ t, PSs (cxOf CX0 P w K mg base N d.qual d.scope (He.fAd K d.at_) cdv A outer s H E).nox d.body t ∧ ∀ ds S Φ, sp ds S Φ → WS K t S (startE N ds) { nx := fun S' _ => ∃ S2, Sub S2 S' ∧ Φ .non S2, rt := Φ }) :
    FnE P w K mg base (k + 1) (He.fAd K d.at_) ps (spOf K sp) := by
  obtain ⟨fd, F⟩ := T.defs i d hi
  have F' := F
  obtain ⟨oc, od, dV, kV, doc, pm, an, cdv, ct, osl, rfl, lk, hcd, hD, _⟩ := F.ex
  have hdV : dV = .none := by
    rcases hD with ⟨_, e⟩ | ⟨ne, _⟩
    · exact e
    · exact absurd (by unfold He.DefD.dvs; rw [hdf]; rfl) ne
  subst hdV
  refine ⟨_, F'.ok (CX := CX0) S (fun vs H Q E ⟨F0, S0, ds, Φ, _, r, h, _⟩ => by rw [r.1]; exact len _ _ _ h) (fun cdv A outer s H vs Q E hr h => ?_), .all fun us hl => hb _ _ _ _ _ _ us hl, F'.kp⟩
  obtain ⟨t, ht, hw⟩ := body cdv A outer s H E hr
  obtain ⟨F0, S0, ds, Φ, hs, r, h, hq⟩ := h
  exact ⟨t, ht.nox, hw ds S0 Φ h F0 H _ _ hs (slots_start r) (fun F' H' σ' S' Γ' p g ⟨S2, s2, z⟩ => hq F' H' _ _ S2 (p.sub s2) .non z) (fun F' H' v d S' p r z => hq F' H' v d S' p r z) (fun _ _ _ _ _ _ _ z => z.elim) (fun _ _ _ _ _ _ _ z => z.elim)⟩
theorem FnE.mono {j k : Nat} {f : Addr} {ps : List Str} {sp : Sp} (h : FnE P w K mg base j f ps sp) (hk : j ≤ k) : FnE P w K mg base k f ps sp := let ⟨fd, a, b, c⟩ := h; ⟨fd, a.mono hk, b, c⟩
/-- a weaker promise -/
theorem FnE.imp {k : Nat} {f : Addr} {ps : List Str} {sp sp' : Spec} (h : FnE P w K mg base k f ps (spOf K sp)) (i : ∀ ds S Φ, sp' ds S Φ → sp ds S Φ) : FnE P w K mg base k f ps (spOf K sp') :=
  let ⟨fd, a, b, c⟩ := h
  ⟨fd, a.imp fun vs H Q E ⟨F, S, ds, Φ, p, q, r, z⟩ => ⟨F, S, ds, Φ, p, q, i _ _ _ r, z⟩, b, c⟩
end

section
variable {X : Cx} {k : Nat} {f C : Addr} {ps : List Str} {sp : Sp} {x m : Str} {p pos apos : Pos} {e o : Expr} {es : List Expr} {ta : TE} {t : TA}
theorem pe_callE (F : FnE X.prog X.w X.K X.mg X.base k f ps sp) (hr : Room k X.A) (hg : Gl X x) (hm : X.mg x = some (.ref f))
    (ha : PA X (e :: es) t) (hdb : (x == ("__debug__" : Str)) = false := by decide) (he : starEach (e :: es) X.env = (false, eval e X.env) :: starEach es X.env := by rfl) (hpl : (backTo pos (starEach es X.env)).any (·.1) = false := by rfl) :
    PE X (.Call (.Name x p) (e :: es) [] pos) (tCall sp [] E0 t) := by
  obtain ⟨fd, h, b, kp⟩ := F
  exact pe_call h hr hg hm kp b .nil pass0 ha hdb he hpl
theorem pe_call0E (F : FnE X.prog X.w X.K X.mg X.base k f ps sp) (hr : Room k X.A) (hg : Gl X x) (hm : X.mg x = some (.ref f)) (hdb : (x == ("__debug__" : Str)) = false := by decide) :
    PE X (.Call (.Name x p) [] [] pos) (tCall sp [] E0 tNil) := by
  obtain ⟨fd, h, b, kp⟩ := F
  exact pe_call0 h hr hg hm kp b .nil pass0 hdb
theorem pe_makeE (M : Mk X.K C f) (F : FnE X.prog X.w X.K X.mg X.base k f ps sp) (hr : Room (k + 1) X.A) (hg : Gl X x) (hm : X.mg x = some (.ref C))
    (ha : PA X (e :: es) t) (hdb : (x == ("__debug__" : Str)) = false := by decide) (he : starEach (e :: es) X.env = (false, eval e X.env) :: starEach es X.env := by rfl) (hpl : (backTo pos (starEach es X.env)).any (·.1) = false := by rfl) :
    PE X (.Call (.Name x p) (e :: es) [] pos) (tMake C sp [] E0 t) := by
  obtain ⟨fd, h, b, kp⟩ := F
  exact pe_make M h hr hg hm b .nil pass0 ha hdb he hpl
theorem pe_methE {pl : Sem Bool} (he : PE X o ta) (c : Cls X.K C) (hm : Meth X.K C m f) (F : FnE X.prog X.w X.K X.mg X.base k f ps sp) (hr : Room k X.A) (ha : PA X (e :: es) t)
    (hst : starEach (e :: es) X.env = (false, eval e X.env) :: starEach es X.env := by rfl) (hpl : (backTo pos (starEach es X.env)).any (·.1) = false := by rfl)
    (ht : eval (.Call (.Attribute o m apos) (e :: es) [] pos) X.env = (do
      let ov ← eval o X.env
      standAt apos.atName
      let (f, first) ← holding [ov] (getMethod ov m pl)
      callWith pos f first (backTo pos (starEach (e :: es) X.env)) (backToKw pos (keywordEach [] X.env))) := by rfl) :
    PE X (.Call (.Attribute o m apos) (e :: es) [] pos) (tMeth C m sp [] E0 ta t) := by
  obtain ⟨fd, h, b, kp⟩ := F
  exact pe_meth he c hm h hr b .nil pass0 ha hst hpl ht
theorem pe_meth0E {pl : Sem Bool} (he : PE X o ta) (c : Cls X.K C) (hm : Meth X.K C m f) (F : FnE X.prog X.w X.K X.mg X.base k f ps sp) (hr : Room k X.A)
    (ht : eval (.Call (.Attribute o m apos) [] [] pos) X.env = (do
      let ov ← eval o X.env
      standAt apos.atName
      let (f, first) ← holding [ov] (getMethod ov m pl)
      callWith pos f first (backTo pos (starEach [] X.env)) (backToKw pos (keywordEach [] X.env))) := by rfl) :
    PE X (.Call (.Attribute o m apos) [] [] pos) (tMeth C m sp [] E0 ta tNil) := by
  obtain ⟨fd, h, b, kp⟩ := F
  exact pe_meth0 he c hm h hr b .nil pass0 ht
end
end Tw

set_option Elab.async false
set_option linter.all false
set_option maxRecDepth 100000
set_option maxHeartbeats 4000000
/-! Further rules: walks over tuples, universal operators, own operators, equality. -/
namespace Tw
open PySem PySem.Spec PyProof.Rows L2
open AutoSeq1 (wpAny_loadPart')

/-! ### enumerate of a tuple -/
theorem meets_enumerate_newT (l : Addr) (items : Array Value) (o : Obj) :
    Meets (Builtin.«enumerate.__new__» ⟨[.type "enumerate", .ref l], []⟩) (fun _ R s => (s.heap.get? l = some o ∧ s.heap.IsTuple l items) ∧
      R (.ok (.ret (.ref (s.heap.push { cls := .type "tuple_iterator", data := .fields #[.ref l, .int 0 0] }).objs.size)))
        { s with heap := (s.heap.push { cls := .type "tuple_iterator", data := .fields #[.ref l, .int 0 0] }).push { cls := .type "enumerate", data := .fields #[.none, .bool false, .ref s.heap.objs.size, rawInt 0, .none, .none] } }) :=
  .of_wp fun prog w A R s h => by
    obtain ⟨hp, g, d, tk, os⟩ := s; obtain ⟨⟨hl, hL⟩, h⟩ := h
    have hsub := sub_enumerate
    have hL : Heap.IsTuple (Shared.heap ⟨hp, g, d, tk, os⟩) l items := hL
    wp_walk using wpAny_loadPart' hl
    refine wpAny_stack_any fun st => wpAny_pure ?_
    split
    · rename_i c _ _ _ _ _
      cases (c == Value.type "enumerate")
      · wp_walk using wpAny_loadPart' hl, wpAny_pyIter_tuple hL
        exact ⟨_, rfl, h⟩
      · wp_walk using wpAny_loadPart' hl, wpAny_pyIter_tuple hL
        exact ⟨_, rfl, h⟩
    · wp_walk using wpAny_loadPart' hl, wpAny_pyIter_tuple hL
      exact ⟨_, rfl, h⟩
theorem call_enumerate_tuple {prog : Program} {w : World} {A : Around} {E : Value → Shared → Prop} {s : Shared} {l : Addr} {items : Array Value} {Q : Value → Shared → Prop} (hL : s.heap.IsTuple l items)
    (h : ∀ h', IsEnum h' (s.heap.objs.size + 1) s.heap.objs.size 0 .none → h'.IsTupleIter s.heap.objs.size l 0 → h'.objs.size = s.heap.objs.size + 2 →
      (∀ b o, s.heap.get? b = some o → h'.get? b = some o) → Q (.ref (s.heap.objs.size + 1)) { s with heap := h' }) :
    wpAny (model prog w) A (call (.type "enumerate") [.ref l]) Q E s := by
  obtain ⟨o, hl, _⟩ := id hL
  refine callType_new F.called_enumerate (by decide) (F.typeCall_enumerate_1 _) (F.newCall_enumerate_1 _) (fun obj => F.args_object_init_2 obj _) F.entry_enumerate_new
    (meets_enumerate_newT l items o) ⟨⟨hl, hL⟩, ?_⟩
  have hz : (s.heap.push { cls := .type "tuple_iterator", data := .fields #[.ref l, .int 0 0] }).objs.size = s.heap.objs.size + 1 := Heap.size_push ..
  show _ ∧ _
  rw [hz]
  have he : IsEnum ((s.heap.push { cls := .type "tuple_iterator", data := .fields #[.ref l, .int 0 0] }).push
      { cls := .type "enumerate", data := .fields #[.none, .bool false, .ref s.heap.objs.size, rawInt 0, .none, .none] }) (s.heap.objs.size + 1) s.heap.objs.size 0 .none := by
    have := Heap.get?_push_size (s.heap.push { cls := .type "tuple_iterator", data := .fields #[.ref l, .int 0 0] })
      (o := { cls := .type "enumerate", data := .fields #[.none, .bool false, .ref s.heap.objs.size, rawInt 0, .none, .none] }) rfl
    rw [hz] at this; exact this
  refine ⟨⟨_, he, rfl⟩, h _ he ⟨_, Heap.get?_push_of_some _ (Heap.get?_push_size _ rfl), rfl, rfl⟩ (by rw [Heap.size_push, hz]) fun b o x => Heap.get?_push_of_some _ (Heap.get?_push_of_some _ x)⟩

def IteT (K : PySem.W.Frag) (a : Addr) : It :=
  ⟨fun i H => ∃ (xs : List V) (x : V), SqT K H a xs ∧ xs[i]? = some x, fun i H v H' => ∃ T x, v = .ref T ∧ H T = none ∧ H' = upd H T (.tup [.int (i : Nat), x]) ∧ ∀ xs, SqT K H a xs → xs[i]? = some x, fun i H => ∃ xs : List V, SqT K H a xs ∧ xs.length = i⟩
theorem turn_enumT {P : Program} {w : World} {K : PySem.W.Frag} {elts : List Expr} {kk : Nat} {tpos : Pos} (a e it : Addr) :
    Turn P w K (.Tuple elts kk tpos) (IteT K a) [e, it] e (fun i h => (∃ old, IsEnum h e it ((i : Nat) : Int) old) ∧ h.IsTupleIter it a i ∧ e ≠ it ∧ a ≠ it ∧ a ≠ e) where
  mem := by simp
  obj := fun i h st b hb => by
    obtain ⟨⟨old, he⟩, ⟨o, ho, hc, hd⟩, _⟩ := st
    have e' : b = e ∨ b = it := by simpa using hb
    rcases e' with z | z
    · rw [z]; exact ⟨_, he, fun v q => nomatch q⟩
    · rw [z]; exact ⟨o, ho, fun v q => by rw [hd] at q; cases q⟩
  keep := fun i h h' st k => let ⟨⟨old, he⟩, hi, hne⟩ := st; ⟨⟨old, k e (by simp) _ he⟩, hi.at fun o q => k it (by simp) o q, hne⟩
  item := by
    intro X hP hw hK hc i pins s σ H E I hf st hg
    subst hP hw hK
    obtain ⟨⟨old, he⟩, hit, hne, hai, hae⟩ := st
    obtain ⟨xs, x, hq, hx⟩ := hg
    obtain ⟨its, rv, p, hz⟩ := I.tuple hq
    obtain ⟨u, hu, ru⟩ := rv.get hx
    have hel : e < s.heap.objs.size := Heap.lt_size he
    have hil : it < s.heap.objs.size := by obtain ⟨_, q, _⟩ := hit; exact Heap.lt_size q
    have p' : s.heap.IsTuple a its.toArray := p
    have hlen : i < its.toArray.size := by
      have := (List.getElem?_eq_some_iff.mp hu).1
      simpa using this
    refine wpAny_pyNext_enum_itemD (Draws.tuple (prog := X.prog) (w := X.w) (A := X.A.in1) (I.ok.hd hc) it a hai its.toArray) he ⟨hit, p'⟩ hlen hne (by simp [hne, Ne.symm hae]) fun y h' tk hy ho st' hT hsz hk => ?_
    have hyu : y = u := by
      have e1 : its.toArray[i]? = some u := by simpa using hu
      rw [e1] at hy
      exact (Option.some.inj hy).symm
    subst hyu
    refine ⟨_, rfl, wpAny_letOwnedTupleGo_enum (s := { s with heap := h', toks := tk + 1 }) ho fun h'' he' sb => ?_⟩
    have hT2 : h''.get? s.heap.objs.size = some { cls := .type "tuple", data := .seq #[.int i tk, y] } := (sb.2 _ (Nat.ne_of_gt hel)).trans hT
    have new : ObjOk X.prog X.w (upd H s.heap.objs.size (.tup [.int (i : Nat), x])) h'' s.heap.objs.size (.tup [.int (i : Nat), x]) :=
      ⟨by show 2 ≤ sizeLine; decide, [.int i tk, y], .cons ⟨_, rfl⟩ (.cons ru .nil), ⟨_, hT2, rfl, _, rfl⟩⟩
    have I1 : Inv X pins σ (upd H s.heap.objs.size (.tup [.int (i : Nat), x])) { s with heap := h'', toks := tk + 1 } :=
      I.turnedNew (ch := [e, it]) (fun b ob hb q => (sb.2 b (fun z => hb (by simp [z]))).trans (hk b ob (fun z => hb (by simp [z])) (fun z => hb (by simp [z])) q)) hf (Nat.le_refl _) new
    refine ⟨.ref s.heap.objs.size, _, I1, rfl, ⟨_, x, rfl, I.hok.fresh (Nat.le_refl _), rfl, fun ys hy => by rw [I.tuple_inj hy hq]; exact hx⟩, ⟨⟨y, ?_⟩, st'.1.at fun o q => (sb.2 it (Ne.symm hne)).trans q, hne, hai, hae⟩, fun b hb => ?_⟩
    · have e1 : ((i + 1 : Nat) : Int) = (i : Int) + 1 := by omega
      rw [e1]; exact he'
    · have hb' : b < s.heap.objs.size := by
        have e' : b = e ∨ b = it := by simpa using hb
        rcases e' with z | z
        · rw [z]; exact hel
        · rw [z]; exact hil
      rw [upd_ne (Nat.ne_of_lt hb')]
      exact (hf b hb).1
  done := by
    intro X hP hw hK hc i pins s σ H E I hf st hg
    subst hP hw hK
    obtain ⟨⟨old, he⟩, hit, hne, hai, hae⟩ := st
    obtain ⟨xs, hq, hx⟩ := hg
    obtain ⟨its, rv, p, hz⟩ := I.tuple hq
    obtain ⟨f0, f1, f2, f3, f4, f5⟩ := hf it (by simp)
    have hl := rv.length
    have p' : s.heap.IsTuple a its.toArray := p
    have hi : its.toArray.size = i := by simp; omega
    subst hi
    have D := Draws.tuple (prog := X.prog) (w := X.w) (A := X.A.in1) (I.ok.hd hc) it a hai its.toArray
    exact wpAny_pyNext_enum_endD D he ⟨hit, p'⟩ fun h' eb => ⟨rfl, I.turned (t' := s.toks) (fun b o hb q => eb b o hb q) f0 f1 f3 f4 f5⟩
  self := fun A i s Q E st h => let ⟨⟨_, he⟩, _⟩ := st; wpAny_pyIter_enum he h

/-! ### walks over lists and tuples -/
section
variable {X : Cx} {tg : Expr}
def iSeqU (K : PySem.W.Frag) (tl : TE) : TI := fun σ H R => tl σ H fun x H1 => ∃ a, x = .ref a ∧ (((∃ xs, SqL K H1 a xs) ∧ R (Itl K a) H1) ∨ ((∃ xs, SqT K H1 a xs) ∧ R (Itt K a) H1))
theorem pi_seqU {l : Expr} {tl : TE} (hl : PE X l tl) : PI X tg l (iSeqU X.K tl) := by
  refine ⟨fun pins s σ H R I h => ?_⟩
  refine thn (hl.run pins s σ H _ I h) fun v s1 ⟨x, H1, I1, r1, q1⟩ => ?_
  obtain ⟨a, e, q⟩ := q1
  subst e
  cases r1
  rcases q with ⟨⟨xs, hq⟩, q⟩ | ⟨⟨xs, hq⟩, q⟩
  · obtain ⟨its, rv, p, hz⟩ := I1.list hq
    refine wpAny_pyIter_list p.isList ?_
    refine ⟨s1.heap.objs.size, [s1.heap.objs.size], _, _, H1, rfl, I1.kept (t' := s1.toks) fun b o e => Heap.get?_push_of_some _ e, turn_list a _, ⟨_, Heap.get?_push_size _ rfl, rfl, rfl⟩, fun b hb => ?_, q⟩
    have e : b = s1.heap.objs.size := by simpa using hb
    subst e
    exact I1.fpOk (Nat.le_refl _) (I1.hok.fresh (Nat.le_refl _))
  · obtain ⟨its, rv, p, hz⟩ := I1.tuple hq
    refine wpAny_pyIter_tuple (show s1.heap.IsTuple a its.toArray from p) ?_
    refine ⟨s1.heap.objs.size, [s1.heap.objs.size], _, _, H1, rfl, I1.kept (t' := s1.toks) fun b o e => Heap.get?_push_of_some _ e, turn_tuple a _, ⟨_, Heap.get?_push_size _ rfl, rfl, rfl⟩, fun b hb => ?_, q⟩
    have e : b = s1.heap.objs.size := by simpa using hb
    subst e
    exact I1.fpOk (Nat.le_refl _) (I1.hok.fresh (Nat.le_refl _))
def iEnumU (K : PySem.W.Frag) (ta : TA) : TI := fun σ H R => ta σ H fun vs H1 => ∃ a, vs = [.ref a] ∧ (((∃ xs, SqL K H1 a xs) ∧ R (Ite K a) H1) ∨ ((∃ xs, SqT K H1 a xs) ∧ R (IteT K a) H1))
theorem pi_enumU {e : Expr} {ta : TA} {p pos tpos : Pos} {elts : List Expr} {kk : Nat} (hg : Gl X "enumerate") (hm : X.mg "enumerate" = none) (ha : PA X [e] ta) (hs : starEach [e] X.env = [(false, eval e X.env)] := by rfl) :
    PI X (.Tuple elts kk tpos) (.Call (.Name "enumerate" p) [e] [] pos) (iEnumU X.K ta) := by
  refine ⟨fun pins s σ H R I h => ?_⟩
  refine Call_ (ld_blt I hg hm boot_enumerate (PyProof.Rows.callWith_type1 (thn (ha.run pos pins s σ H _ I h) fun us s1 ⟨vs, H1, I1, r1, q1⟩ => ?_) hs rfl))
  obtain ⟨a, ex, q⟩ := q1
  subst ex
  cases r1 with
  | cons r rr =>
    cases rr
    cases r
    have fp : ∀ b ∈ [s1.heap.objs.size + 1, s1.heap.objs.size], FpOk X pins H1 b := fun b hb => by
      have e' : b = s1.heap.objs.size + 1 ∨ b = s1.heap.objs.size := by simpa using hb
      have hle : s1.heap.objs.size ≤ b := by
        rcases e' with z | z
        · rw [z]; exact Nat.le_add_right _ _
        · rw [z]; exact Nat.le_refl _
      exact I1.fpOk hle (I1.hok.fresh hle)
    rcases q with ⟨⟨xs, hq⟩, q⟩ | ⟨⟨xs, hq⟩, q⟩
    · obtain ⟨its, rv, p', hz⟩ := I1.list hq
      refine call_enumerate_list p'.isList fun h' he hit hsz hk => wpAny_pyIter_enum he ?_
      have I2 : Inv X pins σ H1 { s1 with heap := h' } := I1.kept (t' := s1.toks) hk
      exact ⟨s1.heap.objs.size + 1, [s1.heap.objs.size + 1, s1.heap.objs.size], _, _, H1, rfl, I2, turn_enum a (s1.heap.objs.size + 1) s1.heap.objs.size, ⟨⟨.none, he⟩, hit, Nat.succ_ne_self _⟩, fp, q⟩
    · obtain ⟨its, rv, p', hz⟩ := I1.tuple hq
      have p2 : s1.heap.IsTuple a its.toArray := p'
      have hal : a < s1.heap.objs.size := by obtain ⟨_, q, _⟩ := p2; exact Heap.lt_size q
      refine call_enumerate_tuple p2 fun h' he hit hsz hk => wpAny_pyIter_enum he ?_
      have I2 : Inv X pins σ H1 { s1 with heap := h' } := I1.kept (t' := s1.toks) hk
      exact ⟨s1.heap.objs.size + 1, [s1.heap.objs.size + 1, s1.heap.objs.size], _, _, H1, rfl, I2, turn_enumT a (s1.heap.objs.size + 1) s1.heap.objs.size, ⟨⟨.none, he⟩, hit, Nat.succ_ne_self _, Nat.ne_of_lt hal, Nat.ne_of_lt (Nat.lt_succ_of_lt hal)⟩, fp, q⟩
end

section
variable {K : PySem.W.Frag} {S S' S1 : Store} {Γ Γ' : Env} {Φ : List D → Store → Prop} {ta tb tc te to : TE} {x y z d : D} {σ : L2.St}
/-- a list or a tuple that stands still -/
inductive Stands : D → List D → Prop
  | l {ds : List D} : Stands (.lst ds) ds
  | t {ds : List D} : Stands (.tup ds) ds
  | s {ds : List D} : Stands (.sq ds) ds
theorem Stands.get {F : Hp} {vx : V} {ds : List D} (h : Stands x ds) (r : Rep K F vx x) : ∃ a vs, vx = .ref a ∧ RepL K F vs ds ∧ (SqL K F a vs ∨ SqT K F a vs) := by
  cases h with
  | l => cases r with | lst h hl hr => exact ⟨_, _, rfl, ⟨hl, hr⟩, .inl (SqL.of h)⟩
  | t => cases r with | tup h hl hr => exact ⟨_, _, rfl, ⟨hl, hr⟩, .inr h⟩
  | s => cases r with | sq h hl hr => exact ⟨_, _, rfl, ⟨hl, hr⟩, .inl h⟩
theorem Stands.seq {ds : List D} (h : Stands x ds) : SeqOf S x ds := by
  cases h
  · exact .l
  · exact .t
  · exact .s
theorem wi_seq (h : WE K te S Γ fun x S1 => ∃ ds, Stands x ds ∧ Φ ds S1) : WI K (iSeqU K te) S Γ Φ := fun F H σ R hs hg hq =>
  h F H σ _ hs hg fun F1 H1 v x S1 p1 r1 ⟨ds, e, f⟩ => by
    obtain ⟨a, vs, rfl, rl, q⟩ := e.get r1
    rcases q with q | q
    · exact ⟨a, rfl, .inl ⟨⟨vs, p1.sat.ext.seq q⟩, hq F1 H1 _ ds S1 p1 (walks_l q rl) f⟩⟩
    · exact ⟨a, rfl, .inr ⟨⟨vs, same_t p1.sat.ext q⟩, hq F1 H1 _ ds S1 p1 (walks_t q rl) f⟩⟩
theorem walks_eT {F : Hp} {a : Addr} {vs : List V} {ds : List D} (h : SqT K F a vs) (r : RepL K F vs ds) : Walks K (IteT K a) F (enumD ds) where
  go := fun i H hi s => by
    have hi' : i < vs.length := by rw [r.1]; simpa [enumD] using hi
    exact ⟨vs, vs[i], same_t s h, List.getElem?_eq_getElem hi'⟩
  yld := fun i F1 H1 S v H2 x hx s hs y => by
    obtain ⟨T, w, rfl, hT, rfl, y⟩ := y
    obtain ⟨d, hd, rfl⟩ := enumD_get hx
    have rw' := (r.2 i w d (y vs (same_t (s.trans hs.ext) h)) hd).mono s
    have sm := same_upd (o := .tup [.int (i : Nat), w]) (hs.ext.free hT)
    refine ⟨_, Post.newF hs hT, .tup (SqT.of upd_same) rfl ?_⟩
    exact (RepL.cons (.int _) (RepL.cons (rw'.mono sm) .nil)).2
  stop := fun H s => ⟨vs, same_t s h, by simp [enumD, r.1]⟩
theorem wi_enum {ta : TA} (h : WA K ta S Γ fun xs S1 => ∃ x ds, xs = [x] ∧ Stands x ds ∧ Φ (enumD ds) S1) : WI K (iEnumU K ta) S Γ Φ := fun F H σ R hs hg hq =>
  h F H σ _ hs hg fun F1 H1 vs xs S1 p1 r1 ⟨x, ds, e, st, f⟩ => by
    subst e
    obtain ⟨v, r, rfl, r2, r3⟩ := r1.uncons
    rw [r3.unnil]
    obtain ⟨a, vs, rfl, rl, q⟩ := st.get r2
    rcases q with q | q
    · exact ⟨a, rfl, .inl ⟨⟨vs, p1.sat.ext.seq q⟩, hq F1 H1 _ _ S1 p1 (walks_e q rl) f⟩⟩
    · exact ⟨a, rfl, .inr ⟨⟨vs, same_t p1.sat.ext q⟩, hq F1 H1 _ _ S1 p1 (walks_eT q rl) f⟩⟩
theorem walks_zT {F : Hp} {a b : Addr} {vs ws : List V} {ds es : List D} (h : SqT K F a vs) (h' : SqT K F b ws) (r : RepL K F vs ds) (r' : RepL K F ws es) : Walks K (RZ.ItzT K a b) F (zipD ds es) where
  go := fun i H hi s => by
    rw [zipD_len] at hi
    have h1 : i < vs.length := by rw [r.1]; omega
    have h2 : i < ws.length := by rw [r'.1]; omega
    exact ⟨vs, ws, vs[i], ws[i], same_t s h, same_t s h', List.getElem?_eq_getElem h1, List.getElem?_eq_getElem h2⟩
  yld := fun i F1 H1 S v H2 x hx s hs y => by
    obtain ⟨T, w, w', rfl, hT, rfl, y1, y2⟩ := y
    obtain ⟨d, e, hd, he, rfl⟩ := zipD_get hx
    have q1 := (r.2 i w d (y1 vs (same_t (s.trans hs.ext) h)) hd).mono s
    have q2 := (r'.2 i w' e (y2 ws (same_t (s.trans hs.ext) h')) he).mono s
    have sm := same_upd (o := .tup [w, w']) (hs.ext.free hT)
    refine ⟨_, Post.newF hs hT, .tup (SqT.of upd_same) rfl ?_⟩
    exact (RepL.cons (q1.mono sm) (RepL.cons (q2.mono sm) .nil)).2
  stop := fun H s => ⟨vs, ws, same_t s h, same_t s h', by rw [zipD_len, r.1, r'.1]; omega⟩
inductive Stands2 : D → D → List D → List D → Prop
  | l {ds es : List D} : Stands2 (.lst ds) (.lst es) ds es
  | t {ds es : List D} : Stands2 (.tup ds) (.tup es) ds es
theorem wi_zip {ta : TA} (h : WA K ta S Γ fun xs S1 => ∃ x y ds es, xs = [x, y] ∧ Stands2 x y ds es ∧ Φ (zipD ds es) S1) : WI K (RZ.iZipA K ta) S Γ Φ := fun F H σ R hs hg hq =>
  h F H σ _ hs hg fun F1 H1 vs xs S1 p1 r1 ⟨x, y, ds, es, e, st, f⟩ => by
    subst e
    obtain ⟨v, r, rfl, r2, r3⟩ := r1.uncons
    obtain ⟨v', r', rfl, r4, r5⟩ := r3.uncons
    rw [r5.unnil]
    cases st with
    | l =>
      cases r2 with
      | lst h hl hr =>
        cases r4 with
        | lst h' hl' hr' => exact ⟨_, _, _, _, rfl, .inl ⟨SqL.of (p1.sat.ext _ _ h), SqL.of (p1.sat.ext _ _ h'), hq F1 H1 _ _ S1 p1 (walks_z (SqL.of h) (SqL.of h') ⟨hl, hr⟩ ⟨hl', hr'⟩) f⟩⟩
    | t =>
      cases r2 with
      | tup h hl hr =>
        cases r4 with
        | tup h' hl' hr' => exact ⟨_, _, _, _, rfl, .inr ⟨same_t p1.sat.ext h, same_t p1.sat.ext h', hq F1 H1 _ _ S1 p1 (walks_zT h h' ⟨hl, hr⟩ ⟨hl', hr'⟩) f⟩⟩
/-- range(a, b, c), c a positive number -/
def rngC (lo c : Int) (n : Nat) : List D := (List.range n).map fun k => .int (lo + (k : Nat) * c)
theorem walks_rC {F : Hp} (lo c : Int) (n : Nat) : Walks K (Itc lo c n) F (rngC lo c n) where
  go := fun i H hi s => by
    have : i < n := by simpa [rngC] using hi
    exact this
  yld := fun i F1 H1 S v H2 x hx s hs y => by
    obtain ⟨e, y⟩ := y
    subst e
    have hi : i < n := by
      have := (List.getElem?_eq_some_iff.mp hx).1
      simpa [rngC] using this
    unfold rngC at hx
    rw [List.getElem?_map, List.getElem?_range hi] at hx
    cases hx
    subst y
    exact ⟨F1, Post.refl hs, .int _⟩
  stop := fun H s => by
    show n ≤ (rngC lo c n).length
    simp [rngC]
end
end Tw

set_option Elab.async false
set_option linter.all false
set_option maxRecDepth 100000
set_option maxHeartbeats 4000000
/-! list(zip(a, b)) of two lists, at the library's level. -/
namespace TwZ
open PySem PySem.Spec PyProof.Rows PySem.W
open PySem.Sem (wp)
/-- the zip, whose tuple went out to T and lives on -/
abbrev ZipO (h : Heap) (z TI TO : Addr) (T : Addr) (f : Bool) : Prop :=
  h.get? z = some { cls := .type "zip", dict := none, data := .fields #[rawInt T, .bool f, .bool false, .ref TI, .ref TO], slots := #[] }
section
variable {prog : Program} {w : World} {A : Around} {E : Value → Shared → Prop} {s : Shared}
theorem free_out {z TI TO T : Addr} {f : Bool} {oT : Obj} {Q : Bool → Shared → Prop} (hz : ZipO s.heap z TI TO T f) (hT : s.heap.get? T = some oT)
    (hQ : ∀ h', ZipO h' z TI TO T true → Heap.SameBut z s.heap h' → Q false { s with heap := h' }) : wpAny (model prog w) A (Builtin.SmallTypes.ownedTupleIsFree (.ref z)) Q E s := by
  unfold Builtin.SmallTypes.ownedTupleIsFree
  refine wpAny_bind (wpAny_field hz rfl (x := rawInt T) rfl ?_)
  simp only [rawInt]
  refine wpAny_bind (kdx_alive (by simpa using hT) ?_)
  simp only [Option.isNone_some, Bool.false_eq_true, if_false]
  refine wpAny_bind (wpAny_field hz rfl (x := .bool f) rfl ?_)
  cases f with
  | true =>
    refine wpAny_ite_split (fun h => absurd h (by decide)) (fun _ => ?_)
    exact wpAny_pure (hQ _ hz (Heap.SameBut.refl ..))
  | false =>
    refine wpAny_ite_split (fun _ => ?_) (fun h => absurd (by decide) h)
    refine wpAny_bind (wpAny_setField_rec hz (by simp) fun h₁ hz₁ hs₁ => ?_)
    exact wpAny_pure (hQ _ hz₁ hs₁)
theorem next_out {z TI TO i1 i2 l1 l2 T : Addr} {f : Bool} {oT : Obj} {k1 k2 : Nat} {xs ys : Array Value} {x y : Value} {Q : Value → Shared → Prop} (D : ZipApart z TI TO i1 i2 l1 l2)
    (hz : ZipO s.heap z TI TO T f) (hT : s.heap.get? T = some oT) (hTI : IsPair s.heap TI (.ref i1) (.ref i2))
    (h1 : s.heap.IsListIter i1 l1 k1) (h2 : s.heap.IsListIter i2 l2 k2) (hl1 : s.heap.IsList l1 xs) (hl2 : s.heap.IsList l2 ys) (hx : xs[k1]? = some x) (hy : ys[k2]? = some y)
    (hQ : ∀ h', ZipO h' z TI TO T true → h'.IsListIter i1 l1 (k1 + 1) → h'.IsListIter i2 l2 (k2 + 1) → IsPair h' s.heap.objs.size x y → h'.objs.size = s.heap.objs.size + 1 →
      (∀ c o, c ≠ z → c ≠ i1 → c ≠ i2 → s.heap.get? c = some o → h'.get? c = some o) → Q (.ref s.heap.objs.size) { s with heap := h' }) :
    wpAny (model prog w) A (Builtin.«zip.__next__» ⟨[.ref z], []⟩) (fun fin s' => ∃ v, fin = .done (.ret v) ∧ Q v s') E s := by
  show wpAny _ _ (field (.ref z) 2 >>= _) _ _ _
  refine wpAny_bind (wpAny_field hz rfl (x := .bool false) rfl ?_)
  show wpAny _ _ (field (.ref z) 3 >>= _) _ _ _
  refine wpAny_bind (wpAny_field hz rfl (x := .ref TI) rfl ?_)
  refine wpAny_bind (wpAny_seqItems hTI rfl ?_)
  show wpAny _ _ (Builtin.SmallTypes.ownedTupleIsFree (.ref z) >>= _) _ _ _
  refine wpAny_bind (free_out hz hT fun h₁ hz₁ hs₁ => ?_)
  simp only [Bool.false_eq_true, if_false]
  refine wpAny_bind ?_
  simp only [List.forIn_toArray, List.forIn_cons, List.forIn_nil]
  refine wpAny_bind (wpAny_bind (wpAny_holding ?_))
  show wpAny _ _ (Builtin.SmallTypes.nextOf (.ref i1) >>= _) _ _ _
  refine wpAny_bind (wpAny_nextOf_list_item (h1.extBut hs₁.extBut D.i1z) (hl1.extBut hs₁.extBut D.l1z) hx fun h₂ h1₂ hs₂ => wpAny_pure ?_)
  refine wpAny_pure ?_
  refine wpAny_bind (wpAny_bind (wpAny_holding ?_))
  show wpAny _ _ (Builtin.SmallTypes.nextOf (.ref i2) >>= _) _ _ _
  refine wpAny_bind (wpAny_nextOf_list_item ((h2.extBut hs₁.extBut D.i2z).extBut hs₂.extBut D.i12.symm)
    ((hl2.extBut hs₁.extBut D.l2z).extBut hs₂.extBut D.l2i1) hy fun h₄ h2₄ hs₄ => wpAny_pure ?_)
  refine wpAny_pure (wpAny_pure ?_)
  have hsz : h₄.objs.size = s.heap.objs.size := by rw [hs₄.1, hs₂.1, hs₁.1]
  have hk : ∀ c o, c ≠ z → c ≠ i1 → c ≠ i2 → s.heap.get? c = some o → h₄.get? c = some o := fun c o c1 c3 c4 e => hs₄.extBut _ _ c4 (hs₂.extBut _ _ c3 (hs₁.extBut _ _ c1 e))
  refine wpAny_bind (wpAny_newTuple ?_ (by show 2 ≤ sizeLine; decide))
  refine wpAny_pure ⟨_, rfl, ?_⟩
  rw [hsz]
  have hz₄ : ZipO h₄ z TI TO T true := hs₄.extBut _ _ D.i2z.symm (hs₂.extBut _ _ D.i1z.symm hz₁)
  refine hQ _ (Heap.get?_push_of_some _ hz₄) ((h1₂.extBut hs₄.extBut D.i12).at fun o e => Heap.get?_push_of_some _ e) (h2₄.at fun o e => Heap.get?_push_of_some _ e) ?_ (by rw [Heap.size_push, hsz]) fun c o c1 c3 c4 e => Heap.get?_push_of_some _ (hk c o c1 c3 c4 e)
  rw [← hsz]
  exact Heap.get?_push_size _ rfl
theorem end_out {z TI TO i1 i2 l1 l2 T : Addr} {f : Bool} {oT : Obj} {k1 : Nat} {xs : Array Value} {Q : Fin → Shared → Prop} (hh : A.handled = none) (D : ZipApart z TI TO i1 i2 l1 l2)
    (hz : ZipO s.heap z TI TO T f) (hT : s.heap.get? T = some oT) (hTI : IsPair s.heap TI (.ref i1) (.ref i2))
    (h1 : s.heap.IsListIter i1 l1 k1) (hl1 : s.heap.IsList l1 xs) (hx : xs[k1]? = none)
    (hE : ∀ h' e, (∀ c o, c ≠ z → c ≠ i1 → s.heap.get? c = some o → h'.get? c = some o) → (∃ o, h'.get? e = some o ∧ o.cls = .type "StopIteration") → E (.ref e) { s with heap := h' }) :
    wpAny (model prog w) A (Builtin.«zip.__next__» ⟨[.ref z], []⟩) Q E s := by
  show wpAny _ _ (field (.ref z) 2 >>= _) _ _ _
  refine wpAny_bind (wpAny_field hz rfl (x := .bool false) rfl ?_)
  show wpAny _ _ (field (.ref z) 3 >>= _) _ _ _
  refine wpAny_bind (wpAny_field hz rfl (x := .ref TI) rfl ?_)
  refine wpAny_bind (wpAny_seqItems hTI rfl ?_)
  show wpAny _ _ (Builtin.SmallTypes.ownedTupleIsFree (.ref z) >>= _) _ _ _
  refine wpAny_bind (free_out hz hT fun h₁ hz₁ hs₁ => ?_)
  simp only [Bool.false_eq_true, if_false]
  refine wpAny_bind ?_
  simp only [List.forIn_toArray, List.forIn_cons, List.forIn_nil]
  refine wpAny_bind (wpAny_bind (wpAny_holding ?_))
  show wpAny _ _ (Builtin.SmallTypes.nextOf (.ref i1) >>= _) _ _ _
  exact wpAny_bind (wpAny_nextOf_list_end hh (h1.extBut hs₁.extBut D.i1z) (hl1.extBut hs₁.extBut D.l1z) hx fun h₂ e hs₂ he => hE h₂ e (fun c o c1 c3 x => hs₂ _ _ c3 (hs₁.extBut _ _ c1 x)) he)

/-- the zip, k pairs drawn; S: the list that is filled -/
structure ZSt (h : Heap) (z TI TO i1 i2 l1 l2 S : Addr) (xs ys : Array Value) (k : Nat) : Prop where
  D : ZipApart z TI TO i1 i2 l1 l2
  ti : IsPair h TI (.ref i1) (.ref i2)
  h1 : h.IsListIter i1 l1 k
  h2 : h.IsListIter i2 l2 k
  hl1 : h.IsList l1 xs
  hl2 : h.IsList l2 ys
  st : (∃ a b, IsZip h z TI TO .none ∧ IsPair h TO a b) ∨ ∃ T f oT, ZipO h z TI TO T f ∧ h.get? T = some oT ∧ T ≠ z ∧ T ≠ i1 ∧ T ≠ i2 ∧ T ≠ S
  sep : z ≠ S ∧ TI ≠ S ∧ TO ≠ S ∧ i1 ≠ S ∧ i2 ≠ S ∧ l1 ≠ S ∧ l2 ≠ S
theorem ZSt.keep {h h' : Heap} {z TI TO i1 i2 l1 l2 S : Addr} {xs ys : Array Value} {k : Nat} (x : ZSt h z TI TO i1 i2 l1 l2 S xs ys k) (hk : ∀ b o, b ≠ S → h.get? b = some o → h'.get? b = some o) : ZSt h' z TI TO i1 i2 l1 l2 S xs ys k := by
  obtain ⟨D, ti, h1, h2, hl1, hl2, st, s1, s2, s3, s4, s5, s6, s7⟩ := x
  refine ⟨D, hk _ _ s2 ti, h1.at fun o e => hk _ o s4 e, h2.at fun o e => hk _ o s5 e, hl1.at fun o e => hk _ o s6 e, hl2.at fun o e => hk _ o s7 e, ?_, s1, s2, s3, s4, s5, s6, s7⟩
  rcases st with ⟨a, b, e1, e2⟩ | ⟨T, f, oT, e1, e2, e3, e4, e5, e6⟩
  · exact .inl ⟨a, b, hk _ _ s1 e1, hk _ _ s3 e2⟩
  · exact .inr ⟨T, f, oT, hk _ _ s1 e1, hk _ _ e6 e2, e3, e4, e5, e6⟩
theorem ZSt.type {z TI TO i1 i2 l1 l2 S : Addr} {xs ys : Array Value} {k : Nat} (x : ZSt s.heap z TI TO i1 i2 l1 l2 S xs ys k) : s.TypeIs (.ref z) "zip" := by
  rcases x.st with ⟨a, b, e1, e2⟩ | ⟨T, f, oT, e1, _⟩
  · exact ⟨_, e1, rfl⟩
  · exact ⟨_, e1, rfl⟩
theorem z_item {z TI TO i1 i2 l1 l2 S : Addr} {k : Nat} {xs ys : Array Value} {x y : Value} {Q : Option Value → Shared → Prop} (Z : ZSt s.heap z TI TO i1 i2 l1 l2 S xs ys k) (hS : S < s.heap.objs.size) (hx : xs[k]? = some x) (hy : ys[k]? = some y)
    (hQ : ∀ h', ZSt h' z TI TO i1 i2 l1 l2 S xs ys (k + 1) → IsPair h' s.heap.objs.size x y →
      (∀ c o, c ≠ z → c ≠ TO → c ≠ i1 → c ≠ i2 → s.heap.get? c = some o → h'.get? c = some o) → Q (some (.ref s.heap.objs.size)) { s with heap := h' }) :
    wpAny (model prog w) A (pyNext (.ref z)) Q E s := by
  have hTy := Z.type
  obtain ⟨D, hTI, h1, h2, hl1, hl2, st, sp⟩ := Z
  have lt : ∀ {c o}, s.heap.get? c = some o → s.heap.objs.size ≠ c := fun e => Nat.ne_of_gt (Heap.lt_size e)
  have li1 : s.heap.objs.size ≠ i1 := by obtain ⟨_, e, _⟩ := h1; exact lt e
  have li2 : s.heap.objs.size ≠ i2 := by obtain ⟨_, e, _⟩ := h2; exact lt e
  rcases st with ⟨a, b, hz, hTO⟩ | ⟨T, f, oT, hz, hT, n1, n2, n3, n4⟩
  · refine wpAny_pyNext_zip_item D hz hTI hTO h1 h2 hl1 hl2 hx hy fun h' a1 a2 a3 a4 a5 a6 hk => ?_
    exact hQ h' ⟨D, hk _ _ D.TIz D.TITO D.TIi1 D.TIi2 hTI, a3, a4, hl1.at fun o e => hk _ o D.l1z D.l1TO D.l1i1 D.l1i2 e, hl2.at fun o e => hk _ o D.l2z D.l2TO D.l2i1 D.l2i2 e,
      .inr ⟨_, _, _, a1, a5, lt hz, li1, li2, Nat.ne_of_gt hS⟩, sp⟩ a5 hk
  · unfold pyNext
    refine wpAny_bind (wpAny_attempt (wpAny_callSpecial?_slot (name := Str.ofString "__next__") hTy F.slot_zip_next
      (wpAny_call_entry F.slot_zip_next hTy F.entry_zip_next
        (next_out D hz hT hTI h1 h2 hl1 hl2 hx hy fun h' a1 a3 a4 a5 a6 hk => wpAny_pure (hQ h' ⟨D, hk _ _ D.TIz D.TIi1 D.TIi2 hTI, a3, a4, hl1.at fun o e => hk _ o D.l1z D.l1i1 D.l1i2 e, hl2.at fun o e => hk _ o D.l2z D.l2i1 D.l2i2 e,
          .inr ⟨_, _, _, a1, hk _ _ n1 n2 n3 hT, n1, n2, n3, n4⟩, sp⟩ a5 fun c o c1 _ c3 c4 e => hk c o c1 c3 c4 e)) (F.args_zip_next_1 _))))
theorem z_end {z TI TO i1 i2 l1 l2 S : Addr} {k : Nat} {xs ys : Array Value} {Q : Option Value → Shared → Prop} (hh : A.handled = none) (Z : ZSt s.heap z TI TO i1 i2 l1 l2 S xs ys k) (hx : xs[k]? = none)
    (hQ : ∀ h', (∀ c o, c ≠ z → c ≠ TO → c ≠ i1 → c ≠ i2 → s.heap.get? c = some o → h'.get? c = some o) → Q none { s with heap := h' }) :
    wpAny (model prog w) A (pyNext (.ref z)) Q E s := by
  have hTy := Z.type
  obtain ⟨D, hTI, h1, h2, hl1, hl2, st, sp⟩ := Z
  rcases st with ⟨a, b, hz, hTO⟩ | ⟨T, f, oT, hz, hT, n1, n2, n3, n4⟩
  · exact wpAny_pyNext_zip_end hh D hz hTI hTO h1 h2 hl1 hl2 (.inl hx) hQ
  · unfold pyNext
    refine wpAny_bind (wpAny_attempt (wpAny_callSpecial?_slot (name := Str.ofString "__next__") hTy F.slot_zip_next
      (wpAny_call_entry F.slot_zip_next hTy F.entry_zip_next (end_out hh D hz hT hTI h1 hl1 hx fun h' e hk he => ?_) (F.args_zip_next_1 _))))
    obtain ⟨o, ho, hc⟩ := he
    refine wpAny_bind (wpAny_isInstance (T := "StopIteration") (b := true) ⟨o, ho, hc⟩ isSubtype_stop ?_)
    exact wpAny_pure (hQ _ fun c o c1 _ c3 _ e => hk c o c1 c3 e)
structure ZG (xs ys : Array Value) (lo : Addr) (h : Heap) (as : List Addr) : Prop where
  rise : as.Pairwise (· < ·)
  above : ∀ a ∈ as, lo < a
  pairs : ∀ (j : Nat) (a : Addr), as[j]? = some a → ∃ x y, xs[j]? = some x ∧ ys[j]? = some y ∧ IsPair h a x y
theorem ZG.there {xs ys : Array Value} {lo : Addr} {h : Heap} {as : List Addr} (g : ZG xs ys lo h as) {a : Addr} (ha : a ∈ as) : a < h.objs.size := by
  obtain ⟨j, hj⟩ := List.mem_iff_getElem?.mp ha
  obtain ⟨_, _, _, _, e⟩ := g.pairs j a hj
  exact Heap.lt_size e
theorem z_loop {R : Result → Shared → Prop} {z TI TO i1 i2 l1 l2 S lo : Addr} {xs ys : Array Value} (hh : A.handled = none) (hl : xs.size = ys.size) (hn : xs.size ≤ sizeLine) (res : Value) {h₁ : Heap}
    (lz : z ≤ lo) (lTO : TO ≤ lo) (li1 : i1 ≤ lo) (li2 : i2 ≤ lo) (lS : S ≤ lo)
    (hR : ∀ h' tk acc c as, (∀ b o, b ≠ S → b ≠ z → b ≠ TO → b ≠ i1 → b ≠ i2 → h₁.get? b = some o → h'.get? b = some o) → h'.get? S = some { cls := .type "list", dict := none, data := .seq acc c, slots := #[] } → as.length = xs.size → ZG xs ys lo h' as →
      acc.toList = as.map Value.ref → R (.ok (.ret res)) { s with heap := h', toks := tk }) :
    ∀ (k i : Nat) (h : Heap) (tk c : Nat) (acc : Array Value) (as : List Addr), xs.size - i = k → i ≤ xs.size → ZSt h z TI TO i1 i2 l1 l2 S xs ys i → (∀ b o, b ≠ S → b ≠ z → b ≠ TO → b ≠ i1 → b ≠ i2 → h₁.get? b = some o → h.get? b = some o) →
      h.get? S = some { cls := .type "list", dict := none, data := .seq acc c, slots := #[] } → acc.toList = as.map Value.ref → as.length = i → ZG xs ys lo h as → lo < h.objs.size →
      codeAny (model prog w) A (.builtin "list.extend.loop" ⟨[.ref S, .ref z, res], []⟩) R { s with heap := h, toks := tk } := by
  intro k
  induction k with
  | zero =>
    intro i h tk c acc as hk hi hst hkeep hS hacc hal hG hIs
    have hin : i = xs.size := by omega
    obtain ⟨s1, s2, s3, s4, s5, s6, s7⟩ := hst.sep
    refine codeAny_builtin PySem.F.entry_extend_loop ?_
    rw [Around.under_plainId PySem.F.plain_extend_loop _]
    show wpAny _ A.in1 (pyNext (.ref z) >>= _) _ _ _
    refine wpAny_bind (z_end (s := { s with heap := h, toks := tk }) (A := A.in1) hh hst (Array.getElem?_eq_none (by omega)) fun h' he => ?_)
    refine wpAny_pure (hR h' tk acc c as (fun b o b1 b2 b3 b4 b5 e => he b o b2 b3 b4 b5 (hkeep b o b1 b2 b3 b4 b5 e)) (he S _ (Ne.symm s1) (Ne.symm s3) (Ne.symm s4) (Ne.symm s5) hS) (by omega) ⟨hG.rise, hG.above, fun j a hj => ?_⟩ hacc)
    obtain ⟨x, y, e1, e2, e3⟩ := hG.pairs j a hj
    have ha := hG.above a (List.mem_of_getElem? hj)
    exact ⟨x, y, e1, e2, he a _ (Nat.ne_of_gt (Nat.lt_of_le_of_lt lz ha)) (Nat.ne_of_gt (Nat.lt_of_le_of_lt lTO ha)) (Nat.ne_of_gt (Nat.lt_of_le_of_lt li1 ha)) (Nat.ne_of_gt (Nat.lt_of_le_of_lt li2 ha)) e3⟩
  | succ k ih =>
    intro i h tk c acc as hk hi hst hkeep hS hacc hal hG hIs
    have hlt : i < xs.size := by omega
    obtain ⟨s1, s2, s3, s4, s5, s6, s7⟩ := hst.sep
    have hx : xs[i]? = some xs[i] := Array.getElem?_eq_getElem hlt
    have hy : ys[i]? = some (ys[i]'(by omega)) := Array.getElem?_eq_getElem (by omega)
    have hsz : acc.size = i := by rw [← Array.length_toList, hacc, List.length_map, hal]
    refine codeAny_builtin PySem.F.entry_extend_loop ?_
    rw [Around.under_plainId PySem.F.plain_extend_loop _]
    show wpAny _ A.in1 (pyNext (.ref z) >>= _) _ _ _
    refine wpAny_bind (z_item (s := { s with heap := h, toks := tk }) hst (Heap.lt_size hS) hx hy fun h' hst' ht hkp => ?_)
    dsimp only at ht hkp ⊢
    have hS' := hkp S _ (Ne.symm s1) (Ne.symm s3) (Ne.symm s4) (Ne.symm s5) hS
    have up : ∀ b o, b ≠ S → h'.get? b = some o → (h'.update S (Obj.mapSeq (·.push (Value.ref h.objs.size)))).get? b = some o := fun b o hb e => (Heap.get?_update_other _ _ (Ne.symm hb)).trans e
    have hSl : S < h.objs.size := Heap.lt_size hS
    show wpAny _ A.in1 (updateSeq S (·.push (Value.ref h.objs.size)) >>= _) _ _ _
    refine wpAny_bind ?_
    refine wpAny_updateSeq hS' rfl (wpAny_pure ⟨plainId_quiet PySem.F.plain_extend_loop _, ih (i + 1) _ tk _ (acc.push (Value.ref h.objs.size)) (as ++ [h.objs.size]) (by omega) hlt (hst'.keep up)
      (fun b o b1 b2 b3 b4 b5 e => up b o b1 (hkp b o b2 b3 b4 b5 (hkeep b o b1 b2 b3 b4 b5 e))) (Heap.get?_update_self _ hS' rfl) (by rw [Array.toList_push, hacc, List.map_append]; rfl) (by rw [List.length_append, hal]; rfl) ⟨?_, ?_, ?_⟩ ?_⟩) (by rw [hsz]; omega) (by show (acc.push (Value.ref h.objs.size)).size ≤ sizeLine + 1; rw [Array.size_push, hsz]; omega)
    · refine List.pairwise_append.mpr ⟨hG.rise, List.pairwise_singleton _ _, fun a ha b hb => ?_⟩
      rw [List.mem_singleton.mp hb]
      exact hG.there ha
    · intro a ha
      rcases List.mem_append.mp ha with ha | ha
      · exact hG.above a ha
      · rw [List.mem_singleton.mp ha]; exact hIs
    · intro j b hj
      rcases Nat.lt_trichotomy j as.length with q1 | q1 | q1
      · rw [List.getElem?_append_left q1] at hj
        obtain ⟨x', y', e1, e2, e3⟩ := hG.pairs j b hj
        have hb := hG.above b (List.mem_of_getElem? hj)
        exact ⟨x', y', e1, e2, up b _ (Nat.ne_of_gt (Nat.lt_of_le_of_lt lS hb)) (hkp b _ (Nat.ne_of_gt (Nat.lt_of_le_of_lt lz hb)) (Nat.ne_of_gt (Nat.lt_of_le_of_lt lTO hb)) (Nat.ne_of_gt (Nat.lt_of_le_of_lt li1 hb)) (Nat.ne_of_gt (Nat.lt_of_le_of_lt li2 hb)) e3)⟩
      · subst q1
        have hb : h.objs.size = b := by simpa using hj
        subst hb
        exact ⟨_, _, by rw [hal]; exact hx, by rw [hal]; exact hy, up _ _ (Nat.ne_of_gt hSl) ht⟩
      · have hnone : (as ++ [h.objs.size])[j]? = none := List.getElem?_eq_none (by rw [List.length_append, List.length_singleton]; omega)
        rw [hnone] at hj; cases hj
    · have e : (h'.update S (Obj.mapSeq (·.push (Value.ref h.objs.size)))).get? h.objs.size = _ := up _ _ (Nat.ne_of_gt hSl) ht
      exact Nat.lt_trans hIs (Heap.lt_size e)
theorem nolen_zip : typeLookup (.type "zip") "__len__" = pure none := by rw [typeLookup_type, builtinLookup_eq_fast]; kernel_rfl
theorem nohint_zip : typeLookup (.type "zip") "__length_hint__" = pure none := by rw [typeLookup_type, builtinLookup_eq_fast]; kernel_rfl
theorem z_extend {R : Result → Shared → Prop} {z TI TO i1 i2 l1 l2 S lo : Addr} {xs ys : Array Value} (hh : A.handled = none) (hl : xs.size = ys.size) (hn : xs.size ≤ sizeLine) (res : Value) (c₀ : Nat)
    (lz : z ≤ lo) (lTO : TO ≤ lo) (li1 : i1 ≤ lo) (li2 : i2 ≤ lo) (lS : S ≤ lo) (hlo : lo < s.heap.objs.size) (hst : ZSt s.heap z TI TO i1 i2 l1 l2 S xs ys 0) (hz0 : IsZip s.heap z TI TO .none) (hS : s.heap.get? S = some { cls := .type "list", data := .seq #[] c₀ })
    (hR : ∀ h' tk acc c as, (∀ b o, b ≠ S → b ≠ z → b ≠ TO → b ≠ i1 → b ≠ i2 → s.heap.get? b = some o → h'.get? b = some o) → h'.get? S = some { cls := .type "list", dict := none, data := .seq acc c, slots := #[] } → as.length = xs.size → ZG xs ys lo h' as →
      acc.toList = as.map Value.ref → R (.ok (.ret res)) { s with heap := h', toks := tk }) :
    wpAny (model prog w) A.in1 (Builtin.List.listExtendWith (.ref S) (.ref z) res)
      (fun fin s' => match fin with | .done f => R (.ok f) s' | .again c' => c'.quiet = true ∧ codeAny (model prog w) A c' R s') (fun e s' => R (.error e) s') s := by
  have hTy := hst.type
  unfold Builtin.List.listExtendWith
  refine wpAny_bind (wpAny_typeOf (T := "zip") hTy ?_)
  have g1 : Builtin.List.listSameRef (.ref S) (.ref z) = false := by simp [Builtin.List.listSameRef, Ne.symm hst.sep.1]
  have g2 : (Value.type "zip" == Value.type "list") = false := by decide
  have g3 : (Value.type "zip" == Value.type "tuple") = false := by decide
  simp only [g1, g2, g3, Bool.or_false, Bool.false_eq_true, if_false]
  refine wpAny_bind (wpAny_pyIter_zip hz0 ?_)
  refine wpAny_bind (wpAny_holding ?_)
  unfold Builtin.List.listLengthHint
  refine wpAny_bind (wpAny_specialOf hTy nolen_zip ?_)
  try dsimp only
  refine wpAny_bind (wpAny_specialOf hTy nohint_zip ?_)
  try dsimp only
  refine wpAny_pure ?_
  simp only [Bool.true_or, if_true]
  refine wpAny_bind (wpAny_rule ?_)
  refine wpAny_bind ?_
  show wpAny _ _ (updateSeq S (·.push .none) >>= fun _ => updateSeq S (·.pop)) _ _ _
  refine wpAny_bind (wpAny_updateSeq hS rfl ?_)
  have hS₂ := Heap.get?_update_self (Obj.mapSeq (·.push Value.none)) hS rfl
  refine wpAny_updateSeq (hz := by seq_fits) hS₂ rfl ?_
  have hS₃ := Heap.get?_update_self (Obj.mapSeq (·.pop)) hS₂ rfl
  have up : ∀ b o, b ≠ S → s.heap.get? b = some o → ((s.heap.update S (Obj.mapSeq (·.push Value.none))).update S (Obj.mapSeq (·.pop))).get? b = some o := fun b o hb e => (Heap.get?_update_other _ _ (Ne.symm hb)).trans ((Heap.get?_update_other _ _ (Ne.symm hb)).trans e)
  refine wpAny_pure ⟨plainId_quiet PySem.F.plain_extend_loop _, z_loop (s := s) (h₁ := s.heap) (lo := lo) hh hl hn res lz lTO li1 li2 lS hR xs.size 0 _ s.toks _ _ [] (Nat.sub_zero _) (Nat.zero_le _) (hst.keep up) (fun b o b1 _ _ _ _ e => up b o b1 e) hS₃ rfl rfl
    ⟨List.Pairwise.nil, (fun _ ha => nomatch ha), (fun j a hj => by simp at hj)⟩ ?_⟩
  simpa [Heap.update] using hlo
theorem z_call {Q : Value → Shared → Prop} {z TI TO i1 i2 l1 l2 : Addr} {xs ys : Array Value} (hh : A.handled = none) (hl : xs.size = ys.size) (hn : xs.size ≤ sizeLine)
    (hst : ZSt s.heap z TI TO i1 i2 l1 l2 s.heap.objs.size xs ys 0) (hz0 : IsZip s.heap z TI TO .none) (lz : z < s.heap.objs.size) (lTO : TO < s.heap.objs.size) (li1 : i1 < s.heap.objs.size) (li2 : i2 < s.heap.objs.size)
    (hQ : ∀ h' tk acc c as, (∀ b o, b ≠ z → b ≠ TO → b ≠ i1 → b ≠ i2 → s.heap.get? b = some o → h'.get? b = some o) → h'.get? s.heap.objs.size = some { cls := .type "list", dict := none, data := .seq acc c, slots := #[] } → as.length = xs.size → ZG xs ys s.heap.objs.size h' as →
      acc.toList = as.map Value.ref → Q (.ref s.heap.objs.size) { s with heap := h', toks := tk }) :
    wpAny (model prog w) A (call (.type "list") [.ref z]) Q E s := by
  refine callType_codes (Q₁ := fun obj s₁ => obj = .ref s.heap.objs.size ∧ s₁ = { s with heap := s.heap.push { cls := .type "list", data := .seq #[] } }) PySem.F.called_list (PySem.F.typeCall_list_1 _) PySem.F.entry_list_init
    (code_list_new _ ⟨rfl, rfl⟩) fun obj s₁ h₁ => ?_
  obtain ⟨rfl, rfl⟩ := h₁
  have hS : (s.heap.push { cls := .type "list", data := .seq #[] }).get? s.heap.objs.size = some { cls := .type "list", data := .seq #[] } := Heap.get?_push_size _ rfl
  refine ⟨⟨_, hS, rfl⟩, PySem.F.args_list_init_2 _ _, ?_⟩
  show wpAny _ _ (do let old ← Builtin.List.listItems (.ref s.heap.objs.size); Builtin.List.listUpdate (.ref s.heap.objs.size) (fun _ => #[]); letGo old.toList.reverse; Builtin.List.listExtendWith (.ref s.heap.objs.size) (.ref z) .none) _ _ _
  refine wpAny_bind ?_
  unfold Builtin.List.listItems
  refine wpAny_bind (wpAny_seqItems hS rfl (wpAny_pure ?_))
  show wpAny _ _ (updateSeq s.heap.objs.size (fun _ => #[]) >>= fun _ => letGo (#[] : Array Value).toList.reverse >>= fun _ => Builtin.List.listExtendWith (.ref s.heap.objs.size) (.ref z) .none) _ _ _
  refine wpAny_bind (wpAny_updateSeq hS rfl ?_)
  have hS₂ := Heap.get?_update_self (Obj.mapSeq (fun _ => (#[] : Array Value))) hS rfl
  have oth : ∀ b o, b ≠ s.heap.objs.size → s.heap.get? b = some o → ((s.heap.push { cls := .type "list", data := .seq #[] }).update s.heap.objs.size (Obj.mapSeq (fun _ => (#[] : Array Value)))).get? b = some o :=
    fun b o hb e => (Heap.get?_update_other _ _ (Ne.symm hb)).trans (Heap.get?_push_of_some _ e)
  refine wpAny_bind (wpAny_letGo ?_)
  refine z_extend (A := A.in1) (lo := s.heap.objs.size) hh hl hn .none _ (Nat.le_of_lt lz) (Nat.le_of_lt lTO) (Nat.le_of_lt li1) (Nat.le_of_lt li2) (Nat.le_refl _) (Heap.lt_size hS₂) (hst.keep oth) (oth _ _ (Nat.ne_of_lt lz) hz0) hS₂ fun h' tk acc c as hk hS' hal hG hacc => ?_
  exact ⟨rfl, hQ h' tk acc c as (fun b o b2 b3 b4 b5 e => hk b o (Nat.ne_of_lt (Heap.lt_size e)) b2 b3 b4 b5 (oth b o (Nat.ne_of_lt (Heap.lt_size e)) e)) hS' hal hG hacc⟩
end
end TwZ

set_option Elab.async false
set_option linter.all false
set_option maxRecDepth 100000
set_option maxHeartbeats 4000000
/-! list(zip(a, b)) of two lists, as a rule. -/
namespace TwZ
open PySem PySem.Spec PyProof.Rows L2
def putZ : Hp → List Addr → List (V × V) → Hp
  | H, a :: as, p :: kvs => putZ (upd H a (.tup [p.1, p.2])) as kvs
  | H, _, _ => H
theorem putZ_off {b : Addr} : ∀ (as : List Addr) (kvs : List (V × V)) (H : Hp), b ∉ as → putZ H as kvs b = H b
  | [], _, _, _ => rfl
  | _ :: _, [], _, _ => rfl
  | a :: as, p :: kvs, H, h => by
    show putZ (upd H a (.tup [p.1, p.2])) as kvs b = H b
    rw [putZ_off as kvs _ (fun z => h (List.mem_cons_of_mem _ z)), upd_ne (fun z => h (by rw [z]; exact List.mem_cons_self))]
theorem putZ_at : ∀ (as : List Addr) (kvs : List (V × V)) (H : Hp), as.length = kvs.length → as.Nodup → ∀ (j : Nat) t p, as[j]? = some t → kvs[j]? = some p → putZ H as kvs t = some (.tup [p.1, p.2])
  | [], _, _, _, _, j, t, p, h, _ => by simp at h
  | _ :: _, [], _, h, _, _, _, _, _, _ => by cases h
  | a :: as, q :: kvs, H, h, hn, j, t, p, h1, h2 => by
    have hn' := List.nodup_cons.mp hn
    cases j with
    | zero =>
      simp at h1 h2
      subst h1 h2
      show putZ (upd H a (.tup [q.1, q.2])) as kvs a = some (.tup [q.1, q.2])
      rw [putZ_off as kvs _ hn'.1, upd_same]
    | succ j => exact putZ_at as kvs (upd H a (.tup [q.1, q.2])) (Nat.succ.inj h) hn'.2 j t p (by simpa using h1) (by simpa using h2)
def rZipL (K : PySem.W.Frag) : List V → Hp → VK → Prop := fun vs H Q => ∃ (a b : Addr) (xs ys : List V), vs = [.ref a, .ref b] ∧ SqL K H a xs ∧ SqL K H b ys ∧ xs.length = ys.length ∧
  ∀ (H' : Hp) (p : Addr) (ts : List Addr), (∀ b o, H b = some o → H' b = some o) → H p = none → (∀ t ∈ ts, H t = none) → p ∉ ts → H' p = some (.lst (ts.map V.ref)) → ts.length = xs.length →
    (∀ (j : Nat) t x y, ts[j]? = some t → xs[j]? = some x → ys[j]? = some y → H' t = some (.tup [x, y])) → Q (.ref p) H'
def tLzip (K : PySem.W.Frag) (t : TA) : TE := fun σ H Q => t σ H fun vs H1 => rZipL K vs H1 Q
section
variable {X : Cx} {t : TA} {a b : Expr} {p q pos pos' : Pos}
theorem zip_laid {pins : List (Addr × Obj)} {σ : L2.St} {H : Hp} {s : Shared} {h' : Heap} {tk : Nat} {xs ys : List V} {us ws : Array Value} {acc : Array Value} {c lo : Nat} {as : List Addr} (I : Inv X pins σ H s) (hz : xs.length ≤ sizeLine) (hl : xs.length = ys.length)
    (kx : Vals xs us.toList) (ky : Vals ys ws.toList) (hlo : s.heap.objs.size ≤ lo)
    (hk : ∀ b o, s.heap.get? b = some o → h'.get? b = some o) (hS : h'.get? lo = some { cls := .type "list", dict := none, data := .seq acc c, slots := #[] }) (hal : as.length = us.size) (hG : ZG us ws lo h' as) (hacc : acc.toList = as.map Value.ref) :
    ∃ H' : Hp, (∀ b o, H b = some o → H' b = some o) ∧ H lo = none ∧ (∀ t ∈ as, H t = none) ∧ lo ∉ as ∧ H' lo = some (.lst (as.map V.ref)) ∧
      (∀ (j : Nat) t x y, as[j]? = some t → xs[j]? = some x → ys[j]? = some y → H' t = some (.tup [x, y])) ∧ Inv X pins σ H' { s with heap := h', toks := tk } := by
  have lx : xs.length = us.size := by rw [← Array.length_toList]; exact Paired.length kx
  have ly : ys.length = ws.size := by rw [← Array.length_toList]; exact Paired.length ky
  have hSn : lo ∉ as := fun z => Nat.lt_irrefl _ (hG.above _ z)
  have nd : as.Nodup := List.Pairwise.imp (fun {a b} (h : a < b) => Nat.ne_of_lt h) hG.rise
  have new : ∀ t ∈ as, H t = none := fun t ht => I.hok.fresh (Nat.le_trans hlo (Nat.le_of_lt (hG.above t ht)))
  have newS : H lo = none := I.hok.fresh hlo
  have lz : as.length = (xs.zip ys).length := by rw [List.length_zip]; omega
  have atP := putZ_at as (xs.zip ys) (upd H lo (.lst (as.map V.ref))) lz nd
  have atP' : ∀ (j : Nat) t x y, as[j]? = some t → xs[j]? = some x → ys[j]? = some y → putZ (upd H lo (.lst (as.map V.ref))) as (xs.zip ys) t = some (.tup [x, y]) := fun j t x y e1 e2 e3 =>
    atP j t (x, y) e1 (by rw [List.getElem?_zip_eq_some]; exact ⟨e2, e3⟩)
  have off : ∀ b, b ∉ as → b ≠ lo → putZ (upd H lo (.lst (as.map V.ref))) as (xs.zip ys) b = H b := fun b h1 h2 => by rw [putZ_off as _ _ h1, upd_ne h2]
  have low : ∀ b o, s.heap.get? b = some o → b ∉ as ∧ b ≠ lo := fun b o e => ⟨fun z => absurd (Heap.lt_size e) (Nat.not_lt.mpr (Nat.le_trans hlo (Nat.le_of_lt (hG.above b z)))), Nat.ne_of_lt (Nat.lt_of_lt_of_le (Heap.lt_size e) hlo)⟩
  have kp : ∀ b u, H b = some u → (putZ (upd H lo (.lst (as.map V.ref))) as (xs.zip ys)) b = some u := fun b u e => by
    rw [off b (fun z => by rw [new b z] at e; cases e) (fun z => by rw [z, newS] at e; cases e)]
    exact e
  have eS : putZ (upd H lo (.lst (as.map V.ref))) as (xs.zip ys) lo = some (.lst (as.map V.ref)) := by rw [putZ_off as _ _ hSn, upd_same]
  refine ⟨putZ (upd H lo (.lst (as.map V.ref))) as (xs.zip ys), kp, newS, new, hSn, eS, atP', ?_⟩
  refine I.call' (ch := []) rfl ⟨fun b o q _ _ _ => hk b o q, fun b o q _ _ _ => ⟨o.slots, hk b o q⟩, fun b o q n _ => ?_, fun b o q _ => ⟨o, hk b o q⟩, fun b xs q => kp b _ q, fun b o u q => kp b _ q, fun b ps q => ⟨#[], by rw [kp b _ q]; simp⟩⟩ (fun b u q => ?_) I.bare fun b z => by simp at z
  · obtain ⟨z1, z2⟩ := low b o q
    rw [off b z1 z2]
    exact n
  · by_cases hb : b ∈ as
    · obtain ⟨j, e1⟩ := List.mem_iff_getElem?.mp hb
      obtain ⟨u, w, f1, f2, f3⟩ := hG.pairs j b e1
      have hj : j < us.size := (Array.getElem?_eq_some_iff.mp f1).1
      have gx : xs[j]? = some (xs[j]'(by omega)) := List.getElem?_eq_getElem (by omega)
      have gy : ys[j]? = some (ys[j]'(by omega)) := List.getElem?_eq_getElem (by omega)
      rw [atP' j b _ _ e1 gx gy] at q
      cases q
      obtain ⟨u', g1, r1⟩ := kx.get gx
      obtain ⟨w', g2, r2⟩ := ky.get gy
      have eu : u' = u := by
        rw [Array.getElem?_toList] at g1
        exact Option.some.inj (g1.symm.trans f1)
      have ew : w' = w := by
        rw [Array.getElem?_toList] at g2
        exact Option.some.inj (g2.symm.trans f2)
      subst eu ew
      exact ⟨by show 2 ≤ sizeLine; decide, [u', w'], .cons r1 (.cons r2 .nil), ⟨_, f3, rfl, _, rfl⟩⟩
    · by_cases hb2 : b = lo
      · rw [hb2] at q ⊢
        rw [eS] at q
        cases q
        refine ⟨by rw [List.length_map]; omega, acc.toList, c, by rw [hacc]; exact LiI.vals_refs as, ?_⟩
        rw [Array.toArray_toList]
        exact hS
      · rw [off b hb hb2] at q
        exact (I.hok b u q).stay (fun d v _ y => hk d v y) (fun d y => kp d _ y) fun d xs y => kp d _ y
/-- list(zip(a, b)) -/
theorem pe_lzip (hc : X.calm = true) (hg : Gl X "list") (hm : X.mg "list" = none) (hg' : Gl X "zip") (hm' : X.mg "zip" = none) (ha : PA X [a, b] t)
    (hs : starEach [.Call (.Name "zip" q) [a, b] [] pos'] X.env = (false, eval (.Call (.Name "zip" q) [a, b] [] pos') X.env) :: starEach [] X.env := by rfl)
    (hs2 : starEach [a, b] X.env = (false, eval a X.env) :: starEach [b] X.env := by rfl) (hpl : (backTo pos' (starEach [b] X.env)).any (·.1) = false := by rfl) :
    PE X (.Call (.Name "list" p) [.Call (.Name "zip" q) [a, b] [] pos'] [] pos) (tLzip X.K t) := by
  refine ⟨fun pins s σ H Q I hq => ?_⟩
  refine wpAny_Call_Name_kw (ld_blt I hg hm (show bootBuiltins "list" = some (.type "list") from by decide +kernel) ?_)
  refine PyProof.Rows.callWith_type1 ?_ hs rfl
  rw [hs]
  show wpAny _ _ (spliced ((false, eval (.Call (.Name "zip" q) [a, b] [] pos') X.env) :: backTo pos (starEach [] X.env))) _ _ s
  refine Calls.spliced_cons ?_
  refine wpAny_Call_Name_kw (ld_blt I hg' hm' (show bootBuiltins "zip" = some (.type "zip") from by decide +kernel) ?_)
  refine PyProof.Rows.callWith_type1 (thn (ha.run pos' pins _ σ H _ (I.tok _) hq) fun us s1 ⟨vs, H1, I1, r1, l1, l2, xs, ys, ev, q1, q2, hl, k⟩ => ?_) hs2 hpl
  subst ev
  cases r1 with
  | cons r r' =>
    cases r' with
    | cons r' r'' =>
      cases r''
      cases r; cases r'
      obtain ⟨us, rv, p1, hz1⟩ := I1.list q1
      obtain ⟨ws, rw', p2, hz2⟩ := I1.list q2
      refine call_zip_2 p1.isList p2.isList fun h' e1 e2 e3 e4 e5 e6 hk => ?_
      refine Calls.spliced_nil ?_
      have il1 : s1.heap.IsList l1 us.toArray := p1.isList
      have il2 : s1.heap.IsList l2 ws.toArray := p2.isList
      have b1 : l1 < s1.heap.objs.size := by obtain ⟨_, q, _⟩ := il1; exact Heap.lt_size q
      have b2 : l2 < s1.heap.objs.size := by obtain ⟨_, q, _⟩ := il2; exact Heap.lt_size q
      have hlw : us.toArray.size = ws.toArray.size := by
        have := rv.length
        have := rw'.length
        simp
        omega
      have hZ : ZSt h' (s1.heap.objs.size + 4) (s1.heap.objs.size + 2) (s1.heap.objs.size + 3) s1.heap.objs.size (s1.heap.objs.size + 1) l1 l2 h'.objs.size us.toArray ws.toArray 0 := by
        refine ⟨?_, e2, e4, e5, il1.at fun o e => hk _ o e, il2.at fun o e => hk _ o e, .inl ⟨_, _, e1, e3⟩, ?_⟩
        · constructor <;> (intro e; have e' : @Eq Nat _ _ := e; clear e; have b1' : @LT.lt Nat _ l1 s1.heap.objs.size := b1; have b2' : @LT.lt Nat _ l2 s1.heap.objs.size := b2; omega)
        · refine ⟨?_, ?_, ?_, ?_, ?_, ?_, ?_⟩ <;> (intro e; have e' : @Eq Nat _ _ := e; clear e; have b1' : @LT.lt Nat _ l1 s1.heap.objs.size := b1; have b2' : @LT.lt Nat _ l2 s1.heap.objs.size := b2; omega)
      refine z_call (s := { s1 with heap := h' }) (I1.ok.hd hc) hlw (by have := rv.length; simp; omega) hZ e1 (by show _ < h'.objs.size; omega) (by show _ < h'.objs.size; omega) (by show _ < h'.objs.size; omega) (by show _ < h'.objs.size; omega) fun h2 tk acc c as hk2 hS2 hal hG hacc => ?_
      obtain ⟨H', k1, k2, k3, k4, k5, k6, J⟩ := zip_laid (tk := tk) (lo := h'.objs.size) I1 (by have := rv.length; omega) hl (us := us.toArray) (ws := ws.toArray) (by simpa using rv) (by simpa using rw') (by omega)
        (fun b o e => by
          have hb : @LT.lt Nat _ b s1.heap.objs.size := Heap.lt_size e
          exact hk2 b o (by intro e; have e' : @Eq Nat _ _ := e; omega) (by intro e; have e' : @Eq Nat _ _ := e; omega) (by intro e; have e' : @Eq Nat _ _ := e; omega) (by intro e; have e' : @Eq Nat _ _ := e; omega) (hk b o e)) hS2 hal hG hacc
      exact ⟨.ref _, H', J, rfl, k H' _ as k1 k2 k3 k4 k5 (by have := rv.length; simp at hal; omega) k6⟩
end
end TwZ
namespace Tw
open PySem PySem.Spec PyProof.Rows L2 TwZ
section
variable {K : PySem.W.Frag} {S : Store} {Γ : Env} {Φ : D → Store → Prop} {t : TA} {F H H' : Hp}
open Classical in
/-- F and what is new at the places l -/
noncomputable def addF (F H' : Hp) (l : List Addr) : Hp := fun c => if c ∈ l then H' c else F c
theorem Post.adds {l : List Addr} (h : SatS K F H S) (hk : ∀ b o, H b = some o → H' b = some o) (hn : ∀ c ∈ l, H c = none) : Post K F H S (addF F H' l) H' S := by
  have inF : ∀ {c}, c ∈ l → addF F H' l c = H' c := fun hc => if_pos hc
  have offF : ∀ {c}, c ∉ l → addF F H' l c = F c := fun hc => if_neg hc
  have sm : Same F (addF F H' l) := fun b u e => by
    have hb : b ∉ l := fun z => by rw [h.ext.free (hn b z)] at e; cases e
    rw [offF hb]; exact e
  refine ⟨sm, ⟨fun b u e => ?_, fun a c e => ?_, fun a c e => ?_⟩, fun b o e e' => ⟨hk b o e, e', fun z => ?_⟩⟩
  · by_cases hb : b ∈ l
    · rw [inF hb] at e; exact e
    · rw [offF hb] at e; exact hk _ _ (h.ext b u e)
  · have ha : a ∉ l := fun z => by rw [h.no (hn a z)] at e; cases e
    rw [offF ha]; exact h.off a c e
  · exact (h.cell a c e).mono sm fun o q => hk _ _ q
  · have hb : b ∉ l := fun q => by rw [hn b q] at e; cases e
    rw [offF hb]; exact z
theorem w_lzip (h : WA K t S Γ fun ds S1 => ∃ x y es fs, ds = [x, y] ∧ LstOf S1 x es ∧ LstOf S1 y fs ∧ es.length = fs.length ∧ Φ (.lst (List.zipWith (fun a b => .tup [a, b]) es fs)) S1) : WE K (tLzip K t) S Γ Φ := fun F H σ Q hs hg hq =>
  h F H σ _ hs hg fun F1 H1 vs ds S1 p1 r1 ⟨x, y, es, fs, e, hx, hy, hl, f⟩ => by
    subst e
    obtain ⟨vx, r, rfl, rx, rr⟩ := r1.uncons
    obtain ⟨vy, r', rfl, ry, rr'⟩ := rr.uncons
    rw [rr'.unnil]
    obtain ⟨a, ws, rfl, q1, e1⟩ := hx.get p1.sat rx
    obtain ⟨b, zs, rfl, q2, e2⟩ := hy.get p1.sat ry
    refine ⟨a, b, ws, zs, rfl, SqL.of e1, SqL.of e2, by rw [q1.1, q2.1]; exact hl, fun H' p ts k1 k2 k3 k4 k5 k6 k7 => ?_⟩
    have P := Post.adds (F := F1) (l := p :: ts) p1.sat k1 (fun c hc => by
      rcases List.mem_cons.mp hc with z | z
      · rw [z]; exact k2
      · exact k3 c z)
    have inF : ∀ {c}, c ∈ p :: ts → addF F1 H' (p :: ts) c = H' c := fun hc => if_pos hc
    refine hq _ _ (.ref p) _ S1 (p1.trans P) (.lst (vs := ts.map V.ref) (by rw [inF List.mem_cons_self]; exact k5) (by rw [List.length_map, List.length_zipWith, k6, q1.1]; omega) fun i v d g1 g2 => ?_) f
    rw [List.getElem?_map] at g1
    cases ht : ts[i]? with
    | none => rw [ht] at g1; cases g1
    | some c =>
      rw [ht] at g1
      cases g1
      have hi : i < ts.length := (List.getElem?_eq_some_iff.mp ht).1
      have hw : ws[i]? = some (ws[i]'(by omega)) := List.getElem?_eq_getElem (by omega)
      have hi2 : i < zs.length := by have := q1.1; have := q2.1; omega
      have hz : zs[i]? = some zs[i] := List.getElem?_eq_getElem hi2
      have he : es[i]? = some (es[i]'(by have := q1.1; omega)) := List.getElem?_eq_getElem _
      have hf : fs[i]? = some (fs[i]'(by have := q2.1; omega)) := List.getElem?_eq_getElem _
      have k := k7 i c _ _ ht hw hz
      rw [List.getElem?_zipWith, he, hf] at g2
      cases g2
      refine .tup (vs := [ws[i]'(by omega), zs[i]]) (SqT.of (by rw [inF (List.mem_cons_of_mem _ (List.mem_of_getElem? ht))]; exact k)) rfl fun j v d g1 g2 => ?_
      match j, g1, g2 with
      | 0, g1, g2 =>
        cases g1; cases g2
        exact (q1.2 i _ _ hw he).mono P.same
      | 1, g1, g2 =>
        cases g1; cases g2
        exact (q2.2 i _ _ hz hf).mono P.same
      | j + 2, g1, g2 => simp at g1
end
end Tw

set_option Elab.async false
set_option linter.all false
set_option maxRecDepth 100000
set_option maxHeartbeats 4000000
/-! Own operators: + - == != by the class's own defs; unary - ~; len, truth. -/
namespace Tw
open PySem PySem.Spec PyProof.Rows L2

/-- the class at C has its own `name`, the def at f -/
structure Dun (K : PySem.W.Frag) (C f : Addr) (name : Str) : Prop where
  at_ : PySem.W.findIn K (.ref C) name = some (some (.ref f))
  fn : PySem.W.isFn K (.ref f) = true
section
variable {X : Cx} {pins : List (Addr × Obj)} {σ : L2.St} {H : Hp} {s : Shared} {n k : Nat} {f C : Addr} {ps : List Str} {sp : Sp}
theorem run_sub {A : Around} (sb : L2.Sub X n A) (F : FnE X.prog X.w X.K X.mg X.base n f ps sp) {Q : VK} {us : List Value} {vs : List V} (I : Inv X pins σ H s) (r : Vals vs us) (h : sp vs H Q E0) :
    wpAny (model X.prog X.w) A (call (.ref f) us) (EP X pins σ Q) X.xe s := by
  obtain ⟨fd, F, hb, _⟩ := F
  have e0 : Env0 X.prog X.w X.K X.mg X.base A X.stack s H := by
    have e := I.env0
    exact ⟨by rw [sb.fr]; exact e.frames, e.mod, e.bs, e.bsz, e.funs, e.frf, e.hok, e.bare⟩
  have hl : us.length = ps.length := by rw [← r.length]; exact F.len _ _ _ _ h
  refine wpAny_call (codeAny_mono (F.run A X.stack s H ⟨us, []⟩ us vs Q E0 sb.room e0 (by
    have := hb s us I.kIn (by simpa using hl)
    simpa using this) r h) fun r s' hq => ?_)
  cases r with
  | error e => exact pass0 pins σ H s e s' I hq
  | ok fl =>
    cases fl with
    | ret w => exact I.after hq
    | next => exact False.elim hq
    | brk => exact False.elim hq
    | cont => exact False.elim hq
theorem subX {n : Nat} (hr : Room n X.A) : L2.Sub X n X.A := ⟨hr, rfl⟩
theorem cmpBack {Q : VK} {v : Value} {s' : Shared} (h : EP X pins σ Q v s') : PySem.W.CmpBack (EP X pins σ Q) v s' := by
  obtain ⟨z, H', I', r, q⟩ := h
  have h' : EP X pins σ Q v s' := ⟨z, H', I', r, q⟩
  cases z <;> first | (cases r; exact h') | (obtain ⟨t, rfl⟩ := r; exact h')
def rOwn2 (C : Addr) (sp : Sp) : R2 := fun x y H Q => ∃ a b dx dy fs gs, x = .ref a ∧ y = .ref b ∧ H a = some (.ins C dx fs) ∧ H b = some (.ins C dy gs) ∧ sp [x, y] H Q E0
theorem op_own {op : Operator} (F : FnE X.prog X.w X.K X.mg X.base k f ps sp) (hr : Room k X.A) (d : Dun X.K C f (PySem.dunder op.info.2)) (hc : PySem.W.selfFirst X.K C = true) : OpR X (binaryOp op) (rOwn2 C sp) := by
  intro pins s σ H x y v u Q I rx ry h
  obtain ⟨a, b, dx, dy, fs, gs, rfl, rfl, ha, hb, q⟩ := h
  cases rx
  cases ry
  obtain ⟨mA, J, _⟩ := ins_get I.hok ha
  obtain ⟨mB, J', _⟩ := ins_get I.hok hb
  obtain ⟨od, J, _⟩ := J.look
  obtain ⟨od', J', _⟩ := J'.look
  obtain ⟨m, hF⟩ := I.fr
  refine PySem.W.binop_K hF I.ok.mod.kin J J'.type hc d.at_ d.fn ?_
  exact wpAny_mono (run_sub (vs := [.ref a, .ref b]) (subX hr) F I (.cons rfl (.cons rfl .nil)) q) (fun r s' z => cmpBack z) fun _ _ z => z
theorem op_ownEq (F : FnE X.prog X.w X.K X.mg X.base k f ps sp) (hr : Room k X.A) (d : Dun X.K C f "__eq__") : OpR X (compareOp .Eq) (rOwn2 C sp) := by
  intro pins s σ H x y v u Q I rx ry h
  obtain ⟨a, b, dx, dy, fs, gs, rfl, rfl, ha, hb, q⟩ := h
  cases rx
  cases ry
  obtain ⟨mA, J, _⟩ := ins_get I.hok ha
  obtain ⟨mB, J', _⟩ := ins_get I.hok hb
  obtain ⟨od, J, _⟩ := J.look
  obtain ⟨od', J', _⟩ := J'.look
  obtain ⟨m, hF⟩ := I.fr
  show wpAny (model X.prog X.w) X.A (richCompare .Eq (.ref a) (.ref b)) (EP X pins σ Q) X.xe s
  refine PySem.W.cmp_K (op := .Eq) (tb := .ref C) hr.units0 hF I.ok.mod.kin J J'.type (by simp [PySem.W.notFirst]) d.at_ d.fn ?_
  exact wpAny_mono (run_sub (vs := [.ref a, .ref b]) (subX hr) F I (.cons rfl (.cons rfl .nil)) q) (fun r s' z => cmpBack z) fun _ _ z => z
theorem ifBound_objNe {M : Model} {A : Around} {E : Value → Shared → Prop} {s : Shared} {K : PySem.W.Frag} {x C : Addr} {ox : Obj} {od : Option Obj} {args : List Value} {Q : Option Value → Shared → Prop} (X : K.In s.heap) (I : PySem.W.InstAt s.heap x ox C od) (hs : PySem.W.findIn K (.ref C) "__ne__" = some (some (.builtin "object.__ne__")))
    (h : wpAny M A (call (.builtin "object.__ne__") (.ref x :: args)) (fun v => Q (some v)) E s) : wpAny M A (callSpecialIfBound? (.ref x) "__ne__" args) Q E s := by
  simp only [callSpecialIfBound?, bindSpecialIfBound?]
  refine wpAny_holding (wpAny_bind (wpAny_bind (wpAny_bind (I.type.here ((PySem.W.looks_findIn X hs).here ?_)))))
  refine wpAny_bind (wpAny_askSetting (wpAny_ite ?_))
  have fin : wpAny M A (call (.builtin "object.__ne__") ([.ref x] ++ args) >>= fun v => pure (some v)) Q E s := wpAny_bind (wpAny_mono h (fun v s' h' => wpAny_pure h') fun _ _ h' => h')
  split
  · exact wpAny_bind (wpAny_of_eq (PySem.F.cmp_object.ne.bind _) (wpAny_pure (by exact fin)))
  · exact wpAny_tryCatch (wpAny_bind (wpAny_of_eq (PySem.F.cmp_object.ne.bind _) (wpAny_pure (by exact fin))))
/-- != by the own __eq__ (which tells a bool) -/
def rOwnNe (C : Addr) (sp : Sp) : R2 := fun x y H Q => ∃ a b dx dy fs gs, x = .ref a ∧ y = .ref b ∧ H a = some (.ins C dx fs) ∧ H b = some (.ins C dy gs) ∧ sp [x, y] H (fun v H' => ∃ b, v = .bl b ∧ Q (.bl (!b)) H') E0
theorem op_ownNe (F : FnE X.prog X.w X.K X.mg X.base k f ps sp) (hr : Room (k + 1) X.A) (d : Dun X.K C f "__eq__") (hs : PySem.W.findIn X.K (.ref C) "__ne__" = some (some (.builtin "object.__ne__"))) (hm : PySem.W.mroIn X.K C (.type "object") = some true) : OpR X (compareOp .NotEq) (rOwnNe C sp) := by
  intro pins s σ H x y v u Q I rx ry h
  obtain ⟨a, b, dx, dy, fs, gs, rfl, rfl, ha, hb, q⟩ := h
  cases rx
  cases ry
  obtain ⟨mA, J, _⟩ := ins_get I.hok ha
  obtain ⟨mB, J', _⟩ := ins_get I.hok hb
  obtain ⟨od, J, _⟩ := J.look
  obtain ⟨od', J', _⟩ := J'.look
  show wpAny (model X.prog X.w) X.A (richCompare .NotEq (.ref a) (.ref b)) (EP X pins σ Q) X.xe s
  have sb1 : L2.Sub X k X.A.in1 := (subX hr).in1
  have inner : wpAny (model X.prog X.w) X.A.in1 (Builtin.«object.__ne__» ⟨[.ref a, .ref b], []⟩) (fun fin s' => ∃ r : Bool, fin = .done (.ret (.bool (!r))) ∧ EP X pins σ Q (.bool (!r)) s') X.xe s := by
    unfold Builtin.«object.__ne__»
    repeat (first
      | with_reducible refine wpAny_cRoomFor sb1.room.units0 ?_
      | (refine wpAny_bind (m := callSpecialIfBound? (.ref a) (Str.ofString "__eq__") [.ref b])
          (PySem.W.ifBound_K I.kIn J d.at_ d.fn (wpAny_mono (run_sub (vs := [.ref a, .ref b]) sb1 F I (.cons rfl (.cons rfl .nil)) q) (fun r s' hr => by
            obtain ⟨z, H', I', rz, r', rfl, hq⟩ := hr
            cases rz
            have hq' : EP X pins σ Q (.bool (!r')) s' := ⟨.bl (!r'), H', I', rfl, hq⟩
            repeat (first | exact ⟨r', rfl, hq'⟩ | exact wpAny_pure ⟨r', rfl, hq'⟩ | (refine wpAny_bind (m := truthy (.bool _)) (wpAny_truthy_bool ?_)) | wp_step)) fun _ _ e => e)))
      | wp_step)
  have one : wpAny (model X.prog X.w) X.A (tryCompare (.ref a) "__ne__" (.ref b)) (fun r s' => ∃ r' : Bool, r = some (.bool (!r')) ∧ EP X pins σ Q (.bool (!r')) s') X.xe s := by
    simp only [tryCompare]
    refine wpAny_bind (ifBound_objNe I.kIn J hs (wpAny_call (codeAny_call_builtin PySem.F.cmp_object.ne.plain PySem.F.cmpEntry_ne (PySem.W.check_slot PySem.F.cmpKind_ne PySem.F.cmpSplit_ne (J.type.andThen (PySem.W.looks_mroIn I.kIn hm)) (PySem.F.cmpArgs_ne _ _) ?_))))
    refine wpAny_mono inner (fun fin s' z => ?_) fun _ _ z => z
    obtain ⟨r', rfl, z⟩ := z
    exact wpAny_pure ⟨r', rfl, z⟩
  unfold richCompare
  simp only [oneThing_ref]
  refine wpAny_holding ?_
  refine wpAny_bind (wpAny_cRoomFor hr.units0 ?_)
  rw [cmpInfo_NotEq]
  dsimp only
  refine wpAny_bind (J.type.here (wpAny_bind (J'.type.here ?_)))
  rw [show (Value.ref C != Value.ref C) = false from by simp]
  simp only [Bool.false_eq_true, if_false]
  refine wpAny_bind (wpAny_pure ?_)
  simp only [Bool.false_eq_true, if_false]
  refine wpAny_bind (wpAny_mono one (fun v s' hv => ?_) fun _ _ e => e)
  obtain ⟨b, rfl, hq⟩ := hv
  first | exact wpAny_pure hq | exact wpAny_pure (wpAny_pure hq)
def rOwn1 (C : Addr) (sp : Sp) : V → Hp → VK → Prop := fun x H Q => ∃ a dx fs, x = .ref a ∧ H a = some (.ins C dx fs) ∧ sp [x] H Q E0
theorem un_ownNeg (F : FnE X.prog X.w X.K X.mg X.base k f ps sp) (hr : Room k X.A) (d : Dun X.K C f "__neg__") : UnR X (unaryOp .USub) (rOwn1 C sp) := by
  intro pins s σ H x v Q I rx h
  obtain ⟨a, dx, fs, rfl, ha, q⟩ := h
  cases rx
  obtain ⟨mA, J, _⟩ := ins_get I.hok ha
  obtain ⟨od, J, _⟩ := J.look
  obtain ⟨m, hF⟩ := I.fr
  exact PySem.W.ksp_neg hF I.ok.mod.kin J d.at_ d.fn (run_sub (vs := [.ref a]) (subX hr) F I (.cons rfl .nil) q)
theorem un_ownInv (F : FnE X.prog X.w X.K X.mg X.base k f ps sp) (hr : Room k X.A) (d : Dun X.K C f "__invert__") : UnR X (unaryOp .Invert) (rOwn1 C sp) := by
  intro pins s σ H x v Q I rx h
  obtain ⟨a, dx, fs, rfl, ha, q⟩ := h
  cases rx
  obtain ⟨mA, J, _⟩ := ins_get I.hok ha
  obtain ⟨od, J, _⟩ := J.look
  obtain ⟨m, hF⟩ := I.fr
  exact PySem.W.ksp_inv hF I.ok.mod.kin J d.at_ d.fn (run_sub (vs := [.ref a]) (subX hr) F I (.cons rfl .nil) q)
def rOwnLen (C : Addr) (sp : Sp) : List V → Hp → VK → Prop := fun xs H Q => ∃ a dx fs, xs = [.ref a] ∧ H a = some (.ins C dx fs) ∧ sp xs H (fun v H' => ∃ i, v = .int i ∧ 0 ≤ i ∧ i < 2 ^ 63 ∧ Q (.int i) H') E0
theorem call_ownLen (F : FnE X.prog X.w X.K X.mg X.base k f ps sp) (hr : Room (k + 1) X.A) (d : Dun X.K C f "__len__") : CallR X (.builtin "len") (rOwnLen C sp) := by
  intro pins s σ H xs us Q I r h
  obtain ⟨a, dx, fs, rfl, ha, q⟩ := h
  obtain rfl := Vals.ref1 r
  obtain ⟨mA, J, _⟩ := ins_get I.hok ha
  obtain ⟨od, J, _⟩ := J.look
  obtain ⟨m, hF⟩ := I.fr
  refine PySem.W.len_K hF I.ok.mod.kin J d.at_ d.fn (wpAny_mono (run_sub (vs := [.ref a]) (subX hr).in1 F I (.cons rfl .nil) q) (fun v s' z => ?_) fun _ _ z => z)
  obtain ⟨z, H', I', rz, i, rfl, h0, h1, q'⟩ := z
  obtain ⟨t, rfl⟩ := rz
  exact ⟨⟨h0, h1⟩, .int i, H', I'.tok _, ⟨_, rfl⟩, q'⟩
def rOwnTru (C : Addr) (sp : Sp) : V → Hp → (Bool → Hp → Prop) → Prop := fun x H Q => ∃ a dx fs, x = .ref a ∧ H a = some (.ins C dx fs) ∧ sp [x] H (fun v H' => ∃ b, v = .bl b ∧ Q b H') E0
theorem tru_own (F : FnE X.prog X.w X.K X.mg X.base k f ps sp) (hr : Room k X.A) (d : Dun X.K C f "__bool__") : TruR X (rOwnTru C sp) := by
  intro pins s σ H x v Q I rx h
  obtain ⟨a, dx, fs, rfl, ha, q⟩ := h
  cases rx
  obtain ⟨mA, J, _⟩ := ins_get I.hok ha
  obtain ⟨od, J, _⟩ := J.look
  obtain ⟨m, hF⟩ := I.fr
  refine PySem.W.truthy_K hF I.ok.mod.kin J d.at_ d.fn (wpAny_mono (run_sub (vs := [.ref a]) (subX hr) F I (.cons rfl .nil) q) (fun v s' z => ?_) fun _ _ z => z)
  obtain ⟨z, H', I', rz, b, rfl, q'⟩ := z
  cases rz
  exact ⟨H', I', q'⟩
end

section
variable {K : PySem.W.Frag} {S S' S1 : Store} {Γ Γ' : Env} {Φ : D → Store → Prop} {ta tb tc te to : TE} {x y z d : D} {σ : L2.St} {C : Addr} {sp : Spec}
theorem rw_own2 {ns ms : List Str} {ds es : List D} (hx : InsOf S x C ns ds) (hy : InsOf S y C ms es) (h : sp [x, y] S Φ) : R2W K (rOwn2 C (spOf K sp)) x y S Φ := fun F H vx vy Q hs rx ry hq => by
  obtain ⟨a, dx, fs, rfl, ha, _, _⟩ := hx.get hs rx
  obtain ⟨b, dy, gs, rfl, hb, _, _⟩ := hy.get hs ry
  exact ⟨a, b, dx, dy, fs, gs, rfl, rfl, ha, hb, F, S, _, Φ, hs, .cons rx (.cons ry .nil), h, hq⟩
theorem rw_ownNe {ns ms : List Str} {ds es : List D} (hx : InsOf S x C ns ds) (hy : InsOf S y C ms es) (h : sp [x, y] S fun d S' => ∃ b, d = .bl b ∧ Φ (.bl (!b)) S') : R2W K (rOwnNe C (spOf K sp)) x y S Φ := fun F H vx vy Q hs rx ry hq => by
  obtain ⟨a, dx, fs, rfl, ha, _, _⟩ := hx.get hs rx
  obtain ⟨b, dy, gs, rfl, hb, _, _⟩ := hy.get hs ry
  refine ⟨a, b, dx, dy, fs, gs, rfl, rfl, ha, hb, F, S, _, _, hs, .cons rx (.cons ry .nil), h, fun F' H' v d S' p r ⟨b, e, f⟩ => ?_⟩
  subst e
  cases r
  exact ⟨b, rfl, hq F' H' _ _ S' p (.bl _) f⟩
theorem rw_own1 {ns : List Str} {ds : List D} (hx : InsOf S x C ns ds) (h : sp [x] S Φ) : R1W K (rOwn1 C (spOf K sp)) x S Φ := fun F H vx Q hs rx hq => by
  obtain ⟨a, dx, fs, rfl, ha, _, _⟩ := hx.get hs rx
  exact ⟨a, dx, fs, rfl, ha, F, S, _, Φ, hs, .cons rx .nil, h, hq⟩
theorem rw_ownLen {ns : List Str} {ds : List D} (hx : InsOf S x C ns ds) (h : sp [x] S fun d S' => ∃ i, d = .int i ∧ 0 ≤ i ∧ i < 2 ^ 63 ∧ Φ (.int i) S') : RLW K (rOwnLen C (spOf K sp)) [x] S Φ := fun F H vs Q hs rl hq => by
  obtain ⟨vx, r, rfl, rx, r2⟩ := rl.uncons
  rw [r2.unnil]
  obtain ⟨a, dx, fs, rfl, ha, _, _⟩ := hx.get hs rx
  refine ⟨a, dx, fs, rfl, ha, F, S, _, _, hs, .cons rx .nil, h, fun F' H' v d S' p r ⟨i, e, h0, h1, f⟩ => ?_⟩
  subst e
  cases r
  exact ⟨i, rfl, h0, h1, hq F' H' _ _ S' p (.int _) f⟩
/-- the truth of an instance -/
def tTruO (r : V → Hp → (Bool → Hp → Prop) → Prop) (te : TE) : TT := fun σ H Q => te σ H fun x H1 => r x H1 Q
theorem w_truO {Φ : Bool → Store → Prop} (h : WE K te S Γ fun x S1 => ∃ ns ds, InsOf S1 x C ns ds ∧ sp [x] S1 fun d S' => ∃ b, d = .bl b ∧ Φ b S') : WT K (tTruO (rOwnTru C (spOf K sp)) te) S Γ Φ := fun F H σ Q hs hg hq =>
  h F H σ _ hs hg fun F1 H1 v x S1 p1 r1 ⟨ns, ds, hi, f⟩ => by
    obtain ⟨a, dx, fs, rfl, ha, _, _⟩ := hi.get p1.sat r1
    refine ⟨a, dx, fs, rfl, ha, F1, S1, _, _, p1.sat, .cons r1 .nil, f, fun F' H' v d S' p r ⟨b, e, f⟩ => ?_⟩
    subst e
    cases r
    exact ⟨b, rfl, hq F' H' b S' (p1.trans p) f⟩
end
end Tw

set_option Elab.async false
set_option linter.all false
set_option maxRecDepth 100000
set_option maxHeartbeats 4000000
/-! Universal operators, data equality, builtins. -/
namespace Tw
open PySem PySem.Spec PyProof.Rows L2

section
variable {X : Cx}
/-- + of ints, lists, tuples -/
def rAddU (K : PySem.W.Frag) : R2 := rOr (rI0 fun i j => .int (i + j)) (rOr rCat (rCatA K))
theorem op_addU : OpR X (binaryOp .Add) (rAddU X.K) := opr_or op_add (opr_or op_cat op_catA)
def rMulU : R2 := rOr (rI CMul fun i j => .int (i * j)) rRep
theorem op_mulU : OpR X (binaryOp .Mult) rMulU := opr_or op_mul op_rep
def rEqU (K : PySem.W.Frag) : R2 := rOr rEq (rEqD K)
theorem op_eqU (hu : X.A.units + 64 < cLine) : OpR X (compareOp .Eq) (rEqU X.K) := opr_or op_eq (op_eqD hu)
def rNeU (K : PySem.W.Frag) : R2 := rOr rNe (rNeD K)
theorem op_neU (hu : X.A.units + 64 < cLine) : OpR X (compareOp .NotEq) (rNeU X.K) := opr_or op_ne (op_neD hu)
def rNotInU (K : PySem.W.Frag) : R2 := rOr (rIn K true) (rNotInD K)
theorem op_notInU (hu : X.A.units + 65 < cLine) : OpR X (compareOp .NotIn) (rNotInU X.K) := opr_or op_notIn_seq (op_notInD hu)
def rInU (K : PySem.W.Frag) : R2 := rOr (rIn K false) (rInD K)
theorem op_inU (hu : X.A.units + 65 < cLine) : OpR X (compareOp .In) (rInU X.K) := opr_or op_in_seq (op_inD hu)
/-- x is True, x is False, x is None -/
def rIsBl : R2 := fun x y H Q => ∃ b : Bool, y = .bl b ∧ Q (.bl (decide (x = .bl b))) H
theorem op_isBo : OpR X (compareOp .Is) rIsBl := by
  intro pins s σ H x y v u Q I rx ry h
  obtain ⟨b, rfl, q⟩ := h
  cases (show u = Value.bool b from ry)
  cases x with
  | bl a =>
    cases (show v = Value.bool a from rx)
    by_cases e : a = b
    · subst e
      exact wpAny_is_self rfl ⟨.bl true, H, I, rfl, by simpa using q⟩
    · exact wpAny_is_other rfl (fun z => e (Value.bool.inj z)) ⟨.bl false, H, I, rfl, by simpa [e] using q⟩
  | non => cases (show v = Value.none from rx); exact wpAny_is_other rfl (fun z => nomatch z) ⟨.bl false, H, I, rfl, by simpa using q⟩
  | int i => obtain ⟨t, rfl⟩ := rx; exact wpAny_is_other rfl (fun z => nomatch z) ⟨.bl false, H, I, rfl, by simpa using q⟩
  | str i => obtain ⟨t, rfl⟩ := rx; exact wpAny_is_other rfl (fun z => nomatch z) ⟨.bl false, H, I, rfl, by simpa using q⟩
  | byt i => obtain ⟨t, rfl⟩ := rx; exact wpAny_is_other rfl (fun z => nomatch z) ⟨.bl false, H, I, rfl, by simpa using q⟩
  | flt i => obtain ⟨t, rfl⟩ := rx; exact wpAny_is_other rfl (fun z => nomatch z) ⟨.bl false, H, I, rfl, by simpa using q⟩
  | ref a => cases (show v = Value.ref a from rx); exact wpAny_is_other rfl (fun z => nomatch z) ⟨.bl false, H, I, rfl, by simpa using q⟩
  | ty n => cases (show v = Value.type n from rx); exact wpAny_is_other rfl (fun z => nomatch z) ⟨.bl false, H, I, rfl, by simpa using q⟩
def rIsNo : R2 := fun x y H Q => y = .non ∧ Q (.bl (decide (x = .non))) H
theorem op_isNo : OpR X (compareOp .Is) rIsNo := op_isN
/-- o[i], by values -/
def rGetL (K : PySem.W.Frag) : V → V → Hp → VK → Prop := fun x y H Q => ∃ a xs i v, x = .ref a ∧ y = .int i ∧ 0 ≤ i ∧ SqL K H a xs ∧ xs[i.toNat]? = some v ∧ Q v H
theorem get_list : PGet X (rGetL X.K) := by
  intro pins s σ H o i ov iv Q I ro ri h
  obtain ⟨a, xs, j, v, rfl, rfl, h0, hs, e, q⟩ := h
  cases ro
  obtain ⟨t, rfl⟩ := ri
  obtain ⟨its, r, pl, hz⟩ := I.list hs
  obtain ⟨w, ew, rw'⟩ := r.get e
  have hl := r.length
  have hn := line63
  have hlt := (List.getElem?_eq_some_iff.mp e).1
  exact wpAny_getItem_list pl.isList h0 (by omega) (by simpa using ew) ⟨v, H, I, rw', q⟩

/-! ### sum of a list or a tuple of ints -/
theorem preSum_list (ns : List Int) : ∀ n, n ≤ ns.length → preSum (fun i => ns.getD i 0) n = (ns.take n).sum
  | 0, _ => rfl
  | n + 1, h => by
    have hlt : n < ns.length := h
    rw [List.take_add_one, List.getElem?_eq_getElem hlt]
    show preSum _ n + ns.getD n 0 = _
    rw [preSum_list ns n (by omega), List.getD_eq_getElem?_getD, List.getElem?_eq_getElem hlt, List.sum_append]
    show (ns.take n).sum + ns[n] = (ns.take n).sum + (ns[n] + 0)
    rw [Int.add_zero]
def rSumU (K : PySem.W.Frag) : List V → Hp → VK → Prop := fun vs H Q => ∃ (a : Addr) (ns : List Int), vs = [V.ref a] ∧ (SqL K H a (ns.map V.int) ∨ SqT K H a (ns.map V.int)) ∧ Q (.int ns.sum) H
theorem call_sumU (hc : X.calm = true) : CallR X (.builtin "sum") (rSumU X.K) := by
  intro pins s σ H vs us Q I r h
  obtain ⟨a, ns, rfl, hs | hs, q⟩ := h
  · exact cr_sum hc pins s σ H _ us Q I r ⟨a, ns, rfl, hs, q⟩
  · obtain ⟨its, rv, hl, _⟩ := I.tuple hs
    rw [Vals.ref1 r]
    have p2 : s.heap.IsTuple a its.toArray := hl
    have hal : a < s.heap.objs.size := by obtain ⟨_, q, _⟩ := p2; exact Heap.lt_size q
    have hi := intsAre_of rv
    have hlen : its.length = ns.length := by have := rv.length; simpa using this.symm
    refine call_sum_walkG (wpAny_pyIter_tuple p2 ?_)
    refine ⟨_, _, _, _, _, _, fun i => ns.getD i 0, rfl, Walks.tuple (A := X.A.in1) (I.ok.hd hc) s.heap.objs.size a (Nat.ne_of_lt hal) its.toArray, ⟨⟨_, Heap.get?_push_size _ rfl, rfl, rfl⟩, p2.push _⟩, ?_, ?_, fun h' tk t' hk => ?_⟩
    · intro b hb
      rw [Heap.size_push]
      have e : b = s.heap.objs.size ∨ b = a := by simpa using hb
      rcases e with e | e
      · rw [e]; exact Nat.lt_succ_self _
      · rw [e]; exact Nat.lt_succ_of_lt hal
    · intro i v hv
      have hv' : its[i]? = some v := by simpa using hv
      have hlt := (List.getElem?_eq_some_iff.mp hv').1
      obtain ⟨t, ht⟩ := hi.get i (ns[i]'(by omega)) (List.getElem?_eq_getElem (by omega))
      have ht' : its[i]? = some (.int ns[i] t) := by simpa using ht
      rw [hv'] at ht'
      refine ⟨t, ?_⟩
      show v = Value.int (ns.getD i 0) t
      rw [List.getD_eq_getElem?_getD, List.getElem?_eq_getElem (by omega)]
      exact Option.some.inj ht'
    · have e : preSum (fun i => ns.getD i 0) its.toArray.size = ns.sum := by
        rw [List.size_toArray, hlen, preSum_list ns _ (Nat.le_refl _), List.take_length]
      rw [e]
      exact ⟨.int _, H, I.kept fun b o eo => hk b o (fun hb => absurd (Heap.lt_size eo) (by rw [List.mem_singleton.mp hb]; exact Nat.lt_irrefl _)) (Heap.get?_push_of_some _ eo), ⟨_, rfl⟩, q⟩

/-! ### bool of a tuple; t[::-1] -/
theorem meets_bool_tuple (l : Addr) (items : Array Value) (o : Obj) :
    True := trivial
end

section
variable {prog : Program} {w : World} {A : Around} {E : Value → Shared → Prop} {s : Shared}
theorem rev_adjust (n : Nat) : Builtin.Slice.sliceAdjust none none (-1) (n : Int) = ((n : Int) - 1, -1) := by
  unfold Builtin.Slice.sliceAdjust
  simp
theorem rev_places (n : Nat) : Builtin.Slice.slicePlaces ((n : Int) - 1) (-1) (-1) = n := by
  unfold Builtin.Slice.slicePlaces
  simp
  all_goals omega
theorem rev_applied {sl : Addr} {n : Nat} {t : Tok} {Q : Int × Int × Nat → Shared → Prop} (hs : s.heap.IsSliceOf sl .none .none (.int (-1) t))
    (h : Q ((n : Int) - 1, -1, n) s) : wpAny (model prog w) A (Builtin.Slice.sliceApplied (.ref sl) (pure (n : Int))) Q E s := by
  obtain ⟨os, hos, hcs, hds⟩ := id hs
  unfold Builtin.Slice.sliceApplied Builtin.Slice.sliceFields
  refine wpAny_bind (wpAny_bind (wpAny_field hos hds (x := .none) rfl (wpAny_bind (wpAny_field hos hds (x := .none) rfl (wpAny_bind (wpAny_field hos hds (x := .int (-1) t) rfl (wpAny_pure ?_)))))))
  refine wpAny_bind (slicePart_int ?_)
  show wpAny _ _ (if ((-1 : Int) == 0) = true then _ else _) _ _ s
  rw [if_neg (by decide)]
  refine wpAny_bind (slicePart_none (wpAny_bind (slicePart_none (wpAny_bind (wpAny_pure ?_)))))
  show wpAny _ _ (match Builtin.Slice.sliceAdjust none none (-1) (n : Int) with | (lo, hi) => pure (lo, (-1 : Int), Builtin.Slice.slicePlaces lo hi (-1))) _ _ s
  rw [rev_adjust]
  show wpAny _ _ (pure ((n : Int) - 1, (-1 : Int), Builtin.Slice.slicePlaces ((n : Int) - 1) (-1) (-1))) _ _ s
  rw [rev_places]
  exact wpAny_pure h
theorem rev_pick (xs : Array Value) : ((List.range xs.size).filterMap fun (m : Nat) => xs[(((xs.size : Nat) : Int) - 1 + (m : Int) * (-1)).toNat]?).toArray = xs.toList.reverse.toArray := by
  congr 1
  refine List.ext_getElem? fun i => ?_
  have e : (List.range xs.size).filterMap (fun (m : Nat) => xs[(((xs.size : Nat) : Int) - 1 + (m : Int) * (-1)).toNat]?) = (List.range xs.size).map (fun m => xs.getD (xs.size - 1 - m) .none) := by
    have key : ∀ l : List Nat, (∀ m ∈ l, m < xs.size) → l.filterMap (fun (m : Nat) => xs[(((xs.size : Nat) : Int) - 1 + (m : Int) * (-1)).toNat]?) = l.map (fun m => xs.getD (xs.size - 1 - m) .none) := by
      intro l
      induction l with
      | nil => intro _; rfl
      | cons m l ih =>
        intro hl
        have hm' : m < xs.size := hl m List.mem_cons_self
        have e1 : (((xs.size : Nat) : Int) - 1 + (m : Int) * (-1)).toNat = xs.size - 1 - m := by omega
        have hm2 : xs.size - 1 - m < xs.size := by omega
        rw [List.filterMap_cons, e1, Array.getElem?_eq_getElem hm2, List.map_cons, ih fun k hk => hl k (List.mem_cons_of_mem _ hk)]
        simp [Array.getD, hm2]
    exact key _ fun m hm => List.mem_range.mp hm
  rw [e]
  by_cases hi : i < xs.size
  · rw [List.getElem?_map, List.getElem?_range hi, List.getElem?_reverse (by simpa using hi)]
    simp [Array.getD, show xs.size - 1 - i < xs.size by omega]
  · rw [List.getElem?_eq_none (by simpa using hi), List.getElem?_eq_none (by simpa using hi)]
theorem getItem_tuple_rev {t sl : Addr} {items : Array Value} {tk : Tok} {Q : Value → Shared → Prop} (ht : IsTup s.heap t items) (hs : s.heap.IsSliceOf sl .none .none (.int (-1) tk))
    (h : Q (.ref s.heap.objs.size) { s with heap := s.heap.push { cls := .type "tuple", data := .seq items.toList.reverse.toArray } })
    (hsz : items.size ≤ sizeLine) : wpAny (model prog w) A (getItem (.ref t) (.ref sl)) Q E s := by
  have htake : sizeOk (.seq items.toList.reverse.toArray) := by
    show items.toList.reverse.toArray.size ≤ sizeLine
    rw [List.size_toArray, List.length_reverse, Array.length_toList]
    exact hsz
  obtain ⟨os, hos, hcs, hds⟩ := id hs
  have hTs : s.TypeIs (.ref sl) "slice" := ⟨os, hos, hcs⟩
  unfold getItem
  try with_reducible refine wpAny_holding ?_
  first | refine wpAny_bind (wpAny_pure ?_) | skip
  refine wpAny_bind (wpAny_sequenceKey ht.typeIs (by decide) ?_)
  refine wpAny_bind (wpAny_callSpecial?_slot (name := Str.ofString "__getitem__") ht.typeIs PyProof.Rows.slot_tuple_getitem
    (wpAny_call_entry PyProof.Rows.slot_tuple_getitem ht.typeIs entry_tuple_getitem ?_ (args_tuple_getitem _ _)))
  show wpAny _ _ (Builtin.Tuple.tupleItemsOf (.ref t) >>= _) _ _ s
  refine wpAny_bind (tupleItemsOf_ ht ?_)
  refine wpAny_bind (wpAny_typeOf hTs ?_)
  rw [if_pos (by decide)]
  refine wpAny_bind (rev_applied hs ?_)
  have hno : ¬ ((((items.size : Int) - 1) == 0 && (-1 : Int) == 1 && items.size == items.size) = true) := by
    rw [show ((-1 : Int) == 1) = false from rfl, Bool.and_false, Bool.false_and]
    exact Bool.false_ne_true
  show wpAny _ _ (if (((items.size : Int) - 1) == 0 && (-1 : Int) == 1 && items.size == items.size) = true then _ else _) _ _ s
  rw [if_neg hno, rev_pick]
  first
    | exact wpAny_bind (m := Builtin.Tuple.tupleExact _) (wpAny_newObj_type (wpAny_pure ⟨_, rfl, wpAny_pure h⟩) htake)
    | exact wpAny_bind (m := Builtin.Tuple.tupleExact _) (wpAny_newObj_type (wpAny_bind (wpAny_pure (wpAny_pure ⟨_, rfl, wpAny_pure h⟩))) htake)
    | exact wpAny_bind (wpAny_bind (m := Builtin.Tuple.tupleExact _) (wpAny_newObj_type (wpAny_pure (wpAny_pure ⟨_, rfl, wpAny_pure h⟩)) htake))
    | exact wpAny_bind (wpAny_bind (m := Builtin.Tuple.tupleExact _) (wpAny_newObj_type (wpAny_pure ⟨_, rfl, wpAny_pure h⟩) htake))
end
section
variable {X : Cx}
/-- x[::-1], a list or a tuple -/
def tRevU (K : PySem.W.Frag) (te : TE) : TE := fun σ H Q => te σ H fun x H1 => ∃ a xs, x = .ref a ∧ ((SqL K H1 a xs ∧ ∀ p, H1 p = none → Q (.ref p) (upd H1 p (.lst xs.reverse))) ∨ (SqT K H1 a xs ∧ ∀ p, H1 p = none → Q (.ref p) (upd H1 p (.tup xs.reverse))))
theorem pe_revU {e : Expr} {te : TE} {k : Nat} {p1 p2 p3 pos : Pos} (he : PE X e te) : PE X (.Subscript e (.Slice none none (some (.UnaryOp .USub (.Constant (.int 1) k p1) p2)) p3) pos) (tRevU X.K te) := by
  refine ⟨fun pins s σ H Q I h => ?_⟩
  refine Subscript_ (thn (he.run pins s σ H _ I h) fun v s1 ⟨x, H1, I1, r1, q1⟩ => ?_)
  obtain ⟨a, xs, ex, q⟩ := q1
  subst ex
  cases r1
  have hst : PO X (some (.UnaryOp .USub (.Constant (.int 1) k p1) p2)) (tPart (tUn (rU fun i => .int (-i)) (tC (.int 1)))) := po_some (pe_un un_neg pe_int)
  refine wpAny_Slice (thn (po_none.run pins s1 σ H1 (fun o H2 => o = none ∧ H2 = H1) I1 ⟨rfl, rfl⟩) fun vl s2 ⟨l, H2, I2, pl, el, e2⟩ => ?_)
  subst el e2
  refine thn (po_none.run pins s2 σ H2 (fun o H3 => o = none ∧ H3 = H2) I2 ⟨rfl, rfl⟩) fun vu s3 ⟨u, H3, I3, pu, eu, e3⟩ => ?_
  subst eu e3
  refine thn (hst.run pins s3 σ H3 (fun o H4 => o = some (-1) ∧ H4 = H3) I3 ⟨1, rfl, -1, rfl, rfl, rfl⟩) fun vs s4 ⟨o, H4, I4, ps, eo, e4⟩ => ?_
  subst eo e4
  have I5 : Inv X pins σ H4 { s4 with heap := s4.heap.push { cls := .type "slice", data := .fields #[vl, vu, vs] } } := I4.kept (t' := s4.toks) fun b ob q => Heap.get?_push_of_some _ q
  show wpAny (model X.prog X.w) X.A (subscriptTail e (.Slice none none (some (.UnaryOp .USub (.Constant (.int 1) k p1) p2)) p3) (.ref a) (.ref s4.heap.objs.size)) (EP X pins σ Q) X.xe { s4 with heap := s4.heap.push { cls := .type "slice", data := .fields #[vl, vu, vs] } }
  rcases q with ⟨hx, q⟩ | ⟨hx, q⟩
  · obtain ⟨its, r, ht, hz⟩ := I5.list hx
    have hlen := r.length
    refine tail_any (ops := [.ref a, .ref s4.heap.objs.size]) ht.isList.typeIs (PySem.slot_list_getitem.lookup) ?_ (by with_unfolding_all rfl)
    refine wpAny_getItem_list_slice ht.isList (Heap.IsSliceOf.new _ vl vu vs) pl pu ps (by decide) ?_ (by rw [List.size_toArray]; omega)
    rw [PySem.W.krv_pick]
    refine ⟨.ref _, _, I5.laid (t' := s4.toks) (o := .lst xs.reverse) (fun b ob q => Heap.get?_push_of_some _ q) (Nat.le_refl _) ?_, rfl, q _ (I5.hok.fresh (Nat.le_refl _))⟩
    exact ⟨by rw [List.length_reverse]; exact hz, _, 0, r.reverse, Heap.get?_push_size _ rfl⟩
  · obtain ⟨its, r, ht, hz⟩ := I5.tuple hx
    have hlen := r.length
    cases pl
    cases pu
    cases ps
    refine tail_any (ops := [.ref a, .ref s4.heap.objs.size]) ht.typeIs (PyProof.Rows.slot_tuple_getitem.lookup) ?_ (by with_unfolding_all rfl)
    refine getItem_tuple_rev ht (Heap.IsSliceOf.new ..) ?_ (by rw [List.size_toArray]; omega)
    refine ⟨.ref _, _, I5.laid (t' := s4.toks) (o := .tup xs.reverse) (fun b ob q => Heap.get?_push_of_some _ q) (Nat.le_refl _) ?_, rfl, q _ (I5.hok.fresh (Nat.le_refl _))⟩
    exact ⟨by rw [List.length_reverse]; exact hz, _, r.reverse, IsTup.new _ _⟩
end
end Tw

set_option Elab.async false
set_option linter.all false
set_option maxRecDepth 100000
set_option maxHeartbeats 4000000
/-! Rules by data: operators, equality, membership, builtins. -/
namespace Tw
open PySem PySem.Spec PyProof.Rows L2

/-! ### data of one kind -/
/-- f tells values of α as data; p their plain form, at most n deep; == is equality -/
structure Emb {α : Type} [DecidableEq α] (f : α → D) (p : α → PyData) (n : Nat) : Prop where
  rep : ∀ {K : PySem.W.Frag} {F H : Hp} {v : V} {a : α}, Same F H → Rep K F v (f a) → Dp K H v (p a)
  lay : ∀ a, (p a).canLay0 = true
  dep : ∀ a, (p a).depth ≤ n
  eqv : ∀ a b, PyData.eqv (p a) (p b) = decide (a = b)
theorem beq_dec {α : Type} [DecidableEq α] (a b : α) : (a == b) = decide (a = b) := by
  by_cases h : a = b <;> simp [h]
theorem Emb.int : Emb D.int PyData.int 0 where
  rep := fun _ r => by cases r; exact .int _
  lay := fun _ => rfl
  dep := fun _ => by simp [PyData.depth]
  eqv := fun a b => by simp [PyData.eqv, Bool.beq_eq_decide_eq]
section
variable {α β : Type} [DecidableEq α] [DecidableEq β] {f : α → D} {p : α → PyData} {g : β → D} {q : β → PyData} {n m : Nat}
theorem Emb.depAll (E : Emb f p n) : ∀ as : List α, PyData.depthAll (as.map p) ≤ n
  | [] => by simp [PyData.depthAll]
  | a :: as => by
    simp only [List.map_cons, PyData.depthAll]
    exact Nat.max_le.mpr ⟨E.dep a, E.depAll as⟩
theorem Emb.layAll (E : Emb f p n) : ∀ as : List α, PyData.canLayAll0 (as.map p) = true
  | [] => rfl
  | a :: as => by simp only [List.map_cons, PyData.canLayAll0, E.lay a, E.layAll as, Bool.and_self]
theorem Emb.eqvAll (E : Emb f p n) : ∀ as bs : List α, PyData.eqvAll (as.map p) (bs.map p) = decide (as = bs)
  | [], [] => by simp [PyData.eqvAll]
  | [], b :: bs => by simp [PyData.eqvAll]
  | a :: as, [] => by simp [PyData.eqvAll]
  | a :: as, b :: bs => by
    simp only [List.map_cons, PyData.eqvAll, E.eqv a b, E.eqvAll as bs]
    by_cases h1 : a = b <;> by_cases h2 : as = bs <;> simp [h1, h2]
theorem Emb.repAll (E : Emb f p n) {K : PySem.W.Frag} {F H : Hp} (s : Same F H) : ∀ {vs : List V} {as : List α}, RepL K F vs (as.map f) → DpAll K H vs (as.map p)
  | vs, [], r => by rw [r.unnil]; exact .nil
  | vs, a :: as, r => by
    obtain ⟨v, r', rfl, h1, h2⟩ := RepL.uncons (d := f a) (ds := as.map f) r
    exact .cons (E.rep s h1) (E.repAll s h2)
theorem Emb.pair (E : Emb f p n) (G : Emb g q m) : Emb (fun ab : α × β => .tup [f ab.1, g ab.2]) (fun ab => .tuple [p ab.1, q ab.2]) (max n m + 1) where
  rep := fun s r => by
    cases r with
    | tup h hl hr =>
      have r : RepL _ _ _ _ := ⟨hl, hr⟩
      obtain ⟨v, r', rfl, h1, h2⟩ := r.uncons
      obtain ⟨w, r'', rfl, h3, h4⟩ := h2.uncons
      have := h4.unnil
      subst this
      exact .tup (same_t s h) (.cons (E.rep s h1) (.cons (G.rep s h3) .nil))
  lay := fun ab => by simp [PyData.canLay0, PyData.canLayAll0, E.lay, G.lay]
  dep := fun ab => by
    simp only [PyData.depth, PyData.depthAll]
    have h1 := E.dep ab.1
    have h2 := G.dep ab.2
    omega
  eqv := fun a b => by
    obtain ⟨a1, a2⟩ := a
    obtain ⟨b1, b2⟩ := b
    simp only [PyData.eqv, PyData.eqvAll, E.eqv, G.eqv]
    by_cases h1 : a1 = b1 <;> by_cases h2 : a2 = b2 <;> simp [h1, h2]
theorem Emb.lst (E : Emb f p n) : Emb (fun as : List α => .lst (as.map f)) (fun as => .list (as.map p)) (n + 1) where
  rep := fun s r => by
    cases r with
    | lst h hl hr => exact .lst (SqL.of (s _ _ h)) (E.repAll s ⟨hl, hr⟩)
  lay := fun as => E.layAll as
  dep := fun as => by simp only [PyData.depth]; have := E.depAll as; omega
  eqv := fun a b => by simp only [PyData.eqv, E.eqvAll]
theorem Emb.tup (E : Emb f p n) : Emb (fun as : List α => .tup (as.map f)) (fun as => .tuple (as.map p)) (n + 1) where
  rep := fun s r => by
    cases r with
    | tup h hl hr => exact .tup (same_t s h) (E.repAll s ⟨hl, hr⟩)
  lay := fun as => E.layAll as
  dep := fun as => by simp only [PyData.depth]; have := E.depAll as; omega
  eqv := fun a b => by simp only [PyData.eqv, E.eqvAll]
theorem Emb.shaped (E : Emb f p n) (hn : n ≤ 64) (a : α) : SeqAt.shaped (p a) = true := by
  unfold SeqAt.shaped
  rw [E.lay a, Bool.true_and]
  exact decide_eq_true (Nat.le_trans (E.dep a) hn)
theorem Emb.anyq (E : Emb f p n) (a : α) : ∀ as : List α, ((as.map p).any fun z => PyData.eqv z (p a)) = decide (a ∈ as)
  | [] => by simp
  | b :: as => by
    rw [List.map_cons, List.any_cons, E.anyq a as, E.eqv b a]
    by_cases h1 : b = a
    · subst h1; simp
    · by_cases h2 : a ∈ as <;> simp [h1, h2, Ne.symm h1]
theorem Emb.countq (E : Emb f p n) (a : α) : ∀ as : List α, (as.map p).countP (fun z => PyData.eqv z (p a)) = as.count a
  | [] => rfl
  | b :: as => by
    rw [List.map_cons, List.countP_cons, List.count_cons, E.countq a as, E.eqv b a]
    by_cases h1 : b = a <;> simp [h1]
end

section
variable {K : PySem.W.Frag} {S S' S1 : Store} {Γ Γ' : Env} {Φ : D → Store → Prop} {ta tb tc te to : TE} {x y z d : D} {σ : L2.St}
theorem rw_eqD {α : Type} [DecidableEq α] {f : α → D} {p : α → PyData} {n : Nat} (E : Emb f p n) {a b : α} (hn : n ≤ 64) (k : Φ (.bl (decide (a = b))) S) : R2W K (rEqD K) (f a) (f b) S Φ := fun F H vx vy Q hs rx ry hq =>
  ⟨p a, p b, E.rep hs.ext rx, E.rep hs.ext ry, E.shaped hn a, E.shaped hn b, by rw [E.eqv]; exact hq F H _ _ S (Post.refl hs) (.bl _) k⟩
theorem rw_neD {α : Type} [DecidableEq α] {f : α → D} {p : α → PyData} {n : Nat} (E : Emb f p n) {a b : α} (hn : n ≤ 64) (k : Φ (.bl (!decide (a = b))) S) : R2W K (rNeD K) (f a) (f b) S Φ := fun F H vx vy Q hs rx ry hq =>
  ⟨p a, p b, E.rep hs.ext rx, E.rep hs.ext ry, E.shaped hn a, E.shaped hn b, by rw [E.eqv]; exact hq F H _ _ S (Post.refl hs) (.bl _) k⟩
theorem rw_notInD {α : Type} [DecidableEq α] {f : α → D} {p : α → PyData} {n : Nat} (E : Emb f p n) {a : α} {as : List α} (hn : n ≤ 63) (k : Φ (.bl (!decide (a ∈ as))) S) : R2W K (rNotInD K) (f a) (.lst (as.map f)) S Φ := fun F H vx vy Q hs rx ry hq =>
  ⟨p a, as.map p, E.rep hs.ext rx, E.lst.rep hs.ext ry, E.shaped (by omega) a, E.lst.shaped (by omega) as, by rw [E.anyq]; exact hq F H _ _ S (Post.refl hs) (.bl _) k⟩
theorem rw_inD {α : Type} [DecidableEq α] {f : α → D} {p : α → PyData} {n : Nat} (E : Emb f p n) {a : α} {as : List α} (hn : n ≤ 63) (k : Φ (.bl (decide (a ∈ as))) S) : R2W K (rInD K) (f a) (.lst (as.map f)) S Φ := fun F H vx vy Q hs rx ry hq =>
  ⟨p a, as.map p, E.rep hs.ext rx, E.lst.rep hs.ext ry, E.shaped (by omega) a, E.lst.shaped (by omega) as, by rw [E.anyq]; exact hq F H _ _ S (Post.refl hs) (.bl _) k⟩
/-- l.count(x), x data -/
def rCntD (K : PySem.W.Frag) : V → List V → Hp → VK → Prop := fun x xs H Q => ∃ (p : Addr) (y : V) (d : PyData) (ds : List PyData), x = .ref p ∧ xs = [y] ∧ Dp K H (V.ref p) (.list ds) ∧ Dp K H y d ∧ SeqAt.shaped (.list ds) = true ∧ SeqAt.shaped d = true ∧ Q (.int (ds.countP (fun z => PyData.eqv z d) : Nat)) H
theorem mt_countD {X : Cx} (hu : X.A.units + 65 < cLine) : MtR X "list.count" (rCntD X.K) := by
  intro pins s σ H x xs v us Q I rx rxs h
  obtain ⟨a, y, d, ds, rfl, rfl, hl, hy, sl, sd, q⟩ := h
  cases rx
  obtain ⟨u, rfl, ry⟩ := rxs.one
  obtain ⟨bs, r1⟩ := Dp.reads I d y u hy ry
  have hxs : PyData.canLayAll0 ds = true := SeqAt.canLay_of_shaped sl
  have hroom : X.A.units + 1 + min (PyData.depthAll ds) d.depth < cLine := room_in_shaped sd hu
  cases hl with
  | lst hs ha =>
    obtain ⟨its, rv, ⟨⟨cls, dd, data, sls⟩, n, ho, hc, hdn, hdt⟩, hlen⟩ := I.list hs
    simp only at hc hdt
    subst hc hdt
    obtain ⟨as, h4⟩ := Dp.readsAll I ds _ its ha rv
    have hmap : its.map (SeqAt.readOf s.heap) = ds := SeqAt.readsAll_map ds its as hxs h4
    refine call_meets PySem.F.slot_list_count ⟨_, ho, rfl⟩ PySem.F.entry_list_count (PySem.F.args_list_count_2 _ _)
      (SeqAt.list_countAt a its.toArray n dd sls u (fun u => PyData.eqv (SeqAt.readOf s.heap u) d)) ⟨ho, SeqAt.items_eqAt (vs := its.toArray) (show ReadsAll s.heap its.toArray.toList ds as from h4) r1 hxs (SeqAt.canLay_of_shaped sd) hroom, ?_⟩
    refine ⟨.int (ds.countP (fun z => PyData.eqv z d) : Nat), H, I.tok _, ⟨s.toks, ?_⟩, q⟩
    rw [← hmap, List.countP_map]
    rfl
/-- e.m(..) of a list's method that changes nothing -/
theorem w_bmL {r : V → List V → Hp → VK → Prop} {t : TA} (h : WE K to S Γ fun o S1 => ∃ ds, LstOf S1 o ds ∧ WA K t S1 Γ fun xs S2 => RMW K r o xs S2 Φ) : WE K (tBM K "list" r to t) S Γ Φ := fun F H σ Q hs hg hq =>
  h F H σ _ hs hg fun F1 H1 vx x S1 p1 r1 ⟨ds, hl, h1⟩ => by
    obtain ⟨a, ws, rfl, rl, ha⟩ := hl.get p1.sat r1
    refine ⟨.inl ⟨rfl, _, SqL.of ha⟩, h1 F1 H1 σ _ p1.sat (hg.mono p1.same) fun F2 H2 vs xs S2 p2 r2 h2 => ?_⟩
    exact h2 F2 H2 (.ref a) vs Q p2.sat (r1.mono p2.same) r2 fun F3 H3 v d S3 p3 r3 f => hq F3 H3 v d S3 ((p1.trans p2).trans p3) r3 f
theorem rm_countD {α : Type} [DecidableEq α] {f : α → D} {p : α → PyData} {n : Nat} (E : Emb f p n) {a : α} {as : List α} (hn : n ≤ 63) (k : Φ (.int (as.count a : Nat)) S) : RMW K (rCntD K) (.lst (as.map f)) [f a] S Φ := fun F H vx vs Q hs rx rl hq => by
  obtain ⟨vy, r, rfl, ry, r2⟩ := rl.uncons
  rw [r2.unnil]
  have hx := E.lst.rep hs.ext rx
  cases rx with
  | lst h hl hr => exact ⟨_, vy, p a, as.map p, rfl, rfl, hx, E.rep hs.ext ry, E.lst.shaped (by omega) as, E.shaped (by omega) a, by rw [E.countq]; exact hq F H _ _ S (Post.refl hs) (.int _) k⟩
def rInsL : V → List V → Hp → VK → Prop := fun x vs H Q => ∃ (l : Addr) (xs : List V) (i : Int) (y : V), x = .ref l ∧ vs = [.int i, y] ∧ H l = some (.lst xs) ∧ xs.length < sizeLine ∧ 0 ≤ i ∧ i < 2 ^ 63 ∧
    Q .non (upd H l (.lst (xs.take i.toNat ++ [y] ++ xs.drop i.toNat)))
theorem mt_insertQ {X : Cx} : MtR X "list.insert" rInsL := mt_insert
theorem w_insert {ti tx : TE} (h : WE K to S Γ fun o S1 => ∃ p ds0, o = .ref p ∧ S1 p = some (.lst ds0) ∧ WE K ti S1 Γ fun i S2 => WE K tx S2 Γ fun x S3 => ∃ ds j, i = .int j ∧ 0 ≤ j ∧ j ≤ 1000000 ∧ S3 p = some (.lst ds) ∧ ds.length < 1000000 ∧ Φ .non (stU S3 p (.lst (ds.take j.toNat ++ [x] ++ ds.drop j.toNat)))) : WE K (tBM K "list" rInsL to (tCons ti (tCons tx tNil))) S Γ Φ := fun F H σ Q hs hg hq =>
  h F H σ _ hs hg fun F1 H1 vx x S1 p1 r1 ⟨p, ds0, e, h0, h1⟩ => by
    subst e
    cases r1
    obtain ⟨ws, hw, _⟩ := p1.sat.cell _ _ h0
    refine ⟨.inl ⟨rfl, _, SqL.of hw⟩, h1 F1 H1 σ _ p1.sat (hg.mono p1.same) fun F2 H2 vi i S2 p2 r2 h2 => h2 F2 H2 σ _ p2.sat ((hg.mono p1.same).mono p2.same) fun F3 H3 vy y S3 p3 r3 ⟨ds, j, e, hj, hj', h3, hl, f⟩ => ?_⟩
    subst e
    cases r2
    obtain ⟨vs, hv, rv⟩ := p3.sat.cell _ _ h3
    refine ⟨p, vs, j, vy, rfl, rfl, hv, lnl (by rw [rv.1]; omega), hj, by omega, ?_⟩
    exact hq _ _ _ _ _ (((p1.trans p2).trans p3).trans (Post.write (c := .lst (ds.take j.toNat ++ [y] ++ ds.drop j.toNat)) p3.sat h3 ⟨_, upd_same, ((rv.take _).append (.cons r3 .nil)).append (rv.drop _)⟩)) .non f

/-! ### +, * of sequences -/
theorem rw_addI {i j : Int} (k : Φ (.int (i + j)) S) : R2W K (rAddU K) (.int i) (.int j) S Φ := rw_1 (rw_I0 k)
theorem rw_addL {ds es : List D} (hx : LstOf S x ds) (hy : LstOf S y es) (hl : ds.length + es.length ≤ 1000000) (k : Φ (.lst (ds ++ es)) S) : R2W K (rAddU K) x y S Φ := rw_2 (rw_1 fun F H vx vy Q hs rx ry hq => by
  obtain ⟨a, vs, rfl, r1, h1⟩ := hx.get hs rx
  obtain ⟨b, ws, rfl, r2, h2⟩ := hy.get hs ry
  refine ⟨a, b, vs, ws, rfl, rfl, h1, h2, ln (by rw [r1.1, r2.1]; exact hl), fun p hp => ?_⟩
  have r := r1.append r2
  exact hq _ _ (.ref p) (.lst (ds ++ es)) S (Post.newF hs hp) (.lst upd_same r.1 fun i v d e1 e2 => (r.2 i v d e1 e2).mono (same_upd (hs.ext.free hp))) k)
theorem rw_addT {ds es : List D} (hl : ds.length + es.length ≤ 1000000) (k : Φ (.tup (ds ++ es)) S) : R2W K (rAddU K) (.tup ds) (.tup es) S Φ := rw_2 (rw_2 fun F H vx vy Q hs rx ry hq => by
  have ox := rx
  have oy := ry
  cases rx with
  | tup h1 hl1 hr1 =>
    cases ry with
    | tup h2 hl2 hr2 =>
      rename_i a vs b ws
      have r1 : RepL K F vs ds := ⟨hl1, hr1⟩
      have r2 : RepL K F ws es := ⟨hl2, hr2⟩
      refine ⟨a, b, vs, ws, rfl, rfl, same_t hs.ext h1, same_t hs.ext h2, ln (by rw [hl1, hl2]; exact hl), fun e => ?_, fun _ e => ?_, fun _ _ p hp => ?_⟩
      · have : ds = [] := by subst e; exact List.length_eq_zero_iff.mp hl1.symm
        subst this
        exact hq F H _ _ S (Post.refl hs) oy k
      · have : es = [] := by subst e; exact List.length_eq_zero_iff.mp hl2.symm
        subst this
        rw [List.append_nil] at k
        exact hq F H _ _ S (Post.refl hs) ox k
      · have r := r1.append r2
        exact hq _ _ (.ref p) (.tup (ds ++ es)) S (Post.newF hs hp) (.tup (SqT.of upd_same) r.1 fun i v d e1 e2 => (r.2 i v d e1 e2).mono (same_upd (hs.ext.free hp))) k)
theorem rw_mulI {i j : Int} (hc : CMul i j) (k : Φ (.int (i * j)) S) : R2W K rMulU (.int i) (.int j) S Φ := rw_1 (rw_I hc k)
theorem RepL.rep {F : Hp} {v : V} {d : D} (r : Rep K F v d) : ∀ n, RepL K F (List.replicate n v) (List.replicate n d)
  | 0 => .nil
  | n + 1 => by rw [List.replicate_succ, List.replicate_succ]; exact .cons r (RepL.rep r n)
/-- [c] * n -/
theorem rw_mulL {n : Int} (h0 : -1000000 ≤ n) (h1 : n ≤ 1000000) (k : Φ (.lst (List.replicate n.toNat d)) S) : R2W K rMulU (.lst [d]) (.int n) S Φ := rw_2 fun F H vx vy Q hs rx ry hq => by
  cases ry
  cases rx with
  | lst h hl hr =>
    have r : RepL K F _ [d] := ⟨hl, hr⟩
    obtain ⟨v, r', rfl, hv, hn⟩ := r.uncons
    have := hn.unnil
    subst this
    refine ⟨_, n, _, rfl, rfl, hs.ext _ _ h, by omega, by omega, ln (by simp; omega), fun p hp => ?_⟩
    have e : (List.replicate n.toNat [v]).flatten = List.replicate n.toNat v := by
      induction n.toNat with
      | zero => rfl
      | succ m ih => rw [List.replicate_succ, List.replicate_succ, List.flatten_cons, ih]; rfl
    rw [e]
    have r := RepL.rep hv n.toNat
    exact hq _ _ (.ref p) (.lst (List.replicate n.toNat d)) S (Post.newF hs hp) (.lst upd_same r.1 fun i v d e1 e2 => (r.2 i v d e1 e2).mono (same_upd (hs.ext.free hp))) k
/-- .. a list that will change -/
theorem w_mulLM {n : Int} (h : WE K ta S Γ fun x S1 => x = .lst [d] ∧ WE K tb S1 Γ fun y S2 => ∃ n : Int, y = .int n ∧ -1000000 ≤ n ∧ n ≤ 1000000 ∧ ∀ p, S2 p = none → Φ (.ref p) (stU S2 p (.lst (List.replicate n.toNat d)))) : WE K (tOp rMulU ta tb) S Γ Φ := fun F H σ Q hs hg hq =>
  h F H σ _ hs hg fun F1 H1 vx x S1 p1 r1 ⟨e, h1⟩ => h1 F1 H1 σ _ p1.sat (hg.mono p1.same) fun F2 H2 vy y S2 p2 r2 ⟨n, e2, h0, h1, f⟩ => by
    subst e e2
    cases r2
    have rx := r1.mono p2.same
    cases rx with
    | lst h hl hr =>
      have r : RepL K F2 _ [d] := ⟨hl, hr⟩
      obtain ⟨v, r', rfl, hv, hn⟩ := r.uncons
      have := hn.unnil
      subst this
      refine .inr ⟨_, n, _, rfl, rfl, p2.sat.ext _ _ h, by omega, by omega, ln (by simp; omega), fun p hp => ?_⟩
      have e : (List.replicate n.toNat [v]).flatten = List.replicate n.toNat v := by
        induction n.toNat with
        | zero => rfl
        | succ m ih => rw [List.replicate_succ, List.replicate_succ, List.flatten_cons, ih]; rfl
      rw [e]
      exact hq _ _ (.ref p) (.ref p) _ ((p1.trans p2).trans (Post.newS (c := .lst (List.replicate n.toNat d)) p2.sat hp ⟨_, upd_same, RepL.rep hv n.toNat⟩)) (.ref p) (f p (p2.sat.no hp))

/-! ### is, in, sum, reverse -/
theorem rw_isB {b : Bool} {c : Bool} (hb : ∀ F v, Rep K F v x → decide (v = .bl b) = c) (k : Φ (.bl c) S) : R2W K rIsBl x (.bl b) S Φ := fun F H vx vy Q hs rx ry hq => by
  cases ry
  exact ⟨b, rfl, by rw [hb F vx rx]; exact hq F H _ _ S (Post.refl hs) (.bl _) k⟩
theorem rw_isN {c : Bool} (hb : ∀ F v, Rep K F v x → decide (v = .non) = c) (k : Φ (.bl c) S) : R2W K rIsNo x .non S Φ := fun F H vx vy Q hs rx ry hq => by
  cases ry
  exact ⟨rfl, by rw [hb F vx rx]; exact hq F H _ _ S (Post.refl hs) (.bl _) k⟩
theorem inV_int {i : Int} : ∀ ns : List Int, inV (.int i) (ns.map V.int) = decide (i ∈ ns)
  | [] => by simp [inV]
  | n :: ns => by
    have ih := inV_int (i := i) ns
    unfold inV at ih ⊢
    rw [List.map_cons, List.any_cons, ih]
    have e : eqV (.int n) (.int i) = decide (n = i) := by simp [eqV, Bool.beq_eq_decide_eq]
    rw [e]
    by_cases h1 : n = i
    · subst h1; simp
    · by_cases h2 : i ∈ ns <;> simp [h1, h2, Ne.symm h1]
theorem inV_str {i : Str} : ∀ ns : List Str, inV (.str i) (ns.map V.str) = decide (i ∈ ns)
  | [] => by simp [inV]
  | n :: ns => by
    have ih := inV_str (i := i) ns
    unfold inV at ih ⊢
    rw [List.map_cons, List.any_cons, ih]
    have e : eqV (.str n) (.str i) = decide (n = i) := by simp [eqV, Bool.beq_eq_decide_eq]
    rw [e]
    by_cases h1 : n = i
    · subst h1; simp
    · by_cases h2 : i ∈ ns <;> simp [h1, h2, Ne.symm h1]
theorem RepL.strs {F : Hp} {vs : List V} {ns : List Str} (h : RepL K F vs (ns.map D.str)) : vs = ns.map V.str := by
  induction ns generalizing vs with
  | nil => exact h.unnil
  | cons n r ih =>
    obtain ⟨v, r', rfl, h1, h2⟩ := RepL.uncons (d := D.str n) (ds := r.map D.str) h
    cases h1
    rw [ih h2]
    rfl
theorem flat_ints : ∀ ns : List Int, (ns.map V.int).all flatV = true
  | [] => rfl
  | n :: ns => by rw [List.map_cons, List.all_cons, flat_ints ns]; rfl
theorem flat_strs : ∀ ns : List Str, (ns.map V.str).all flatV = true
  | [] => rfl
  | n :: ns => by rw [List.map_cons, List.all_cons, flat_strs ns]; rfl
theorem rw_notInI {i : Int} {ns : List Int} (hy : SeqOf S y (ns.map .int)) (k : Φ (.bl (!decide (i ∈ ns))) S) : R2W K (rNotInU K) (.int i) y S Φ := rw_1 fun F H vx vy Q hs rx ry hq => by
  cases rx
  obtain ⟨a, vs, rfl, rl, h⟩ := hy.get hs ry
  have e := rl.ints
  subst e
  refine ⟨a, _, rfl, h, rfl, flat_ints ns, ?_⟩
  rw [if_pos rfl, inV_int]
  exact hq F H _ _ S (Post.refl hs) (.bl _) k
theorem rw_notInS {i : Str} {ns : List Str} (hy : SeqOf S y (ns.map .str)) (k : Φ (.bl (!decide (i ∈ ns))) S) : R2W K (rNotInU K) (.str i) y S Φ := rw_1 fun F H vx vy Q hs rx ry hq => by
  cases rx
  obtain ⟨a, vs, rfl, rl, h⟩ := hy.get hs ry
  have e := rl.strs
  subst e
  refine ⟨a, _, rfl, h, rfl, flat_strs ns, ?_⟩
  rw [if_pos rfl, inV_str]
  exact hq F H _ _ S (Post.refl hs) (.bl _) k
theorem rw_sum {ns : List Int} (hx : SeqOf S x (ns.map .int)) (k : Φ (.int ns.sum) S) : RLW K (rSumU K) [x] S Φ := fun F H vs Q hs rl hq => by
  obtain ⟨vx, r, rfl, r1, r2⟩ := rl.uncons
  rw [r2.unnil]
  obtain ⟨a, ws, rfl, q, h⟩ := hx.get hs r1
  have e := q.ints
  subst e
  exact ⟨a, ns, rfl, h, hq F H _ _ S (Post.refl hs) (.int _) k⟩
theorem w_revL (h : WE K te S Γ fun x S1 => ∃ ds, x = .lst ds ∧ Φ (.lst ds.reverse) S1) : WE K (tRevU K te) S Γ Φ := fun F H σ Q hs hg hq =>
  h F H σ _ hs hg fun F1 H1 v x S1 p1 r1 ⟨ds, e, f⟩ => by
    subst e
    cases r1 with
    | lst h hl hr =>
      have r := (RepL.reverse ⟨hl, hr⟩ : RepL K F1 _ _)
      exact ⟨_, _, rfl, .inl ⟨SqL.of (p1.sat.ext _ _ h), fun p hp => hq _ _ (.ref p) (.lst ds.reverse) S1 (p1.trans (Post.newF p1.sat hp)) (.lst upd_same r.1 fun i v d e1 e2 => (r.2 i v d e1 e2).mono (same_upd (p1.sat.ext.free hp))) f⟩⟩
theorem w_revT (h : WE K te S Γ fun x S1 => ∃ ds, x = .tup ds ∧ Φ (.tup ds.reverse) S1) : WE K (tRevU K te) S Γ Φ := fun F H σ Q hs hg hq =>
  h F H σ _ hs hg fun F1 H1 v x S1 p1 r1 ⟨ds, e, f⟩ => by
    subst e
    cases r1 with
    | tup h hl hr =>
      have r := (RepL.reverse ⟨hl, hr⟩ : RepL K F1 _ _)
      exact ⟨_, _, rfl, .inr ⟨same_t p1.sat.ext h, fun p hp => hq _ _ (.ref p) (.tup ds.reverse) S1 (p1.trans (Post.newF p1.sat hp)) (.tup (SqT.of upd_same) r.1 fun i v d e1 e2 => (r.2 i v d e1 e2).mono (same_upd (p1.sat.ext.free hp))) f⟩⟩
/-- xs[i] op= e, a list of the store -/
theorem ws_augS {f : Int → Int → Int} {Ψ : EndsD} {ti : TE} (h : WE K to S Γ fun o S1 => WE K ti S1 Γ fun i S2 => ∃ p ds0 j a, o = .ref p ∧ i = .int j ∧ 0 ≤ j ∧ S2 p = some (.lst ds0) ∧ ds0[j.toNat]? = some (.int a) ∧
      WE K te S2 Γ fun y S3 => ∃ b ds, y = .int b ∧ S3 p = some (.lst ds) ∧ j.toNat < ds.length ∧ Ψ.nx (stU S3 p (.lst (ds.set j.toNat (.int (f a b))))) Γ) :
    WS K (tAugS to ti te (rGetL K) (ipI f) rSetL) S Γ Ψ := fun F H σ D0 hs hg q1 q2 q3 q4 =>
  h F H σ _ hs hg fun F1 H1 vo o S1 p1 r1 h1 => h1 F1 H1 σ _ p1.sat (hg.mono p1.same) fun F2 H2 vi i S2 p2 r2 ⟨p, ds0, j, a, e1, e2, hj, hp, ha, h2⟩ => by
    subst e1 e2
    cases r1; cases r2
    obtain ⟨vs, hv, rv⟩ := p2.sat.cell _ _ hp
    obtain ⟨v, ev, rvv⟩ := rv.get ha
    cases rvv
    refine ⟨p, vs, j, _, rfl, rfl, hj, SqL.of hv, ev, h2 F2 H2 σ _ p2.sat ((hg.mono p1.same).mono p2.same) fun F3 H3 vy y S3 p3 r3 ⟨b, ds, e3, hp3, hl, k⟩ => ?_⟩
    subst e3
    cases r3
    obtain ⟨ws, hw, rw'⟩ := p3.sat.cell _ _ hp3
    refine ⟨a, b, rfl, rfl, p, ws, j, j.toNat, rfl, rfl, hw, ?_, ?_⟩
    · rw [rw'.1]
      exact ix_nat hj (by omega)
    · exact q1 _ _ σ _ Γ (((p1.trans p2).trans p3).trans (Post.write (c := .lst (ds.set j.toNat (.int (f a b)))) p3.sat hp3 ⟨_, upd_same, rw'.set (.int _)⟩)) (((hg.mono p1.same).mono p2.same).mono p3.same) k
end
end Tw

set_option Elab.async false
set_option linter.all false
set_option maxRecDepth 100000
set_option maxHeartbeats 4000000
/-! Facts of the text as Bools; isinstance, constants of classes, bool of a tuple. -/
namespace Tw
open PySem PySem.Spec PyProof.Rows L2

abbrev FxB := PySem.W.Frag → Bool
def fxSelf (x : Str) : FxB := fun K => PySem.W.selfFirst K (He.ga K x)
def fxNe (x : Str) : FxB := fun K => He.eqO (PySem.W.findIn K (.ref (He.ga K x)) "__ne__") (some (some (.builtin "object.__ne__"))) && decide (PySem.W.mroIn K (He.ga K x) (.type "object") = some true)
def fxIns (x : Str) : FxB := fun K => (He.Fa.cls x).ok K && (He.eqO (PySem.W.findIn K (.ref (He.ga K x)) "__class__") (some (some (.builtin "object.__class__"))) &&
  (He.eqO (PySem.W.specialIn K (.builtin "object.__class__") "__get__") (some (some (.builtin "getset_descriptor.__get__"))) && (decide (PySem.W.takesIn K (.builtin "object.__class__") = some true) && decide (PySem.W.mroIn K (He.ga K x) (.type "object") = some true))))
def fxCon (x f : Str) (i : Int) : FxB := fun K => match PySem.W.findIn K (.ref (He.ga K x)) f with
  | some (some (.int j t)) => decide (j = i) && (He.eqO (PySem.W.specialIn K (.int j t) "__get__") (some none) && !PySem.W.copiedNames.contains f)
  | _ => false
def fxCVal (x f : Str) (i : Int) : FxB := fun K => PySem.W.readsIn K (He.ga K x) (.type "type") && (He.eqO (PySem.W.specialIn K (.ref (He.ga K x)) "__getattribute__") (some (some (.builtin "type.__getattribute__"))) &&
  match PySem.W.findCls K (.ref (He.ga K x)) (.type "type") f with
  | some (.val (.int j t)) => decide (j = i)
  | _ => false)
section
variable {K : PySem.W.Frag} {x f m : Str} {i : Int}
theorem dun_ok (c : (He.Fa.meth x m).ok K = true) : Dun K (He.ga K x) (He.ma K (He.ga K x) m) m := ⟨(He.meth_ok c).at_, (He.meth_ok c).fn⟩
theorem fxNe_ok (c : fxNe x K = true) : PySem.W.findIn K (.ref (He.ga K x)) "__ne__" = some (some (.builtin "object.__ne__")) ∧ PySem.W.mroIn K (He.ga K x) (.type "object") = some true := by
  obtain ⟨a, b⟩ := He.ba c
  exact ⟨He.eqO_ok a, of_decide_eq_true b⟩
theorem fxIns_ok (c : fxIns x K = true) : C8.InsC K (He.ga K x) := by
  obtain ⟨a, c⟩ := He.ba c
  obtain ⟨b, c⟩ := He.ba c
  obtain ⟨d, c⟩ := He.ba c
  obtain ⟨e, g⟩ := He.ba c
  exact ⟨He.cls_ok a, He.eqO_ok b, He.eqO_ok d, of_decide_eq_true e, of_decide_eq_true g, if_pos (beq_self_eq_true _)⟩
theorem fxCon_ok (c : fxCon x f i K = true) : ∃ t, Con K (He.ga K x) f (.int i) (.int i t) := by
  unfold fxCon at c
  split at c
  · rename_i j t e
    obtain ⟨a, c1⟩ := He.ba c
    obtain ⟨b, c2⟩ := He.ba c1
    have ej : j = i := of_decide_eq_true a
    subst ej
    have c3 : PySem.W.copiedNames.contains f = false := by
      cases q : PySem.W.copiedNames.contains f with
      | false => rfl
      | true => rw [q] at c2; cases c2
    exact ⟨t, e, ⟨t, rfl⟩, He.eqO_ok b, c3⟩
  · cases c
theorem fxCVal_ok (c : fxCVal x f i K = true) : ClX.CRead K (He.ga K x) (.type "type") ∧ ∃ t, ClX.CVal K (He.ga K x) (.type "type") f (.int i) (.int i t) := by
  obtain ⟨a, c⟩ := He.ba c
  obtain ⟨b, c⟩ := He.ba c
  split at c
  · rename_i j t e
    have ej : j = i := of_decide_eq_true c
    subst ej
    exact ⟨⟨a, He.eqO_ok b⟩, t, e, ⟨t, rfl⟩⟩
  · cases c
end

section
variable {K : PySem.W.Frag} {S S' S1 : Store} {Γ Γ' : Env} {Φ : D → Store → Prop} {ta tb tc te to : TE} {x y z d : D} {σ : L2.St}
/-- o.NAME, an int of the class -/
theorem w_conI {f c : Str} {i : Int} (hc : fxCon c f i K = true) (hk : Cls K (He.ga K c)) (h : WE K te S Γ fun x S1 => ∃ ns ds, InsOf S1 x (He.ga K c) ns ds ∧ f ∉ ns ∧ Φ (.int i) S1) : WE K (tCon K te f) S Γ Φ := by
  obtain ⟨t, k⟩ := fxCon_ok hc
  exact w_con (v := .int i) (fun F => .int i) (h.mono fun x S1 ⟨ns, ds, a, b, z⟩ => ⟨_, ns, ds, a, hk, k, b, z⟩)
/-- C.NAME -/
theorem w_cval {f c : Str} {i : Int} (hc : fxCVal c f i K = true) (h : WE K te S Γ fun x S1 => x = .ref (He.ga K c) ∧ Φ (.int i) S1) : WE K (ClX.tCVal K te f) S Γ Φ := fun F H σ Q hs hg hq => by
  obtain ⟨r, t, k⟩ := fxCVal_ok hc
  exact h F H σ _ hs hg fun F1 H1 v x S1 p1 r1 ⟨e, z⟩ => by
    subst e
    cases r1
    exact ⟨_, _, _, _, rfl, r, k, hq F1 H1 _ _ S1 p1 (.int i) z⟩
/-- the type of a value -/
inductive TyD (K : PySem.W.Frag) (S : Store) : D → Value → Prop
  | non : TyD K S .non (.type "NoneType")
  | bl {b : Bool} : TyD K S (.bl b) (.type "bool")
  | int {i : Int} : TyD K S (.int i) (.type "int")
  | str {i : Str} : TyD K S (.str i) (.type "str")
  | lst {ds : List D} : TyD K S (.lst ds) (.type "list")
  | tup {ds : List D} : TyD K S (.tup ds) (.type "tuple")
  | ref {p : Addr} {ds : List D} (h : S p = some (.lst ds)) : TyD K S (.ref p) (.type "list")
  | ins {x : D} {C : Addr} {ns : List Str} {ds : List D} (h : InsOf S x C ns ds) (c : C8.InsC K C) : TyD K S x (.ref C)
theorem TyD.get {F H : Hp} {v : V} {t : Value} (h : TyD K S x t) (hs : SatS K F H S) (r : Rep K F v x) : TyX K H v t := by
  cases h with
  | non => cases r; exact .base .non
  | bl => cases r; exact .base (.bl _)
  | int => cases r; exact .base (.int _)
  | str => cases r; exact .base (.str _)
  | lst => cases r with | lst h hl hr => exact .base (.lst (hs.ext _ _ h))
  | tup =>
    cases r with
    | tup h hl hr =>
      rcases h with (h | ⟨o, h⟩) | ⟨o, its, n, h1, h2, _⟩
      · exact .base (.tup (hs.ext _ _ h))
      · exact .fTuple (hs.ext _ _ h)
      · exact .kTuple h1 h2
  | ref h =>
    cases r
    obtain ⟨vs, h1, h2⟩ := hs.cell _ _ h
    exact .base (.lst h1)
  | ins h c =>
    obtain ⟨a, dx, fs, rfl, ha, _, _⟩ := h.get hs r
    exact .base (.ins ha c.cl c.ha c.hn c.htk c.hm)
inductive ClsD : D → Value → Prop
  | ty {n : String} : ClsD (.ty n) (.type n)
  | own {C : Addr} : ClsD (.ref C) (.ref C)
theorem rw_isi {t u : Value} {b : Bool} (ty : TyD K S x t) (k : ClsD y u) (e : PySem.W.kitOne K t u = some b) (q : Φ (.bl b) S) : RLW K (rIsi K) [x, y] S Φ := fun F H vs Q hs rl hq => by
  obtain ⟨vx, r, rfl, rx, r2⟩ := rl.uncons
  obtain ⟨vy, r', rfl, ry, r3⟩ := r2.uncons
  rw [r3.unnil]
  refine ⟨vx, vy, t, u, b, rfl, ?_, ty.get hs rx, e, hq F H _ _ S (Post.refl hs) (.bl b) q⟩
  cases k with
  | ty => cases ry; exact .ty _
  | own => cases ry; exact .own _
theorem kit_self (t : Value) : PySem.W.kitOne K t t = some true := if_pos (beq_self_eq_true _)
end

/-! ### bool of a tuple -/
theorem meets_bool_tup (l : Addr) (items : Array Value) (hfit : (items.size : Int) < 2 ^ 63) :
    Meets (Builtin.«bool.__new__» ⟨[.type "bool", .ref l], []⟩) (fun _ R s => IsTup s.heap l items ∧ R (.ok (.ret (.bool (!items.isEmpty)))) { s with toks := s.toks + 1 + 1 }) :=
  Meets.of_wp fun prog w A R s hs => by
    obtain ⟨hl, hs⟩ := hs
    obtain ⟨hp, g, d, tk, os⟩ := s
    have f1 := F.conv_sub_bool
    repeat (any_goals (first | assumption | (with_reducible refine truthy_tuple hl hfit ?_) | wp_step))
    all_goals first | exact ⟨_, rfl, hs⟩ | exact hs | skip
def rBoolS (K : PySem.W.Frag) : List V → Hp → VK → Prop := fun xs H Q => ∃ (a : Addr) (zs : List V), xs = [.ref a] ∧ (SqL K H a zs ∨ SqT K H a zs) ∧ Q (.bl (!zs.isEmpty)) H
theorem call_boolS {X : Cx} : CallR X (.type "bool") (rBoolS X.K) := by
  intro pins s σ H xs us Q I r h
  obtain ⟨a, zs, rfl, hq | hq, q⟩ := h
  · exact call_boolL pins s σ H _ us Q I r ⟨a, zs, rfl, hq, q⟩
  · obtain rfl := Vals.ref1 r
    obtain ⟨its, rv, pl, hz⟩ := I.tuple hq
    have hl := line63
    have hlen := rv.length
    have hfit : ((its.toArray.size : Nat) : Int) < 2 ^ 63 := by simp only [List.size_toArray]; omega
    refine PySem.call_bool_1 (meets_bool_tup a its.toArray hfit) ⟨pl, rfl, ?_⟩
    exact ⟨.bl (!zs.isEmpty), H, I.tok _, by rw [isEmpty_of rv]; rfl, q⟩
theorem rw_boolS {K : PySem.W.Frag} {S : Store} {Φ : D → Store → Prop} {x : D} {ds : List D} (hx : SeqOf S x ds) (k : Φ (.bl (!ds.isEmpty)) S) : RLW K (rBoolS K) [x] S Φ := fun F H vs Q hs rl hq => by
  obtain ⟨vx, r, rfl, r1, r2⟩ := rl.uncons
  rw [r2.unnil]
  obtain ⟨a, ws, rfl, q, h⟩ := hx.get hs r1
  exact ⟨a, ws, rfl, h, by rw [isE q.1]; exact hq F H _ _ S (Post.refl hs) (.bl _) k⟩
theorem room65 {k : Nat} {A : Around} (r : Room k A) : A.units + 65 < cLine := by have := r.un; omega
end Tw

set_option Elab.async false
set_option linter.all false
set_option maxRecDepth 100000
set_option maxHeartbeats 4000000
/-! Short names for what the printed derivations use. -/
namespace Tw
open PySem PySem.Spec PyProof.Rows L2
def rSubI : R2 := rI0 fun i j => .int (i - j)
def rDivI : R2 := rI CDiv fun i j => .int (i / j)
def rModI : R2 := rI (fun _ j => 0 < j) fun i j => .int (i % j)
def rLtI : R2 := rI0 fun i j => .bl (decide (i < j))
def rLeI : R2 := rI0 fun i j => .bl (decide (i ≤ j))
def rGtI : R2 := rI0 fun i j => .bl (decide (j < i))
def rGeI : R2 := rI0 fun i j => .bl (decide (j ≤ i))
def rNegI : V → Hp → VK → Prop := rU fun i => .int (-i)
def ipAdd : TIp := ipI fun i j => i + j
def ipSub : TIp := ipI fun i j => i - j
section
variable {X : Cx} {a : Expr} {ta : TE}
theorem op_subI : OpR X (binaryOp .Sub) rSubI := op_sub
theorem op_divI : OpR X (binaryOp .FloorDiv) rDivI := op_fdiv
theorem op_modI : OpR X (binaryOp .Mod) rModI := op_mod
theorem op_ltI : OpR X (compareOp .Lt) rLtI := op_lt
theorem op_leI : OpR X (compareOp .LtE) rLeI := op_le
theorem op_gtI : OpR X (compareOp .Gt) rGtI := op_gt
theorem op_geI : OpR X (compareOp .GtE) rGeI := op_ge
theorem un_negI : UnR X (unaryOp .USub) rNegI := un_neg
theorem ip_addI : PIp X .Add ipAdd := ip_add
theorem ip_subI : PIp X .Sub ipSub := ip_sub
theorem pt_truO {r : V → Hp → (Bool → Hp → Prop) → Prop} (h : TruR X r) (ha : PE X a ta) (he : ∀ whole, isTrue a X.env whole = (do let v ← whole; standAt a.pos; holding [v] (truthy v)) := by intro _; rfl) : PT X a (tTruO r ta) := by
  refine ⟨fun pins s σ H Q I hw => ?_⟩
  exact isTrue_plain (thn (ha.run pins s σ H _ I hw) fun v s1 ⟨x, H1, I1, r1, q1⟩ => h pins s1 σ H1 x v Q I1 r1 q1) (he _)
end
section
variable {K : PySem.W.Frag} {S : Store} {Φ : D → Store → Prop}
theorem rw_subI {i j : Int} (k : Φ (.int (i - j)) S) : R2W K rSubI (.int i) (.int j) S Φ := rw_I0 k
theorem rw_divI {i j : Int} (h : 0 < j) (h' : j < 1073741824) (k : Φ (.int (i / j)) S) : R2W K rDivI (.int i) (.int j) S Φ := rw_I ⟨h, h'⟩ k
theorem rw_modI {i j : Int} (h : 0 < j) (k : Φ (.int (i % j)) S) : R2W K rModI (.int i) (.int j) S Φ := rw_I h k
theorem rw_ltI {i j : Int} (k : Φ (.bl (decide (i < j))) S) : R2W K rLtI (.int i) (.int j) S Φ := rw_B0 k
theorem rw_leI {i j : Int} (k : Φ (.bl (decide (i ≤ j))) S) : R2W K rLeI (.int i) (.int j) S Φ := rw_B0 k
theorem rw_gtI {i j : Int} (k : Φ (.bl (decide (j < i))) S) : R2W K rGtI (.int i) (.int j) S Φ := rw_B0 (f := fun i j => decide (j < i)) k
theorem rw_geI {i j : Int} (k : Φ (.bl (decide (j ≤ i))) S) : R2W K rGeI (.int i) (.int j) S Φ := rw_B0 (f := fun i j => decide (j ≤ i)) k
theorem rw_negI {i : Int} (k : Φ (.int (-i)) S) : R1W K rNegI (.int i) S Φ := rw_U k
theorem rw_eqUI {i j : Int} (k : Φ (.bl (decide (i = j))) S) : R2W K (rEqU K) (.int i) (.int j) S Φ := rw_1 (rw_eqI k)
theorem rw_eqUS {i j : Str} (k : Φ (.bl (decide (i = j))) S) : R2W K (rEqU K) (.str i) (.str j) S Φ := rw_1 (rw_eqS k)
theorem rw_eqUB {i j : Bool} (k : Φ (.bl (decide (i = j))) S) : R2W K (rEqU K) (.bl i) (.bl j) S Φ := rw_1 (rw_eqB k)
theorem rw_neUI {i j : Int} (k : Φ (.bl (!decide (i = j))) S) : R2W K (rNeU K) (.int i) (.int j) S Φ := rw_1 (rw_neI k)
theorem rw_neUS {i j : Str} (k : Φ (.bl (!decide (i = j))) S) : R2W K (rNeU K) (.str i) (.str j) S Φ := rw_1 (rw_neS k)
theorem rw_neUB {i j : Bool} (k : Φ (.bl (!decide (i = j))) S) : R2W K (rNeU K) (.bl i) (.bl j) S Φ := rw_1 (rw_neB k)
theorem rw_eqUD {α : Type} [DecidableEq α] {f : α → D} {p : α → PyData} {n : Nat} (E : Emb f p n) {a b : α} (hn : n ≤ 64) (k : Φ (.bl (decide (a = b))) S) : R2W K (rEqU K) (f a) (f b) S Φ := rw_2 (rw_eqD E hn k)
theorem rw_neUD {α : Type} [DecidableEq α] {f : α → D} {p : α → PyData} {n : Nat} (E : Emb f p n) {a b : α} (hn : n ≤ 64) (k : Φ (.bl (!decide (a = b))) S) : R2W K (rNeU K) (f a) (f b) S Φ := rw_2 (rw_neD E hn k)
theorem rw_notInUD {α : Type} [DecidableEq α] {f : α → D} {p : α → PyData} {n : Nat} (E : Emb f p n) {a : α} {as : List α} (hn : n ≤ 63) (k : Φ (.bl (!decide (a ∈ as))) S) : R2W K (rNotInU K) (f a) (.lst (as.map f)) S Φ := rw_2 (rw_notInD E hn k)
end

/-! ### defs with a default; defs with *args -/
/-- a def keeps its promise, the last parameters by their defaults -/
def FnDE (P : Program) (w : World) (K : PySem.W.Frag) (mg : Str → Option Value) (base : Heap) (k : Nat) (f : Addr) (ps : List Str) (dvs : List V) (sp : Sp) : Prop :=
  ∃ fd, FnOk P w K mg base CX0 k f fd ps sp ∧ (∃ ds, Vals dvs ds ∧ Binds K fd ps ds) ∧ PySem.W.keepIn K (.ref f) = true
def FnRE (P : Program) (w : World) (K : PySem.W.Frag) (mg : Str → Option Value) (base : Heap) (k : Nat) (f : Addr) (sp : Sp) : Prop := FnR P w K mg base CX0 k f sp ∧ PySem.W.keepIn K (.ref f) = true
section
variable {P : Program} {w : World} {K : PySem.W.Frag} {mg : Str → Option Value} {base : Heap} {fn : List He.DefD} {fa : List He.Fa} {xs : List (PySem.W.Frag → Bool)}
theorem Hd.okD (T : Hd fn fa xs K mg) (i : Nat) {d : He.DefD} (hi : fn[i]? = some d) {N ps : List Str} {k : Nat} {sp : Spec} (n : Nat) (hne : d.dvs K ≠ []) (hn : n + (d.dvs K).length = ps.length) (S : FnScope N ps d.scope) (len : ∀ ds S Φ, sp ds S Φ → ds.length = ps.length)
    (hb : ∀ (T : Addr) (kV doc pm : Value) (an : Option Addr) (cdv ct : Value) (us its : List Value), us.length = n → its.length = (d.dvs K).length →
      ∃ k, bindArgs (PySem.W.fnOf d.name d.qual d.params d.body d.scope (.ref T) kV doc pm an cdv ct) ⟨us, []⟩ = seqItems? (.ref T) >>= k ∧ k (some its.toArray) = pure (ps.zip (us ++ its)))
    (body : ∀ (cdv : Value) (A : Around) (outer : List PySem.Env) (s : Shared) (H : Hp) (E : XK), Room k (A.deeper (envOfC d.qual d.scope s.heap.objs.size (He.fAd K d.at_) cdv)) →
      ∃ t, PSs (cxOf CX0 P w K mg base N d.qual d.scope (He.fAd K d.at_) cdv A outer s H E).nox d.body t ∧ ∀ ds S Φ, sp ds S Φ → WS K t S (startE N ds) { nx := fun S' _ => ∃ S2, Sub S2 S' ∧ Φ .non S2, rt := Φ }) :
    FnDE P w K mg base (k + 1) (He.fAd K d.at_) ps (d.dvs K) (spOf K sp) := by
  obtain ⟨fd, F⟩ := T.defs i d hi
  have F' := F
  have bb := F.binds1 (ps := ps) n 0 hne (by simpa using hn) hb
  refine ⟨fd, F'.ok (CX := CX0) S (fun vs H Q E ⟨F0, S0, ds, Φ, _, r, h, _⟩ => by rw [r.1]; exact len _ _ _ h) (fun cdv A outer s H vs Q E hr h => ?_), bb, F'.kp⟩
  obtain ⟨t, ht, hw⟩ := body cdv A outer s H E hr
  obtain ⟨F0, S0, ds, Φ, hs, r, h, hq⟩ := h
  exact ⟨t, ht.nox, hw ds S0 Φ h F0 H _ _ hs (slots_start r) (fun F' H' σ' S' Γ' p g ⟨S2, s2, z⟩ => hq F' H' _ _ S2 (p.sub s2) .non z) (fun F' H' v d S' p r z => hq F' H' v d S' p r z) (fun _ _ _ _ _ _ _ z => z.elim) (fun _ _ _ _ _ _ _ z => z.elim)⟩
theorem Hd.okStar (T : Hd fn fa xs K mg) (i : Nat) {d : He.DefD} (hi : fn[i]? = some d) {N ps : List Str} {pv : Str} {k : Nat} {sp : Spec} (hdf : d.dfl = []) (S : FnScope N (ps ++ [pv]) d.scope)
    (hb : ∀ (kV doc pm : Value) (an : Option Addr) (cdv ct : Value) (us rest : List Value), us.length = ps.length → bindArgs (PySem.W.fnOf d.name d.qual d.params d.body d.scope .none kV doc pm an cdv ct) ⟨us ++ rest, []⟩ = (newTuple rest >>= fun t => pure (ps.zip us ++ [(pv, t)])))
    (body : ∀ (cdv : Value) (A : Around) (outer : List PySem.Env) (s : Shared) (H : Hp) (E : XK), Room k (A.deeper (envOfC d.qual d.scope s.heap.objs.size (He.fAd K d.at_) cdv)) →
      ∃ t, PSs (cxOf CX0 P w K mg base N d.qual d.scope (He.fAd K d.at_) cdv A outer s H E).nox d.body t ∧ ∀ ds S Φ, sp ds S Φ → WS K t S (startE N ds) { nx := fun S' _ => ∃ S2, Sub S2 S' ∧ Φ .non S2, rt := Φ }) :
    FnRE P w K mg base (k + 1) (He.fAd K d.at_) (spOf K fun ds S Φ => ∃ ws rest, ds = ws ++ rest ∧ ws.length = ps.length ∧ rest.length ≤ 1000000 ∧ sp (ws ++ [.tup rest]) S Φ) := by
  obtain ⟨fd, F⟩ := T.defs i d hi
  refine ⟨?_, F.kp⟩
  obtain ⟨oc, od, dV, kV, doc, pm, an, cdv, ct, osl, rfl, lk, hcd, hD, _⟩ := F.ex
  have hdV : dV = .none := by
    rcases hD with ⟨_, e⟩ | ⟨ne, _⟩
    · exact e
    · exact absurd (by unfold He.DefD.dvs; rw [hdf]; rfl) ne
  subst hdV
  have fs := StX.fn_star (CX := CX0) (sp := spOf K sp) lk hcd S StX.cxUp_none (hb kV doc pm an cdv ct) (fun A outer s H vs Q E hr h => by
    obtain ⟨t, ht, hw⟩ := body cdv A outer s H E hr
    obtain ⟨F0, S0, ds, Φ, hs, r, h, hq⟩ := h
    exact ⟨t, ht.nox, hw ds S0 Φ h F0 H _ _ hs (slots_start r) (fun F' H' σ' S' Γ' p g ⟨S2, s2, z⟩ => hq F' H' _ _ S2 (p.sub s2) .non z) (fun F' H' v d S' p r z => hq F' H' v d S' p r z) (fun _ _ _ _ _ _ _ z => z.elim) (fun _ _ _ _ _ _ _ z => z.elim)⟩)
  intro A outer s H us vs Q E hr e0 rv ⟨F0, S0, ds, Φ, hs, r, ⟨wd, rd, ed, hl, hz, h⟩, hq⟩
  subst ed
  refine fs A outer s H us vs Q E hr e0 rv ⟨vs.take wd.length, vs.drop wd.length, (List.take_append_drop _ _).symm, ?_, ?_, fun p hp => ?_⟩
  · rw [List.length_take, r.1, List.length_append]; omega
  · rw [List.length_drop, r.1, List.length_append]; exact ln (by omega)
  · have r1 := r.take wd.length
    have r2 := r.drop wd.length
    rw [List.take_left] at r1
    rw [List.drop_left] at r2
    have sm := same_upd (o := .tup (vs.drop wd.length)) (hs.ext.free hp)
    have p1 := Post.newF (o := .tup (vs.drop wd.length)) hs hp
    exact ⟨_, S0, wd ++ [.tup rd], Φ, p1.sat, (r1.mono sm).append (.cons (.tup (SqT.of upd_same) r2.1 fun i v d e1 e2 => (r2.2 i v d e1 e2).mono sm) .nil), h, fun F' H' v d S' p2 r2 f => hq F' H' v d S' (p1.trans p2) r2 f⟩
end
section
variable {X : Cx} {k : Nat} {f C : Addr} {ps : List Str} {sp : Sp} {x m : Str} {p pos apos : Pos} {e o : Expr} {es : List Expr} {ta : TE} {t : TA}
theorem pe_methDE {pl : Sem Bool} {dvs : List V} (he : PE X o ta) (c : Cls X.K C) (hm : Meth X.K C m f) (F : FnDE X.prog X.w X.K X.mg X.base k f ps dvs sp) (hr : Room k X.A)
    (ht : eval (.Call (.Attribute o m apos) [] [] pos) X.env = (do
      let ov ← eval o X.env
      standAt apos.atName
      let (f, first) ← holding [ov] (getMethod ov m pl)
      callWith pos f first (backTo pos (starEach [] X.env)) (backToKw pos (keywordEach [] X.env))) := by rfl) :
    PE X (.Call (.Attribute o m apos) [] [] pos) (tMeth C m sp dvs E0 ta tNil) := by
  obtain ⟨fd, h, ⟨ds, hd, b⟩, kp⟩ := F
  exact pe_meth0 he c hm h hr b hd pass0 ht
theorem pe_callRE (F : FnRE X.prog X.w X.K X.mg X.base k f sp) (hr : Room k X.A) (hg : Gl X x) (hm : X.mg x = some (.ref f))
    (ha : PA X (e :: es) t) (hdb : (x == ("__debug__" : Str)) = false := by decide) (he : starEach (e :: es) X.env = (false, eval e X.env) :: starEach es X.env := by rfl) (hpl : (backTo pos (starEach es X.env)).any (·.1) = false := by rfl) :
    PE X (.Call (.Name x p) (e :: es) [] pos) (tCall sp [] E0 t) := by
  obtain ⟨F, kp⟩ := F
  refine ⟨fun pins s σ H Q I h => ?_⟩
  refine wpAny_Call_Name_kw (ld_glob I hg hm ?_ hdb)
  refine PySem.W.callWith_K (h₀ := X.base) I.ok.mod.kin kp (thn (ha.run pos pins s σ H _ I h) fun us s1 ⟨vs, H1, I1, r, q⟩ => ⟨I1.kIn, ?_⟩) he hpl
  have q' : sp (vs ++ []) H1 Q E0 := q
  rw [List.append_nil] at q'
  exact wpAny_call (run_fnR F hr pass0 I1 r q')
end
end Tw

set_option Elab.async false
set_option linter.all false
set_option maxRecDepth 100000
set_option maxHeartbeats 4000000
/-! Loops with what is forgotten; small helps. -/
namespace Tw
open PySem PySem.Spec PyProof.Rows L2
/-- Γ0 knows no more than Γ -/
def Le (Γ0 Γ : Env) : Prop := Γ0.length = Γ.length ∧ ∀ (i : Nat) d, Γ0[i]? = some (some d) → Γ[i]? = some (some d)
theorem Le.rfl {Γ : Env} : Le Γ Γ := ⟨_root_.rfl, fun _ _ h => h⟩
theorem Le.nil : Le [] [] := Le.rfl
theorem Le.non {a : Option D} {Γ0 Γ : Env} (h : Le Γ0 Γ) : Le (none :: Γ0) (a :: Γ) := by
  refine ⟨by simp [h.1], fun i d e => ?_⟩
  cases i with
  | zero => simp at e
  | succ i => simp at e ⊢; exact h.2 i d e
theorem Le.som {a : Option D} {Γ0 Γ : Env} (h : Le Γ0 Γ) : Le (a :: Γ0) (a :: Γ) := by
  refine ⟨by simp [h.1], fun i d e => ?_⟩
  cases i with
  | zero => exact e
  | succ i => simp at e ⊢; exact h.2 i d e
theorem Le.trans {Γ0 Γ1 Γ2 : Env} (a : Le Γ0 Γ1) (b : Le Γ1 Γ2) : Le Γ0 Γ2 := ⟨a.1.trans b.1, fun i d e => b.2 i d (a.2 i d e)⟩
theorem Slots.le {K : PySem.W.Frag} {F : Hp} {σ : L2.St} {Γ Γ' : Env} (h : Slots K F σ Γ) (l : Le Γ' Γ) : Slots K F σ Γ' := h.weak l.1 l.2
section
variable {K : PySem.W.Frag} {S S' S1 : Store} {Γ Γ' : Env} {Ψ : EndsD} {ta tb tc te to : TE} {x y z d : D} {t u : TS}
theorem ws_le (h : WS K t S Γ { nx := fun S' Γ' => ∃ Γ4, Le Γ4 Γ' ∧ Ψ.nx S' Γ4, rt := Ψ.rt, bk := fun S' Γ' => ∃ Γ4, Le Γ4 Γ' ∧ Ψ.bk S' Γ4, ct := fun S' Γ' => ∃ Γ4, Le Γ4 Γ' ∧ Ψ.ct S' Γ4 }) : WS K t S Γ Ψ := fun F H σ D0 hs hg q1 q2 q3 q4 =>
  h F H σ D0 hs hg (fun F2 H2 σ2 S2 Γ2 p2 g2 ⟨Γ4, l, f⟩ => q1 F2 H2 σ2 S2 Γ4 p2 (g2.le l) f) q2 (fun F2 H2 σ2 S2 Γ2 p2 g2 ⟨Γ4, l, f⟩ => q3 F2 H2 σ2 S2 Γ4 p2 (g2.le l) f) (fun F2 H2 σ2 S2 Γ2 p2 g2 ⟨Γ4, l, f⟩ => q4 F2 H2 σ2 S2 Γ4 p2 (g2.le l) f)
theorem ws_pre (l : Le Γ' Γ) (h : WS K t S Γ' Ψ) : WS K t S Γ Ψ := fun F H σ D0 hs hg q1 q2 q3 q4 => h F H σ D0 hs (hg.le l) q1 q2 q3 q4
/-- for: the slots at turn i are E i, the store keeps P i -/
theorem ws_forE {wi : TI} {g : TG} (h : WI K wi S Γ fun ds S1 => ∃ (E : Nat → Env) (P : Nat → Store → Prop), Le (E 0) Γ ∧ P 0 S1 ∧
    (∀ (i : Nat) x S', ds[i]? = some x → P i S' → WG K g x S' (E i) fun S2 Γ2 => WS K t S2 Γ2 { nx := fun S3 Γ3 => Le (E (i + 1)) Γ3 ∧ P (i + 1) S3, ct := fun S3 Γ3 => Le (E (i + 1)) Γ3 ∧ P (i + 1) S3, bk := Ψ.nx, rt := Ψ.rt }) ∧ ∀ S', P ds.length S' → Ψ.nx S' (E ds.length)) : WS K (tFor wi g t) S Γ Ψ := fun F H σ D0 hs hg q1 q2 q3 q4 =>
  h F H σ _ hs hg fun F1 H1 J ds S1 p1 w ⟨E, P, l0, h0, hs1, hd⟩ => by
    refine ⟨fun i m σ' H' => m = ds.length - i ∧ i ≤ ds.length ∧ ∃ F' S', Post K F1 H1 S1 F' H' S' ∧ Slots K F' σ' (E i) ∧ P i S', ⟨_, rfl, Nat.zero_le _, F1, S1, Post.refl p1.sat, (hg.mono p1.same).le l0, h0⟩, ?_⟩
    rintro i m σ2 H2 ⟨rfl, hi, F2, S2, p2, g2, i2⟩
    by_cases hlt : i < ds.length
    · refine .inr ⟨w.go i H2 hlt (p2.same.trans p2.sat.ext), fun σ' H' => ∃ F' S', Post K F1 H1 S1 F' H' S' ∧ Slots K F' σ' (E (i + 1)) ∧ P (i + 1) S', fun σ' H' n => ⟨ds.length - (i + 1), by omega, rfl, hlt, n⟩, fun v H3 y3 => ?_⟩
      have hx : ds[i]? = some ds[i] := List.getElem?_eq_getElem hlt
      obtain ⟨F3, p3, r3⟩ := w.yld i F2 H2 S2 v H3 _ hx p2.same p2.sat y3
      refine hs1 i _ S2 hx i2 F3 H3 σ2 v _ p3.sat (g2.mono p3.same) r3 fun F4 H4 σ4 S4 Γ4 p4 g4 f4 => ?_
      have p14 := (p2.trans p3).trans p4
      exact f4 F4 H4 σ4 _ p4.sat g4 (fun F5 H5 σ5 S5 Γ5 p5 g5 ⟨l5, f5⟩ => ⟨F5, S5, p14.trans p5, g5.le l5, f5⟩) (fun F5 H5 v d S5 p5 r5 f5 => q2 F5 H5 v d S5 (p1.trans (p14.trans p5)) r5 f5)
        (fun F5 H5 σ5 S5 Γ5 p5 g5 f5 => q1 F5 H5 σ5 S5 Γ5 (p1.trans (p14.trans p5)) g5 f5) (fun F5 H5 σ5 S5 Γ5 p5 g5 ⟨l5, f5⟩ => ⟨F5, S5, p14.trans p5, g5.le l5, f5⟩)
    · have e : i = ds.length := by omega
      subst e
      exact .inl ⟨w.stop H2 (p2.same.trans p2.sat.ext), q1 F2 H2 σ2 S2 _ (p1.trans p2) g2 (hd S2 i2)⟩
/-- .. that changes nothing but the slots named none in E -/
theorem ws_forN {wi : TI} {g : TG} (E : Env) (l0 : Le E Γ) (h : WI K wi S Γ fun ds S1 =>
    (∀ (i : Nat) x, ds[i]? = some x → WG K g x S1 E fun S2 Γ2 => WS K t S2 Γ2 { nx := fun S3 Γ3 => Le E Γ3 ∧ S3 = S1, ct := fun S3 Γ3 => Le E Γ3 ∧ S3 = S1, bk := Ψ.nx, rt := Ψ.rt }) ∧ Ψ.nx S1 E) : WS K (tFor wi g t) S Γ Ψ :=
  ws_forE fun F H σ R hs hg hq => h F H σ R hs hg fun F' H' J ds S1 p w ⟨h1, h2⟩ => hq F' H' J ds S1 p w ⟨fun _ => E, fun _ S' => S' = S1, l0, rfl, fun i x S' hx e => by
    subst e
    exact h1 i x hx, fun S' e => by
    subst e
    exact h2⟩
theorem ws_whileE {c : TT} (I : Nat → Store → Env → Prop) (h0 : ∃ m Γ0, Le Γ0 Γ ∧ I m S Γ0) (h : ∀ m S' Γ', I m S' Γ' → WT K c S' Γ' fun b S1 => if b = true then
      WS K t S1 Γ' { nx := fun S2 Γ2 => ∃ m' Γ3, m' < m ∧ Le Γ3 Γ2 ∧ I m' S2 Γ3, ct := fun S2 Γ2 => ∃ m' Γ3, m' < m ∧ Le Γ3 Γ2 ∧ I m' S2 Γ3, bk := Ψ.nx, rt := Ψ.rt } else Ψ.nx S1 Γ') : WS K (tWhile c t) S Γ Ψ := by
  obtain ⟨m, Γ0, l, i0⟩ := h0
  refine ws_pre l (ws_while I ⟨m, i0⟩ fun m S' Γ' i => (h m S' Γ' i).mono fun b S1 z => ?_)
  cases b with
  | false => exact z
  | true =>
    rw [if_pos rfl] at z
    exact iteT (ws_le (z.mono (fun S2 Γ2 ⟨m', Γ3, hm, l, q⟩ => ⟨Γ3, l, m', hm, q⟩) (fun _ _ q => q) (fun S2 Γ2 q => ⟨Γ2, .rfl, q⟩) (fun S2 Γ2 ⟨m', Γ3, hm, l, q⟩ => ⟨Γ3, l, m', hm, q⟩)))
end
/-- Γ' is Γ with the list at p told of -/
inductive Fz (p : Addr) (ds : List D) : Env → Env → Prop
  | nil : Fz p ds [] []
  | som {a : Option D} {Γ' Γ : Env} (h : Fz p ds Γ' Γ) : Fz p ds (a :: Γ') (a :: Γ)
  | non {a : Option D} {Γ' Γ : Env} (h : Fz p ds Γ' Γ) : Fz p ds (none :: Γ') (a :: Γ)
  | frz {Γ' Γ : Env} (h : Fz p ds Γ' Γ) : Fz p ds (some (.lst ds) :: Γ') (some (.ref p) :: Γ)
theorem Fz.len {p : Addr} {ds : List D} {Γ' Γ : Env} (h : Fz p ds Γ' Γ) : Γ'.length = Γ.length := by
  induction h with
  | nil => rfl
  | _ => simp_all
theorem Fz.get {p : Addr} {ds : List D} {Γ' Γ : Env} (h : Fz p ds Γ' Γ) : ∀ (i : Nat) d, Γ'[i]? = some (some d) → Γ[i]? = some (some d) ∨ (Γ[i]? = some (some (.ref p)) ∧ d = .lst ds) := by
  induction h with
  | nil => intro i d e; simp at e
  | som h ih =>
    intro i d e
    cases i with
    | zero => exact .inl e
    | succ i => exact ih i d (by simpa using e)
  | non h ih =>
    intro i d e
    cases i with
    | zero => simp at e
    | succ i => exact ih i d (by simpa using e)
  | frz h ih =>
    intro i d e
    cases i with
    | zero => simp at e; exact .inr ⟨rfl, e.symm⟩
    | succ i => exact ih i d (by simpa using e)
theorem ws_fz {K : PySem.W.Frag} {S : Store} {Γ : Env} {Ψ : EndsD} {t : TS} {p : Addr} {ds : List D} {Γ' : Env} (hp : S p = some (.lst ds)) (z : Fz p ds Γ' Γ) (h : WS K t (stD S p) Γ' Ψ) : WS K t S Γ Ψ := ws_frz hp z.len z.get h
theorem Sub.delT {S S' : Store} {a : Addr} (s : Sub S S') (h : S a = Option.none) : Sub S (stD S' a) := fun b c' e => by
  rw [stD_ne (ne_st e h)]
  exact s b c' e
theorem ifD {p : Prop} [Decidable p] {A B : Prop} (h : p → A) (h' : ¬ p → B) : if decide p = true then A else B := by
  by_cases c : p
  · rw [if_pos (decide_eq_true c)]; exact h c
  · rw [if_neg (by simpa using c)]; exact h' c
theorem ifN {p : Prop} [Decidable p] {A B : Prop} (h : ¬ p → A) (h' : p → B) : if (!decide p) = true then A else B := by
  by_cases c : p
  · rw [if_neg (by simp [c])]; exact h' c
  · rw [if_pos (by simp [c])]; exact h c
theorem ifB {b : Bool} {A B : Prop} (h : b = true → A) (h' : b = false → B) : if b = true then A else B := by
  cases b
  · exact h' rfl
  · exact h rfl
theorem ifT {b : Bool} {A B : Prop} (e : b = true) (h : A) : if b = true then A else B := by rw [e]; exact h
theorem ifF {b : Bool} {A B : Prop} (e : b = false) (h : B) : if b = true then A else B := by rw [e]; exact h
abbrev seqI (n : Nat) (f : Nat → Int) : List D := (List.range n).map fun i => .int (f i)
section
variable {K : PySem.W.Frag} {S : Store} {Φ : D → Store → Prop} {x : D}
theorem rw_ixn {α : Type} {f : α → D} {xs : List α} {k : Nat} (dflt : α) (h : SeqOf S x (xs.map f)) (h1 : k < xs.length) (q : Φ (f (xs.getD k dflt)) S) : R2W K (rIxU K) x (.int (k : Int)) S Φ :=
  rw_ixm dflt h (Int.natCast_nonneg k) (by omega) q
theorem getD_range {n k : Nat} (h1 : k < n) : (List.range n).getD k 0 = k := by
  rw [List.getD_eq_getElem?_getD, List.getElem?_range h1]; rfl
theorem rw_ixr {g : Nat → Int} {n k : Nat} (h : SeqOf S x (seqI n g)) (h1 : k < n) (q : Φ (.int (g k)) S) : R2W K (rIxU K) x (.int (k : Int)) S Φ := by
  refine rw_ixn (xs := List.range n) (f := fun i => .int (g i)) 0 h (by simpa using h1) ?_
  rw [getD_range h1]
  exact q
/-- .. at an int that is a place -/
theorem rw_ixi {g : Nat → Int} {n k : Nat} {i : Int} (h : SeqOf S x (seqI n g)) (e : i = (k : Int)) (h1 : k < n) (q : Φ (.int (g k)) S) : R2W K (rIxU K) x (.int i) S Φ := by
  subst e
  exact rw_ixr h h1 q
theorem seqI_get {n i : Nat} {f : Nat → Int} {x : D} (h : (seqI n f)[i]? = some x) : i < n ∧ x = .int (f i) := by
  rw [List.getElem?_map] at h
  by_cases hi : i < n
  · rw [List.getElem?_range hi] at h
    cases h
    exact ⟨hi, rfl⟩
  · rw [List.getElem?_eq_none (by simpa using hi)] at h; cases h
theorem seqI_len {n : Nat} {f : Nat → Int} : (seqI n f).length = n := by simp
theorem map_get {α : Type} {f : α → D} {xs : List α} {i : Nat} {x : D} (h : (xs.map f)[i]? = some x) : ∃ a, xs[i]? = some a ∧ x = f a := by
  rw [List.getElem?_map] at h
  cases e : xs[i]? with
  | none => rw [e] at h; cases h
  | some a => rw [e] at h; cases h; exact ⟨a, rfl, rfl⟩
theorem seqI_set {n i : Nat} {f : Nat → Int} {v : Int} (h : i < n) : (seqI n f).set i (.int v) = seqI n (fun j => if j = i then v else f j) := by
  refine List.ext_getElem? fun j => ?_
  rw [List.getElem?_set]
  by_cases e : i = j
  · subst e
    rw [if_pos rfl, if_pos (by simpa using h), List.getElem?_map, List.getElem?_range h]
    simp
  · rw [if_neg e, List.getElem?_map, List.getElem?_map]
    by_cases hj : j < n
    · rw [List.getElem?_range hj]
      simp [Ne.symm e]
    · rw [List.getElem?_eq_none (by simpa using hj)]; rfl
theorem seqI_congr {n : Nat} {f g : Nat → Int} (h : ∀ i, i < n → f i = g i) : seqI n f = seqI n g := List.map_congr_left fun i hi => by rw [h i (List.mem_range.mp hi)]
theorem seqI_sum {n : Nat} {f : Nat → Int} : seqI n f = ((List.range n).map f).map D.int := by rw [List.map_map]; rfl
end
end Tw

set_option Elab.async false
set_option linter.all false
set_option maxRecDepth 100000
set_option maxHeartbeats 4000000
/-! super().__init__(e) of an own exception over ValueError, in a def that is walked. -/
namespace Tw
open PySem PySem.Spec PyProof.Rows L2
open PySem.W (clsIn mroIn nsIn subIn ks_superIn ks_superObj ks_loadName_global)
/-- what the written part says, so that super().__init__(..) of the def at f, of the class at C, is ValueError's -/
structure SupC (P : Program) (K : PySem.W.Frag) (f C cda cc : Addr) (me : Str) : Prop where
  fn : ∃ oc od fd osl ar, K.lookup f = some ⟨oc, od, .func fd, osl⟩ ∧ (fd.params.posonlyargs ++ fd.params.args).head? = some ar ∧ ar.arg = me
  code : ∃ ccl cdd vs ccs file tf, K.lookup cda = some ⟨ccl, cdd, .fields vs, ccs⟩ ∧ vs[2]? = some (.str file tf) ∧ ((P.main.file : Str) == file) = true
  cell : ∃ cl cld csl, K.lookup cc = some ⟨cl, cld, .cell (some (.ref C)), csl⟩
  cls : (clsIn K C).isSome = true
  sub : mroIn K C (.ref C) = some true
  top : (P.main.scope.names.lookup ("super" : Str)).isSome = false
  opq : nsIn K cStatics "thirdparty.any" = some none
  sup : ks_superIn K C C "__init__" = some (some (.builtin "ValueError.__init__"))
  vE : subIn K (.ref C) (.type "ValueError") = some true
section
variable {X : Cx} {f C cda cc : Addr} {me : Str} {pins : List (Addr × Obj)} {σ : L2.St} {H : Hp} {s : Shared} {a : Addr} {d : Option Addr}
theorem at_super_obj (T : SupC X.prog X.K f C cda cc me) (hf : X.env.func = some f) (hc : X.env.code = .ref cda) (hcl : X.env.cells.lookup ("__class__" : Str) = some cc) (hks : X.env.kindOf "super" = some .globalImplicit) (hkc : X.env.kindOf "__class__" = some .free) (hka : X.env.kindOf me = some .local)
    (hm : X.mg "super" = none) (hN : X.N[0]? = some me) (hs0 : σ[0]? = some (some (.ref a)))
    (I : Inv X pins σ H s) (e : H a = some (exo a C d)) {body : List Stmt} {p0 p1 : Pos} {attr : Str} {whole : Sem Value} {E : Value → Shared → Prop} {Q : Value → Shared → Prop} (hat : (attr == ("__class__" : Str)) = false)
    (h : ∀ so s', Inv X pins σ H s' → s'.heap.get? so = some (ks_superObj C a C) → Q (.ref so) s') :
    _root_.PySem.wpAt (model X.prog X.w) X.A (.func body X.env) (attributeBase (.Call (.Name "super" p0) [] [] p1) attr X.env whole) Q E s := by
  obtain ⟨oc, od, fd, osl, ar, h1, h2, h3⟩ := T.fn
  obtain ⟨ccl, cdd, vs, ccs, file, tf, c1, c2, c3⟩ := T.code
  obtain ⟨cl, cld, csl, l1⟩ := T.cell
  subst h3
  refine PySem.ks_wpAt_super_base hks hkc hat hf (I.kIn _ _ h1) rfl h2 hc (I.kIn _ _ c1) rfl c2 c3 T.top ?_
  obtain ⟨mb, b1, b2⟩ := I.mod.blt
  have hboot : bootBuiltins "super" = some (.type "super") := by decide +kernel
  obtain ⟨m, hns, hlook⟩ := I.loc
  obtain ⟨u, ru, lk⟩ := hlook 0 ar.arg (.ref a) hN hs0 (.inl hka)
  have ru' : u = Value.ref a := ru
  subst ru'
  have hv : m ar.arg = some (.ref a) := by
    rcases lk with ⟨_, z⟩ | ⟨z | z, _⟩
    · exact z
    · rw [hka] at z; cases z
    · rw [hka] at z; cases z
  obtain ⟨t1, ho⟩ := exo_at I.hok e
  refine ks_loadName_global I.ok.kind hks (Calls.loadGlobal_builtin (by rw [I.ok.glob]; exact I.mod.glob.keeps I.bk) hm (by rw [I.ok.blt]; exact b1.keeps I.bk) ((b2 _ (by decide)).trans hboot) ⟨rfl, ?_⟩)
  refine wpAny_loadName_free I.ok.kind hkc hcl ⟨_, I.kIn _ _ l1, rfl⟩ ?_
  refine wpAny_loadName_local I.ok.kind hka hns hv ?_
  obtain ⟨cdD, hD⟩ := Option.isSome_iff_exists.mp T.cls
  obtain ⟨oD, hD1, hD2⟩ : ∃ oD, s.heap.get? C = some oD ∧ oD.data = .cls cdD := by
    unfold PySem.W.clsIn at hD
    split at hD
    · rename_i c d cd' sl ho
      cases hD
      exact ⟨_, I.kIn _ _ ho, rfl⟩
    · cases hD
  obtain ⟨hp, g, dr, tk, os⟩ := s
  refine PySem.ks_wpAny_isType_cls hD1 hD2 ⟨rfl, ?_⟩
  refine PySem.ks_wpAny_call_super hD1 hD2 ho rfl (fun c e => by cases e) (PySem.W.looks_mroIn I.kIn T.sub) (fun h' e k => ?_)
  exact h _ _ (I.kept k) e
theorem at_super {dx : Addr} {fs : List (Str × V)} {e1 : Expr} {t : TA} {q : Hp → Prop} {body : List Stmt} {p0 p1 p2 pos pos' : Pos}
    (T : SupC X.prog X.K f C cda cc me) (O : OexC X.K C) (hf : X.env.func = some f) (hc : X.env.code = .ref cda) (hcl : X.env.cells.lookup ("__class__" : Str) = some cc) (hks : X.env.kindOf "super" = some .globalImplicit) (hkc : X.env.kindOf "__class__" = some .free) (hka : X.env.kindOf me = some .local)
    (hm : X.mg "super" = none) (hN : X.N[0]? = some me) (hs0 : σ[0]? = some (some (.ref a)))
    (I : Inv X pins σ H s) (e : H a = some (exo a C (some dx))) (ed : H dx = some (exd dx fs)) (ha : PA X [e1] t) {Q : Flow → Shared → Prop}
    (hw : t σ H fun vs H1 => vs.length ≤ 1000 ∧ H1 a = some (exo a C (some dx)) ∧ q H1) (hQ : ∀ H1 s', q H1 → Inv X pins σ H1 s' → Q .next s') (hi : interactive X.env = false)
    (hsw : swapsWith (.Call (.Attribute (.Call (.Name "super" p0) [] [] p1) "__init__" p2) [e1] [] pos) none pos'.line X.env = pure false := by rfl) {pl : Sem Bool}
    (he : eval (.Call (.Attribute (.Call (.Name "super" p0) [] [] p1) "__init__" p2) [e1] [] pos) X.env = (do
      let ov ← attributeBase (.Call (.Name "super" p0) [] [] p1) "__init__" X.env (eval (.Call (.Name "super" p0) [] [] p1) X.env)
      standAt p2.atName
      let (f, first) ← holding [ov] (getMethod ov "__init__" pl)
      callWith pos f first (backTo pos (starEach [e1] X.env)) []) := by rfl)
    (hse : starEach [e1] X.env = (false, eval e1 X.env) :: starEach [] X.env := by rfl) :
    _root_.PySem.wpAt (model X.prog X.w) X.A (.func body X.env) (exec (.Expr (.Call (.Attribute (.Call (.Name "super" p0) [] [] p1) "__init__" p2) [e1] [] pos) pos') X.env) Q X.xe s := by
  obtain ⟨nm, qn, N, bs, bm, sn, sub, ab, col, dd, k0, k1, k2, k3, k5, hC, hbm⟩ := O.cls
  refine PySem.ks_wpAt_Expr_any (PySem.ks_wpAt_MethodCall (at_super_obj T hf hc hcl hks hkc hka hm hN hs0 I e (by decide +kernel) fun so s1 I1 hso => ?_) he) hi hsw
  obtain ⟨t1, ho⟩ := exo_at I1.hok e
  obtain ⟨mA, hnsx, rel⟩ := exd_at I1.hok ed
  obtain ⟨oD, _, _, hoD, _, _⟩ := hnsx
  have J1 : PySem.W.InstAt s1.heap a { cls := .ref C, dict := some dx, data := .fields #[.ref t1, .none, .none, .none, .bool false, .none] } C (some oD) := ⟨ho, rfl, rfl, hoD⟩
  have hI : PySem.W.Looks (model X.prog X.w) s1.heap (isInstance (.ref a) (.type "ValueError")) true := J1.type.andThen (PySem.W.looks_subIn I1.kIn T.vE)
  obtain ⟨cdD, hD⟩ := Option.isSome_iff_exists.mp T.cls
  have hsup := T.sup
  unfold PySem.W.ks_superIn at hsup
  rw [hD] at hsup
  obtain ⟨hp, g, dr, tk, os⟩ := s1
  refine PySem.W.kxs_getMethod PySem.W.kxs_ValueError hso (PySem.W.looks_opaque I1.kIn T.opq) (l₀ := cdD.mro) (fun A Q E s k q => wpAny_bind ((PySem.W.looks_clsIn I1.kIn hD) A _ E s k (wpAny_pure q))) rfl I1.kIn hsup hI (PySem.W.ks_ne I1.kIn J1 hD) (by decide +kernel) ?_
  have I2 : Inv X pins σ H ⟨hp.push (PySem.W.kxs_mw "ValueError.__init__" a), g, dr, tk + 1, os⟩ := I1.kept fun b o z => Heap.get?_push_of_some _ z
  have hu : (hp.push (PySem.W.kxs_mw "ValueError.__init__" a)).get? hp.objs.size = some (PySem.W.kxs_mw "ValueError.__init__" a) := Heap.get?_push_at rfl rfl
  have I3 : Inv X (pins ++ [(hp.objs.size, PySem.W.kxs_mw "ValueError.__init__" a)]) σ H ⟨hp.push (PySem.W.kxs_mw "ValueError.__init__" a), g, dr, tk + 1, os⟩ := I2.pins_of fun p hp' => by
    rcases List.mem_append.mp hp' with z | z
    · exact I2.pin p (List.mem_append_right _ z)
    · rw [List.mem_singleton.mp z]
      refine ⟨hu, I1.hok.fresh (Nat.le_refl _), fun z => ?_, I1.nofs (Nat.le_refl _), fun v z => by cases z⟩
      have := I1.lt
      rw [← z] at this
      exact absurd this (Nat.lt_irrefl _)
  refine PySem.W.kxs_callWith (i := "ValueError.__init__") (x := a) (by rw [hse]; rfl) ?_
  rw [hse]
  refine Calls.evalArgs_plain ?_
  have hrun := ha.run pos (pins ++ [(hp.objs.size, PySem.W.kxs_mw "ValueError.__init__" a)]) _ σ H _ I3 hw
  rw [hse] at hrun
  refine thn hrun fun us s2 ⟨vs, H1, I4, r, hl, e4, hq⟩ => ?_
  have hu4 : s2.heap.get? hp.objs.size = some (PySem.W.kxs_mw "ValueError.__init__" a) := (I4.pin (hp.objs.size, PySem.W.kxs_mw "ValueError.__init__" a) (List.mem_append_right _ (List.mem_append_right _ List.mem_cons_self))).1
  refine ⟨hu4, ?_⟩
  obtain ⟨t2, ho4⟩ := exo_at I4.hok e4
  have I5 : Inv X pins σ H1 s2 := I4.unpinned
  have hz : us.length ≤ sizeLine := by
    rw [← Paired.length r, sizeLine_eq]
    omega
  obtain ⟨h2, g2, d2, tk2, os2⟩ := s2
  refine wpAny_call (codeAny_of_tree ?_)
  show wpAny _ X.A.in1 (callAny (.ref hp.objs.size) ⟨us, []⟩) _ _ _
  simp only [callAny]
  refine wpAny_bind (wpAny_load hu4 ?_)
  simp only [PySem.W.kxs_mw, show (Value.type "method-wrapper" == Value.type "method" || Value.type "method-wrapper" == Value.type "builtin_function_or_method" || Value.type "method-wrapper" == Value.type "method-wrapper") = true by decide, if_true]
  refine PySem.W.KFB.if_so (by decide) ?_
  refine wpAny_bind (PySem.W.check_bound_init F.excBase_ValueError.toExcCallFacts (I4.kIn _ _ hC) ho4 rfl ?_)
  refine wpAny_bind (wpAny_pure (wpAny_pure ?_))
  refine ⟨plainId_quiet F.excBase_ValueError.init.plain _, codeAny_builtin F.excBase_ValueError.initEntry ?_⟩
  refine PySem.W.exc_init_tree (cls := .ref C) (t0 := t2) (dv := some dx) (c2 := .none) (c3 := .none) (b4 := .bool false) ho4 hz fun h' k hx ht => ?_
  have J := I5.write (t' := tk2) (x := a) (e := a) (o := exo a C (some dx)) (by rw [e4]; exact True.intro) (.inl rfl) k ⟨_, hx⟩ (exo_ok hx)
  have eu : upd H1 a (exo a C (some dx)) = H1 := by
    funext b
    by_cases hb : b = a
    · rw [hb, upd_same, e4]
    · rw [upd_ne hb]
  rw [eu] at J
  exact hQ _ _ hq J
end
end Tw
namespace Tw
open PySem PySem.Spec PyProof.Rows L2 NdefX
theorem wp_append {M : Model} {Γ : PySem.Ctx} {env : PySem.Env} {Q : Flow → Pos → Shared → Prop} {E : Value → Pos → Shared → Prop} {b2 : List Stmt} : ∀ (b1 : List Stmt) (p : Pos) (s : Shared),
    Sem.wp M Γ (execs b1 env) (fun f p' s' => match f with | .next => Sem.wp M Γ (execs b2 env) Q E p' s' | f => Q f p' s') E p s → Sem.wp M Γ (execs (b1 ++ b2) env) Q E p s
  | [], p, s, h => by
    rw [execs_nil, Sem.wp_pure'] at h
    exact h
  | st :: b1, p, s, h => by
    rw [execs_cons, Sem.wp_bind'] at h
    rw [List.cons_append, execs_cons, Sem.wp_bind']
    refine Sem.wp_mono M Γ _ (fun f p' s' h' => ?_) (fun _ _ _ h' => h') _ _ h
    cases f with
    | next => exact wp_append b1 p' s' h'
    | ret v => exact h'
    | brk => exact h'
    | cont => exact h'
theorem at_append {M : Model} {A : Around} {c : Code} {env : PySem.Env} {Q : Flow → Shared → Prop} {E : Value → Shared → Prop} {b1 b2 : List Stmt} {s : Shared}
    (h : _root_.PySem.wpAt M A c (execs b1 env) (fun f s' => match f with | .next => _root_.PySem.wpAt M A c (execs b2 env) Q E s' | f => Q f s') E s) : _root_.PySem.wpAt M A c (execs (b1 ++ b2) env) Q E s := fun Γ p hc hΓ =>
  wp_append (Q := fun a _ s' => Q a s') (E := fun e _ s' => E e s') b1 p s (Sem.wp_mono M Γ _ (fun f p' s' h' => by
    cases f with
    | next => exact h' Γ p' hc hΓ
    | ret v => exact h'
    | brk => exact h'
    | cont => exact h') (fun _ _ _ h' => h') _ _ (h Γ p hc hΓ))
end Tw
namespace Tw
open PySem PySem.Spec PyProof.Rows L2 NdefX
section
variable {P : Program} {w : World} {K : PySem.W.Frag} {mg : Str → Option Value} {base : Heap} {CX : CXT} {k : Nat} {f C cda cc : Addr} {name qual me : Str} {params : Arguments} {scope : Scope} {dV kV doc pm ct oc : Value} {an od : Option Addr}
  {osl : Array (Option Value)} {N ps : List Str} {sp : Sp} {b1 : List Stmt} {e1 : Expr} {p0 p1 p2 pos pos' : Pos}
def supF (name qual : Str) (params : Arguments) (body : List Stmt) (scope : Scope) (cc cda : Addr) : NF := ⟨name, qual, params, body, scope, [("__class__", cc)], cda⟩
abbrev supSt (e1 : Expr) (p0 p1 p2 pos pos' : Pos) : Stmt := .Expr (.Call (.Attribute (.Call (.Name "super" p0) [] [] p1) "__init__" p2) [e1] [] pos) pos'
/-- a def of an own exception class over ValueError: what it does, then super().__init__(e1) -/
theorem fn_super (lk : K.lookup f = some ⟨oc, od, .func (PySem.W.fnX name qual params (b1 ++ [supSt e1 p0 p1 p2 pos pos']) scope [("__class__", cc)] dV kV doc pm an (.ref cda) ct), osl⟩) (hcd : PySem.W.codeIn K (.ref cda) qual = true)
    (S : NScope N ps ["__class__"] scope) (SC : SupC P K f C cda cc me) (O : OexC K C) (hme : N[0]? = some me) (hpm : ps[0]? = some me) (hks : scope.names.lookup ("super" : Str) = some .globalImplicit) (hm : mg "super" = none)
    (len : ∀ vs H Q E, sp vs H Q E → vs.length = ps.length)
    (hbody : ∀ (A : Around) (outer : List PySem.Env) (s : Shared) (H : Hp) (vs : List V) (Q : VK) (E : XK), Room k (A.deeper (envF (supF name qual params (b1 ++ [supSt e1 p0 p1 p2 pos pos']) scope cc cda) f s.heap.objs.size)) → sp vs H Q E →
      ∃ t ta, PSs (ncx CX P w K mg base N (supF name qual params (b1 ++ [supSt e1 p0 p1 p2 pos pos']) scope cc cda) f A outer s H E) b1 t ∧ PA (ncx CX P w K mg base N (supF name qual params (b1 ++ [supSt e1 p0 p1 p2 pos pos']) scope cc cda) f A outer s H E) [e1] ta ∧
        t { nx := fun σ' H' => ∃ (a dx : Addr) (fs : List (Str × V)), σ'[0]? = some (some (.ref a)) ∧ H' a = some (exo a C (some dx)) ∧ H' dx = some (exd dx fs) ∧ ta σ' H' fun us H1 => us.length ≤ 1000 ∧ H1 a = some (exo a C (some dx)) ∧ Q .non H1, rt := fun _ _ => False, bk := fun _ _ => False, ct := fun _ _ => False } (startF N vs [none]) H)
    (hsw : ∀ env : PySem.Env, swapsWith (.Call (.Attribute (.Call (.Name "super" p0) [] [] p1) "__init__" p2) [e1] [] pos) none pos'.line env = pure false)
    (hse : ∀ env : PySem.Env, starEach [e1] env = (false, eval e1 env) :: starEach [] env)
    (he : ∀ env : PySem.Env, ∃ pl : Sem Bool, eval (.Call (.Attribute (.Call (.Name "super" p0) [] [] p1) "__init__" p2) [e1] [] pos) env = (do
      let ov ← attributeBase (.Call (.Name "super" p0) [] [] p1) "__init__" env (eval (.Call (.Name "super" p0) [] [] p1) env)
      standAt p2.atName
      let (f, first) ← holding [ov] (getMethod ov "__init__" pl)
      callWith pos f first (backTo pos (starEach [e1] env)) [])) :
    FnOk P w K mg base CX (k + 1) f (PySem.W.fnX name qual params (b1 ++ [supSt e1 p0 p1 p2 pos pos']) scope [("__class__", cc)] dV kV doc pm an (.ref cda) ct) ps sp := by
  refine ⟨len, fun A outer s H args us vs Q E hr e0 hb r hsp => ?_⟩
  have hl := len _ _ _ _ hsp
  have KX : K.In s.heap := e0.mod.kin.keeps fun b o e => (e0.bs b o e).1
  have lim : s.heap.NoLimit := e0.mod.nolimit.keeps fun b o e => (e0.bs b o e).1
  obtain ⟨cl, cld, csl, hcell⟩ := SC.cell
  have cOf : ∀ (y : Str) c, ([("__class__", cc)] : List (Str × Addr)).lookup y = some c → y = "__class__" ∧ c = cc := fun y c h => by
    by_cases hy : y = "__class__"
    · subst hy
      simp [List.lookup] at h
      exact ⟨rfl, h.symm⟩
    · have : (y == ("__class__" : Str)) = false := by simpa using hy
      simp [List.lookup, this] at h
  have hbase : base.get? cc = some ⟨cl, cld, .cell (some (.ref C)), csl⟩ := e0.mod.kin _ _ hcell
  have CA : CellsAt [("__class__", cc)] ["__class__"] [none] s.heap H := {
    len := rfl
    all := fun y c h => by
      obtain ⟨_, rfl⟩ := cOf y c h
      exact ⟨(e0.bs _ _ hbase).2, some (.ref C), _, KX _ _ hcell, rfl⟩
    inj := fun x y c h1 h2 => (cOf x c h1).1.trans (cOf y c h2).1.symm
    has := fun i y h => by
      match i, h with
      | 0, h =>
        cases h
        exact ⟨cc, by simp [List.lookup], fun v h => by simp at h⟩
      | i + 1, h => simp at h }
  refine codeAny_call_function hr.depth (KX _ _ lk) rfl S.co S.gen rfl (PySem.W.codeRec_of KX hcd) (hb _ _ _ _ ?_)
  refine wpAny_newFunctionEnv S.nocell (fun ⟨n, _⟩ hy => S.par n (List.of_mem_zip hy).1) (fun h₁ hns hsb => ⟨lim.fresh _ hsb, ?_⟩) S.kind
  show codeAny _ _ (.func _ (envF (supF name qual params (b1 ++ [supSt e1 p0 p1 p2 pos pos']) scope cc cda) f s.heap.objs.size)) _ _
  refine PySem.ks_codeAny_funcAt ?_
  have kp : ∀ b o, s.heap.get? b = some o → h₁.get? b = some o := fun b o e => hsb.extBut b o (Nat.ne_of_lt (Heap.lt_size e)) (Heap.get?_push_of_some _ e)
  obtain ⟨t, ta, ht, hta, hq⟩ := hbody A outer s H vs Q E (hr.deeper _) hsp
  have I := inv_startN (CX := CX) (E := E) (F := supF name qual params (b1 ++ [supSt e1 p0 p1 p2 pos pos']) scope cc cda) (f := f) (tk := s.toks + (ps.zip us).length) S hr.hd e0 hl r CA hns kp
  refine at_append (_root_.PySem.wpAt_of_wpAny (wpAny_mono (ht.run [] _ (startF N vs [none]) H _ I hq) (fun fl s' hs => ?_) fun e s' hs => hs))
  cases fl with
  | next =>
    obtain ⟨σ', H', J, a, dx, fs, g0, ga, gd, g1⟩ := hs
    obtain ⟨pl, hpl⟩ := he (ncx CX P w K mg base N (supF name qual params (b1 ++ [supSt e1 p0 p1 p2 pos pos']) scope cc cda) f A outer s H E).env
    have hcl : (ncx CX P w K mg base N (supF name qual params (b1 ++ [supSt e1 p0 p1 p2 pos pos']) scope cc cda) f A outer s H E).env.cells.lookup ("__class__" : Str) = some cc := by
      show ([("__class__", cc)] : List (Str × Addr)).lookup ("__class__" : Str) = some cc
      simp [List.lookup]
    refine PySem.ks_wpAt_execs_cons (at_super (X := ncx CX P w K mg base N (supF name qual params (b1 ++ [supSt e1 p0 p1 p2 pos pos']) scope cc cda) f A outer s H E) SC O rfl rfl hcl hks (S.frk _ List.mem_cons_self) (S.par _ (List.mem_of_getElem? hpm)) hm hme g0 J ga gd hta g1 (fun H1 s2 hq J2 => ?_) J.quiet (hsw _) hpl (hse _))
    exact _root_.PySem.wpAt_of_wpAny (wpAny_pure ⟨.non, H1, J2.os, J2.bare, J2.base, J2.hok, rfl, hq⟩)
  | ret u => obtain ⟨_, _, _, _, _, q⟩ := hs; exact q.elim
  | brk => obtain ⟨_, _, _, q⟩ := hs; exact q.elim
  | cont => obtain ⟨_, _, _, q⟩ := hs; exact q.elim
end
end Tw

set_option Elab.async false
set_option linter.all false
set_option maxRecDepth 100000
set_option maxHeartbeats 4000000
/-! Where an exception is handled: the end of a list's walk, all(list), a list comprehension. -/
namespace TwHot
open PySem PySem.Spec PyProof.Rows HotX
section
variable {prog : Program} {w : World} {A : Around} {E : Value → Shared → Prop} {s : Shared}
theorem list_end_hot {it l x1 : Addr} {i : Nat} {items : Array Value} {Q : Option Value → Shared → Prop} (hot : HotAt A x1 s.heap) (nx : x1 ≠ it) (hit : s.heap.IsListIter it l i) (hl : s.heap.IsList l items) (hx : items[i]? = none)
    (hQ : ∀ h', (∀ b o, b ≠ it → s.heap.get? b = some o → h'.get? b = some o) → Q none { s with heap := h' }) : wpAny (model prog w) A (pyNext (.ref it)) Q E s := by
  obtain ⟨o, ho, hc, hd⟩ := id hit
  obtain ⟨ol, hol, _, nl, hdl⟩ := hl
  obtain ⟨hh, o1, vs1, h1, d1, c1⟩ := hot
  have f1 : (s.heap.update it (Obj.mapFields (·.setIfInBounds 0 .none))).get? x1 = some o1 := (Heap.get?_update_other _ _ (Ne.symm nx)).trans h1
  unfold pyNext
  refine wpAny_bind (wpAny_attempt (wpAny_callSpecial?_slot (name := Str.ofString "__next__") hit.typeIs slot_listiter_next
    (wpAny_call_entry slot_listiter_next hit.typeIs entry_listiter_next ?_ (args_listiter_next _))))
  show wpAny _ _ (field (.ref it) 0 >>= _) _ _ s
  refine wpAny_bind (wpAny_field ho hd (x := .ref l) rfl ?_)
  show wpAny _ _ (if (Value.ref l == Value.none) = true then _ else _) _ _ s
  rw [if_neg (show ¬ ((Value.ref l == Value.none) = true) from Bool.false_ne_true)]
  show wpAny _ _ (field (.ref it) 1 >>= _) _ _ s
  refine wpAny_bind (wpAny_field ho hd (x := .int i 0) rfl ?_)
  show wpAny _ _ (seqItems? (.ref l) >>= _) _ _ s
  refine wpAny_bind (wpAny_seqItems hol hdl ?_)
  simp only [Int.toNat_natCast, hx]
  refine wpAny_bind (wpAny_rule (wpAny_bind (wpAny_setField ho hd (by simp) ?_)))
  show wpAny _ _ (newExc (.type "StopIteration") [] >>= _) _ _ _
  refine wpAny_bind ?_
  simp only [newExc, newTuple]
  refine wpAny_bind (wpAny_newObj_type ?_ (by size_fits))
  refine wpAny_bind (m := firstArgMember _ _) (wpAny_of_eq (a := Value.none) (by first | rfl | (simp only [firstArgMember]; rfl)) ?_)
  refine wpAny_newObj_type ?_ (by size_fits)
  have g1 := Heap.get?_push_of_some { cls := .type "tuple", data := .seq (#[] : Array Value) } f1
  refine raiseNew_hot ⟨hh, o1, vs1, Heap.get?_push_of_some _ (Heap.get?_push_of_some _ f1), d1, c1⟩ (Nat.ne_of_lt (Heap.lt_size (Heap.get?_push_of_some _ f1))) (Heap.get?_push_size _ rfl) rfl (by first | (simp; done) | (simp; omega) | (simp only [Array.size_append]; simp; omega)) ?_
  refine wpAny_bind (wpAny_isInstance (T := "StopIteration") (b := true) ⟨_, Heap.get?_update_self _ (Heap.get?_push_size _ rfl) rfl, rfl⟩ isSubtype_stop ?_)
  refine wpAny_pure (hQ _ fun b o hb e => ?_)
  have e' := (Heap.get?_update_other s.heap (Obj.mapFields (·.setIfInBounds 0 .none)) (Ne.symm hb)).trans e
  rw [Heap.get?_update_other _ _ (Nat.ne_of_gt (Heap.lt_size (Heap.get?_push_of_some _ e')))]
  exact Heap.get?_push_of_some _ (Heap.get?_push_of_some _ e')
theorem HotAt.keep {A : Around} {x1 : Addr} {h h' : Heap} (x : HotAt A x1 h) (k : ∀ o, h.get? x1 = some o → h'.get? x1 = some o) : HotAt A x1 h' := by
  obtain ⟨hh, o1, vs1, h1, r⟩ := x
  exact ⟨hh, o1, vs1, k _ h1, r⟩
theorem walksHot (x1 I ax : Addr) (hne : ax ≠ I) (nx : x1 ≠ I) (items : Array Value) :
    Walks prog w A I [I, ax, x1] [I] items.size (fun i v => items[i]? = some v) (fun i h => h.IsListIter I ax i ∧ h.IsList ax items ∧ HotAt A x1 h) where
  sub := fun b hb => by simp at hb; simp [hb]
  frame := fun _ _ _ st hk => ⟨st.1.at fun o e => hk I (by simp) o e, st.2.1.at fun o e => hk ax (by simp) o e, HotAt.keep st.2.2 fun o e => hk x1 (by simp) o e⟩
  item := fun i s Q E hi st hQ => by
    refine wpAny_pyNext_list_item st.1 st.2.1 (x := items[i]) (by simp [hi]) fun h' hit' hs' => ?_
    exact hQ _ h' s.toks (by simp [hi]) ⟨hit', st.2.1.extBut hs'.extBut hne, HotAt.keep st.2.2 fun o e => hs'.extBut _ o nx e⟩ fun b o hb e => hs'.extBut b o (fun h => hb (by simp [h])) e
  done := fun s Q E st hQ => list_end_hot st.2.2 nx st.1 st.2.1 (by simp) fun h' he' => hQ h' s.toks fun b o hb e => he' b o (fun h => hb (by simp [h])) e
  self := fun _ _ _ _ st hQ => wpAny_pyIter_listiter st.1 hQ
end
end TwHot
namespace TwHot
open PySem PySem.Spec PyProof.Rows HotX L2 L2H
section
variable {X : Cx}
theorem cr_allH (hc : HotC X) : CallR X (.builtin "all") (rAll X.K) := by
  intro pins s σ H vs us Q I r h
  obtain ⟨a, bs, rfl, hs, q⟩ := h
  obtain ⟨its, rv, hl, _⟩ := I.list hs
  rw [Vals.ref1 r]
  have hb := rv.bls
  obtain ⟨x1, hot⟩ := hc.at I
  have hx1 : x1 < s.heap.objs.size := by obtain ⟨_, o1, _, h1, _⟩ := hot; exact Heap.lt_size h1
  refine call_all_walk (iter_any hl.isList fun s₂ e2 st hne => ?_)
  subst e2
  refine ⟨_, _, _, _, _, _, _, rfl, walksHot (A := X.A.in1) x1 _ a hne (Nat.ne_of_lt hx1) its.toArray, ⟨st.1, st.2, HotAt.keep (A := X.A.in1) hot fun o e => Heap.get?_push_of_some _ e⟩, truth_bools hb, fun h' tk hk => ?_⟩
  refine ⟨.bl _, H, I.kept fun b o eo => hk b o (fun hmem => ?_) (Heap.get?_push_of_some _ eo), ?_, q⟩
  · rcases List.mem_cons.mp hmem with e1 | hmem
    · exact absurd (e1 ▸ Heap.lt_size eo) (Nat.lt_irrefl _)
    · cases hmem
  · show Value.bool _ = Value.bool _
    rw [← L2.all_range, hb, List.size_toArray, List.length_map]
end
end TwHot

set_option Elab.async false
set_option linter.all false
set_option maxRecDepth 100000
set_option maxHeartbeats 4000000
/-! A list comprehension where an exception is handled. -/
namespace TwHot
open PySem PySem.Spec PyProof.Rows HotX L2 L2H
abbrev blkH (X : Cx) (s : Shared) (H : Hp) (scope : Scope) (cenv : Env) (fp : List Addr) : Cx := { X.blk s H scope cenv fp with pn := X.pn }
theorem _root_.L2H.HotC.blk {X : Cx} {s : Shared} {H : Hp} {scope : Scope} {cenv : Env} {fp : List Addr} (h : HotC X) : HotC (blkH X s H scope cenv fp) := h
section
variable {X : Cx}
theorem startH {pins : List (Addr × Obj)} {σ : L2.St} {H : Hp} {s : Shared} {scope : Scope} {own : List (Str × Nat)} {fp : List Addr} (I : Inv X pins σ H s) (ok : BlkOk X.N X.env.scope scope own) (hN : X.N.Nodup) (hfp : ∀ b ∈ fp, FpOk X pins H b ∧ b < s.heap.objs.size) :
    Inv (blkH X s H scope (compEnvC scope (cellsFrom (s.heap.objs.size + 1) scope.names (cloFrom X.env.cells scope.names [])) s.heap.objs.size X.env) fp) [] (wipe σ (own.map (·.2))) H { s with heap := pushCells (s.heap.push { cls := .type "dict", data := .dict #[] }) scope.names } := by
  have B := block_start I ok hN hfp
  have k := B.ok
  refine ⟨⟨k.mod, k.kind, k.glob, k.blt, k.above, k.inj, k.has, k.cab, k.hd, k.frames, k.stk, k.exf, k.bs, k.bsz, k.noex, k.exfs, k.funs, k.frf⟩, B.os, B.bare, B.base, B.loc, B.cell, B.free, B.freeC, fun p hp => ?_, B.hok, B.len⟩
  have hp' : p ∈ X.pn := by simpa using (show p ∈ X.pn ++ [] from hp)
  have P := I.pin p (List.mem_append_left _ hp')
  refine ⟨pushCells_keeps _ _ _ _ (Heap.get?_push_of_some _ P.1), P.2.1, Nat.ne_of_lt (Heap.lt_size P.1), fun hm => ?_, P.2.2.2.2⟩
  exact (List.mem_cons.mp (I.stkSub p.1 hm)).elim P.2.2.1 P.2.2.2.1
theorem lc_hot {pins : List (Addr × Obj)} {s : Shared} {σ : L2.St} {H : Hp} {Q : VK} {elt tg iter : Expr} {ifs : List Expr} {scope : Scope} {own : List (Str × Nat)} {pos pos' : Pos} {wi : TI} {g : TG} {tt : TT} {te : TE} {use : Option (Value → Sem Unit)} {Qf : Value → Shared → Prop}
    (hot : HotC X) (nodN : X.N.Nodup) (I : Inv X pins σ H s) (hit : PIH X tg iter wi) (bk : BlkOk X.N X.env.scope scope own)
    (hg : ∀ (s : Shared) (H : Hp) (C : Addr) (cl : List (Str × Addr)) (fp : List Addr), PG (blkH X s H scope (compEnvC scope cl C X.env) fp) tg g) (ht : ∀ (s : Shared) (H : Hp) (C : Addr) (cl : List (Str × Addr)) (fp : List Addr), PTs (blkH X s H scope (compEnvC scope cl C X.env) fp) ifs tt)
    (he : ∀ (s : Shared) (H : Hp) (C : Addr) (cl : List (Str × Addr)) (fp : List Addr), PE (blkH X s H scope (compEnvC scope cl C X.env) fp) elt te) (hs : ∀ x, foldedSetIterable iter X.env x = pure x)
    (h : tLc wi g tt te (own.map (·.2)) σ H Q)
    (hRR : ∀ dL C s' m H', Inv X pins σ H' s' → Q (.ref dL) H' → s'.heap.Ns C m → FpOk X pins H' C → compPost (model X.prog X.w) X.A X.xe use Qf (.ref dL) C (.ok .next) s') :
    wpAny (model X.prog X.w) X.A (comprehension (.ListComp elt [⟨tg, iter, ifs, 0⟩] scope pos) scope X.env pos' (newList []) false (eval iter X.env) use) Qf X.xe s := by
  have frees : ∀ y ∈ scope.names, y.2 = .free → ∃ c, X.env.cells.lookup y.1 = some c := fun y hy e => by
    rcases bk.free y hy e with k | k
    · exact I.ok.has _ (.inl k)
    · exact I.ok.has _ (.inr k)
  refine wpAny_comprehension_free (use := use) rfl hs (closure_ok frees) bk.kind (fun y hy e => by rw [bk.uniq y hy, e])
    (thn (hit.run pins s σ H _ I h) fun xv s1 hx => thn hx fun itv s2 h2 => ?_)
  obtain ⟨it, fp, tn, J, H2, e, Jb, Tn, st2, fq, q⟩ := h2
  subst e
  refine wpAny_newObj_type (newEnv_comp ?_) (by show 0 ≤ sizeLine; decide)
  generalize hD : s2.heap.objs.size = dL
  have hDf : H2 dL = none := Jb.hok.fresh (Nat.le_of_eq hD)
  obtain ⟨Wv, ⟨m0, w0⟩, tq1⟩ := q dL hDf
  -- the new list
  generalize hs3 : ({ s2 with heap := s2.heap.push { cls := .type "list", data := .seq ([] : List Value).toArray } } : Shared) = u0
  have J0 : Inv X pins σ (upd H2 dL (.lst [])) u0 := by
    rw [← hs3]
    refine Jb.laid (t' := s2.toks) (fun b o e => Heap.get?_push_of_some _ e) (Nat.le_of_eq hD) ⟨Nat.zero_le _, [], 0, .nil, ?_⟩
    rw [← hD]
    exact Heap.get?_push_size _ rfl
  have hu0 : u0.heap = s2.heap.push { cls := .type "list", data := .seq ([] : List Value).toArray } := by rw [← hs3]
  have sz : ∀ b ∈ fp, b < s2.heap.objs.size := fun b hb => by
    obtain ⟨o, e, _⟩ := Tn.obj _ _ st2 b hb
    exact Heap.lt_size e
  have fr : ∀ b ∈ fp, FpOk X pins (upd H2 dL (.lst [])) b ∧ b < u0.heap.objs.size := fun b hb => by
    have hlt := sz b hb
    refine ⟨⟨?_, (fq b hb).2⟩, by rw [hu0, Heap.size_push]; exact Nat.lt_succ_of_lt hlt⟩
    rw [upd_ne (by rw [← hD]; exact Nat.ne_of_lt hlt)]
    exact (fq b hb).1
  have st3 : tn 0 u0.heap := Tn.keep _ _ _ st2 fun b _ o e => by rw [hu0]; exact Heap.get?_push_of_some _ e
  have J1 := startH J0 bk nodN fr
  have gq := hg u0 (upd H2 dL (.lst [])) u0.heap.objs.size (cellsFrom (u0.heap.objs.size + 1) scope.names (cloFrom X.env.cells scope.names [])) fp
  have tq := ht u0 (upd H2 dL (.lst [])) u0.heap.objs.size (cellsFrom (u0.heap.objs.size + 1) scope.names (cloFrom X.env.cells scope.names [])) fp
  have eq0 := he u0 (upd H2 dL (.lst [])) u0.heap.objs.size (cellsFrom (u0.heap.objs.size + 1) scope.names (cloFrom X.env.cells scope.names [])) fp
  show codeAny _ _ (.compStart (.ListComp elt [⟨tg, iter, ifs, 0⟩] scope pos) 0 (.ref it) (.ref dL) (compEnvC scope (cellsFrom (u0.heap.objs.size + 1) scope.names (cloFrom X.env.cells scope.names [])) u0.heap.objs.size X.env)) (compPost (model X.prog X.w) X.A X.xe use Qf (.ref dL) u0.heap.objs.size) { u0 with heap := pushCells (u0.heap.push { cls := .type "dict", data := .dict #[] }) scope.names }
  have nof : ∀ b ∈ fp, (upd H2 dL (.lst [])) b = none := fun b hb => (fr b hb).1.1
  generalize hce : compEnvC scope (cellsFrom (u0.heap.objs.size + 1) scope.names (cloFrom X.env.cells scope.names [])) u0.heap.objs.size X.env = be at J1 gq tq eq0 ⊢
  have bL : be.locals = u0.heap.objs.size := by subst hce; rfl
  generalize hH3 : upd H2 dL (.lst []) = G0 at J0 J1 gq tq eq0 w0 nof fr
  generalize hs4 : ({ u0 with heap := pushCells (u0.heap.push { cls := .type "dict", data := .dict #[] }) scope.names } : Shared) = u1 at J1 ⊢
  have st4 : tn 0 u1.heap := Tn.keep _ _ _ st3 fun b _ o e => by rw [← hs4]; exact pushCells_keeps _ _ _ _ (Heap.get?_push_of_some _ e)
  have stays : ∀ {σ' : L2.St} {H' : Hp} {s' : Shared}, Inv (blkH X u0 G0 scope be fp) [] σ' H' s' → (∀ b ∈ fp, H' b = none) → ∀ b ∈ fp, FpOk (blkH X u0 G0 scope be fp) [] H' b := fun {σ' H' s'} I' hn b hb =>
    ⟨hn b hb, (I'.ok.exf b hb).1, I'.ok.exfs b hb, .inl hb, fun x c e => (I'.ok.exf b hb).2 x c e, fun p hp => (fr b hb).1.2.2.2.2.2 p (List.mem_append_left _ (by simpa using (show p ∈ X.pn ++ [] from hp)))⟩
  have loop : codeAny (model X.prog X.w) X.A (.compLoop (.ListComp elt [⟨tg, iter, ifs, 0⟩] scope pos) 0 (.ref it) (.ref dL) be) (compPost (model X.prog X.w) X.A X.xe use Qf (.ref dL) u0.heap.objs.size) u1 := by
    refine compLoop_any (fun n s' => ∃ i H', Inv (blkH X u0 G0 scope be fp) [] (wipe σ (own.map (·.2))) H' s' ∧ tn i s'.heap ∧ (∀ b ∈ fp, H' b = none) ∧ Wv i n H') ?_ m0 ⟨0, G0, J1, st4, nof, w0⟩
    rintro n u2 ⟨i, G2, J2, st5, n5, w5⟩
    rcases tq1 i n G2 w5 with ⟨stop, qq⟩ | ⟨go, Nx, hNx, step⟩
    · have td := Tn.done (blkH X u0 G0 scope be fp) rfl rfl rfl (hot.blk) i [] u2 _ G2 (fun _ _ => False) J2 (stays J2 n5) st5 stop
      refine thnF td fun r u3 ⟨hr, J3⟩ => ?_
      subst hr
      -- back in the def's context
      have J4 : Inv X pins σ G2 u3 := J0.call' (ch := fp) J3.os J3.base J3.hok J3.bare fun b hb => ⟨(fr b hb).1.2.2.2.1, (fr b hb).1.2.1, (fr b hb).1.2.2.2.2.1, (fr b hb).1.2.2.2.2.2⟩
      have nC : G2 u0.heap.objs.size = none := by
        have z : G2 be.locals = none := J3.free
        rw [bL] at z
        exact z
      obtain ⟨m, hn, _⟩ := J3.loc
      have hn : u3.heap.Ns be.locals m := hn
      rw [bL] at hn
      exact hRR dL u0.heap.objs.size u3 m G2 J4 qq hn (J0.fpOk (Nat.le_refl _) nC)
    · have ti := Tn.item (blkH X u0 G0 scope be fp) rfl rfl rfl (hot.blk) i [] u2 _ G2 (fun _ _ => False) J2 (stays J2 n5) st5 go
      refine thnF ti fun r u3 ⟨u, hr, h6⟩ => ?_
      subst hr
      refine thnF h6 fun _ u4 ⟨x, G4, J4, r7, y7, st7, n7⟩ => ?_
      have J4' := J4.pinned (stays J4 n7) (Tn.obj _ _ st7)
      refine thnF (gq.run _ u4 _ G4 x u _ J4' r7 (step x G4 y7)) fun _ u5 ⟨σ8, G5, J5, hw8, q8⟩ => ?_
      refine thnF (tq.run _ u5 σ8 G5 _ J5 q8) fun b u6 ⟨G6, J6, q9⟩ => ?_
      -- the tq1's end
      have fin : ∀ {s' : Shared} {H' : Hp}, Inv (blkH X u0 G0 scope be fp) ([] ++ pinsAt fp u4.heap) σ8 H' s' → Nx H' → ∃ m, m < n ∧ ∃ i H', Inv (blkH X u0 G0 scope be fp) [] (wipe σ (own.map (·.2))) H' s' ∧ tn i s'.heap ∧ (∀ b ∈ fp, H' b = none) ∧ Wv i m H' := fun {s' H'} I' nx => by
        obtain ⟨m', hm, w'⟩ := hNx H' nx
        have pin' : ∀ b ∈ fp, ∀ o, u4.heap.get? b = some o → s'.heap.get? b = some o ∧ H' b = none := fun b hb o e =>
          let z := I'.pin (b, o) (List.mem_append_right _ (List.mem_append_right _ (mem_pinsAt hb e)))
          ⟨z.1, z.2.1⟩
        have hl : (wipe σ (own.map (·.2))).length = σ8.length := by rw [← hw8, wipe_length]
        refine ⟨m', hm, i + 1, H', (I'.unpinned (pins := [])).weak hl (fun j v e => ?_), Tn.keep _ _ _ st7 fun b hb o e => (pin' b hb o e).1, fun b hb => ?_, w'⟩
        · rw [← hw8] at e
          exact (wipe_some e).1
        · obtain ⟨o, e, _⟩ := Tn.obj _ _ st7 b hb
          exact (pin' b hb o e).2
      cases b with
      | false =>
        simp only [Bool.false_eq_true, if_false] at q9 ⊢
        exact fin J6 q9
      | true =>
        simp only [if_true] at q9 ⊢
        refine thnF (eq0.run _ u6 σ8 G6 _ J6 q9) fun z u7 ⟨yv, G7, J7, r10, acc, hD10, hz10, nx⟩ => ?_
        exact app_ok (X := blkH X u0 G0 scope be fp) J7 hD10 hz10 r10 fun u8 J8 => fin J8 nx
  exact codeAny_compStart_list loop (Tn.self X.A 0 _ _ _ st4 loop)
/-- [..] as a value, where an exception is handled -/
theorem pe_lcH {elt tg iter : Expr} {ifs : List Expr} {scope : Scope} {own : List (Str × Nat)} {pos : Pos} {wi : TI} {g : TG} {tt : TT} {te : TE} (hot : HotC X) (nd : X.N.Nodup) (hi : PIH X tg iter wi) (bo : BlkOk X.N X.env.scope scope own)
    (hg : ∀ (s : Shared) (H : Hp) (C : Addr) (cl : List (Str × Addr)) (fp : List Addr), PG (blkH X s H scope (compEnvC scope cl C X.env) fp) tg g) (ht : ∀ (s : Shared) (H : Hp) (C : Addr) (cl : List (Str × Addr)) (fp : List Addr), PTs (blkH X s H scope (compEnvC scope cl C X.env) fp) ifs tt)
    (he : ∀ (s : Shared) (H : Hp) (C : Addr) (cl : List (Str × Addr)) (fp : List Addr), PE (blkH X s H scope (compEnvC scope cl C X.env) fp) elt te) (hs : ∀ x, foldedSetIterable iter X.env x = pure x := by intro _; rfl) :
    PE X (.ListComp elt [⟨tg, iter, ifs, 0⟩] scope pos) (tLc wi g tt te (own.map (·.2))) := by
  refine ⟨fun pins s σ H Q I h => ?_⟩
  rw [eval_ListComp]
  refine lc_hot hot nd I hi bo hg ht he hs h fun D C s' m H' I' q hn f => ⟨m, hn, fun h2 sb => ?_⟩
  obtain ⟨f0, f1, f2, f3, f4, f5⟩ := f
  exact ⟨.ref D, H', I'.turned (t' := s'.toks) (fun b o hb e => (sb.2 b hb).trans e) f0 f1 f3 f4 f5, rfl, q⟩
end
end TwHot

set_option Elab.async false
set_option linter.all false
set_option maxRecDepth 100000
set_option maxHeartbeats 4000000
/-! What may raise an own exception: the wish Ξ of class, dict, store, slots. The exception's dict is a cell of the store. -/
namespace TwY
open PySem PySem.Spec PyProof.Rows L2
/-! ### C(e, ..) made, its context None -/
section
variable {X : Cx} {pins : List (Addr × Obj)} {σ : L2.St} {e : Expr} {es : List Expr} {ta : TA} {p pos : Pos}
theorem mk_endN {H1 H2 : Hp} {Q : XK} {hp hp2 h2 : Heap} {g1 g2 : Array GenState} {d1 d2 : Drawn} {t1 t2 : Nat} {os1 os2 : OsState} {a C d : Addr} {fs : List (Str × V)} (R : Raises X (.ref C)) (J1 : Inv X pins σ H1 ⟨hp, g1, d1, t1, os1⟩)
    (la : hp.objs.size ≤ a) (kp : ∀ b o, hp.get? b = some o → hp2.get? b = some o) (U : Un (frs X.stack) [] (upd H1 a (exo a C none)) H2 hp2 h2) (O2 : HOk X.prog X.w H2 h2) (eo : os2 = os1) (eb : AllBare g2)
    (ea : H2 a = some (exo a C (some d))) (ed : H2 d = some (exd d fs)) (nd : H1 d = none) (q : Q (.ref C) (some d) (upd (del H2 a) d (.xd fs))) : L2N.MkP X pins σ Q (.ref a) ⟨h2, g2, d2, t2, os2⟩ := by
  obtain ⟨t0, G, J, kG, ge, hoe, na⟩ := mk_end0 (d2 := d2) (t2 := t2) J1 la kp U O2 eo eb ea ed nd
  exact ⟨a, _, _, ⟨G, g2, d2, t2, os2⟩, _, .ref C, some d, rfl, J, kG, ge, hoe, ⟨rfl, rfl, fun vs e => by cases e; rfl⟩, rfl, rfl, na, rfl, eb, R, q⟩
theorem pmk_oexN {CX : CXT} {x : Str} {C fI : Addr} {k : Nat} {fd : FuncData} {ps : List Str} {sp : Sp} {dl : List Value} {dv : List V} (O : OexC X.K C) (iC : PySem.W.findIn X.K (.ref C) "__init__" = some (some (.ref fI))) (tI : PySem.W.typeIn X.K (.ref fI) = some (.type "function"))
    (F1 : FnOk X.prog X.w X.K X.mg X.base CX k fI fd ps sp) (hr : Room (k + 1) X.A) (hb : Binds X.K fd ps dl) (hdv : Vals dv dl) (hx : Passes CX X (fun _ _ _ => False)) (hg : Gl X x) (hm : X.mg x = some (.ref C)) (ha : PA X (e :: es) ta)
    (hdb : (x == ("__debug__" : Str)) = false := by decide) (he : starEach (e :: es) X.env = (false, eval e X.env) :: starEach es X.env := by rfl) (hpl : (backTo pos (starEach es X.env)).any (·.1) = false := by rfl) :
    L2N.PMk X (.Call (.Name x p) (e :: es) [] pos) (tMkO C sp dv ta) := by
  intro pins s σ H Q I h
  obtain ⟨nm, qn, N, bs, bm, sn, sub, ab, col, dd, k0, k1, k2, k3, k5, lC, vC⟩ := O.cls
  refine wpAny_Call_Name_kw (ld_glob I hg hm ?_ hdb)
  refine PySem.W.callWith_K (h₀ := X.base) I.ok.mod.kin O.kC (thn (ha.run pos pins s σ H _ I h) fun us s1 ⟨vs, H1, J1, r1, hz, q1⟩ => ⟨J1.kIn, ?_⟩) he hpl
  show wpAny _ _ (call (.ref C) us) _ _ _
  obtain ⟨hp, g, dr, tk, os⟩ := s1
  have le1 : hp.objs.size ≤ hp.objs.size + 1 := Nat.le_succ _
  have free1 : H1 (hp.objs.size + 1) = none := J1.hok.fresh le1
  have hq := q1 (hp.objs.size + 1) free1
  have up2 : ∀ b o, hp.get? b = some o → ((hp.push (PySem.W.kdv_tup us)).push (PySem.HandSPX.excO C hp.objs.size)).get? b = some o := fun b o e => Heap.get?_push_of_some _ (Heap.get?_push_of_some _ e)
  have at1 : ((hp.push (PySem.W.kdv_tup us)).push (PySem.HandSPX.excO C hp.objs.size)).get? (hp.objs.size + 1) = some (PySem.HandSPX.excO C hp.objs.size) := by heap_get
  have J2 : Inv X pins σ (upd H1 (hp.objs.size + 1) (exo (hp.objs.size + 1) C none)) ⟨(hp.push (PySem.W.kdv_tup us)).push (PySem.HandSPX.excO C hp.objs.size), g, dr, tk, os⟩ :=
    J1.laid (t' := tk) (a := hp.objs.size + 1) (o := exo (hp.objs.size + 1) C none) (h' := (hp.push (PySem.W.kdv_tup us)).push (PySem.HandSPX.excO C hp.objs.size)) up2 le1 (exo_ok at1)
  have rr : Vals (V.ref (hp.objs.size + 1) :: (vs ++ dv)) (Value.ref (hp.objs.size + 1) :: (us ++ dl)) := .cons rfl (r1.append hdv)
  have ll : (Value.ref (hp.objs.size + 1) :: us ++ dl).length = ps.length := by
    have e := rr.length
    rw [F1.len _ _ _ _ hq] at e
    exact e.symm
  have lu : us.length ≤ sizeLine := by
    rw [← Paired.length r1, sizeLine_eq]
    omega
  refine wpAny_call (PySem.HandSPX.call_own F.excBase_ValueError (fun Y => PySem.HandSPX.refsVE_contains Y bm vC) (J1.kIn _ _ lC) (PySem.W.looks_findIn J1.kIn iC) (fun self => PySem.W.bind_fn J1.kIn self tI) lu
    (codeAny_mono (F1.run _ X.stack _ _ ⟨Value.ref (hp.objs.size + 1) :: us, []⟩ (Value.ref (hp.objs.size + 1) :: (us ++ dl)) _ _ (fun _ _ _ => False) (hr.make C us []) (J2.env0.make C us []) (hb _ (Value.ref (hp.objs.size + 1) :: us) J2.kIn ll) rr hq) fun r s' hq' => ?_))
  cases r with
  | error er => exact hx pins σ _ _ er s' J2 hq'
  | ok fl =>
    cases fl with
    | ret u =>
      obtain ⟨v, H2, eo, eb, U, O2, rv, ev, d, fs, ea, ed, nd, q2⟩ := hq'
      subst ev
      obtain ⟨h2, g2, d2, t2, os'⟩ := s'
      exact ⟨rv, mk_endN (raises_own O.exC O.tyC) J1 le1 up2 U O2 eo eb ea ed nd q2⟩
    | next => exact False.elim hq'
    | brk => exact False.elim hq'
    | cont => exact False.elim hq'
end
end TwY
namespace Tw
open PySem PySem.Spec PyProof.Rows L2
/-- told of an exception in the air: its class, its dict, the store (that holds the dict), the slots -/
abbrev XSt : Type := Addr → Option Addr → Store → Env → Prop
abbrev XF : Type := Addr → Option Addr → Store → Prop
abbrev XSpec : Type := List D → Store → (D → Store → Prop) → XF → Prop
/-- the wish W of the air is kept wherever Ξ is told -/
def QX (K : PySem.W.Frag) (W : WX) (F H : Hp) (S : Store) (Ξ : XSt) : Prop := ∀ F' H' σ' S' Γ' C d, Post K F H S F' H' S' → Slots K F' σ' Γ' → Ξ C d S' Γ' → W (.ref C) d σ' H'
def wE (E : XK) : WX := fun cls d _ H => E cls d H
def spOfX (K : PySem.W.Frag) (sp : XSpec) : Sp := fun vs H Q E => ∃ F S ds Φ Ξ, SatS K F H S ∧ RepL K F vs ds ∧ sp ds S Φ Ξ ∧ (∀ F' H' v d S', Post K F H S F' H' S' → Rep K F' v d → Φ d S' → Q v H') ∧ ∀ F' H' S' C d, Post K F H S F' H' S' → Ξ C d S' → E (.ref C) d H'
def WSX (K : PySem.W.Frag) (W : WX) (t : TS) (S : Store) (Γ : Env) (Ψ : EndsD) (Ξ : XSt) : Prop := ∀ (F H : Hp) (σ : L2.St) (D0 : Ends), SatS K F H S → Slots K F σ Γ →
  (∀ F' H' σ' S' Γ', Post K F H S F' H' S' → Slots K F' σ' Γ' → Ψ.nx S' Γ' → D0.nx σ' H') →
  (∀ F' H' v d S', Post K F H S F' H' S' → Rep K F' v d → Ψ.rt d S' → D0.rt v H') →
  (∀ F' H' σ' S' Γ', Post K F H S F' H' S' → Slots K F' σ' Γ' → Ψ.bk S' Γ' → D0.bk σ' H') →
  (∀ F' H' σ' S' Γ', Post K F H S F' H' S' → Slots K F' σ' Γ' → Ψ.ct S' Γ' → D0.ct σ' H') → QX K W F H S Ξ → t D0 σ H
def WEX (K : PySem.W.Frag) (W : WX) (t : TE) (S : Store) (Γ : Env) (Φ : D → Store → Prop) (Ξ : XSt) : Prop := ∀ (F H : Hp) (σ : L2.St) (Q : VK), SatS K F H S → Slots K F σ Γ →
  (∀ F' H' v d S', Post K F H S F' H' S' → Rep K F' v d → Φ d S' → Q v H') → QX K W F H S Ξ → t σ H Q
def FnX (P : Program) (w : World) (K : PySem.W.Frag) (mg : Str → Option Value) (base : Heap) (k : Nat) (f : Addr) (ps : List Str) (sp : Sp) : Prop :=
  ∃ fd, FnOk P w K mg base (L2N.CX P w) k f fd ps sp ∧ Binds K fd ps [] ∧ PySem.W.keepIn K (.ref f) = true
section
variable {K : PySem.W.Frag} {W : WX} {S S' S1 : Store} {Γ Γ' : Env} {Ψ Ψ' : EndsD} {Ξ Ξ' : XSt} {t u : TS} {F F' H H' : Hp} {te : TE} {ta tb : TA} {Φ : D → Store → Prop}
theorem QX.post (q : QX K W F H S Ξ) (p : Post K F H S F' H' S') : QX K W F' H' S' Ξ := fun F2 H2 σ2 S2 Γ2 C d p2 g e => q F2 H2 σ2 S2 Γ2 C d (p.trans p2) g e
theorem wx_of (h : WS K t S Γ Ψ) : WSX K W t S Γ Ψ Ξ := fun F H σ D0 hs hg q1 q2 q3 q4 _ => h F H σ D0 hs hg q1 q2 q3 q4
theorem we_of (h : WE K te S Γ Φ) : WEX K W te S Γ Φ Ξ := fun F H σ Q hs hg q _ => h F H σ Q hs hg q
theorem ws_ofX (h : WSX K W t S Γ Ψ fun _ _ _ _ => False) : WS K t S Γ Ψ := fun F H σ D0 hs hg q1 q2 q3 q4 => h F H σ D0 hs hg q1 q2 q3 q4 fun _ _ _ _ _ _ _ _ _ z => z.elim
/-- first what does not raise -/
theorem wx_seq (h : WS K t S Γ { nx := fun S1 Γ1 => WSX K W u S1 Γ1 Ψ Ξ, rt := Ψ.rt, bk := Ψ.bk, ct := Ψ.ct }) : WSX K W (tSeq t u) S Γ Ψ Ξ := fun F H σ D0 hs hg q1 q2 q3 q4 qx =>
  h F H σ _ hs hg (fun F1 H1 σ1 S1 Γ1 p1 g1 f => f F1 H1 σ1 D0 p1.sat g1 (fun F2 H2 σ2 S2 Γ2 p2 g2 f2 => q1 F2 H2 σ2 S2 Γ2 (p1.trans p2) g2 f2) (fun F2 H2 v d S2 p2 r2 f2 => q2 F2 H2 v d S2 (p1.trans p2) r2 f2)
    (fun F2 H2 σ2 S2 Γ2 p2 g2 f2 => q3 F2 H2 σ2 S2 Γ2 (p1.trans p2) g2 f2) (fun F2 H2 σ2 S2 Γ2 p2 g2 f2 => q4 F2 H2 σ2 S2 Γ2 (p1.trans p2) g2 f2) (qx.post p1)) q2 q3 q4
/-- first what may raise -/
theorem wx_seqX (h : WSX K W t S Γ { nx := fun S1 Γ1 => WSX K W u S1 Γ1 Ψ Ξ, rt := Ψ.rt, bk := Ψ.bk, ct := Ψ.ct } Ξ) : WSX K W (tSeq t u) S Γ Ψ Ξ := fun F H σ D0 hs hg q1 q2 q3 q4 qx =>
  h F H σ _ hs hg (fun F1 H1 σ1 S1 Γ1 p1 g1 f => f F1 H1 σ1 D0 p1.sat g1 (fun F2 H2 σ2 S2 Γ2 p2 g2 f2 => q1 F2 H2 σ2 S2 Γ2 (p1.trans p2) g2 f2) (fun F2 H2 v d S2 p2 r2 f2 => q2 F2 H2 v d S2 (p1.trans p2) r2 f2)
    (fun F2 H2 σ2 S2 Γ2 p2 g2 f2 => q3 F2 H2 σ2 S2 Γ2 (p1.trans p2) g2 f2) (fun F2 H2 σ2 S2 Γ2 p2 g2 f2 => q4 F2 H2 σ2 S2 Γ2 (p1.trans p2) g2 f2) (qx.post p1)) q2 q3 q4 qx
theorem wx_if {c : TT} (h : WT K c S Γ fun b S1 => if b = true then WSX K W t S1 Γ Ψ Ξ else WSX K W u S1 Γ Ψ Ξ) : WSX K W (tIfS c t u) S Γ Ψ Ξ := fun F H σ D0 hs hg q1 q2 q3 q4 qx =>
  h F H σ _ hs hg fun F1 H1 b S1 p1 f => by
    cases b with
    | true => exact iteT (f F1 H1 σ D0 p1.sat (hg.mono p1.same) (fun F2 H2 σ2 S2 Γ2 p2 g2 f2 => q1 F2 H2 σ2 S2 Γ2 (p1.trans p2) g2 f2) (fun F2 H2 v d S2 p2 r2 f2 => q2 F2 H2 v d S2 (p1.trans p2) r2 f2)
        (fun F2 H2 σ2 S2 Γ2 p2 g2 f2 => q3 F2 H2 σ2 S2 Γ2 (p1.trans p2) g2 f2) (fun F2 H2 σ2 S2 Γ2 p2 g2 f2 => q4 F2 H2 σ2 S2 Γ2 (p1.trans p2) g2 f2) (qx.post p1))
    | false => exact iteF (f F1 H1 σ D0 p1.sat (hg.mono p1.same) (fun F2 H2 σ2 S2 Γ2 p2 g2 f2 => q1 F2 H2 σ2 S2 Γ2 (p1.trans p2) g2 f2) (fun F2 H2 v d S2 p2 r2 f2 => q2 F2 H2 v d S2 (p1.trans p2) r2 f2)
        (fun F2 H2 σ2 S2 Γ2 p2 g2 f2 => q3 F2 H2 σ2 S2 Γ2 (p1.trans p2) g2 f2) (fun F2 H2 σ2 S2 Γ2 p2 g2 f2 => q4 F2 H2 σ2 S2 Γ2 (p1.trans p2) g2 f2) (qx.post p1))
/-- a for whose iterator does not raise and whose body may -/
theorem wx_forE {wi : TI} {g : TG} (h : WI K wi S Γ fun ds S1 => ∃ (Ev : Nat → Env) (P : Nat → Store → Prop), Le (Ev 0) Γ ∧ P 0 S1 ∧
    (∀ (i : Nat) x S', ds[i]? = some x → P i S' → WG K g x S' (Ev i) fun S2 Γ2 => WSX K W t S2 Γ2 { nx := fun S3 Γ3 => Le (Ev (i + 1)) Γ3 ∧ P (i + 1) S3, ct := fun S3 Γ3 => Le (Ev (i + 1)) Γ3 ∧ P (i + 1) S3, bk := Ψ.nx, rt := Ψ.rt } Ξ) ∧ ∀ S', P ds.length S' → Ψ.nx S' (Ev ds.length)) : WSX K W (tFor wi g t) S Γ Ψ Ξ := fun F H σ D0 hs hg q1 q2 q3 q4 qx =>
  h F H σ _ hs hg fun F1 H1 J ds S1 p1 w ⟨Ev, P, l0, h0, hs1, hd⟩ => by
    refine ⟨fun i m σ' H' => m = ds.length - i ∧ i ≤ ds.length ∧ ∃ F' S', Post K F1 H1 S1 F' H' S' ∧ Slots K F' σ' (Ev i) ∧ P i S', ⟨_, rfl, Nat.zero_le _, F1, S1, Post.refl p1.sat, (hg.mono p1.same).le l0, h0⟩, ?_⟩
    rintro i m σ2 H2 ⟨rfl, hi, F2, S2, p2, g2, i2⟩
    by_cases hlt : i < ds.length
    · refine .inr ⟨w.go i H2 hlt (p2.same.trans p2.sat.ext), fun σ' H' => ∃ F' S', Post K F1 H1 S1 F' H' S' ∧ Slots K F' σ' (Ev (i + 1)) ∧ P (i + 1) S', fun σ' H' n => ⟨ds.length - (i + 1), by omega, rfl, hlt, n⟩, fun v H3 y3 => ?_⟩
      have hx : ds[i]? = some ds[i] := List.getElem?_eq_getElem hlt
      obtain ⟨F3, p3, r3⟩ := w.yld i F2 H2 S2 v H3 _ hx p2.same p2.sat y3
      refine hs1 i _ S2 hx i2 F3 H3 σ2 v _ p3.sat (g2.mono p3.same) r3 fun F4 H4 σ4 S4 Γ4 p4 g4 f4 => ?_
      have p14 := (p2.trans p3).trans p4
      exact f4 F4 H4 σ4 _ p4.sat g4 (fun F5 H5 σ5 S5 Γ5 p5 g5 ⟨l5, f5⟩ => ⟨F5, S5, p14.trans p5, g5.le l5, f5⟩) (fun F5 H5 v d S5 p5 r5 f5 => q2 F5 H5 v d S5 (p1.trans (p14.trans p5)) r5 f5)
        (fun F5 H5 σ5 S5 Γ5 p5 g5 f5 => q1 F5 H5 σ5 S5 Γ5 (p1.trans (p14.trans p5)) g5 f5) (fun F5 H5 σ5 S5 Γ5 p5 g5 ⟨l5, f5⟩ => ⟨F5, S5, p14.trans p5, g5.le l5, f5⟩) (qx.post (p1.trans p14))
    · have e : i = ds.length := by omega
      subst e
      exact .inl ⟨w.stop H2 (p2.same.trans p2.sat.ext), q1 F2 H2 σ2 S2 _ (p1.trans p2) g2 (hd S2 i2)⟩
/-! ### expressions that may raise -/
theorem wex_call {sp : XSpec} (h : WA K ta S Γ fun ds S1 => sp ds S1 Φ fun C d S2 => Ξ C d S2 Γ) : WEX K W (tCallS (spOfX K sp) (L2.WE W) ta) S Γ Φ Ξ := fun F H σ Q hs hg hq qx =>
  h F H σ _ hs hg fun F1 H1 vs ds S1 p1 r1 f => ⟨F1, S1, ds, Φ, _, p1.sat, r1, f, fun F' H' v d S' p r z => hq F' H' v d S' (p1.trans p) r z, fun F' H' S' C d p z => qx F' H' σ S' Γ C d (p1.trans p) ((hg.mono p1.same).mono p.same) z⟩
theorem wx_drop (h : WEX K W te S Γ (fun _ S1 => Ψ.nx S1 Γ) Ξ) : WSX K W (tDrop te) S Γ Ψ Ξ := fun F H σ D0 hs hg q1 q2 q3 q4 qx =>
  h F H σ _ hs hg (fun F1 H1 v x S1 p1 r1 f => q1 F1 H1 σ S1 Γ p1 (hg.mono p1.same) f) qx
theorem wx_ret (h : WEX K W te S Γ (fun x S1 => ∃ S2, Sub S2 S1 ∧ Ψ.rt x S2) Ξ) : WSX K W (tRet te) S Γ Ψ Ξ := fun F H σ D0 hs hg q1 q2 q3 q4 qx =>
  h F H σ _ hs hg (fun F1 H1 v x S1 p1 r1 ⟨S2, s, f⟩ => q2 F1 H1 v x S2 (p1.sub s) r1 f) qx
theorem wx_set {i : Nat} (h : WEX K W te S Γ (fun x S1 => Ψ.nx S1 (Γ.set i (some x))) Ξ) : WSX K W (tAsg te (gName i)) S Γ Ψ Ξ := fun F H σ D0 hs hg q1 q2 q3 q4 qx =>
  h F H σ _ hs hg (fun F1 H1 v x S1 p1 r1 f => q1 F1 H1 _ S1 _ p1 ((hg.mono p1.same).set r1) f) qx
/-- for .. in zip(e, b): e always raises -/
theorem wx_for_zip {g : TG} (h : WEX K W te S Γ (fun _ _ => False) Ξ) : WSX K W (tFor (RZ.iZipA K (tCons te tb)) g t) S Γ Ψ Ξ := fun F H σ D0 hs hg q1 q2 q3 q4 qx => h F H σ _ hs hg (fun _ _ _ _ _ _ _ z => z.elim) qx
/-! ### raise -/
def tRaise (W : WX) (t : L2.St → Hp → XK → Prop) : TS := fun _ σ H => t σ H fun cls d H' => W cls d σ H'
/-! ### try: body, except X as n: suite -/
theorem Slots.clear {σ : L2.St} (h : Slots K F σ Γ) (i : Nat) : Slots K F (σ.set i none) (Γ.set i none) := by
  refine ⟨by simp [h.1], fun j e q => ?_⟩
  by_cases hj : i = j
  · subst hj
    have hi : i < Γ.length := by
      have := (List.getElem?_eq_some_iff.mp q).1
      simpa using this
    rw [List.getElem?_set_self hi] at q
    cases q
  · rw [List.getElem?_set_ne hj] at q
    rw [List.getElem?_set_ne hj]
    exact h.2 j e q
def tTryAs (K : PySem.W.Frag) (c : Value) (i : Nat) (tb : WX → TS) (ts : Addr → Value → Option Addr → TS) (Wout : WX) : TS := fun D σ H => tb (wAs K c i ts Wout D) D σ H
theorem wx_tryAs {tb : WX → TS} {ts : Addr → Value → Option Addr → TS} {c : Value} {i : Nat} (h : ∀ W, WSX K W (tb W) S Γ Ψ fun C d S1 Γ1 => ∃ b, PySem.W.exmOne K (.ref C) c = some b ∧
    (b = true → ∀ a, WS K (ts a (.ref C) d) S1 (Γ1.set i (some (.ref a))) { nx := fun S2 Γ2 => Ψ.nx S2 (Γ2.set i none), rt := Ψ.rt, bk := fun S2 Γ2 => Ψ.bk S2 (Γ2.set i none), ct := fun S2 Γ2 => Ψ.ct S2 (Γ2.set i none) }) ∧ (b = false → Ξ C d S1 Γ1)) :
    WSX K W (tTryAs K c i tb ts W) S Γ Ψ Ξ := fun F H σ D0 hs hg q1 q2 q3 q4 qx =>
  h _ F H σ D0 hs hg q1 q2 q3 q4 fun F1 H1 σ1 S1 Γ1 C d p1 g1 ⟨b, e, f1, f2⟩ => ⟨b, e, fun hb a na => f1 hb a F1 H1 _ _ p1.sat (g1.set (.ref a)) (fun F2 H2 σ2 S2 Γ2 p2 g2 f => q1 F2 H2 _ S2 _ (p1.trans p2) (g2.clear i) f) (fun F2 H2 v x S2 p2 r2 f => q2 F2 H2 v x S2 (p1.trans p2) r2 f)
    (fun F2 H2 σ2 S2 Γ2 p2 g2 f => q3 F2 H2 _ S2 _ (p1.trans p2) (g2.clear i) f) (fun F2 H2 σ2 S2 Γ2 p2 g2 f => q4 F2 H2 _ S2 _ (p1.trans p2) (g2.clear i) f), fun hb => qx F1 H1 σ1 S1 Γ1 C d p1 g1 (f2 hb)⟩
theorem ws_tryAs {tb : WX → TS} {ts : Addr → Value → Option Addr → TS} {c : Value} {i : Nat} {W : WX} (h : ∀ W, WSX K W (tb W) S Γ Ψ fun C d S1 Γ1 => PySem.W.exmOne K (.ref C) c = some true ∧
    ∀ a, WS K (ts a (.ref C) d) S1 (Γ1.set i (some (.ref a))) { nx := fun S2 Γ2 => Ψ.nx S2 (Γ2.set i none), rt := Ψ.rt, bk := fun S2 Γ2 => Ψ.bk S2 (Γ2.set i none), ct := fun S2 Γ2 => Ψ.ct S2 (Γ2.set i none) }) :
    WS K (tTryAs K c i tb ts W) S Γ Ψ := ws_ofX (W := W) (wx_tryAs fun W' F H σ D0 hs hg q1 q2 q3 q4 qx => h W' F H σ D0 hs hg q1 q2 q3 q4 fun F1 H1 σ1 S1 Γ1 C d p1 g1 ⟨e, f⟩ => qx F1 H1 σ1 S1 Γ1 C d p1 g1 ⟨true, e, fun _ a => f a, fun z => by cases z⟩)
/-- n.f of the exception in the suite -/
theorem w_xf {a C : Addr} {d : Option Addr} {f : Str} {C' : Addr} (h : WE K te S Γ fun x S1 => x = .ref a ∧ C' = C ∧ ∃ dd ns ds y, d = some dd ∧ S1 dd = some (.xd ns ds) ∧ (ns.zip ds).lookup f = some y ∧ Φ y S1) : WE K (tXf a (.ref C') d C f te) S Γ Φ := fun F H σ Q hs hg hq =>
  h F H σ _ hs hg fun F1 H1 v x S1 p1 r1 ⟨e, ec, dd, ns, ds, y, ed, hS, hl, f1⟩ => by
    subst e ec ed
    cases r1
    obtain ⟨fs, h1, h2, h3⟩ := p1.sat.cell _ _ hS
    subst h2
    obtain ⟨u, hu, ru⟩ := lookup_fld h3 hl
    exact ⟨rfl, rfl, dd, fs, u, rfl, h1, hu, hq _ _ u y S1 p1 ru f1⟩
end
section
variable {P : Program} {w : World} {K : PySem.W.Frag} {mg : Str → Option Value} {base : Heap} {fn : List He.DefD} {fa : List He.Fa} {xs : List (PySem.W.Frag → Bool)}
theorem Hd.okX (T : Hd fn fa xs K mg) (i : Nat) {d : He.DefD} (hi : fn[i]? = some d) {N ps : List Str} {k : Nat} {sp : XSpec} (hdf : d.dfl = []) (S : FnScope N ps d.scope) (len : ∀ ds S Φ Ξ, sp ds S Φ Ξ → ds.length = ps.length)
    (hb : ∀ (kV doc pm : Value) (an : Option Addr) (cdv ct : Value) (us : List Value), us.length = ps.length → bindArgs (PySem.W.fnOf d.name d.qual d.params d.body d.scope .none kV doc pm an cdv ct) ⟨us, []⟩ = pure (ps.zip us))
    (body : ∀ (cdv : Value) (A : Around) (outer : List PySem.Env) (s : Shared) (H : Hp) (E : XK), Room k (A.deeper (envOfC d.qual d.scope s.heap.objs.size (He.fAd K d.at_) cdv)) →
      ∃ t, PSs (cxOf (L2N.CX P w) P w K mg base N d.qual d.scope (He.fAd K d.at_) cdv A outer s H E) d.body t ∧ ∀ ds S Φ Ξ, sp ds S Φ Ξ → WSX K (wE E) t S (startE N ds) { nx := fun S' _ => ∃ S2, Sub S2 S' ∧ Φ .non S2, rt := Φ } fun C d S' _ => Ξ C d S') :
    FnX P w K mg base (k + 1) (He.fAd K d.at_) ps (spOfX K sp) := by
  obtain ⟨fd, F⟩ := T.defs i d hi
  have F' := F
  obtain ⟨oc, od, dV, kV, doc, pm, an, cdv, ct, osl, rfl, lk, hcd, hD, _⟩ := F.ex
  have hdV : dV = .none := by
    rcases hD with ⟨_, e⟩ | ⟨ne, _⟩
    · exact e
    · exact absurd (by unfold He.DefD.dvs; rw [hdf]; rfl) ne
  subst hdV
  refine ⟨_, F'.ok (CX := L2N.CX P w) S (fun vs H Q E ⟨F0, S0, ds, Φ, Ξ, _, r, h, _⟩ => by rw [r.1]; exact len _ _ _ _ h) (fun cdv A outer s H vs Q E hr h => ?_), .all fun us hl => hb _ _ _ _ _ _ us hl, F'.kp⟩
  obtain ⟨t, ht, hw⟩ := body cdv A outer s H E hr
  obtain ⟨F0, S0, ds, Φ, Ξ, hs, r, h, hq, hx⟩ := h
  exact ⟨t, ht, hw ds S0 Φ Ξ h F0 H _ _ hs (slots_start r) (fun F' H' σ' S' Γ' p g ⟨S2, s2, z⟩ => hq F' H' _ _ S2 (p.sub s2) .non z) (fun F' H' v d S' p r z => hq F' H' v d S' p r z) (fun _ _ _ _ _ _ _ z => z.elim) (fun _ _ _ _ _ _ _ z => z.elim) fun F' H' σ' S' Γ' C dd p _ z => hx F' H' S' C dd p z⟩
end
section
variable {X : Cx} {k : Nat} {f : Addr} {ps : List Str} {sp : Sp} {W : WX} {x : Str} {p pos : Pos} {e : Expr} {es : List Expr} {t : TA}
/-- a call of what may raise -/
theorem pe_callX (F : FnX X.prog X.w X.K X.mg X.base k f ps sp) (hr : Room k X.A) (tk : L2N.Takes X W) (hg : Gl X x) (hm : X.mg x = some (.ref f)) (ha : PA X (e :: es) t)
    (hdb : (x == ("__debug__" : Str)) = false := by decide) (he : starEach (e :: es) X.env = (false, eval e X.env) :: starEach es X.env := by rfl) (hpl : (backTo pos (starEach es X.env)).any (·.1) = false := by rfl) :
    PE X (.Call (.Name x p) (e :: es) [] pos) (tCallS sp (L2.WE W) t) := by
  obtain ⟨fd, h, b, kp⟩ := F
  exact pe_callS h hr hg hm kp b (fun σ => L2N.passAt tk σ) ha hdb he hpl
theorem takesE {E : XK} (hs : X.stack = X.env :: X.outer) (hf : X.env.frame = some X.env.locals) (hex : X.ex = []) {E₁ : Value → Shared → Prop}
    (hx : X.xe = fun e s' => wpAny (model X.prog X.w) X.A (leaving X.env e) (fun _ s'' => L2N.CX X.prog X.w X.outer X.H_0 X.s_0 E e s'') E₁ s') : L2N.Takes X (wE E) := L2N.takes_of hs hf hex hx
theorem ps_tryAs {n : Str} {c : Value} {i : Nat} {body suite : List Stmt} {b0 : Stmt} {np pos' : Pos} {tb : WX → TS} {ts : Addr → Value → Option Addr → TS} (hs : X.stack = X.env :: X.outer) (hf : X.env.frame = some X.env.locals) (hN : X.N.Nodup) (hi : X.N[i]? = some n) (hln : X.env.kindOf n = some .local) (hc : Names X x c) (tk : L2N.Takes X W)
    (hb : ∀ (W : WX) (pn : List (Addr × Obj)) (xe : Value → Shared → Prop), L2N.Takes (X.tr pn xe) W → PassesOwn (model X.prog X.w) X.A X.env xe → PSs (X.tr pn xe) body (tb W))
    (hsu : ∀ (a : Addr) (oe : Obj) (cls : Value) (d : Option Addr) (pn : List (Addr × Obj)), L2N.Zn cls d oe → (∃ vs, oe.data = .fields vs) → PSs (X.suite a ((a, oe) :: pn)) (b0 :: suite) (ts a cls d)) :
    PS X (.Try body [.ExceptHandler (some (.Name x np)) (some n) (b0 :: suite) pos'] [] [] pos) (tTryAs X.K c i tb ts W) := L2N.ps_try_as hs hf hN hi hln hc tk hb hsu
theorem ps_raiseX {e : Expr} {t : L2.St → Hp → XK → Prop} (hc : X.calm = true) (tk : L2N.Takes X W) (he : L2N.PMk X e t) : PS X (.Raise (some e) none pos) (tRaise W t) := L2N.ps_raise hc tk he
end
end Tw

set_option Elab.async false
set_option linter.all false
set_option maxRecDepth 100000
set_option maxHeartbeats 4000000
/-! The head's facts read off a fixed list of addresses. -/
namespace Tw
open PySem PySem.Spec PyProof.Rows L2
/-- a def with a closure -/
structure ClD where
  at_ : Str × Option Str
  name : Str
  qual : Str
  params : Arguments
  body : List Stmt
  scope : Scope
  clo : List (Str × Addr)
def ClD.val (d : ClD) : He.FnW := some (d.name, d.qual, d.params, .stmts d.body, d.scope, mainGlobals, d.clo, builtinsNs)
abbrev AlA : Type := Bool × List He.FnW × List He.FnW
def obsA (fa : List He.Fa) (fn : List He.DefD) (xs : List (PySem.W.Frag → Bool)) (cl : List ClD) (K : PySem.W.Frag) : AlA :=
  ((fa.all fun f => f.ok K) && ((fn.all fun d => d.ok K) && xs.all fun b => b K), fn.map fun d => He.fnW K d.at_, cl.map fun d => He.fnW K d.at_)
def valA (fn : List He.DefD) (cl : List ClD) : AlA := (true, fn.map He.DefD.val, cl.map ClD.val)
def SaysA (fa : List He.Fa) (fn : List He.DefD) (xs : List (PySem.W.Frag → Bool)) (cl : List ClD) (K : PySem.W.Frag) : Prop := obsA fa fn xs cl K = valA fn cl
def obsAG (as : List Addr) (fa : List He.Fa) (fn : List He.DefD) (xs : List (PySem.W.Frag → Bool)) (cl : List ClD) (g : Addr → Option Obj) : AlA := obsA fa fn xs cl (He.frG g as)
def hookA (as : List Addr) (fa : List He.Fa) (fn : List He.DefD) (xs : List (PySem.W.Frag → Bool)) (cl : List ClD) : PySem.W.Hook where
  α := AlA
  obs := fun s => obsAG as fa fn xs cl s.heap.get?
  val := fun _ => valA fn cl
  says := fun _ h => ∃ K : PySem.W.Frag, K.In h ∧ SaysA fa fn xs cl K
  of := fun _ _ e => ⟨_, He.frG_in, e⟩
  keeps := fun _ _ _ ⟨K, hK, c⟩ k => ⟨K, PySem.W.Frag.In.keeps hK k, c⟩
theorem obsAG_eq {as : List Addr} {fa : List He.Fa} {fn : List He.DefD} {xs : List (PySem.W.Frag → Bool)} {cl : List ClD} {g : Addr → Option Obj} {s : Shared} (h : ∀ a, g a = s.heap.get? a) : obsAG as fa fn xs cl g = (hookA as fa fn xs cl).obs s := by
  have e : g = s.heap.get? := funext h
  rw [e] <;> rfl
section
variable {fa : List He.Fa} {fn : List He.DefD} {xs : List (PySem.W.Frag → Bool)} {cl : List ClD} {K : PySem.W.Frag} {h : Heap} {mg : Str → Option Value}
theorem SaysA.hd (X : K.In h) (G : h.Ns mainGlobals mg) (c : SaysA fa fn xs cl K) : Hd fn fa xs K mg := by
  have c1 := He.ba (show ((fa.all fun f => f.ok K) && ((fn.all fun d => d.ok K) && xs.all fun b => b K)) = true from congrArg (fun z : AlA => z.1) c)
  have c2 := He.ba c1.2
  have facts : ∀ (i : Nat) f, fa[i]? = some f → f.ok K = true := fun i f e => List.all_eq_true.mp c1.1 f (List.mem_of_getElem? e)
  refine ⟨fun i d e => ?_, facts, fun i x e => He.glo_ok X G (facts i _ e), fun i x e => He.free_ok X G (facts i _ e), fun i b e => List.all_eq_true.mp c2.2 b (List.mem_of_getElem? e)⟩
  have q : fn.map (fun d => He.fnW K d.at_) = fn.map He.DefD.val := congrArg (fun z : AlA => z.2.1) c
  have q2 : (fn.map fun d => He.fnW K d.at_)[i]? = (fn.map He.DefD.val)[i]? := by rw [q]
  rw [List.getElem?_map, List.getElem?_map, e] at q2
  exact He.DefD.funD (Option.some.inj q2) (List.all_eq_true.mp c2.1 d (List.mem_of_getElem? e))
/-- a def with a closure, read -/
theorem SaysA.clo (c : SaysA fa fn xs cl K) (i : Nat) {d : ClD} (e : cl[i]? = some d) : ∃ oc od osl dV kV doc pm an cdv ct, K.lookup (He.fAd K d.at_) = some ⟨oc, od, .func (PySem.W.fnX d.name d.qual d.params d.body d.scope d.clo dV kV doc pm an cdv ct), osl⟩ := by
  have q : cl.map (fun d => He.fnW K d.at_) = cl.map ClD.val := congrArg (fun z : AlA => z.2.2) c
  have q2 : (cl.map fun d => He.fnW K d.at_)[i]? = (cl.map ClD.val)[i]? := by rw [q]
  rw [List.getElem?_map, List.getElem?_map, e] at q2
  have q3 : He.fnW K d.at_ = d.val := Option.some.inj q2
  unfold He.fnW at q3
  cases r : K.lookup (He.fAd K d.at_) with
  | none => rw [r] at q3; cases q3
  | some o =>
    obtain ⟨oc, od, dt, osl⟩ := o
    rw [r] at q3
    cases dt with
    | func fd =>
      obtain ⟨n1, n2, n3, n4, n5, n6, n7, n8, n9, n10, n11, n12, n13, n14, n15⟩ := fd
      have e2 : (some (n1, n2, n3, n4, n5, n6, n7, n15) : He.FnW) = some (d.name, d.qual, d.params, .stmts d.body, d.scope, mainGlobals, d.clo, builtinsNs) := q3
      simp only [Option.some.injEq, Prod.mk.injEq] at e2
      obtain ⟨h1, h2, h3, h4, h5, h6, h7, h8⟩ := e2
      subst h1 h2 h3 h4 h5 h6 h8
      subst h7
      exact ⟨oc, od, osl, n8, n9, n10, n11, n12, n13, n14, rfl⟩
    | _ => cases q3
end
end Tw

set_option Elab.async false
set_option linter.all false
set_option maxRecDepth 100000
set_option maxHeartbeats 4000000
/-! What the head says of an own exception class over ValueError whose __init__ calls super().__init__. -/
namespace Tw
open PySem PySem.Spec PyProof.Rows L2
def oexB (K : PySem.W.Frag) (C : Addr) : Bool := match K.lookup C with
  | some ⟨.type "type", _, .cls cd, sl⟩ => (match cd.mro, sl.toList with
    | .ref C1 :: bm, [_, _, _, _, some (.builtin n), _] => C1 == C && (n == "ValueError.__new__" && (!cd.hasDel && (cd.hasDict && PySem.HandSPX.refsVE bm)))
    | _, _ => false)
  | _ => false
theorem oexB_ok {K : PySem.W.Frag} {C : Addr} (h : oexB K C = true) : ∃ nm q N bs bm sn sub ab col dd k0 k1 k2 k3 k5, K.lookup C = some (excClassObj nm q C N bs bm true sn sub ab col dd k0 k1 k2 k3 k5 "ValueError.__new__") ∧ PySem.HandSPX.refsVE bm = true := by
  unfold oexB at h
  split at h
  · rename_i dd cd sl ho
    split at h
    · rename_i C1 bm k0 k1 k2 k3 n k5 hm hs
      simp only [Bool.and_eq_true, beq_iff_eq, Bool.not_eq_true'] at h
      obtain ⟨rfl, rfl, hdel, hdict, hv⟩ := h
      obtain ⟨nm, bs, mro, ns, qn, hd, sn, sub, ab, col, del⟩ := cd
      dsimp only at hm hdel hdict
      subst hm hdel hdict
      have hsl : sl = #[k0, k1, k2, k3, some (.builtin "ValueError.__new__"), k5] := by
        obtain ⟨l⟩ := sl
        simp only at hs
        rw [hs]
      subst hsl
      exact ⟨nm, qn, ns, bs, bm, sn, sub, ab, col, dd, k0, k1, k2, k3, k5, ho, hv⟩
    · cases h
  · cases h
def oexAll (K : PySem.W.Frag) (C : Addr) : Bool := oexB K C && (He.eqO (PySem.W.findIn K (.ref C) "__setattr__") (some (some (.builtin "object.__setattr__"))) && (decide (PySem.W.subIn K (.ref C) (.type "BaseException") = some true) && (decide (PySem.W.typeIn K (.ref C) = some (.type "type")) && PySem.W.keepIn K (.ref C))))
theorem oexAll_ok {K : PySem.W.Frag} {C : Addr} (h : oexAll K C = true) : OexC K C := by
  obtain ⟨h1, h⟩ := He.ba h
  obtain ⟨h2, h⟩ := He.ba h
  obtain ⟨h3, h⟩ := He.ba h
  obtain ⟨h4, h5⟩ := He.ba h
  exact ⟨oexB_ok h1, He.eqO_ok h2, of_decide_eq_true h3, of_decide_eq_true h4, h5⟩
def cdB (K : PySem.W.Frag) (v : Value) (file : Str) : Bool := match v with
  | .ref c => (match K.lookup c with
    | some ⟨_, _, .fields vs, _⟩ => (match (vs[2]? : Option Value) with
      | some (.str y _) => file == y
      | _ => false)
    | _ => false)
  | _ => false
def celB (K : PySem.W.Frag) (c C : Addr) : Bool := match K.lookup c with
  | some ⟨_, _, .cell (some (.ref C1)), _⟩ => C1 == C
  | _ => false
def noneB : Value → Bool
  | .none => true
  | _ => false
theorem noneB_ok {v : Value} (h : noneB v = true) : v = .none := by
  cases v <;> first | rfl | cases h
/-- of the class x, whose __init__ has the cell cc of __class__ -/
def fxSup (x : Str) (cc : Addr) (file : Str) : PySem.W.Frag → Bool := fun K =>
  (match K.lookup (He.fAd K (x, some "__init__")) with
    | some ⟨_, _, .func fd, _⟩ => cdB K fd.code file && (PySem.W.codeIn K fd.code fd.qualname && noneB fd.defaults)
    | _ => false) && (celB K cc (He.ga K x) && ((PySem.W.clsIn K (He.ga K x)).isSome && (decide (PySem.W.mroIn K (He.ga K x) (.ref (He.ga K x)) = some true) && (He.eqO (PySem.W.nsIn K cStatics "thirdparty.any") (some none) &&
    (He.eqO (PySem.W.ks_superIn K (He.ga K x) (He.ga K x) "__init__") (some (some (.builtin "ValueError.__init__"))) && decide (PySem.W.subIn K (.ref (He.ga K x)) (.type "ValueError") = some true))))))
theorem cdB_ok {K : PySem.W.Frag} {v : Value} {file : Str} (h : cdB K v file = true) : ∃ c, v = .ref c ∧ ∃ ccl cdd vs ccs fl tf, K.lookup c = some ⟨ccl, cdd, .fields vs, ccs⟩ ∧ vs[2]? = some (.str fl tf) ∧ (file == fl) = true := by
  unfold cdB at h
  split at h
  · rename_i c
    split at h
    · rename_i a b vs d ho
      split at h
      · rename_i y t hy
        exact ⟨c, rfl, a, b, vs, d, y, t, ho, hy, h⟩
      · cases h
    · cases h
  · cases h
theorem celB_ok {K : PySem.W.Frag} {c C : Addr} (h : celB K c C = true) : ∃ cl cld csl, K.lookup c = some ⟨cl, cld, .cell (some (.ref C)), csl⟩ := by
  unfold celB at h
  split at h
  · rename_i a b C1 d ho
    have e : C1 = C := beq_iff_eq.mp h
    subst e
    exact ⟨a, b, d, ho⟩
  · cases h
/-- the class's __init__ and what super() needs there -/
theorem fxSup_ok {P : Program} {K : PySem.W.Frag} {x : Str} {cc : Addr} {d : ClD} {oc : Value} {od : Option Addr} {osl : Array (Option Value)} {dV kV doc pm cdv ct : Value} {an : Option Addr} {me : Str} {ar : Arg} (h : fxSup x cc P.main.file K = true) (ea : d.at_ = ((x, some "__init__") : Str × Option Str))
    (lk : K.lookup (He.fAd K d.at_) = some ⟨oc, od, .func (PySem.W.fnX d.name d.qual d.params d.body d.scope d.clo dV kV doc pm an cdv ct), osl⟩) (top : (P.main.scope.names.lookup ("super" : Str)).isSome = false) (hp : (d.params.posonlyargs ++ d.params.args).head? = some ar) (hme : ar.arg = me) :
    ∃ cda, cdv = .ref cda ∧ dV = .none ∧ PySem.W.codeIn K (.ref cda) d.qual = true ∧ SupC P K (He.fAd K d.at_) (He.ga K x) cda cc me := by
  obtain ⟨h1, h⟩ := He.ba h
  obtain ⟨h2, h⟩ := He.ba h
  obtain ⟨h3, h⟩ := He.ba h
  obtain ⟨h4, h⟩ := He.ba h
  obtain ⟨h5, h⟩ := He.ba h
  obtain ⟨h6, h7⟩ := He.ba h
  rw [← ea, lk] at h1
  obtain ⟨g1, g2⟩ := He.ba (show (cdB K cdv P.main.file && (PySem.W.codeIn K cdv d.qual && noneB dV)) = true from h1)
  obtain ⟨g2, g3⟩ := He.ba g2
  obtain ⟨c, rfl, ec⟩ := cdB_ok g1
  exact ⟨c, rfl, noneB_ok g3, g2, ⟨⟨oc, od, _, osl, ar, lk, hp, hme⟩, ec, celB_ok h2, h3, of_decide_eq_true h4, top, He.eqO_ok h5, He.eqO_ok h6, of_decide_eq_true h7⟩⟩
end Tw

set_option Elab.async false
set_option linter.all false
set_option maxRecDepth 100000
set_option maxHeartbeats 4000000
/-! Law k76: rides, walks, crossings in plain Lean. -/
namespace Tw
open PySem L2
abbrev Conf := Nat → Int
abbrev Ride := Nat × Bool
def endsK (es : List (Nat × Nat)) (k : Nat) : Nat × Nat := es.getD k (0, 0)
/-- where the car of the colour stands; the other end -/
def at_ (n : Nat) (es : List (Nat × Nat)) (f : Conf) (r : Ride) : Nat := if (f (2 * n + r.1) = 0 ↔ r.2 = false) then (endsK es r.1).1 else (endsK es r.1).2
def to_ (n : Nat) (es : List (Nat × Nat)) (f : Conf) (r : Ride) : Nat := if (f (2 * n + r.1) = 0 ↔ r.2 = false) then (endsK es r.1).2 else (endsK es r.1).1
def off (n : Nat) (b : Bool) : Nat := if b then n else 0
def ride (n : Nat) (es : List (Nat × Nat)) (f : Conf) (r : Ride) : Conf := fun i =>
  if i = 2 * n + r.1 then 1 - f i else if i = off n r.2 + at_ n es f r then f i - 1 else if i = off n r.2 + to_ n es f r then f i + 1 else f i
def can (n : Nat) (es : List (Nat × Nat)) (f : Conf) (r : Ride) : Prop := r.1 < es.length ∧ 0 < f (off n r.2 + at_ n es f r)
instance (n : Nat) (es : List (Nat × Nat)) (f : Conf) (r : Ride) : Decidable (can n es f r) := by unfold can; infer_instance
structure NetOk (n : Nat) (es : List (Nat × Nat)) : Prop where
  lo : 1 ≤ n
  hi : n ≤ 24
  few : es.length ≤ 40
  ends : ∀ e ∈ es, e.1 < n ∧ e.2 < n ∧ e.1 ≠ e.2
def tot (n : Nat) (f : Conf) : Int := ((List.range n).map f).sum
structure Ok (n : Nat) (es : List (Nat × Nat)) (f : Conf) : Prop where
  nn : ∀ i, i < 2 * n → 0 ≤ f i
  cars : ∀ k, k < es.length → f (2 * n + k) = 0 ∨ f (2 * n + k) = 1
  sum : tot n f + tot n (fun i => f (n + i)) ≤ 30
theorem sum_add : ∀ (l : List Nat) (f g : Nat → Int), (l.map fun i => f i + g i).sum = (l.map f).sum + (l.map g).sum
  | [], _, _ => rfl
  | a :: l, f, g => by
    simp only [List.map_cons, List.sum_cons, sum_add l f g]
    omega
theorem tot_add (n : Nat) (f g : Conf) : tot n (fun i => f i + g i) = tot n f + tot n g := sum_add _ f g
theorem tot_succ (n : Nat) (f : Conf) : tot (n + 1) f = tot n f + f n := by
  unfold tot
  rw [List.range_succ, List.map_append, List.sum_append]
  simp
theorem tot_zero : ∀ (n : Nat), tot n (fun _ => 0) = 0
  | 0 => rfl
  | n + 1 => by rw [tot_succ, tot_zero n]; rfl
theorem tot_congr {n : Nat} {f g : Conf} (h : ∀ i, i < n → f i = g i) : tot n f = tot n g := by
  induction n with
  | zero => rfl
  | succ n ih => rw [tot_succ, tot_succ, ih fun i hi => h i (by omega), h n (by omega)]
theorem tot_one {n s : Nat} {c : Int} (h : s < n) : tot n (fun i => if i = s then c else 0) = c := by
  induction n with
  | zero => omega
  | succ n ih =>
    rw [tot_succ]
    by_cases e : s = n
    · subst e
      rw [tot_congr (g := fun _ => 0) fun i hi => if_neg (by omega), tot_zero]
      simp
    · rw [ih (by omega), if_neg (by omega)]
      omega
theorem tot_move {n s e : Nat} {f : Conf} (hs : s < n) (he : e < n) (hne : s ≠ e) : tot n (fun i => if i = s then f i - 1 else if i = e then f i + 1 else f i) = tot n f := by
  rw [tot_congr (g := fun i => f i + ((if i = s then -1 else 0) + if i = e then 1 else 0)) fun i hi => ?_]
  · rw [tot_add n f, tot_add n (fun i => if i = s then (-1 : Int) else 0) (fun i => if i = e then 1 else 0), tot_one hs, tot_one he]
    omega
  · by_cases h1 : i = s
    · subst h1
      simp [hne]
      omega
    · by_cases h2 : i = e
      · subst h2
        simp [h1]
      · simp [h1, h2]
section
variable {n : Nat} {es : List (Nat × Nat)} {f : Conf} {r : Ride}
theorem NetOk.at (N : NetOk n es) (h : r.1 < es.length) : (endsK es r.1).1 < n ∧ (endsK es r.1).2 < n ∧ (endsK es r.1).1 ≠ (endsK es r.1).2 := by
  have e : endsK es r.1 = es[r.1] := by
    unfold endsK
    rw [List.getD_eq_getElem?_getD, List.getElem?_eq_getElem h]; rfl
  rw [e]
  exact N.ends _ (List.getElem_mem h)
theorem at_lt (N : NetOk n es) (h : r.1 < es.length) : at_ n es f r < n := by
  obtain ⟨a, b, c⟩ := N.at h
  unfold at_; split <;> assumption
theorem to_lt (N : NetOk n es) (h : r.1 < es.length) : to_ n es f r < n := by
  obtain ⟨a, b, c⟩ := N.at h
  unfold to_; split <;> assumption
theorem at_ne (N : NetOk n es) (h : r.1 < es.length) : at_ n es f r ≠ to_ n es f r := by
  obtain ⟨a, b, c⟩ := N.at h
  unfold at_ to_; split
  · exact c
  · exact Ne.symm c
theorem off_le (n : Nat) (b : Bool) : off n b = 0 ∨ off n b = n := by
  cases b
  · exact .inl rfl
  · exact .inr rfl
theorem Ok.ride (N : NetOk n es) (O : Ok n es f) (h : can n es f r) : Ok n es (ride n es f r) := by
  obtain ⟨hk, hp⟩ := h
  have a1 := at_lt (f := f) N hk
  have a2 := to_lt (f := f) N hk
  have a3 := at_ne (f := f) N hk
  have o := off_le n r.2
  refine ⟨fun i hi => ?_, fun k hk' => ?_, ?_⟩
  · unfold Tw.ride
    rw [if_neg (by omega)]
    have := O.nn i hi
    split
    · rename_i e; subst e; omega
    · split <;> omega
  · unfold Tw.ride
    by_cases e : k = r.1
    · subst e
      rw [if_pos rfl]
      rcases O.cars _ hk' with z | z <;> rw [z] <;> omega
    · rw [if_neg (by omega), if_neg (by omega), if_neg (by omega)]
      exact O.cars k hk'
  · have T := O.sum
    cases hb : r.2 with
    | false =>
      have e0 : off n r.2 = 0 := by rw [hb]; rfl
      have e1 : tot n (Tw.ride n es f r) = tot n f := by
        rw [tot_congr (g := fun i => if i = at_ n es f r then f i - 1 else if i = to_ n es f r then f i + 1 else f i) fun i hi => ?_, tot_move a1 a2 a3]
        unfold Tw.ride
        rw [if_neg (by omega), e0, Nat.zero_add, Nat.zero_add]
      have e2 : tot n (fun i => Tw.ride n es f r (n + i)) = tot n (fun i => f (n + i)) := tot_congr fun i hi => by
        show Tw.ride n es f r (n + i) = f (n + i)
        unfold Tw.ride
        rw [if_neg (by omega), if_neg (by omega), if_neg (by omega)]
      rw [e1, e2]; exact T
    | true =>
      have e0 : off n r.2 = n := by rw [hb]; rfl
      have e1 : tot n (Tw.ride n es f r) = tot n f := tot_congr fun i hi => by
        unfold Tw.ride
        rw [if_neg (by omega), if_neg (by omega), if_neg (by omega)]
      have e2 : tot n (fun i => Tw.ride n es f r (n + i)) = tot n (fun i => f (n + i)) := by
        rw [tot_congr (g := fun i => if i = at_ n es f r then f (n + i) - 1 else if i = to_ n es f r then f (n + i) + 1 else f (n + i)) fun i hi => ?_, tot_move (f := fun i => f (n + i)) a1 a2 a3]
        show Tw.ride n es f r (n + i) = _
        unfold Tw.ride
        rw [if_neg (by omega), e0]
        by_cases h1 : i = at_ n es f r
        · rw [if_pos (by omega), if_pos h1]
        · rw [if_neg (by omega), if_neg h1]
          by_cases h2 : i = to_ n es f r
          · rw [if_pos (by omega), if_pos h2]
          · rw [if_neg (by omega), if_neg h2]
      rw [e1, e2]; exact T
theorem car_ride : ride n es f r (2 * n + r.1) = 1 - f (2 * n + r.1) := if_pos rfl
theorem at_ride (O : Ok n es f) (h : r.1 < es.length) : at_ n es (ride n es f r) r = to_ n es f r ∧ to_ n es (ride n es f r) r = at_ n es f r := by
  unfold at_ to_
  rw [car_ride]
  rcases O.cars _ h with z | z <;> rw [z] <;> cases r.2 <;> simp
theorem ride_ride (N : NetOk n es) (O : Ok n es f) (h : r.1 < es.length) : ride n es (ride n es f r) r = f := by
  funext i
  obtain ⟨e1, e2⟩ := at_ride (r := r) O h
  have a1 := at_lt (f := f) N h
  have a2 := to_lt (f := f) N h
  have a3 := at_ne (f := f) N h
  have o := off_le n r.2
  have key : ride n es (ride n es f r) r i = if i = 2 * n + r.1 then 1 - ride n es f r i else if i = off n r.2 + to_ n es f r then ride n es f r i - 1 else if i = off n r.2 + at_ n es f r then ride n es f r i + 1 else ride n es f r i := by
    show (if i = 2 * n + r.1 then _ else if i = off n r.2 + at_ n es (ride n es f r) r then _ else if i = off n r.2 + to_ n es (ride n es f r) r then _ else _) = _
    rw [e1, e2]
  rw [key]
  unfold ride
  by_cases h0 : i = 2 * n + r.1
  · rw [if_pos h0, if_pos h0]; omega
  · rw [if_neg h0, if_neg h0]
    by_cases h1 : i = off n r.2 + to_ n es f r
    · rw [if_pos h1, if_neg (by omega), if_pos h1]; omega
    · rw [if_neg h1]
      by_cases h2 : i = off n r.2 + at_ n es f r
      · rw [if_pos h2, if_pos h2]; omega
      · rw [if_neg h2, if_neg h2, if_neg h1]
theorem can_ride (N : NetOk n es) (O : Ok n es f) (h : can n es f r) : can n es (ride n es f r) r := by
  obtain ⟨hk, hp⟩ := h
  refine ⟨hk, ?_⟩
  rw [(at_ride (r := r) O hk).1]
  have a1 := at_lt (f := f) N hk
  have a2 := to_lt (f := f) N hk
  have a3 := at_ne (f := f) N hk
  have o := off_le n r.2
  unfold ride
  rw [if_neg (by omega), if_neg (by omega), if_pos rfl]
  have := O.nn (off n r.2 + to_ n es f r) (by omega)
  omega
end
def run (n : Nat) (es : List (Nat × Nat)) (f : Conf) (rs : List Ride) : Conf := rs.foldl (ride n es) f
def path (n : Nat) (es : List (Nat × Nat)) (f : Conf) (rs : List Ride) : List Conf := (List.range (rs.length + 1)).map fun j => run n es f (rs.take j)
def walkOk (n : Nat) (es : List (Nat × Nat)) (f : Conf) (rs : List Ride) : Prop := ∀ (i : Nat) r, rs[i]? = some r → can n es (run n es f (rs.take i)) r
/-- the crossing of a ride: 1 from the first end to the second -/
def stp (n : Nat) (f : Conf) (r : Ride) : Int := if (f (2 * n + r.1) = 0 ↔ r.2 = false) then 1 else -1
def crP (n : Nat) (es : List (Nat × Nat)) (f : Conf) (rs : List Ride) : Nat → Ride → Int
  | 0, _ => 0
  | i + 1, x => crP n es f rs i x + (if rs[i]? = some x then stp n (run n es f (rs.take i)) x else 0)
def cr (n : Nat) (es : List (Nat × Nat)) (f : Conf) (rs : List Ride) : Ride → Int := crP n es f rs rs.length
section
variable {n : Nat} {es : List (Nat × Nat)} {f : Conf} {rs : List Ride} {r : Ride}
theorem take_snoc {α : Type} {l : List α} {i : Nat} {a : α} (h : l[i]? = some a) : l.take (i + 1) = l.take i ++ [a] := by
  rw [List.take_add_one, h]
  rfl
theorem run_take {i : Nat} (h : rs[i]? = some r) : run n es f (rs.take (i + 1)) = ride n es (run n es f (rs.take i)) r := by
  unfold run
  rw [take_snoc h, List.foldl_append]
  rfl
theorem Ok.run (N : NetOk n es) (O : Ok n es f) (W : walkOk n es f rs) : ∀ i, i ≤ rs.length → Ok n es (Tw.run n es f (rs.take i))
  | 0, _ => O
  | i + 1, h => by
    have hi : rs[i]? = some (rs[i]'(by omega)) := List.getElem?_eq_getElem (by omega)
    rw [run_take hi]
    exact (Ok.run N O W i (by omega)).ride N (W i _ hi)
end
/-! ### equal neighbours go -/
section
variable {α : Type} [DecidableEq α]
def redS (s : List α) (a : α) : List α := if s.getLast? = some a then s.dropLast else s ++ [a]
def red (l : List α) : List α := l.foldl redS []
theorem red_take {l : List α} {i : Nat} {a : α} (h : l[i]? = some a) : red (l.take (i + 1)) = redS (red (l.take i)) a := by
  unfold red
  rw [take_snoc h, List.foldl_append]
  rfl
theorem redS_len (s : List α) (a : α) : (redS s a).length ≤ s.length + 1 := by
  unfold redS
  split
  · rw [List.length_dropLast]; omega
  · simp
theorem fold_len : ∀ (l s : List α), (l.foldl redS s).length ≤ s.length + l.length
  | [], s => by simp
  | a :: l, s => by
    have h1 := fold_len l (redS s a)
    have h2 := redS_len s a
    rw [List.foldl_cons, List.length_cons]
    omega
theorem red_len {rs : List α} : (red rs).length ≤ rs.length := by
  have := fold_len rs []
  simpa [red] using this
end
/-- any sign that is the same at both ends of each rope is the same everywhere -/
def Conn (n : Nat) (es : List (Nat × Nat)) : Prop := ∀ J : Nat → Bool, (∀ e ∈ es, J e.1 = J e.2) → ∀ i, i < n → J i = J 0
/-! ### what the look for stations that are cut off does -/
def joinS (a : (Nat → Bool) × Bool) (e : Nat × Nat) : (Nat → Bool) × Bool := if a.1 e.1 = a.1 e.2 then a else (fun j => if j = e.1 ∨ j = e.2 then true else a.1 j, true)
def joinF (a : (Nat → Bool) × Bool) (es : List (Nat × Nat)) : (Nat → Bool) × Bool := es.foldl joinS a
theorem joinF_take {es : List (Nat × Nat)} {i : Nat} {r : Nat × Nat} {a : (Nat → Bool) × Bool} (h : es[i]? = some r) : joinF a (es.take (i + 1)) = joinS (joinF a (es.take i)) r := by
  unfold joinF
  rw [take_snoc h, List.foldl_append]
  rfl
def cntF : Nat → (Nat → Bool) → Nat
  | 0, _ => 0
  | n + 1, J => cntF n J + if J n = true then 0 else 1
theorem cntF_le {J J' : Nat → Bool} (h : ∀ k, J k = true → J' k = true) : ∀ n, cntF n J' ≤ cntF n J
  | 0 => Nat.le_refl _
  | n + 1 => by
    have ih := cntF_le h n
    unfold cntF
    by_cases e : J n = true
    · rw [if_pos e, if_pos (h n e)]; omega
    · rw [if_neg e]; split <;> omega
theorem cntF_lt {J J' : Nat → Bool} (h : ∀ k, J k = true → J' k = true) {k : Nat} (hk : J k = false) (hk' : J' k = true) : ∀ n, k < n → cntF n J' < cntF n J
  | 0, h0 => absurd h0 (Nat.not_lt_zero _)
  | n + 1, h0 => by
    unfold cntF
    by_cases e : k = n
    · subst e
      have := cntF_le h k
      rw [if_pos hk', if_neg (by rw [hk]; simp)]; omega
    · have ih := cntF_lt h hk hk' n (by omega)
      by_cases e2 : J n = true
      · rw [if_pos e2, if_pos (h n e2)]; omega
      · rw [if_neg e2]; split <;> omega
theorem joinS_mono (a : (Nat → Bool) × Bool) (e : Nat × Nat) : ∀ k, a.1 k = true → (joinS a e).1 k = true := fun k hk => by
  unfold joinS
  split
  · exact hk
  · show (if k = e.1 ∨ k = e.2 then true else a.1 k) = true
    split
    · rfl
    · exact hk
theorem joinF_spec {n : Nat} : ∀ (es : List (Nat × Nat)) (J : Nat → Bool), (∀ e ∈ es, e.1 < n ∧ e.2 < n) → J 0 = true →
    (joinF (J, false) es).1 0 = true ∧ (((joinF (J, false) es).2 = true ∧ cntF n (joinF (J, false) es).1 < cntF n J) ∨ ((joinF (J, false) es).2 = false ∧ (joinF (J, false) es).1 = J ∧ ∀ e ∈ es, J e.1 = J e.2)) := by
  have up : ∀ (es : List (Nat × Nat)) (J : Nat → Bool), (∀ e ∈ es, e.1 < n ∧ e.2 < n) → (joinF (J, true) es).2 = true ∧ (∀ k, J k = true → (joinF (J, true) es).1 k = true) := by
    intro es
    induction es with
    | nil => intro J _; exact ⟨rfl, fun _ h => h⟩
    | cons e es ih =>
      intro J h
      have hm := joinS_mono (J, true) e
      have e2 : joinS (J, true) e = ((joinS (J, true) e).1, true) := by unfold joinS; split <;> rfl
      obtain ⟨i1, i2⟩ := ih (joinS (J, true) e).1 fun x hx => h x (List.mem_cons_of_mem _ hx)
      have e3 : joinF (J, true) (e :: es) = joinF ((joinS (J, true) e).1, true) es := by rw [← e2]; rfl
      rw [e3]
      exact ⟨i1, fun k hk => i2 k (hm k hk)⟩
  intro es
  induction es with
  | nil => intro J _ h0; exact ⟨h0, .inr ⟨rfl, rfl, fun _ h => absurd h (List.not_mem_nil)⟩⟩
  | cons e es ih =>
    intro J h h0
    have he := h e List.mem_cons_self
    have h' : ∀ x ∈ es, x.1 < n ∧ x.2 < n := fun x hx => h x (List.mem_cons_of_mem _ hx)
    by_cases q : J e.1 = J e.2
    · have e1 : joinF (J, false) (e :: es) = joinF (J, false) es := by
        show joinF (joinS (J, false) e) es = _
        unfold joinS
        rw [if_pos q]
      rw [e1]
      obtain ⟨i0, i1 | ⟨i1, i2, i3⟩⟩ := ih J h' h0
      · exact ⟨i0, .inl i1⟩
      · exact ⟨i0, .inr ⟨i1, i2, fun x hx => by
          rcases List.mem_cons.mp hx with z | z
          · rw [z]; exact q
          · exact i3 x z⟩⟩
    · have e1 : joinF (J, false) (e :: es) = joinF (fun j => if j = e.1 ∨ j = e.2 then true else J j, true) es := by
        show joinF (joinS (J, false) e) es = _
        unfold joinS
        rw [if_neg q]
      rw [e1]
      obtain ⟨u1, u2⟩ := up es (fun j => if j = e.1 ∨ j = e.2 then true else J j) h'
      have m : ∀ k, J k = true → (joinF (fun j => if j = e.1 ∨ j = e.2 then true else J j, true) es).1 k = true := fun k hk => u2 k (by
        split
        · rfl
        · exact hk)
      refine ⟨m 0 h0, .inl ⟨u1, ?_⟩⟩
      cases h1 : J e.1 with
      | false => exact cntF_lt m h1 (u2 _ (by simp)) n he.1
      | true =>
        have h2 : J e.2 = false := by
          cases h2 : J e.2 with
          | false => rfl
          | true => exact absurd (h1.trans h2.symm) q
        exact cntF_lt m h2 (u2 _ (by simp)) n he.2
end Tw

set_option Elab.async false
set_option linter.all false
set_option maxRecDepth 100000
set_option maxHeartbeats 4000000
namespace Tw
open PySem PySem.Spec PyProof.Rows L2
def top (i : Nat) : Stmt := PySem.Challenge.pw_twinrope_k76_bills_of_trips.main.body.getD i (.Pass ⟨0, 0, 0, 0⟩)
abbrev s_Net___eq__ : Stmt := inClass (top 42) 12
def d_Net___eq__ : He.DefD := ⟨("Net", some "__eq__"), "__eq__", "Net.__eq__", defArgs s_Net___eq__, defBody s_Net___eq__, defScope s_Net___eq__, [], []⟩
abbrev s_check_rope : Stmt := top 17
def d_check_rope : He.DefD := ⟨("check_rope", none), "check_rope", "check_rope", defArgs s_check_rope, defBody s_check_rope, defScope s_check_rope, [], []⟩
abbrev s_check_colour : Stmt := top 18
def d_check_colour : He.DefD := ⟨("check_colour", none), "check_colour", "check_colour", defArgs s_check_colour, defBody s_check_colour, defScope s_check_colour, [], []⟩
abbrev s_check_rides : Stmt := top 19
def d_check_rides : He.DefD := ⟨("check_rides", none), "check_rides", "check_rides", defArgs s_check_rides, defBody s_check_rides, defScope s_check_rides, [], []⟩
abbrev s_check_nets : Stmt := top 20
def d_check_nets : He.DefD := ⟨("check_nets", none), "check_nets", "check_nets", defArgs s_check_nets, defBody s_check_nets, defScope s_check_nets, [], []⟩
abbrev s_check_cars : Stmt := top 21
def d_check_cars : He.DefD := ⟨("check_cars", none), "check_cars", "check_cars", defArgs s_check_cars, defBody s_check_cars, defScope s_check_cars, [], []⟩
abbrev s__check_guests : Stmt := top 24
def d__check_guests : He.DefD := ⟨("_check_guests", none), "_check_guests", "_check_guests", defArgs s__check_guests, defBody s__check_guests, defScope s__check_guests, [], []⟩
abbrev s_Standing___init__ : Stmt := inClass (top 25) 1
def d_Standing___init__ : He.DefD := ⟨("Standing", some "__init__"), "__init__", "Standing.__init__", defArgs s_Standing___init__, defBody s_Standing___init__, defScope s_Standing___init__, [], []⟩
abbrev s_far_end : Stmt := top 26
def d_far_end : He.DefD := ⟨("far_end", none), "far_end", "far_end", defArgs s_far_end, defBody s_far_end, defScope s_far_end, [], []⟩
abbrev s_car_station : Stmt := top 27
def d_car_station : He.DefD := ⟨("car_station", none), "car_station", "car_station", defArgs s_car_station, defBody s_car_station, defScope s_car_station, [], []⟩
abbrev s_guests_of : Stmt := top 28
def d_guests_of : He.DefD := ⟨("guests_of", none), "guests_of", "guests_of", defArgs s_guests_of, defBody s_guests_of, defScope s_guests_of, [], []⟩
abbrev s_moved : Stmt := top 29
def d_moved : He.DefD := ⟨("moved", none), "moved", "moved", defArgs s_moved, defBody s_moved, defScope s_moved, [], []⟩
abbrev s__is_possible : Stmt := top 31
def d__is_possible : He.DefD := ⟨("_is_possible", none), "_is_possible", "_is_possible", defArgs s__is_possible, defBody s__is_possible, defScope s__is_possible, [], []⟩
abbrev s_walk : Stmt := top 32
def d_walk : He.DefD := ⟨("walk", none), "walk", "walk", defArgs s_walk, defBody s_walk, defScope s_walk, [], []⟩
abbrev s_prices_for : Stmt := top 34
def d_prices_for : He.DefD := ⟨("prices_for", none), "prices_for", "prices_for", defArgs s_prices_for, defBody s_prices_for, defScope s_prices_for, [], []⟩
abbrev s_differences : Stmt := top 35
def d_differences : He.DefD := ⟨("differences", none), "differences", "differences", defArgs s_differences, defBody s_differences, defScope s_differences, [], []⟩
abbrev s_outflows : Stmt := top 36
def d_outflows : He.DefD := ⟨("outflows", none), "outflows", "outflows", defArgs s_outflows, defBody s_outflows, defScope s_outflows, [], []⟩
abbrev s_Bill___init__ : Stmt := inClass (top 37) 0
def d_Bill___init__ : He.DefD := ⟨("Bill", some "__init__"), "__init__", "Bill.__init__", defArgs s_Bill___init__, defBody s_Bill___init__, defScope s_Bill___init__, [], []⟩
abbrev s_Bill___add__ : Stmt := inClass (top 37) 2
def d_Bill___add__ : He.DefD := ⟨("Bill", some "__add__"), "__add__", "Bill.__add__", defArgs s_Bill___add__, defBody s_Bill___add__, defScope s_Bill___add__, [], []⟩
abbrev s_Bill___sub__ : Stmt := inClass (top 37) 3
def d_Bill___sub__ : He.DefD := ⟨("Bill", some "__sub__"), "__sub__", "Bill.__sub__", defArgs s_Bill___sub__, defBody s_Bill___sub__, defScope s_Bill___sub__, [], []⟩
abbrev s_Bill___neg__ : Stmt := inClass (top 37) 4
def d_Bill___neg__ : He.DefD := ⟨("Bill", some "__neg__"), "__neg__", "Bill.__neg__", defArgs s_Bill___neg__, defBody s_Bill___neg__, defScope s_Bill___neg__, [], []⟩
abbrev s_Bill_cost : Stmt := inClass (top 37) 5
def d_Bill_cost : He.DefD := ⟨("Bill", some "cost"), "cost", "Bill.cost", defArgs s_Bill_cost, defBody s_Bill_cost, defScope s_Bill_cost, [.non], []⟩
abbrev s_Bill_leads : Stmt := inClass (top 37) 6
def d_Bill_leads : He.DefD := ⟨("Bill", some "leads"), "leads", "Bill.leads", defArgs s_Bill_leads, defBody s_Bill_leads, defScope s_Bill_leads, [], []⟩
abbrev s_bill_of : Stmt := top 38
def d_bill_of : He.DefD := ⟨("bill_of", none), "bill_of", "bill_of", defArgs s_bill_of, defBody s_bill_of, defScope s_bill_of, [], []⟩
abbrev s__cut_off : Stmt := top 40
def d__cut_off : He.DefD := ⟨("_cut_off", none), "_cut_off", "_cut_off", defArgs s__cut_off, defBody s__cut_off, defScope s__cut_off, [], []⟩
abbrev s__check_size : Stmt := top 41
def d__check_size : He.DefD := ⟨("_check_size", none), "_check_size", "_check_size", defArgs s__check_size, defBody s__check_size, defScope s__check_size, [], []⟩
abbrev s_Net___init__ : Stmt := inClass (top 42) 2
def d_Net___init__ : He.DefD := ⟨("Net", some "__init__"), "__init__", "Net.__init__", defArgs s_Net___init__, defBody s_Net___init__, defScope s_Net___init__, [], []⟩
abbrev s_Trip___init__ : Stmt := inClass (top 44) 0
def d_Trip___init__ : He.DefD := ⟨("Trip", some "__init__"), "__init__", "Trip.__init__", defArgs s_Trip___init__, defBody s_Trip___init__, defScope s_Trip___init__, [], []⟩
abbrev s_Trip_reduced : Stmt := inClass (top 44) 1
def d_Trip_reduced : He.DefD := ⟨("Trip", some "reduced"), "reduced", "Trip.reduced", defArgs s_Trip_reduced, defBody s_Trip_reduced, defScope s_Trip_reduced, [], []⟩
abbrev s_Trip_tally : Stmt := inClass (top 44) 2
def d_Trip_tally : He.DefD := ⟨("Trip", some "tally"), "tally", "Trip.tally", defArgs s_Trip_tally, defBody s_Trip_tally, defScope s_Trip_tally, [], []⟩
abbrev s_Trip___add__ : Stmt := inClass (top 44) 3
def d_Trip___add__ : He.DefD := ⟨("Trip", some "__add__"), "__add__", "Trip.__add__", defArgs s_Trip___add__, defBody s_Trip___add__, defScope s_Trip___add__, [], []⟩
abbrev s_Trip___invert__ : Stmt := inClass (top 44) 4
def d_Trip___invert__ : He.DefD := ⟨("Trip", some "__invert__"), "__invert__", "Trip.__invert__", defArgs s_Trip___invert__, defBody s_Trip___invert__, defScope s_Trip___invert__, [], []⟩
abbrev s_Trip___len__ : Stmt := inClass (top 44) 6
def d_Trip___len__ : He.DefD := ⟨("Trip", some "__len__"), "__len__", "Trip.__len__", defArgs s_Trip___len__, defBody s_Trip___len__, defScope s_Trip___len__, [], []⟩
abbrev s_Trip___bool__ : Stmt := inClass (top 44) 7
def d_Trip___bool__ : He.DefD := ⟨("Trip", some "__bool__"), "__bool__", "Trip.__bool__", defArgs s_Trip___bool__, defBody s_Trip___bool__, defScope s_Trip___bool__, [], []⟩
abbrev s__law_pot : Stmt := top 46
def d__law_pot : He.DefD := ⟨("_law_pot", none), "_law_pot", "_law_pot", defArgs s__law_pot, defBody s__law_pot, defScope s__law_pot, [], []⟩
abbrev s__law_load : Stmt := top 47
def d__law_load : He.DefD := ⟨("_law_load", none), "_law_load", "_law_load", defArgs s__law_load, defBody s__law_load, defScope s__law_load, [], []⟩
abbrev s__law_draw : Stmt := top 48
def d__law_draw : He.DefD := ⟨("_law_draw", none), "_law_draw", "_law_draw", defArgs s__law_draw, defBody s__law_draw, defScope s__law_draw, [], []⟩
abbrev s__law_like : Stmt := top 49
def d__law_like : He.DefD := ⟨("_law_like", none), "_law_like", "_law_like", defArgs s__law_like, defBody s__law_like, defScope s__law_like, [], []⟩
abbrev s__law_order : Stmt := top 50
def d__law_order : He.DefD := ⟨("_law_order", none), "_law_order", "_law_order", defArgs s__law_order, defBody s__law_order, defScope s__law_order, [], []⟩
abbrev s__law_rope : Stmt := top 51
def d__law_rope : He.DefD := ⟨("_law_rope", none), "_law_rope", "_law_rope", defArgs s__law_rope, defBody s__law_rope, defScope s__law_rope, [], []⟩
abbrev s__law_tree : Stmt := top 52
def d__law_tree : He.DefD := ⟨("_law_tree", none), "_law_tree", "_law_tree", defArgs s__law_tree, defBody s__law_tree, defScope s__law_tree, [], []⟩
abbrev s__law_extra : Stmt := top 53
def d__law_extra : He.DefD := ⟨("_law_extra", none), "_law_extra", "_law_extra", defArgs s__law_extra, defBody s__law_extra, defScope s__law_extra, [], []⟩
abbrev s__law_spread : Stmt := top 54
def d__law_spread : He.DefD := ⟨("_law_spread", none), "_law_spread", "_law_spread", defArgs s__law_spread, defBody s__law_spread, defScope s__law_spread, [], []⟩
abbrev s__law_open : Stmt := top 55
def d__law_open : He.DefD := ⟨("_law_open", none), "_law_open", "_law_open", defArgs s__law_open, defBody s__law_open, defScope s__law_open, [], []⟩
abbrev s__law_ridden : Stmt := top 56
def d__law_ridden : He.DefD := ⟨("_law_ridden", none), "_law_ridden", "_law_ridden", defArgs s__law_ridden, defBody s__law_ridden, defScope s__law_ridden, [], []⟩
abbrev s__law_stand : Stmt := top 57
def d__law_stand : He.DefD := ⟨("_law_stand", none), "_law_stand", "_law_stand", defArgs s__law_stand, defBody s__law_stand, defScope s__law_stand, [], []⟩
abbrev s__law_flat : Stmt := top 58
def d__law_flat : He.DefD := ⟨("_law_flat", none), "_law_flat", "_law_flat", defArgs s__law_flat, defBody s__law_flat, defScope s__law_flat, [], []⟩
abbrev s__law_words : Stmt := top 59
def d__law_words : He.DefD := ⟨("_law_words", none), "_law_words", "_law_words", defArgs s__law_words, defBody s__law_words, defScope s__law_words, [], []⟩
abbrev s__law_again : Stmt := top 60
def d__law_again : He.DefD := ⟨("_law_again", none), "_law_again", "_law_again", defArgs s__law_again, defBody s__law_again, defScope s__law_again, [], []⟩
abbrev s__law_net_rides : Stmt := top 61
def d__law_net_rides : He.DefD := ⟨("_law_net_rides", none), "_law_net_rides", "_law_net_rides", defArgs s__law_net_rides, defBody s__law_net_rides, defScope s__law_net_rides, [], []⟩
abbrev s__law_reduced : Stmt := top 62
def d__law_reduced : He.DefD := ⟨("_law_reduced", none), "_law_reduced", "_law_reduced", defArgs s__law_reduced, defBody s__law_reduced, defScope s__law_reduced, [], []⟩
abbrev s__law_bill : Stmt := top 63
def d__law_bill : He.DefD := ⟨("_law_bill", none), "_law_bill", "_law_bill", defArgs s__law_bill, defBody s__law_bill, defScope s__law_bill, [], []⟩
abbrev s__law_ends_at : Stmt := top 64
def d__law_ends_at : He.DefD := ⟨("_law_ends_at", none), "_law_ends_at", "_law_ends_at", defArgs s__law_ends_at, defBody s__law_ends_at, defScope s__law_ends_at, [], []⟩
abbrev s__law_trip : Stmt := top 65
def d__law_trip : He.DefD := ⟨("_law_trip", none), "_law_trip", "_law_trip", defArgs s__law_trip, defBody s__law_trip, defScope s__law_trip, [], []⟩
abbrev s__law_parts : Stmt := top 66
def d__law_parts : He.DefD := ⟨("_law_parts", none), "_law_parts", "_law_parts", defArgs s__law_parts, defBody s__law_parts, defScope s__law_parts, [], []⟩
abbrev s__law_costs : Stmt := top 67
def d__law_costs : He.DefD := ⟨("_law_costs", none), "_law_costs", "_law_costs", defArgs s__law_costs, defBody s__law_costs, defScope s__law_costs, [], []⟩
abbrev s__law_broken : Stmt := top 68
def d__law_broken : He.DefD := ⟨("_law_broken", none), "_law_broken", "_law_broken", defArgs s__law_broken, defBody s__law_broken, defScope s__law_broken, [], []⟩
abbrev s__law_breaks : Stmt := top 69
def d__law_breaks : He.DefD := ⟨("_law_breaks", none), "_law_breaks", "_law_breaks", defArgs s__law_breaks, defBody s__law_breaks, defScope s__law_breaks, [], []⟩
abbrev s_law : Stmt := top 70
def d_law : He.DefD := ⟨("law", none), "law", "law", defArgs s_law, defBody s_law, defScope s_law, [], []⟩
def fn0 : List He.DefD := [d_Net___eq__, d_check_rope, d_check_colour, d_check_rides, d_check_nets, d_check_cars, d__check_guests, d_Standing___init__, d_far_end, d_car_station, d_guests_of, d_moved, d__is_possible, d_walk, d_prices_for, d_differences, d_outflows, d_Bill___init__, d_Bill___add__, d_Bill___sub__, d_Bill___neg__, d_Bill_cost, d_Bill_leads, d_bill_of, d__cut_off, d__check_size, d_Net___init__, d_Trip___init__, d_Trip_reduced, d_Trip_tally]
def fn1 : List He.DefD := [d_Trip___add__, d_Trip___invert__, d_Trip___len__, d_Trip___bool__, d__law_pot, d__law_load, d__law_draw, d__law_like, d__law_order, d__law_rope, d__law_tree, d__law_extra, d__law_spread, d__law_open, d__law_ridden, d__law_stand, d__law_flat, d__law_words, d__law_again, d__law_net_rides, d__law_reduced, d__law_bill, d__law_ends_at, d__law_trip, d__law_parts, d__law_costs, d__law_broken, d__law_breaks, d_law]
def fn : List He.DefD := fn0 ++ fn1
theorem ix_Net___eq__ : fn[0]? = some d_Net___eq__ := rfl
theorem ix_check_rope : fn[1]? = some d_check_rope := rfl
theorem ix_check_colour : fn[2]? = some d_check_colour := rfl
theorem ix_check_rides : fn[3]? = some d_check_rides := rfl
theorem ix_check_nets : fn[4]? = some d_check_nets := rfl
theorem ix_check_cars : fn[5]? = some d_check_cars := rfl
theorem ix__check_guests : fn[6]? = some d__check_guests := rfl
theorem ix_Standing___init__ : fn[7]? = some d_Standing___init__ := rfl
theorem ix_far_end : fn[8]? = some d_far_end := rfl
theorem ix_car_station : fn[9]? = some d_car_station := rfl
theorem ix_guests_of : fn[10]? = some d_guests_of := rfl
theorem ix_moved : fn[11]? = some d_moved := rfl
theorem ix__is_possible : fn[12]? = some d__is_possible := rfl
theorem ix_walk : fn[13]? = some d_walk := rfl
theorem ix_prices_for : fn[14]? = some d_prices_for := rfl
theorem ix_differences : fn[15]? = some d_differences := rfl
theorem ix_outflows : fn[16]? = some d_outflows := rfl
theorem ix_Bill___init__ : fn[17]? = some d_Bill___init__ := rfl
theorem ix_Bill___add__ : fn[18]? = some d_Bill___add__ := rfl
theorem ix_Bill___sub__ : fn[19]? = some d_Bill___sub__ := rfl
theorem ix_Bill___neg__ : fn[20]? = some d_Bill___neg__ := rfl
theorem ix_Bill_cost : fn[21]? = some d_Bill_cost := rfl
theorem ix_Bill_leads : fn[22]? = some d_Bill_leads := rfl
theorem ix_bill_of : fn[23]? = some d_bill_of := rfl
theorem ix__cut_off : fn[24]? = some d__cut_off := rfl
theorem ix__check_size : fn[25]? = some d__check_size := rfl
theorem ix_Net___init__ : fn[26]? = some d_Net___init__ := rfl
theorem ix_Trip___init__ : fn[27]? = some d_Trip___init__ := rfl
theorem ix_Trip_reduced : fn[28]? = some d_Trip_reduced := rfl
theorem ix_Trip_tally : fn[29]? = some d_Trip_tally := rfl
theorem ix_Trip___add__ : fn[30]? = some d_Trip___add__ := rfl
theorem ix_Trip___invert__ : fn[31]? = some d_Trip___invert__ := rfl
theorem ix_Trip___len__ : fn[32]? = some d_Trip___len__ := rfl
theorem ix_Trip___bool__ : fn[33]? = some d_Trip___bool__ := rfl
theorem ix__law_pot : fn[34]? = some d__law_pot := rfl
theorem ix__law_load : fn[35]? = some d__law_load := rfl
theorem ix__law_draw : fn[36]? = some d__law_draw := rfl
theorem ix__law_like : fn[37]? = some d__law_like := rfl
theorem ix__law_order : fn[38]? = some d__law_order := rfl
theorem ix__law_rope : fn[39]? = some d__law_rope := rfl
theorem ix__law_tree : fn[40]? = some d__law_tree := rfl
theorem ix__law_extra : fn[41]? = some d__law_extra := rfl
theorem ix__law_spread : fn[42]? = some d__law_spread := rfl
theorem ix__law_open : fn[43]? = some d__law_open := rfl
theorem ix__law_ridden : fn[44]? = some d__law_ridden := rfl
theorem ix__law_stand : fn[45]? = some d__law_stand := rfl
theorem ix__law_flat : fn[46]? = some d__law_flat := rfl
theorem ix__law_words : fn[47]? = some d__law_words := rfl
theorem ix__law_again : fn[48]? = some d__law_again := rfl
theorem ix__law_net_rides : fn[49]? = some d__law_net_rides := rfl
theorem ix__law_reduced : fn[50]? = some d__law_reduced := rfl
theorem ix__law_bill : fn[51]? = some d__law_bill := rfl
theorem ix__law_ends_at : fn[52]? = some d__law_ends_at := rfl
theorem ix__law_trip : fn[53]? = some d__law_trip := rfl
theorem ix__law_parts : fn[54]? = some d__law_parts := rfl
theorem ix__law_costs : fn[55]? = some d__law_costs := rfl
theorem ix__law_broken : fn[56]? = some d__law_broken := rfl
theorem ix__law_breaks : fn[57]? = some d__law_breaks := rfl
theorem ix_law : fn[58]? = some d_law := rfl
def fa0 : List He.Fa := [.glo "check_rope", .glo "check_colour", .glo "check_rides", .glo "check_nets", .glo "check_cars", .glo "_check_guests", .glo "far_end", .glo "car_station", .glo "guests_of", .glo "moved", .glo "_is_possible", .glo "walk", .glo "prices_for", .glo "differences", .glo "outflows", .glo "bill_of", .glo "_cut_off", .glo "_check_size", .glo "_law_pot", .glo "_law_load", .glo "_law_draw", .glo "_law_like", .glo "_law_order", .glo "_law_rope", .glo "_law_tree", .glo "_law_extra", .glo "_law_spread", .glo "_law_open", .glo "_law_ridden", .glo "_law_stand"]
def fa1 : List He.Fa := [.glo "_law_flat", .glo "_law_words", .glo "_law_again", .glo "_law_net_rides", .glo "_law_reduced", .glo "_law_bill", .glo "_law_ends_at", .glo "_law_trip", .glo "_law_parts", .glo "_law_costs", .glo "_law_broken", .glo "_law_breaks", .glo "law", .glo "Standing", .glo "Bill", .glo "Net", .glo "Trip", .free "len", .free "range", .free "sum", .free "abs", .free "min", .free "max", .free "isinstance", .free "zip", .free "enumerate", .free "list", .free "tuple", .free "int", .free "str"]
def fa2 : List He.Fa := [.free "bool", .free "all", .cls "Standing", .mkr "Standing", .noat "Standing" "net", .noat "Standing" "reds", .noat "Standing" "blues", .noat "Standing" "cars", .cls "Bill", .mkr "Bill", .noat "Bill" "net", .noat "Bill" "reds", .noat "Bill" "blues", .cls "Net", .mkr "Net", .noat "Net" "stations", .noat "Net" "ropes", .cls "Trip", .mkr "Trip", .noat "Trip" "rides", .meth "Net" "__eq__", .meth "Bill" "__add__", .meth "Bill" "__sub__", .meth "Bill" "__neg__", .meth "Bill" "cost", .meth "Bill" "leads", .meth "Trip" "reduced", .meth "Trip" "tally", .meth "Trip" "__add__", .meth "Trip" "__invert__"]
def fa3 : List He.Fa := [.meth "Trip" "__len__", .meth "Trip" "__bool__"]
def fa : List He.Fa := fa0 ++ fa1 ++ fa2 ++ fa3
def xs : List FxB := [fxSelf "Bill", fxSelf "Trip", fxNe "Net", fxIns "Standing", fxIns "Bill", fxIns "Net", fxIns "Trip", fxCon "Standing" "MOST_GUESTS" 30, fxCon "Net" "MOST_ROPES" 40, fxCVal "Net" "MOST_STATIONS" 24]
section
variable {K : PySem.W.Frag} {mg : Str → Option Value}
theorem g_check_rope (T : Hd fn fa xs K mg) : mg "check_rope" = some (.ref (He.ga K "check_rope")) := T.glos 0 _ rfl
theorem g_check_colour (T : Hd fn fa xs K mg) : mg "check_colour" = some (.ref (He.ga K "check_colour")) := T.glos 1 _ rfl
theorem g_check_rides (T : Hd fn fa xs K mg) : mg "check_rides" = some (.ref (He.ga K "check_rides")) := T.glos 2 _ rfl
theorem g_check_nets (T : Hd fn fa xs K mg) : mg "check_nets" = some (.ref (He.ga K "check_nets")) := T.glos 3 _ rfl
theorem g_check_cars (T : Hd fn fa xs K mg) : mg "check_cars" = some (.ref (He.ga K "check_cars")) := T.glos 4 _ rfl
theorem g__check_guests (T : Hd fn fa xs K mg) : mg "_check_guests" = some (.ref (He.ga K "_check_guests")) := T.glos 5 _ rfl
theorem g_far_end (T : Hd fn fa xs K mg) : mg "far_end" = some (.ref (He.ga K "far_end")) := T.glos 6 _ rfl
theorem g_car_station (T : Hd fn fa xs K mg) : mg "car_station" = some (.ref (He.ga K "car_station")) := T.glos 7 _ rfl
theorem g_guests_of (T : Hd fn fa xs K mg) : mg "guests_of" = some (.ref (He.ga K "guests_of")) := T.glos 8 _ rfl
theorem g_moved (T : Hd fn fa xs K mg) : mg "moved" = some (.ref (He.ga K "moved")) := T.glos 9 _ rfl
theorem g__is_possible (T : Hd fn fa xs K mg) : mg "_is_possible" = some (.ref (He.ga K "_is_possible")) := T.glos 10 _ rfl
theorem g_walk (T : Hd fn fa xs K mg) : mg "walk" = some (.ref (He.ga K "walk")) := T.glos 11 _ rfl
theorem g_prices_for (T : Hd fn fa xs K mg) : mg "prices_for" = some (.ref (He.ga K "prices_for")) := T.glos 12 _ rfl
theorem g_differences (T : Hd fn fa xs K mg) : mg "differences" = some (.ref (He.ga K "differences")) := T.glos 13 _ rfl
theorem g_outflows (T : Hd fn fa xs K mg) : mg "outflows" = some (.ref (He.ga K "outflows")) := T.glos 14 _ rfl
theorem g_bill_of (T : Hd fn fa xs K mg) : mg "bill_of" = some (.ref (He.ga K "bill_of")) := T.glos 15 _ rfl
theorem g__cut_off (T : Hd fn fa xs K mg) : mg "_cut_off" = some (.ref (He.ga K "_cut_off")) := T.glos 16 _ rfl
theorem g__check_size (T : Hd fn fa xs K mg) : mg "_check_size" = some (.ref (He.ga K "_check_size")) := T.glos 17 _ rfl
theorem g__law_pot (T : Hd fn fa xs K mg) : mg "_law_pot" = some (.ref (He.ga K "_law_pot")) := T.glos 18 _ rfl
theorem g__law_load (T : Hd fn fa xs K mg) : mg "_law_load" = some (.ref (He.ga K "_law_load")) := T.glos 19 _ rfl
theorem g__law_draw (T : Hd fn fa xs K mg) : mg "_law_draw" = some (.ref (He.ga K "_law_draw")) := T.glos 20 _ rfl
theorem g__law_like (T : Hd fn fa xs K mg) : mg "_law_like" = some (.ref (He.ga K "_law_like")) := T.glos 21 _ rfl
theorem g__law_order (T : Hd fn fa xs K mg) : mg "_law_order" = some (.ref (He.ga K "_law_order")) := T.glos 22 _ rfl
theorem g__law_rope (T : Hd fn fa xs K mg) : mg "_law_rope" = some (.ref (He.ga K "_law_rope")) := T.glos 23 _ rfl
theorem g__law_tree (T : Hd fn fa xs K mg) : mg "_law_tree" = some (.ref (He.ga K "_law_tree")) := T.glos 24 _ rfl
theorem g__law_extra (T : Hd fn fa xs K mg) : mg "_law_extra" = some (.ref (He.ga K "_law_extra")) := T.glos 25 _ rfl
theorem g__law_spread (T : Hd fn fa xs K mg) : mg "_law_spread" = some (.ref (He.ga K "_law_spread")) := T.glos 26 _ rfl
theorem g__law_open (T : Hd fn fa xs K mg) : mg "_law_open" = some (.ref (He.ga K "_law_open")) := T.glos 27 _ rfl
theorem g__law_ridden (T : Hd fn fa xs K mg) : mg "_law_ridden" = some (.ref (He.ga K "_law_ridden")) := T.glos 28 _ rfl
theorem g__law_stand (T : Hd fn fa xs K mg) : mg "_law_stand" = some (.ref (He.ga K "_law_stand")) := T.glos 29 _ rfl
theorem g__law_flat (T : Hd fn fa xs K mg) : mg "_law_flat" = some (.ref (He.ga K "_law_flat")) := T.glos 30 _ rfl
theorem g__law_words (T : Hd fn fa xs K mg) : mg "_law_words" = some (.ref (He.ga K "_law_words")) := T.glos 31 _ rfl
theorem g__law_again (T : Hd fn fa xs K mg) : mg "_law_again" = some (.ref (He.ga K "_law_again")) := T.glos 32 _ rfl
theorem g__law_net_rides (T : Hd fn fa xs K mg) : mg "_law_net_rides" = some (.ref (He.ga K "_law_net_rides")) := T.glos 33 _ rfl
theorem g__law_reduced (T : Hd fn fa xs K mg) : mg "_law_reduced" = some (.ref (He.ga K "_law_reduced")) := T.glos 34 _ rfl
theorem g__law_bill (T : Hd fn fa xs K mg) : mg "_law_bill" = some (.ref (He.ga K "_law_bill")) := T.glos 35 _ rfl
theorem g__law_ends_at (T : Hd fn fa xs K mg) : mg "_law_ends_at" = some (.ref (He.ga K "_law_ends_at")) := T.glos 36 _ rfl
theorem g__law_trip (T : Hd fn fa xs K mg) : mg "_law_trip" = some (.ref (He.ga K "_law_trip")) := T.glos 37 _ rfl
theorem g__law_parts (T : Hd fn fa xs K mg) : mg "_law_parts" = some (.ref (He.ga K "_law_parts")) := T.glos 38 _ rfl
theorem g__law_costs (T : Hd fn fa xs K mg) : mg "_law_costs" = some (.ref (He.ga K "_law_costs")) := T.glos 39 _ rfl
theorem g__law_broken (T : Hd fn fa xs K mg) : mg "_law_broken" = some (.ref (He.ga K "_law_broken")) := T.glos 40 _ rfl
theorem g__law_breaks (T : Hd fn fa xs K mg) : mg "_law_breaks" = some (.ref (He.ga K "_law_breaks")) := T.glos 41 _ rfl
theorem g_law (T : Hd fn fa xs K mg) : mg "law" = some (.ref (He.ga K "law")) := T.glos 42 _ rfl
theorem g_Standing (T : Hd fn fa xs K mg) : mg "Standing" = some (.ref (He.ga K "Standing")) := T.glos 43 _ rfl
theorem g_Bill (T : Hd fn fa xs K mg) : mg "Bill" = some (.ref (He.ga K "Bill")) := T.glos 44 _ rfl
theorem g_Net (T : Hd fn fa xs K mg) : mg "Net" = some (.ref (He.ga K "Net")) := T.glos 45 _ rfl
theorem g_Trip (T : Hd fn fa xs K mg) : mg "Trip" = some (.ref (He.ga K "Trip")) := T.glos 46 _ rfl
theorem fr_len (T : Hd fn fa xs K mg) : mg "len" = none := T.frees 47 _ rfl
theorem fr_range (T : Hd fn fa xs K mg) : mg "range" = none := T.frees 48 _ rfl
theorem fr_sum (T : Hd fn fa xs K mg) : mg "sum" = none := T.frees 49 _ rfl
theorem fr_abs (T : Hd fn fa xs K mg) : mg "abs" = none := T.frees 50 _ rfl
theorem fr_min (T : Hd fn fa xs K mg) : mg "min" = none := T.frees 51 _ rfl
theorem fr_max (T : Hd fn fa xs K mg) : mg "max" = none := T.frees 52 _ rfl
theorem fr_isinstance (T : Hd fn fa xs K mg) : mg "isinstance" = none := T.frees 53 _ rfl
theorem fr_zip (T : Hd fn fa xs K mg) : mg "zip" = none := T.frees 54 _ rfl
theorem fr_enumerate (T : Hd fn fa xs K mg) : mg "enumerate" = none := T.frees 55 _ rfl
theorem fr_list (T : Hd fn fa xs K mg) : mg "list" = none := T.frees 56 _ rfl
theorem fr_tuple (T : Hd fn fa xs K mg) : mg "tuple" = none := T.frees 57 _ rfl
theorem fr_int (T : Hd fn fa xs K mg) : mg "int" = none := T.frees 58 _ rfl
theorem fr_str (T : Hd fn fa xs K mg) : mg "str" = none := T.frees 59 _ rfl
theorem fr_bool (T : Hd fn fa xs K mg) : mg "bool" = none := T.frees 60 _ rfl
theorem fr_all (T : Hd fn fa xs K mg) : mg "all" = none := T.frees 61 _ rfl
theorem cl_Standing (T : Hd fn fa xs K mg) : Cls K (He.ga K "Standing") := He.cls_ok (T.facts 62 _ rfl)
theorem mk_Standing (T : Hd fn fa xs K mg) : Mk K (He.ga K "Standing") (He.fAd K d_Standing___init__.at_) := He.mkr_ok (T.facts 63 _ rfl)
theorem na_Standing_net (T : Hd fn fa xs K mg) : NoAttr K (He.ga K "Standing") "net" := He.noat_ok (T.facts 64 _ rfl)
theorem na_Standing_reds (T : Hd fn fa xs K mg) : NoAttr K (He.ga K "Standing") "reds" := He.noat_ok (T.facts 65 _ rfl)
theorem na_Standing_blues (T : Hd fn fa xs K mg) : NoAttr K (He.ga K "Standing") "blues" := He.noat_ok (T.facts 66 _ rfl)
theorem na_Standing_cars (T : Hd fn fa xs K mg) : NoAttr K (He.ga K "Standing") "cars" := He.noat_ok (T.facts 67 _ rfl)
theorem cl_Bill (T : Hd fn fa xs K mg) : Cls K (He.ga K "Bill") := He.cls_ok (T.facts 68 _ rfl)
theorem mk_Bill (T : Hd fn fa xs K mg) : Mk K (He.ga K "Bill") (He.fAd K d_Bill___init__.at_) := He.mkr_ok (T.facts 69 _ rfl)
theorem na_Bill_net (T : Hd fn fa xs K mg) : NoAttr K (He.ga K "Bill") "net" := He.noat_ok (T.facts 70 _ rfl)
theorem na_Bill_reds (T : Hd fn fa xs K mg) : NoAttr K (He.ga K "Bill") "reds" := He.noat_ok (T.facts 71 _ rfl)
theorem na_Bill_blues (T : Hd fn fa xs K mg) : NoAttr K (He.ga K "Bill") "blues" := He.noat_ok (T.facts 72 _ rfl)
theorem cl_Net (T : Hd fn fa xs K mg) : Cls K (He.ga K "Net") := He.cls_ok (T.facts 73 _ rfl)
theorem mk_Net (T : Hd fn fa xs K mg) : Mk K (He.ga K "Net") (He.fAd K d_Net___init__.at_) := He.mkr_ok (T.facts 74 _ rfl)
theorem na_Net_stations (T : Hd fn fa xs K mg) : NoAttr K (He.ga K "Net") "stations" := He.noat_ok (T.facts 75 _ rfl)
theorem na_Net_ropes (T : Hd fn fa xs K mg) : NoAttr K (He.ga K "Net") "ropes" := He.noat_ok (T.facts 76 _ rfl)
theorem cl_Trip (T : Hd fn fa xs K mg) : Cls K (He.ga K "Trip") := He.cls_ok (T.facts 77 _ rfl)
theorem mk_Trip (T : Hd fn fa xs K mg) : Mk K (He.ga K "Trip") (He.fAd K d_Trip___init__.at_) := He.mkr_ok (T.facts 78 _ rfl)
theorem na_Trip_rides (T : Hd fn fa xs K mg) : NoAttr K (He.ga K "Trip") "rides" := He.noat_ok (T.facts 79 _ rfl)
theorem me_Net___eq__ (T : Hd fn fa xs K mg) : Meth K (He.ga K "Net") "__eq__" (He.fAd K d_Net___eq__.at_) := He.meth_ok (T.facts 80 _ rfl)
theorem du_Net___eq__ (T : Hd fn fa xs K mg) : Dun K (He.ga K "Net") (He.fAd K d_Net___eq__.at_) "__eq__" := dun_ok (T.facts 80 _ rfl)
theorem me_Bill___add__ (T : Hd fn fa xs K mg) : Meth K (He.ga K "Bill") "__add__" (He.fAd K d_Bill___add__.at_) := He.meth_ok (T.facts 81 _ rfl)
theorem du_Bill___add__ (T : Hd fn fa xs K mg) : Dun K (He.ga K "Bill") (He.fAd K d_Bill___add__.at_) "__add__" := dun_ok (T.facts 81 _ rfl)
theorem me_Bill___sub__ (T : Hd fn fa xs K mg) : Meth K (He.ga K "Bill") "__sub__" (He.fAd K d_Bill___sub__.at_) := He.meth_ok (T.facts 82 _ rfl)
theorem du_Bill___sub__ (T : Hd fn fa xs K mg) : Dun K (He.ga K "Bill") (He.fAd K d_Bill___sub__.at_) "__sub__" := dun_ok (T.facts 82 _ rfl)
theorem me_Bill___neg__ (T : Hd fn fa xs K mg) : Meth K (He.ga K "Bill") "__neg__" (He.fAd K d_Bill___neg__.at_) := He.meth_ok (T.facts 83 _ rfl)
theorem du_Bill___neg__ (T : Hd fn fa xs K mg) : Dun K (He.ga K "Bill") (He.fAd K d_Bill___neg__.at_) "__neg__" := dun_ok (T.facts 83 _ rfl)
theorem me_Bill_cost (T : Hd fn fa xs K mg) : Meth K (He.ga K "Bill") "cost" (He.fAd K d_Bill_cost.at_) := He.meth_ok (T.facts 84 _ rfl)
theorem du_Bill_cost (T : Hd fn fa xs K mg) : Dun K (He.ga K "Bill") (He.fAd K d_Bill_cost.at_) "cost" := dun_ok (T.facts 84 _ rfl)
theorem me_Bill_leads (T : Hd fn fa xs K mg) : Meth K (He.ga K "Bill") "leads" (He.fAd K d_Bill_leads.at_) := He.meth_ok (T.facts 85 _ rfl)
theorem du_Bill_leads (T : Hd fn fa xs K mg) : Dun K (He.ga K "Bill") (He.fAd K d_Bill_leads.at_) "leads" := dun_ok (T.facts 85 _ rfl)
theorem me_Trip_reduced (T : Hd fn fa xs K mg) : Meth K (He.ga K "Trip") "reduced" (He.fAd K d_Trip_reduced.at_) := He.meth_ok (T.facts 86 _ rfl)
theorem du_Trip_reduced (T : Hd fn fa xs K mg) : Dun K (He.ga K "Trip") (He.fAd K d_Trip_reduced.at_) "reduced" := dun_ok (T.facts 86 _ rfl)
theorem me_Trip_tally (T : Hd fn fa xs K mg) : Meth K (He.ga K "Trip") "tally" (He.fAd K d_Trip_tally.at_) := He.meth_ok (T.facts 87 _ rfl)
theorem du_Trip_tally (T : Hd fn fa xs K mg) : Dun K (He.ga K "Trip") (He.fAd K d_Trip_tally.at_) "tally" := dun_ok (T.facts 87 _ rfl)
theorem me_Trip___add__ (T : Hd fn fa xs K mg) : Meth K (He.ga K "Trip") "__add__" (He.fAd K d_Trip___add__.at_) := He.meth_ok (T.facts 88 _ rfl)
theorem du_Trip___add__ (T : Hd fn fa xs K mg) : Dun K (He.ga K "Trip") (He.fAd K d_Trip___add__.at_) "__add__" := dun_ok (T.facts 88 _ rfl)
theorem me_Trip___invert__ (T : Hd fn fa xs K mg) : Meth K (He.ga K "Trip") "__invert__" (He.fAd K d_Trip___invert__.at_) := He.meth_ok (T.facts 89 _ rfl)
theorem du_Trip___invert__ (T : Hd fn fa xs K mg) : Dun K (He.ga K "Trip") (He.fAd K d_Trip___invert__.at_) "__invert__" := dun_ok (T.facts 89 _ rfl)
theorem me_Trip___len__ (T : Hd fn fa xs K mg) : Meth K (He.ga K "Trip") "__len__" (He.fAd K d_Trip___len__.at_) := He.meth_ok (T.facts 90 _ rfl)
theorem du_Trip___len__ (T : Hd fn fa xs K mg) : Dun K (He.ga K "Trip") (He.fAd K d_Trip___len__.at_) "__len__" := dun_ok (T.facts 90 _ rfl)
theorem me_Trip___bool__ (T : Hd fn fa xs K mg) : Meth K (He.ga K "Trip") "__bool__" (He.fAd K d_Trip___bool__.at_) := He.meth_ok (T.facts 91 _ rfl)
theorem du_Trip___bool__ (T : Hd fn fa xs K mg) : Dun K (He.ga K "Trip") (He.fAd K d_Trip___bool__.at_) "__bool__" := dun_ok (T.facts 91 _ rfl)
theorem sf_Bill (T : Hd fn fa xs K mg) : PySem.W.selfFirst K (He.ga K "Bill") = true := T.more 0 _ rfl
theorem sf_Trip (T : Hd fn fa xs K mg) : PySem.W.selfFirst K (He.ga K "Trip") = true := T.more 1 _ rfl
theorem ne_Net (T : Hd fn fa xs K mg) : PySem.W.findIn K (.ref (He.ga K "Net")) "__ne__" = some (some (.builtin "object.__ne__")) ∧ PySem.W.mroIn K (He.ga K "Net") (.type "object") = some true := fxNe_ok (T.more 2 _ rfl)
theorem in_Standing (T : Hd fn fa xs K mg) : C8.InsC K (He.ga K "Standing") := fxIns_ok (T.more 3 _ rfl)
theorem in_Bill (T : Hd fn fa xs K mg) : C8.InsC K (He.ga K "Bill") := fxIns_ok (T.more 4 _ rfl)
theorem in_Net (T : Hd fn fa xs K mg) : C8.InsC K (He.ga K "Net") := fxIns_ok (T.more 5 _ rfl)
theorem in_Trip (T : Hd fn fa xs K mg) : C8.InsC K (He.ga K "Trip") := fxIns_ok (T.more 6 _ rfl)
theorem co_Standing_MOST_GUESTS (T : Hd fn fa xs K mg) : fxCon "Standing" "MOST_GUESTS" 30 K = true := T.more 7 _ rfl
theorem co_Net_MOST_ROPES (T : Hd fn fa xs K mg) : fxCon "Net" "MOST_ROPES" 40 K = true := T.more 8 _ rfl
theorem cv_Net_MOST_STATIONS (T : Hd fn fa xs K mg) : fxCVal "Net" "MOST_STATIONS" 24 K = true := T.more 9 _ rfl
end
end Tw

set_option Elab.async false
set_option linter.all false
set_option maxRecDepth 100000
set_option maxHeartbeats 4000000
/-! BrokenRow: its __init__ and what the head must say of it. -/
namespace Tw
open PySem PySem.Spec PyProof.Rows L2 NdefX
abbrev s_BR : Stmt := inClass (top 11) 0
def brAt : Str × Option Str := ("BrokenRow", some "__init__")
def br1 : List Stmt := (defBody s_BR).take 3
def supArg : List Stmt → Expr
  | [.Expr (.Call _ [e] _ _) _] => e
  | _ => .Constant (.int 0) 0 ⟨0, 0, 0, 0⟩
def brArg : Expr := supArg ((defBody s_BR).drop 3)
abbrev N_BR : List Str := ["self", "step", "rope", "colour", "__class__"]
abbrev ps_BR : List Str := ["self", "step", "rope", "colour"]
theorem sc_BR : NScope N_BR ps_BR ["__class__"] (defScope s_BR) := nscope_by (by decide +kernel)
theorem num_small : ∀ n, n < 200 → ((toString ((n : Nat) : Int) : Str)).length ≤ 10 := by decide +kernel
/-- told of a BrokenRow that is made: its step and rope below 200, its colour a word -/
def sp_BR (C : Addr) : Sp := fun vs H Q _ => ∃ (a : Addr) (i k : Nat) (c : Str), vs = [.ref a, .int i, .int k, .str c] ∧ i < 200 ∧ k < 200 ∧ c.length ≤ 10 ∧ H a = some (exo a C none) ∧
  ∀ dx, H dx = none → dx ≠ a → Q .non (upd (upd (upd (upd H dx (exd dx [("step", .int i)])) a (exo a C (some dx))) dx (exd dx [("rope", .int k), ("step", .int i)])) dx (exd dx [("colour", .str c), ("rope", .int k), ("step", .int i)]))
section
variable {P : Program} {w : World} {K : PySem.W.Frag} {mg : Str → Option Value} {base : Heap} {CX : CXT} {C cc cda f : Addr} {A : Around} {outer : List PySem.Env} {s : Shared} {H : Hp} {E : XK}
def t_BR1 (K : PySem.W.Frag) : TS := tSeq (tOst K "step" (tVar 0) (tVar 1)) (tSeq (tOst K "rope" (tVar 0) (tVar 2)) (tOst K "colour" (tVar 0) (tVar 3)))
theorem dv_BR1 {F : NF} (hF : F.scope = defScope s_BR) : PSs (ncx CX P w K mg base N_BR F f A outer s H E) br1 (t_BR1 K) := by
  obtain ⟨n, q, pr, b, sc, cl, c⟩ := F
  subst hF
  exact (pss_cons (ps_ost (pe_var (i := 0) rfl (.inl rfl)) (pe_var (i := 1) rfl (.inl rfl)))
    (pss_cons (ps_ost (pe_var (i := 0) rfl (.inl rfl)) (pe_var (i := 2) rfl (.inl rfl)))
    (pss_one (ps_ost (pe_var (i := 0) rfl (.inl rfl)) (pe_var (i := 3) rfl (.inl rfl))))))
def t_BRs : List TE := [tC (.str "no "), tFmt (tVar 3), tC (.str " ride over rope "), tFmt (tVar 2), tC (.str " is possible at step "), tFmt (tVar 1)]
theorem dv_BR2 {F : NF} (hF : F.scope = defScope s_BR) : PA (ncx CX P w K mg base N_BR F f A outer s H E) [brArg] (tCons (fun σ H Q => tJs t_BRs Str.empty σ H fun out H1 => Q (.str out) H1) tNil) := by
  obtain ⟨n, q, pr, b, sc, cl, c⟩ := F
  subst hF
  exact pa_cons (pe_joined (.cons pe_str (.cons (pe_fmt (pe_var (i := 3) rfl (.inl rfl))) (.cons pe_str (.cons (pe_fmt (pe_var (i := 2) rfl (.inl rfl))) (.cons pe_str (.cons (pe_fmt (pe_var (i := 1) rfl (.inl rfl))) .nil))))))) pa_nil
theorem br_text {i k : Nat} {c : Str} (hi : i < 200) (hk : k < 200) (hc : c.length ≤ 10) {σ : L2.St} {H : Hp} {Q : V → Hp → Prop} (h1 : σ[1]? = some (some (.int i))) (h2 : σ[2]? = some (some (.int k))) (h3 : σ[3]? = some (some (.str c))) (q : ∀ out, Q (.str out) H) :
    tJs t_BRs Str.empty σ H fun out H1 => Q (.str out) H1 := by
  have s1 : (12000 : Nat) ≤ sizeLine := by rw [sizeLine_eq]; decide
  have l1 := num_small i hi
  have l2 := num_small k hk
  have g1 : ((i : Nat) : Int).natAbs.log2 < 1920 := by
    rw [Int.natAbs_natCast]
    exact Nat.lt_of_le_of_lt (Nat.log2_le_self i) (by omega)
  have g2 : ((k : Nat) : Int).natAbs.log2 < 1920 := by
    rw [Int.natAbs_natCast]
    exact Nat.lt_of_le_of_lt (Nat.log2_le_self k) (by omega)
  have w0 : Str.empty.length = 0 := rfl
  have w1 : ("no " : Str).length = 3 := by decide
  have w2 : (" ride over rope " : Str).length = 16 := by decide
  have w3 : (" is possible at step " : Str).length = 21 := by decide
  refine ⟨_, rfl, by rw [PySem.Str.length_append]; omega, ?_⟩
  refine ⟨_, h3, .inl ⟨_, rfl, by omega, _, rfl, by rw [PySem.Str.length_append, PySem.Str.length_append]; omega, ?_⟩⟩
  refine ⟨_, rfl, by simp only [PySem.Str.length_append]; omega, ?_⟩
  refine ⟨_, h2, .inr ⟨_, rfl, g2, _, rfl, by simp only [PySem.Str.length_append]; omega, ?_⟩⟩
  refine ⟨_, rfl, by simp only [PySem.Str.length_append]; omega, ?_⟩
  refine ⟨_, h1, .inr ⟨_, rfl, g1, _, rfl, by simp only [PySem.Str.length_append]; omega, ?_⟩⟩
  exact q _
theorem ok_BR {oc : Value} {od : Option Addr} {dV kV doc pm ct : Value} {an : Option Addr} {osl : Array (Option Value)}
    (lk : K.lookup f = some ⟨oc, od, .func (PySem.W.fnX "__init__" "BrokenRow.__init__" (defArgs s_BR) (defBody s_BR) (defScope s_BR) [("__class__", cc)] dV kV doc pm an (.ref cda) ct), osl⟩) (hcd : PySem.W.codeIn K (.ref cda) "BrokenRow.__init__" = true)
    (SC : SupC P K f C cda cc "self") (O : OexC K C) (h1 : PySem.W.findIn K (.ref C) "step" = some none) (h2 : PySem.W.findIn K (.ref C) "rope" = some none) (h3 : PySem.W.findIn K (.ref C) "colour" = some none) (hm : mg "super" = none) :
    FnOk P w K mg base CX 1 f (PySem.W.fnX "__init__" "BrokenRow.__init__" (defArgs s_BR) (defBody s_BR) (defScope s_BR) [("__class__", cc)] dV kV doc pm an (.ref cda) ct) ps_BR (sp_BR C) := by
  refine fn_super (N := N_BR) (b1 := br1) (e1 := brArg) lk hcd sc_BR SC O rfl rfl (by decide +kernel) hm (fun vs H Q E ⟨_, _, _, _, e, _⟩ => by rw [e]; rfl) (fun A outer s H vs Q E hr hsp => ⟨t_BR1 K, _, dv_BR1 rfl, dv_BR2 rfl, ?_⟩) (fun env => rfl) (fun env => rfl) (fun env => ⟨_, rfl⟩)
  obtain ⟨a, i, k, c, rfl, hi, hk, hc, ha, q⟩ := hsp
  refine ⟨_, rfl, _, rfl, a, C, rfl, O, h1, .inl ⟨ha, fun dx hd hne => ?_⟩⟩
  refine ⟨_, rfl, _, rfl, a, C, rfl, O, h2, .inr ⟨dx, _, upd_same, by rw [upd_ne hne]; exact upd_same, Nat.le_of_ble_eq_true rfl, ?_⟩⟩
  refine ⟨_, rfl, _, rfl, a, C, rfl, O, h3, .inr ⟨dx, _, by rw [upd_ne (Ne.symm hne)]; exact upd_same, upd_same, Nat.le_of_ble_eq_true rfl, ?_⟩⟩
  refine ⟨a, dx, _, rfl, by rw [upd_ne (Ne.symm hne), upd_ne (Ne.symm hne)]; exact upd_same, upd_same, ?_⟩
  refine br_text (Q := fun v H1 => ([v] : List V).length ≤ 1000 ∧ H1 a = some (exo a C (some dx)) ∧ Q .non H1) (σ := startF N_BR [.ref a, .int i, .int k, .str c] [none]) hi hk hc rfl rfl rfl fun out => ?_
  exact ⟨Nat.le_of_ble_eq_true rfl, by rw [upd_ne (Ne.symm hne), upd_ne (Ne.symm hne)]; exact upd_same, q dx hd hne⟩
end
end Tw

set_option Elab.async false
set_option linter.all false
set_option maxRecDepth 100000
set_option maxHeartbeats 4000000
/-! BrokenRow: what the rest needs of it; isinstance of the raised; defs called where it is handled. -/
namespace Tw
open PySem PySem.Spec PyProof.Rows L2 NdefX
abbrev CBR (K : PySem.W.Frag) : Addr := He.ga K "BrokenRow"
/-- of BrokenRow (its __init__ at fI) and RopeError -/
structure BRF (P : Program) (w : World) (K : PySem.W.Frag) (mg : Str → Option Value) (base : Heap) (fI : Addr) (fd : FuncData) : Prop where
  oex : OexC K (CBR K)
  xf : XfC K (CBR K)
  n1 : PySem.W.findIn K (.ref (CBR K)) "step" = some none
  n2 : PySem.W.findIn K (.ref (CBR K)) "rope" = some none
  n3 : PySem.W.findIn K (.ref (CBR K)) "colour" = some none
  mgC : mg "BrokenRow" = some (.ref (CBR K))
  iC : PySem.W.findIn K (.ref (CBR K)) "__init__" = some (some (.ref fI))
  tI : PySem.W.typeIn K (.ref fI) = some (.type "function")
  fn : FnOk P w K mg base CX0 1 fI fd ps_BR (sp_BR (CBR K))
  bd : Binds K fd ps_BR []
  mgR : mg "RopeError" = some (.ref (He.ga K "RopeError"))
  exm : PySem.W.exmOne K (.ref (CBR K)) (.ref (He.ga K "RopeError")) = some true
section
variable {P : Program} {w : World} {K : PySem.W.Frag} {mg : Str → Option Value} {base : Heap} {W : WX} {S : Store} {Γ : Env} {Ψ : EndsD} {Ξ : XSt} {ta : TA} {C : Addr}
theorem Sub.upd {S S' : Store} {a : Addr} {c : Cell} (h : Sub S S') : Sub (stU S a c) (stU S' a c) := fun b c' e => by
  unfold stU at e ⊢
  split at e
  · rename_i hb; rw [if_pos hb]; exact e
  · rename_i hb; rw [if_neg hb]; exact h b c' e
def brD (i k : Nat) (c : Str) : Cell := .xd ["colour", "rope", "step"] [.str c, .int k, .int i]
theorem wx_raiseBR (h : WA K ta S Γ fun ds S1 => ∃ (i k : Nat) (c : Str), ds = [.int i, .int k, .str c] ∧ i < 200 ∧ k < 200 ∧ c.length ≤ 10 ∧ ∀ dd, S1 dd = none → ∃ S2, Sub S2 (stU S1 dd (brD i k c)) ∧ Ξ C (some dd) S2 Γ) : WSX K W (tRaise W (tMkO C (sp_BR C) [] ta)) S Γ Ψ Ξ := fun F H σ D0 hs hg q1 q2 q3 q4 qx =>
  h F H σ _ hs hg fun F1 H1 vs ds S1 p1 r1 ⟨i, k, c, e, hi, hk, hc, f⟩ => by
    subst e
    obtain ⟨v1, l1, rfl, a1, b1⟩ := r1.uncons
    obtain ⟨v2, l2, rfl, a2, b2⟩ := b1.uncons
    obtain ⟨v3, l3, rfl, a3, b3⟩ := b2.uncons
    rw [b3.unnil]
    cases a1; cases a2; cases a3
    refine ⟨Nat.le_of_ble_eq_true rfl, fun a na => ?_⟩
    refine ⟨a, i, k, c, rfl, hi, hk, hc, upd_same, fun dx hd hne => ?_⟩
    have nd : H1 dx = none := by rw [upd_ne hne] at hd; exact hd
    refine ⟨rfl, dx, [("colour", .str c), ("rope", .int k), ("step", .int i)], ?_, upd_same, nd, ?_⟩
    · rw [upd_ne (Ne.symm hne), upd_ne (Ne.symm hne)]; exact upd_same
    have eh : upd (del (upd (upd (upd (upd (upd H1 a (exo a C none)) dx (exd dx [("step", .int i)])) a (exo a C (some dx))) dx (exd dx [("rope", .int k), ("step", .int i)])) dx (exd dx [("colour", .str c), ("rope", .int k), ("step", .int i)])) a) dx (.xd [("colour", .str c), ("rope", .int k), ("step", .int i)])
        = upd H1 dx (.xd [("colour", .str c), ("rope", .int k), ("step", .int i)]) := by
      funext b
      by_cases hb : b = dx
      · rw [hb, upd_same, upd_same]
      · rw [upd_ne hb, upd_ne hb]
        by_cases ha : b = a
        · rw [ha, del_same, na]
        · rw [del_ne ha, upd_ne hb, upd_ne hb, upd_ne ha, upd_ne hb, upd_ne ha]
    show W (.ref C) (some dx) σ _
    rw [eh]
    obtain ⟨S2, hsub, z⟩ := f dx (p1.sat.no nd)
    exact qx F1 _ σ _ Γ C (some dx) ((p1.trans (Post.newS (c := brD i k c) p1.sat nd ⟨_, upd_same, rfl, .cons (.str _) (.cons (.int _) (.cons (.int _) .nil))⟩)).sub hsub) (hg.mono p1.same) z
end
theorem wx_sub {K : PySem.W.Frag} {W : WX} {t : TS} {S : Store} {Γ : Env} {Ψ : EndsD} {Ξ : XSt} (h : WSX K W t S Γ Ψ fun C d S1 Γ1 => ∃ S2, Sub S2 S1 ∧ Ξ C d S2 Γ1) : WSX K W t S Γ Ψ Ξ := fun F H σ D0 hs hg q1 q2 q3 q4 qx =>
  h F H σ D0 hs hg q1 q2 q3 q4 fun F' H' σ' S' Γ' C d p g ⟨S2, s2, z⟩ => qx F' H' σ' S2 Γ' C d (p.sub s2) g z
/-! ### isinstance of the raised, of its own class -/
theorem self_ans {K : PySem.W.Frag} {a C : Addr} : Answers (fun s => ∃ o, s.heap.get? a = some o ∧ o.cls = .ref C) (.ref a) (.ref C) true := by
  intro dep tk prog w A R s hs
  obtain ⟨h0, g, d, tt, os⟩ := s
  obtain ⟨⟨o, ho, hc⟩, hq⟩ := hs
  have LT : PySem.W.Looks (model prog w) h0 (typeOf (.ref a)) (.ref C) := fun A Q E s k q => wpAny_typeOf_ref (k _ _ ho) (by rw [hc]; exact q)
  unfold Builtin.«isinstance.nested»
  refine wpAny_bind (LT.at ?_)
  rw [if_pos (by simp)]
  first
    | ((repeat lk); exact hq tt)
    | exact wpAny_bind (wpAny_rule (hq tt))
    | exact wpAny_bind (wpAny_rule (wpAny_pure (hq tt)))
/-- cls: the class of the raised at a -/
def rIsSelf (cls : Value) (C a : Addr) : List V → Hp → VK → Prop := fun xs H Q => xs = [.ref a, .ref C] ∧ cls = .ref C ∧ Q (.bl true) H
theorem call_isSelf {X : Cx} {a C : Addr} {cls : Value} {d : Option Addr} {oe : Obj} {pn : List (Addr × Obj)} (hz : L2N.Zn cls d oe) : CallR (X.suite a ((a, oe) :: pn)) (.builtin "isinstance") (rIsSelf cls C a) := by
  intro pins s σ H xs us Q I r h
  obtain ⟨rfl, rfl, q⟩ := h
  cases r with
  | cons rx rr =>
    cases rr with
    | cons rt rr =>
      cases rr
      cases rx
      cases rt
      obtain ⟨hget, _⟩ := I.pin (a, oe) (List.mem_append.mpr (.inl List.mem_cons_self))
      exact call_isinstance (S := fun _ R s => (∃ o, s.heap.get? a = some o ∧ o.cls = .ref C) ∧ ∀ tk, R (.ok (.ret (.bool true))) { s with toks := tk })
        (fun prog w A R s hs => isinstance_outer (self_ans (K := X.K) 0 _ prog w A R s hs) (fun e => by cases e)) ⟨⟨oe, hget, hz.1⟩, fun tk => ⟨.bl true, H, I.kept (t' := tk) fun _ _ z => z, rfl, q⟩⟩
theorem rw_isSelf {K : PySem.W.Frag} {S : Store} {Φ : D → Store → Prop} {a C : Addr} (k : Φ (.bl true) S) : RLW K (rIsSelf (.ref C) C a) [.ref a, .ref C] S Φ := fun F H vs Q hs rl hq => by
  obtain ⟨v1, l1, rfl, a1, b1⟩ := rl.uncons
  obtain ⟨v2, l2, rfl, a2, b2⟩ := b1.uncons
  rw [b2.unnil]
  cases a1; cases a2
  exact ⟨rfl, rfl, hq F H _ _ S (Post.refl hs) (.bl _) k⟩
theorem takesN0 {X : Cx} : L2N.Takes X (fun _ _ _ _ => False) := fun _ _ ⟨_, _, _, _, _, _, _, _, _, _, _, _, _, _, _, _, w⟩ => w.elim
theorem hot_of {X : Cx} {a : Addr} {cls : Value} {d : Option Addr} {oe : Obj} {pn : List (Addr × Obj)} (hz : L2N.Zn cls d oe) (hf : ∃ vs, oe.data = .fields vs) : L2H.HotC (X.suite a ((a, oe) :: pn)) :=
  let ⟨vs, hd⟩ := hf
  ⟨(a, oe), ⟨rfl, vs, hd, hz.2.2 vs hd⟩, List.mem_cons_self⟩
/-! ### defs called where an exception is handled -/
def FnHE (P : Program) (w : World) (K : PySem.W.Frag) (mg : Str → Option Value) (base : Heap) (k : Nat) (f : Addr) (ps : List Str) (sp : Sp) : Prop :=
  ∃ fd, L2H.FnH P w K mg base CX0 k f fd ps sp ∧ Binds K fd ps [] ∧ PySem.W.keepIn K (.ref f) = true
theorem tCall_eq {sp : Sp} {E : XK} {t : TA} : tCall sp [] E t = tCallS sp (fun _ => E) t := by
  funext σ H Q
  show (t σ H fun vs H1 => sp (vs ++ []) H1 Q E) = t σ H fun vs H1 => sp vs H1 Q E
  congr 1
  funext vs H1
  rw [List.append_nil]
theorem roomH_units {k : Nat} {A : Around} (r : L2H.RoomH k A) : A.units + 64 < cLine := by have := r.un; omega
section
variable {P : Program} {w : World} {K : PySem.W.Frag} {mg : Str → Option Value} {base : Heap} {fn : List He.DefD} {fa : List He.Fa} {xs : List (PySem.W.Frag → Bool)}
theorem Hd.okH (T : Hd fn fa xs K mg) (i : Nat) {d : He.DefD} (hi : fn[i]? = some d) {N ps : List Str} {k : Nat} {sp : Spec} (hdf : d.dfl = []) (S : FnScope N ps d.scope) (len : ∀ ds S Φ, sp ds S Φ → ds.length = ps.length)
    (hb : ∀ (kV doc pm : Value) (an : Option Addr) (cdv ct : Value) (us : List Value), us.length = ps.length → bindArgs (PySem.W.fnOf d.name d.qual d.params d.body d.scope .none kV doc pm an cdv ct) ⟨us, []⟩ = pure (ps.zip us))
    (body : ∀ (cdv : Value) (A : Around) (outer : List PySem.Env) (s : Shared) (H : Hp) (E : XK) (p : Addr × Obj), L2H.Hot1 A p → L2H.RoomH k (A.deeper (envOfC d.qual d.scope s.heap.objs.size (He.fAd K d.at_) cdv)) →
      ∃ t, PSs (L2H.cxH CX0 P w K mg base N d.qual d.scope (He.fAd K d.at_) cdv A outer s H E p) d.body t ∧ ∀ ds S Φ, sp ds S Φ → WS K t S (startE N ds) { nx := fun S' _ => ∃ S2, Sub S2 S' ∧ Φ .non S2, rt := Φ }) :
    FnHE P w K mg base (k + 1) (He.fAd K d.at_) ps (spOf K sp) := by
  obtain ⟨fd, F⟩ := T.defs i d hi
  have F' := F
  obtain ⟨oc, od, dV, kV, doc, pm, an, cdv, ct, osl, rfl, lk, hcd, hD, _⟩ := F.ex
  have hdV : dV = .none := by
    rcases hD with ⟨_, e⟩ | ⟨ne, _⟩
    · exact e
    · exact absurd (by unfold He.DefD.dvs; rw [hdf]; rfl) ne
  subst hdV
  refine ⟨_, L2H.fn_ofH lk hcd S (fun vs H Q E ⟨F0, S0, ds, Φ, _, r, h, _⟩ => by rw [r.1]; exact len _ _ _ h) (fun A outer s H vs Q E p hot hr h => ?_), .all fun us hl => hb _ _ _ _ _ _ us hl, F'.kp⟩
  obtain ⟨t, ht, hw⟩ := body _ A outer s H E p hot hr
  obtain ⟨F0, S0, ds, Φ, hs, r, h, hq⟩ := h
  exact ⟨t, ht, hw ds S0 Φ h F0 H _ _ hs (slots_start r) (fun F' H' σ' S' Γ' p g ⟨S2, s2, z⟩ => hq F' H' _ _ S2 (p.sub s2) .non z) (fun F' H' v d S' p r z => hq F' H' v d S' p r z) (fun _ _ _ _ _ _ _ z => z.elim) (fun _ _ _ _ _ _ _ z => z.elim)⟩
end
section
variable {X : Cx} {k : Nat} {f : Addr} {ps : List Str} {sp : Sp} {x : Str} {p pos : Pos} {e : Expr} {es : List Expr} {t : TA}
theorem pe_callHE (F : FnHE X.prog X.w X.K X.mg X.base k f ps sp) (hr : L2H.RoomH k X.A) (hot : L2H.HotC X) (hg : Gl X x) (hm : X.mg x = some (.ref f)) (ha : PA X (e :: es) t)
    (hdb : (x == ("__debug__" : Str)) = false := by decide) (he : starEach (e :: es) X.env = (false, eval e X.env) :: starEach es X.env := by rfl) (hpl : (backTo pos (starEach es X.env)).any (·.1) = false := by rfl) :
    PE X (.Call (.Name x p) (e :: es) [] pos) (tCall sp [] E0 t) := by
  obtain ⟨fd, h, b, kp⟩ := F
  rw [tCall_eq]
  exact L2H.pe_callH h hr hot hg hm kp b (fun σ pins H s e s' I c => pass0 pins σ H s e s' I c) ha hdb he hpl
end
end Tw

set_option Elab.async false
set_option linter.all false
set_option maxRecDepth 100000
set_option maxHeartbeats 0
/-! The head of law k76. -/
namespace Tw
open PySem PySem.Spec PyProof.Rows L2
def as0 : List Addr := [3, 2, 430, 549, 674, 756, 212, 31, 429, 548, 673, 755, 211, 30, 664, 305, 312, 319, 326, 333, 347, 361, 441, 448, 455, 462, 469, 476, 483, 488]
def as1 : List Addr := [495, 509, 521, 528, 533, 539, 546, 560, 565, 572, 584, 690, 697, 704, 711, 718, 732, 739, 765, 772, 779, 784, 789, 796, 803, 810, 815, 822, 829, 836]
def as2 : List Addr := [843, 848, 855, 860, 867, 874, 881, 886, 891, 896, 903, 908, 915, 209, 663, 304, 311, 318, 325, 332, 346, 360, 440, 447, 454, 461, 468, 475, 482, 487]
def as3 : List Addr := [494, 508, 520, 527, 532, 538, 534, 545, 559, 564, 571, 583, 689, 696, 703, 710, 717, 731, 738, 764, 771, 778, 783, 788, 795, 802, 809, 814, 821, 828]
def as4 : List Addr := [835, 842, 847, 854, 859, 866, 873, 880, 885, 890, 895, 902, 907, 914, 208, 197]
def asA : List Addr := as0 ++ as1 ++ as2 ++ as3 ++ as4
def faB : List He.Fa := [.glo "BrokenRow", .glo "RopeError", .free "super", .exm "BrokenRow" "RopeError" true, .noat "BrokenRow" "step", .noat "BrokenRow" "rope", .noat "BrokenRow" "colour", .meth "BrokenRow" "__init__"]
def xsB : List FxB := [fun K => oexAll K (He.ga K "BrokenRow"), fun K => xfB K (He.ga K "BrokenRow"), fxSup "BrokenRow" 197 PySem.Challenge.pw_twinrope_k76_bills_of_trips.main.file, fun K => decide (PySem.W.typeIn K (.ref (He.fAd K brAt)) = some (.type "function"))]
def d_BR : ClD := ⟨brAt, "__init__", "BrokenRow.__init__", defArgs s_BR, defBody s_BR, defScope s_BR, [("__class__", 197)]⟩
def clA : List ClD := [d_BR]
def faA : List He.Fa := fa ++ faB
def xsA : List FxB := xs ++ xsB
def nm0 : List PySem.Str := ["_wall", "__name__", "RopeError", "BadNet", "BadCount", "TooMany", "NotConnected", "NoRope", "NoColour", "OtherNet", "BadStanding", "BrokenRow", "BadRide", "NoStep", "BadFare", "BadBill", "check_rope", "check_colour", "check_rides", "check_nets", "check_cars", "check_fares", "_check_guests", "Standing", "far_end", "car_station", "guests_of", "moved", "_is_possible", "walk"]
def nm1 : List PySem.Str := ["prices_for", "differences", "outflows", "Bill", "bill_of", "_cut_off", "_check_size", "Net", "Trip", "_law_pot", "_law_load", "_law_draw", "_law_like", "_law_order", "_law_rope", "_law_tree", "_law_extra", "_law_spread", "_law_open", "_law_ridden", "_law_stand", "_law_flat", "_law_words", "_law_again", "_law_net_rides", "_law_reduced", "_law_bill", "_law_ends_at", "_law_trip", "_law_parts"]
def nm2 : List PySem.Str := ["_law_costs", "_law_broken", "_law_breaks"]
def nms : List PySem.Str := nm0 ++ nm1 ++ nm2
abbrev R : PySem.W.OpenRow := PySem.W.OpenLaw.row PySem.Challenge.rw_twinrope_k76_bills_of_trips
abbrev hk : PySem.W.Hook := hookA asA faA fn xsA clA
def ob (s : PySem.W.SharedT) : AlA := obsAG asA faA fn xsA clA (HandSHeadRun.getT s)
theorem ob_eq (s : PySem.W.SharedT) : ob s = hk.obs s.abs := obsAG_eq (HandSHeadRun.getT_eq s)
theorem runH (w : World) : HandSHeadRun.RunEq R (PySem.W.view R.prog [70]) hk ob 16000 nms w := by
  intro os
  kernel_rfl
end Tw

set_option Elab.async false
set_option linter.all false
set_option maxRecDepth 100000
set_option maxHeartbeats 4000000
namespace Tw
open PySem PySem.Spec PyProof.Rows L2
section
variable {P : Program} {w : World} {K : PySem.W.Frag} {mg : Str → Option Value} {base : Heap}
abbrev N_Net___eq__ : List Str := ["self", "other"]
abbrev ps_Net___eq__ : List Str := ["self", "other"]
theorem sc_Net___eq__ : FnScope N_Net___eq__ ps_Net___eq__ (defScope s_Net___eq__) := ⟨rfl, rfl, rfl, by decide +kernel, rfl, by decide +kernel, by decide +kernel⟩
def t_Net___eq__ (K : PySem.W.Frag) : TS := (tRet (tAndV (tCB (rIsi K) (tCons (tVar 1) (tCons (tC (.ref (He.ga K "Net"))) tNil))) (tAndV (tOp (rEqU K) (tFld K (tVar 0) "stations") (tFld K (tVar 1) "stations")) (tOp (rEqU K) (tFld K (tVar 0) "ropes") (tFld K (tVar 1) "ropes")))))
theorem dv_Net___eq__ (T : Hd fn fa xs K mg) {cdv : Value} {A : Around} {outer : List PySem.Env} {s : Shared} {H : Hp} {E : XK} (hr : Room 0 (A.deeper (envOfC d_Net___eq__.qual d_Net___eq__.scope s.heap.objs.size (He.fAd K d_Net___eq__.at_) cdv))) :
    PSs (cxOf CX0 P w K mg base N_Net___eq__ d_Net___eq__.qual d_Net___eq__.scope (He.fAd K d_Net___eq__.at_) cdv A outer s H E).nox d_Net___eq__.body (t_Net___eq__ K) :=
  have nd := sc_Net___eq__.nd
  (pss_one (ps_ret (pe_and (pe_callB call_isi rfl (fr_isinstance T) (by decide +kernel) (pa_cons (pe_var (i := 1) rfl (.inl rfl)) (pa_cons (C8.pe_gc rfl ⟨_, g_Net T, rfl⟩) pa_nil))) (pe_and (pe_cmpR (op_eqU hr.units) (pe_fld (pe_var (i := 0) rfl (.inl rfl)) rfl) (pe_fld (pe_var (i := 1) rfl (.inl rfl)) rfl) (nomark _)) (pe_one (pe_cmpR (op_eqU hr.units) (pe_fld (pe_var (i := 0) rfl (.inl rfl)) rfl) (pe_fld (pe_var (i := 1) rfl (.inl rfl)) rfl) (nomark _)))))))
abbrev N_check_rope : List Str := ["net", "rope"]
abbrev ps_check_rope : List Str := ["net", "rope"]
theorem sc_check_rope : FnScope N_check_rope ps_check_rope (defScope s_check_rope) := ⟨rfl, rfl, rfl, by decide +kernel, rfl, by decide +kernel, by decide +kernel⟩
def t_check_rope (K : PySem.W.Frag) : TS := (tIfS (tNot (tTest (tChain rLeI rLtI (tC (.int 0)) (tVar 1) (tCB (rLenQ K) (tCons (tFld K (tVar 0) "ropes") tNil)))))
  tNever
  tNext)
theorem dv_check_rope (T : Hd fn fa xs K mg) {cdv : Value} {A : Around} {outer : List PySem.Env} {s : Shared} {H : Hp} {E : XK} (hr : Room 0 (A.deeper (envOfC d_check_rope.qual d_check_rope.scope s.heap.objs.size (He.fAd K d_check_rope.at_) cdv))) :
    PSs (cxOf CX0 P w K mg base N_check_rope d_check_rope.qual d_check_rope.scope (He.fAd K d_check_rope.at_) cdv A outer s H E).nox d_check_rope.body (t_check_rope K) :=
  have nd := sc_check_rope.nd
  (pss_one (ps_if (pt_not (pt_chain op_leI op_ltI pe_int (pe_var (i := 1) rfl (.inl rfl)) (pe_callB call_lenQ rfl (fr_len T) (by decide +kernel) (pa_cons (pe_fld (pe_var (i := 0) rfl (.inl rfl)) rfl) pa_nil)))) (pss_one ps_never) pss_nil))
abbrev N_check_colour : List Str := ["colour"]
abbrev ps_check_colour : List Str := ["colour"]
theorem sc_check_colour : FnScope N_check_colour ps_check_colour (defScope s_check_colour) := ⟨rfl, rfl, rfl, by decide +kernel, rfl, by decide +kernel, by decide +kernel⟩
def t_check_colour (K : PySem.W.Frag) : TS := (tIfS (tTest (tOp (rNotInU K) (tVar 0) (tTup (tCons (tC (.str "red")) (tCons (tC (.str "blue")) tNil)))))
  tNever
  tNext)
theorem dv_check_colour (T : Hd fn fa xs K mg) {cdv : Value} {A : Around} {outer : List PySem.Env} {s : Shared} {H : Hp} {E : XK} (hr : Room 0 (A.deeper (envOfC d_check_colour.qual d_check_colour.scope s.heap.objs.size (He.fAd K d_check_colour.at_) cdv))) :
    PSs (cxOf CX0 P w K mg base N_check_colour d_check_colour.qual d_check_colour.scope (He.fAd K d_check_colour.at_) cdv A outer s H E).nox d_check_colour.body (t_check_colour K) :=
  have nd := sc_check_colour.nd
  (pss_one (ps_if (pt_cmpR (op_notInU (room65 hr)) (pe_var (i := 0) rfl (.inl rfl)) (pe_tup (pa_cons pe_str (pa_cons pe_str pa_nil))) (by with_unfolding_all rfl)) (pss_one ps_never) pss_nil))
abbrev N_check_rides : List Str := ["net", "rides", "rope", "colour"]
abbrev ps_check_rides : List Str := ["net", "rides"]
theorem sc_check_rides : FnScope N_check_rides ps_check_rides (defScope s_check_rides) := ⟨rfl, rfl, rfl, by decide +kernel, rfl, by decide +kernel, by decide +kernel⟩
def t_check_rides (K : PySem.W.Frag) (sp_check_rope sp_check_colour : Spec) : TS := (tFor (iSeqU K (tVar 1)) (gTup K 2 (gCons (gName 2) (gCons (gName 3) gNil)))
  (tSeq (tDrop (tCall (spOf K sp_check_rope) [] E0 (tCons (tVar 0) (tCons (tVar 2) tNil))))
  (tDrop (tCall (spOf K sp_check_colour) [] E0 (tCons (tVar 3) tNil)))))
theorem dv_check_rides (T : Hd fn fa xs K mg) {sp_check_rope sp_check_colour : Spec} (h_check_rope : FnE P w K mg base 1 (He.fAd K d_check_rope.at_) ps_check_rope (spOf K sp_check_rope)) (h_check_colour : FnE P w K mg base 1 (He.fAd K d_check_colour.at_) ps_check_colour (spOf K sp_check_colour)) {cdv : Value} {A : Around} {outer : List PySem.Env} {s : Shared} {H : Hp} {E : XK} (hr : Room 1 (A.deeper (envOfC d_check_rides.qual d_check_rides.scope s.heap.objs.size (He.fAd K d_check_rides.at_) cdv))) :
    PSs (cxOf CX0 P w K mg base N_check_rides d_check_rides.qual d_check_rides.scope (He.fAd K d_check_rides.at_) cdv A outer s H E).nox d_check_rides.body (t_check_rides K sp_check_rope sp_check_colour) :=
  have nd := sc_check_rides.nd
  (pss_one (ps_for PassesOwn.never rfl (pi_seqU (pe_var (i := 1) rfl (.inl rfl))) (pg_tup rfl (pgs_cons (pg_name (i := 2) nd rfl (.inl rfl)) (pgs_cons (pg_name (i := 3) nd rfl (.inl rfl)) pgs_nil)))
  (pss_cons (ps_expr (pe_callE h_check_rope (hr.mono (by decide)) rfl (g_check_rope T) (pa_cons (pe_var (i := 0) rfl (.inl rfl)) (pa_cons (pe_var (i := 2) rfl (.inl rfl)) pa_nil))))
  (pss_one (ps_expr (pe_callE h_check_colour (hr.mono (by decide)) rfl (g_check_colour T) (pa_cons (pe_var (i := 3) rfl (.inl rfl)) pa_nil)))))))
abbrev N_check_nets : List Str := ["first", "others", "other"]
abbrev ps_check_nets : List Str := ["first", "others"]
theorem sc_check_nets : FnScope N_check_nets ps_check_nets (defScope s_check_nets) := ⟨rfl, rfl, rfl, by decide +kernel, rfl, by decide +kernel, by decide +kernel⟩
def t_check_nets (K : PySem.W.Frag) (sp_Net___eq__ : Spec) : TS := (tFor (iSeqU K (tVar 1)) (gName 2)
  (tIfS (tNot (tTest (tOp (rOwn2 (He.ga K "Net") (spOf K sp_Net___eq__)) (tFld K (tVar 2) "net") (tFld K (tVar 0) "net"))))
  tNever
  tNext))
theorem dv_check_nets (T : Hd fn fa xs K mg) {sp_Net___eq__ : Spec} (h_Net___eq__ : FnE P w K mg base 1 (He.fAd K d_Net___eq__.at_) ps_Net___eq__ (spOf K sp_Net___eq__)) {cdv : Value} {A : Around} {outer : List PySem.Env} {s : Shared} {H : Hp} {E : XK} (hr : Room 1 (A.deeper (envOfC d_check_nets.qual d_check_nets.scope s.heap.objs.size (He.fAd K d_check_nets.at_) cdv))) :
    PSs (cxOf CX0 P w K mg base N_check_nets d_check_nets.qual d_check_nets.scope (He.fAd K d_check_nets.at_) cdv A outer s H E).nox d_check_nets.body (t_check_nets K sp_Net___eq__) :=
  have nd := sc_check_nets.nd
  (pss_one (ps_for PassesOwn.never rfl (pi_seqU (pe_var (i := 1) rfl (.inl rfl))) (pg_name (i := 2) nd rfl (.inl rfl))
  (pss_one (ps_if (pt_not (pt_cmpR (op_ownEq h_Net___eq__ (hr.mono (by decide)) (du_Net___eq__ T)) (pe_fld (pe_var (i := 2) rfl (.inl rfl)) rfl) (pe_fld (pe_var (i := 0) rfl (.inl rfl)) rfl) (nomark _))) (pss_one ps_never) pss_nil))))
abbrev N_check_cars : List Str := ["net", "cars", "place", "car"]
abbrev ps_check_cars : List Str := ["net", "cars"]
theorem sc_check_cars : FnScope N_check_cars ps_check_cars (defScope s_check_cars) := ⟨rfl, rfl, rfl, by decide +kernel, rfl, by decide +kernel, by decide +kernel⟩
def t_check_cars (K : PySem.W.Frag) : TS := (tSeq (tIfS (tTest (tOp (rNeU K) (tCB (rLenQ K) (tCons (tVar 1) tNil)) (tCB (rLenQ K) (tCons (tFld K (tVar 0) "ropes") tNil))))
  tNever
  tNext)
  (tFor (iEnumU K (tCons (tVar 1) tNil)) (gTup K 2 (gCons (gName 2) (gCons (gName 3) gNil)))
  (tIfS (tTest (tOp (rNotInU K) (tVar 3) (tTup (tCons (tC (.int 0)) (tCons (tC (.int 1)) tNil)))))
  tNever
  tNext)))
theorem dv_check_cars (T : Hd fn fa xs K mg) {cdv : Value} {A : Around} {outer : List PySem.Env} {s : Shared} {H : Hp} {E : XK} (hr : Room 0 (A.deeper (envOfC d_check_cars.qual d_check_cars.scope s.heap.objs.size (He.fAd K d_check_cars.at_) cdv))) :
    PSs (cxOf CX0 P w K mg base N_check_cars d_check_cars.qual d_check_cars.scope (He.fAd K d_check_cars.at_) cdv A outer s H E).nox d_check_cars.body (t_check_cars K) :=
  have nd := sc_check_cars.nd
  (pss_cons (ps_if (pt_cmpR (op_neU hr.units) (pe_callB call_lenQ rfl (fr_len T) (by decide +kernel) (pa_cons (pe_var (i := 1) rfl (.inl rfl)) pa_nil)) (pe_callB call_lenQ rfl (fr_len T) (by decide +kernel) (pa_cons (pe_fld (pe_var (i := 0) rfl (.inl rfl)) rfl) pa_nil)) (nomark _)) (pss_one ps_never) pss_nil)
  (pss_one (ps_for PassesOwn.never rfl (pi_enumU rfl (fr_enumerate T) (pa_cons (pe_var (i := 1) rfl (.inl rfl)) pa_nil)) (pg_tup rfl (pgs_cons (pg_name (i := 2) nd rfl (.inl rfl)) (pgs_cons (pg_name (i := 3) nd rfl (.inl rfl)) pgs_nil)))
  (pss_one (ps_if (pt_cmpR (op_notInU (room65 hr)) (pe_var (i := 3) rfl (.inl rfl)) (pe_tup (pa_cons pe_int (pa_cons pe_int pa_nil))) (by with_unfolding_all rfl)) (pss_one ps_never) pss_nil)))))
abbrev N__check_guests : List Str := ["net", "part", "guests", "place", "count"]
abbrev ps__check_guests : List Str := ["net", "part", "guests"]
theorem sc__check_guests : FnScope N__check_guests ps__check_guests (defScope s__check_guests) := ⟨rfl, rfl, rfl, by decide +kernel, rfl, by decide +kernel, by decide +kernel⟩
def t__check_guests (K : PySem.W.Frag) : TS := (tSeq (tIfS (tTest (tOp (rNeU K) (tCB (rLenQ K) (tCons (tVar 2) tNil)) (tFld K (tVar 0) "stations")))
  tNever
  tNext)
  (tFor (iEnumU K (tCons (tVar 2) tNil)) (gTup K 2 (gCons (gName 3) (gCons (gName 4) gNil)))
  (tIfS (tTest (tOp rLtI (tVar 4) (tC (.int 0))))
  tNever
  tNext)))
theorem dv__check_guests (T : Hd fn fa xs K mg) {cdv : Value} {A : Around} {outer : List PySem.Env} {s : Shared} {H : Hp} {E : XK} (hr : Room 0 (A.deeper (envOfC d__check_guests.qual d__check_guests.scope s.heap.objs.size (He.fAd K d__check_guests.at_) cdv))) :
    PSs (cxOf CX0 P w K mg base N__check_guests d__check_guests.qual d__check_guests.scope (He.fAd K d__check_guests.at_) cdv A outer s H E).nox d__check_guests.body (t__check_guests K) :=
  have nd := sc__check_guests.nd
  (pss_cons (ps_if (pt_cmpR (op_neU hr.units) (pe_callB call_lenQ rfl (fr_len T) (by decide +kernel) (pa_cons (pe_var (i := 2) rfl (.inl rfl)) pa_nil)) (pe_fld (pe_var (i := 0) rfl (.inl rfl)) rfl) (nomark _)) (pss_one ps_never) pss_nil)
  (pss_one (ps_for PassesOwn.never rfl (pi_enumU rfl (fr_enumerate T) (pa_cons (pe_var (i := 2) rfl (.inl rfl)) pa_nil)) (pg_tup rfl (pgs_cons (pg_name (i := 3) nd rfl (.inl rfl)) (pgs_cons (pg_name (i := 4) nd rfl (.inl rfl)) pgs_nil)))
  (pss_one (ps_if (pt_cmpR op_ltI (pe_var (i := 4) rfl (.inl rfl)) pe_int (nomark _)) (pss_one ps_never) pss_nil)))))
abbrev N_Standing___init__ : List Str := ["self", "net", "reds", "blues", "cars"]
abbrev ps_Standing___init__ : List Str := ["self", "net", "reds", "blues", "cars"]
theorem sc_Standing___init__ : FnScope N_Standing___init__ ps_Standing___init__ (defScope s_Standing___init__) := ⟨rfl, rfl, rfl, by decide +kernel, rfl, by decide +kernel, by decide +kernel⟩
def t_Standing___init__ (K : PySem.W.Frag) (sp__check_guests sp_check_cars : Spec) : TS := (tSeq (tDrop (tCall (spOf K sp__check_guests) [] E0 (tCons (tVar 1) (tCons (tC (.str "reds")) (tCons (tVar 2) tNil)))))
  (tSeq (tDrop (tCall (spOf K sp__check_guests) [] E0 (tCons (tVar 1) (tCons (tC (.str "blues")) (tCons (tVar 3) tNil)))))
  (tSeq (tIfS (tTest (tOp rGtI (tOp (rAddU K) (tCB (rSumU K) (tCons (tVar 2) tNil)) (tCB (rSumU K) (tCons (tVar 3) tNil))) (tCon K (tVar 0) "MOST_GUESTS")))
  tNever
  tNext)
  (tSeq (tDrop (tCall (spOf K sp_check_cars) [] E0 (tCons (tVar 1) (tCons (tVar 4) tNil))))
  (tSeq (sFld K (tVar 0) (tVar 1) "net")
  (tSeq (sFld K (tVar 0) (tCB (rTupleQ K) (tCons (tVar 2) tNil)) "reds")
  (tSeq (sFld K (tVar 0) (tCB (rTupleQ K) (tCons (tVar 3) tNil)) "blues")
  (sFld K (tVar 0) (tCB (rTupleQ K) (tCons (tVar 4) tNil)) "cars"))))))))
theorem dv_Standing___init__ (T : Hd fn fa xs K mg) {sp__check_guests sp_check_cars : Spec} (h__check_guests : FnE P w K mg base 1 (He.fAd K d__check_guests.at_) ps__check_guests (spOf K sp__check_guests)) (h_check_cars : FnE P w K mg base 1 (He.fAd K d_check_cars.at_) ps_check_cars (spOf K sp_check_cars)) {cdv : Value} {A : Around} {outer : List PySem.Env} {s : Shared} {H : Hp} {E : XK} (hr : Room 1 (A.deeper (envOfC d_Standing___init__.qual d_Standing___init__.scope s.heap.objs.size (He.fAd K d_Standing___init__.at_) cdv))) :
    PSs (cxOf CX0 P w K mg base N_Standing___init__ d_Standing___init__.qual d_Standing___init__.scope (He.fAd K d_Standing___init__.at_) cdv A outer s H E).nox d_Standing___init__.body (t_Standing___init__ K sp__check_guests sp_check_cars) :=
  have nd := sc_Standing___init__.nd
  (pss_cons (ps_expr (pe_callE h__check_guests (hr.mono (by decide)) rfl (g__check_guests T) (pa_cons (pe_var (i := 1) rfl (.inl rfl)) (pa_cons pe_str (pa_cons (pe_var (i := 2) rfl (.inl rfl)) pa_nil)))))
  (pss_cons (ps_expr (pe_callE h__check_guests (hr.mono (by decide)) rfl (g__check_guests T) (pa_cons (pe_var (i := 1) rfl (.inl rfl)) (pa_cons pe_str (pa_cons (pe_var (i := 3) rfl (.inl rfl)) pa_nil)))))
  (pss_cons (ps_if (pt_cmpR op_gtI (pe_op op_addU (pe_callB (call_sumU rfl) rfl (fr_sum T) (by decide +kernel) (pa_cons (pe_var (i := 2) rfl (.inl rfl)) pa_nil)) (pe_callB (call_sumU rfl) rfl (fr_sum T) (by decide +kernel) (pa_cons (pe_var (i := 3) rfl (.inl rfl)) pa_nil))) (pe_con (pe_var (i := 0) rfl (.inl rfl)) rfl) (nomark _)) (pss_one ps_never) pss_nil)
  (pss_cons (ps_expr (pe_callE h_check_cars (hr.mono (by decide)) rfl (g_check_cars T) (pa_cons (pe_var (i := 1) rfl (.inl rfl)) (pa_cons (pe_var (i := 4) rfl (.inl rfl)) pa_nil))))
  (pss_cons (ps_fld (pe_var (i := 0) rfl (.inl rfl)) (pe_var (i := 1) rfl (.inl rfl)) rfl)
  (pss_cons (ps_fld (pe_var (i := 0) rfl (.inl rfl)) (pe_callTy call_tupleQ rfl (fr_tuple T) (by decide +kernel) (pa_cons (pe_var (i := 2) rfl (.inl rfl)) pa_nil)) rfl)
  (pss_cons (ps_fld (pe_var (i := 0) rfl (.inl rfl)) (pe_callTy call_tupleQ rfl (fr_tuple T) (by decide +kernel) (pa_cons (pe_var (i := 3) rfl (.inl rfl)) pa_nil)) rfl)
  (pss_one (ps_fld (pe_var (i := 0) rfl (.inl rfl)) (pe_callTy call_tupleQ rfl (fr_tuple T) (by decide +kernel) (pa_cons (pe_var (i := 4) rfl (.inl rfl)) pa_nil)) rfl)))))))))
abbrev N_far_end : List Str := ["net", "rope", "station", "first", "second"]
abbrev ps_far_end : List Str := ["net", "rope", "station"]
theorem sc_far_end : FnScope N_far_end ps_far_end (defScope s_far_end) := ⟨rfl, rfl, rfl, by decide +kernel, rfl, by decide +kernel, by decide +kernel⟩
def t_far_end (K : PySem.W.Frag) : TS := (tSeq (tAsg (tOp (rIxU K) (tFld K (tVar 0) "ropes") (tVar 1)) (gTup K 2 (gCons (gName 3) (gCons (gName 4) gNil))))
  (tRet (tIf (tTest (tOp (rEqU K) (tVar 2) (tVar 3))) (tVar 4) (tVar 3))))
theorem dv_far_end (T : Hd fn fa xs K mg) {cdv : Value} {A : Around} {outer : List PySem.Env} {s : Shared} {H : Hp} {E : XK} (hr : Room 0 (A.deeper (envOfC d_far_end.qual d_far_end.scope s.heap.objs.size (He.fAd K d_far_end.at_) cdv))) :
    PSs (cxOf CX0 P w K mg base N_far_end d_far_end.qual d_far_end.scope (He.fAd K d_far_end.at_) cdv A outer s H E).nox d_far_end.body (t_far_end K) :=
  have nd := sc_far_end.nd
  (pss_cons (ps_asg (pe_ix ix_U (pe_fld (pe_var (i := 0) rfl (.inl rfl)) rfl) (pe_var (i := 1) rfl (.inl rfl)) (fun _ _ => rfl)) (pg_tup rfl (pgs_cons (pg_name (i := 3) nd rfl (.inl rfl)) (pgs_cons (pg_name (i := 4) nd rfl (.inl rfl)) pgs_nil))))
  (pss_one (ps_ret (pe_ifExp (pt_cmpR (op_eqU hr.units) (pe_var (i := 2) rfl (.inl rfl)) (pe_var (i := 3) rfl (.inl rfl)) (nomark _)) (pe_var (i := 4) rfl (.inl rfl)) (pe_var (i := 3) rfl (.inl rfl))))))
abbrev N_car_station : List Str := ["standing", "rope", "colour", "car"]
abbrev ps_car_station : List Str := ["standing", "rope", "colour"]
theorem sc_car_station : FnScope N_car_station ps_car_station (defScope s_car_station) := ⟨rfl, rfl, rfl, by decide +kernel, rfl, by decide +kernel, by decide +kernel⟩
def t_car_station (K : PySem.W.Frag) : TS := (tSeq (tAsg (tOp (rIxU K) (tFld K (tVar 0) "cars") (tVar 1)) (gName 3))
  (tSeq (tIfS (tTest (tOp (rEqU K) (tVar 2) (tC (.str "blue"))))
  (tAsg (tOp rSubI (tC (.int 1)) (tVar 3)) (gName 3))
  tNext)
  (tRet (tOp (rIxU K) (tOp (rIxU K) (tFld K (tFld K (tVar 0) "net") "ropes") (tVar 1)) (tVar 3)))))
theorem dv_car_station (T : Hd fn fa xs K mg) {cdv : Value} {A : Around} {outer : List PySem.Env} {s : Shared} {H : Hp} {E : XK} (hr : Room 0 (A.deeper (envOfC d_car_station.qual d_car_station.scope s.heap.objs.size (He.fAd K d_car_station.at_) cdv))) :
    PSs (cxOf CX0 P w K mg base N_car_station d_car_station.qual d_car_station.scope (He.fAd K d_car_station.at_) cdv A outer s H E).nox d_car_station.body (t_car_station K) :=
  have nd := sc_car_station.nd
  (pss_cons (ps_set (i := 3) nd rfl (.inl rfl) (pe_ix ix_U (pe_fld (pe_var (i := 0) rfl (.inl rfl)) rfl) (pe_var (i := 1) rfl (.inl rfl)) (fun _ _ => rfl)))
  (pss_cons (ps_if (pt_cmpR (op_eqU hr.units) (pe_var (i := 2) rfl (.inl rfl)) pe_str (nomark _)) (pss_one (ps_set (i := 3) nd rfl (.inl rfl) (pe_op op_subI pe_int (pe_var (i := 3) rfl (.inl rfl))))) pss_nil)
  (pss_one (ps_ret (pe_ix ix_U (pe_ix ix_U (pe_fld (pe_fld (pe_var (i := 0) rfl (.inl rfl)) rfl) rfl) (pe_var (i := 1) rfl (.inl rfl)) (fun _ _ => rfl)) (pe_var (i := 3) rfl (.inl rfl)) (fun _ _ => rfl))))))
abbrev N_guests_of : List Str := ["standing", "colour"]
abbrev ps_guests_of : List Str := ["standing", "colour"]
theorem sc_guests_of : FnScope N_guests_of ps_guests_of (defScope s_guests_of) := ⟨rfl, rfl, rfl, by decide +kernel, rfl, by decide +kernel, by decide +kernel⟩
def t_guests_of (K : PySem.W.Frag) : TS := (tRet (tIf (tTest (tOp (rEqU K) (tVar 1) (tC (.str "red")))) (tFld K (tVar 0) "reds") (tFld K (tVar 0) "blues")))
theorem dv_guests_of (T : Hd fn fa xs K mg) {cdv : Value} {A : Around} {outer : List PySem.Env} {s : Shared} {H : Hp} {E : XK} (hr : Room 0 (A.deeper (envOfC d_guests_of.qual d_guests_of.scope s.heap.objs.size (He.fAd K d_guests_of.at_) cdv))) :
    PSs (cxOf CX0 P w K mg base N_guests_of d_guests_of.qual d_guests_of.scope (He.fAd K d_guests_of.at_) cdv A outer s H E).nox d_guests_of.body (t_guests_of K) :=
  have nd := sc_guests_of.nd
  (pss_one (ps_ret (pe_ifExp (pt_cmpR (op_eqU hr.units) (pe_var (i := 1) rfl (.inl rfl)) pe_str (nomark _)) (pe_fld (pe_var (i := 0) rfl (.inl rfl)) rfl) (pe_fld (pe_var (i := 0) rfl (.inl rfl)) rfl))))
abbrev N_moved : List Str := ["standing", "rope", "colour", "start", "end", "guests", "cars"]
abbrev ps_moved : List Str := ["standing", "rope", "colour"]
theorem sc_moved : FnScope N_moved ps_moved (defScope s_moved) := ⟨rfl, rfl, rfl, by decide +kernel, rfl, by decide +kernel, by decide +kernel⟩
def t_moved (K : PySem.W.Frag) (sp_car_station sp_far_end sp_guests_of sp_Standing___init__ : Spec) : TS := (tSeq (tAsg (tCall (spOf K sp_car_station) [] E0 (tCons (tVar 0) (tCons (tVar 1) (tCons (tVar 2) tNil)))) (gName 3))
  (tSeq (tAsg (tCall (spOf K sp_far_end) [] E0 (tCons (tFld K (tVar 0) "net") (tCons (tVar 1) (tCons (tVar 3) tNil)))) (gName 4))
  (tSeq (tAsg (tCB (rListQ K) (tCons (tCall (spOf K sp_guests_of) [] E0 (tCons (tVar 0) (tCons (tVar 2) tNil))) tNil)) (gName 5))
  (tSeq (tAsg (tOp rSubI (tOp (rIxU K) (tVar 5) (tVar 3)) (tC (.int 1))) (gSub (tVar 5) (tVar 3) rSetL))
  (tSeq (tAsg (tOp (rAddU K) (tOp (rIxU K) (tVar 5) (tVar 4)) (tC (.int 1))) (gSub (tVar 5) (tVar 4) rSetL))
  (tSeq (tAsg (tCB (rListQ K) (tCons (tFld K (tVar 0) "cars") tNil)) (gName 6))
  (tSeq (tAsg (tOp rSubI (tC (.int 1)) (tOp (rIxU K) (tVar 6) (tVar 1))) (gSub (tVar 6) (tVar 1) rSetL))
  (tSeq (tIfS (tTest (tOp (rEqU K) (tVar 2) (tC (.str "red"))))
  (tRet (tMake (He.ga K "Standing") (spOf K sp_Standing___init__) [] E0 (tCons (tFld K (tVar 0) "net") (tCons (tVar 5) (tCons (tFld K (tVar 0) "blues") (tCons (tVar 6) tNil))))))
  tNext)
  (tRet (tMake (He.ga K "Standing") (spOf K sp_Standing___init__) [] E0 (tCons (tFld K (tVar 0) "net") (tCons (tFld K (tVar 0) "reds") (tCons (tVar 5) (tCons (tVar 6) tNil))))))))))))))
theorem dv_moved (T : Hd fn fa xs K mg) {sp_car_station sp_far_end sp_guests_of sp_Standing___init__ : Spec} (h_car_station : FnE P w K mg base 1 (He.fAd K d_car_station.at_) ps_car_station (spOf K sp_car_station)) (h_far_end : FnE P w K mg base 1 (He.fAd K d_far_end.at_) ps_far_end (spOf K sp_far_end)) (h_guests_of : FnE P w K mg base 1 (He.fAd K d_guests_of.at_) ps_guests_of (spOf K sp_guests_of)) (h_Standing___init__ : FnE P w K mg base 2 (He.fAd K d_Standing___init__.at_) ps_Standing___init__ (spOf K sp_Standing___init__)) {cdv : Value} {A : Around} {outer : List PySem.Env} {s : Shared} {H : Hp} {E : XK} (hr : Room 3 (A.deeper (envOfC d_moved.qual d_moved.scope s.heap.objs.size (He.fAd K d_moved.at_) cdv))) :
    PSs (cxOf CX0 P w K mg base N_moved d_moved.qual d_moved.scope (He.fAd K d_moved.at_) cdv A outer s H E).nox d_moved.body (t_moved K sp_car_station sp_far_end sp_guests_of sp_Standing___init__) :=
  have nd := sc_moved.nd
  (pss_cons (ps_set (i := 3) nd rfl (.inl rfl) (pe_callE h_car_station (hr.mono (by decide)) rfl (g_car_station T) (pa_cons (pe_var (i := 0) rfl (.inl rfl)) (pa_cons (pe_var (i := 1) rfl (.inl rfl)) (pa_cons (pe_var (i := 2) rfl (.inl rfl)) pa_nil)))))
  (pss_cons (ps_set (i := 4) nd rfl (.inl rfl) (pe_callE h_far_end (hr.mono (by decide)) rfl (g_far_end T) (pa_cons (pe_fld (pe_var (i := 0) rfl (.inl rfl)) rfl) (pa_cons (pe_var (i := 1) rfl (.inl rfl)) (pa_cons (pe_var (i := 3) rfl (.inl rfl)) pa_nil)))))
  (pss_cons (ps_set (i := 5) nd rfl (.inl rfl) (pe_callTy call_listQ rfl (fr_list T) (by decide +kernel) (pa_cons (pe_callE h_guests_of (hr.mono (by decide)) rfl (g_guests_of T) (pa_cons (pe_var (i := 0) rfl (.inl rfl)) (pa_cons (pe_var (i := 2) rfl (.inl rfl)) pa_nil))) pa_nil)))
  (pss_cons (ps_asg (pe_op op_subI (pe_ix ix_U (pe_var (i := 5) rfl (.inl rfl)) (pe_var (i := 3) rfl (.inl rfl)) (fun _ _ => rfl)) pe_int) (pg_sub (pe_var (i := 5) rfl (.inl rfl)) (pe_var (i := 3) rfl (.inl rfl)) set_list))
  (pss_cons (ps_asg (pe_op op_addU (pe_ix ix_U (pe_var (i := 5) rfl (.inl rfl)) (pe_var (i := 4) rfl (.inl rfl)) (fun _ _ => rfl)) pe_int) (pg_sub (pe_var (i := 5) rfl (.inl rfl)) (pe_var (i := 4) rfl (.inl rfl)) set_list))
  (pss_cons (ps_set (i := 6) nd rfl (.inl rfl) (pe_callTy call_listQ rfl (fr_list T) (by decide +kernel) (pa_cons (pe_fld (pe_var (i := 0) rfl (.inl rfl)) rfl) pa_nil)))
  (pss_cons (ps_asg (pe_op op_subI pe_int (pe_ix ix_U (pe_var (i := 6) rfl (.inl rfl)) (pe_var (i := 1) rfl (.inl rfl)) (fun _ _ => rfl))) (pg_sub (pe_var (i := 6) rfl (.inl rfl)) (pe_var (i := 1) rfl (.inl rfl)) set_list))
  (pss_cons (ps_if (pt_cmpR (op_eqU hr.units) (pe_var (i := 2) rfl (.inl rfl)) pe_str (nomark _)) (pss_one (ps_ret (pe_makeE (mk_Standing T) h_Standing___init__ (hr.mono (by decide)) rfl (g_Standing T) (pa_cons (pe_fld (pe_var (i := 0) rfl (.inl rfl)) rfl) (pa_cons (pe_var (i := 5) rfl (.inl rfl)) (pa_cons (pe_fld (pe_var (i := 0) rfl (.inl rfl)) rfl) (pa_cons (pe_var (i := 6) rfl (.inl rfl)) pa_nil))))))) pss_nil)
  (pss_one (ps_ret (pe_makeE (mk_Standing T) h_Standing___init__ (hr.mono (by decide)) rfl (g_Standing T) (pa_cons (pe_fld (pe_var (i := 0) rfl (.inl rfl)) rfl) (pa_cons (pe_fld (pe_var (i := 0) rfl (.inl rfl)) rfl) (pa_cons (pe_var (i := 5) rfl (.inl rfl)) (pa_cons (pe_var (i := 6) rfl (.inl rfl)) pa_nil)))))))))))))))
abbrev N__is_possible : List Str := ["standing", "rope", "colour"]
abbrev ps__is_possible : List Str := ["standing", "rope", "colour"]
theorem sc__is_possible : FnScope N__is_possible ps__is_possible (defScope s__is_possible) := ⟨rfl, rfl, rfl, by decide +kernel, rfl, by decide +kernel, by decide +kernel⟩
def t__is_possible (K : PySem.W.Frag) (sp_guests_of sp_car_station : Spec) : TS := (tRet (tOp rGtI (tOp (rIxU K) (tCall (spOf K sp_guests_of) [] E0 (tCons (tVar 0) (tCons (tVar 2) tNil))) (tCall (spOf K sp_car_station) [] E0 (tCons (tVar 0) (tCons (tVar 1) (tCons (tVar 2) tNil))))) (tC (.int 0))))
theorem dv__is_possible (T : Hd fn fa xs K mg) {sp_guests_of sp_car_station : Spec} (h_guests_of : FnE P w K mg base 1 (He.fAd K d_guests_of.at_) ps_guests_of (spOf K sp_guests_of)) (h_car_station : FnE P w K mg base 1 (He.fAd K d_car_station.at_) ps_car_station (spOf K sp_car_station)) {cdv : Value} {A : Around} {outer : List PySem.Env} {s : Shared} {H : Hp} {E : XK} (hr : Room 1 (A.deeper (envOfC d__is_possible.qual d__is_possible.scope s.heap.objs.size (He.fAd K d__is_possible.at_) cdv))) :
    PSs (cxOf CX0 P w K mg base N__is_possible d__is_possible.qual d__is_possible.scope (He.fAd K d__is_possible.at_) cdv A outer s H E).nox d__is_possible.body (t__is_possible K sp_guests_of sp_car_station) :=
  have nd := sc__is_possible.nd
  (pss_one (ps_ret (pe_cmpR op_gtI (pe_ix ix_U (pe_callE h_guests_of (hr.mono (by decide)) rfl (g_guests_of T) (pa_cons (pe_var (i := 0) rfl (.inl rfl)) (pa_cons (pe_var (i := 2) rfl (.inl rfl)) pa_nil))) (pe_callE h_car_station (hr.mono (by decide)) rfl (g_car_station T) (pa_cons (pe_var (i := 0) rfl (.inl rfl)) (pa_cons (pe_var (i := 1) rfl (.inl rfl)) (pa_cons (pe_var (i := 2) rfl (.inl rfl)) pa_nil)))) (fun _ _ => rfl)) pe_int (nomark _))))
abbrev N_walk : List Str := ["standing", "rides", "here", "standings", "step", "rope", "colour"]
abbrev ps_walk : List Str := ["standing", "rides"]
theorem sc_walk : FnScope N_walk ps_walk (defScope s_walk) := ⟨rfl, rfl, rfl, by decide +kernel, rfl, by decide +kernel, by decide +kernel⟩
def t_walk (K : PySem.W.Frag) (sp_check_rides sp__is_possible sp_moved : Spec) : TS := (tSeq (tDrop (tCall (spOf K sp_check_rides) [] E0 (tCons (tFld K (tVar 0) "net") (tCons (tVar 1) tNil))))
  (tSeq (tAsg (tVar 0) (gName 2))
  (tSeq (tAsg (tLst (tCons (tVar 2) tNil)) (gName 3))
  (tSeq (tFor (iEnumU K (tCons (tVar 1) tNil)) (gTup K 2 (gCons (gName 4) (gCons (gTup K 2 (gCons (gName 5) (gCons (gName 6) gNil))) gNil)))
  (tSeq (tIfS (tNot (tTru K (tCall (spOf K sp__is_possible) [] E0 (tCons (tVar 2) (tCons (tVar 5) (tCons (tVar 6) tNil))))))
  tNever
  tNext)
  (tSeq (tAsg (tCall (spOf K sp_moved) [] E0 (tCons (tVar 2) (tCons (tVar 5) (tCons (tVar 6) tNil)))) (gName 2))
  (tDrop (tBM K "list" rAppend (tVar 3) (tCons (tVar 2) tNil))))))
  (tRet (tVar 3))))))
theorem dv_walk (T : Hd fn fa xs K mg) {sp_check_rides sp__is_possible sp_moved : Spec} (h_check_rides : FnE P w K mg base 2 (He.fAd K d_check_rides.at_) ps_check_rides (spOf K sp_check_rides)) (h__is_possible : FnE P w K mg base 2 (He.fAd K d__is_possible.at_) ps__is_possible (spOf K sp__is_possible)) (h_moved : FnE P w K mg base 4 (He.fAd K d_moved.at_) ps_moved (spOf K sp_moved)) {cdv : Value} {A : Around} {outer : List PySem.Env} {s : Shared} {H : Hp} {E : XK} (hr : Room 4 (A.deeper (envOfC d_walk.qual d_walk.scope s.heap.objs.size (He.fAd K d_walk.at_) cdv))) :
    PSs (cxOf CX0 P w K mg base N_walk d_walk.qual d_walk.scope (He.fAd K d_walk.at_) cdv A outer s H E).nox d_walk.body (t_walk K sp_check_rides sp__is_possible sp_moved) :=
  have nd := sc_walk.nd
  (pss_cons (ps_expr (pe_callE h_check_rides (hr.mono (by decide)) rfl (g_check_rides T) (pa_cons (pe_fld (pe_var (i := 0) rfl (.inl rfl)) rfl) (pa_cons (pe_var (i := 1) rfl (.inl rfl)) pa_nil))))
  (pss_cons (ps_set (i := 2) nd rfl (.inl rfl) (pe_var (i := 0) rfl (.inl rfl)))
  (pss_cons (ps_set (i := 3) nd rfl (.inl rfl) (pe_lst (pa_cons (pe_var (i := 2) rfl (.inl rfl)) pa_nil)))
  (pss_cons (ps_for PassesOwn.never rfl (pi_enumU rfl (fr_enumerate T) (pa_cons (pe_var (i := 1) rfl (.inl rfl)) pa_nil)) (pg_tup rfl (pgs_cons (pg_name (i := 4) nd rfl (.inl rfl)) (pgs_cons (pg_tup rfl (pgs_cons (pg_name (i := 5) nd rfl (.inl rfl)) (pgs_cons (pg_name (i := 6) nd rfl (.inl rfl)) pgs_nil))) pgs_nil)))
  (pss_cons (ps_if (pt_not (pt_tru (pe_callE h__is_possible (hr.mono (by decide)) rfl (g__is_possible T) (pa_cons (pe_var (i := 2) rfl (.inl rfl)) (pa_cons (pe_var (i := 5) rfl (.inl rfl)) (pa_cons (pe_var (i := 6) rfl (.inl rfl)) pa_nil)))))) (pss_one ps_never) pss_nil)
  (pss_cons (ps_set (i := 2) nd rfl (.inl rfl) (pe_callE h_moved (hr.mono (by decide)) rfl (g_moved T) (pa_cons (pe_var (i := 2) rfl (.inl rfl)) (pa_cons (pe_var (i := 5) rfl (.inl rfl)) (pa_cons (pe_var (i := 6) rfl (.inl rfl)) pa_nil)))))
  (pss_one (ps_expr (pe_bm PySem.F.plainAttrs_list PySem.F.slot_list_append PySem.F.type_list_append mt_append (pe_var (i := 3) rfl (.inl rfl)) (pa_cons (pe_var (i := 2) rfl (.inl rfl)) pa_nil)))))))
  (pss_one (ps_ret (pe_var (i := 3) rfl (.inl rfl))))))))
abbrev N_prices_for : List Str := ["net", "prices", "size"]
abbrev ps_prices_for : List Str := ["net", "prices"]
theorem sc_prices_for : FnScope N_prices_for ps_prices_for (defScope s_prices_for) := ⟨rfl, rfl, rfl, by decide +kernel, rfl, by decide +kernel, by decide +kernel⟩
def t_prices_for (K : PySem.W.Frag) : TS := (tSeq (tAsg (tCB (rLenQ K) (tCons (tFld K (tVar 0) "ropes") tNil)) (gName 2))
  (tSeq (tIfS (tTest (tOp rIsNo (tVar 1) (tC .non)))
  (tRet (tOp rMulU (tLst (tCons (tC (.int 1)) tNil)) (tVar 2)))
  tNext)
  (tSeq tNever
  (tRet (tCB (rListQ K) (tCons (tVar 1) tNil))))))
theorem dv_prices_for (T : Hd fn fa xs K mg) {cdv : Value} {A : Around} {outer : List PySem.Env} {s : Shared} {H : Hp} {E : XK} (hr : Room 0 (A.deeper (envOfC d_prices_for.qual d_prices_for.scope s.heap.objs.size (He.fAd K d_prices_for.at_) cdv))) :
    PSs (cxOf CX0 P w K mg base N_prices_for d_prices_for.qual d_prices_for.scope (He.fAd K d_prices_for.at_) cdv A outer s H E).nox d_prices_for.body (t_prices_for K) :=
  have nd := sc_prices_for.nd
  (pss_cons (ps_set (i := 2) nd rfl (.inl rfl) (pe_callB call_lenQ rfl (fr_len T) (by decide +kernel) (pa_cons (pe_fld (pe_var (i := 0) rfl (.inl rfl)) rfl) pa_nil)))
  (pss_cons (ps_if (pt_cmpR op_isNo (pe_var (i := 1) rfl (.inl rfl)) pe_non (nomark _)) (pss_one (ps_ret (pe_op op_mulU (pe_lst (pa_cons pe_int pa_nil)) (pe_var (i := 2) rfl (.inl rfl))))) pss_nil)
  (pss_cons ps_never
  (pss_one (ps_ret (pe_callTy call_listQ rfl (fr_list T) (by decide +kernel) (pa_cons (pe_var (i := 1) rfl (.inl rfl)) pa_nil)))))))
abbrev N_differences : List Str := ["ones", "others", "one", "other"]
abbrev ps_differences : List Str := ["ones", "others"]
theorem sc_differences : FnScope N_differences ps_differences (defScope s_differences) := ⟨rfl, rfl, rfl, by decide +kernel, rfl, by decide +kernel, by decide +kernel⟩
def t_differences (K : PySem.W.Frag) : TS := (tRet (tLc (RZ.iZipA K (tCons (tVar 0) (tCons (tVar 1) tNil))) (gTup K 2 (gCons (gName 2) (gCons (gName 3) gNil))) tYes (tOp rSubI (tVar 2) (tVar 3)) [2, 3]))
theorem dv_differences (T : Hd fn fa xs K mg) {cdv : Value} {A : Around} {outer : List PySem.Env} {s : Shared} {H : Hp} {E : XK} (hr : Room 0 (A.deeper (envOfC d_differences.qual d_differences.scope s.heap.objs.size (He.fAd K d_differences.at_) cdv))) :
    PSs (cxOf CX0 P w K mg base N_differences d_differences.qual d_differences.scope (He.fAd K d_differences.at_) cdv A outer s H E).nox d_differences.body (t_differences K) :=
  have nd := sc_differences.nd
  (pss_one (ps_ret (pe_lc (own := [("one", 2), ("other", 3)]) rfl nd (RZ.pi_zipA rfl (fr_zip T) (pa_cons (pe_var (i := 0) rfl (.inl rfl)) (pa_cons (pe_var (i := 1) rfl (.inl rfl)) pa_nil))) (blkOk_by (own := [("one", 2), ("other", 3)]) (N := N_differences) (sc := (defScope s_differences)) (by decide +kernel)) (fun _ _ _ _ _ => (pg_tup rfl (pgs_cons (pg_name (i := 2) nd rfl (.inl rfl)) (pgs_cons (pg_name (i := 3) nd rfl (.inl rfl)) pgs_nil)))) (fun _ _ _ _ _ => pts_nil) (fun _ _ _ _ _ => (pe_op op_subI (pe_var (i := 2) rfl (.inl rfl)) (pe_var (i := 3) rfl (.inl rfl)))))))
abbrev N_outflows : List Str := ["net", "crossings", "flows", "low", "high", "crossing"]
abbrev ps_outflows : List Str := ["net", "crossings"]
theorem sc_outflows : FnScope N_outflows ps_outflows (defScope s_outflows) := ⟨rfl, rfl, rfl, by decide +kernel, rfl, by decide +kernel, by decide +kernel⟩
def t_outflows (K : PySem.W.Frag) : TS := (tSeq (tAsg (tOp rMulU (tLst (tCons (tC (.int 0)) tNil)) (tFld K (tVar 0) "stations")) (gName 2))
  (tSeq (tFor (RZ.iZipA K (tCons (tFld K (tVar 0) "ropes") (tCons (tVar 1) tNil))) (gTup K 2 (gCons (gTup K 2 (gCons (gName 3) (gCons (gName 4) gNil))) (gCons (gName 5) gNil)))
  (tSeq (tAugS (tVar 2) (tVar 3) (tVar 5) (rGetL K) ipAdd rSetL)
  (tAugS (tVar 2) (tVar 4) (tVar 5) (rGetL K) ipSub rSetL)))
  (tRet (tVar 2))))
theorem dv_outflows (T : Hd fn fa xs K mg) {cdv : Value} {A : Around} {outer : List PySem.Env} {s : Shared} {H : Hp} {E : XK} (hr : Room 0 (A.deeper (envOfC d_outflows.qual d_outflows.scope s.heap.objs.size (He.fAd K d_outflows.at_) cdv))) :
    PSs (cxOf CX0 P w K mg base N_outflows d_outflows.qual d_outflows.scope (He.fAd K d_outflows.at_) cdv A outer s H E).nox d_outflows.body (t_outflows K) :=
  have nd := sc_outflows.nd
  (pss_cons (ps_set (i := 2) nd rfl (.inl rfl) (pe_op op_mulU (pe_lst (pa_cons pe_int pa_nil)) (pe_fld (pe_var (i := 0) rfl (.inl rfl)) rfl)))
  (pss_cons (ps_for PassesOwn.never rfl (RZ.pi_zipA rfl (fr_zip T) (pa_cons (pe_fld (pe_var (i := 0) rfl (.inl rfl)) rfl) (pa_cons (pe_var (i := 1) rfl (.inl rfl)) pa_nil))) (pg_tup rfl (pgs_cons (pg_tup rfl (pgs_cons (pg_name (i := 3) nd rfl (.inl rfl)) (pgs_cons (pg_name (i := 4) nd rfl (.inl rfl)) pgs_nil))) (pgs_cons (pg_name (i := 5) nd rfl (.inl rfl)) pgs_nil)))
  (pss_cons (ps_augS (pe_var (i := 2) rfl (.inl rfl)) (pe_var (i := 3) rfl (.inl rfl)) get_list (pe_var (i := 5) rfl (.inl rfl)) ip_addI set_list)
  (pss_one (ps_augS (pe_var (i := 2) rfl (.inl rfl)) (pe_var (i := 4) rfl (.inl rfl)) get_list (pe_var (i := 5) rfl (.inl rfl)) ip_subI set_list))))
  (pss_one (ps_ret (pe_var (i := 2) rfl (.inl rfl))))))
abbrev N_Bill___init__ : List Str := ["self", "net", "reds", "blues"]
abbrev ps_Bill___init__ : List Str := ["self", "net", "reds", "blues"]
theorem sc_Bill___init__ : FnScope N_Bill___init__ ps_Bill___init__ (defScope s_Bill___init__) := ⟨rfl, rfl, rfl, by decide +kernel, rfl, by decide +kernel, by decide +kernel⟩
def t_Bill___init__ (K : PySem.W.Frag) : TS := (tSeq (tIfS (tTest (tOp (rNeU K) (tCB (rLenQ K) (tCons (tVar 2) tNil)) (tCB (rLenQ K) (tCons (tFld K (tVar 1) "ropes") tNil))))
  tNever
  tNext)
  (tSeq (tIfS (tTest (tOp (rNeU K) (tCB (rLenQ K) (tCons (tVar 3) tNil)) (tCB (rLenQ K) (tCons (tFld K (tVar 1) "ropes") tNil))))
  tNever
  tNext)
  (tSeq (sFld K (tVar 0) (tVar 1) "net")
  (tSeq (sFld K (tVar 0) (tCB (rTupleQ K) (tCons (tVar 2) tNil)) "reds")
  (sFld K (tVar 0) (tCB (rTupleQ K) (tCons (tVar 3) tNil)) "blues")))))
theorem dv_Bill___init__ (T : Hd fn fa xs K mg) {cdv : Value} {A : Around} {outer : List PySem.Env} {s : Shared} {H : Hp} {E : XK} (hr : Room 0 (A.deeper (envOfC d_Bill___init__.qual d_Bill___init__.scope s.heap.objs.size (He.fAd K d_Bill___init__.at_) cdv))) :
    PSs (cxOf CX0 P w K mg base N_Bill___init__ d_Bill___init__.qual d_Bill___init__.scope (He.fAd K d_Bill___init__.at_) cdv A outer s H E).nox d_Bill___init__.body (t_Bill___init__ K) :=
  have nd := sc_Bill___init__.nd
  (pss_cons (ps_if (pt_cmpR (op_neU hr.units) (pe_callB call_lenQ rfl (fr_len T) (by decide +kernel) (pa_cons (pe_var (i := 2) rfl (.inl rfl)) pa_nil)) (pe_callB call_lenQ rfl (fr_len T) (by decide +kernel) (pa_cons (pe_fld (pe_var (i := 1) rfl (.inl rfl)) rfl) pa_nil)) (nomark _)) (pss_one ps_never) pss_nil)
  (pss_cons (ps_if (pt_cmpR (op_neU hr.units) (pe_callB call_lenQ rfl (fr_len T) (by decide +kernel) (pa_cons (pe_var (i := 3) rfl (.inl rfl)) pa_nil)) (pe_callB call_lenQ rfl (fr_len T) (by decide +kernel) (pa_cons (pe_fld (pe_var (i := 1) rfl (.inl rfl)) rfl) pa_nil)) (nomark _)) (pss_one ps_never) pss_nil)
  (pss_cons (ps_fld (pe_var (i := 0) rfl (.inl rfl)) (pe_var (i := 1) rfl (.inl rfl)) rfl)
  (pss_cons (ps_fld (pe_var (i := 0) rfl (.inl rfl)) (pe_callTy call_tupleQ rfl (fr_tuple T) (by decide +kernel) (pa_cons (pe_var (i := 2) rfl (.inl rfl)) pa_nil)) rfl)
  (pss_one (ps_fld (pe_var (i := 0) rfl (.inl rfl)) (pe_callTy call_tupleQ rfl (fr_tuple T) (by decide +kernel) (pa_cons (pe_var (i := 3) rfl (.inl rfl)) pa_nil)) rfl))))))
abbrev N_Bill___add__ : List Str := ["self", "other", "reds", "blues", "one", "more"]
abbrev ps_Bill___add__ : List Str := ["self", "other"]
theorem sc_Bill___add__ : FnScope N_Bill___add__ ps_Bill___add__ (defScope s_Bill___add__) := ⟨rfl, rfl, rfl, by decide +kernel, rfl, by decide +kernel, by decide +kernel⟩
def t_Bill___add__ (K : PySem.W.Frag) (sp_check_nets sp_Bill___init__ : Spec) : TS := (tSeq (tDrop (tCall (spOf K sp_check_nets) [] E0 (tCons (tVar 0) (tCons (tVar 1) tNil))))
  (tSeq (tAsg (tLc (RZ.iZipA K (tCons (tFld K (tVar 0) "reds") (tCons (tFld K (tVar 1) "reds") tNil))) (gTup K 2 (gCons (gName 4) (gCons (gName 5) gNil))) tYes (tOp (rAddU K) (tVar 4) (tVar 5)) [4, 5]) (gName 2))
  (tSeq (tAsg (tLc (RZ.iZipA K (tCons (tFld K (tVar 0) "blues") (tCons (tFld K (tVar 1) "blues") tNil))) (gTup K 2 (gCons (gName 4) (gCons (gName 5) gNil))) tYes (tOp (rAddU K) (tVar 4) (tVar 5)) [4, 5]) (gName 3))
  (tRet (tMake (He.ga K "Bill") (spOf K sp_Bill___init__) [] E0 (tCons (tFld K (tVar 0) "net") (tCons (tVar 2) (tCons (tVar 3) tNil))))))))
theorem dv_Bill___add__ (T : Hd fn fa xs K mg) {sp_check_nets sp_Bill___init__ : Spec} (h_check_nets : FnRE P w K mg base 2 (He.fAd K d_check_nets.at_) (spOf K sp_check_nets)) (h_Bill___init__ : FnE P w K mg base 1 (He.fAd K d_Bill___init__.at_) ps_Bill___init__ (spOf K sp_Bill___init__)) {cdv : Value} {A : Around} {outer : List PySem.Env} {s : Shared} {H : Hp} {E : XK} (hr : Room 2 (A.deeper (envOfC d_Bill___add__.qual d_Bill___add__.scope s.heap.objs.size (He.fAd K d_Bill___add__.at_) cdv))) :
    PSs (cxOf CX0 P w K mg base N_Bill___add__ d_Bill___add__.qual d_Bill___add__.scope (He.fAd K d_Bill___add__.at_) cdv A outer s H E).nox d_Bill___add__.body (t_Bill___add__ K sp_check_nets sp_Bill___init__) :=
  have nd := sc_Bill___add__.nd
  (pss_cons (ps_expr (pe_callRE h_check_nets (hr.mono (by decide)) rfl (g_check_nets T) (pa_cons (pe_var (i := 0) rfl (.inl rfl)) (pa_cons (pe_var (i := 1) rfl (.inl rfl)) pa_nil))))
  (pss_cons (ps_setLc (i := 2) (own := [("one", 4), ("more", 5)]) rfl nd rfl rfl (sw_true rfl rfl rfl (by decide +kernel)) (RZ.pi_zipA rfl (fr_zip T) (pa_cons (pe_fld (pe_var (i := 0) rfl (.inl rfl)) rfl) (pa_cons (pe_fld (pe_var (i := 1) rfl (.inl rfl)) rfl) pa_nil))) (blkOk_by (own := [("one", 4), ("more", 5)]) (N := N_Bill___add__) (sc := (defScope s_Bill___add__)) (by decide +kernel)) (fun _ _ _ _ _ => (pg_tup rfl (pgs_cons (pg_name (i := 4) nd rfl (.inl rfl)) (pgs_cons (pg_name (i := 5) nd rfl (.inl rfl)) pgs_nil)))) (fun _ _ _ _ _ => pts_nil) (fun _ _ _ _ _ => (pe_op op_addU (pe_var (i := 4) rfl (.inl rfl)) (pe_var (i := 5) rfl (.inl rfl)))))
  (pss_cons (ps_setLc (i := 3) (own := [("one", 4), ("more", 5)]) rfl nd rfl rfl (sw_true rfl rfl rfl (by decide +kernel)) (RZ.pi_zipA rfl (fr_zip T) (pa_cons (pe_fld (pe_var (i := 0) rfl (.inl rfl)) rfl) (pa_cons (pe_fld (pe_var (i := 1) rfl (.inl rfl)) rfl) pa_nil))) (blkOk_by (own := [("one", 4), ("more", 5)]) (N := N_Bill___add__) (sc := (defScope s_Bill___add__)) (by decide +kernel)) (fun _ _ _ _ _ => (pg_tup rfl (pgs_cons (pg_name (i := 4) nd rfl (.inl rfl)) (pgs_cons (pg_name (i := 5) nd rfl (.inl rfl)) pgs_nil)))) (fun _ _ _ _ _ => pts_nil) (fun _ _ _ _ _ => (pe_op op_addU (pe_var (i := 4) rfl (.inl rfl)) (pe_var (i := 5) rfl (.inl rfl)))))
  (pss_one (ps_ret (pe_makeE (mk_Bill T) h_Bill___init__ (hr.mono (by decide)) rfl (g_Bill T) (pa_cons (pe_fld (pe_var (i := 0) rfl (.inl rfl)) rfl) (pa_cons (pe_var (i := 2) rfl (.inl rfl)) (pa_cons (pe_var (i := 3) rfl (.inl rfl)) pa_nil)))))))))
abbrev N_Bill___sub__ : List Str := ["self", "other"]
abbrev ps_Bill___sub__ : List Str := ["self", "other"]
theorem sc_Bill___sub__ : FnScope N_Bill___sub__ ps_Bill___sub__ (defScope s_Bill___sub__) := ⟨rfl, rfl, rfl, by decide +kernel, rfl, by decide +kernel, by decide +kernel⟩
def t_Bill___sub__ (K : PySem.W.Frag) (sp_check_nets sp_Bill___init__ sp_differences : Spec) : TS := (tSeq (tDrop (tCall (spOf K sp_check_nets) [] E0 (tCons (tVar 0) (tCons (tVar 1) tNil))))
  (tRet (tMake (He.ga K "Bill") (spOf K sp_Bill___init__) [] E0 (tCons (tFld K (tVar 0) "net") (tCons (tCall (spOf K sp_differences) [] E0 (tCons (tFld K (tVar 0) "reds") (tCons (tFld K (tVar 1) "reds") tNil))) (tCons (tCall (spOf K sp_differences) [] E0 (tCons (tFld K (tVar 0) "blues") (tCons (tFld K (tVar 1) "blues") tNil))) tNil))))))
theorem dv_Bill___sub__ (T : Hd fn fa xs K mg) {sp_check_nets sp_Bill___init__ sp_differences : Spec} (h_check_nets : FnRE P w K mg base 2 (He.fAd K d_check_nets.at_) (spOf K sp_check_nets)) (h_Bill___init__ : FnE P w K mg base 1 (He.fAd K d_Bill___init__.at_) ps_Bill___init__ (spOf K sp_Bill___init__)) (h_differences : FnE P w K mg base 1 (He.fAd K d_differences.at_) ps_differences (spOf K sp_differences)) {cdv : Value} {A : Around} {outer : List PySem.Env} {s : Shared} {H : Hp} {E : XK} (hr : Room 2 (A.deeper (envOfC d_Bill___sub__.qual d_Bill___sub__.scope s.heap.objs.size (He.fAd K d_Bill___sub__.at_) cdv))) :
    PSs (cxOf CX0 P w K mg base N_Bill___sub__ d_Bill___sub__.qual d_Bill___sub__.scope (He.fAd K d_Bill___sub__.at_) cdv A outer s H E).nox d_Bill___sub__.body (t_Bill___sub__ K sp_check_nets sp_Bill___init__ sp_differences) :=
  have nd := sc_Bill___sub__.nd
  (pss_cons (ps_expr (pe_callRE h_check_nets (hr.mono (by decide)) rfl (g_check_nets T) (pa_cons (pe_var (i := 0) rfl (.inl rfl)) (pa_cons (pe_var (i := 1) rfl (.inl rfl)) pa_nil))))
  (pss_one (ps_ret (pe_makeE (mk_Bill T) h_Bill___init__ (hr.mono (by decide)) rfl (g_Bill T) (pa_cons (pe_fld (pe_var (i := 0) rfl (.inl rfl)) rfl) (pa_cons (pe_callE h_differences (hr.mono (by decide)) rfl (g_differences T) (pa_cons (pe_fld (pe_var (i := 0) rfl (.inl rfl)) rfl) (pa_cons (pe_fld (pe_var (i := 1) rfl (.inl rfl)) rfl) pa_nil))) (pa_cons (pe_callE h_differences (hr.mono (by decide)) rfl (g_differences T) (pa_cons (pe_fld (pe_var (i := 0) rfl (.inl rfl)) rfl) (pa_cons (pe_fld (pe_var (i := 1) rfl (.inl rfl)) rfl) pa_nil))) pa_nil)))))))
abbrev N_Bill___neg__ : List Str := ["self", "one"]
abbrev ps_Bill___neg__ : List Str := ["self"]
theorem sc_Bill___neg__ : FnScope N_Bill___neg__ ps_Bill___neg__ (defScope s_Bill___neg__) := ⟨rfl, rfl, rfl, by decide +kernel, rfl, by decide +kernel, by decide +kernel⟩
def t_Bill___neg__ (K : PySem.W.Frag) (sp_Bill___init__ : Spec) : TS := (tRet (tMake (He.ga K "Bill") (spOf K sp_Bill___init__) [] E0 (tCons (tFld K (tVar 0) "net") (tCons (tLc (iSeqU K (tFld K (tVar 0) "reds")) (gName 1) tYes (tUn rNegI (tVar 1)) [1]) (tCons (tLc (iSeqU K (tFld K (tVar 0) "blues")) (gName 1) tYes (tUn rNegI (tVar 1)) [1]) tNil)))))
theorem dv_Bill___neg__ (T : Hd fn fa xs K mg) {sp_Bill___init__ : Spec} (h_Bill___init__ : FnE P w K mg base 1 (He.fAd K d_Bill___init__.at_) ps_Bill___init__ (spOf K sp_Bill___init__)) {cdv : Value} {A : Around} {outer : List PySem.Env} {s : Shared} {H : Hp} {E : XK} (hr : Room 2 (A.deeper (envOfC d_Bill___neg__.qual d_Bill___neg__.scope s.heap.objs.size (He.fAd K d_Bill___neg__.at_) cdv))) :
    PSs (cxOf CX0 P w K mg base N_Bill___neg__ d_Bill___neg__.qual d_Bill___neg__.scope (He.fAd K d_Bill___neg__.at_) cdv A outer s H E).nox d_Bill___neg__.body (t_Bill___neg__ K sp_Bill___init__) :=
  have nd := sc_Bill___neg__.nd
  (pss_one (ps_ret (pe_makeE (mk_Bill T) h_Bill___init__ (hr.mono (by decide)) rfl (g_Bill T) (pa_cons (pe_fld (pe_var (i := 0) rfl (.inl rfl)) rfl) (pa_cons (pe_lc (own := [("one", 1)]) rfl nd (pi_seqU (pe_fld (pe_var (i := 0) rfl (.inl rfl)) rfl)) (blkOk_by (own := [("one", 1)]) (N := N_Bill___neg__) (sc := (defScope s_Bill___neg__)) (by decide +kernel)) (fun _ _ _ _ _ => (pg_name (i := 1) nd rfl (.inl rfl))) (fun _ _ _ _ _ => pts_nil) (fun _ _ _ _ _ => (pe_un un_negI (pe_var (i := 1) rfl (.inl rfl))))) (pa_cons (pe_lc (own := [("one", 1)]) rfl nd (pi_seqU (pe_fld (pe_var (i := 0) rfl (.inl rfl)) rfl)) (blkOk_by (own := [("one", 1)]) (N := N_Bill___neg__) (sc := (defScope s_Bill___neg__)) (by decide +kernel)) (fun _ _ _ _ _ => (pg_name (i := 1) nd rfl (.inl rfl))) (fun _ _ _ _ _ => pts_nil) (fun _ _ _ _ _ => (pe_un un_negI (pe_var (i := 1) rfl (.inl rfl))))) pa_nil))))))
abbrev N_Bill_cost : List Str := ["self", "prices", "known", "parts", "red", "blue", "price", "part"]
abbrev ps_Bill_cost : List Str := ["self", "prices"]
theorem sc_Bill_cost : FnScope N_Bill_cost ps_Bill_cost (defScope s_Bill_cost) := ⟨rfl, rfl, rfl, by decide +kernel, rfl, by decide +kernel, by decide +kernel⟩
def t_Bill_cost (K : PySem.W.Frag) (sp_prices_for : Spec) : TS := (tSeq (tAsg (tCall (spOf K sp_prices_for) [] E0 (tCons (tFld K (tVar 0) "net") (tCons (tVar 1) tNil))) (gName 2))
  (tSeq (tAsg (tLc (RZ.iZipA K (tCons (tFld K (tVar 0) "reds") (tCons (tFld K (tVar 0) "blues") tNil))) (gTup K 2 (gCons (gName 4) (gCons (gName 5) gNil))) tYes (tOp (rAddU K) (tCB rAbsQ (tCons (tVar 4) tNil)) (tCB rAbsQ (tCons (tVar 5) tNil))) [4, 5]) (gName 3))
  (tRet (tCB (rSumU K) (tCons (tLc (RZ.iZipA K (tCons (tVar 2) (tCons (tVar 3) tNil))) (gTup K 2 (gCons (gName 6) (gCons (gName 7) gNil))) tYes (tOp rMulU (tVar 6) (tVar 7)) [6, 7]) tNil)))))
theorem dv_Bill_cost (T : Hd fn fa xs K mg) {sp_prices_for : Spec} (h_prices_for : FnE P w K mg base 1 (He.fAd K d_prices_for.at_) ps_prices_for (spOf K sp_prices_for)) {cdv : Value} {A : Around} {outer : List PySem.Env} {s : Shared} {H : Hp} {E : XK} (hr : Room 1 (A.deeper (envOfC d_Bill_cost.qual d_Bill_cost.scope s.heap.objs.size (He.fAd K d_Bill_cost.at_) cdv))) :
    PSs (cxOf CX0 P w K mg base N_Bill_cost d_Bill_cost.qual d_Bill_cost.scope (He.fAd K d_Bill_cost.at_) cdv A outer s H E).nox d_Bill_cost.body (t_Bill_cost K sp_prices_for) :=
  have nd := sc_Bill_cost.nd
  (pss_cons (ps_set (i := 2) nd rfl (.inl rfl) (pe_callE h_prices_for (hr.mono (by decide)) rfl (g_prices_for T) (pa_cons (pe_fld (pe_var (i := 0) rfl (.inl rfl)) rfl) (pa_cons (pe_var (i := 1) rfl (.inl rfl)) pa_nil))))
  (pss_cons (ps_setLc (i := 3) (own := [("red", 4), ("blue", 5)]) rfl nd rfl rfl (sw_true rfl rfl rfl (by decide +kernel)) (RZ.pi_zipA rfl (fr_zip T) (pa_cons (pe_fld (pe_var (i := 0) rfl (.inl rfl)) rfl) (pa_cons (pe_fld (pe_var (i := 0) rfl (.inl rfl)) rfl) pa_nil))) (blkOk_by (own := [("red", 4), ("blue", 5)]) (N := N_Bill_cost) (sc := (defScope s_Bill_cost)) (by decide +kernel)) (fun _ _ _ _ _ => (pg_tup rfl (pgs_cons (pg_name (i := 4) nd rfl (.inl rfl)) (pgs_cons (pg_name (i := 5) nd rfl (.inl rfl)) pgs_nil)))) (fun _ _ _ _ _ => pts_nil) (fun _ _ _ _ _ => (pe_op op_addU (pe_callB call_absQ rfl (fr_abs T) (by decide +kernel) (pa_cons (pe_var (i := 4) rfl (.inl rfl)) pa_nil)) (pe_callB call_absQ rfl (fr_abs T) (by decide +kernel) (pa_cons (pe_var (i := 5) rfl (.inl rfl)) pa_nil)))))
  (pss_one (ps_ret (pe_callB (call_sumU rfl) rfl (fr_sum T) (by decide +kernel) (pa_cons (pe_lc (own := [("price", 6), ("part", 7)]) rfl nd (RZ.pi_zipA rfl (fr_zip T) (pa_cons (pe_var (i := 2) rfl (.inl rfl)) (pa_cons (pe_var (i := 3) rfl (.inl rfl)) pa_nil))) (blkOk_by (own := [("price", 6), ("part", 7)]) (N := N_Bill_cost) (sc := (defScope s_Bill_cost)) (by decide +kernel)) (fun _ _ _ _ _ => (pg_tup rfl (pgs_cons (pg_name (i := 6) nd rfl (.inl rfl)) (pgs_cons (pg_name (i := 7) nd rfl (.inl rfl)) pgs_nil)))) (fun _ _ _ _ _ => pts_nil) (fun _ _ _ _ _ => (pe_op op_mulU (pe_var (i := 6) rfl (.inl rfl)) (pe_var (i := 7) rfl (.inl rfl))))) pa_nil))))))
abbrev N_Bill_leads : List Str := ["self", "first", "second", "net"]
abbrev ps_Bill_leads : List Str := ["self", "first", "second"]
theorem sc_Bill_leads : FnScope N_Bill_leads ps_Bill_leads (defScope s_Bill_leads) := ⟨rfl, rfl, rfl, by decide +kernel, rfl, by decide +kernel, by decide +kernel⟩
def t_Bill_leads (K : PySem.W.Frag) (sp_Net___eq__ sp_differences sp_outflows : Spec) : TS := (tSeq (tAsg (tFld K (tVar 0) "net") (gName 3))
  (tSeq (tIfS (tOr (tTest (tOp (rOwnNe (He.ga K "Net") (spOf K sp_Net___eq__)) (tFld K (tVar 1) "net") (tVar 3))) (tTest (tOp (rOwnNe (He.ga K "Net") (spOf K sp_Net___eq__)) (tFld K (tVar 2) "net") (tVar 3))))
  (tRet (tC (.bl false)))
  tNext)
  (tSeq (tIfS (tTest (tOp (rNeU K) (tCall (spOf K sp_differences) [] E0 (tCons (tFld K (tVar 0) "reds") (tCons (tFld K (tVar 0) "blues") tNil))) (tCall (spOf K sp_differences) [] E0 (tCons (tFld K (tVar 2) "cars") (tCons (tFld K (tVar 1) "cars") tNil)))))
  (tRet (tC (.bl false)))
  tNext)
  (tRet (tAndV (tOp (rEqU K) (tCall (spOf K sp_outflows) [] E0 (tCons (tVar 3) (tCons (tFld K (tVar 0) "reds") tNil))) (tCall (spOf K sp_differences) [] E0 (tCons (tFld K (tVar 1) "reds") (tCons (tFld K (tVar 2) "reds") tNil)))) (tOp (rEqU K) (tCall (spOf K sp_outflows) [] E0 (tCons (tVar 3) (tCons (tFld K (tVar 0) "blues") tNil))) (tCall (spOf K sp_differences) [] E0 (tCons (tFld K (tVar 1) "blues") (tCons (tFld K (tVar 2) "blues") tNil)))))))))
theorem dv_Bill_leads (T : Hd fn fa xs K mg) {sp_Net___eq__ sp_differences sp_outflows : Spec} (h_Net___eq__ : FnE P w K mg base 1 (He.fAd K d_Net___eq__.at_) ps_Net___eq__ (spOf K sp_Net___eq__)) (h_differences : FnE P w K mg base 1 (He.fAd K d_differences.at_) ps_differences (spOf K sp_differences)) (h_outflows : FnE P w K mg base 1 (He.fAd K d_outflows.at_) ps_outflows (spOf K sp_outflows)) {cdv : Value} {A : Around} {outer : List PySem.Env} {s : Shared} {H : Hp} {E : XK} (hr : Room 2 (A.deeper (envOfC d_Bill_leads.qual d_Bill_leads.scope s.heap.objs.size (He.fAd K d_Bill_leads.at_) cdv))) :
    PSs (cxOf CX0 P w K mg base N_Bill_leads d_Bill_leads.qual d_Bill_leads.scope (He.fAd K d_Bill_leads.at_) cdv A outer s H E).nox d_Bill_leads.body (t_Bill_leads K sp_Net___eq__ sp_differences sp_outflows) :=
  have nd := sc_Bill_leads.nd
  (pss_cons (ps_set (i := 3) nd rfl (.inl rfl) (pe_fld (pe_var (i := 0) rfl (.inl rfl)) rfl))
  (pss_cons (ps_if (PW.pt (pw_or (pt_cmpR (op_ownNe h_Net___eq__ (hr.mono (by decide)) (du_Net___eq__ T) (ne_Net T).1 (ne_Net T).2) (pe_fld (pe_var (i := 1) rfl (.inl rfl)) rfl) (pe_var (i := 3) rfl (.inl rfl)) (nomark _)) (pw_or1 (pt_cmpR (op_ownNe h_Net___eq__ (hr.mono (by decide)) (du_Net___eq__ T) (ne_Net T).1 (ne_Net T).2) (pe_fld (pe_var (i := 2) rfl (.inl rfl)) rfl) (pe_var (i := 3) rfl (.inl rfl)) (nomark _))))) (pss_one (ps_ret pe_bl)) pss_nil)
  (pss_cons (ps_if (pt_cmpR (op_neU hr.units) (pe_callE h_differences (hr.mono (by decide)) rfl (g_differences T) (pa_cons (pe_fld (pe_var (i := 0) rfl (.inl rfl)) rfl) (pa_cons (pe_fld (pe_var (i := 0) rfl (.inl rfl)) rfl) pa_nil))) (pe_callE h_differences (hr.mono (by decide)) rfl (g_differences T) (pa_cons (pe_fld (pe_var (i := 2) rfl (.inl rfl)) rfl) (pa_cons (pe_fld (pe_var (i := 1) rfl (.inl rfl)) rfl) pa_nil))) (nomark _)) (pss_one (ps_ret pe_bl)) pss_nil)
  (pss_one (ps_ret (pe_and (pe_cmpR (op_eqU hr.units) (pe_callE h_outflows (hr.mono (by decide)) rfl (g_outflows T) (pa_cons (pe_var (i := 3) rfl (.inl rfl)) (pa_cons (pe_fld (pe_var (i := 0) rfl (.inl rfl)) rfl) pa_nil))) (pe_callE h_differences (hr.mono (by decide)) rfl (g_differences T) (pa_cons (pe_fld (pe_var (i := 1) rfl (.inl rfl)) rfl) (pa_cons (pe_fld (pe_var (i := 2) rfl (.inl rfl)) rfl) pa_nil))) (nomark _)) (pe_one (pe_cmpR (op_eqU hr.units) (pe_callE h_outflows (hr.mono (by decide)) rfl (g_outflows T) (pa_cons (pe_var (i := 3) rfl (.inl rfl)) (pa_cons (pe_fld (pe_var (i := 0) rfl (.inl rfl)) rfl) pa_nil))) (pe_callE h_differences (hr.mono (by decide)) rfl (g_differences T) (pa_cons (pe_fld (pe_var (i := 1) rfl (.inl rfl)) rfl) (pa_cons (pe_fld (pe_var (i := 2) rfl (.inl rfl)) rfl) pa_nil))) (nomark _)))))))))
abbrev N_bill_of : List Str := ["standing", "rides", "net", "reds", "blues", "before", "rope", "colour", "low", "_", "step"]
abbrev ps_bill_of : List Str := ["standing", "rides"]
theorem sc_bill_of : FnScope N_bill_of ps_bill_of (defScope s_bill_of) := ⟨rfl, rfl, rfl, by decide +kernel, rfl, by decide +kernel, by decide +kernel⟩
def t_bill_of (K : PySem.W.Frag) (sp_walk sp_car_station sp_Bill___init__ : Spec) : TS := (tSeq (tAsg (tFld K (tVar 0) "net") (gName 2))
  (tSeq (tAsg (tOp rMulU (tLst (tCons (tC (.int 0)) tNil)) (tCB (rLenQ K) (tCons (tFld K (tVar 2) "ropes") tNil))) (gName 3))
  (tSeq (tAsg (tOp rMulU (tLst (tCons (tC (.int 0)) tNil)) (tCB (rLenQ K) (tCons (tFld K (tVar 2) "ropes") tNil))) (gName 4))
  (tSeq (tFor (RZ.iZipA K (tCons (tCall (spOf K sp_walk) [] E0 (tCons (tVar 0) (tCons (tVar 1) tNil))) (tCons (tVar 1) tNil))) (gTup K 2 (gCons (gName 5) (gCons (gTup K 2 (gCons (gName 6) (gCons (gName 7) gNil))) gNil)))
  (tSeq (tAsg (tOp (rIxU K) (tFld K (tVar 2) "ropes") (tVar 6)) (gTup K 2 (gCons (gName 8) (gCons (gName 9) gNil))))
  (tSeq (tAsg (tIf (tTest (tOp (rEqU K) (tCall (spOf K sp_car_station) [] E0 (tCons (tVar 5) (tCons (tVar 6) (tCons (tVar 7) tNil)))) (tVar 8))) (tC (.int 1)) (tUn rNegI (tC (.int 1)))) (gName 10))
  (tIfS (tTest (tOp (rEqU K) (tVar 7) (tC (.str "red"))))
  (tAugS (tVar 3) (tVar 6) (tVar 10) (rGetL K) ipAdd rSetL)
  (tAugS (tVar 4) (tVar 6) (tVar 10) (rGetL K) ipAdd rSetL)))))
  (tRet (tMake (He.ga K "Bill") (spOf K sp_Bill___init__) [] E0 (tCons (tVar 2) (tCons (tVar 3) (tCons (tVar 4) tNil)))))))))
theorem dv_bill_of (T : Hd fn fa xs K mg) {sp_walk sp_car_station sp_Bill___init__ : Spec} (h_walk : FnE P w K mg base 5 (He.fAd K d_walk.at_) ps_walk (spOf K sp_walk)) (h_car_station : FnE P w K mg base 1 (He.fAd K d_car_station.at_) ps_car_station (spOf K sp_car_station)) (h_Bill___init__ : FnE P w K mg base 1 (He.fAd K d_Bill___init__.at_) ps_Bill___init__ (spOf K sp_Bill___init__)) {cdv : Value} {A : Around} {outer : List PySem.Env} {s : Shared} {H : Hp} {E : XK} (hr : Room 5 (A.deeper (envOfC d_bill_of.qual d_bill_of.scope s.heap.objs.size (He.fAd K d_bill_of.at_) cdv))) :
    PSs (cxOf CX0 P w K mg base N_bill_of d_bill_of.qual d_bill_of.scope (He.fAd K d_bill_of.at_) cdv A outer s H E).nox d_bill_of.body (t_bill_of K sp_walk sp_car_station sp_Bill___init__) :=
  have nd := sc_bill_of.nd
  (pss_cons (ps_set (i := 2) nd rfl (.inl rfl) (pe_fld (pe_var (i := 0) rfl (.inl rfl)) rfl))
  (pss_cons (ps_set (i := 3) nd rfl (.inl rfl) (pe_op op_mulU (pe_lst (pa_cons pe_int pa_nil)) (pe_callB call_lenQ rfl (fr_len T) (by decide +kernel) (pa_cons (pe_fld (pe_var (i := 2) rfl (.inl rfl)) rfl) pa_nil))))
  (pss_cons (ps_set (i := 4) nd rfl (.inl rfl) (pe_op op_mulU (pe_lst (pa_cons pe_int pa_nil)) (pe_callB call_lenQ rfl (fr_len T) (by decide +kernel) (pa_cons (pe_fld (pe_var (i := 2) rfl (.inl rfl)) rfl) pa_nil))))
  (pss_cons (ps_for PassesOwn.never rfl (RZ.pi_zipA rfl (fr_zip T) (pa_cons (pe_callE h_walk (hr.mono (by decide)) rfl (g_walk T) (pa_cons (pe_var (i := 0) rfl (.inl rfl)) (pa_cons (pe_var (i := 1) rfl (.inl rfl)) pa_nil))) (pa_cons (pe_var (i := 1) rfl (.inl rfl)) pa_nil))) (pg_tup rfl (pgs_cons (pg_name (i := 5) nd rfl (.inl rfl)) (pgs_cons (pg_tup rfl (pgs_cons (pg_name (i := 6) nd rfl (.inl rfl)) (pgs_cons (pg_name (i := 7) nd rfl (.inl rfl)) pgs_nil))) pgs_nil)))
  (pss_cons (ps_asg (pe_ix ix_U (pe_fld (pe_var (i := 2) rfl (.inl rfl)) rfl) (pe_var (i := 6) rfl (.inl rfl)) (fun _ _ => rfl)) (pg_tup rfl (pgs_cons (pg_name (i := 8) nd rfl (.inl rfl)) (pgs_cons (pg_name (i := 9) nd rfl (.inl rfl)) pgs_nil))))
  (pss_cons (ps_set (i := 10) nd rfl (.inl rfl) (pe_ifExp (pt_cmpR (op_eqU hr.units) (pe_callE h_car_station (hr.mono (by decide)) rfl (g_car_station T) (pa_cons (pe_var (i := 5) rfl (.inl rfl)) (pa_cons (pe_var (i := 6) rfl (.inl rfl)) (pa_cons (pe_var (i := 7) rfl (.inl rfl)) pa_nil)))) (pe_var (i := 8) rfl (.inl rfl)) (nomark _)) pe_int (pe_un un_negI pe_int)))
  (pss_one (ps_if (pt_cmpR (op_eqU hr.units) (pe_var (i := 7) rfl (.inl rfl)) pe_str (nomark _)) (pss_one (ps_augS (pe_var (i := 3) rfl (.inl rfl)) (pe_var (i := 6) rfl (.inl rfl)) get_list (pe_var (i := 10) rfl (.inl rfl)) ip_addI set_list)) (pss_one (ps_augS (pe_var (i := 4) rfl (.inl rfl)) (pe_var (i := 6) rfl (.inl rfl)) get_list (pe_var (i := 10) rfl (.inl rfl)) ip_addI set_list)))))))
  (pss_one (ps_ret (pe_makeE (mk_Bill T) h_Bill___init__ (hr.mono (by decide)) rfl (g_Bill T) (pa_cons (pe_var (i := 2) rfl (.inl rfl)) (pa_cons (pe_var (i := 3) rfl (.inl rfl)) (pa_cons (pe_var (i := 4) rfl (.inl rfl)) pa_nil))))))))))
abbrev N__cut_off : List Str := ["stations", "ropes", "joined", "growing", "first", "second", "station"]
abbrev ps__cut_off : List Str := ["stations", "ropes"]
theorem sc__cut_off : FnScope N__cut_off ps__cut_off (defScope s__cut_off) := ⟨rfl, rfl, rfl, by decide +kernel, rfl, by decide +kernel, by decide +kernel⟩
def t__cut_off (K : PySem.W.Frag) : TS := (tSeq (tAsg (tLc (iRng1 (tCons (tVar 0) tNil)) (gName 6) tYes (tOp (rEqU K) (tVar 6) (tC (.int 0))) [6]) (gName 2))
  (tSeq (tAsg (tC (.bl true)) (gName 3))
  (tSeq (tWhile (tTru K (tVar 3))
  (tSeq (tAsg (tC (.bl false)) (gName 3))
  (tFor (iSeqU K (tVar 1)) (gTup K 2 (gCons (gName 4) (gCons (gName 5) gNil)))
  (tIfS (tTest (tOp (rNeU K) (tOp (rIxU K) (tVar 2) (tVar 4)) (tOp (rIxU K) (tVar 2) (tVar 5))))
  (tSeq (tAsg (tC (.bl true)) (gSub (tVar 2) (tVar 4) rSetL))
  (tSeq (tAsg (tC (.bl true)) (gSub (tVar 2) (tVar 5) rSetL))
  (tAsg (tC (.bl true)) (gName 3))))
  tNext))))
  (tRet (tLc (iRng1 (tCons (tVar 0) tNil)) (gName 6) (tNot (tTru K (tOp (rIxU K) (tVar 2) (tVar 6)))) (tVar 6) [6])))))
theorem dv__cut_off (T : Hd fn fa xs K mg) {cdv : Value} {A : Around} {outer : List PySem.Env} {s : Shared} {H : Hp} {E : XK} (hr : Room 0 (A.deeper (envOfC d__cut_off.qual d__cut_off.scope s.heap.objs.size (He.fAd K d__cut_off.at_) cdv))) :
    PSs (cxOf CX0 P w K mg base N__cut_off d__cut_off.qual d__cut_off.scope (He.fAd K d__cut_off.at_) cdv A outer s H E).nox d__cut_off.body (t__cut_off K) :=
  have nd := sc__cut_off.nd
  (pss_cons (ps_set (i := 2) nd rfl (.inr rfl) (pe_lc (own := [("station", 6)]) rfl nd (pi_range1 rfl (fr_range T) (pa_cons (pe_var (i := 0) rfl (.inl rfl)) pa_nil)) (blkOk_by (own := [("station", 6)]) (N := N__cut_off) (sc := (defScope s__cut_off)) (by decide +kernel)) (fun _ _ _ _ _ => (pg_name (i := 6) nd rfl (.inl rfl))) (fun _ _ _ _ _ => pts_nil) (fun _ _ _ _ _ => (pe_cmpR (op_eqU hr.units) (pe_var (i := 6) rfl (.inl rfl)) pe_int (nomark _)))))
  (pss_cons (ps_set (i := 3) nd rfl (.inl rfl) pe_bl)
  (pss_cons (ps_while PassesOwn.never (pt_tru (pe_var (i := 3) rfl (.inl rfl))) (pss_cons (ps_set (i := 3) nd rfl (.inl rfl) pe_bl)
  (pss_one (ps_for PassesOwn.never rfl (pi_seqU (pe_var (i := 1) rfl (.inl rfl))) (pg_tup rfl (pgs_cons (pg_name (i := 4) nd rfl (.inl rfl)) (pgs_cons (pg_name (i := 5) nd rfl (.inl rfl)) pgs_nil)))
  (pss_one (ps_if (pt_cmpR (op_neU hr.units) (pe_ix ix_U (pe_var (i := 2) rfl (.inr (.inl rfl))) (pe_var (i := 4) rfl (.inl rfl)) (fun _ _ => rfl)) (pe_ix ix_U (pe_var (i := 2) rfl (.inr (.inl rfl))) (pe_var (i := 5) rfl (.inl rfl)) (fun _ _ => rfl)) (nomark _)) (pss_cons (ps_asg pe_bl (pg_sub (pe_var (i := 2) rfl (.inr (.inl rfl))) (pe_var (i := 4) rfl (.inl rfl)) set_list))
  (pss_cons (ps_asg pe_bl (pg_sub (pe_var (i := 2) rfl (.inr (.inl rfl))) (pe_var (i := 5) rfl (.inl rfl)) set_list))
  (pss_one (ps_set (i := 3) nd rfl (.inl rfl) pe_bl)))) pss_nil))))))
  (pss_one (ps_ret (pe_lc (own := [("station", 6)]) rfl nd (pi_range1 rfl (fr_range T) (pa_cons (pe_var (i := 0) rfl (.inl rfl)) pa_nil)) (blkOk_by (own := [("station", 6)]) (N := N__cut_off) (sc := (defScope s__cut_off)) (by decide +kernel)) (fun _ _ _ _ _ => (pg_name (i := 6) nd rfl (.inl rfl))) (fun _ _ _ _ _ => (pts_one (pt_not (pt_tru (pe_ix ix_U (pe_var (i := 2) rfl (.inr (.inl rfl))) (pe_var (i := 6) rfl (.inl rfl)) (fun _ _ => rfl)))))) (fun _ _ _ _ _ => (pe_var (i := 6) rfl (.inl rfl)))))))))
abbrev N__check_size : List Str := ["stations", "least"]
abbrev ps__check_size : List Str := ["stations", "least"]
theorem sc__check_size : FnScope N__check_size ps__check_size (defScope s__check_size) := ⟨rfl, rfl, rfl, by decide +kernel, rfl, by decide +kernel, by decide +kernel⟩
def t__check_size (K : PySem.W.Frag) : TS := (tIfS (tNot (tTest (tChain rLeI rLeI (tVar 1) (tVar 0) (ClX.tCVal K (tC (.ref (He.ga K "Net"))) "MOST_STATIONS"))))
  tNever
  tNext)
theorem dv__check_size (T : Hd fn fa xs K mg) {cdv : Value} {A : Around} {outer : List PySem.Env} {s : Shared} {H : Hp} {E : XK} (hr : Room 0 (A.deeper (envOfC d__check_size.qual d__check_size.scope s.heap.objs.size (He.fAd K d__check_size.at_) cdv))) :
    PSs (cxOf CX0 P w K mg base N__check_size d__check_size.qual d__check_size.scope (He.fAd K d__check_size.at_) cdv A outer s H E).nox d__check_size.body (t__check_size K) :=
  have nd := sc__check_size.nd
  (pss_one (ps_if (pt_not (pt_chain op_leI op_leI (pe_var (i := 1) rfl (.inl rfl)) (pe_var (i := 0) rfl (.inl rfl)) (ClX.pe_cval (C8.pe_gc rfl ⟨_, g_Net T, rfl⟩)))) (pss_one ps_never) pss_nil))
abbrev N_Net___init__ : List Str := ["self", "stations", "ropes", "place", "first", "second", "missing"]
abbrev ps_Net___init__ : List Str := ["self", "stations", "ropes"]
theorem sc_Net___init__ : FnScope N_Net___init__ ps_Net___init__ (defScope s_Net___init__) := ⟨rfl, rfl, rfl, by decide +kernel, rfl, by decide +kernel, by decide +kernel⟩
def t_Net___init__ (K : PySem.W.Frag) (sp__check_size sp__cut_off : Spec) : TS := (tSeq (tDrop (tCall (spOf K sp__check_size) [] E0 (tCons (tVar 1) (tCons (tC (.int 1)) tNil))))
  (tSeq (tIfS (tTest (tOp rGtI (tCB (rLenQ K) (tCons (tVar 2) tNil)) (tCon K (tVar 0) "MOST_ROPES")))
  tNever
  tNext)
  (tSeq (tFor (iEnumU K (tCons (tVar 2) tNil)) (gTup K 2 (gCons (gName 3) (gCons (gTup K 2 (gCons (gName 4) (gCons (gName 5) gNil))) gNil)))
  (tIfS (tOr (tNot (tTest (tChain rLeI rLtI (tC (.int 0)) (tVar 4) (tVar 1)))) (tOr (tNot (tTest (tChain rLeI rLtI (tC (.int 0)) (tVar 5) (tVar 1)))) (tTest (tOp (rEqU K) (tVar 4) (tVar 5)))))
  tNever
  tNext))
  (tSeq (tAsg (tCall (spOf K sp__cut_off) [] E0 (tCons (tVar 1) (tCons (tVar 2) tNil))) (gName 6))
  (tSeq (tIfS (tTru K (tVar 6))
  tNever
  tNext)
  (tSeq (sFld K (tVar 0) (tVar 1) "stations")
  (sFld K (tVar 0) (tCB (rTupleQ K) (tCons (tLc (iSeqU K (tVar 2)) (gTup K 2 (gCons (gName 4) (gCons (gName 5) gNil))) tYes (tTup (tCons (tVar 4) (tCons (tVar 5) tNil))) [4, 5]) tNil)) "ropes")))))))
theorem dv_Net___init__ (T : Hd fn fa xs K mg) {sp__check_size sp__cut_off : Spec} (h__check_size : FnE P w K mg base 1 (He.fAd K d__check_size.at_) ps__check_size (spOf K sp__check_size)) (h__cut_off : FnE P w K mg base 1 (He.fAd K d__cut_off.at_) ps__cut_off (spOf K sp__cut_off)) {cdv : Value} {A : Around} {outer : List PySem.Env} {s : Shared} {H : Hp} {E : XK} (hr : Room 1 (A.deeper (envOfC d_Net___init__.qual d_Net___init__.scope s.heap.objs.size (He.fAd K d_Net___init__.at_) cdv))) :
    PSs (cxOf CX0 P w K mg base N_Net___init__ d_Net___init__.qual d_Net___init__.scope (He.fAd K d_Net___init__.at_) cdv A outer s H E).nox d_Net___init__.body (t_Net___init__ K sp__check_size sp__cut_off) :=
  have nd := sc_Net___init__.nd
  (pss_cons (ps_expr (pe_callE h__check_size (hr.mono (by decide)) rfl (g__check_size T) (pa_cons (pe_var (i := 1) rfl (.inl rfl)) (pa_cons pe_int pa_nil))))
  (pss_cons (ps_if (pt_cmpR op_gtI (pe_callB call_lenQ rfl (fr_len T) (by decide +kernel) (pa_cons (pe_var (i := 2) rfl (.inl rfl)) pa_nil)) (pe_con (pe_var (i := 0) rfl (.inl rfl)) rfl) (nomark _)) (pss_one ps_never) pss_nil)
  (pss_cons (ps_for PassesOwn.never rfl (pi_enumU rfl (fr_enumerate T) (pa_cons (pe_var (i := 2) rfl (.inl rfl)) pa_nil)) (pg_tup rfl (pgs_cons (pg_name (i := 3) nd rfl (.inl rfl)) (pgs_cons (pg_tup rfl (pgs_cons (pg_name (i := 4) nd rfl (.inl rfl)) (pgs_cons (pg_name (i := 5) nd rfl (.inl rfl)) pgs_nil))) pgs_nil)))
  (pss_one (ps_if (PW.pt (pw_or (pt_not (pt_chain op_leI op_ltI pe_int (pe_var (i := 4) rfl (.inl rfl)) (pe_var (i := 1) rfl (.inl rfl)))) (pw_or (pt_not (pt_chain op_leI op_ltI pe_int (pe_var (i := 5) rfl (.inl rfl)) (pe_var (i := 1) rfl (.inl rfl)))) (pw_or1 (pt_cmpR (op_eqU hr.units) (pe_var (i := 4) rfl (.inl rfl)) (pe_var (i := 5) rfl (.inl rfl)) (nomark _)))))) (pss_one ps_never) pss_nil)))
  (pss_cons (ps_set (i := 6) nd rfl (.inl rfl) (pe_callE h__cut_off (hr.mono (by decide)) rfl (g__cut_off T) (pa_cons (pe_var (i := 1) rfl (.inl rfl)) (pa_cons (pe_var (i := 2) rfl (.inl rfl)) pa_nil))))
  (pss_cons (ps_if (pt_tru (pe_var (i := 6) rfl (.inl rfl))) (pss_one ps_never) pss_nil)
  (pss_cons (ps_fld (pe_var (i := 0) rfl (.inl rfl)) (pe_var (i := 1) rfl (.inl rfl)) rfl)
  (pss_one (ps_fld (pe_var (i := 0) rfl (.inl rfl)) (pe_callTy call_tupleQ rfl (fr_tuple T) (by decide +kernel) (pa_cons (pe_lc (own := [("first", 4), ("second", 5)]) rfl nd (pi_seqU (pe_var (i := 2) rfl (.inl rfl))) (blkOk_by (own := [("first", 4), ("second", 5)]) (N := N_Net___init__) (sc := (defScope s_Net___init__)) (by decide +kernel)) (fun _ _ _ _ _ => (pg_tup rfl (pgs_cons (pg_name (i := 4) nd rfl (.inl rfl)) (pgs_cons (pg_name (i := 5) nd rfl (.inl rfl)) pgs_nil)))) (fun _ _ _ _ _ => pts_nil) (fun _ _ _ _ _ => (pe_tup (pa_cons (pe_var (i := 4) rfl (.inl rfl)) (pa_cons (pe_var (i := 5) rfl (.inl rfl)) pa_nil))))) pa_nil)) rfl))))))))
abbrev N_Trip___init__ : List Str := ["self", "rides", "place", "rope", "colour"]
abbrev ps_Trip___init__ : List Str := ["self", "rides"]
theorem sc_Trip___init__ : FnScope N_Trip___init__ ps_Trip___init__ (defScope s_Trip___init__) := ⟨rfl, rfl, rfl, by decide +kernel, rfl, by decide +kernel, by decide +kernel⟩
def t_Trip___init__ (K : PySem.W.Frag) : TS := (tSeq (tFor (iEnumU K (tCons (tVar 1) tNil)) (gTup K 2 (gCons (gName 2) (gCons (gTup K 2 (gCons (gName 3) (gCons (gName 4) gNil))) gNil)))
  (tIfS (tOr (tTest (tOp rLtI (tVar 3) (tC (.int 0)))) (tTest (tOp (rNotInU K) (tVar 4) (tTup (tCons (tC (.str "red")) (tCons (tC (.str "blue")) tNil))))))
  tNever
  tNext))
  (sFld K (tVar 0) (tCB (rTupleQ K) (tCons (tLc (iSeqU K (tVar 1)) (gTup K 2 (gCons (gName 3) (gCons (gName 4) gNil))) tYes (tTup (tCons (tVar 3) (tCons (tVar 4) tNil))) [3, 4]) tNil)) "rides"))
theorem dv_Trip___init__ (T : Hd fn fa xs K mg) {cdv : Value} {A : Around} {outer : List PySem.Env} {s : Shared} {H : Hp} {E : XK} (hr : Room 0 (A.deeper (envOfC d_Trip___init__.qual d_Trip___init__.scope s.heap.objs.size (He.fAd K d_Trip___init__.at_) cdv))) :
    PSs (cxOf CX0 P w K mg base N_Trip___init__ d_Trip___init__.qual d_Trip___init__.scope (He.fAd K d_Trip___init__.at_) cdv A outer s H E).nox d_Trip___init__.body (t_Trip___init__ K) :=
  have nd := sc_Trip___init__.nd
  (pss_cons (ps_for PassesOwn.never rfl (pi_enumU rfl (fr_enumerate T) (pa_cons (pe_var (i := 1) rfl (.inl rfl)) pa_nil)) (pg_tup rfl (pgs_cons (pg_name (i := 2) nd rfl (.inl rfl)) (pgs_cons (pg_tup rfl (pgs_cons (pg_name (i := 3) nd rfl (.inl rfl)) (pgs_cons (pg_name (i := 4) nd rfl (.inl rfl)) pgs_nil))) pgs_nil)))
  (pss_one (ps_if (PW.pt (pw_or (pt_cmpR op_ltI (pe_var (i := 3) rfl (.inl rfl)) pe_int (nomark _)) (pw_or1 (pt_cmpR (op_notInU (room65 hr)) (pe_var (i := 4) rfl (.inl rfl)) (pe_tup (pa_cons pe_str (pa_cons pe_str pa_nil))) (by with_unfolding_all rfl))))) (pss_one ps_never) pss_nil)))
  (pss_one (ps_fld (pe_var (i := 0) rfl (.inl rfl)) (pe_callTy call_tupleQ rfl (fr_tuple T) (by decide +kernel) (pa_cons (pe_lc (own := [("rope", 3), ("colour", 4)]) rfl nd (pi_seqU (pe_var (i := 1) rfl (.inl rfl))) (blkOk_by (own := [("rope", 3), ("colour", 4)]) (N := N_Trip___init__) (sc := (defScope s_Trip___init__)) (by decide +kernel)) (fun _ _ _ _ _ => (pg_tup rfl (pgs_cons (pg_name (i := 3) nd rfl (.inl rfl)) (pgs_cons (pg_name (i := 4) nd rfl (.inl rfl)) pgs_nil)))) (fun _ _ _ _ _ => pts_nil) (fun _ _ _ _ _ => (pe_tup (pa_cons (pe_var (i := 3) rfl (.inl rfl)) (pa_cons (pe_var (i := 4) rfl (.inl rfl)) pa_nil))))) pa_nil)) rfl)))
abbrev N_Trip_reduced : List Str := ["self", "kept", "ride"]
abbrev ps_Trip_reduced : List Str := ["self"]
theorem sc_Trip_reduced : FnScope N_Trip_reduced ps_Trip_reduced (defScope s_Trip_reduced) := ⟨rfl, rfl, rfl, by decide +kernel, rfl, by decide +kernel, by decide +kernel⟩
def t_Trip_reduced (K : PySem.W.Frag) (sp_Trip___init__ : Spec) : TS := (tSeq (tAsg (tLst tNil) (gName 1))
  (tSeq (tFor (iSeqU K (tFld K (tVar 0) "rides")) (gName 2)
  (tIfS (tAnd (tTru K (tVar 1)) (tTest (tOp (rEqU K) (tOp (rIxU K) (tVar 1) (tUn rNegI (tC (.int 1)))) (tVar 2))))
  (tDrop (tBM0 K "list" rPop (tVar 1)))
  (tDrop (tBM K "list" rAppend (tVar 1) (tCons (tVar 2) tNil)))))
  (tRet (tMake (He.ga K "Trip") (spOf K sp_Trip___init__) [] E0 (tCons (tVar 1) tNil)))))
theorem dv_Trip_reduced (T : Hd fn fa xs K mg) {sp_Trip___init__ : Spec} (h_Trip___init__ : FnE P w K mg base 1 (He.fAd K d_Trip___init__.at_) ps_Trip___init__ (spOf K sp_Trip___init__)) {cdv : Value} {A : Around} {outer : List PySem.Env} {s : Shared} {H : Hp} {E : XK} (hr : Room 2 (A.deeper (envOfC d_Trip_reduced.qual d_Trip_reduced.scope s.heap.objs.size (He.fAd K d_Trip_reduced.at_) cdv))) :
    PSs (cxOf CX0 P w K mg base N_Trip_reduced d_Trip_reduced.qual d_Trip_reduced.scope (He.fAd K d_Trip_reduced.at_) cdv A outer s H E).nox d_Trip_reduced.body (t_Trip_reduced K sp_Trip___init__) :=
  have nd := sc_Trip_reduced.nd
  (pss_cons (ps_set (i := 1) nd rfl (.inl rfl) (pe_lst pa_nil))
  (pss_cons (ps_for PassesOwn.never rfl (pi_seqU (pe_fld (pe_var (i := 0) rfl (.inl rfl)) rfl)) (pg_name (i := 2) nd rfl (.inl rfl))
  (pss_one (ps_if (PW.pt (pw_and (pt_tru (pe_var (i := 1) rfl (.inl rfl))) (pw_and1 (pt_cmpR (op_eqU hr.units) (pe_ix ix_U (pe_var (i := 1) rfl (.inl rfl)) (pe_un un_negI pe_int) (fun _ _ => rfl)) (pe_var (i := 2) rfl (.inl rfl)) (nomark _))))) (pss_one (ps_expr (pe_bm0 PySem.F.plainAttrs_list PySem.F.slot_list_pop PySem.F.type_list_pop mt_pop (pe_var (i := 1) rfl (.inl rfl))))) (pss_one (ps_expr (pe_bm PySem.F.plainAttrs_list PySem.F.slot_list_append PySem.F.type_list_append mt_append (pe_var (i := 1) rfl (.inl rfl)) (pa_cons (pe_var (i := 2) rfl (.inl rfl)) pa_nil)))))))
  (pss_one (ps_ret (pe_makeE (mk_Trip T) h_Trip___init__ (hr.mono (by decide)) rfl (g_Trip T) (pa_cons (pe_var (i := 1) rfl (.inl rfl)) pa_nil))))))
abbrev N_Trip_tally : List Str := ["self", "ropes", "rope", "colour", "reds", "blues"]
abbrev ps_Trip_tally : List Str := ["self", "ropes"]
theorem sc_Trip_tally : FnScope N_Trip_tally ps_Trip_tally (defScope s_Trip_tally) := ⟨rfl, rfl, rfl, by decide +kernel, rfl, by decide +kernel, by decide +kernel⟩
def t_Trip_tally (K : PySem.W.Frag) : TS := (tSeq (tIfS (tTest (tOp rLtI (tVar 1) (tC (.int 0))))
  tNever
  tNext)
  (tSeq (tFor (iSeqU K (tFld K (tVar 0) "rides")) (gTup K 2 (gCons (gName 2) (gCons (gName 3) gNil)))
  (tIfS (tTest (tOp rGeI (tVar 2) (tVar 1)))
  tNever
  tNext))
  (tSeq (tAsg (tOp rMulU (tLst (tCons (tC (.int 0)) tNil)) (tVar 1)) (gName 4))
  (tSeq (tAsg (tOp rMulU (tLst (tCons (tC (.int 0)) tNil)) (tVar 1)) (gName 5))
  (tSeq (tFor (iSeqU K (tFld K (tVar 0) "rides")) (gTup K 2 (gCons (gName 2) (gCons (gName 3) gNil)))
  (tIfS (tTest (tOp (rEqU K) (tVar 3) (tC (.str "red"))))
  (tAugS (tVar 4) (tVar 2) (tC (.int 1)) (rGetL K) ipAdd rSetL)
  (tAugS (tVar 5) (tVar 2) (tC (.int 1)) (rGetL K) ipAdd rSetL)))
  (tRet (TwZ.tLzip K (tCons (tVar 4) (tCons (tVar 5) tNil)))))))))
theorem dv_Trip_tally (T : Hd fn fa xs K mg) {cdv : Value} {A : Around} {outer : List PySem.Env} {s : Shared} {H : Hp} {E : XK} (hr : Room 0 (A.deeper (envOfC d_Trip_tally.qual d_Trip_tally.scope s.heap.objs.size (He.fAd K d_Trip_tally.at_) cdv))) :
    PSs (cxOf CX0 P w K mg base N_Trip_tally d_Trip_tally.qual d_Trip_tally.scope (He.fAd K d_Trip_tally.at_) cdv A outer s H E).nox d_Trip_tally.body (t_Trip_tally K) :=
  have nd := sc_Trip_tally.nd
  (pss_cons (ps_if (pt_cmpR op_ltI (pe_var (i := 1) rfl (.inl rfl)) pe_int (nomark _)) (pss_one ps_never) pss_nil)
  (pss_cons (ps_for PassesOwn.never rfl (pi_seqU (pe_fld (pe_var (i := 0) rfl (.inl rfl)) rfl)) (pg_tup rfl (pgs_cons (pg_name (i := 2) nd rfl (.inl rfl)) (pgs_cons (pg_name (i := 3) nd rfl (.inl rfl)) pgs_nil)))
  (pss_one (ps_if (pt_cmpR op_geI (pe_var (i := 2) rfl (.inl rfl)) (pe_var (i := 1) rfl (.inl rfl)) (nomark _)) (pss_one ps_never) pss_nil)))
  (pss_cons (ps_set (i := 4) nd rfl (.inl rfl) (pe_op op_mulU (pe_lst (pa_cons pe_int pa_nil)) (pe_var (i := 1) rfl (.inl rfl))))
  (pss_cons (ps_set (i := 5) nd rfl (.inl rfl) (pe_op op_mulU (pe_lst (pa_cons pe_int pa_nil)) (pe_var (i := 1) rfl (.inl rfl))))
  (pss_cons (ps_for PassesOwn.never rfl (pi_seqU (pe_fld (pe_var (i := 0) rfl (.inl rfl)) rfl)) (pg_tup rfl (pgs_cons (pg_name (i := 2) nd rfl (.inl rfl)) (pgs_cons (pg_name (i := 3) nd rfl (.inl rfl)) pgs_nil)))
  (pss_one (ps_if (pt_cmpR (op_eqU hr.units) (pe_var (i := 3) rfl (.inl rfl)) pe_str (nomark _)) (pss_one (ps_augS (pe_var (i := 4) rfl (.inl rfl)) (pe_var (i := 2) rfl (.inl rfl)) get_list pe_int ip_addI set_list)) (pss_one (ps_augS (pe_var (i := 5) rfl (.inl rfl)) (pe_var (i := 2) rfl (.inl rfl)) get_list pe_int ip_addI set_list)))))
  (pss_one (ps_ret (TwZ.pe_lzip rfl rfl (fr_list T) rfl (fr_zip T) (pa_cons (pe_var (i := 4) rfl (.inl rfl)) (pa_cons (pe_var (i := 5) rfl (.inl rfl)) pa_nil))))))))))
abbrev N_Trip___add__ : List Str := ["self", "other"]
abbrev ps_Trip___add__ : List Str := ["self", "other"]
theorem sc_Trip___add__ : FnScope N_Trip___add__ ps_Trip___add__ (defScope s_Trip___add__) := ⟨rfl, rfl, rfl, by decide +kernel, rfl, by decide +kernel, by decide +kernel⟩
def t_Trip___add__ (K : PySem.W.Frag) (sp_Trip___init__ : Spec) : TS := (tRet (tMake (He.ga K "Trip") (spOf K sp_Trip___init__) [] E0 (tCons (tOp (rAddU K) (tFld K (tVar 0) "rides") (tFld K (tVar 1) "rides")) tNil)))
theorem dv_Trip___add__ (T : Hd fn fa xs K mg) {sp_Trip___init__ : Spec} (h_Trip___init__ : FnE P w K mg base 1 (He.fAd K d_Trip___init__.at_) ps_Trip___init__ (spOf K sp_Trip___init__)) {cdv : Value} {A : Around} {outer : List PySem.Env} {s : Shared} {H : Hp} {E : XK} (hr : Room 2 (A.deeper (envOfC d_Trip___add__.qual d_Trip___add__.scope s.heap.objs.size (He.fAd K d_Trip___add__.at_) cdv))) :
    PSs (cxOf CX0 P w K mg base N_Trip___add__ d_Trip___add__.qual d_Trip___add__.scope (He.fAd K d_Trip___add__.at_) cdv A outer s H E).nox d_Trip___add__.body (t_Trip___add__ K sp_Trip___init__) :=
  have nd := sc_Trip___add__.nd
  (pss_one (ps_ret (pe_makeE (mk_Trip T) h_Trip___init__ (hr.mono (by decide)) rfl (g_Trip T) (pa_cons (pe_op op_addU (pe_fld (pe_var (i := 0) rfl (.inl rfl)) rfl) (pe_fld (pe_var (i := 1) rfl (.inl rfl)) rfl)) pa_nil))))
abbrev N_Trip___invert__ : List Str := ["self"]
abbrev ps_Trip___invert__ : List Str := ["self"]
theorem sc_Trip___invert__ : FnScope N_Trip___invert__ ps_Trip___invert__ (defScope s_Trip___invert__) := ⟨rfl, rfl, rfl, by decide +kernel, rfl, by decide +kernel, by decide +kernel⟩
def t_Trip___invert__ (K : PySem.W.Frag) (sp_Trip___init__ : Spec) : TS := (tRet (tMake (He.ga K "Trip") (spOf K sp_Trip___init__) [] E0 (tCons (tRevU K (tFld K (tVar 0) "rides")) tNil)))
theorem dv_Trip___invert__ (T : Hd fn fa xs K mg) {sp_Trip___init__ : Spec} (h_Trip___init__ : FnE P w K mg base 1 (He.fAd K d_Trip___init__.at_) ps_Trip___init__ (spOf K sp_Trip___init__)) {cdv : Value} {A : Around} {outer : List PySem.Env} {s : Shared} {H : Hp} {E : XK} (hr : Room 2 (A.deeper (envOfC d_Trip___invert__.qual d_Trip___invert__.scope s.heap.objs.size (He.fAd K d_Trip___invert__.at_) cdv))) :
    PSs (cxOf CX0 P w K mg base N_Trip___invert__ d_Trip___invert__.qual d_Trip___invert__.scope (He.fAd K d_Trip___invert__.at_) cdv A outer s H E).nox d_Trip___invert__.body (t_Trip___invert__ K sp_Trip___init__) :=
  have nd := sc_Trip___invert__.nd
  (pss_one (ps_ret (pe_makeE (mk_Trip T) h_Trip___init__ (hr.mono (by decide)) rfl (g_Trip T) (pa_cons (pe_revU (pe_fld (pe_var (i := 0) rfl (.inl rfl)) rfl)) pa_nil))))
abbrev N_Trip___len__ : List Str := ["self"]
abbrev ps_Trip___len__ : List Str := ["self"]
theorem sc_Trip___len__ : FnScope N_Trip___len__ ps_Trip___len__ (defScope s_Trip___len__) := ⟨rfl, rfl, rfl, by decide +kernel, rfl, by decide +kernel, by decide +kernel⟩
def t_Trip___len__ (K : PySem.W.Frag) : TS := (tRet (tCB (rLenQ K) (tCons (tFld K (tVar 0) "rides") tNil)))
theorem dv_Trip___len__ (T : Hd fn fa xs K mg) {cdv : Value} {A : Around} {outer : List PySem.Env} {s : Shared} {H : Hp} {E : XK} (hr : Room 0 (A.deeper (envOfC d_Trip___len__.qual d_Trip___len__.scope s.heap.objs.size (He.fAd K d_Trip___len__.at_) cdv))) :
    PSs (cxOf CX0 P w K mg base N_Trip___len__ d_Trip___len__.qual d_Trip___len__.scope (He.fAd K d_Trip___len__.at_) cdv A outer s H E).nox d_Trip___len__.body (t_Trip___len__ K) :=
  have nd := sc_Trip___len__.nd
  (pss_one (ps_ret (pe_callB call_lenQ rfl (fr_len T) (by decide +kernel) (pa_cons (pe_fld (pe_var (i := 0) rfl (.inl rfl)) rfl) pa_nil))))
abbrev N_Trip___bool__ : List Str := ["self"]
abbrev ps_Trip___bool__ : List Str := ["self"]
theorem sc_Trip___bool__ : FnScope N_Trip___bool__ ps_Trip___bool__ (defScope s_Trip___bool__) := ⟨rfl, rfl, rfl, by decide +kernel, rfl, by decide +kernel, by decide +kernel⟩
def t_Trip___bool__ (K : PySem.W.Frag) : TS := (tRet (tCB (rBoolS K) (tCons (tFld K (tVar 0) "rides") tNil)))
theorem dv_Trip___bool__ (T : Hd fn fa xs K mg) {cdv : Value} {A : Around} {outer : List PySem.Env} {s : Shared} {H : Hp} {E : XK} (hr : Room 0 (A.deeper (envOfC d_Trip___bool__.qual d_Trip___bool__.scope s.heap.objs.size (He.fAd K d_Trip___bool__.at_) cdv))) :
    PSs (cxOf CX0 P w K mg base N_Trip___bool__ d_Trip___bool__.qual d_Trip___bool__.scope (He.fAd K d_Trip___bool__.at_) cdv A outer s H E).nox d_Trip___bool__.body (t_Trip___bool__ K) :=
  have nd := sc_Trip___bool__.nd
  (pss_one (ps_ret (pe_callTy call_boolS rfl (fr_bool T) (by decide +kernel) (pa_cons (pe_fld (pe_var (i := 0) rfl (.inl rfl)) rfl) pa_nil))))
abbrev N__law_pot : List Str := ["_law_script", "_law_at", "_law_step", "_law_cells", "_law_k"]
abbrev ps__law_pot : List Str := ["_law_script", "_law_at", "_law_step"]
theorem sc__law_pot : FnScope N__law_pot ps__law_pot (defScope s__law_pot) := ⟨rfl, rfl, rfl, by decide +kernel, rfl, by decide +kernel, by decide +kernel⟩
def t__law_pot (K : PySem.W.Frag) : TS := (tSeq (tAsg (tLc (iRng3 (tCons (tVar 1) (tCons (tCB rMin2Q (tCons (tC (.int 63)) (tCons (tCB (rLenQ K) (tCons (tVar 0) tNil)) tNil))) (tCons (tVar 2) tNil)))) (gName 4) tYes (tOp (rIxU K) (tVar 0) (tVar 4)) [4]) (gName 3))
  (tRet (tLst (tCons (tVar 3) (tCons (tC (.int 0)) (tCons (tOp (rAddU K) (tOp rMulU (tC (.int 7368787)) (tOp (rAddU K) (tVar 1) (tC (.int 1)))) (tOp rModI (tCB (rSumU K) (tCons (tSl (rSlU K) (tVar 0) tNoPart (tPart (tC (.int 1)))) tNil)) (tC (.int 1000003)))) (tCons (tC (.int 0)) (tCons (tC (.int 0)) tNil))))))))
theorem dv__law_pot (T : Hd fn fa xs K mg) {cdv : Value} {A : Around} {outer : List PySem.Env} {s : Shared} {H : Hp} {E : XK} (hr : Room 0 (A.deeper (envOfC d__law_pot.qual d__law_pot.scope s.heap.objs.size (He.fAd K d__law_pot.at_) cdv))) :
    PSs (cxOf CX0 P w K mg base N__law_pot d__law_pot.qual d__law_pot.scope (He.fAd K d__law_pot.at_) cdv A outer s H E).nox d__law_pot.body (t__law_pot K) :=
  have nd := sc__law_pot.nd
  (pss_cons (ps_setLc (i := 3) (own := [("_law_k", 4)]) rfl nd rfl rfl (sw_true rfl rfl rfl (by decide +kernel)) (pi_range3 rfl (fr_range T) (pa_cons (pe_var (i := 1) rfl (.inl rfl)) (pa_cons (pe_callB (call_min2Q rfl) rfl (fr_min T) (by decide +kernel) (pa_cons pe_int (pa_cons (pe_callB call_lenQ rfl (fr_len T) (by decide +kernel) (pa_cons (pe_var (i := 0) rfl (.inr (.inl rfl))) pa_nil)) pa_nil))) (pa_cons (pe_var (i := 2) rfl (.inl rfl)) pa_nil)))) (blkOk_by (own := [("_law_k", 4)]) (N := N__law_pot) (sc := (defScope s__law_pot)) (by decide +kernel)) (fun _ _ _ _ _ => (pg_name (i := 4) nd rfl (.inl rfl))) (fun _ _ _ _ _ => pts_nil) (fun _ _ _ _ _ => (pe_ix ix_U (pe_var (i := 0) rfl (.inr (.inl rfl))) (pe_var (i := 4) rfl (.inl rfl)) (fun _ _ => rfl))))
  (pss_one (ps_ret (pe_lst (pa_cons (pe_var (i := 3) rfl (.inl rfl)) (pa_cons pe_int (pa_cons (pe_op op_addU (pe_op op_mulU pe_int (pe_op op_addU (pe_var (i := 1) rfl (.inl rfl)) pe_int)) (pe_op op_modI (pe_callB (call_sumU rfl) rfl (fr_sum T) (by decide +kernel) (pa_cons (pe_slice sl_U (pe_var (i := 0) rfl (.inr (.inl rfl))) po_none (po_some pe_int)) pa_nil)) pe_int)) (pa_cons pe_int (pa_cons pe_int pa_nil)))))))))
abbrev N__law_load : List Str := ["_law_pot_here", "_law_cell"]
abbrev ps__law_load : List Str := ["_law_pot_here"]
theorem sc__law_load : FnScope N__law_load ps__law_load (defScope s__law_load) := ⟨rfl, rfl, rfl, by decide +kernel, rfl, by decide +kernel, by decide +kernel⟩
def t__law_load (K : PySem.W.Frag) : TS := (tSeq (tAsg (tBM K "list" rPopAt (tOp (rIxU K) (tVar 0) (tC (.int 0))) (tCons (tC (.int 0)) tNil)) (gName 1))
  (tSeq (tAsg (tOp rModI (tCB rIntQ (tCons (tOp (rAddU K) (tOp rMulU (tOp (rIxU K) (tVar 0) (tC (.int 2))) (tC (.int 69069))) (tVar 1)) tNil)) (tC (.int 2305843009213693951))) (gSub (tVar 0) (tC (.int 2)) rSetL))
  (tSeq (tAsg (tC (.int 6)) (gSub (tVar 0) (tC (.int 3)) rSetL))
  (tIfS (tTest (tOp rGeI (tCB rAbsQ (tCons (tVar 1) tNil)) (tC (.int 1000000000000000000))))
  (tSeq (tAsg (tCB rAbsQ (tCons (tVar 1) tNil)) (gSub (tVar 0) (tC (.int 1)) rSetL))
  (tAsg (tC (.int 0)) (gSub (tVar 0) (tC (.int 3)) rSetL)))
  tNext))))
theorem dv__law_load (T : Hd fn fa xs K mg) {cdv : Value} {A : Around} {outer : List PySem.Env} {s : Shared} {H : Hp} {E : XK} (hr : Room 0 (A.deeper (envOfC d__law_load.qual d__law_load.scope s.heap.objs.size (He.fAd K d__law_load.at_) cdv))) :
    PSs (cxOf CX0 P w K mg base N__law_load d__law_load.qual d__law_load.scope (He.fAd K d__law_load.at_) cdv A outer s H E).nox d__law_load.body (t__law_load K) :=
  have nd := sc__law_load.nd
  (pss_cons (ps_set (i := 1) nd rfl (.inl rfl) (pe_bm PySem.F.plainAttrs_list PySem.F.slot_list_pop PySem.F.type_list_pop mt_popAt (pe_ix ix_U (pe_var (i := 0) rfl (.inl rfl)) pe_int (fun _ _ => rfl)) (pa_cons pe_int pa_nil)))
  (pss_cons (ps_asg (pe_op op_modI (pe_callTy call_intQ rfl (fr_int T) (by decide +kernel) (pa_cons (pe_op op_addU (pe_op op_mulU (pe_ix ix_U (pe_var (i := 0) rfl (.inl rfl)) pe_int (fun _ _ => rfl)) pe_int) (pe_var (i := 1) rfl (.inl rfl))) pa_nil)) pe_int) (pg_sub (pe_var (i := 0) rfl (.inl rfl)) pe_int set_list))
  (pss_cons (ps_asg pe_int (pg_sub (pe_var (i := 0) rfl (.inl rfl)) pe_int set_list))
  (pss_one (ps_if (pt_cmpR op_geI (pe_callB call_absQ rfl (fr_abs T) (by decide +kernel) (pa_cons (pe_var (i := 1) rfl (.inl rfl)) pa_nil)) pe_int (nomark _)) (pss_cons (ps_asg (pe_callB call_absQ rfl (fr_abs T) (by decide +kernel) (pa_cons (pe_var (i := 1) rfl (.inl rfl)) pa_nil)) (pg_sub (pe_var (i := 0) rfl (.inl rfl)) pe_int set_list))
  (pss_one (ps_asg pe_int (pg_sub (pe_var (i := 0) rfl (.inl rfl)) pe_int set_list)))) pss_nil)))))
abbrev N__law_draw : List Str := ["_law_pot_here", "_law_many", "_law_got", "_law_once", "_law_twice"]
abbrev ps__law_draw : List Str := ["_law_pot_here", "_law_many"]
theorem sc__law_draw : FnScope N__law_draw ps__law_draw (defScope s__law_draw) := ⟨rfl, rfl, rfl, by decide +kernel, rfl, by decide +kernel, by decide +kernel⟩
def t__law_draw (K : PySem.W.Frag) (sp__law_load : Spec) : TS := (tSeq (tIfS (tTest (tOp rLtI (tVar 1) (tC (.int 2))))
  (tRet (tC (.int 0)))
  tNext)
  (tSeq (tIfS (tAnd (tTest (tOp (rEqU K) (tOp (rIxU K) (tVar 0) (tC (.int 1))) (tC (.int 0)))) (tAnd (tTest (tOp (rEqU K) (tOp (rIxU K) (tVar 0) (tC (.int 3))) (tC (.int 0)))) (tTru K (tOp (rIxU K) (tVar 0) (tC (.int 0))))))
  (tDrop (tCall (spOf K sp__law_load) [] E0 (tCons (tVar 0) tNil)))
  tNext)
  (tSeq (tIfS (tTest (tOp rGtI (tOp (rIxU K) (tVar 0) (tC (.int 1))) (tC (.int 0))))
  (tSeq (tAsg (tOp rModI (tCB rIntQ (tCons (tOp (rIxU K) (tVar 0) (tC (.int 1))) tNil)) (tVar 1)) (gName 2))
  (tSeq (tAsg (tOp rDivI (tCB rIntQ (tCons (tOp (rIxU K) (tVar 0) (tC (.int 1))) tNil)) (tVar 1)) (gSub (tVar 0) (tC (.int 1)) rSetL))
  (tRet (tVar 2))))
  tNext)
  (tSeq (tAsg (tCB rMax2Q (tCons (tC (.int 0)) (tCons (tOp rSubI (tOp (rIxU K) (tVar 0) (tC (.int 3))) (tC (.int 1))) tNil))) (gSub (tVar 0) (tC (.int 3)) rSetL))
  (tSeq (tAsg (tOp (rAddU K) (tOp (rIxU K) (tVar 0) (tC (.int 4))) (tC (.int 1))) (gSub (tVar 0) (tC (.int 4)) rSetL))
  (tSeq (tAsg (tOp rModI (tCB rIntQ (tCons (tOp rMulU (tOp (rAddU K) (tOp (rIxU K) (tVar 0) (tC (.int 2))) (tOp rMulU (tC (.int 7919)) (tOp (rIxU K) (tVar 0) (tC (.int 4))))) (tC (.int 48271))) tNil)) (tC (.int 2147483647))) (gName 3))
  (tSeq (tAsg (tOp rModI (tCB rIntQ (tCons (tOp rMulU (tOp (rAddU K) (tVar 3) (tOp (rIxU K) (tVar 0) (tC (.int 4)))) (tOp (rAddU K) (tOp rDivI (tVar 3) (tC (.int 16))) (tC (.int 69621)))) tNil)) (tC (.int 2147483629))) (gName 4))
  (tRet (tOp rModI (tOp rDivI (tVar 4) (tC (.int 8))) (tVar 1))))))))))
theorem dv__law_draw (T : Hd fn fa xs K mg) {sp__law_load : Spec} (h__law_load : FnE P w K mg base 1 (He.fAd K d__law_load.at_) ps__law_load (spOf K sp__law_load)) {cdv : Value} {A : Around} {outer : List PySem.Env} {s : Shared} {H : Hp} {E : XK} (hr : Room 1 (A.deeper (envOfC d__law_draw.qual d__law_draw.scope s.heap.objs.size (He.fAd K d__law_draw.at_) cdv))) :
    PSs (cxOf CX0 P w K mg base N__law_draw d__law_draw.qual d__law_draw.scope (He.fAd K d__law_draw.at_) cdv A outer s H E).nox d__law_draw.body (t__law_draw K sp__law_load) :=
  have nd := sc__law_draw.nd
  (pss_cons (ps_if (pt_cmpR op_ltI (pe_var (i := 1) rfl (.inl rfl)) pe_int (nomark _)) (pss_one (ps_ret pe_int)) pss_nil)
  (pss_cons (ps_if (PW.pt (pw_and (pt_cmpR (op_eqU hr.units) (pe_ix ix_U (pe_var (i := 0) rfl (.inl rfl)) pe_int (fun _ _ => rfl)) pe_int (nomark _)) (pw_and (pt_cmpR (op_eqU hr.units) (pe_ix ix_U (pe_var (i := 0) rfl (.inl rfl)) pe_int (fun _ _ => rfl)) pe_int (nomark _)) (pw_and1 (pt_tru (pe_ix ix_U (pe_var (i := 0) rfl (.inl rfl)) pe_int (fun _ _ => rfl))))))) (pss_one (ps_expr (pe_callE h__law_load (hr.mono (by decide)) rfl (g__law_load T) (pa_cons (pe_var (i := 0) rfl (.inl rfl)) pa_nil)))) pss_nil)
  (pss_cons (ps_if (pt_cmpR op_gtI (pe_ix ix_U (pe_var (i := 0) rfl (.inl rfl)) pe_int (fun _ _ => rfl)) pe_int (nomark _)) (pss_cons (ps_set (i := 2) nd rfl (.inl rfl) (pe_op op_modI (pe_callTy call_intQ rfl (fr_int T) (by decide +kernel) (pa_cons (pe_ix ix_U (pe_var (i := 0) rfl (.inl rfl)) pe_int (fun _ _ => rfl)) pa_nil)) (pe_var (i := 1) rfl (.inl rfl))))
  (pss_cons (ps_asg (pe_op op_divI (pe_callTy call_intQ rfl (fr_int T) (by decide +kernel) (pa_cons (pe_ix ix_U (pe_var (i := 0) rfl (.inl rfl)) pe_int (fun _ _ => rfl)) pa_nil)) (pe_var (i := 1) rfl (.inl rfl))) (pg_sub (pe_var (i := 0) rfl (.inl rfl)) pe_int set_list))
  (pss_one (ps_ret (pe_var (i := 2) rfl (.inl rfl)))))) pss_nil)
  (pss_cons (ps_asg (pe_callB (call_max2Q rfl) rfl (fr_max T) (by decide +kernel) (pa_cons pe_int (pa_cons (pe_op op_subI (pe_ix ix_U (pe_var (i := 0) rfl (.inl rfl)) pe_int (fun _ _ => rfl)) pe_int) pa_nil))) (pg_sub (pe_var (i := 0) rfl (.inl rfl)) pe_int set_list))
  (pss_cons (ps_asg (pe_op op_addU (pe_ix ix_U (pe_var (i := 0) rfl (.inl rfl)) pe_int (fun _ _ => rfl)) pe_int) (pg_sub (pe_var (i := 0) rfl (.inl rfl)) pe_int set_list))
  (pss_cons (ps_set (i := 3) nd rfl (.inl rfl) (pe_op op_modI (pe_callTy call_intQ rfl (fr_int T) (by decide +kernel) (pa_cons (pe_op op_mulU (pe_op op_addU (pe_ix ix_U (pe_var (i := 0) rfl (.inl rfl)) pe_int (fun _ _ => rfl)) (pe_op op_mulU pe_int (pe_ix ix_U (pe_var (i := 0) rfl (.inl rfl)) pe_int (fun _ _ => rfl)))) pe_int) pa_nil)) pe_int))
  (pss_cons (ps_set (i := 4) nd rfl (.inl rfl) (pe_op op_modI (pe_callTy call_intQ rfl (fr_int T) (by decide +kernel) (pa_cons (pe_op op_mulU (pe_op op_addU (pe_var (i := 3) rfl (.inl rfl)) (pe_ix ix_U (pe_var (i := 0) rfl (.inl rfl)) pe_int (fun _ _ => rfl))) (pe_op op_addU (pe_op op_divI (pe_var (i := 3) rfl (.inl rfl)) pe_int) pe_int)) pa_nil)) pe_int))
  (pss_one (ps_ret (pe_op op_modI (pe_op op_divI (pe_var (i := 4) rfl (.inl rfl)) pe_int) (pe_var (i := 1) rfl (.inl rfl))))))))))))
abbrev N__law_like : List Str := ["_law_told", "_law_due", "_law_k"]
abbrev ps__law_like : List Str := ["_law_told", "_law_due"]
theorem sc__law_like : FnScope N__law_like ps__law_like (defScope s__law_like) := ⟨rfl, rfl, rfl, by decide +kernel, rfl, by decide +kernel, by decide +kernel⟩
def t__law_like (K : PySem.W.Frag) (sp__law_like : Spec) : TS := (tSeq (tIfS (tTest (tOp rIsNo (tVar 1) (tC .non)))
  (tRet (tOp rIsNo (tVar 0) (tC .non)))
  tNext)
  (tSeq (tIfS (tTest (tOp rIsBl (tVar 1) (tC (.bl true))))
  (tRet (tOp rIsBl (tVar 0) (tC (.bl true))))
  tNext)
  (tSeq (tIfS (tTest (tOp rIsBl (tVar 1) (tC (.bl false))))
  (tRet (tOp rIsBl (tVar 0) (tC (.bl false))))
  tNext)
  (tSeq (tIfS (tTru K (tCB (rIsi K) (tCons (tVar 1) (tCons (tC (.ty "str")) tNil))))
  (tRet (tAndV (tCB (rIsi K) (tCons (tVar 0) (tCons (tC (.ty "str")) tNil))) (tOp (rEqU K) (tVar 0) (tVar 1))))
  tNext)
  (tSeq (tIfS (tTru K (tCB (rIsi K) (tCons (tVar 1) (tCons (tC (.ty "int")) tNil))))
  (tRet (tAndV (tCB (rIsi K) (tCons (tVar 0) (tCons (tC (.ty "int")) tNil))) (tAndV (tNotV (tCB (rIsi K) (tCons (tVar 0) (tCons (tC (.ty "bool")) tNil)))) (tOp (rEqU K) (tVar 0) (tVar 1)))))
  tNext)
  (tSeq (tIfS (tAnd (tTru K (tCB (rIsi K) (tCons (tVar 1) (tCons (tC (.ty "list")) tNil)))) (tNot (tTru K (tCB (rIsi K) (tCons (tVar 0) (tCons (tC (.ty "list")) tNil))))))
  (tRet (tC (.bl false)))
  tNext)
  (tSeq (tIfS (tAnd (tTru K (tCB (rIsi K) (tCons (tVar 1) (tCons (tC (.ty "tuple")) tNil)))) (tNot (tTru K (tCB (rIsi K) (tCons (tVar 0) (tCons (tC (.ty "tuple")) tNil))))))
  (tRet (tC (.bl false)))
  tNext)
  (tSeq (tIfS (tTest (tOp (rNeU K) (tCB (rLenQ K) (tCons (tVar 0) tNil)) (tCB (rLenQ K) (tCons (tVar 1) tNil))))
  (tRet (tC (.bl false)))
  tNext)
  (tRet (tCB (rAll K) (tCons (tLc (iRng1 (tCons (tCB (rLenQ K) (tCons (tVar 1) tNil)) tNil)) (gName 2) tYes (tCall (spOf K sp__law_like) [] E0 (tCons (tOp (rIxU K) (tVar 0) (tVar 2)) (tCons (tOp (rIxU K) (tVar 1) (tVar 2)) tNil))) [2]) tNil)))))))))))
theorem dv__law_like (T : Hd fn fa xs K mg) {sp__law_like : Spec} {k : Nat} (h__law_like : FnE P w K mg base k (He.fAd K d__law_like.at_) ps__law_like (spOf K sp__law_like)) {cdv : Value} {A : Around} {outer : List PySem.Env} {s : Shared} {H : Hp} {E : XK} (hr : Room k (A.deeper (envOfC d__law_like.qual d__law_like.scope s.heap.objs.size (He.fAd K d__law_like.at_) cdv))) :
    PSs (cxOf CX0 P w K mg base N__law_like d__law_like.qual d__law_like.scope (He.fAd K d__law_like.at_) cdv A outer s H E).nox d__law_like.body (t__law_like K sp__law_like) :=
  have nd := sc__law_like.nd
  (pss_cons (ps_if (pt_cmpR op_isNo (pe_var (i := 1) rfl (.inr (.inl rfl))) pe_non (nomark _)) (pss_one (ps_ret (pe_cmpR op_isNo (pe_var (i := 0) rfl (.inr (.inl rfl))) pe_non (nomark _)))) pss_nil)
  (pss_cons (ps_if (pt_cmpR op_isBo (pe_var (i := 1) rfl (.inr (.inl rfl))) pe_bl (nomark _)) (pss_one (ps_ret (pe_cmpR op_isBo (pe_var (i := 0) rfl (.inr (.inl rfl))) pe_bl (nomark _)))) pss_nil)
  (pss_cons (ps_if (pt_cmpR op_isBo (pe_var (i := 1) rfl (.inr (.inl rfl))) pe_bl (nomark _)) (pss_one (ps_ret (pe_cmpR op_isBo (pe_var (i := 0) rfl (.inr (.inl rfl))) pe_bl (nomark _)))) pss_nil)
  (pss_cons (ps_if (pt_tru (pe_callB call_isi rfl (fr_isinstance T) (by decide +kernel) (pa_cons (pe_var (i := 1) rfl (.inr (.inl rfl))) (pa_cons (pe_bltn rfl (fr_str T) (by decide +kernel) rfl) pa_nil)))) (pss_one (ps_ret (pe_and (pe_callB call_isi rfl (fr_isinstance T) (by decide +kernel) (pa_cons (pe_var (i := 0) rfl (.inr (.inl rfl))) (pa_cons (pe_bltn rfl (fr_str T) (by decide +kernel) rfl) pa_nil))) (pe_one (pe_cmpR (op_eqU hr.units) (pe_var (i := 0) rfl (.inr (.inl rfl))) (pe_var (i := 1) rfl (.inr (.inl rfl))) (nomark _)))))) pss_nil)
  (pss_cons (ps_if (pt_tru (pe_callB call_isi rfl (fr_isinstance T) (by decide +kernel) (pa_cons (pe_var (i := 1) rfl (.inr (.inl rfl))) (pa_cons (pe_bltn rfl (fr_int T) (by decide +kernel) rfl) pa_nil)))) (pss_one (ps_ret (pe_and (pe_callB call_isi rfl (fr_isinstance T) (by decide +kernel) (pa_cons (pe_var (i := 0) rfl (.inr (.inl rfl))) (pa_cons (pe_bltn rfl (fr_int T) (by decide +kernel) rfl) pa_nil))) (pe_and (pe_not (pe_callB call_isi rfl (fr_isinstance T) (by decide +kernel) (pa_cons (pe_var (i := 0) rfl (.inr (.inl rfl))) (pa_cons (pe_bltn rfl (fr_bool T) (by decide +kernel) rfl) pa_nil)))) (pe_one (pe_cmpR (op_eqU hr.units) (pe_var (i := 0) rfl (.inr (.inl rfl))) (pe_var (i := 1) rfl (.inr (.inl rfl))) (nomark _))))))) pss_nil)
  (pss_cons (ps_if (PW.pt (pw_and (pt_tru (pe_callB call_isi rfl (fr_isinstance T) (by decide +kernel) (pa_cons (pe_var (i := 1) rfl (.inr (.inl rfl))) (pa_cons (pe_bltn rfl (fr_list T) (by decide +kernel) rfl) pa_nil)))) (pw_and1 (pt_not (pt_tru (pe_callB call_isi rfl (fr_isinstance T) (by decide +kernel) (pa_cons (pe_var (i := 0) rfl (.inr (.inl rfl))) (pa_cons (pe_bltn rfl (fr_list T) (by decide +kernel) rfl) pa_nil)))))))) (pss_one (ps_ret pe_bl)) pss_nil)
  (pss_cons (ps_if (PW.pt (pw_and (pt_tru (pe_callB call_isi rfl (fr_isinstance T) (by decide +kernel) (pa_cons (pe_var (i := 1) rfl (.inr (.inl rfl))) (pa_cons (pe_bltn rfl (fr_tuple T) (by decide +kernel) rfl) pa_nil)))) (pw_and1 (pt_not (pt_tru (pe_callB call_isi rfl (fr_isinstance T) (by decide +kernel) (pa_cons (pe_var (i := 0) rfl (.inr (.inl rfl))) (pa_cons (pe_bltn rfl (fr_tuple T) (by decide +kernel) rfl) pa_nil)))))))) (pss_one (ps_ret pe_bl)) pss_nil)
  (pss_cons (ps_if (pt_cmpR (op_neU hr.units) (pe_callB call_lenQ rfl (fr_len T) (by decide +kernel) (pa_cons (pe_var (i := 0) rfl (.inr (.inl rfl))) pa_nil)) (pe_callB call_lenQ rfl (fr_len T) (by decide +kernel) (pa_cons (pe_var (i := 1) rfl (.inr (.inl rfl))) pa_nil)) (nomark _)) (pss_one (ps_ret pe_bl)) pss_nil)
  (pss_one (ps_ret (pe_callB (cr_all rfl) rfl (fr_all T) (by decide +kernel) (pa_cons (pe_lc (own := [("_law_k", 2)]) rfl nd (pi_range1 rfl (fr_range T) (pa_cons (pe_callB call_lenQ rfl (fr_len T) (by decide +kernel) (pa_cons (pe_var (i := 1) rfl (.inr (.inl rfl))) pa_nil)) pa_nil)) (blkOk_by (own := [("_law_k", 2)]) (N := N__law_like) (sc := (defScope s__law_like)) (by decide +kernel)) (fun _ _ _ _ _ => (pg_name (i := 2) nd rfl (.inl rfl))) (fun _ _ _ _ _ => pts_nil) (fun _ _ _ _ _ => (pe_callE h__law_like hr rfl (g__law_like T) (pa_cons (pe_ix ix_U (pe_var (i := 0) rfl (.inr (.inl rfl))) (pe_var (i := 2) rfl (.inl rfl)) (fun _ _ => rfl)) (pa_cons (pe_ix ix_U (pe_var (i := 1) rfl (.inr (.inl rfl))) (pe_var (i := 2) rfl (.inl rfl)) (fun _ _ => rfl)) pa_nil))))) pa_nil))))))))))))
abbrev N__law_order : List Str := ["_law_pot_here", "_law_count", "_law_pool", "_law_order_here", "_law_k"]
abbrev ps__law_order : List Str := ["_law_pot_here", "_law_count"]
theorem sc__law_order : FnScope N__law_order ps__law_order (defScope s__law_order) := ⟨rfl, rfl, rfl, by decide +kernel, rfl, by decide +kernel, by decide +kernel⟩
def t__law_order (K : PySem.W.Frag) (sp__law_draw : Spec) : TS := (tSeq (tAsg (tLc (iRng1 (tCons (tVar 1) tNil)) (gName 4) tYes (tVar 4) [4]) (gName 2))
  (tSeq (tAsg (tLst tNil) (gName 3))
  (tSeq (tFor (iRng1 (tCons (tVar 1) tNil)) (gName 4)
  (tDrop (tBM K "list" rAppend (tVar 3) (tCons (tBM K "list" rPopAt (tVar 2) (tCons (tCall (spOf K sp__law_draw) [] E0 (tCons (tVar 0) (tCons (tCB (rLenQ K) (tCons (tVar 2) tNil)) tNil))) tNil)) tNil))))
  (tRet (tVar 3)))))
theorem dv__law_order (T : Hd fn fa xs K mg) {sp__law_draw : Spec} (h__law_draw : FnE P w K mg base 2 (He.fAd K d__law_draw.at_) ps__law_draw (spOf K sp__law_draw)) {cdv : Value} {A : Around} {outer : List PySem.Env} {s : Shared} {H : Hp} {E : XK} (hr : Room 2 (A.deeper (envOfC d__law_order.qual d__law_order.scope s.heap.objs.size (He.fAd K d__law_order.at_) cdv))) :
    PSs (cxOf CX0 P w K mg base N__law_order d__law_order.qual d__law_order.scope (He.fAd K d__law_order.at_) cdv A outer s H E).nox d__law_order.body (t__law_order K sp__law_draw) :=
  have nd := sc__law_order.nd
  (pss_cons (ps_setLc (i := 2) (own := [("_law_k", 4)]) rfl nd rfl rfl (sw_true rfl rfl rfl (by decide +kernel)) (pi_range1 rfl (fr_range T) (pa_cons (pe_var (i := 1) rfl (.inl rfl)) pa_nil)) (blkOk_by (own := [("_law_k", 4)]) (N := N__law_order) (sc := (defScope s__law_order)) (by decide +kernel)) (fun _ _ _ _ _ => (pg_name (i := 4) nd rfl (.inl rfl))) (fun _ _ _ _ _ => pts_nil) (fun _ _ _ _ _ => (pe_var (i := 4) rfl (.inl rfl))))
  (pss_cons (ps_set (i := 3) nd rfl (.inl rfl) (pe_lst pa_nil))
  (pss_cons (ps_for PassesOwn.never rfl (pi_range1 rfl (fr_range T) (pa_cons (pe_var (i := 1) rfl (.inl rfl)) pa_nil)) (pg_name (i := 4) nd rfl (.inl rfl))
  (pss_one (ps_expr (pe_bm PySem.F.plainAttrs_list PySem.F.slot_list_append PySem.F.type_list_append mt_append (pe_var (i := 3) rfl (.inl rfl)) (pa_cons (pe_bm PySem.F.plainAttrs_list PySem.F.slot_list_pop PySem.F.type_list_pop mt_popAt (pe_var (i := 2) rfl (.inl rfl)) (pa_cons (pe_callE h__law_draw (hr.mono (by decide)) rfl (g__law_draw T) (pa_cons (pe_var (i := 0) rfl (.inl rfl)) (pa_cons (pe_callB call_lenQ rfl (fr_len T) (by decide +kernel) (pa_cons (pe_var (i := 2) rfl (.inl rfl)) pa_nil)) pa_nil))) pa_nil)) pa_nil)))))
  (pss_one (ps_ret (pe_var (i := 3) rfl (.inl rfl)))))))
abbrev N__law_rope : List Str := ["_law_pot_here", "_law_ends", "_law_start", "_law_end", "_law_pair"]
abbrev ps__law_rope : List Str := ["_law_pot_here", "_law_ends", "_law_start", "_law_end"]
theorem sc__law_rope : FnScope N__law_rope ps__law_rope (defScope s__law_rope) := ⟨rfl, rfl, rfl, by decide +kernel, rfl, by decide +kernel, by decide +kernel⟩
def t__law_rope (K : PySem.W.Frag) (sp__law_draw : Spec) : TS := (tSeq (tAsg (tTup (tCons (tVar 2) (tCons (tVar 3) tNil))) (gName 4))
  (tSeq (tIfS (tTest (tOp (rEqU K) (tCall (spOf K sp__law_draw) [] E0 (tCons (tVar 0) (tCons (tC (.int 2)) tNil))) (tC (.int 1))))
  (tAsg (tTup (tCons (tVar 3) (tCons (tVar 2) tNil))) (gName 4))
  tNext)
  (tDrop (tBM K "list" rInsL (tVar 1) (tCons (tCall (spOf K sp__law_draw) [] E0 (tCons (tVar 0) (tCons (tOp (rAddU K) (tCB (rLenQ K) (tCons (tVar 1) tNil)) (tC (.int 1))) tNil))) (tCons (tVar 4) tNil))))))
theorem dv__law_rope (T : Hd fn fa xs K mg) {sp__law_draw : Spec} (h__law_draw : FnE P w K mg base 2 (He.fAd K d__law_draw.at_) ps__law_draw (spOf K sp__law_draw)) {cdv : Value} {A : Around} {outer : List PySem.Env} {s : Shared} {H : Hp} {E : XK} (hr : Room 2 (A.deeper (envOfC d__law_rope.qual d__law_rope.scope s.heap.objs.size (He.fAd K d__law_rope.at_) cdv))) :
    PSs (cxOf CX0 P w K mg base N__law_rope d__law_rope.qual d__law_rope.scope (He.fAd K d__law_rope.at_) cdv A outer s H E).nox d__law_rope.body (t__law_rope K sp__law_draw) :=
  have nd := sc__law_rope.nd
  (pss_cons (ps_set (i := 4) nd rfl (.inl rfl) (pe_tup (pa_cons (pe_var (i := 2) rfl (.inl rfl)) (pa_cons (pe_var (i := 3) rfl (.inl rfl)) pa_nil))))
  (pss_cons (ps_if (pt_cmpR (op_eqU hr.units) (pe_callE h__law_draw (hr.mono (by decide)) rfl (g__law_draw T) (pa_cons (pe_var (i := 0) rfl (.inl rfl)) (pa_cons pe_int pa_nil))) pe_int (nomark _)) (pss_one (ps_set (i := 4) nd rfl (.inl rfl) (pe_tup (pa_cons (pe_var (i := 3) rfl (.inl rfl)) (pa_cons (pe_var (i := 2) rfl (.inl rfl)) pa_nil))))) pss_nil)
  (pss_one (ps_expr (pe_bm PySem.F.plainAttrs_list PySem.F.slot_list_insert PySem.F.type_list_insert mt_insertQ (pe_var (i := 1) rfl (.inl rfl)) (pa_cons (pe_callE h__law_draw (hr.mono (by decide)) rfl (g__law_draw T) (pa_cons (pe_var (i := 0) rfl (.inl rfl)) (pa_cons (pe_op op_addU (pe_callB call_lenQ rfl (fr_len T) (by decide +kernel) (pa_cons (pe_var (i := 1) rfl (.inl rfl)) pa_nil)) pe_int) pa_nil))) (pa_cons (pe_var (i := 4) rfl (.inl rfl)) pa_nil)))))))
abbrev N__law_tree : List Str := ["_law_pot_here", "_law_count", "_law_order_here", "_law_ends", "_law_k"]
abbrev ps__law_tree : List Str := ["_law_pot_here", "_law_count"]
theorem sc__law_tree : FnScope N__law_tree ps__law_tree (defScope s__law_tree) := ⟨rfl, rfl, rfl, by decide +kernel, rfl, by decide +kernel, by decide +kernel⟩
def t__law_tree (K : PySem.W.Frag) (sp__law_order sp__law_rope sp__law_draw : Spec) : TS := (tSeq (tAsg (tCall (spOf K sp__law_order) [] E0 (tCons (tVar 0) (tCons (tVar 1) tNil))) (gName 2))
  (tSeq (tAsg (tLst tNil) (gName 3))
  (tSeq (tFor (iRng2 (tCons (tC (.int 1)) (tCons (tVar 1) tNil))) (gName 4)
  (tDrop (tCall (spOf K sp__law_rope) [] E0 (tCons (tVar 0) (tCons (tVar 3) (tCons (tOp (rIxU K) (tVar 2) (tVar 4)) (tCons (tOp (rIxU K) (tVar 2) (tCall (spOf K sp__law_draw) [] E0 (tCons (tVar 0) (tCons (tVar 4) tNil)))) tNil)))))))
  (tRet (tVar 3)))))
theorem dv__law_tree (T : Hd fn fa xs K mg) {sp__law_order sp__law_rope sp__law_draw : Spec} (h__law_order : FnE P w K mg base 3 (He.fAd K d__law_order.at_) ps__law_order (spOf K sp__law_order)) (h__law_rope : FnE P w K mg base 3 (He.fAd K d__law_rope.at_) ps__law_rope (spOf K sp__law_rope)) (h__law_draw : FnE P w K mg base 2 (He.fAd K d__law_draw.at_) ps__law_draw (spOf K sp__law_draw)) {cdv : Value} {A : Around} {outer : List PySem.Env} {s : Shared} {H : Hp} {E : XK} (hr : Room 3 (A.deeper (envOfC d__law_tree.qual d__law_tree.scope s.heap.objs.size (He.fAd K d__law_tree.at_) cdv))) :
    PSs (cxOf CX0 P w K mg base N__law_tree d__law_tree.qual d__law_tree.scope (He.fAd K d__law_tree.at_) cdv A outer s H E).nox d__law_tree.body (t__law_tree K sp__law_order sp__law_rope sp__law_draw) :=
  have nd := sc__law_tree.nd
  (pss_cons (ps_set (i := 2) nd rfl (.inl rfl) (pe_callE h__law_order (hr.mono (by decide)) rfl (g__law_order T) (pa_cons (pe_var (i := 0) rfl (.inl rfl)) (pa_cons (pe_var (i := 1) rfl (.inl rfl)) pa_nil))))
  (pss_cons (ps_set (i := 3) nd rfl (.inl rfl) (pe_lst pa_nil))
  (pss_cons (ps_for PassesOwn.never rfl (pi_range2 rfl (fr_range T) (pa_cons pe_int (pa_cons (pe_var (i := 1) rfl (.inl rfl)) pa_nil))) (pg_name (i := 4) nd rfl (.inl rfl))
  (pss_one (ps_expr (pe_callE h__law_rope (hr.mono (by decide)) rfl (g__law_rope T) (pa_cons (pe_var (i := 0) rfl (.inl rfl)) (pa_cons (pe_var (i := 3) rfl (.inl rfl)) (pa_cons (pe_ix ix_U (pe_var (i := 2) rfl (.inl rfl)) (pe_var (i := 4) rfl (.inl rfl)) (fun _ _ => rfl)) (pa_cons (pe_ix ix_U (pe_var (i := 2) rfl (.inl rfl)) (pe_callE h__law_draw (hr.mono (by decide)) rfl (g__law_draw T) (pa_cons (pe_var (i := 0) rfl (.inl rfl)) (pa_cons (pe_var (i := 4) rfl (.inl rfl)) pa_nil))) (fun _ _ => rfl)) pa_nil))))))))
  (pss_one (ps_ret (pe_var (i := 3) rfl (.inl rfl)))))))
abbrev N__law_extra : List Str := ["_law_pot_here", "_law_count", "_law_ends", "_law_most", "_law_k", "_law_start", "_law_end"]
abbrev ps__law_extra : List Str := ["_law_pot_here", "_law_count", "_law_ends", "_law_most"]
theorem sc__law_extra : FnScope N__law_extra ps__law_extra (defScope s__law_extra) := ⟨rfl, rfl, rfl, by decide +kernel, rfl, by decide +kernel, by decide +kernel⟩
def t__law_extra (K : PySem.W.Frag) (sp__law_draw sp__law_rope : Spec) : TS := (tFor (iRng1 (tCons (tCall (spOf K sp__law_draw) [] E0 (tCons (tVar 0) (tCons (tOp (rAddU K) (tVar 3) (tC (.int 1))) tNil))) tNil)) (gName 4)
  (tSeq (tAsg (tCall (spOf K sp__law_draw) [] E0 (tCons (tVar 0) (tCons (tVar 1) tNil))) (gName 5))
  (tSeq (tAsg (tOp rModI (tCB rIntQ (tCons (tOp (rAddU K) (tOp (rAddU K) (tVar 5) (tC (.int 1))) (tCall (spOf K sp__law_draw) [] E0 (tCons (tVar 0) (tCons (tOp rSubI (tVar 1) (tC (.int 1))) tNil)))) tNil)) (tVar 1)) (gName 6))
  (tDrop (tCall (spOf K sp__law_rope) [] E0 (tCons (tVar 0) (tCons (tVar 2) (tCons (tVar 5) (tCons (tVar 6) tNil)))))))))
theorem dv__law_extra (T : Hd fn fa xs K mg) {sp__law_draw sp__law_rope : Spec} (h__law_draw : FnE P w K mg base 2 (He.fAd K d__law_draw.at_) ps__law_draw (spOf K sp__law_draw)) (h__law_rope : FnE P w K mg base 3 (He.fAd K d__law_rope.at_) ps__law_rope (spOf K sp__law_rope)) {cdv : Value} {A : Around} {outer : List PySem.Env} {s : Shared} {H : Hp} {E : XK} (hr : Room 3 (A.deeper (envOfC d__law_extra.qual d__law_extra.scope s.heap.objs.size (He.fAd K d__law_extra.at_) cdv))) :
    PSs (cxOf CX0 P w K mg base N__law_extra d__law_extra.qual d__law_extra.scope (He.fAd K d__law_extra.at_) cdv A outer s H E).nox d__law_extra.body (t__law_extra K sp__law_draw sp__law_rope) :=
  have nd := sc__law_extra.nd
  (pss_one (ps_for PassesOwn.never rfl (pi_range1 rfl (fr_range T) (pa_cons (pe_callE h__law_draw (hr.mono (by decide)) rfl (g__law_draw T) (pa_cons (pe_var (i := 0) rfl (.inl rfl)) (pa_cons (pe_op op_addU (pe_var (i := 3) rfl (.inl rfl)) pe_int) pa_nil))) pa_nil)) (pg_name (i := 4) nd rfl (.inl rfl))
  (pss_cons (ps_set (i := 5) nd rfl (.inl rfl) (pe_callE h__law_draw (hr.mono (by decide)) rfl (g__law_draw T) (pa_cons (pe_var (i := 0) rfl (.inl rfl)) (pa_cons (pe_var (i := 1) rfl (.inl rfl)) pa_nil))))
  (pss_cons (ps_set (i := 6) nd rfl (.inl rfl) (pe_op op_modI (pe_callTy call_intQ rfl (fr_int T) (by decide +kernel) (pa_cons (pe_op op_addU (pe_op op_addU (pe_var (i := 5) rfl (.inl rfl)) pe_int) (pe_callE h__law_draw (hr.mono (by decide)) rfl (g__law_draw T) (pa_cons (pe_var (i := 0) rfl (.inl rfl)) (pa_cons (pe_op op_subI (pe_var (i := 1) rfl (.inl rfl)) pe_int) pa_nil)))) pa_nil)) (pe_var (i := 1) rfl (.inl rfl))))
  (pss_one (ps_expr (pe_callE h__law_rope (hr.mono (by decide)) rfl (g__law_rope T) (pa_cons (pe_var (i := 0) rfl (.inl rfl)) (pa_cons (pe_var (i := 2) rfl (.inl rfl)) (pa_cons (pe_var (i := 5) rfl (.inl rfl)) (pa_cons (pe_var (i := 6) rfl (.inl rfl)) pa_nil)))))))))))
abbrev N__law_spread : List Str := ["_law_pot_here", "_law_count", "_law_ropes", "_law_totals", "_law_row", "_law_colour", "_law_k", "_law_at"]
abbrev ps__law_spread : List Str := ["_law_pot_here", "_law_count", "_law_ropes", "_law_totals"]
theorem sc__law_spread : FnScope N__law_spread ps__law_spread (defScope s__law_spread) := ⟨rfl, rfl, rfl, by decide +kernel, rfl, by decide +kernel, by decide +kernel⟩
def t__law_spread (K : PySem.W.Frag) (sp__law_draw : Spec) : TS := (tSeq (tAsg (tLc (iRng1 (tCons (tOp rMulU (tC (.int 2)) (tVar 1)) tNil)) (gName 6) tYes (tC (.int 0)) [6]) (gName 4))
  (tSeq (tFor (iRng1 (tCons (tC (.int 2)) tNil)) (gName 5)
  (tFor (iRng1 (tCons (tOp (rIxU K) (tVar 3) (tVar 5)) tNil)) (gName 6)
  (tSeq (tAsg (tOp (rAddU K) (tOp rMulU (tVar 5) (tVar 1)) (tCall (spOf K sp__law_draw) [] E0 (tCons (tVar 0) (tCons (tVar 1) tNil)))) (gName 7))
  (tAsg (tOp (rAddU K) (tOp (rIxU K) (tVar 4) (tVar 7)) (tC (.int 1))) (gSub (tVar 4) (tVar 7) rSetL)))))
  (tRet (tCB (rTupleQ K) (tCons (tOp (rAddU K) (tVar 4) (tLc (iRng1 (tCons (tVar 2) tNil)) (gName 6) tYes (tCall (spOf K sp__law_draw) [] E0 (tCons (tVar 0) (tCons (tC (.int 2)) tNil))) [6])) tNil)))))
theorem dv__law_spread (T : Hd fn fa xs K mg) {sp__law_draw : Spec} (h__law_draw : FnE P w K mg base 2 (He.fAd K d__law_draw.at_) ps__law_draw (spOf K sp__law_draw)) {cdv : Value} {A : Around} {outer : List PySem.Env} {s : Shared} {H : Hp} {E : XK} (hr : Room 2 (A.deeper (envOfC d__law_spread.qual d__law_spread.scope s.heap.objs.size (He.fAd K d__law_spread.at_) cdv))) :
    PSs (cxOf CX0 P w K mg base N__law_spread d__law_spread.qual d__law_spread.scope (He.fAd K d__law_spread.at_) cdv A outer s H E).nox d__law_spread.body (t__law_spread K sp__law_draw) :=
  have nd := sc__law_spread.nd
  (pss_cons (ps_setLc (i := 4) (own := [("_law_k", 6)]) rfl nd rfl rfl (sw_true rfl rfl rfl (by decide +kernel)) (pi_range1 rfl (fr_range T) (pa_cons (pe_op op_mulU pe_int (pe_var (i := 1) rfl (.inl rfl))) pa_nil)) (blkOk_by (own := [("_law_k", 6)]) (N := N__law_spread) (sc := (defScope s__law_spread)) (by decide +kernel)) (fun _ _ _ _ _ => (pg_name (i := 6) nd rfl (.inl rfl))) (fun _ _ _ _ _ => pts_nil) (fun _ _ _ _ _ => pe_int))
  (pss_cons (ps_for PassesOwn.never rfl (pi_range1 rfl (fr_range T) (pa_cons pe_int pa_nil)) (pg_name (i := 5) nd rfl (.inl rfl))
  (pss_one (ps_for PassesOwn.never rfl (pi_range1 rfl (fr_range T) (pa_cons (pe_ix ix_U (pe_var (i := 3) rfl (.inl rfl)) (pe_var (i := 5) rfl (.inl rfl)) (fun _ _ => rfl)) pa_nil)) (pg_name (i := 6) nd rfl (.inl rfl))
  (pss_cons (ps_set (i := 7) nd rfl (.inl rfl) (pe_op op_addU (pe_op op_mulU (pe_var (i := 5) rfl (.inl rfl)) (pe_var (i := 1) rfl (.inl rfl))) (pe_callE h__law_draw (hr.mono (by decide)) rfl (g__law_draw T) (pa_cons (pe_var (i := 0) rfl (.inr (.inl rfl))) (pa_cons (pe_var (i := 1) rfl (.inl rfl)) pa_nil)))))
  (pss_one (ps_asg (pe_op op_addU (pe_ix ix_U (pe_var (i := 4) rfl (.inl rfl)) (pe_var (i := 7) rfl (.inl rfl)) (fun _ _ => rfl)) pe_int) (pg_sub (pe_var (i := 4) rfl (.inl rfl)) (pe_var (i := 7) rfl (.inl rfl)) set_list)))))))
  (pss_one (ps_ret (pe_callTy call_tupleQ rfl (fr_tuple T) (by decide +kernel) (pa_cons (pe_op op_addU (pe_var (i := 4) rfl (.inl rfl)) (pe_lc (own := [("_law_k", 6)]) rfl nd (pi_range1 rfl (fr_range T) (pa_cons (pe_var (i := 2) rfl (.inl rfl)) pa_nil)) (blkOk_by (own := [("_law_k", 6)]) (N := N__law_spread) (sc := (defScope s__law_spread)) (by decide +kernel)) (fun _ _ _ _ _ => (pg_name (i := 6) nd rfl (.inl rfl))) (fun _ _ _ _ _ => pts_nil) (fun _ _ _ _ _ => (pe_callE h__law_draw (hr.mono (by decide)) rfl (g__law_draw T) (pa_cons (pe_var (i := 0) rfl (.inr (.inl rfl))) (pa_cons pe_int pa_nil)))))) pa_nil))))))
abbrev N__law_open : List Str := ["_law_count", "_law_ends", "_law_key", "_law_rides", "_law_rope_here", "_law_car"]
abbrev ps__law_open : List Str := ["_law_count", "_law_ends", "_law_key"]
theorem sc__law_open : FnScope N__law_open ps__law_open (defScope s__law_open) := ⟨rfl, rfl, rfl, by decide +kernel, rfl, by decide +kernel, by decide +kernel⟩
def t__law_open (K : PySem.W.Frag) : TS := (tSeq (tAsg (tLst tNil) (gName 3))
  (tSeq (tFor (iRng1 (tCons (tCB (rLenQ K) (tCons (tVar 1) tNil)) tNil)) (gName 4)
  (tSeq (tAsg (tOp (rIxU K) (tVar 2) (tOp (rAddU K) (tOp rMulU (tC (.int 2)) (tVar 0)) (tVar 4))) (gName 5))
  (tSeq (tIfS (tTest (tOp rGtI (tOp (rIxU K) (tVar 2) (tOp (rIxU K) (tOp (rIxU K) (tVar 1) (tVar 4)) (tVar 5))) (tC (.int 0))))
  (tDrop (tBM K "list" rAppend (tVar 3) (tCons (tTup (tCons (tVar 4) (tCons (tC (.int 0)) tNil))) tNil)))
  tNext)
  (tIfS (tTest (tOp rGtI (tOp (rIxU K) (tVar 2) (tOp (rAddU K) (tVar 0) (tOp (rIxU K) (tOp (rIxU K) (tVar 1) (tVar 4)) (tOp rSubI (tC (.int 1)) (tVar 5))))) (tC (.int 0))))
  (tDrop (tBM K "list" rAppend (tVar 3) (tCons (tTup (tCons (tVar 4) (tCons (tC (.int 1)) tNil))) tNil)))
  tNext))))
  (tRet (tVar 3))))
theorem dv__law_open (T : Hd fn fa xs K mg) {cdv : Value} {A : Around} {outer : List PySem.Env} {s : Shared} {H : Hp} {E : XK} (hr : Room 0 (A.deeper (envOfC d__law_open.qual d__law_open.scope s.heap.objs.size (He.fAd K d__law_open.at_) cdv))) :
    PSs (cxOf CX0 P w K mg base N__law_open d__law_open.qual d__law_open.scope (He.fAd K d__law_open.at_) cdv A outer s H E).nox d__law_open.body (t__law_open K) :=
  have nd := sc__law_open.nd
  (pss_cons (ps_set (i := 3) nd rfl (.inl rfl) (pe_lst pa_nil))
  (pss_cons (ps_for PassesOwn.never rfl (pi_range1 rfl (fr_range T) (pa_cons (pe_callB call_lenQ rfl (fr_len T) (by decide +kernel) (pa_cons (pe_var (i := 1) rfl (.inl rfl)) pa_nil)) pa_nil)) (pg_name (i := 4) nd rfl (.inl rfl))
  (pss_cons (ps_set (i := 5) nd rfl (.inl rfl) (pe_ix ix_U (pe_var (i := 2) rfl (.inl rfl)) (pe_op op_addU (pe_op op_mulU pe_int (pe_var (i := 0) rfl (.inl rfl))) (pe_var (i := 4) rfl (.inl rfl))) (fun _ _ => rfl)))
  (pss_cons (ps_if (pt_cmpR op_gtI (pe_ix ix_U (pe_var (i := 2) rfl (.inl rfl)) (pe_ix ix_U (pe_ix ix_U (pe_var (i := 1) rfl (.inl rfl)) (pe_var (i := 4) rfl (.inl rfl)) (fun _ _ => rfl)) (pe_var (i := 5) rfl (.inl rfl)) (fun _ _ => rfl)) (fun _ _ => rfl)) pe_int (nomark _)) (pss_one (ps_expr (pe_bm PySem.F.plainAttrs_list PySem.F.slot_list_append PySem.F.type_list_append mt_append (pe_var (i := 3) rfl (.inl rfl)) (pa_cons (pe_tup (pa_cons (pe_var (i := 4) rfl (.inl rfl)) (pa_cons pe_int pa_nil))) pa_nil)))) pss_nil)
  (pss_one (ps_if (pt_cmpR op_gtI (pe_ix ix_U (pe_var (i := 2) rfl (.inl rfl)) (pe_op op_addU (pe_var (i := 0) rfl (.inl rfl)) (pe_ix ix_U (pe_ix ix_U (pe_var (i := 1) rfl (.inl rfl)) (pe_var (i := 4) rfl (.inl rfl)) (fun _ _ => rfl)) (pe_op op_subI pe_int (pe_var (i := 5) rfl (.inl rfl))) (fun _ _ => rfl))) (fun _ _ => rfl)) pe_int (nomark _)) (pss_one (ps_expr (pe_bm PySem.F.plainAttrs_list PySem.F.slot_list_append PySem.F.type_list_append mt_append (pe_var (i := 3) rfl (.inl rfl)) (pa_cons (pe_tup (pa_cons (pe_var (i := 4) rfl (.inl rfl)) (pa_cons pe_int pa_nil))) pa_nil)))) pss_nil)))))
  (pss_one (ps_ret (pe_var (i := 3) rfl (.inl rfl))))))
abbrev N__law_ridden : List Str := ["_law_count", "_law_ends", "_law_key", "_law_ride", "_law_rope_here", "_law_side", "_law_row", "_law_start", "_law_end"]
abbrev ps__law_ridden : List Str := ["_law_count", "_law_ends", "_law_key", "_law_ride"]
theorem sc__law_ridden : FnScope N__law_ridden ps__law_ridden (defScope s__law_ridden) := ⟨rfl, rfl, rfl, by decide +kernel, rfl, by decide +kernel, by decide +kernel⟩
def t__law_ridden (K : PySem.W.Frag) : TS := (tSeq (tAsg (tOp (rIxU K) (tVar 3) (tC (.int 0))) (gName 4))
  (tSeq (tAsg (tOp (rIxU K) (tVar 2) (tOp (rAddU K) (tOp rMulU (tC (.int 2)) (tVar 0)) (tVar 4))) (gName 5))
  (tSeq (tIfS (tTest (tOp (rEqU K) (tOp (rIxU K) (tVar 3) (tC (.int 1))) (tC (.int 1))))
  (tAsg (tOp rSubI (tC (.int 1)) (tVar 5)) (gName 5))
  tNext)
  (tSeq (tAsg (tCB (rListQ K) (tCons (tVar 2) tNil)) (gName 6))
  (tSeq (tAsg (tOp (rAddU K) (tOp rMulU (tOp (rIxU K) (tVar 3) (tC (.int 1))) (tVar 0)) (tOp (rIxU K) (tOp (rIxU K) (tVar 1) (tVar 4)) (tVar 5))) (gName 7))
  (tSeq (tAsg (tOp (rAddU K) (tOp rMulU (tOp (rIxU K) (tVar 3) (tC (.int 1))) (tVar 0)) (tOp (rIxU K) (tOp (rIxU K) (tVar 1) (tVar 4)) (tOp rSubI (tC (.int 1)) (tVar 5)))) (gName 8))
  (tSeq (tAsg (tOp rSubI (tOp (rIxU K) (tVar 6) (tVar 7)) (tC (.int 1))) (gSub (tVar 6) (tVar 7) rSetL))
  (tSeq (tAsg (tOp (rAddU K) (tOp (rIxU K) (tVar 6) (tVar 8)) (tC (.int 1))) (gSub (tVar 6) (tVar 8) rSetL))
  (tSeq (tAsg (tOp rSubI (tC (.int 1)) (tOp (rIxU K) (tVar 6) (tOp (rAddU K) (tOp rMulU (tC (.int 2)) (tVar 0)) (tVar 4)))) (gSub (tVar 6) (tOp (rAddU K) (tOp rMulU (tC (.int 2)) (tVar 0)) (tVar 4)) rSetL))
  (tRet (tCB (rTupleQ K) (tCons (tVar 6) tNil))))))))))))
theorem dv__law_ridden (T : Hd fn fa xs K mg) {cdv : Value} {A : Around} {outer : List PySem.Env} {s : Shared} {H : Hp} {E : XK} (hr : Room 0 (A.deeper (envOfC d__law_ridden.qual d__law_ridden.scope s.heap.objs.size (He.fAd K d__law_ridden.at_) cdv))) :
    PSs (cxOf CX0 P w K mg base N__law_ridden d__law_ridden.qual d__law_ridden.scope (He.fAd K d__law_ridden.at_) cdv A outer s H E).nox d__law_ridden.body (t__law_ridden K) :=
  have nd := sc__law_ridden.nd
  (pss_cons (ps_set (i := 4) nd rfl (.inl rfl) (pe_ix ix_U (pe_var (i := 3) rfl (.inl rfl)) pe_int (fun _ _ => rfl)))
  (pss_cons (ps_set (i := 5) nd rfl (.inl rfl) (pe_ix ix_U (pe_var (i := 2) rfl (.inl rfl)) (pe_op op_addU (pe_op op_mulU pe_int (pe_var (i := 0) rfl (.inl rfl))) (pe_var (i := 4) rfl (.inl rfl))) (fun _ _ => rfl)))
  (pss_cons (ps_if (pt_cmpR (op_eqU hr.units) (pe_ix ix_U (pe_var (i := 3) rfl (.inl rfl)) pe_int (fun _ _ => rfl)) pe_int (nomark _)) (pss_one (ps_set (i := 5) nd rfl (.inl rfl) (pe_op op_subI pe_int (pe_var (i := 5) rfl (.inl rfl))))) pss_nil)
  (pss_cons (ps_set (i := 6) nd rfl (.inl rfl) (pe_callTy call_listQ rfl (fr_list T) (by decide +kernel) (pa_cons (pe_var (i := 2) rfl (.inl rfl)) pa_nil)))
  (pss_cons (ps_set (i := 7) nd rfl (.inl rfl) (pe_op op_addU (pe_op op_mulU (pe_ix ix_U (pe_var (i := 3) rfl (.inl rfl)) pe_int (fun _ _ => rfl)) (pe_var (i := 0) rfl (.inl rfl))) (pe_ix ix_U (pe_ix ix_U (pe_var (i := 1) rfl (.inl rfl)) (pe_var (i := 4) rfl (.inl rfl)) (fun _ _ => rfl)) (pe_var (i := 5) rfl (.inl rfl)) (fun _ _ => rfl))))
  (pss_cons (ps_set (i := 8) nd rfl (.inl rfl) (pe_op op_addU (pe_op op_mulU (pe_ix ix_U (pe_var (i := 3) rfl (.inl rfl)) pe_int (fun _ _ => rfl)) (pe_var (i := 0) rfl (.inl rfl))) (pe_ix ix_U (pe_ix ix_U (pe_var (i := 1) rfl (.inl rfl)) (pe_var (i := 4) rfl (.inl rfl)) (fun _ _ => rfl)) (pe_op op_subI pe_int (pe_var (i := 5) rfl (.inl rfl))) (fun _ _ => rfl))))
  (pss_cons (ps_asg (pe_op op_subI (pe_ix ix_U (pe_var (i := 6) rfl (.inl rfl)) (pe_var (i := 7) rfl (.inl rfl)) (fun _ _ => rfl)) pe_int) (pg_sub (pe_var (i := 6) rfl (.inl rfl)) (pe_var (i := 7) rfl (.inl rfl)) set_list))
  (pss_cons (ps_asg (pe_op op_addU (pe_ix ix_U (pe_var (i := 6) rfl (.inl rfl)) (pe_var (i := 8) rfl (.inl rfl)) (fun _ _ => rfl)) pe_int) (pg_sub (pe_var (i := 6) rfl (.inl rfl)) (pe_var (i := 8) rfl (.inl rfl)) set_list))
  (pss_cons (ps_asg (pe_op op_subI pe_int (pe_ix ix_U (pe_var (i := 6) rfl (.inl rfl)) (pe_op op_addU (pe_op op_mulU pe_int (pe_var (i := 0) rfl (.inl rfl))) (pe_var (i := 4) rfl (.inl rfl))) (fun _ _ => rfl))) (pg_sub (pe_var (i := 6) rfl (.inl rfl)) (pe_op op_addU (pe_op op_mulU pe_int (pe_var (i := 0) rfl (.inl rfl))) (pe_var (i := 4) rfl (.inl rfl))) set_list))
  (pss_one (ps_ret (pe_callTy call_tupleQ rfl (fr_tuple T) (by decide +kernel) (pa_cons (pe_var (i := 6) rfl (.inl rfl)) pa_nil)))))))))))))
abbrev N__law_stand : List Str := ["_law_net", "_law_count", "_law_key"]
abbrev ps__law_stand : List Str := ["_law_net", "_law_count", "_law_key"]
theorem sc__law_stand : FnScope N__law_stand ps__law_stand (defScope s__law_stand) := ⟨rfl, rfl, rfl, by decide +kernel, rfl, by decide +kernel, by decide +kernel⟩
def t__law_stand (K : PySem.W.Frag) (sp_Standing___init__ : Spec) : TS := (tRet (tMake (He.ga K "Standing") (spOf K sp_Standing___init__) [] E0 (tCons (tVar 0) (tCons (tCB (rListQ K) (tCons (tSl (rSlU K) (tVar 2) tNoPart (tPart (tVar 1))) tNil)) (tCons (tCB (rListQ K) (tCons (tSl (rSlU K) (tVar 2) (tPart (tVar 1)) (tPart (tOp rMulU (tC (.int 2)) (tVar 1)))) tNil)) (tCons (tCB (rListQ K) (tCons (tSl (rSlU K) (tVar 2) (tPart (tOp rMulU (tC (.int 2)) (tVar 1))) tNoPart) tNil)) tNil))))))
theorem dv__law_stand (T : Hd fn fa xs K mg) {sp_Standing___init__ : Spec} (h_Standing___init__ : FnE P w K mg base 2 (He.fAd K d_Standing___init__.at_) ps_Standing___init__ (spOf K sp_Standing___init__)) {cdv : Value} {A : Around} {outer : List PySem.Env} {s : Shared} {H : Hp} {E : XK} (hr : Room 3 (A.deeper (envOfC d__law_stand.qual d__law_stand.scope s.heap.objs.size (He.fAd K d__law_stand.at_) cdv))) :
    PSs (cxOf CX0 P w K mg base N__law_stand d__law_stand.qual d__law_stand.scope (He.fAd K d__law_stand.at_) cdv A outer s H E).nox d__law_stand.body (t__law_stand K sp_Standing___init__) :=
  have nd := sc__law_stand.nd
  (pss_one (ps_ret (pe_makeE (mk_Standing T) h_Standing___init__ (hr.mono (by decide)) rfl (g_Standing T) (pa_cons (pe_var (i := 0) rfl (.inl rfl)) (pa_cons (pe_callTy call_listQ rfl (fr_list T) (by decide +kernel) (pa_cons (pe_slice sl_U (pe_var (i := 2) rfl (.inl rfl)) po_none (po_some (pe_var (i := 1) rfl (.inl rfl)))) pa_nil)) (pa_cons (pe_callTy call_listQ rfl (fr_list T) (by decide +kernel) (pa_cons (pe_slice sl_U (pe_var (i := 2) rfl (.inl rfl)) (po_some (pe_var (i := 1) rfl (.inl rfl))) (po_some (pe_op op_mulU pe_int (pe_var (i := 1) rfl (.inl rfl))))) pa_nil)) (pa_cons (pe_callTy call_listQ rfl (fr_list T) (by decide +kernel) (pa_cons (pe_slice sl_U (pe_var (i := 2) rfl (.inl rfl)) (po_some (pe_op op_mulU pe_int (pe_var (i := 1) rfl (.inl rfl)))) po_none) pa_nil)) pa_nil)))))))
abbrev N__law_flat : List Str := ["_law_net", "_law_count", "_law_told", "_law_row", "_law_part", "_law_item"]
abbrev ps__law_flat : List Str := ["_law_net", "_law_count", "_law_told"]
theorem sc__law_flat : FnScope N__law_flat ps__law_flat (defScope s__law_flat) := ⟨rfl, rfl, rfl, by decide +kernel, rfl, by decide +kernel, by decide +kernel⟩
def t__law_flat (K : PySem.W.Frag) (sp_Net___eq__ : Spec) : TS := (tSeq (tIfS (tOr (tNot (tTru K (tCB (rIsi K) (tCons (tVar 2) (tCons (tC (.ref (He.ga K "Standing"))) tNil))))) (tNot (tTest (tOp (rOwn2 (He.ga K "Net") (spOf K sp_Net___eq__)) (tFld K (tVar 2) "net") (tVar 0)))))
  (tRet (tC .non))
  tNext)
  (tSeq (tAsg (tLst tNil) (gName 3))
  (tSeq (tFor (iSeqU K (tTup (tCons (tFld K (tVar 2) "reds") (tCons (tFld K (tVar 2) "blues") (tCons (tFld K (tVar 2) "cars") tNil))))) (gName 4)
  (tSeq (tIfS (tNot (tTru K (tCB (rIsi K) (tCons (tVar 4) (tCons (tC (.ty "tuple")) tNil)))))
  (tRet (tC .non))
  tNext)
  (tFor (iSeqU K (tVar 4)) (gName 5)
  (tSeq (tIfS (tOr (tNot (tTru K (tCB (rIsi K) (tCons (tVar 5) (tCons (tC (.ty "int")) tNil))))) (tTru K (tCB (rIsi K) (tCons (tVar 5) (tCons (tC (.ty "bool")) tNil)))))
  (tRet (tC .non))
  tNext)
  (tDrop (tBM K "list" rAppend (tVar 3) (tCons (tVar 5) tNil)))))))
  (tSeq (tIfS (tOr (tTest (tOp (rNeU K) (tCB (rLenQ K) (tCons (tFld K (tVar 2) "reds") tNil)) (tVar 1))) (tTest (tOp (rNeU K) (tCB (rLenQ K) (tCons (tFld K (tVar 2) "blues") tNil)) (tVar 1))))
  (tRet (tC .non))
  tNext)
  (tRet (tCB (rTupleQ K) (tCons (tVar 3) tNil)))))))
theorem dv__law_flat (T : Hd fn fa xs K mg) {sp_Net___eq__ : Spec} (h_Net___eq__ : FnE P w K mg base 1 (He.fAd K d_Net___eq__.at_) ps_Net___eq__ (spOf K sp_Net___eq__)) {cdv : Value} {A : Around} {outer : List PySem.Env} {s : Shared} {H : Hp} {E : XK} (hr : Room 1 (A.deeper (envOfC d__law_flat.qual d__law_flat.scope s.heap.objs.size (He.fAd K d__law_flat.at_) cdv))) :
    PSs (cxOf CX0 P w K mg base N__law_flat d__law_flat.qual d__law_flat.scope (He.fAd K d__law_flat.at_) cdv A outer s H E).nox d__law_flat.body (t__law_flat K sp_Net___eq__) :=
  have nd := sc__law_flat.nd
  (pss_cons (ps_if (PW.pt (pw_or (pt_not (pt_tru (pe_callB call_isi rfl (fr_isinstance T) (by decide +kernel) (pa_cons (pe_var (i := 2) rfl (.inl rfl)) (pa_cons (C8.pe_gc rfl ⟨_, g_Standing T, rfl⟩) pa_nil))))) (pw_or1 (pt_not (pt_cmpR (op_ownEq h_Net___eq__ (hr.mono (by decide)) (du_Net___eq__ T)) (pe_fld (pe_var (i := 2) rfl (.inl rfl)) rfl) (pe_var (i := 0) rfl (.inl rfl)) (nomark _)))))) (pss_one (ps_ret pe_non)) pss_nil)
  (pss_cons (ps_set (i := 3) nd rfl (.inl rfl) (pe_lst pa_nil))
  (pss_cons (ps_for PassesOwn.never rfl (pi_seqU (pe_tup (pa_cons (pe_fld (pe_var (i := 2) rfl (.inl rfl)) rfl) (pa_cons (pe_fld (pe_var (i := 2) rfl (.inl rfl)) rfl) (pa_cons (pe_fld (pe_var (i := 2) rfl (.inl rfl)) rfl) pa_nil))))) (pg_name (i := 4) nd rfl (.inl rfl))
  (pss_cons (ps_if (pt_not (pt_tru (pe_callB call_isi rfl (fr_isinstance T) (by decide +kernel) (pa_cons (pe_var (i := 4) rfl (.inl rfl)) (pa_cons (pe_bltn rfl (fr_tuple T) (by decide +kernel) rfl) pa_nil))))) (pss_one (ps_ret pe_non)) pss_nil)
  (pss_one (ps_for PassesOwn.never rfl (pi_seqU (pe_var (i := 4) rfl (.inl rfl))) (pg_name (i := 5) nd rfl (.inl rfl))
  (pss_cons (ps_if (PW.pt (pw_or (pt_not (pt_tru (pe_callB call_isi rfl (fr_isinstance T) (by decide +kernel) (pa_cons (pe_var (i := 5) rfl (.inl rfl)) (pa_cons (pe_bltn rfl (fr_int T) (by decide +kernel) rfl) pa_nil))))) (pw_or1 (pt_tru (pe_callB call_isi rfl (fr_isinstance T) (by decide +kernel) (pa_cons (pe_var (i := 5) rfl (.inl rfl)) (pa_cons (pe_bltn rfl (fr_bool T) (by decide +kernel) rfl) pa_nil))))))) (pss_one (ps_ret pe_non)) pss_nil)
  (pss_one (ps_expr (pe_bm PySem.F.plainAttrs_list PySem.F.slot_list_append PySem.F.type_list_append mt_append (pe_var (i := 3) rfl (.inl rfl)) (pa_cons (pe_var (i := 5) rfl (.inl rfl)) pa_nil)))))))))
  (pss_cons (ps_if (PW.pt (pw_or (pt_cmpR (op_neU hr.units) (pe_callB call_lenQ rfl (fr_len T) (by decide +kernel) (pa_cons (pe_fld (pe_var (i := 2) rfl (.inl rfl)) rfl) pa_nil)) (pe_var (i := 1) rfl (.inl rfl)) (nomark _)) (pw_or1 (pt_cmpR (op_neU hr.units) (pe_callB call_lenQ rfl (fr_len T) (by decide +kernel) (pa_cons (pe_fld (pe_var (i := 2) rfl (.inl rfl)) rfl) pa_nil)) (pe_var (i := 1) rfl (.inl rfl)) (nomark _))))) (pss_one (ps_ret pe_non)) pss_nil)
  (pss_one (ps_ret (pe_callTy call_tupleQ rfl (fr_tuple T) (by decide +kernel) (pa_cons (pe_var (i := 3) rfl (.inl rfl)) pa_nil))))))))
abbrev N__law_words : List Str := ["_law_rides", "_law_ride"]
abbrev ps__law_words : List Str := ["_law_rides"]
theorem sc__law_words : FnScope N__law_words ps__law_words (defScope s__law_words) := ⟨rfl, rfl, rfl, by decide +kernel, rfl, by decide +kernel, by decide +kernel⟩
def t__law_words (K : PySem.W.Frag) : TS := (tRet (tLc (iSeqU K (tVar 0)) (gName 1) tYes (tTup (tCons (tOp (rIxU K) (tVar 1) (tC (.int 0))) (tCons (tOp (rIxU K) (tTup (tCons (tC (.str "red")) (tCons (tC (.str "blue")) tNil))) (tOp (rIxU K) (tVar 1) (tC (.int 1)))) tNil))) [1]))
theorem dv__law_words (T : Hd fn fa xs K mg) {cdv : Value} {A : Around} {outer : List PySem.Env} {s : Shared} {H : Hp} {E : XK} (hr : Room 0 (A.deeper (envOfC d__law_words.qual d__law_words.scope s.heap.objs.size (He.fAd K d__law_words.at_) cdv))) :
    PSs (cxOf CX0 P w K mg base N__law_words d__law_words.qual d__law_words.scope (He.fAd K d__law_words.at_) cdv A outer s H E).nox d__law_words.body (t__law_words K) :=
  have nd := sc__law_words.nd
  (pss_one (ps_ret (pe_lc (own := [("_law_ride", 1)]) rfl nd (pi_seqU (pe_var (i := 0) rfl (.inl rfl))) (blkOk_by (own := [("_law_ride", 1)]) (N := N__law_words) (sc := (defScope s__law_words)) (by decide +kernel)) (fun _ _ _ _ _ => (pg_name (i := 1) nd rfl (.inl rfl))) (fun _ _ _ _ _ => pts_nil) (fun _ _ _ _ _ => (pe_tup (pa_cons (pe_ix ix_U (pe_var (i := 1) rfl (.inl rfl)) pe_int (fun _ _ => rfl)) (pa_cons (pe_ix ix_U (pe_tup (pa_cons pe_str (pa_cons pe_str pa_nil))) (pe_ix ix_U (pe_var (i := 1) rfl (.inl rfl)) pe_int (fun _ _ => rfl)) (fun _ _ => rfl)) pa_nil)))))))
abbrev N__law_again : List Str := ["_law_pot_here", "_law_count", "_law_ends", "_law_key", "_law_many", "_law_rides", "_law_keys", "_law_turn", "_law_free", "_law_ride"]
abbrev ps__law_again : List Str := ["_law_pot_here", "_law_count", "_law_ends", "_law_key", "_law_many"]
theorem sc__law_again : FnScope N__law_again ps__law_again (defScope s__law_again) := ⟨rfl, rfl, rfl, by decide +kernel, rfl, by decide +kernel, by decide +kernel⟩
def t__law_again (K : PySem.W.Frag) (sp__law_open sp__law_draw sp__law_ridden : Spec) : TS := (tSeq (tAsg (tLst tNil) (gName 5))
  (tSeq (tAsg (tLst (tCons (tVar 3) tNil)) (gName 6))
  (tSeq (tFor (iRng1 (tCons (tVar 4) tNil)) (gName 7)
  (tSeq (tAsg (tCall (spOf K sp__law_open) [] E0 (tCons (tVar 1) (tCons (tVar 2) (tCons (tOp (rIxU K) (tVar 6) (tUn rNegI (tC (.int 1)))) tNil)))) (gName 8))
  (tSeq (tIfS (tNot (tTru K (tVar 8)))
  tBreak
  tNext)
  (tSeq (tAsg (tOp (rIxU K) (tVar 8) (tCall (spOf K sp__law_draw) [] E0 (tCons (tVar 0) (tCons (tCB (rLenQ K) (tCons (tVar 8) tNil)) tNil)))) (gName 9))
  (tSeq (tIfS (tAnd (tTru K (tVar 5)) (tTest (tOp (rEqU K) (tCall (spOf K sp__law_draw) [] E0 (tCons (tVar 0) (tCons (tC (.int 3)) tNil))) (tC (.int 1)))))
  (tAsg (tOp (rIxU K) (tVar 5) (tUn rNegI (tC (.int 1)))) (gName 9))
  tNext)
  (tSeq (tDrop (tBM K "list" rAppend (tVar 5) (tCons (tVar 9) tNil)))
  (tDrop (tBM K "list" rAppend (tVar 6) (tCons (tCall (spOf K sp__law_ridden) [] E0 (tCons (tVar 1) (tCons (tVar 2) (tCons (tOp (rIxU K) (tVar 6) (tUn rNegI (tC (.int 1)))) (tCons (tVar 9) tNil))))) tNil)))))))))
  (tRet (tLst (tCons (tVar 5) (tCons (tVar 6) tNil)))))))
theorem dv__law_again (T : Hd fn fa xs K mg) {sp__law_open sp__law_draw sp__law_ridden : Spec} (h__law_open : FnE P w K mg base 1 (He.fAd K d__law_open.at_) ps__law_open (spOf K sp__law_open)) (h__law_draw : FnE P w K mg base 2 (He.fAd K d__law_draw.at_) ps__law_draw (spOf K sp__law_draw)) (h__law_ridden : FnE P w K mg base 1 (He.fAd K d__law_ridden.at_) ps__law_ridden (spOf K sp__law_ridden)) {cdv : Value} {A : Around} {outer : List PySem.Env} {s : Shared} {H : Hp} {E : XK} (hr : Room 2 (A.deeper (envOfC d__law_again.qual d__law_again.scope s.heap.objs.size (He.fAd K d__law_again.at_) cdv))) :
    PSs (cxOf CX0 P w K mg base N__law_again d__law_again.qual d__law_again.scope (He.fAd K d__law_again.at_) cdv A outer s H E).nox d__law_again.body (t__law_again K sp__law_open sp__law_draw sp__law_ridden) :=
  have nd := sc__law_again.nd
  (pss_cons (ps_set (i := 5) nd rfl (.inl rfl) (pe_lst pa_nil))
  (pss_cons (ps_set (i := 6) nd rfl (.inl rfl) (pe_lst (pa_cons (pe_var (i := 3) rfl (.inl rfl)) pa_nil)))
  (pss_cons (ps_for PassesOwn.never rfl (pi_range1 rfl (fr_range T) (pa_cons (pe_var (i := 4) rfl (.inl rfl)) pa_nil)) (pg_name (i := 7) nd rfl (.inl rfl))
  (pss_cons (ps_set (i := 8) nd rfl (.inl rfl) (pe_callE h__law_open (hr.mono (by decide)) rfl (g__law_open T) (pa_cons (pe_var (i := 1) rfl (.inl rfl)) (pa_cons (pe_var (i := 2) rfl (.inl rfl)) (pa_cons (pe_ix ix_U (pe_var (i := 6) rfl (.inl rfl)) (pe_un un_negI pe_int) (fun _ _ => rfl)) pa_nil)))))
  (pss_cons (ps_if (pt_not (pt_tru (pe_var (i := 8) rfl (.inl rfl)))) (pss_one ps_break) pss_nil)
  (pss_cons (ps_set (i := 9) nd rfl (.inl rfl) (pe_ix ix_U (pe_var (i := 8) rfl (.inl rfl)) (pe_callE h__law_draw (hr.mono (by decide)) rfl (g__law_draw T) (pa_cons (pe_var (i := 0) rfl (.inl rfl)) (pa_cons (pe_callB call_lenQ rfl (fr_len T) (by decide +kernel) (pa_cons (pe_var (i := 8) rfl (.inl rfl)) pa_nil)) pa_nil))) (fun _ _ => rfl)))
  (pss_cons (ps_if (PW.pt (pw_and (pt_tru (pe_var (i := 5) rfl (.inl rfl))) (pw_and1 (pt_cmpR (op_eqU hr.units) (pe_callE h__law_draw (hr.mono (by decide)) rfl (g__law_draw T) (pa_cons (pe_var (i := 0) rfl (.inl rfl)) (pa_cons pe_int pa_nil))) pe_int (nomark _))))) (pss_one (ps_set (i := 9) nd rfl (.inl rfl) (pe_ix ix_U (pe_var (i := 5) rfl (.inl rfl)) (pe_un un_negI pe_int) (fun _ _ => rfl)))) pss_nil)
  (pss_cons (ps_expr (pe_bm PySem.F.plainAttrs_list PySem.F.slot_list_append PySem.F.type_list_append mt_append (pe_var (i := 5) rfl (.inl rfl)) (pa_cons (pe_var (i := 9) rfl (.inl rfl)) pa_nil)))
  (pss_one (ps_expr (pe_bm PySem.F.plainAttrs_list PySem.F.slot_list_append PySem.F.type_list_append mt_append (pe_var (i := 6) rfl (.inl rfl)) (pa_cons (pe_callE h__law_ridden (hr.mono (by decide)) rfl (g__law_ridden T) (pa_cons (pe_var (i := 1) rfl (.inl rfl)) (pa_cons (pe_var (i := 2) rfl (.inl rfl)) (pa_cons (pe_ix ix_U (pe_var (i := 6) rfl (.inl rfl)) (pe_un un_negI pe_int) (fun _ _ => rfl)) (pa_cons (pe_var (i := 9) rfl (.inl rfl)) pa_nil))))) pa_nil))))))))))
  (pss_one (ps_ret (pe_lst (pa_cons (pe_var (i := 5) rfl (.inl rfl)) (pa_cons (pe_var (i := 6) rfl (.inl rfl)) pa_nil))))))))
abbrev N__law_net_rides : List Str := ["_law_ends", "_law_count", "_law_keys", "_law_rides", "_law_sums", "_law_k", "_law_rope_here", "_law_way", "_law_row", "_law_one"]
abbrev ps__law_net_rides : List Str := ["_law_ends", "_law_count", "_law_keys", "_law_rides"]
theorem sc__law_net_rides : FnScope N__law_net_rides ps__law_net_rides (defScope s__law_net_rides) := ⟨rfl, rfl, rfl, by decide +kernel, rfl, by decide +kernel, by decide +kernel⟩
def t__law_net_rides (K : PySem.W.Frag) : TS := (tSeq (tAsg (tLst (tCons (tLc (iSeqU K (tVar 0)) (gName 9) tYes (tC (.int 0)) [9]) (tCons (tLc (iSeqU K (tVar 0)) (gName 9) tYes (tC (.int 0)) [9]) tNil))) (gName 4))
  (tSeq (tFor (iRng1 (tCons (tCB (rLenQ K) (tCons (tVar 3) tNil)) tNil)) (gName 5)
  (tSeq (tAsg (tOp (rIxU K) (tOp (rIxU K) (tVar 3) (tVar 5)) (tC (.int 0))) (gName 6))
  (tSeq (tAsg (tOp rSubI (tC (.int 1)) (tOp rMulU (tC (.int 2)) (tOp (rIxU K) (tOp (rIxU K) (tVar 2) (tVar 5)) (tOp (rAddU K) (tOp rMulU (tC (.int 2)) (tVar 1)) (tVar 6))))) (gName 7))
  (tSeq (tAsg (tOp (rIxU K) (tVar 4) (tOp (rIxU K) (tOp (rIxU K) (tVar 3) (tVar 5)) (tC (.int 1)))) (gName 8))
  (tAsg (tOp (rAddU K) (tOp (rIxU K) (tVar 8) (tVar 6)) (tOp rMulU (tVar 7) (tOp rSubI (tC (.int 1)) (tOp rMulU (tC (.int 2)) (tOp (rIxU K) (tOp (rIxU K) (tVar 3) (tVar 5)) (tC (.int 1))))))) (gSub (tVar 8) (tVar 6) rSetL))))))
  (tRet (tVar 4))))
theorem dv__law_net_rides (T : Hd fn fa xs K mg) {cdv : Value} {A : Around} {outer : List PySem.Env} {s : Shared} {H : Hp} {E : XK} (hr : Room 0 (A.deeper (envOfC d__law_net_rides.qual d__law_net_rides.scope s.heap.objs.size (He.fAd K d__law_net_rides.at_) cdv))) :
    PSs (cxOf CX0 P w K mg base N__law_net_rides d__law_net_rides.qual d__law_net_rides.scope (He.fAd K d__law_net_rides.at_) cdv A outer s H E).nox d__law_net_rides.body (t__law_net_rides K) :=
  have nd := sc__law_net_rides.nd
  (pss_cons (ps_set (i := 4) nd rfl (.inl rfl) (pe_lst (pa_cons (pe_lc (own := [("_law_one", 9)]) rfl nd (pi_seqU (pe_var (i := 0) rfl (.inl rfl))) (blkOk_by (own := [("_law_one", 9)]) (N := N__law_net_rides) (sc := (defScope s__law_net_rides)) (by decide +kernel)) (fun _ _ _ _ _ => (pg_name (i := 9) nd rfl (.inl rfl))) (fun _ _ _ _ _ => pts_nil) (fun _ _ _ _ _ => pe_int)) (pa_cons (pe_lc (own := [("_law_one", 9)]) rfl nd (pi_seqU (pe_var (i := 0) rfl (.inl rfl))) (blkOk_by (own := [("_law_one", 9)]) (N := N__law_net_rides) (sc := (defScope s__law_net_rides)) (by decide +kernel)) (fun _ _ _ _ _ => (pg_name (i := 9) nd rfl (.inl rfl))) (fun _ _ _ _ _ => pts_nil) (fun _ _ _ _ _ => pe_int)) pa_nil))))
  (pss_cons (ps_for PassesOwn.never rfl (pi_range1 rfl (fr_range T) (pa_cons (pe_callB call_lenQ rfl (fr_len T) (by decide +kernel) (pa_cons (pe_var (i := 3) rfl (.inl rfl)) pa_nil)) pa_nil)) (pg_name (i := 5) nd rfl (.inl rfl))
  (pss_cons (ps_set (i := 6) nd rfl (.inl rfl) (pe_ix ix_U (pe_ix ix_U (pe_var (i := 3) rfl (.inl rfl)) (pe_var (i := 5) rfl (.inl rfl)) (fun _ _ => rfl)) pe_int (fun _ _ => rfl)))
  (pss_cons (ps_set (i := 7) nd rfl (.inl rfl) (pe_op op_subI pe_int (pe_op op_mulU pe_int (pe_ix ix_U (pe_ix ix_U (pe_var (i := 2) rfl (.inl rfl)) (pe_var (i := 5) rfl (.inl rfl)) (fun _ _ => rfl)) (pe_op op_addU (pe_op op_mulU pe_int (pe_var (i := 1) rfl (.inl rfl))) (pe_var (i := 6) rfl (.inl rfl))) (fun _ _ => rfl)))))
  (pss_cons (ps_set (i := 8) nd rfl (.inl rfl) (pe_ix ix_U (pe_var (i := 4) rfl (.inl rfl)) (pe_ix ix_U (pe_ix ix_U (pe_var (i := 3) rfl (.inl rfl)) (pe_var (i := 5) rfl (.inl rfl)) (fun _ _ => rfl)) pe_int (fun _ _ => rfl)) (fun _ _ => rfl)))
  (pss_one (ps_asg (pe_op op_addU (pe_ix ix_U (pe_var (i := 8) rfl (.inl rfl)) (pe_var (i := 6) rfl (.inl rfl)) (fun _ _ => rfl)) (pe_op op_mulU (pe_var (i := 7) rfl (.inl rfl)) (pe_op op_subI pe_int (pe_op op_mulU pe_int (pe_ix ix_U (pe_ix ix_U (pe_var (i := 3) rfl (.inl rfl)) (pe_var (i := 5) rfl (.inl rfl)) (fun _ _ => rfl)) pe_int (fun _ _ => rfl)))))) (pg_sub (pe_var (i := 8) rfl (.inl rfl)) (pe_var (i := 6) rfl (.inl rfl)) set_list)))))))
  (pss_one (ps_ret (pe_var (i := 4) rfl (.inl rfl))))))
abbrev N__law_reduced : List Str := ["_law_rides", "_law_left", "_law_ride"]
abbrev ps__law_reduced : List Str := ["_law_rides"]
theorem sc__law_reduced : FnScope N__law_reduced ps__law_reduced (defScope s__law_reduced) := ⟨rfl, rfl, rfl, by decide +kernel, rfl, by decide +kernel, by decide +kernel⟩
def t__law_reduced (K : PySem.W.Frag) : TS := (tSeq (tAsg (tLst tNil) (gName 1))
  (tSeq (tFor (iSeqU K (tVar 0)) (gName 2)
  (tIfS (tAnd (tTru K (tVar 1)) (tTest (tOp (rEqU K) (tOp (rIxU K) (tVar 1) (tUn rNegI (tC (.int 1)))) (tVar 2))))
  (tDrop (tBM0 K "list" rPop (tVar 1)))
  (tDrop (tBM K "list" rAppend (tVar 1) (tCons (tVar 2) tNil)))))
  (tRet (tVar 1))))
theorem dv__law_reduced (T : Hd fn fa xs K mg) {cdv : Value} {A : Around} {outer : List PySem.Env} {s : Shared} {H : Hp} {E : XK} (hr : Room 0 (A.deeper (envOfC d__law_reduced.qual d__law_reduced.scope s.heap.objs.size (He.fAd K d__law_reduced.at_) cdv))) :
    PSs (cxOf CX0 P w K mg base N__law_reduced d__law_reduced.qual d__law_reduced.scope (He.fAd K d__law_reduced.at_) cdv A outer s H E).nox d__law_reduced.body (t__law_reduced K) :=
  have nd := sc__law_reduced.nd
  (pss_cons (ps_set (i := 1) nd rfl (.inl rfl) (pe_lst pa_nil))
  (pss_cons (ps_for PassesOwn.never rfl (pi_seqU (pe_var (i := 0) rfl (.inl rfl))) (pg_name (i := 2) nd rfl (.inl rfl))
  (pss_one (ps_if (PW.pt (pw_and (pt_tru (pe_var (i := 1) rfl (.inl rfl))) (pw_and1 (pt_cmpR (op_eqU hr.units) (pe_ix ix_U (pe_var (i := 1) rfl (.inl rfl)) (pe_un un_negI pe_int) (fun _ _ => rfl)) (pe_var (i := 2) rfl (.inl rfl)) (nomark _))))) (pss_one (ps_expr (pe_bm0 PySem.F.plainAttrs_list PySem.F.slot_list_pop PySem.F.type_list_pop mt_pop (pe_var (i := 1) rfl (.inl rfl))))) (pss_one (ps_expr (pe_bm PySem.F.plainAttrs_list PySem.F.slot_list_append PySem.F.type_list_append mt_append (pe_var (i := 1) rfl (.inl rfl)) (pa_cons (pe_var (i := 2) rfl (.inl rfl)) pa_nil)))))))
  (pss_one (ps_ret (pe_var (i := 1) rfl (.inl rfl))))))
end
end Tw

set_option Elab.async false
set_option linter.all false
set_option maxRecDepth 100000
set_option maxHeartbeats 4000000
namespace Tw
open PySem PySem.Spec PyProof.Rows L2
section
variable {P : Program} {w : World} {K : PySem.W.Frag} {mg : Str → Option Value} {base : Heap}
abbrev N__law_bill : List Str := ["_law_net", "_law_told", "_law_sums"]
abbrev ps__law_bill : List Str := ["_law_net", "_law_told", "_law_sums"]
theorem sc__law_bill : FnScope N__law_bill ps__law_bill (defScope s__law_bill) := ⟨rfl, rfl, rfl, by decide +kernel, rfl, by decide +kernel, by decide +kernel⟩
def t__law_bill (K : PySem.W.Frag) (sp_Net___eq__ sp__law_like : Spec) : TS := (tSeq (tIfS (tOr (tNot (tTru K (tCB (rIsi K) (tCons (tVar 1) (tCons (tC (.ref (He.ga K "Bill"))) tNil))))) (tNot (tTest (tOp (rOwn2 (He.ga K "Net") (spOf K sp_Net___eq__)) (tFld K (tVar 1) "net") (tVar 0)))))
  (tRet (tC (.bl false)))
  tNext)
  (tRet (tCall (spOf K sp__law_like) [] E0 (tCons (tLst (tCons (tFld K (tVar 1) "reds") (tCons (tFld K (tVar 1) "blues") tNil))) (tCons (tLst (tCons (tCB (rTupleQ K) (tCons (tOp (rIxU K) (tVar 2) (tC (.int 0))) tNil)) (tCons (tCB (rTupleQ K) (tCons (tOp (rIxU K) (tVar 2) (tC (.int 1))) tNil)) tNil))) tNil)))))
theorem dv__law_bill (T : Hd fn fa xs K mg) {sp_Net___eq__ sp__law_like : Spec} (h_Net___eq__ : FnE P w K mg base 1 (He.fAd K d_Net___eq__.at_) ps_Net___eq__ (spOf K sp_Net___eq__)) (h__law_like : FnE P w K mg base 4 (He.fAd K d__law_like.at_) ps__law_like (spOf K sp__law_like)) {cdv : Value} {A : Around} {outer : List PySem.Env} {s : Shared} {H : Hp} {E : XK} (hr : Room 4 (A.deeper (envOfC d__law_bill.qual d__law_bill.scope s.heap.objs.size (He.fAd K d__law_bill.at_) cdv))) :
    PSs (cxOf CX0 P w K mg base N__law_bill d__law_bill.qual d__law_bill.scope (He.fAd K d__law_bill.at_) cdv A outer s H E).nox d__law_bill.body (t__law_bill K sp_Net___eq__ sp__law_like) :=
  have nd := sc__law_bill.nd
  (pss_cons (ps_if (PW.pt (pw_or (pt_not (pt_tru (pe_callB call_isi rfl (fr_isinstance T) (by decide +kernel) (pa_cons (pe_var (i := 1) rfl (.inl rfl)) (pa_cons (C8.pe_gc rfl ⟨_, g_Bill T, rfl⟩) pa_nil))))) (pw_or1 (pt_not (pt_cmpR (op_ownEq h_Net___eq__ (hr.mono (by decide)) (du_Net___eq__ T)) (pe_fld (pe_var (i := 1) rfl (.inl rfl)) rfl) (pe_var (i := 0) rfl (.inl rfl)) (nomark _)))))) (pss_one (ps_ret pe_bl)) pss_nil)
  (pss_one (ps_ret (pe_callE h__law_like (hr.mono (by decide)) rfl (g__law_like T) (pa_cons (pe_lst (pa_cons (pe_fld (pe_var (i := 1) rfl (.inl rfl)) rfl) (pa_cons (pe_fld (pe_var (i := 1) rfl (.inl rfl)) rfl) pa_nil))) (pa_cons (pe_lst (pa_cons (pe_callTy call_tupleQ rfl (fr_tuple T) (by decide +kernel) (pa_cons (pe_ix ix_U (pe_var (i := 2) rfl (.inl rfl)) pe_int (fun _ _ => rfl)) pa_nil)) (pa_cons (pe_callTy call_tupleQ rfl (fr_tuple T) (by decide +kernel) (pa_cons (pe_ix ix_U (pe_var (i := 2) rfl (.inl rfl)) pe_int (fun _ _ => rfl)) pa_nil)) pa_nil))) pa_nil))))))
abbrev N__law_ends_at : List Str := ["_law_net", "_law_count", "_law_here", "_law_rides", "_law_key", "_law_told"]
abbrev ps__law_ends_at : List Str := ["_law_net", "_law_count", "_law_here", "_law_rides", "_law_key"]
theorem sc__law_ends_at : FnScope N__law_ends_at ps__law_ends_at (defScope s__law_ends_at) := ⟨rfl, rfl, rfl, by decide +kernel, rfl, by decide +kernel, by decide +kernel⟩
def t__law_ends_at (K : PySem.W.Frag) (sp_walk sp__law_flat : Spec) : TS := (tSeq (tAsg (tCall (spOf K sp_walk) [] E0 (tCons (tVar 2) (tCons (tVar 3) tNil))) (gName 5))
  (tSeq (tIfS (tOr (tNot (tTru K (tCB (rIsi K) (tCons (tVar 5) (tCons (tC (.ty "list")) tNil))))) (tTest (tOp (rNeU K) (tCB (rLenQ K) (tCons (tVar 5) tNil)) (tOp (rAddU K) (tCB (rLenQ K) (tCons (tVar 3) tNil)) (tC (.int 1))))))
  (tRet (tC (.bl false)))
  tNext)
  (tRet (tOp (rEqU K) (tCall (spOf K sp__law_flat) [] E0 (tCons (tVar 0) (tCons (tVar 1) (tCons (tOp (rIxU K) (tVar 5) (tUn rNegI (tC (.int 1)))) tNil)))) (tVar 4)))))
theorem dv__law_ends_at (T : Hd fn fa xs K mg) {sp_walk sp__law_flat : Spec} (h_walk : FnE P w K mg base 5 (He.fAd K d_walk.at_) ps_walk (spOf K sp_walk)) (h__law_flat : FnE P w K mg base 2 (He.fAd K d__law_flat.at_) ps__law_flat (spOf K sp__law_flat)) {cdv : Value} {A : Around} {outer : List PySem.Env} {s : Shared} {H : Hp} {E : XK} (hr : Room 5 (A.deeper (envOfC d__law_ends_at.qual d__law_ends_at.scope s.heap.objs.size (He.fAd K d__law_ends_at.at_) cdv))) :
    PSs (cxOf CX0 P w K mg base N__law_ends_at d__law_ends_at.qual d__law_ends_at.scope (He.fAd K d__law_ends_at.at_) cdv A outer s H E).nox d__law_ends_at.body (t__law_ends_at K sp_walk sp__law_flat) :=
  have nd := sc__law_ends_at.nd
  (pss_cons (ps_set (i := 5) nd rfl (.inl rfl) (pe_callE h_walk (hr.mono (by decide)) rfl (g_walk T) (pa_cons (pe_var (i := 2) rfl (.inl rfl)) (pa_cons (pe_var (i := 3) rfl (.inl rfl)) pa_nil))))
  (pss_cons (ps_if (PW.pt (pw_or (pt_not (pt_tru (pe_callB call_isi rfl (fr_isinstance T) (by decide +kernel) (pa_cons (pe_var (i := 5) rfl (.inl rfl)) (pa_cons (pe_bltn rfl (fr_list T) (by decide +kernel) rfl) pa_nil))))) (pw_or1 (pt_cmpR (op_neU hr.units) (pe_callB call_lenQ rfl (fr_len T) (by decide +kernel) (pa_cons (pe_var (i := 5) rfl (.inl rfl)) pa_nil)) (pe_op op_addU (pe_callB call_lenQ rfl (fr_len T) (by decide +kernel) (pa_cons (pe_var (i := 3) rfl (.inl rfl)) pa_nil)) pe_int) (nomark _))))) (pss_one (ps_ret pe_bl)) pss_nil)
  (pss_one (ps_ret (pe_cmpR (op_eqU hr.units) (pe_callE h__law_flat (hr.mono (by decide)) rfl (g__law_flat T) (pa_cons (pe_var (i := 0) rfl (.inl rfl)) (pa_cons (pe_var (i := 1) rfl (.inl rfl)) (pa_cons (pe_ix ix_U (pe_var (i := 5) rfl (.inl rfl)) (pe_un un_negI pe_int) (fun _ _ => rfl)) pa_nil)))) (pe_var (i := 4) rfl (.inl rfl)) (nomark _))))))
abbrev N__law_trip : List Str := ["_law_net", "_law_count", "_law_keys", "_law_rides", "_law_sums", "_law_here", "_law_there", "_law_words_here", "_law_short", "_law_trip_here", "_law_less", "_law_given", "_law_other", "_law_back", "_law_minus", "_law_empty", "_law_x"]
abbrev ps__law_trip : List Str := ["_law_net", "_law_count", "_law_keys", "_law_rides", "_law_sums"]
theorem sc__law_trip : FnScope N__law_trip ps__law_trip (defScope s__law_trip) := ⟨rfl, rfl, rfl, by decide +kernel, rfl, by decide +kernel, by decide +kernel⟩
def t__law_trip (K : PySem.W.Frag) (sp__law_stand sp__law_words sp__law_reduced sp_Trip___init__ sp_Trip_reduced sp__law_like sp__law_bill sp_bill_of sp__law_ends_at sp_Trip___invert__ sp_Bill___neg__ sp_Trip___add__ sp_Trip___bool__ sp_Trip___len__ : Spec) : TS := (tSeq (tAsg (tCall (spOf K sp__law_stand) [] E0 (tCons (tVar 0) (tCons (tVar 1) (tCons (tOp (rIxU K) (tVar 2) (tC (.int 0))) tNil)))) (gName 5))
  (tSeq (tAsg (tCall (spOf K sp__law_stand) [] E0 (tCons (tVar 0) (tCons (tVar 1) (tCons (tOp (rIxU K) (tVar 2) (tUn rNegI (tC (.int 1)))) tNil)))) (gName 6))
  (tSeq (tAsg (tCall (spOf K sp__law_words) [] E0 (tCons (tVar 3) tNil)) (gName 7))
  (tSeq (tAsg (tCall (spOf K sp__law_words) [] E0 (tCons (tCall (spOf K sp__law_reduced) [] E0 (tCons (tVar 3) tNil)) tNil)) (gName 8))
  (tSeq (tAsg (tMake (He.ga K "Trip") (spOf K sp_Trip___init__) [] E0 (tCons (tCB (rListQ K) (tCons (tVar 7) tNil)) tNil)) (gName 9))
  (tSeq (tAsg (tMeth (He.ga K "Trip") "reduced" (spOf K sp_Trip_reduced) [] E0 (tVar 9) tNil) (gName 10))
  (tSeq (tIfS (tOr (tNot (tTru K (tCall (spOf K sp__law_like) [] E0 (tCons (tFld K (tVar 10) "rides") (tCons (tCB (rTupleQ K) (tCons (tVar 8) tNil)) tNil))))) (tNot (tTru K (tCall (spOf K sp__law_like) [] E0 (tCons (tFld K (tVar 9) "rides") (tCons (tCB (rTupleQ K) (tCons (tVar 7) tNil)) tNil))))))
  (tRet (tC (.bl false)))
  tNext)
  (tSeq (tAsg (tCB (rListQ K) (tCons (tVar 7) tNil)) (gName 11))
  (tSeq (tIfS (tOr (tNot (tTru K (tCall (spOf K sp__law_bill) [] E0 (tCons (tVar 0) (tCons (tCall (spOf K sp_bill_of) [] E0 (tCons (tVar 5) (tCons (tVar 11) tNil))) (tCons (tVar 4) tNil)))))) (tTest (tOp (rNeU K) (tVar 11) (tVar 7))))
  (tRet (tC (.bl false)))
  tNext)
  (tSeq (tIfS (tNot (tTru K (tCall (spOf K sp__law_bill) [] E0 (tCons (tVar 0) (tCons (tCall (spOf K sp_bill_of) [] E0 (tCons (tVar 5) (tCons (tCB (rListQ K) (tCons (tFld K (tVar 10) "rides") tNil)) tNil))) (tCons (tVar 4) tNil))))))
  (tRet (tC (.bl false)))
  tNext)
  (tSeq (tIfS (tNot (tTru K (tCall (spOf K sp__law_ends_at) [] E0 (tCons (tVar 0) (tCons (tVar 1) (tCons (tVar 5) (tCons (tVar 7) (tCons (tOp (rIxU K) (tVar 2) (tUn rNegI (tC (.int 1)))) tNil))))))))
  (tRet (tC (.bl false)))
  tNext)
  (tSeq (tIfS (tNot (tTru K (tCall (spOf K sp__law_ends_at) [] E0 (tCons (tVar 0) (tCons (tVar 1) (tCons (tVar 5) (tCons (tCB (rListQ K) (tCons (tFld K (tVar 10) "rides") tNil)) (tCons (tOp (rIxU K) (tVar 2) (tUn rNegI (tC (.int 1)))) tNil))))))))
  (tRet (tC (.bl false)))
  tNext)
  (tSeq (tAsg (tLst (tCons (tLc (iSeqU K (tOp (rIxU K) (tVar 4) (tC (.int 0)))) (gName 16) tYes (tOp rSubI (tC (.int 0)) (tVar 16)) [16]) (tCons (tLc (iSeqU K (tOp (rIxU K) (tVar 4) (tC (.int 1)))) (gName 16) tYes (tOp rSubI (tC (.int 0)) (tVar 16)) [16]) tNil))) (gName 12))
  (tSeq (tAsg (tUn (rOwn1 (He.ga K "Trip") (spOf K sp_Trip___invert__)) (tVar 9)) (gName 13))
  (tSeq (tIfS (tNot (tTru K (tCall (spOf K sp__law_like) [] E0 (tCons (tFld K (tVar 13) "rides") (tCons (tCB (rTupleQ K) (tCons (tRevU K (tVar 7)) tNil)) tNil)))))
  (tRet (tC (.bl false)))
  tNext)
  (tSeq (tIfS (tNot (tTru K (tCall (spOf K sp__law_bill) [] E0 (tCons (tVar 0) (tCons (tCall (spOf K sp_bill_of) [] E0 (tCons (tVar 6) (tCons (tCB (rListQ K) (tCons (tFld K (tVar 13) "rides") tNil)) tNil))) (tCons (tVar 12) tNil))))))
  (tRet (tC (.bl false)))
  tNext)
  (tSeq (tAsg (tUn (rOwn1 (He.ga K "Bill") (spOf K sp_Bill___neg__)) (tCall (spOf K sp_bill_of) [] E0 (tCons (tVar 5) (tCons (tVar 7) tNil)))) (gName 14))
  (tSeq (tIfS (tNot (tTru K (tCall (spOf K sp__law_bill) [] E0 (tCons (tVar 0) (tCons (tVar 14) (tCons (tVar 12) tNil))))))
  (tRet (tC (.bl false)))
  tNext)
  (tSeq (tAsg (tMeth (He.ga K "Trip") "reduced" (spOf K sp_Trip_reduced) [] E0 (tOp (rOwn2 (He.ga K "Trip") (spOf K sp_Trip___add__)) (tVar 9) (tVar 13)) tNil) (gName 15))
  (tSeq (tIfS (tOr (tTruO (rOwnTru (He.ga K "Trip") (spOf K sp_Trip___bool__)) (tVar 15)) (tNot (tTru K (tCall (spOf K sp__law_like) [] E0 (tCons (tCB (rOwnLen (He.ga K "Trip") (spOf K sp_Trip___len__)) (tCons (tVar 15) tNil)) (tCons (tC (.int 0)) tNil))))))
  (tRet (tC (.bl false)))
  tNext)
  (tRet (tCall (spOf K sp__law_like) [] E0 (tCons (tCB (rOwnLen (He.ga K "Trip") (spOf K sp_Trip___len__)) (tCons (tVar 9) tNil)) (tCons (tCB (rLenQ K) (tCons (tVar 3) tNil)) tNil))))))))))))))))))))))))
theorem dv__law_trip (T : Hd fn fa xs K mg) {sp__law_stand sp__law_words sp__law_reduced sp_Trip___init__ sp_Trip_reduced sp__law_like sp__law_bill sp_bill_of sp__law_ends_at sp_Trip___invert__ sp_Bill___neg__ sp_Trip___add__ sp_Trip___bool__ sp_Trip___len__ : Spec} (h__law_stand : FnE P w K mg base 4 (He.fAd K d__law_stand.at_) ps__law_stand (spOf K sp__law_stand)) (h__law_words : FnE P w K mg base 1 (He.fAd K d__law_words.at_) ps__law_words (spOf K sp__law_words)) (h__law_reduced : FnE P w K mg base 1 (He.fAd K d__law_reduced.at_) ps__law_reduced (spOf K sp__law_reduced)) (h_Trip___init__ : FnE P w K mg base 1 (He.fAd K d_Trip___init__.at_) ps_Trip___init__ (spOf K sp_Trip___init__)) (h_Trip_reduced : FnE P w K mg base 3 (He.fAd K d_Trip_reduced.at_) ps_Trip_reduced (spOf K sp_Trip_reduced)) (h__law_like : FnE P w K mg base 4 (He.fAd K d__law_like.at_) ps__law_like (spOf K sp__law_like)) (h__law_bill : FnE P w K mg base 5 (He.fAd K d__law_bill.at_) ps__law_bill (spOf K sp__law_bill)) (h_bill_of : FnE P w K mg base 6 (He.fAd K d_bill_of.at_) ps_bill_of (spOf K sp_bill_of)) (h__law_ends_at : FnE P w K mg base 6 (He.fAd K d__law_ends_at.at_) ps__law_ends_at (spOf K sp__law_ends_at)) (h_Trip___invert__ : FnE P w K mg base 3 (He.fAd K d_Trip___invert__.at_) ps_Trip___invert__ (spOf K sp_Trip___invert__)) (h_Bill___neg__ : FnE P w K mg base 3 (He.fAd K d_Bill___neg__.at_) ps_Bill___neg__ (spOf K sp_Bill___neg__)) (h_Trip___add__ : FnE P w K mg base 3 (He.fAd K d_Trip___add__.at_) ps_Trip___add__ (spOf K sp_Trip___add__)) (h_Trip___bool__ : FnE P w K mg base 1 (He.fAd K d_Trip___bool__.at_) ps_Trip___bool__ (spOf K sp_Trip___bool__)) (h_Trip___len__ : FnE P w K mg base 1 (He.fAd K d_Trip___len__.at_) ps_Trip___len__ (spOf K sp_Trip___len__)) {cdv : Value} {A : Around} {outer : List PySem.Env} {s : Shared} {H : Hp} {E : XK} (hr : Room 6 (A.deeper (envOfC d__law_trip.qual d__law_trip.scope s.heap.objs.size (He.fAd K d__law_trip.at_) cdv))) :
    PSs (cxOf CX0 P w K mg base N__law_trip d__law_trip.qual d__law_trip.scope (He.fAd K d__law_trip.at_) cdv A outer s H E).nox d__law_trip.body (t__law_trip K sp__law_stand sp__law_words sp__law_reduced sp_Trip___init__ sp_Trip_reduced sp__law_like sp__law_bill sp_bill_of sp__law_ends_at sp_Trip___invert__ sp_Bill___neg__ sp_Trip___add__ sp_Trip___bool__ sp_Trip___len__) :=
  have nd := sc__law_trip.nd
  (pss_cons (ps_set (i := 5) nd rfl (.inl rfl) (pe_callE h__law_stand (hr.mono (by decide)) rfl (g__law_stand T) (pa_cons (pe_var (i := 0) rfl (.inl rfl)) (pa_cons (pe_var (i := 1) rfl (.inl rfl)) (pa_cons (pe_ix ix_U (pe_var (i := 2) rfl (.inl rfl)) pe_int (fun _ _ => rfl)) pa_nil)))))
  (pss_cons (ps_set (i := 6) nd rfl (.inl rfl) (pe_callE h__law_stand (hr.mono (by decide)) rfl (g__law_stand T) (pa_cons (pe_var (i := 0) rfl (.inl rfl)) (pa_cons (pe_var (i := 1) rfl (.inl rfl)) (pa_cons (pe_ix ix_U (pe_var (i := 2) rfl (.inl rfl)) (pe_un un_negI pe_int) (fun _ _ => rfl)) pa_nil)))))
  (pss_cons (ps_set (i := 7) nd rfl (.inl rfl) (pe_callE h__law_words (hr.mono (by decide)) rfl (g__law_words T) (pa_cons (pe_var (i := 3) rfl (.inl rfl)) pa_nil)))
  (pss_cons (ps_set (i := 8) nd rfl (.inl rfl) (pe_callE h__law_words (hr.mono (by decide)) rfl (g__law_words T) (pa_cons (pe_callE h__law_reduced (hr.mono (by decide)) rfl (g__law_reduced T) (pa_cons (pe_var (i := 3) rfl (.inl rfl)) pa_nil)) pa_nil)))
  (pss_cons (ps_set (i := 9) nd rfl (.inl rfl) (pe_makeE (mk_Trip T) h_Trip___init__ (hr.mono (by decide)) rfl (g_Trip T) (pa_cons (pe_callTy call_listQ rfl (fr_list T) (by decide +kernel) (pa_cons (pe_var (i := 7) rfl (.inl rfl)) pa_nil)) pa_nil)))
  (pss_cons (ps_set (i := 10) nd rfl (.inl rfl) (pe_meth0E (pe_var (i := 9) rfl (.inl rfl)) (cl_Trip T) (me_Trip_reduced T) h_Trip_reduced (hr.mono (by decide))))
  (pss_cons (ps_if (PW.pt (pw_or (pt_not (pt_tru (pe_callE h__law_like (hr.mono (by decide)) rfl (g__law_like T) (pa_cons (pe_fld (pe_var (i := 10) rfl (.inl rfl)) rfl) (pa_cons (pe_callTy call_tupleQ rfl (fr_tuple T) (by decide +kernel) (pa_cons (pe_var (i := 8) rfl (.inl rfl)) pa_nil)) pa_nil))))) (pw_or1 (pt_not (pt_tru (pe_callE h__law_like (hr.mono (by decide)) rfl (g__law_like T) (pa_cons (pe_fld (pe_var (i := 9) rfl (.inl rfl)) rfl) (pa_cons (pe_callTy call_tupleQ rfl (fr_tuple T) (by decide +kernel) (pa_cons (pe_var (i := 7) rfl (.inl rfl)) pa_nil)) pa_nil)))))))) (pss_one (ps_ret pe_bl)) pss_nil)
  (pss_cons (ps_set (i := 11) nd rfl (.inl rfl) (pe_callTy call_listQ rfl (fr_list T) (by decide +kernel) (pa_cons (pe_var (i := 7) rfl (.inl rfl)) pa_nil)))
  (pss_cons (ps_if (PW.pt (pw_or (pt_not (pt_tru (pe_callE h__law_bill (hr.mono (by decide)) rfl (g__law_bill T) (pa_cons (pe_var (i := 0) rfl (.inl rfl)) (pa_cons (pe_callE h_bill_of (hr.mono (by decide)) rfl (g_bill_of T) (pa_cons (pe_var (i := 5) rfl (.inl rfl)) (pa_cons (pe_var (i := 11) rfl (.inl rfl)) pa_nil))) (pa_cons (pe_var (i := 4) rfl (.inl rfl)) pa_nil)))))) (pw_or1 (pt_cmpR (op_neU hr.units) (pe_var (i := 11) rfl (.inl rfl)) (pe_var (i := 7) rfl (.inl rfl)) (nomark _))))) (pss_one (ps_ret pe_bl)) pss_nil)
  (pss_cons (ps_if (pt_not (pt_tru (pe_callE h__law_bill (hr.mono (by decide)) rfl (g__law_bill T) (pa_cons (pe_var (i := 0) rfl (.inl rfl)) (pa_cons (pe_callE h_bill_of (hr.mono (by decide)) rfl (g_bill_of T) (pa_cons (pe_var (i := 5) rfl (.inl rfl)) (pa_cons (pe_callTy call_listQ rfl (fr_list T) (by decide +kernel) (pa_cons (pe_fld (pe_var (i := 10) rfl (.inl rfl)) rfl) pa_nil)) pa_nil))) (pa_cons (pe_var (i := 4) rfl (.inl rfl)) pa_nil)))))) (pss_one (ps_ret pe_bl)) pss_nil)
  (pss_cons (ps_if (pt_not (pt_tru (pe_callE h__law_ends_at (hr.mono (by decide)) rfl (g__law_ends_at T) (pa_cons (pe_var (i := 0) rfl (.inl rfl)) (pa_cons (pe_var (i := 1) rfl (.inl rfl)) (pa_cons (pe_var (i := 5) rfl (.inl rfl)) (pa_cons (pe_var (i := 7) rfl (.inl rfl)) (pa_cons (pe_ix ix_U (pe_var (i := 2) rfl (.inl rfl)) (pe_un un_negI pe_int) (fun _ _ => rfl)) pa_nil)))))))) (pss_one (ps_ret pe_bl)) pss_nil)
  (pss_cons (ps_if (pt_not (pt_tru (pe_callE h__law_ends_at (hr.mono (by decide)) rfl (g__law_ends_at T) (pa_cons (pe_var (i := 0) rfl (.inl rfl)) (pa_cons (pe_var (i := 1) rfl (.inl rfl)) (pa_cons (pe_var (i := 5) rfl (.inl rfl)) (pa_cons (pe_callTy call_listQ rfl (fr_list T) (by decide +kernel) (pa_cons (pe_fld (pe_var (i := 10) rfl (.inl rfl)) rfl) pa_nil)) (pa_cons (pe_ix ix_U (pe_var (i := 2) rfl (.inl rfl)) (pe_un un_negI pe_int) (fun _ _ => rfl)) pa_nil)))))))) (pss_one (ps_ret pe_bl)) pss_nil)
  (pss_cons (ps_set (i := 12) nd rfl (.inl rfl) (pe_lst (pa_cons (pe_lc (own := [("_law_x", 16)]) rfl nd (pi_seqU (pe_ix ix_U (pe_var (i := 4) rfl (.inl rfl)) pe_int (fun _ _ => rfl))) (blkOk_by (own := [("_law_x", 16)]) (N := N__law_trip) (sc := (defScope s__law_trip)) (by decide +kernel)) (fun _ _ _ _ _ => (pg_name (i := 16) nd rfl (.inl rfl))) (fun _ _ _ _ _ => pts_nil) (fun _ _ _ _ _ => (pe_op op_subI pe_int (pe_var (i := 16) rfl (.inl rfl))))) (pa_cons (pe_lc (own := [("_law_x", 16)]) rfl nd (pi_seqU (pe_ix ix_U (pe_var (i := 4) rfl (.inl rfl)) pe_int (fun _ _ => rfl))) (blkOk_by (own := [("_law_x", 16)]) (N := N__law_trip) (sc := (defScope s__law_trip)) (by decide +kernel)) (fun _ _ _ _ _ => (pg_name (i := 16) nd rfl (.inl rfl))) (fun _ _ _ _ _ => pts_nil) (fun _ _ _ _ _ => (pe_op op_subI pe_int (pe_var (i := 16) rfl (.inl rfl))))) pa_nil))))
  (pss_cons (ps_set (i := 13) nd rfl (.inl rfl) (pe_un (un_ownInv h_Trip___invert__ (hr.mono (by decide)) (du_Trip___invert__ T)) (pe_var (i := 9) rfl (.inl rfl))))
  (pss_cons (ps_if (pt_not (pt_tru (pe_callE h__law_like (hr.mono (by decide)) rfl (g__law_like T) (pa_cons (pe_fld (pe_var (i := 13) rfl (.inl rfl)) rfl) (pa_cons (pe_callTy call_tupleQ rfl (fr_tuple T) (by decide +kernel) (pa_cons (pe_revU (pe_var (i := 7) rfl (.inl rfl))) pa_nil)) pa_nil))))) (pss_one (ps_ret pe_bl)) pss_nil)
  (pss_cons (ps_if (pt_not (pt_tru (pe_callE h__law_bill (hr.mono (by decide)) rfl (g__law_bill T) (pa_cons (pe_var (i := 0) rfl (.inl rfl)) (pa_cons (pe_callE h_bill_of (hr.mono (by decide)) rfl (g_bill_of T) (pa_cons (pe_var (i := 6) rfl (.inl rfl)) (pa_cons (pe_callTy call_listQ rfl (fr_list T) (by decide +kernel) (pa_cons (pe_fld (pe_var (i := 13) rfl (.inl rfl)) rfl) pa_nil)) pa_nil))) (pa_cons (pe_var (i := 12) rfl (.inl rfl)) pa_nil)))))) (pss_one (ps_ret pe_bl)) pss_nil)
  (pss_cons (ps_set (i := 14) nd rfl (.inl rfl) (pe_un (un_ownNeg h_Bill___neg__ (hr.mono (by decide)) (du_Bill___neg__ T)) (pe_callE h_bill_of (hr.mono (by decide)) rfl (g_bill_of T) (pa_cons (pe_var (i := 5) rfl (.inl rfl)) (pa_cons (pe_var (i := 7) rfl (.inl rfl)) pa_nil)))))
  (pss_cons (ps_if (pt_not (pt_tru (pe_callE h__law_bill (hr.mono (by decide)) rfl (g__law_bill T) (pa_cons (pe_var (i := 0) rfl (.inl rfl)) (pa_cons (pe_var (i := 14) rfl (.inl rfl)) (pa_cons (pe_var (i := 12) rfl (.inl rfl)) pa_nil)))))) (pss_one (ps_ret pe_bl)) pss_nil)
  (pss_cons (ps_set (i := 15) nd rfl (.inl rfl) (pe_meth0E (pe_op (op_own h_Trip___add__ (hr.mono (by decide)) (du_Trip___add__ T) (sf_Trip T)) (pe_var (i := 9) rfl (.inl rfl)) (pe_var (i := 13) rfl (.inl rfl))) (cl_Trip T) (me_Trip_reduced T) h_Trip_reduced (hr.mono (by decide))))
  (pss_cons (ps_if (PW.pt (pw_or (pt_truO (tru_own h_Trip___bool__ (hr.mono (by decide)) (du_Trip___bool__ T)) (pe_var (i := 15) rfl (.inl rfl))) (pw_or1 (pt_not (pt_tru (pe_callE h__law_like (hr.mono (by decide)) rfl (g__law_like T) (pa_cons (pe_callB (call_ownLen h_Trip___len__ (hr.mono (by decide)) (du_Trip___len__ T)) rfl (fr_len T) (by decide +kernel) (pa_cons (pe_var (i := 15) rfl (.inl rfl)) pa_nil)) (pa_cons pe_int pa_nil)))))))) (pss_one (ps_ret pe_bl)) pss_nil)
  (pss_one (ps_ret (pe_callE h__law_like (hr.mono (by decide)) rfl (g__law_like T) (pa_cons (pe_callB (call_ownLen h_Trip___len__ (hr.mono (by decide)) (du_Trip___len__ T)) rfl (fr_len T) (by decide +kernel) (pa_cons (pe_var (i := 9) rfl (.inl rfl)) pa_nil)) (pa_cons (pe_callB call_lenQ rfl (fr_len T) (by decide +kernel) (pa_cons (pe_var (i := 3) rfl (.inl rfl)) pa_nil)) pa_nil)))))))))))))))))))))))))
abbrev N__law_parts : List Str := ["_law_net", "_law_count", "_law_ends", "_law_keys", "_law_rides", "_law_at", "_law_sums", "_law_here", "_law_halt", "_law_words_here", "_law_first", "_law_second", "_law_whole", "_law_one", "_law_two", "_law_zero", "_law_pair"]
abbrev ps__law_parts : List Str := ["_law_net", "_law_count", "_law_ends", "_law_keys", "_law_rides", "_law_at", "_law_sums"]
theorem sc__law_parts : FnScope N__law_parts ps__law_parts (defScope s__law_parts) := ⟨rfl, rfl, rfl, by decide +kernel, rfl, by decide +kernel, by decide +kernel⟩
def t__law_parts (K : PySem.W.Frag) (sp__law_stand sp__law_words sp_Trip___init__ sp_Trip___add__ sp__law_like sp_bill_of sp__law_bill sp_Bill___add__ sp_Bill___sub__ sp__law_net_rides : Spec) : TS := (tSeq (tAsg (tCall (spOf K sp__law_stand) [] E0 (tCons (tVar 0) (tCons (tVar 1) (tCons (tOp (rIxU K) (tVar 3) (tC (.int 0))) tNil)))) (gName 7))
  (tSeq (tAsg (tCall (spOf K sp__law_stand) [] E0 (tCons (tVar 0) (tCons (tVar 1) (tCons (tOp (rIxU K) (tVar 3) (tVar 5)) tNil)))) (gName 8))
  (tSeq (tAsg (tCall (spOf K sp__law_words) [] E0 (tCons (tVar 4) tNil)) (gName 9))
  (tSeq (tAsg (tMake (He.ga K "Trip") (spOf K sp_Trip___init__) [] E0 (tCons (tSl (rSlU K) (tVar 9) tNoPart (tPart (tVar 5))) tNil)) (gName 10))
  (tSeq (tAsg (tMake (He.ga K "Trip") (spOf K sp_Trip___init__) [] E0 (tCons (tSl (rSlU K) (tVar 9) (tPart (tVar 5)) tNoPart) tNil)) (gName 11))
  (tSeq (tAsg (tOp (rOwn2 (He.ga K "Trip") (spOf K sp_Trip___add__)) (tVar 10) (tVar 11)) (gName 12))
  (tSeq (tIfS (tNot (tTru K (tCall (spOf K sp__law_like) [] E0 (tCons (tFld K (tVar 12) "rides") (tCons (tCB (rTupleQ K) (tCons (tVar 9) tNil)) tNil)))))
  (tRet (tC (.bl false)))
  tNext)
  (tSeq (tAsg (tCall (spOf K sp_bill_of) [] E0 (tCons (tVar 7) (tCons (tCB (rListQ K) (tCons (tFld K (tVar 10) "rides") tNil)) tNil))) (gName 13))
  (tSeq (tAsg (tCall (spOf K sp_bill_of) [] E0 (tCons (tVar 8) (tCons (tCB (rListQ K) (tCons (tFld K (tVar 11) "rides") tNil)) tNil))) (gName 14))
  (tSeq (tIfS (tNot (tTru K (tCall (spOf K sp__law_bill) [] E0 (tCons (tVar 0) (tCons (tOp (rOwn2 (He.ga K "Bill") (spOf K sp_Bill___add__)) (tVar 13) (tVar 14)) (tCons (tVar 6) tNil))))))
  (tRet (tC (.bl false)))
  tNext)
  (tSeq (tAsg (tLst (tCons (tLc (iSeqU K (tVar 2)) (gName 16) tYes (tC (.int 0)) [16]) (tCons (tLc (iSeqU K (tVar 2)) (gName 16) tYes (tC (.int 0)) [16]) tNil))) (gName 15))
  (tSeq (tIfS (tNot (tTru K (tCall (spOf K sp__law_bill) [] E0 (tCons (tVar 0) (tCons (tOp (rOwn2 (He.ga K "Bill") (spOf K sp_Bill___sub__)) (tOp (rOwn2 (He.ga K "Bill") (spOf K sp_Bill___add__)) (tVar 13) (tVar 14)) (tCall (spOf K sp_bill_of) [] E0 (tCons (tVar 7) (tCons (tVar 9) tNil)))) (tCons (tVar 15) tNil))))))
  (tRet (tC (.bl false)))
  tNext)
  (tRet (tCall (spOf K sp__law_bill) [] E0 (tCons (tVar 0) (tCons (tVar 13) (tCons (tCall (spOf K sp__law_net_rides) [] E0 (tCons (tVar 2) (tCons (tVar 1) (tCons (tVar 3) (tCons (tSl (rSlU K) (tVar 4) tNoPart (tPart (tVar 5))) tNil))))) tNil)))))))))))))))))
theorem dv__law_parts (T : Hd fn fa xs K mg) {sp__law_stand sp__law_words sp_Trip___init__ sp_Trip___add__ sp__law_like sp_bill_of sp__law_bill sp_Bill___add__ sp_Bill___sub__ sp__law_net_rides : Spec} (h__law_stand : FnE P w K mg base 4 (He.fAd K d__law_stand.at_) ps__law_stand (spOf K sp__law_stand)) (h__law_words : FnE P w K mg base 1 (He.fAd K d__law_words.at_) ps__law_words (spOf K sp__law_words)) (h_Trip___init__ : FnE P w K mg base 1 (He.fAd K d_Trip___init__.at_) ps_Trip___init__ (spOf K sp_Trip___init__)) (h_Trip___add__ : FnE P w K mg base 3 (He.fAd K d_Trip___add__.at_) ps_Trip___add__ (spOf K sp_Trip___add__)) (h__law_like : FnE P w K mg base 4 (He.fAd K d__law_like.at_) ps__law_like (spOf K sp__law_like)) (h_bill_of : FnE P w K mg base 6 (He.fAd K d_bill_of.at_) ps_bill_of (spOf K sp_bill_of)) (h__law_bill : FnE P w K mg base 5 (He.fAd K d__law_bill.at_) ps__law_bill (spOf K sp__law_bill)) (h_Bill___add__ : FnE P w K mg base 3 (He.fAd K d_Bill___add__.at_) ps_Bill___add__ (spOf K sp_Bill___add__)) (h_Bill___sub__ : FnE P w K mg base 3 (He.fAd K d_Bill___sub__.at_) ps_Bill___sub__ (spOf K sp_Bill___sub__)) (h__law_net_rides : FnE P w K mg base 1 (He.fAd K d__law_net_rides.at_) ps__law_net_rides (spOf K sp__law_net_rides)) {cdv : Value} {A : Around} {outer : List PySem.Env} {s : Shared} {H : Hp} {E : XK} (hr : Room 6 (A.deeper (envOfC d__law_parts.qual d__law_parts.scope s.heap.objs.size (He.fAd K d__law_parts.at_) cdv))) :
    PSs (cxOf CX0 P w K mg base N__law_parts d__law_parts.qual d__law_parts.scope (He.fAd K d__law_parts.at_) cdv A outer s H E).nox d__law_parts.body (t__law_parts K sp__law_stand sp__law_words sp_Trip___init__ sp_Trip___add__ sp__law_like sp_bill_of sp__law_bill sp_Bill___add__ sp_Bill___sub__ sp__law_net_rides) :=
  have nd := sc__law_parts.nd
  (pss_cons (ps_set (i := 7) nd rfl (.inl rfl) (pe_callE h__law_stand (hr.mono (by decide)) rfl (g__law_stand T) (pa_cons (pe_var (i := 0) rfl (.inl rfl)) (pa_cons (pe_var (i := 1) rfl (.inl rfl)) (pa_cons (pe_ix ix_U (pe_var (i := 3) rfl (.inl rfl)) pe_int (fun _ _ => rfl)) pa_nil)))))
  (pss_cons (ps_set (i := 8) nd rfl (.inl rfl) (pe_callE h__law_stand (hr.mono (by decide)) rfl (g__law_stand T) (pa_cons (pe_var (i := 0) rfl (.inl rfl)) (pa_cons (pe_var (i := 1) rfl (.inl rfl)) (pa_cons (pe_ix ix_U (pe_var (i := 3) rfl (.inl rfl)) (pe_var (i := 5) rfl (.inl rfl)) (fun _ _ => rfl)) pa_nil)))))
  (pss_cons (ps_set (i := 9) nd rfl (.inl rfl) (pe_callE h__law_words (hr.mono (by decide)) rfl (g__law_words T) (pa_cons (pe_var (i := 4) rfl (.inl rfl)) pa_nil)))
  (pss_cons (ps_set (i := 10) nd rfl (.inl rfl) (pe_makeE (mk_Trip T) h_Trip___init__ (hr.mono (by decide)) rfl (g_Trip T) (pa_cons (pe_slice sl_U (pe_var (i := 9) rfl (.inl rfl)) po_none (po_some (pe_var (i := 5) rfl (.inl rfl)))) pa_nil)))
  (pss_cons (ps_set (i := 11) nd rfl (.inl rfl) (pe_makeE (mk_Trip T) h_Trip___init__ (hr.mono (by decide)) rfl (g_Trip T) (pa_cons (pe_slice sl_U (pe_var (i := 9) rfl (.inl rfl)) (po_some (pe_var (i := 5) rfl (.inl rfl))) po_none) pa_nil)))
  (pss_cons (ps_set (i := 12) nd rfl (.inl rfl) (pe_op (op_own h_Trip___add__ (hr.mono (by decide)) (du_Trip___add__ T) (sf_Trip T)) (pe_var (i := 10) rfl (.inl rfl)) (pe_var (i := 11) rfl (.inl rfl))))
  (pss_cons (ps_if (pt_not (pt_tru (pe_callE h__law_like (hr.mono (by decide)) rfl (g__law_like T) (pa_cons (pe_fld (pe_var (i := 12) rfl (.inl rfl)) rfl) (pa_cons (pe_callTy call_tupleQ rfl (fr_tuple T) (by decide +kernel) (pa_cons (pe_var (i := 9) rfl (.inl rfl)) pa_nil)) pa_nil))))) (pss_one (ps_ret pe_bl)) pss_nil)
  (pss_cons (ps_set (i := 13) nd rfl (.inl rfl) (pe_callE h_bill_of (hr.mono (by decide)) rfl (g_bill_of T) (pa_cons (pe_var (i := 7) rfl (.inl rfl)) (pa_cons (pe_callTy call_listQ rfl (fr_list T) (by decide +kernel) (pa_cons (pe_fld (pe_var (i := 10) rfl (.inl rfl)) rfl) pa_nil)) pa_nil))))
  (pss_cons (ps_set (i := 14) nd rfl (.inl rfl) (pe_callE h_bill_of (hr.mono (by decide)) rfl (g_bill_of T) (pa_cons (pe_var (i := 8) rfl (.inl rfl)) (pa_cons (pe_callTy call_listQ rfl (fr_list T) (by decide +kernel) (pa_cons (pe_fld (pe_var (i := 11) rfl (.inl rfl)) rfl) pa_nil)) pa_nil))))
  (pss_cons (ps_if (pt_not (pt_tru (pe_callE h__law_bill (hr.mono (by decide)) rfl (g__law_bill T) (pa_cons (pe_var (i := 0) rfl (.inl rfl)) (pa_cons (pe_op (op_own h_Bill___add__ (hr.mono (by decide)) (du_Bill___add__ T) (sf_Bill T)) (pe_var (i := 13) rfl (.inl rfl)) (pe_var (i := 14) rfl (.inl rfl))) (pa_cons (pe_var (i := 6) rfl (.inl rfl)) pa_nil)))))) (pss_one (ps_ret pe_bl)) pss_nil)
  (pss_cons (ps_set (i := 15) nd rfl (.inl rfl) (pe_lst (pa_cons (pe_lc (own := [("_law_pair", 16)]) rfl nd (pi_seqU (pe_var (i := 2) rfl (.inl rfl))) (blkOk_by (own := [("_law_pair", 16)]) (N := N__law_parts) (sc := (defScope s__law_parts)) (by decide +kernel)) (fun _ _ _ _ _ => (pg_name (i := 16) nd rfl (.inl rfl))) (fun _ _ _ _ _ => pts_nil) (fun _ _ _ _ _ => pe_int)) (pa_cons (pe_lc (own := [("_law_pair", 16)]) rfl nd (pi_seqU (pe_var (i := 2) rfl (.inl rfl))) (blkOk_by (own := [("_law_pair", 16)]) (N := N__law_parts) (sc := (defScope s__law_parts)) (by decide +kernel)) (fun _ _ _ _ _ => (pg_name (i := 16) nd rfl (.inl rfl))) (fun _ _ _ _ _ => pts_nil) (fun _ _ _ _ _ => pe_int)) pa_nil))))
  (pss_cons (ps_if (pt_not (pt_tru (pe_callE h__law_bill (hr.mono (by decide)) rfl (g__law_bill T) (pa_cons (pe_var (i := 0) rfl (.inl rfl)) (pa_cons (pe_op (op_own h_Bill___sub__ (hr.mono (by decide)) (du_Bill___sub__ T) (sf_Bill T)) (pe_op (op_own h_Bill___add__ (hr.mono (by decide)) (du_Bill___add__ T) (sf_Bill T)) (pe_var (i := 13) rfl (.inl rfl)) (pe_var (i := 14) rfl (.inl rfl))) (pe_callE h_bill_of (hr.mono (by decide)) rfl (g_bill_of T) (pa_cons (pe_var (i := 7) rfl (.inl rfl)) (pa_cons (pe_var (i := 9) rfl (.inl rfl)) pa_nil)))) (pa_cons (pe_var (i := 15) rfl (.inl rfl)) pa_nil)))))) (pss_one (ps_ret pe_bl)) pss_nil)
  (pss_one (ps_ret (pe_callE h__law_bill (hr.mono (by decide)) rfl (g__law_bill T) (pa_cons (pe_var (i := 0) rfl (.inl rfl)) (pa_cons (pe_var (i := 13) rfl (.inl rfl)) (pa_cons (pe_callE h__law_net_rides (hr.mono (by decide)) rfl (g__law_net_rides T) (pa_cons (pe_var (i := 2) rfl (.inl rfl)) (pa_cons (pe_var (i := 1) rfl (.inl rfl)) (pa_cons (pe_var (i := 3) rfl (.inl rfl)) (pa_cons (pe_slice sl_U (pe_var (i := 4) rfl (.inl rfl)) po_none (po_some (pe_var (i := 5) rfl (.inl rfl)))) pa_nil))))) pa_nil))))))))))))))))))
abbrev N__law_costs : List Str := ["_law_net", "_law_count", "_law_ends", "_law_keys", "_law_rides", "_law_sums", "_law_here", "_law_there", "_law_bill_here", "_law_cost", "_law_many", "_law_back", "_law_told", "_law_due", "_law_rope_here", "_law_x"]
abbrev ps__law_costs : List Str := ["_law_net", "_law_count", "_law_ends", "_law_keys", "_law_rides", "_law_sums"]
theorem sc__law_costs : FnScope N__law_costs ps__law_costs (defScope s__law_costs) := ⟨rfl, rfl, rfl, by decide +kernel, rfl, by decide +kernel, by decide +kernel⟩
def t__law_costs (K : PySem.W.Frag) (sp__law_stand sp_bill_of sp__law_words sp__law_reduced sp__law_like sp_Bill_cost sp_Bill_leads sp_Bill___neg__ sp_Trip_tally sp_Trip___init__ : Spec) : TS := (tSeq (tAsg (tCall (spOf K sp__law_stand) [] E0 (tCons (tVar 0) (tCons (tVar 1) (tCons (tOp (rIxU K) (tVar 3) (tC (.int 0))) tNil)))) (gName 6))
  (tSeq (tAsg (tCall (spOf K sp__law_stand) [] E0 (tCons (tVar 0) (tCons (tVar 1) (tCons (tOp (rIxU K) (tVar 3) (tUn rNegI (tC (.int 1)))) tNil)))) (gName 7))
  (tSeq (tAsg (tCall (spOf K sp_bill_of) [] E0 (tCons (tVar 6) (tCons (tCall (spOf K sp__law_words) [] E0 (tCons (tVar 4) tNil)) tNil))) (gName 8))
  (tSeq (tAsg (tCB (rSumU K) (tCons (tLc (iSeqU K (tOp (rAddU K) (tOp (rIxU K) (tVar 5) (tC (.int 0))) (tOp (rIxU K) (tVar 5) (tC (.int 1))))) (gName 15) tYes (tCB rAbsQ (tCons (tVar 15) tNil)) [15]) tNil)) (gName 9))
  (tSeq (tAsg (tCB (rLenQ K) (tCons (tCall (spOf K sp__law_reduced) [] E0 (tCons (tVar 4) tNil)) tNil)) (gName 10))
  (tSeq (tIfS (tOr (tNot (tTru K (tCall (spOf K sp__law_like) [] E0 (tCons (tMeth (He.ga K "Bill") "cost" (spOf K sp_Bill_cost) [.non] E0 (tVar 8) tNil) (tCons (tVar 9) tNil))))) (tOr (tTest (tOp rGtI (tVar 9) (tVar 10))) (tTest (tOp (rNeU K) (tOp rModI (tCB rIntQ (tCons (tOp rSubI (tVar 10) (tVar 9)) tNil)) (tC (.int 2))) (tC (.int 0))))))
  (tRet (tC (.bl false)))
  tNext)
  (tSeq (tIfS (tNot (tTru K (tCall (spOf K sp__law_like) [] E0 (tCons (tMeth (He.ga K "Bill") "leads" (spOf K sp_Bill_leads) [] E0 (tVar 8) (tCons (tVar 6) (tCons (tVar 7) tNil))) (tCons (tC (.bl true)) tNil)))))
  (tRet (tC (.bl false)))
  tNext)
  (tSeq (tAsg (tUn (rOwn1 (He.ga K "Bill") (spOf K sp_Bill___neg__)) (tVar 8)) (gName 11))
  (tSeq (tIfS (tOr (tNot (tTru K (tCall (spOf K sp__law_like) [] E0 (tCons (tMeth (He.ga K "Bill") "leads" (spOf K sp_Bill_leads) [] E0 (tVar 11) (tCons (tVar 7) (tCons (tVar 6) tNil))) (tCons (tC (.bl true)) tNil))))) (tNot (tTru K (tCall (spOf K sp__law_like) [] E0 (tCons (tMeth (He.ga K "Bill") "cost" (spOf K sp_Bill_cost) [.non] E0 (tVar 11) tNil) (tCons (tVar 9) tNil))))))
  (tRet (tC (.bl false)))
  tNext)
  (tSeq (tAsg (tMeth (He.ga K "Trip") "tally" (spOf K sp_Trip_tally) [] E0 (tMake (He.ga K "Trip") (spOf K sp_Trip___init__) [] E0 (tCons (tCall (spOf K sp__law_words) [] E0 (tCons (tVar 4) tNil)) tNil)) (tCons (tCB (rLenQ K) (tCons (tVar 2) tNil)) tNil)) (gName 12))
  (tSeq (tAsg (tLst tNil) (gName 13))
  (tSeq (tFor (iRng1 (tCons (tCB (rLenQ K) (tCons (tVar 2) tNil)) tNil)) (gName 14)
  (tSeq (tDrop (tBM K "list" rAppend (tVar 13) (tCons (tTup (tCons (tBM K "list" (rCntD K) (tVar 4) (tCons (tTup (tCons (tVar 14) (tCons (tC (.int 0)) tNil))) tNil)) (tCons (tBM K "list" (rCntD K) (tVar 4) (tCons (tTup (tCons (tVar 14) (tCons (tC (.int 1)) tNil))) tNil)) tNil))) tNil)))
  (tIfS (tOr (tTest (tOp rLtI (tOp (rIxU K) (tOp (rIxU K) (tVar 13) (tVar 14)) (tC (.int 0))) (tCB rAbsQ (tCons (tOp (rIxU K) (tOp (rIxU K) (tVar 5) (tC (.int 0))) (tVar 14)) tNil)))) (tTest (tOp rLtI (tOp (rIxU K) (tOp (rIxU K) (tVar 13) (tVar 14)) (tC (.int 1))) (tCB rAbsQ (tCons (tOp (rIxU K) (tOp (rIxU K) (tVar 5) (tC (.int 1))) (tVar 14)) tNil)))))
  (tRet (tC (.bl false)))
  tNext)))
  (tRet (tCall (spOf K sp__law_like) [] E0 (tCons (tVar 12) (tCons (tVar 13) tNil))))))))))))))))
theorem dv__law_costs (T : Hd fn fa xs K mg) {sp__law_stand sp_bill_of sp__law_words sp__law_reduced sp__law_like sp_Bill_cost sp_Bill_leads sp_Bill___neg__ sp_Trip_tally sp_Trip___init__ : Spec} (h__law_stand : FnE P w K mg base 4 (He.fAd K d__law_stand.at_) ps__law_stand (spOf K sp__law_stand)) (h_bill_of : FnE P w K mg base 6 (He.fAd K d_bill_of.at_) ps_bill_of (spOf K sp_bill_of)) (h__law_words : FnE P w K mg base 1 (He.fAd K d__law_words.at_) ps__law_words (spOf K sp__law_words)) (h__law_reduced : FnE P w K mg base 1 (He.fAd K d__law_reduced.at_) ps__law_reduced (spOf K sp__law_reduced)) (h__law_like : FnE P w K mg base 4 (He.fAd K d__law_like.at_) ps__law_like (spOf K sp__law_like)) (h_Bill_cost : FnDE P w K mg base 2 (He.fAd K d_Bill_cost.at_) ps_Bill_cost [.non] (spOf K sp_Bill_cost)) (h_Bill_leads : FnE P w K mg base 3 (He.fAd K d_Bill_leads.at_) ps_Bill_leads (spOf K sp_Bill_leads)) (h_Bill___neg__ : FnE P w K mg base 3 (He.fAd K d_Bill___neg__.at_) ps_Bill___neg__ (spOf K sp_Bill___neg__)) (h_Trip_tally : FnE P w K mg base 1 (He.fAd K d_Trip_tally.at_) ps_Trip_tally (spOf K sp_Trip_tally)) (h_Trip___init__ : FnE P w K mg base 1 (He.fAd K d_Trip___init__.at_) ps_Trip___init__ (spOf K sp_Trip___init__)) {cdv : Value} {A : Around} {outer : List PySem.Env} {s : Shared} {H : Hp} {E : XK} (hr : Room 6 (A.deeper (envOfC d__law_costs.qual d__law_costs.scope s.heap.objs.size (He.fAd K d__law_costs.at_) cdv))) :
    PSs (cxOf CX0 P w K mg base N__law_costs d__law_costs.qual d__law_costs.scope (He.fAd K d__law_costs.at_) cdv A outer s H E).nox d__law_costs.body (t__law_costs K sp__law_stand sp_bill_of sp__law_words sp__law_reduced sp__law_like sp_Bill_cost sp_Bill_leads sp_Bill___neg__ sp_Trip_tally sp_Trip___init__) :=
  have nd := sc__law_costs.nd
  (pss_cons (ps_set (i := 6) nd rfl (.inl rfl) (pe_callE h__law_stand (hr.mono (by decide)) rfl (g__law_stand T) (pa_cons (pe_var (i := 0) rfl (.inl rfl)) (pa_cons (pe_var (i := 1) rfl (.inl rfl)) (pa_cons (pe_ix ix_U (pe_var (i := 3) rfl (.inl rfl)) pe_int (fun _ _ => rfl)) pa_nil)))))
  (pss_cons (ps_set (i := 7) nd rfl (.inl rfl) (pe_callE h__law_stand (hr.mono (by decide)) rfl (g__law_stand T) (pa_cons (pe_var (i := 0) rfl (.inl rfl)) (pa_cons (pe_var (i := 1) rfl (.inl rfl)) (pa_cons (pe_ix ix_U (pe_var (i := 3) rfl (.inl rfl)) (pe_un un_negI pe_int) (fun _ _ => rfl)) pa_nil)))))
  (pss_cons (ps_set (i := 8) nd rfl (.inl rfl) (pe_callE h_bill_of (hr.mono (by decide)) rfl (g_bill_of T) (pa_cons (pe_var (i := 6) rfl (.inl rfl)) (pa_cons (pe_callE h__law_words (hr.mono (by decide)) rfl (g__law_words T) (pa_cons (pe_var (i := 4) rfl (.inl rfl)) pa_nil)) pa_nil))))
  (pss_cons (ps_set (i := 9) nd rfl (.inl rfl) (pe_callB (call_sumU rfl) rfl (fr_sum T) (by decide +kernel) (pa_cons (pe_lc (own := [("_law_x", 15)]) rfl nd (pi_seqU (pe_op op_addU (pe_ix ix_U (pe_var (i := 5) rfl (.inl rfl)) pe_int (fun _ _ => rfl)) (pe_ix ix_U (pe_var (i := 5) rfl (.inl rfl)) pe_int (fun _ _ => rfl)))) (blkOk_by (own := [("_law_x", 15)]) (N := N__law_costs) (sc := (defScope s__law_costs)) (by decide +kernel)) (fun _ _ _ _ _ => (pg_name (i := 15) nd rfl (.inl rfl))) (fun _ _ _ _ _ => pts_nil) (fun _ _ _ _ _ => (pe_callB call_absQ rfl (fr_abs T) (by decide +kernel) (pa_cons (pe_var (i := 15) rfl (.inl rfl)) pa_nil)))) pa_nil)))
  (pss_cons (ps_set (i := 10) nd rfl (.inl rfl) (pe_callB call_lenQ rfl (fr_len T) (by decide +kernel) (pa_cons (pe_callE h__law_reduced (hr.mono (by decide)) rfl (g__law_reduced T) (pa_cons (pe_var (i := 4) rfl (.inl rfl)) pa_nil)) pa_nil)))
  (pss_cons (ps_if (PW.pt (pw_or (pt_not (pt_tru (pe_callE h__law_like (hr.mono (by decide)) rfl (g__law_like T) (pa_cons (pe_methDE (pe_var (i := 8) rfl (.inl rfl)) (cl_Bill T) (me_Bill_cost T) h_Bill_cost (hr.mono (by decide))) (pa_cons (pe_var (i := 9) rfl (.inl rfl)) pa_nil))))) (pw_or (pt_cmpR op_gtI (pe_var (i := 9) rfl (.inl rfl)) (pe_var (i := 10) rfl (.inl rfl)) (nomark _)) (pw_or1 (pt_cmpR (op_neU hr.units) (pe_op op_modI (pe_callTy call_intQ rfl (fr_int T) (by decide +kernel) (pa_cons (pe_op op_subI (pe_var (i := 10) rfl (.inl rfl)) (pe_var (i := 9) rfl (.inl rfl))) pa_nil)) pe_int) pe_int (nomark _)))))) (pss_one (ps_ret pe_bl)) pss_nil)
  (pss_cons (ps_if (pt_not (pt_tru (pe_callE h__law_like (hr.mono (by decide)) rfl (g__law_like T) (pa_cons (pe_methE (pe_var (i := 8) rfl (.inl rfl)) (cl_Bill T) (me_Bill_leads T) h_Bill_leads (hr.mono (by decide)) (pa_cons (pe_var (i := 6) rfl (.inl rfl)) (pa_cons (pe_var (i := 7) rfl (.inl rfl)) pa_nil))) (pa_cons pe_bl pa_nil))))) (pss_one (ps_ret pe_bl)) pss_nil)
  (pss_cons (ps_set (i := 11) nd rfl (.inl rfl) (pe_un (un_ownNeg h_Bill___neg__ (hr.mono (by decide)) (du_Bill___neg__ T)) (pe_var (i := 8) rfl (.inl rfl))))
  (pss_cons (ps_if (PW.pt (pw_or (pt_not (pt_tru (pe_callE h__law_like (hr.mono (by decide)) rfl (g__law_like T) (pa_cons (pe_methE (pe_var (i := 11) rfl (.inl rfl)) (cl_Bill T) (me_Bill_leads T) h_Bill_leads (hr.mono (by decide)) (pa_cons (pe_var (i := 7) rfl (.inl rfl)) (pa_cons (pe_var (i := 6) rfl (.inl rfl)) pa_nil))) (pa_cons pe_bl pa_nil))))) (pw_or1 (pt_not (pt_tru (pe_callE h__law_like (hr.mono (by decide)) rfl (g__law_like T) (pa_cons (pe_methDE (pe_var (i := 11) rfl (.inl rfl)) (cl_Bill T) (me_Bill_cost T) h_Bill_cost (hr.mono (by decide))) (pa_cons (pe_var (i := 9) rfl (.inl rfl)) pa_nil)))))))) (pss_one (ps_ret pe_bl)) pss_nil)
  (pss_cons (ps_set (i := 12) nd rfl (.inl rfl) (pe_methE (pe_makeE (mk_Trip T) h_Trip___init__ (hr.mono (by decide)) rfl (g_Trip T) (pa_cons (pe_callE h__law_words (hr.mono (by decide)) rfl (g__law_words T) (pa_cons (pe_var (i := 4) rfl (.inl rfl)) pa_nil)) pa_nil)) (cl_Trip T) (me_Trip_tally T) h_Trip_tally (hr.mono (by decide)) (pa_cons (pe_callB call_lenQ rfl (fr_len T) (by decide +kernel) (pa_cons (pe_var (i := 2) rfl (.inl rfl)) pa_nil)) pa_nil)))
  (pss_cons (ps_set (i := 13) nd rfl (.inl rfl) (pe_lst pa_nil))
  (pss_cons (ps_for PassesOwn.never rfl (pi_range1 rfl (fr_range T) (pa_cons (pe_callB call_lenQ rfl (fr_len T) (by decide +kernel) (pa_cons (pe_var (i := 2) rfl (.inl rfl)) pa_nil)) pa_nil)) (pg_name (i := 14) nd rfl (.inl rfl))
  (pss_cons (ps_expr (pe_bm PySem.F.plainAttrs_list PySem.F.slot_list_append PySem.F.type_list_append mt_append (pe_var (i := 13) rfl (.inl rfl)) (pa_cons (pe_tup (pa_cons (pe_bm PySem.F.plainAttrs_list PySem.F.slot_list_count PySem.F.type_list_count (mt_countD (room65 hr)) (pe_var (i := 4) rfl (.inl rfl)) (pa_cons (pe_tup (pa_cons (pe_var (i := 14) rfl (.inl rfl)) (pa_cons pe_int pa_nil))) pa_nil)) (pa_cons (pe_bm PySem.F.plainAttrs_list PySem.F.slot_list_count PySem.F.type_list_count (mt_countD (room65 hr)) (pe_var (i := 4) rfl (.inl rfl)) (pa_cons (pe_tup (pa_cons (pe_var (i := 14) rfl (.inl rfl)) (pa_cons pe_int pa_nil))) pa_nil)) pa_nil))) pa_nil)))
  (pss_one (ps_if (PW.pt (pw_or (pt_cmpR op_ltI (pe_ix ix_U (pe_ix ix_U (pe_var (i := 13) rfl (.inl rfl)) (pe_var (i := 14) rfl (.inl rfl)) (fun _ _ => rfl)) pe_int (fun _ _ => rfl)) (pe_callB call_absQ rfl (fr_abs T) (by decide +kernel) (pa_cons (pe_ix ix_U (pe_ix ix_U (pe_var (i := 5) rfl (.inl rfl)) pe_int (fun _ _ => rfl)) (pe_var (i := 14) rfl (.inl rfl)) (fun _ _ => rfl)) pa_nil)) (nomark _)) (pw_or1 (pt_cmpR op_ltI (pe_ix ix_U (pe_ix ix_U (pe_var (i := 13) rfl (.inl rfl)) (pe_var (i := 14) rfl (.inl rfl)) (fun _ _ => rfl)) pe_int (fun _ _ => rfl)) (pe_callB call_absQ rfl (fr_abs T) (by decide +kernel) (pa_cons (pe_ix ix_U (pe_ix ix_U (pe_var (i := 5) rfl (.inl rfl)) pe_int (fun _ _ => rfl)) (pe_var (i := 14) rfl (.inl rfl)) (fun _ _ => rfl)) pa_nil)) (nomark _))))) (pss_one (ps_ret pe_bl)) pss_nil))))
  (pss_one (ps_ret (pe_callE h__law_like (hr.mono (by decide)) rfl (g__law_like T) (pa_cons (pe_var (i := 12) rfl (.inl rfl)) (pa_cons (pe_var (i := 13) rfl (.inl rfl)) pa_nil)))))))))))))))))
end
end Tw

set_option Elab.async false
set_option linter.all false
set_option maxRecDepth 100000
set_option maxHeartbeats 4000000
namespace Tw
open PySem PySem.Spec PyProof.Rows L2
abbrev pD (p : Nat × Nat) : D := .tup [.int p.1, .int p.2]
abbrev netD (K : PySem.W.Frag) (n : Nat) (es : List (Nat × Nat)) : D := .obj (He.ga K "Net") ["stations", "ropes"] [.int n, .tup (es.map pD)]
abbrev stgD (K : PySem.W.Frag) (n : Nat) (es : List (Nat × Nat)) (f : Conf) : D := .obj (He.ga K "Standing") ["net", "reds", "blues", "cars"] [netD K n es, .tup (seqI n f), .tup (seqI n fun i => f (n + i)), .tup (seqI es.length fun i => f (2 * n + i))]
def colS (b : Bool) : Str := if b then "blue" else "red"
abbrev wD (r : Ride) : D := .tup [.int r.1, .str (colS r.2)]
theorem ride_own {n : Nat} {es : List (Nat × Nat)} {f : Conf} {r : Ride} (N : NetOk n es) (h : r.1 < es.length) {i : Nat} (hi : i < n) : ride n es f r (off n r.2 + i) = if i = to_ n es f r then f (off n r.2 + to_ n es f r) + 1 else if i = at_ n es f r then f (off n r.2 + at_ n es f r) - 1 else f (off n r.2 + i) := by
  have a1 := at_lt (f := f) N h
  have a2 := to_lt (f := f) N h
  have a3 := at_ne (f := f) N h
  have o := off_le n r.2
  unfold ride
  rw [if_neg (by omega)]
  by_cases h1 : i = at_ n es f r
  · rw [if_pos (by omega), if_neg (by omega), if_pos h1, h1]
  · rw [if_neg (by omega)]
    by_cases h2 : i = to_ n es f r
    · rw [if_pos (by omega), if_pos h2, h2]
    · rw [if_neg (by omega), if_neg h2, if_neg h1]
theorem ride_other {n : Nat} {es : List (Nat × Nat)} {f : Conf} {r : Ride} (N : NetOk n es) (h : r.1 < es.length) {i : Nat} (hi : i < n) : ride n es f r (off n (!r.2) + i) = f (off n (!r.2) + i) := by
  have a1 := at_lt (f := f) N h
  have a2 := to_lt (f := f) N h
  unfold ride
  cases hb : r.2 with
  | false =>
    simp only [off, Bool.not_false, if_true, Bool.false_eq_true, if_false, Nat.zero_add]
    rw [if_neg (by omega), if_neg (by omega), if_neg (by omega)]
  | true =>
    simp only [off, if_true, Bool.not_true, Bool.false_eq_true, if_false, Nat.zero_add]
    rw [if_neg (by omega), if_neg (by omega), if_neg (by omega)]
theorem ride_car {n : Nat} {es : List (Nat × Nat)} {f : Conf} {r : Ride} (N : NetOk n es) (h : r.1 < es.length) {k : Nat} : ride n es f r (2 * n + k) = if k = r.1 then 1 - f (2 * n + r.1) else f (2 * n + k) := by
  have a1 := at_lt (f := f) N h
  have a2 := to_lt (f := f) N h
  have o := off_le n r.2
  unfold ride
  by_cases e : k = r.1
  · rw [if_pos (by omega), if_pos e, e]
  · rw [if_neg (by omega), if_neg (by omega), if_neg (by omega), if_neg e]
def sp_check_rope (K : PySem.W.Frag) : Spec := fun ds S Φ => ∃ (n : Nat) (es : List (Nat × Nat)) (k : Nat), ds = [netD K n es, .int k] ∧ k < es.length ∧ Φ .non S
def sp_check_colour : Spec := fun ds S Φ => ∃ b, ds = [.str (colS b)] ∧ Φ .non S
def sp_check_rides (K : PySem.W.Frag) : Spec := fun ds S Φ => ∃ (n : Nat) (es : List (Nat × Nat)) (x : D) (rs : List Ride), ds = [netD K n es, x] ∧ Stands x (rs.map wD) ∧ (∀ r ∈ rs, r.1 < es.length) ∧ Φ .non S
def sp_check_cars (K : PySem.W.Frag) : Spec := fun ds S Φ => ∃ (n : Nat) (es : List (Nat × Nat)) (x : D) (f : Conf), ds = [netD K n es, x] ∧ Stands x (seqI es.length f) ∧ (∀ k, k < es.length → f k = 0 ∨ f k = 1) ∧ Φ .non S
def sp__check_guests (K : PySem.W.Frag) : Spec := fun ds S Φ => ∃ (n : Nat) (es : List (Nat × Nat)) (p : Str) (x : D) (f : Conf), ds = [netD K n es, .str p, x] ∧ Stands x (seqI n f) ∧ (∀ k, k < n → 0 ≤ f k) ∧ Φ .non S
def sp_Standing___init__ (K : PySem.W.Frag) : Spec := fun ds S Φ => ∃ (p : Addr) (n : Nat) (es : List (Nat × Nat)) (f : Conf) (xr xb xc : D), ds = [.ref p, netD K n es, xr, xb, xc] ∧ S p = some (.ins (He.ga K "Standing") [] []) ∧
  Ok n es f ∧ Stands xr (seqI n f) ∧ Stands xb (seqI n fun i => f (n + i)) ∧ Stands xc (seqI es.length fun i => f (2 * n + i)) ∧
  Φ .non (stU S p (.ins (He.ga K "Standing") ["net", "reds", "blues", "cars"] [netD K n es, .tup (seqI n f), .tup (seqI n fun i => f (n + i)), .tup (seqI es.length fun i => f (2 * n + i))]))
def sp_far_end (K : PySem.W.Frag) : Spec := fun ds S Φ => ∃ (n : Nat) (es : List (Nat × Nat)) (k s : Nat), ds = [netD K n es, .int k, .int s] ∧ k < es.length ∧
  Φ (.int (if s = (endsK es k).1 then (endsK es k).2 else (endsK es k).1 : Nat)) S
def sp_car_station (K : PySem.W.Frag) : Spec := fun ds S Φ => ∃ (n : Nat) (es : List (Nat × Nat)) (f : Conf) (r : Ride), ds = [stgD K n es f, .int r.1, .str (colS r.2)] ∧ Ok n es f ∧ r.1 < es.length ∧ Φ (.int (at_ n es f r : Nat)) S
def sp_guests_of (K : PySem.W.Frag) : Spec := fun ds S Φ => ∃ (n : Nat) (es : List (Nat × Nat)) (f : Conf) (b : Bool), ds = [stgD K n es f, .str (colS b)] ∧ Φ (.tup (seqI n fun i => f (off n b + i))) S
def sp_moved (K : PySem.W.Frag) : Spec := fun ds S Φ => ∃ (n : Nat) (es : List (Nat × Nat)) (f : Conf) (r : Ride), ds = [stgD K n es f, .int r.1, .str (colS r.2)] ∧ NetOk n es ∧ Ok n es f ∧ can n es f r ∧ Φ (stgD K n es (ride n es f r)) S
def sp__is_possible (K : PySem.W.Frag) : Spec := fun ds S Φ => ∃ (n : Nat) (es : List (Nat × Nat)) (f : Conf) (r : Ride), ds = [stgD K n es f, .int r.1, .str (colS r.2)] ∧ NetOk n es ∧ Ok n es f ∧ r.1 < es.length ∧ Φ (.bl (decide (0 < f (off n r.2 + at_ n es f r)))) S
local macro_rules | `(tactic| walk_at "w") => `(tactic| first
  | ((with_reducible show WE _ (tVar _) _ _ _); refine w_var (by rfl) ?_)
  | ((with_reducible show WE _ (tC (.int _)) _ _ _); refine w_cI ?_)
  | ((with_reducible show WE _ (tC (.str _)) _ _ _); refine w_cS ?_)
  | ((with_reducible show WE _ (tC (.bl _)) _ _ _); refine w_cB ?_)
  | ((with_reducible show WE _ (tC .non) _ _ _); refine w_cN ?_)
  | ((with_reducible show WE _ (tC (.ty _)) _ _ _); refine w_cT ?_)
  | ((with_reducible show WE _ (tC (.ref _)) _ _ _); refine w_cR ?_)
  | ((with_reducible show WE _ (tOp _ _ _) _ _ _); refine w_op ?_)
  | ((with_reducible show WE _ (tUn _ _) _ _ _); refine w_un ?_)
  | ((with_reducible show WE _ (tChain _ _ _ _ _) _ _ _); refine w_chain ?_)
  | ((with_reducible show WE _ (tFld _ _ _) _ _ _); refine w_fld ?_)
  | ((with_reducible show WE _ (tIf _ _ _) _ _ _); refine w_ifE ?_)
  | ((with_reducible show WE _ (tTup _) _ _ _); refine w_tup ?_)
  | ((with_reducible show WE _ (tCB _ _) _ _ _); refine w_cb ?_)
  | ((with_reducible show WE _ (tCall _ _ _ _) _ _ _); refine w_call ?_)
  | ((with_reducible show WE _ (tMake _ _ _ _ _) _ _ _); refine w_make ?_)
  | ((with_reducible show WE _ (tMeth _ _ _ _ _ _ _) _ _ _); refine w_meth ?_)
  | ((with_reducible show WE _ (tSl _ _ _ _) _ _ _); refine w_sl ?_)
  | ((with_reducible show WE _ (tBM _ _ rAppend _ _) _ _ _); refine w_append (p := 0) (ds := []) ?_)
  | ((with_reducible show WE _ (tBM _ _ rExtend _ _) _ _ _); refine w_extend ?_)
  | ((with_reducible show WE _ (tBM _ _ rInsL _ _) _ _ _); refine w_insert ?_)
  | ((with_reducible show WE _ (tBM0 _ _ rPop _) _ _ _); refine w_pop ?_)
  | ((with_reducible show WE _ (tBM _ _ rPopAt _ _) _ _ _); refine w_popAt ?_)
  | ((with_reducible show WE _ (tBM _ _ (rCntD _) _ _) _ _ _); refine w_bmL ?_)
  | ((with_reducible show WE _ (tAndV _ _) _ _ _); refine w_andV ?_)
  | ((with_reducible show WE _ (tOrV _ _) _ _ _); refine w_orV ?_)
  | ((with_reducible show WE _ (tNotV _) _ _ _); refine w_notV ?_)
  | ((with_reducible show WA _ tNil _ _ _); refine wa_nil ?_)
  | ((with_reducible show WA _ (tCons _ _) _ _ _); refine wa_cons ?_)
  | ((with_reducible show WO _ tNoPart _ _ _); refine wo_none ?_)
  | ((with_reducible show WO _ (tPart _) _ _ _); refine wo_some ?_)
  | ((with_reducible show WT _ (tTest _) _ _ _); refine w_test ?_)
  | ((with_reducible show WT _ (tB _) _ _ _); refine w_tB ?_)
  | ((with_reducible show WT _ (tTru _ _) _ _ _); refine w_tru ?_)
  | ((with_reducible show WT _ (tTruO _ _) _ _ _); refine w_truO ?_)
  | ((with_reducible show WT _ (tAnd _ _) _ _ _); refine w_and ?_)
  | ((with_reducible show WT _ (tOr _ _) _ _ _); refine w_or ?_)
  | ((with_reducible show WT _ (tNot _) _ _ _); refine w_not ?_)
  | ((with_reducible show WT _ tYes _ _ _); refine wt_yes ?_)
  | ((with_reducible show WS _ (tSeq _ _) _ _ _); refine ws_seq ?_)
  | ((with_reducible show WS _ (tAsg _ (gName _)) _ _ _); refine ws_set ?_)
  | ((with_reducible show WS _ (tAsg _ _) _ _ _); refine ws_asg ?_)
  | ((with_reducible show WS _ (sFld _ _ _ _) _ _ _); refine ws_fld ?_)
  | ((with_reducible show WS _ (tDrop _) _ _ _); refine ws_drop ?_)
  | ((with_reducible show WS _ (tRet _) _ _ _); refine ws_ret ?_)
  | ((with_reducible show WS _ tRetN _ _ _); refine ws_retN ?_)
  | ((with_reducible show WS _ tNext _ _ _); refine ws_next ?_)
  | ((with_reducible show WS _ tBreak _ _ _); refine ws_break ?_)
  | ((with_reducible show WS _ tCont _ _ _); refine ws_cont ?_)
  | ((with_reducible show WS _ (tIfS _ _ _) _ _ _); refine ws_if ?_)
  | ((with_reducible show WS _ (tAug _ _ _) _ _ _); refine ws_aug (by rfl) ?_)
  | ((with_reducible show WS _ (tAugS _ _ _ _ _ _) _ _ _); refine ws_augS ?_)
  | ((with_reducible show WG _ (gName _) _ _ _ _); refine wg_name ?_)
  | ((with_reducible show WG _ (gTup _ _ _) (.tup _) _ _ _); refine wg_tup (by rfl) ?_)
  | ((with_reducible show WG _ (gSub _ _ _) _ _ _ _); refine wg_sub ?_)
  | ((with_reducible show WGs _ gNil [] _ _ _); refine wgs_nil ?_)
  | ((with_reducible show WGs _ (gCons _ _) (_ :: _) _ _ _); refine wgs_cons ?_)
  | ((with_reducible show WI _ (iRng1 _) _ _ _); refine wi_rng1 ?_)
  | ((with_reducible show WI _ (iRng2 _) _ _ _); refine wi_rng2 ?_)
  | ((with_reducible show WI _ (iSeqU _ _) _ _ _); refine wi_seq ?_)
  | ((with_reducible show WI _ (iEnumU _ _) _ _ _); refine wi_enum ?_)
  | ((with_reducible show WI _ (RZ.iZipA _ _) _ _ _); refine wi_zip ?_))
local macro_rules | `(tactic| walk_at "w") => `(tactic| first
  | ((with_reducible show ∃ C ns ds d, InsOf _ _ C ns ds ∧ _); refine ⟨_, _, _, _, .o, by walk_at "cls", by walk_at "noat", by rfl, ?_⟩)
  | ((with_reducible show R2W _ (rAddU _) (.int _) (.int _) _ _); refine rw_addI ?_)
  | ((with_reducible show R2W _ rSubI (.int _) (.int _) _ _); refine rw_subI ?_)
  | ((with_reducible show R2W _ rLtI (.int _) (.int _) _ _); refine rw_ltI ?_)
  | ((with_reducible show R2W _ rLeI (.int _) (.int _) _ _); refine rw_leI ?_)
  | ((with_reducible show R2W _ rGtI (.int _) (.int _) _ _); refine rw_gtI ?_)
  | ((with_reducible show R2W _ rGeI (.int _) (.int _) _ _); refine rw_geI ?_)
  | ((with_reducible show R2W _ (rEqU _) (.int _) (.int _) _ _); refine rw_eqUI ?_)
  | ((with_reducible show R2W _ (rEqU _) (.str _) (.str _) _ _); refine rw_eqUS ?_)
  | ((with_reducible show R2W _ (rNeU _) (.int _) (.int _) _ _); refine rw_neUI ?_)
  | ((with_reducible show R2W _ (rNeU _) (.str _) (.str _) _ _); refine rw_neUS ?_)
  | ((with_reducible show R1W _ rNegI (.int _) _ _); refine rw_negI ?_)
  | ((with_reducible show RLW _ (rLenQ _) [_] _ _); refine rw_len (by first | exact .t | exact .l | exact .r (by assumption)) ?_)
  | ((with_reducible show RLW _ rIntQ [.int _] _ _); refine rw_int ?_)
  | ((with_reducible show RLW _ rAbsQ [.int _] _ _); refine rw_abs ?_)
  | ((with_reducible show ∃ k, .bl _ = D.bl k ∧ _); refine ⟨_, rfl, ?_⟩)
  | ((with_reducible show ∃ k, .int _ = D.int k ∧ _); refine ⟨_, rfl, ?_⟩)
  | ((with_reducible show ∃ k, TruD _ (.bl _) k ∧ _); refine ⟨_, .bl, ?_⟩)
  | ((with_reducible show ∃ k, TruD _ (.int _) k ∧ _); refine ⟨_, .int, ?_⟩)
  | ((with_reducible show List.length _ ≤ 1000000 ∧ _); refine ⟨Nat.le_of_ble_eq_true rfl, ?_⟩)
  | ((with_reducible show ∃ S2, Sub S2 _ ∧ _); refine ⟨_, Sub.refl _, ?_⟩))
local macro_rules | `(tactic| walk_at "w*") => `(tactic| repeat walk_at "w")
local macro_rules | `(tactic| walk_at "le") => `(tactic| repeat first | exact Le.nil | exact Le.rfl | refine Le.som ?_ | refine Le.non ?_)
local macro_rules | `(tactic| walk_at "fz") => `(tactic| repeat first | exact Fz.nil | refine Fz.som ?_ | refine Fz.frz ?_ | refine Fz.non ?_)
local macro_rules | `(tactic| walk_at "cls") => `(tactic| first | exact cl_Net (by assumption) | exact cl_Standing (by assumption) | exact cl_Bill (by assumption) | exact cl_Trip (by assumption))
local macro_rules | `(tactic| walk_at "noat") => `(tactic| first | exact na_Net_stations (by assumption) | exact na_Net_ropes (by assumption) | exact na_Standing_net (by assumption) | exact na_Standing_reds (by assumption) | exact na_Standing_blues (by assumption) | exact na_Standing_cars (by assumption) | exact na_Bill_net (by assumption) | exact na_Bill_reds (by assumption) | exact na_Bill_blues (by assumption) | exact na_Trip_rides (by assumption))

section
variable {P : Program} {w : World} {K : PySem.W.Frag} {mg : Str → Option Value} {base : Heap}
theorem ok_check_rope (T : Hd fn fa xs K mg) : FnE P w K mg base 1 (He.fAd K d_check_rope.at_) ps_check_rope (spOf K (sp_check_rope K)) := by
  refine T.ok _ ix_check_rope (N := N_check_rope) rfl sc_check_rope (fun ds S Φ ⟨_, _, _, e, _⟩ => by rw [e]; rfl) (fun _ _ _ _ _ _ us hl => ?_) fun cdv A outer s H E hr => ⟨_, dv_check_rope T hr, ?_⟩
  · match us, hl with
    | [a, b], _ => rfl
  rintro _ S Φ ⟨n, es, k, rfl, hk, q⟩
  unfold t_check_rope
  walk_at "w*"
  refine ifD (fun h => ?_) (fun h => absurd (Int.natCast_nonneg k) h)
  walk_at "w*"
  rw [List.length_map, decide_eq_true (by omega : (k : Int) < es.length)]
  refine iteF ?_
  walk_at "w*"
  exact q
theorem ok_check_colour (T : Hd fn fa xs K mg) : FnE P w K mg base 1 (He.fAd K d_check_colour.at_) ps_check_colour (spOf K sp_check_colour) := by
  refine T.ok _ ix_check_colour (N := N_check_colour) rfl sc_check_colour (fun ds S Φ ⟨_, e, _⟩ => by rw [e]; rfl) (fun _ _ _ _ _ _ us hl => ?_) fun cdv A outer s H E hr => ⟨_, dv_check_colour T hr, ?_⟩
  · match us, hl with
    | [a], _ => rfl
  rintro _ S Φ ⟨b, rfl, q⟩
  unfold t_check_colour
  walk_at "w*"
  refine rw_notInS (ns := ["red", "blue"]) .t ?_
  have e : decide (colS b ∈ (["red", "blue"] : List Str)) = true := by cases b <;> decide
  rw [e]
  walk_at "w*"
  refine iteF ?_
  walk_at "w*"
  exact q
theorem ok_check_rides (T : Hd fn fa xs K mg) : FnE P w K mg base 2 (He.fAd K d_check_rides.at_) ps_check_rides (spOf K (sp_check_rides K)) := by
  refine T.ok _ ix_check_rides (N := N_check_rides) rfl sc_check_rides (fun ds S Φ ⟨_, _, _, _, e, _⟩ => by rw [e]; rfl) (fun _ _ _ _ _ _ us hl => ?_) fun cdv A outer s H E hr => ⟨_, dv_check_rides T (ok_check_rope T) (ok_check_colour T) hr, ?_⟩
  · match us, hl with
    | [a, b], _ => rfl
  rintro _ S Φ ⟨n, es, x, rs, rfl, hx, hk, q⟩
  unfold t_check_rides
  refine ws_forN [some (netD K n es), some x, none, none] (by walk_at "le") ?_
  walk_at "w*"
  refine ⟨_, hx, fun i y hy => ?_, ⟨_, Sub.refl _, q⟩⟩
  obtain ⟨r, hr', rfl⟩ := map_get hy
  have hk' := hk r (List.mem_of_getElem? hr')
  walk_at "w*"
  refine ⟨n, es, r.1, rfl, hk', ?_⟩
  walk_at "w*"
  refine ⟨r.2, rfl, ?_⟩
  exact ⟨by walk_at "le", rfl⟩
theorem ok_check_cars (T : Hd fn fa xs K mg) : FnE P w K mg base 1 (He.fAd K d_check_cars.at_) ps_check_cars (spOf K (sp_check_cars K)) := by
  refine T.ok _ ix_check_cars (N := N_check_cars) rfl sc_check_cars (fun ds S Φ ⟨_, _, _, _, e, _⟩ => by rw [e]; rfl) (fun _ _ _ _ _ _ us hl => ?_) fun cdv A outer s H E hr => ⟨_, dv_check_cars T hr, ?_⟩
  · match us, hl with
    | [a, b], _ => rfl
  rintro _ S Φ ⟨n, es, x, f, rfl, hx, hc, q⟩
  unfold t_check_cars
  walk_at "w*"
  refine rw_len hx.seq ?_
  walk_at "w*"
  rw [seqI_len, List.length_map, decide_eq_true rfl]
  refine iteF ?_
  walk_at "w*"
  refine ws_forN [some (netD K n es), some x, none, none] (by walk_at "le") ?_
  walk_at "w*"
  refine ⟨_, _, rfl, hx, fun i y hy => ?_, ⟨_, Sub.refl _, q⟩⟩
  obtain ⟨d, hd, rfl⟩ := enumD_get hy
  obtain ⟨hi, rfl⟩ := seqI_get hd
  walk_at "w*"
  refine rw_notInI (ns := [0, 1]) .t ?_
  have e : decide (f i ∈ ([0, 1] : List Int)) = true := by
    rcases hc i hi with z | z <;> rw [z] <;> decide
  rw [e]
  walk_at "w*"
  refine iteF ?_
  walk_at "w*"
  exact ⟨by walk_at "le", rfl⟩
theorem ok__check_guests (T : Hd fn fa xs K mg) : FnE P w K mg base 1 (He.fAd K d__check_guests.at_) ps__check_guests (spOf K (sp__check_guests K)) := by
  refine T.ok _ ix__check_guests (N := N__check_guests) rfl sc__check_guests (fun ds S Φ ⟨_, _, _, _, _, e, _⟩ => by rw [e]; rfl) (fun _ _ _ _ _ _ us hl => ?_) fun cdv A outer s H E hr => ⟨_, dv__check_guests T hr, ?_⟩
  · match us, hl with
    | [a, b, c], _ => rfl
  rintro _ S Φ ⟨n, es, p, x, f, rfl, hx, hc, q⟩
  unfold t__check_guests
  walk_at "w*"
  refine rw_len hx.seq ?_
  walk_at "w*"
  rw [seqI_len, decide_eq_true rfl]
  refine iteF ?_
  walk_at "w*"
  refine ws_forN [some (netD K n es), some (.str p), some x, none, none] (by walk_at "le") ?_
  walk_at "w*"
  refine ⟨_, _, rfl, hx, fun i y hy => ?_, ⟨_, Sub.refl _, q⟩⟩
  obtain ⟨d, hd, rfl⟩ := enumD_get hy
  obtain ⟨hi, rfl⟩ := seqI_get hd
  walk_at "w*"
  refine ifD (fun h => absurd (hc i hi) (by omega)) (fun h => ?_)
  walk_at "w*"
  exact ⟨by walk_at "le", rfl⟩
theorem ok_Standing___init__ (T : Hd fn fa xs K mg) : FnE P w K mg base 2 (He.fAd K d_Standing___init__.at_) ps_Standing___init__ (spOf K (sp_Standing___init__ K)) := by
  refine T.ok _ ix_Standing___init__ (N := N_Standing___init__) rfl sc_Standing___init__ (fun ds S Φ ⟨_, _, _, _, _, _, _, e, _⟩ => by rw [e]; rfl) (fun _ _ _ _ _ _ us hl => ?_) fun cdv A outer s H E hr => ⟨_, dv_Standing___init__ T (ok__check_guests T) (ok_check_cars T) hr, ?_⟩
  · match us, hl with
    | [a, b, c, d, e], _ => rfl
  rintro _ S Φ ⟨p, n, es, f, xr, xb, xc, rfl, hp, O, hr', hb', hc', q⟩
  unfold t_Standing___init__
  walk_at "w*"
  refine ⟨n, es, "reds", xr, f, rfl, hr', fun k hk => O.nn k (by omega), ?_⟩
  walk_at "w*"
  refine ⟨n, es, "blues", xb, _, rfl, hb', fun k hk => O.nn (n + k) (by omega), ?_⟩
  walk_at "w*"
  refine rw_sum (ns := (List.range n).map f) (by rw [← seqI_sum]; exact hr'.seq) ?_
  walk_at "w*"
  refine rw_sum (ns := (List.range n).map fun i => f (n + i)) (by rw [← seqI_sum]; exact hb'.seq) ?_
  walk_at "w*"
  refine w_conI (co_Standing_MOST_GUESTS T) (cl_Standing T) ?_
  walk_at "w*"
  refine ⟨_, _, .r hp, by decide, ?_⟩
  walk_at "w*"
  have hs := O.sum
  unfold tot at hs
  refine ifD (fun h => absurd h (by omega)) (fun _ => ?_)
  walk_at "w*"
  refine ⟨n, es, xc, _, rfl, hc', fun k hk => O.cars k hk, ?_⟩
  walk_at "w*"
  refine ⟨_, _, _, _, rfl, hp, by walk_at "cls", by walk_at "noat", by decide, by decide, ?_⟩
  walk_at "w*"
  refine rw_tuple hr'.seq ?_
  walk_at "w*"
  refine ⟨_, _, _, _, rfl, stU_same, by walk_at "cls", by walk_at "noat", by decide, by decide, ?_⟩
  walk_at "w*"
  refine rw_tuple hb'.seq ?_
  walk_at "w*"
  refine ⟨_, _, _, _, rfl, stU_same, by walk_at "cls", by walk_at "noat", by decide, by decide, ?_⟩
  walk_at "w*"
  refine rw_tuple hc'.seq ?_
  walk_at "w*"
  refine ⟨_, _, _, _, rfl, stU_same, by walk_at "cls", by walk_at "noat", by decide, by decide, ?_⟩
  rw [stU_U, stU_U, stU_U]
  exact ⟨_, Sub.refl _, q⟩
theorem ok_far_end (T : Hd fn fa xs K mg) : FnE P w K mg base 1 (He.fAd K d_far_end.at_) ps_far_end (spOf K (sp_far_end K)) := by
  refine T.ok _ ix_far_end (N := N_far_end) rfl sc_far_end (fun ds S Φ ⟨_, _, _, _, e, _⟩ => by rw [e]; rfl) (fun _ _ _ _ _ _ us hl => ?_) fun cdv A outer s H E hr => ⟨_, dv_far_end T hr, ?_⟩
  · match us, hl with
    | [a, b, c], _ => rfl
  rintro _ S Φ ⟨n, es, k, s, rfl, hk, q⟩
  unfold t_far_end
  walk_at "w*"
  refine rw_ixn (0, 0) .t hk ?_
  walk_at "w*"
  unfold endsK at q
  refine ifD (fun h => ?_) (fun h => ?_)
  · walk_at "w*"
    rw [if_pos (by omega)] at q
    exact q
  · walk_at "w*"
    rw [if_neg (by omega)] at q
    exact q
theorem colS_blue {b : Bool} : decide (colS b = "blue") = b := by cases b <;> decide
theorem colS_red {b : Bool} : decide (colS b = "red") = !b := by cases b <;> decide
theorem ok_car_station (T : Hd fn fa xs K mg) : FnE P w K mg base 1 (He.fAd K d_car_station.at_) ps_car_station (spOf K (sp_car_station K)) := by
  refine T.ok _ ix_car_station (N := N_car_station) rfl sc_car_station (fun ds S Φ ⟨_, _, _, _, e, _⟩ => by rw [e]; rfl) (fun _ _ _ _ _ _ us hl => ?_) fun cdv A outer s H E hr => ⟨_, dv_car_station T hr, ?_⟩
  · match us, hl with
    | [a, b, c], _ => rfl
  rintro _ S Φ ⟨n, es, f, r, rfl, O, hk, q⟩
  unfold t_car_station
  walk_at "w*"
  refine rw_ixr .t hk ?_
  walk_at "w*"
  rw [colS_blue]
  unfold at_ endsK at q
  have hc := O.cars r.1 hk
  refine ifB (fun hb => ?_) (fun hb => ?_)
  · walk_at "w*"
    refine rw_ixn (0, 0) .t hk ?_
    walk_at "w*"
    rcases hc with z | z
    · rw [z] at q ⊢
      rw [if_neg (by simp [hb])] at q
      exact rw_ix (i := 1 - 0) .t rfl ⟨_, Sub.refl _, q⟩
    · rw [z] at q ⊢
      rw [if_pos (by simp [hb])] at q
      exact rw_ix (i := 1 - 1) .t rfl ⟨_, Sub.refl _, q⟩
  · walk_at "w*"
    refine rw_ixn (0, 0) .t hk ?_
    walk_at "w*"
    rcases hc with z | z
    · rw [z] at q ⊢
      rw [if_pos (by simp [hb])] at q
      exact rw_ix (i := 0) .t rfl ⟨_, Sub.refl _, q⟩
    · rw [z] at q ⊢
      rw [if_neg (by simp [hb])] at q
      exact rw_ix (i := 1) .t rfl ⟨_, Sub.refl _, q⟩
theorem ok_guests_of (T : Hd fn fa xs K mg) : FnE P w K mg base 1 (He.fAd K d_guests_of.at_) ps_guests_of (spOf K (sp_guests_of K)) := by
  refine T.ok _ ix_guests_of (N := N_guests_of) rfl sc_guests_of (fun ds S Φ ⟨_, _, _, _, e, _⟩ => by rw [e]; rfl) (fun _ _ _ _ _ _ us hl => ?_) fun cdv A outer s H E hr => ⟨_, dv_guests_of T hr, ?_⟩
  · match us, hl with
    | [a, b], _ => rfl
  rintro _ S Φ ⟨n, es, f, b, rfl, q⟩
  unfold t_guests_of
  walk_at "w*"
  rw [colS_red]
  cases b with
  | false =>
    refine iteT ?_
    walk_at "w*"
    rw [show (fun i => f (off n false + i)) = f from by funext i; simp [off]] at q
    exact q
  | true =>
    refine iteF ?_
    walk_at "w*"
    exact q
theorem ok__is_possible (T : Hd fn fa xs K mg) : FnE P w K mg base 2 (He.fAd K d__is_possible.at_) ps__is_possible (spOf K (sp__is_possible K)) := by
  refine T.ok _ ix__is_possible (N := N__is_possible) rfl sc__is_possible (fun ds S Φ ⟨_, _, _, _, e, _⟩ => by rw [e]; rfl) (fun _ _ _ _ _ _ us hl => ?_) fun cdv A outer s H E hr => ⟨_, dv__is_possible T (ok_guests_of T) (ok_car_station T) hr, ?_⟩
  · match us, hl with
    | [a, b, c], _ => rfl
  rintro _ S Φ ⟨n, es, f, r, rfl, N, O, hk, q⟩
  unfold t__is_possible
  walk_at "w*"
  refine ⟨n, es, f, r.2, rfl, ?_⟩
  walk_at "w*"
  refine ⟨n, es, f, r, rfl, O, hk, ?_⟩
  refine rw_ixr .t (at_lt N hk) ?_
  walk_at "w*"
  exact q
theorem ok_moved (T : Hd fn fa xs K mg) : FnE P w K mg base 4 (He.fAd K d_moved.at_) ps_moved (spOf K (sp_moved K)) := by
  refine T.ok _ ix_moved (N := N_moved) rfl sc_moved (fun ds S Φ ⟨_, _, _, _, e, _⟩ => by rw [e]; rfl) (fun _ _ _ _ _ _ us hl => ?_) fun cdv A outer s H E hr => ⟨_, dv_moved T (ok_car_station T) (ok_far_end T) (ok_guests_of T) (ok_Standing___init__ T) hr, ?_⟩
  · match us, hl with
    | [a, b, c], _ => rfl
  rintro _ S Φ ⟨n, es, f, r, rfl, N, O, hc, q⟩
  have hk := hc.1
  have a1 := at_lt (f := f) N hk
  have a2 := to_lt (f := f) N hk
  have a3 := at_ne (f := f) N hk
  have a4 := N.at hk
  unfold t_moved
  walk_at "w*"
  refine ⟨n, es, f, r, rfl, O, hk, ?_⟩
  walk_at "w*"
  refine ⟨n, es, r.1, _, rfl, hk, ?_⟩
  have e0 : (if at_ n es f r = (endsK es r.1).1 then (endsK es r.1).2 else (endsK es r.1).1) = to_ n es f r := by
    unfold at_ to_
    by_cases z : (f (2 * n + r.1) = 0 ↔ r.2 = false)
    · rw [if_pos z, if_pos z, if_pos rfl]
    · rw [if_neg z, if_neg z, if_neg (Ne.symm a4.2.2)]
  rw [e0]
  walk_at "w*"
  refine ⟨n, es, f, r.2, rfl, ?_⟩
  walk_at "w*"
  refine rw_listM .t fun p hp => ?_
  walk_at "w*"
  refine rw_ixr (.r stU_same) a1 ?_
  walk_at "w*"
  refine rs_set stU_same (ix_nat (Int.natCast_nonneg _) (by rw [seqI_len]; omega)) ?_
  rw [stU_U, Int.toNat_natCast, seqI_set a1]
  walk_at "w*"
  refine rw_ixr (.r stU_same) a2 ?_
  rw [if_neg (Ne.symm a3)]
  walk_at "w*"
  refine rs_set stU_same (ix_nat (Int.natCast_nonneg _) (by rw [seqI_len]; omega)) ?_
  rw [stU_U, Int.toNat_natCast, seqI_set a2]
  walk_at "w*"
  refine rw_listM .t fun p2 hp2 => ?_
  have hpp : p ≠ p2 := fun e => by rw [← e, stU_same] at hp2; cases hp2
  have hS2 : S p2 = none := by rw [stU_ne (Ne.symm hpp)] at hp2; exact hp2
  walk_at "w*"
  refine rw_ixr (.r stU_same) hk ?_
  walk_at "w*"
  refine rs_set stU_same (ix_nat (Int.natCast_nonneg _) (by rw [seqI_len]; omega)) ?_
  rw [stU_U, Int.toNat_natCast, seqI_set hk]
  refine ws_fz stU_same (Γ' := [some (stgD K n es f), some (.int r.1), some (.str (colS r.2)), none, none, some (.ref p), some (.lst _)]) (by walk_at "fz") ?_
  rw [stD_U hp2]
  refine ws_fz stU_same (Γ' := [some (stgD K n es f), some (.int r.1), some (.str (colS r.2)), none, none, some (.lst _), some (.lst _)]) (by walk_at "fz") ?_
  rw [stD_U hp]
  have OR := O.ride N hc
  have q1 : seqI n (fun j => if j = to_ n es f r then f (off n r.2 + to_ n es f r) + 1 else if j = at_ n es f r then f (off n r.2 + at_ n es f r) - 1 else f (off n r.2 + j)) = seqI n fun i => ride n es f r (off n r.2 + i) := seqI_congr fun i hi => (ride_own N hk hi).symm
  have q2 : seqI es.length (fun j => if j = r.1 then 1 - f (2 * n + r.1) else f (2 * n + j)) = seqI es.length fun k => ride n es f r (2 * n + k) := seqI_congr fun i hi => (ride_car N hk).symm
  have q3 : (seqI n fun i => f (off n (!r.2) + i)) = seqI n fun i => ride n es f r (off n (!r.2) + i) := seqI_congr fun i hi => (ride_other N hk hi).symm
  rw [q1, q2]
  walk_at "w*"
  rw [colS_red]
  have z0 : ∀ g : Conf, (fun i => g (off n false + i)) = g := fun g => by funext i; simp [off]
  have z1 : ∀ g : Conf, (fun i => g (off n true + i)) = fun i => g (n + i) := fun g => by funext i; simp [off]
  cases hb : r.2 with
  | false =>
    rw [hb, Bool.not_false, z1, z1] at q3
    refine iteT ?_
    walk_at "w*"
    refine fun p3 hp3 => ?_
    refine ⟨p3, n, es, ride n es f r, _, _, _, rfl, stU_same, OR, ?_, ?_, .l, rfl, _, _, stU_same, ?_⟩
    · rw [z0]; exact .l
    · rw [← q3]; exact .t
    · rw [stU_U, stD_U hp3]
      exact ⟨_, Sub.refl _, q⟩
  | true =>
    rw [hb, Bool.not_true, z0, z0] at q3
    refine iteF ?_
    walk_at "w*"
    refine fun p3 hp3 => ?_
    refine ⟨p3, n, es, ride n es f r, _, _, _, rfl, stU_same, OR, ?_, ?_, .l, rfl, _, _, stU_same, ?_⟩
    · rw [← q3]; exact .t
    · rw [z1]; exact .l
    · rw [stU_U, stD_U hp3]
      exact ⟨_, Sub.refl _, q⟩
end
end Tw


set_option Elab.async false
set_option linter.all false
set_option maxRecDepth 100000
set_option maxHeartbeats 4000000
namespace Tw
open PySem PySem.Spec PyProof.Rows L2
abbrev billD (K : PySem.W.Frag) (n : Nat) (es : List (Nat × Nat)) (c : Ride → Int) : D := .obj (He.ga K "Bill") ["net", "reds", "blues"] [netD K n es, .tup (seqI es.length fun k => c (k, false)), .tup (seqI es.length fun k => c (k, true))]
abbrev tripD (K : PySem.W.Frag) (rs : List Ride) : D := .obj (He.ga K "Trip") ["rides"] [.tup (rs.map wD)]
/-- told of walks that are possible -/
def sp_walk (K : PySem.W.Frag) : Spec := fun ds S Φ => ∃ (n : Nat) (es : List (Nat × Nat)) (f : Conf) (x : D) (rs : List Ride), ds = [stgD K n es f, x] ∧ NetOk n es ∧ Ok n es f ∧ Stands x (rs.map wD) ∧ rs.length ≤ 1000 ∧ walkOk n es f rs ∧ Φ (.lst ((path n es f rs).map (stgD K n es))) S
def sp_prices_for (K : PySem.W.Frag) : Spec := fun ds S Φ => ∃ (n : Nat) (es : List (Nat × Nat)), ds = [netD K n es, .non] ∧ es.length ≤ 1000 ∧ Φ (.lst (seqI es.length fun _ => 1)) S
def sp_differences : Spec := fun ds S Φ => ∃ (m : Nat) (a b : Nat → Int), ds = [.tup (seqI m a), .tup (seqI m b)] ∧ m ≤ 1000 ∧ Φ (.lst (seqI m fun i => a i - b i)) S
/-- what a station gives by the crossings c -/
def flow (es : List (Nat × Nat)) (c : Nat → Int) : Nat → Nat → Int
  | 0, _ => 0
  | i + 1, s => flow es c i s + (if (endsK es i).1 = s then c i else 0) - (if (endsK es i).2 = s then c i else 0)
def sp_outflows (K : PySem.W.Frag) : Spec := fun ds S Φ => ∃ (n : Nat) (es : List (Nat × Nat)) (c : Nat → Int), ds = [netD K n es, .tup (seqI es.length c)] ∧ NetOk n es ∧ Φ (.lst (seqI n fun s => flow es c es.length s)) S
def sp_Bill___init__ (K : PySem.W.Frag) : Spec := fun ds S Φ => ∃ (p : Addr) (n : Nat) (es : List (Nat × Nat)) (c : Ride → Int) (xr xb : D), ds = [.ref p, netD K n es, xr, xb] ∧ S p = some (.ins (He.ga K "Bill") [] []) ∧
  Stands xr (seqI es.length fun k => c (k, false)) ∧ Stands xb (seqI es.length fun k => c (k, true)) ∧
  Φ .non (stU S p (.ins (He.ga K "Bill") ["net", "reds", "blues"] [netD K n es, .tup (seqI es.length fun k => c (k, false)), .tup (seqI es.length fun k => c (k, true))]))
def sp_Net___eq__ (K : PySem.W.Frag) : Spec := fun ds S Φ => ∃ (n : Nat) (es : List (Nat × Nat)), ds = [netD K n es, netD K n es] ∧ Φ (.bl true) S
def sp0_check_nets (K : PySem.W.Frag) : Spec := fun ds S Φ => ∃ (n : Nat) (es : List (Nat × Nat)) (c d : Ride → Int), ds = [billD K n es c, .tup [billD K n es d]] ∧ Φ .non S
def sp_check_nets (K : PySem.W.Frag) : Spec := fun ds S Φ => ∃ ws rest, ds = ws ++ rest ∧ ws.length = ["first"].length ∧ rest.length ≤ 1000000 ∧ sp0_check_nets K (ws ++ [.tup rest]) S Φ
def sp_Bill___add__ (K : PySem.W.Frag) : Spec := fun ds S Φ => ∃ (n : Nat) (es : List (Nat × Nat)) (c d : Ride → Int), ds = [billD K n es c, billD K n es d] ∧ es.length ≤ 1000 ∧ Φ (billD K n es fun r => c r + d r) S
def sp_Bill___sub__ (K : PySem.W.Frag) : Spec := fun ds S Φ => ∃ (n : Nat) (es : List (Nat × Nat)) (c d : Ride → Int), ds = [billD K n es c, billD K n es d] ∧ es.length ≤ 1000 ∧ Φ (billD K n es fun r => c r - d r) S
def sp_Bill___neg__ (K : PySem.W.Frag) : Spec := fun ds S Φ => ∃ (n : Nat) (es : List (Nat × Nat)) (c : Ride → Int), ds = [billD K n es c] ∧ es.length ≤ 1000 ∧ Φ (billD K n es fun r => - c r) S
def costOf (m : Nat) (c : Ride → Int) : Int := ((List.range m).map fun k => (((c (k, false)).natAbs : Nat) : Int) + ((c (k, true)).natAbs : Nat)).sum
def sp_Bill_cost (K : PySem.W.Frag) : Spec := fun ds S Φ => ∃ (n : Nat) (es : List (Nat × Nat)) (c : Ride → Int), ds = [billD K n es c, .non] ∧ es.length ≤ 1000 ∧ Φ (.int (costOf es.length c)) S
def sp_Bill_leads (K : PySem.W.Frag) : Spec := fun ds S Φ => ∃ (n : Nat) (es : List (Nat × Nat)) (c : Ride → Int) (f g : Conf), ds = [billD K n es c, stgD K n es f, stgD K n es g] ∧ NetOk n es ∧
  (∀ k, k < es.length → c (k, false) - c (k, true) = g (2 * n + k) - f (2 * n + k)) ∧ (∀ s, s < n → flow es (fun k => c (k, false)) es.length s = f s - g s) ∧ (∀ s, s < n → flow es (fun k => c (k, true)) es.length s = f (n + s) - g (n + s)) ∧ Φ (.bl true) S
def sp_bill_of (K : PySem.W.Frag) : Spec := fun ds S Φ => ∃ (n : Nat) (es : List (Nat × Nat)) (f : Conf) (rs : List Ride), ds = [stgD K n es f, .lst (rs.map wD)] ∧ NetOk n es ∧ Ok n es f ∧ rs.length ≤ 1000 ∧ walkOk n es f rs ∧ Φ (billD K n es (cr n es f rs)) S
def sp__cut_off : Spec := fun ds S Φ => ∃ (n : Nat) (es : List (Nat × Nat)), ds = [.int n, .lst (es.map pD)] ∧ NetOk n es ∧ Conn n es ∧ Φ (.lst []) S
def sp__check_size : Spec := fun ds S Φ => ∃ (n : Nat), ds = [.int n, .int 1] ∧ 1 ≤ n ∧ n ≤ 24 ∧ Φ .non S
def sp_Net___init__ (K : PySem.W.Frag) : Spec := fun ds S Φ => ∃ (p : Addr) (n : Nat) (es : List (Nat × Nat)), ds = [.ref p, .int n, .lst (es.map pD)] ∧ S p = some (.ins (He.ga K "Net") [] []) ∧ NetOk n es ∧ Conn n es ∧
  Φ .non (stU S p (.ins (He.ga K "Net") ["stations", "ropes"] [.int n, .tup (es.map pD)]))
def sp_Trip___init__ (K : PySem.W.Frag) : Spec := fun ds S Φ => ∃ (p : Addr) (x : D) (rs : List Ride), ds = [.ref p, x] ∧ S p = some (.ins (He.ga K "Trip") [] []) ∧ Stands x (rs.map wD) ∧ rs.length ≤ 1000 ∧
  Φ .non (stU S p (.ins (He.ga K "Trip") ["rides"] [.tup (rs.map wD)]))
def sp_Trip_reduced (K : PySem.W.Frag) : Spec := fun ds S Φ => ∃ (rs : List Ride), ds = [tripD K rs] ∧ rs.length ≤ 1000 ∧ Φ (tripD K (red rs)) S
def sp_Trip___add__ (K : PySem.W.Frag) : Spec := fun ds S Φ => ∃ (rs qs : List Ride), ds = [tripD K rs, tripD K qs] ∧ rs.length ≤ 400 ∧ qs.length ≤ 400 ∧ Φ (tripD K (rs ++ qs)) S
def sp_Trip___invert__ (K : PySem.W.Frag) : Spec := fun ds S Φ => ∃ (rs : List Ride), ds = [tripD K rs] ∧ rs.length ≤ 1000 ∧ Φ (tripD K rs.reverse) S
def sp_Trip___len__ (K : PySem.W.Frag) : Spec := fun ds S Φ => ∃ (rs : List Ride), ds = [tripD K rs] ∧ Φ (.int rs.length) S
def sp_Trip___bool__ (K : PySem.W.Frag) : Spec := fun ds S Φ => ∃ (rs : List Ride), ds = [tripD K rs] ∧ Φ (.bl (!rs.isEmpty)) S
theorem rw_mulM {K : PySem.W.Frag} {S : Store} {Φ : D → Store → Prop} {d : D} {n : Int} (h0 : -1000000 ≤ n) (h1 : n ≤ 1000000) (k : ∀ p, S p = none → Φ (.ref p) (stU S p (.lst (List.replicate n.toNat d)))) : R2W K rMulU (.lst [d]) (.int n) S Φ := rw_2 fun F H vx vy Q hs rx ry hq => by
  cases ry
  cases rx with
  | lst h hl hr =>
    have r : RepL K F _ [d] := ⟨hl, hr⟩
    obtain ⟨v, r', rfl, hv, hn⟩ := r.uncons
    have := hn.unnil
    subst this
    refine ⟨_, n, _, rfl, rfl, hs.ext _ _ h, by omega, by omega, ln (by simp; omega), fun p hp => ?_⟩
    have e : (List.replicate n.toNat [v]).flatten = List.replicate n.toNat v := by
      induction n.toNat with
      | zero => rfl
      | succ m ih => rw [List.replicate_succ, List.replicate_succ, List.flatten_cons, ih]; rfl
    rw [e]
    exact hq _ _ (.ref p) (.ref p) _ (Post.newS (c := .lst (List.replicate n.toNat d)) hs hp ⟨_, upd_same, RepL.rep hv n.toNat⟩) (.ref p) (k p (hs.no hp))
/-! ### kinds of data -/
theorem Emb.nat : Emb (fun n : Nat => D.int n) (fun n : Nat => PyData.int n) 0 where
  rep := fun _ r => by cases r; exact .int _
  lay := fun _ => rfl
  dep := fun _ => by simp [PyData.depth]
  eqv := fun a b => by
    simp only [PyData.eqv, beq_dec]
    by_cases h : a = b
    · simp [h]
    · have : ¬ ((a : Int) = b) := by omega
      simp [h, this]
theorem Emb.col : Emb (fun b : Bool => D.str (colS b)) (fun b => PyData.str (colS b)) 0 where
  rep := fun _ r => by cases r; exact .str _
  lay := fun b => by cases b <;> decide +kernel
  dep := fun _ => by simp [PyData.depth]
  eqv := fun a b => by cases a <;> cases b <;> decide
theorem emb_p : Emb pD (fun ab : Nat × Nat => .tuple [.int ab.1, .int ab.2]) 1 := Emb.pair Emb.nat Emb.nat
theorem emb_w : Emb wD (fun ab : Ride => .tuple [.int ab.1, .str (colS ab.2)]) 1 := Emb.pair Emb.nat Emb.col
theorem enumD_length {ds : List D} : (enumD ds).length = ds.length := by simp [enumD]
theorem zipD_seqI {m : Nat} {a b : Nat → Int} : zipD (seqI m a) (seqI m b) = (List.range m).map fun k => .tup [.int (a k), .int (b k)] := by
  unfold zipD seqI
  rw [List.zip_map, List.map_map]
  induction List.range m with
  | nil => rfl
  | cons x l ih => simp [ih]
theorem zipD_seqI_get {m i : Nat} {a b : Nat → Int} {x : D} (h : (zipD (seqI m a) (seqI m b))[i]? = some x) : i < m ∧ x = .tup [.int (a i), .int (b i)] := by
  rw [zipD_seqI, List.getElem?_map] at h
  by_cases hi : i < m
  · rw [List.getElem?_range hi] at h
    cases h
    exact ⟨hi, rfl⟩
  · rw [List.getElem?_eq_none (by simpa using hi)] at h; cases h
local macro_rules | `(tactic| walk_at "w") => `(tactic| first
  | ((with_reducible show WE _ (tVar _) _ _ _); refine w_var (by rfl) ?_)
  | ((with_reducible show WE _ (tC (.int _)) _ _ _); refine w_cI ?_)
  | ((with_reducible show WE _ (tC (.str _)) _ _ _); refine w_cS ?_)
  | ((with_reducible show WE _ (tC (.bl _)) _ _ _); refine w_cB ?_)
  | ((with_reducible show WE _ (tC .non) _ _ _); refine w_cN ?_)
  | ((with_reducible show WE _ (tC (.ty _)) _ _ _); refine w_cT ?_)
  | ((with_reducible show WE _ (tC (.ref _)) _ _ _); refine w_cR ?_)
  | ((with_reducible show WE _ (tOp _ _ _) _ _ _); refine w_op ?_)
  | ((with_reducible show WE _ (tUn _ _) _ _ _); refine w_un ?_)
  | ((with_reducible show WE _ (tChain _ _ _ _ _) _ _ _); refine w_chain ?_)
  | ((with_reducible show WE _ (tFld _ _ _) _ _ _); refine w_fld ?_)
  | ((with_reducible show WE _ (tIf _ _ _) _ _ _); refine w_ifE ?_)
  | ((with_reducible show WE _ (tTup _) _ _ _); refine w_tup ?_)
  | ((with_reducible show WE _ (tCB _ _) _ _ _); refine w_cb ?_)
  | ((with_reducible show WE _ (tCall _ _ _ _) _ _ _); refine w_call ?_)
  | ((with_reducible show WE _ (tMake _ _ _ _ _) _ _ _); refine w_make ?_)
  | ((with_reducible show WE _ (tMeth _ _ _ _ _ _ _) _ _ _); refine w_meth ?_)
  | ((with_reducible show WE _ (tSl _ _ _ _) _ _ _); refine w_sl ?_)
  | ((with_reducible show WE _ (tBM _ _ rAppend _ _) _ _ _); refine w_append (p := 0) (ds := []) ?_)
  | ((with_reducible show WE _ (tBM _ _ rExtend _ _) _ _ _); refine w_extend ?_)
  | ((with_reducible show WE _ (tBM _ _ rInsL _ _) _ _ _); refine w_insert ?_)
  | ((with_reducible show WE _ (tBM0 _ _ rPop _) _ _ _); refine w_pop ?_)
  | ((with_reducible show WE _ (tBM _ _ rPopAt _ _) _ _ _); refine w_popAt ?_)
  | ((with_reducible show WE _ (tBM _ _ (rCntD _) _ _) _ _ _); refine w_bmL ?_)
  | ((with_reducible show WE _ (tAndV _ _) _ _ _); refine w_andV ?_)
  | ((with_reducible show WE _ (tOrV _ _) _ _ _); refine w_orV ?_)
  | ((with_reducible show WE _ (tNotV _) _ _ _); refine w_notV ?_)
  | ((with_reducible show WA _ tNil _ _ _); refine wa_nil ?_)
  | ((with_reducible show WA _ (tCons _ _) _ _ _); refine wa_cons ?_)
  | ((with_reducible show WO _ tNoPart _ _ _); refine wo_none ?_)
  | ((with_reducible show WO _ (tPart _) _ _ _); refine wo_some ?_)
  | ((with_reducible show WT _ (tTest _) _ _ _); refine w_test ?_)
  | ((with_reducible show WT _ (tB _) _ _ _); refine w_tB ?_)
  | ((with_reducible show WT _ (tTru _ _) _ _ _); refine w_tru ?_)
  | ((with_reducible show WT _ (tTruO _ _) _ _ _); refine w_truO ?_)
  | ((with_reducible show WT _ (tAnd _ _) _ _ _); refine w_and ?_)
  | ((with_reducible show WT _ (tOr _ _) _ _ _); refine w_or ?_)
  | ((with_reducible show WT _ (tNot _) _ _ _); refine w_not ?_)
  | ((with_reducible show WT _ tYes _ _ _); refine wt_yes ?_)
  | ((with_reducible show WS _ (tSeq _ _) _ _ _); refine ws_seq ?_)
  | ((with_reducible show WS _ (tAsg _ (gName _)) _ _ _); refine ws_set ?_)
  | ((with_reducible show WS _ (tAsg _ _) _ _ _); refine ws_asg ?_)
  | ((with_reducible show WS _ (sFld _ _ _ _) _ _ _); refine ws_fld ?_)
  | ((with_reducible show WS _ (tDrop _) _ _ _); refine ws_drop ?_)
  | ((with_reducible show WS _ (tRet _) _ _ _); refine ws_ret ?_)
  | ((with_reducible show WS _ tRetN _ _ _); refine ws_retN ?_)
  | ((with_reducible show WS _ tNext _ _ _); refine ws_next ?_)
  | ((with_reducible show WS _ tBreak _ _ _); refine ws_break ?_)
  | ((with_reducible show WS _ tCont _ _ _); refine ws_cont ?_)
  | ((with_reducible show WS _ (tIfS _ _ _) _ _ _); refine ws_if ?_)
  | ((with_reducible show WS _ (tAug _ _ _) _ _ _); refine ws_aug (by rfl) ?_)
  | ((with_reducible show WS _ (tAugS _ _ _ _ _ _) _ _ _); refine ws_augS ?_)
  | ((with_reducible show WG _ (gName _) _ _ _ _); refine wg_name ?_)
  | ((with_reducible show WG _ (gTup _ _ _) (.tup _) _ _ _); refine wg_tup (by rfl) ?_)
  | ((with_reducible show WG _ (gSub _ _ _) _ _ _ _); refine wg_sub ?_)
  | ((with_reducible show WGs _ gNil [] _ _ _); refine wgs_nil ?_)
  | ((with_reducible show WGs _ (gCons _ _) (_ :: _) _ _ _); refine wgs_cons ?_)
  | ((with_reducible show WI _ (iRng1 _) _ _ _); refine wi_rng1 ?_)
  | ((with_reducible show WI _ (iRng2 _) _ _ _); refine wi_rng2 ?_)
  | ((with_reducible show WI _ (iSeqU _ _) _ _ _); refine wi_seq ?_)
  | ((with_reducible show WI _ (iEnumU _ _) _ _ _); refine wi_enum ?_)
  | ((with_reducible show WI _ (RZ.iZipA _ _) _ _ _); refine wi_zip ?_))
local macro_rules | `(tactic| walk_at "w") => `(tactic| first
  | ((with_reducible show ∃ C ns ds d, InsOf _ _ C ns ds ∧ _); refine ⟨_, _, _, _, .o, by walk_at "cls", by walk_at "noat", by rfl, ?_⟩)
  | ((with_reducible show R2W _ (rAddU _) (.int _) (.int _) _ _); refine rw_addI ?_)
  | ((with_reducible show R2W _ rSubI (.int _) (.int _) _ _); refine rw_subI ?_)
  | ((with_reducible show R2W _ rLtI (.int _) (.int _) _ _); refine rw_ltI ?_)
  | ((with_reducible show R2W _ rLeI (.int _) (.int _) _ _); refine rw_leI ?_)
  | ((with_reducible show R2W _ rGtI (.int _) (.int _) _ _); refine rw_gtI ?_)
  | ((with_reducible show R2W _ rGeI (.int _) (.int _) _ _); refine rw_geI ?_)
  | ((with_reducible show R2W _ (rEqU _) (.int _) (.int _) _ _); refine rw_eqUI ?_)
  | ((with_reducible show R2W _ (rEqU _) (.str _) (.str _) _ _); refine rw_eqUS ?_)
  | ((with_reducible show R2W _ (rNeU _) (.int _) (.int _) _ _); refine rw_neUI ?_)
  | ((with_reducible show R2W _ (rNeU _) (.str _) (.str _) _ _); refine rw_neUS ?_)
  | ((with_reducible show R1W _ rNegI (.int _) _ _); refine rw_negI ?_)
  | ((with_reducible show RLW _ (rLenQ _) [_] _ _); refine rw_len (by first | exact .t | exact .l | exact .r (by assumption)) ?_)
  | ((with_reducible show RLW _ rIntQ [.int _] _ _); refine rw_int ?_)
  | ((with_reducible show RLW _ rAbsQ [.int _] _ _); refine rw_abs ?_)
  | ((with_reducible show ∃ k, .bl _ = D.bl k ∧ _); refine ⟨_, rfl, ?_⟩)
  | ((with_reducible show ∃ k, .int _ = D.int k ∧ _); refine ⟨_, rfl, ?_⟩)
  | ((with_reducible show ∃ k, TruD _ (.bl _) k ∧ _); refine ⟨_, .bl, ?_⟩)
  | ((with_reducible show ∃ k, TruD _ (.int _) k ∧ _); refine ⟨_, .int, ?_⟩)
  | ((with_reducible show List.length _ ≤ 1000000 ∧ _); refine ⟨Nat.le_of_ble_eq_true rfl, ?_⟩)
  | ((with_reducible show ∃ S2, Sub S2 _ ∧ _); refine ⟨_, Sub.refl _, ?_⟩))
local macro_rules | `(tactic| walk_at "w*") => `(tactic| repeat walk_at "w")
local macro_rules | `(tactic| walk_at "le") => `(tactic| repeat first | exact Le.nil | exact Le.rfl | refine Le.som ?_ | refine Le.non ?_)
local macro_rules | `(tactic| walk_at "fz") => `(tactic| repeat first | exact Fz.nil | refine Fz.som ?_ | refine Fz.frz ?_ | refine Fz.non ?_)
local macro_rules | `(tactic| walk_at "cls") => `(tactic| first | exact cl_Net (by assumption) | exact cl_Standing (by assumption) | exact cl_Bill (by assumption) | exact cl_Trip (by assumption))
local macro_rules | `(tactic| walk_at "noat") => `(tactic| first | exact na_Net_stations (by assumption) | exact na_Net_ropes (by assumption) | exact na_Standing_net (by assumption) | exact na_Standing_reds (by assumption) | exact na_Standing_blues (by assumption) | exact na_Standing_cars (by assumption) | exact na_Bill_net (by assumption) | exact na_Bill_reds (by assumption) | exact na_Bill_blues (by assumption) | exact na_Trip_rides (by assumption))

section
variable {P : Program} {w : World} {K : PySem.W.Frag} {mg : Str → Option Value} {base : Heap}
theorem ok_walk (T : Hd fn fa xs K mg) : FnE P w K mg base 5 (He.fAd K d_walk.at_) ps_walk (spOf K (sp_walk K)) := by
  refine T.ok _ ix_walk (N := N_walk) rfl sc_walk (fun ds S Φ ⟨_, _, _, _, _, e, _⟩ => by rw [e]; rfl) (fun _ _ _ _ _ _ us hl => ?_) fun cdv A outer s H E hr => ⟨_, dv_walk T (ok_check_rides T) (ok__is_possible T) (ok_moved T) hr, ?_⟩
  · match us, hl with
    | [a, b], _ => rfl
  rintro _ S Φ ⟨n, es, f, x, rs, rfl, N, O, hx, hz, W, q⟩
  unfold t_walk
  walk_at "w*"
  refine ⟨n, es, x, rs, rfl, hx, fun r hr' => ?_, ?_⟩
  · obtain ⟨i, hi⟩ := List.mem_iff_getElem?.mp hr'
    exact (W i r hi).1
  walk_at "w*"
  refine w_lstM ?_
  walk_at "w*"
  intro p hp
  walk_at "w*"
  refine ws_forE ?_
  walk_at "w*"
  refine ⟨_, _, rfl, hx, fun i => [some (stgD K n es f), some x, some (stgD K n es (run n es f (rs.take i))), some (.ref p), none, none, none],
    fun i S' => S' = stU S p (.lst (((List.range (i + 1)).map fun j => run n es f (rs.take j)).map (stgD K n es))), by walk_at "le", rfl, fun i y S' hy e => ?_, fun S' e => ?_⟩
  · subst e
    obtain ⟨d, hd, rfl⟩ := enumD_get hy
    obtain ⟨r, hr', rfl⟩ := map_get hd
    have hi : i < rs.length := (List.getElem?_eq_some_iff.mp hr').1
    have Oi := O.run N W i (by omega)
    have ci := W i r hr'
    walk_at "w*"
    refine ⟨n, es, _, r, rfl, N, Oi, ci.1, ?_⟩
    walk_at "w*"
    rw [decide_eq_true ci.2]
    walk_at "w*"
    refine iteF ?_
    walk_at "w*"
    refine ⟨n, es, _, r, rfl, N, Oi, ci, ?_⟩
    walk_at "w*"
    refine ⟨_, _, rfl, stU_same, ?_⟩
    walk_at "w*"
    refine ⟨_, stU_same, by simp; omega, ?_⟩
    rw [stU_U, ← run_take hr']
    refine ⟨by walk_at "le", ?_⟩
    dsimp only
    rw [List.range_succ (n := i + 1), List.map_append, List.map_append]
    rfl
  · subst e
    rw [enumD_length, List.length_map]
    refine ws_fz stU_same (Γ' := [none, none, none, some (.lst _), none, none, none]) (by walk_at "fz") ?_
    rw [stD_U hp]
    walk_at "w*"
    exact q
theorem ok_prices_for (T : Hd fn fa xs K mg) : FnE P w K mg base 1 (He.fAd K d_prices_for.at_) ps_prices_for (spOf K (sp_prices_for K)) := by
  refine T.ok _ ix_prices_for (N := N_prices_for) rfl sc_prices_for (fun ds S Φ ⟨_, _, e, _⟩ => by rw [e]; rfl) (fun _ _ _ _ _ _ us hl => ?_) fun cdv A outer s H E hr => ⟨_, dv_prices_for T  hr, ?_⟩
  · match us, hl with
    | [a, b], _ => rfl
  rintro _ S Φ ⟨n, es, rfl, hz, q⟩
  unfold t_prices_for
  walk_at "w*"
  refine rw_isN (c := true) (fun F v r => by cases r; rfl) ?_
  walk_at "w*"
  refine iteT ?_
  walk_at "w*"
  refine w_lst ?_
  walk_at "w*"
  refine rw_mulL (by omega) (by rw [List.length_map]; omega) ?_
  rw [List.length_map, Int.toNat_natCast]
  refine ⟨_, Sub.refl _, ?_⟩
  have e : seqI es.length (fun _ => 1) = List.replicate es.length (.int 1) := by
    unfold seqI
    rw [List.map_const']
    simp
  rw [e] at q
  exact q
theorem ok_differences (T : Hd fn fa xs K mg) : FnE P w K mg base 1 (He.fAd K d_differences.at_) ps_differences (spOf K sp_differences) := by
  refine T.ok _ ix_differences (N := N_differences) rfl sc_differences (fun ds S Φ ⟨_, _, _, e, _⟩ => by rw [e]; rfl) (fun _ _ _ _ _ _ us hl => ?_) fun cdv A outer s H E hr => ⟨_, dv_differences T  hr, ?_⟩
  · match us, hl with
    | [a, b], _ => rfl
  rintro _ S Φ ⟨m, a, b, rfl, hz, q⟩
  unfold t_differences
  walk_at "w*"
  refine w_map (xs := List.range m) (f := fun k => .tup [.int (a k), .int (b k)]) (h := fun k => .int (a k - b k)) (go_tup (gos_cons (go_name (by simp)) (gos_cons (go_name (by simp)) gos_nil))) ?_
  walk_at "w*"
  refine ⟨_, _, _, _, rfl, .t, zipD_seqI, by simp; omega, fun k hk => ?_, ⟨_, Sub.refl _, q⟩⟩
  walk_at "w*"
  exact ⟨rfl, rfl⟩
theorem ok_Net___eq__ (T : Hd fn fa xs K mg) : FnE P w K mg base 1 (He.fAd K d_Net___eq__.at_) ps_Net___eq__ (spOf K (sp_Net___eq__ K)) := by
  refine T.ok _ ix_Net___eq__ (N := N_Net___eq__) rfl sc_Net___eq__ (fun ds S Φ ⟨_, _, e, _⟩ => by rw [e]; rfl) (fun _ _ _ _ _ _ us hl => ?_) fun cdv A outer s H E hr => ⟨_, dv_Net___eq__ T  hr, ?_⟩
  · match us, hl with
    | [a, b], _ => rfl
  rintro _ S Φ ⟨n, es, rfl, q⟩
  unfold t_Net___eq__
  walk_at "w*"
  refine rw_isi (.ins .o (in_Net T)) .own (kit_self _) ?_
  walk_at "w*"
  refine iteT ?_
  walk_at "w*"
  rw [decide_eq_true rfl]
  walk_at "w*"
  refine iteT ?_
  walk_at "w*"
  refine rw_eqUD (emb_p.tup) (a := es) (b := es) (by decide) ?_
  rw [decide_eq_true rfl]
  exact ⟨_, Sub.refl _, q⟩
theorem ok_check_nets (T : Hd fn fa xs K mg) : FnRE P w K mg base 2 (He.fAd K d_check_nets.at_) (spOf K (sp_check_nets K)) := by
  refine T.okStar _ ix_check_nets (N := N_check_nets) (ps := ["first"]) (pv := "others") (sp := sp0_check_nets K) rfl sc_check_nets (fun _ _ _ _ _ _ => StX.bind_star1 (B := fun l => bindArgs _ ⟨l, []⟩) (fun _ => rfl) (fun _ _ _ => rfl)) fun cdv A outer s H E hr => ⟨_, dv_check_nets T (ok_Net___eq__ T) hr, ?_⟩
  rintro _ S Φ ⟨n, es, c, d, rfl, q⟩
  unfold t_check_nets
  refine ws_forN [some (billD K n es c), none, none] (by walk_at "le") ?_
  walk_at "w*"
  refine ⟨_, .t, fun i y hy => ?_, ⟨_, Sub.refl _, q⟩⟩
  have e : y = billD K n es d := by
    cases i with
    | zero => simpa using hy.symm
    | succ i => simp at hy
  subst e
  walk_at "w*"
  refine rw_own2 .o .o ⟨n, es, rfl, ?_⟩
  walk_at "w*"
  refine iteF ?_
  walk_at "w*"
  exact ⟨by walk_at "le", rfl⟩
theorem ok_outflows (T : Hd fn fa xs K mg) : FnE P w K mg base 1 (He.fAd K d_outflows.at_) ps_outflows (spOf K (sp_outflows K)) := by
  refine T.ok _ ix_outflows (N := N_outflows) rfl sc_outflows (fun ds S Φ ⟨_, _, _, e, _⟩ => by rw [e]; rfl) (fun _ _ _ _ _ _ us hl => ?_) fun cdv A outer s H E hr => ⟨_, dv_outflows T  hr, ?_⟩
  · match us, hl with
    | [a, b], _ => rfl
  rintro _ S Φ ⟨n, es, c, rfl, N, q⟩
  unfold t_outflows
  have hn := N.hi
  walk_at "w*"
  refine w_lst ?_
  walk_at "w*"
  refine rw_mulM (by omega) (by omega) fun p hp => ?_
  rw [Int.toNat_natCast]
  have e0 : List.replicate n (D.int 0) = seqI n fun s => flow es c 0 s := by
    unfold seqI flow
    rw [List.map_const']
    simp
  rw [e0]
  walk_at "w*"
  refine ws_forE ?_
  walk_at "w*"
  refine ⟨_, _, _, _, rfl, .t, fun i => [some (netD K n es), some (.tup (seqI es.length c)), some (.ref p), none, none, none],
    fun i S' => S' = stU S p (.lst (seqI n fun s => flow es c i s)), by walk_at "le", rfl, fun i y S' hy e => ?_, fun S' e => ?_⟩
  · subst e
    obtain ⟨d, d', hd, hd', rfl⟩ := zipD_get hy
    obtain ⟨r, hr', rfl⟩ := map_get hd
    obtain ⟨hi, rfl⟩ := seqI_get hd'
    have hN := N.ends r (List.mem_of_getElem? hr')
    have hE : endsK es i = r := by
      unfold endsK
      rw [List.getD_eq_getElem?_getD, hr']; rfl
    walk_at "w*"
    refine ⟨_, _, _, flow es c i r.1, rfl, rfl, Int.natCast_nonneg _, stU_same, ?_, ?_⟩
    · rw [Int.toNat_natCast, List.getElem?_map, List.getElem?_range hN.1]; rfl
    walk_at "w*"
    refine ⟨_, _, rfl, stU_same, by rw [seqI_len, Int.toNat_natCast]; exact hN.1, ?_⟩
    rw [stU_U, Int.toNat_natCast, seqI_set hN.1]
    walk_at "w*"
    refine ⟨_, _, _, flow es c i r.2, rfl, rfl, Int.natCast_nonneg _, stU_same, ?_, ?_⟩
    · rw [Int.toNat_natCast, List.getElem?_map, List.getElem?_range hN.2.1]
      simp [hN.2.2.symm]
    walk_at "w*"
    refine ⟨_, _, rfl, stU_same, by rw [seqI_len, Int.toNat_natCast]; exact hN.2.1, ?_⟩
    rw [stU_U, Int.toNat_natCast, seqI_set hN.2.1]
    refine ⟨by walk_at "le", ?_⟩
    dsimp only
    refine congrArg (fun l => stU S p (.lst l)) (seqI_congr fun s hs => ?_)
    show _ = flow es c i s + (if (endsK es i).1 = s then c i else 0) - (if (endsK es i).2 = s then c i else 0)
    rw [hE]
    have hne := hN.2.2
    by_cases h2 : s = r.2
    · subst h2
      rw [if_pos rfl, if_neg hne, if_pos rfl]
      omega
    · rw [if_neg h2, if_neg (show ¬ r.2 = s from fun e => h2 e.symm)]
      by_cases h1 : s = r.1
      · subst h1
        rw [if_pos rfl, if_pos rfl]
        omega
      · rw [if_neg h1, if_neg (show ¬ r.1 = s from fun e => h1 e.symm)]
        omega
  · subst e
    rw [zipD_len, List.length_map, seqI_len, Nat.min_self]
    refine ws_fz stU_same (Γ' := [none, none, some (.lst _), none, none, none]) (by walk_at "fz") ?_
    rw [stD_U hp]
    walk_at "w*"
    exact q
theorem ok_Bill___init__ (T : Hd fn fa xs K mg) : FnE P w K mg base 1 (He.fAd K d_Bill___init__.at_) ps_Bill___init__ (spOf K (sp_Bill___init__ K)) := by
  refine T.ok _ ix_Bill___init__ (N := N_Bill___init__) rfl sc_Bill___init__ (fun ds S Φ ⟨_, _, _, _, _, _, e, _⟩ => by rw [e]; rfl) (fun _ _ _ _ _ _ us hl => ?_) fun cdv A outer s H E hr => ⟨_, dv_Bill___init__ T  hr, ?_⟩
  · match us, hl with
    | [a, b, c, d], _ => rfl
  rintro _ S Φ ⟨p, n, es, c, xr, xb, rfl, hp, hr', hb', q⟩
  unfold t_Bill___init__
  walk_at "w*"
  refine rw_len hr'.seq ?_
  walk_at "w*"
  rw [seqI_len, List.length_map, decide_eq_true rfl]
  refine iteF ?_
  walk_at "w*"
  refine rw_len hb'.seq ?_
  walk_at "w*"
  rw [seqI_len, List.length_map, decide_eq_true rfl]
  refine iteF ?_
  walk_at "w*"
  refine ⟨_, _, _, _, rfl, hp, by walk_at "cls", by walk_at "noat", by decide, by decide, ?_⟩
  walk_at "w*"
  refine rw_tuple hr'.seq ?_
  walk_at "w*"
  refine ⟨_, _, _, _, rfl, stU_same, by walk_at "cls", by walk_at "noat", by decide, by decide, ?_⟩
  walk_at "w*"
  refine rw_tuple hb'.seq ?_
  walk_at "w*"
  refine ⟨_, _, _, _, rfl, stU_same, by walk_at "cls", by walk_at "noat", by decide, by decide, ?_⟩
  rw [stU_U, stU_U]
  exact ⟨_, Sub.refl _, q⟩
theorem ok_Bill___add__ (T : Hd fn fa xs K mg) : FnE P w K mg base 3 (He.fAd K d_Bill___add__.at_) ps_Bill___add__ (spOf K (sp_Bill___add__ K)) := by
  refine T.ok _ ix_Bill___add__ (N := N_Bill___add__) rfl sc_Bill___add__ (fun ds S Φ ⟨_, _, _, _, e, _⟩ => by rw [e]; rfl) (fun _ _ _ _ _ _ us hl => ?_) fun cdv A outer s H E hr => ⟨_, dv_Bill___add__ T (ok_check_nets T) (ok_Bill___init__ T) hr, ?_⟩
  · match us, hl with
    | [a, b], _ => rfl
  rintro _ S Φ ⟨n, es, c, d, rfl, hz, q⟩
  unfold t_Bill___add__
  walk_at "w*"
  refine ⟨[billD K n es c], [billD K n es d], rfl, rfl, by simp, n, es, c, d, rfl, ?_⟩
  walk_at "w*"
  refine w_map (xs := List.range es.length) (f := fun k => .tup [.int (c (k, false)), .int (d (k, false))]) (h := fun k => .int (c (k, false) + d (k, false))) (go_tup (gos_cons (go_name (by simp)) (gos_cons (go_name (by simp)) gos_nil))) ?_
  walk_at "w*"
  refine ⟨_, _, _, _, rfl, .t, zipD_seqI, by simp; omega, fun k hk => ?_, ?_⟩
  · walk_at "w*"
    exact ⟨rfl, rfl⟩
  walk_at "w*"
  refine w_map (xs := List.range es.length) (f := fun k => .tup [.int (c (k, true)), .int (d (k, true))]) (h := fun k => .int (c (k, true) + d (k, true))) (go_tup (gos_cons (go_name (by simp)) (gos_cons (go_name (by simp)) gos_nil))) ?_
  walk_at "w*"
  refine ⟨_, _, _, _, rfl, .t, zipD_seqI, by simp; omega, fun k hk => ?_, ?_⟩
  · walk_at "w*"
    exact ⟨rfl, rfl⟩
  walk_at "w*"
  refine fun p3 hp3 => ?_
  refine ⟨p3, n, es, fun r => c r + d r, _, _, rfl, stU_same, .l, .l, rfl, _, _, stU_same, ?_⟩
  rw [stU_U, stD_U hp3]
  exact ⟨_, Sub.refl _, q⟩
theorem ok_Bill___sub__ (T : Hd fn fa xs K mg) : FnE P w K mg base 3 (He.fAd K d_Bill___sub__.at_) ps_Bill___sub__ (spOf K (sp_Bill___sub__ K)) := by
  refine T.ok _ ix_Bill___sub__ (N := N_Bill___sub__) rfl sc_Bill___sub__ (fun ds S Φ ⟨_, _, _, _, e, _⟩ => by rw [e]; rfl) (fun _ _ _ _ _ _ us hl => ?_) fun cdv A outer s H E hr => ⟨_, dv_Bill___sub__ T (ok_check_nets T) (ok_Bill___init__ T) (ok_differences T) hr, ?_⟩
  · match us, hl with
    | [a, b], _ => rfl
  rintro _ S Φ ⟨n, es, c, d, rfl, hz, q⟩
  unfold t_Bill___sub__
  walk_at "w*"
  refine ⟨[billD K n es c], [billD K n es d], rfl, rfl, by simp, n, es, c, d, rfl, ?_⟩
  walk_at "w*"
  refine ⟨_, _, _, rfl, hz, ?_⟩
  walk_at "w*"
  refine ⟨_, _, _, rfl, hz, ?_⟩
  walk_at "w*"
  refine fun p3 hp3 => ?_
  refine ⟨p3, n, es, fun r => c r - d r, _, _, rfl, stU_same, .l, .l, rfl, _, _, stU_same, ?_⟩
  rw [stU_U, stD_U hp3]
  exact ⟨_, Sub.refl _, q⟩
theorem ok_Bill___neg__ (T : Hd fn fa xs K mg) : FnE P w K mg base 3 (He.fAd K d_Bill___neg__.at_) ps_Bill___neg__ (spOf K (sp_Bill___neg__ K)) := by
  refine T.ok _ ix_Bill___neg__ (N := N_Bill___neg__) rfl sc_Bill___neg__ (fun ds S Φ ⟨_, _, _, e, _⟩ => by rw [e]; rfl) (fun _ _ _ _ _ _ us hl => ?_) fun cdv A outer s H E hr => ⟨_, dv_Bill___neg__ T (ok_Bill___init__ T) hr, ?_⟩
  · match us, hl with
    | [a], _ => rfl
  rintro _ S Φ ⟨n, es, c, rfl, hz, q⟩
  unfold t_Bill___neg__
  walk_at "w*"
  refine w_map (xs := List.range es.length) (f := fun k => .int (c (k, false))) (h := fun k => .int (- c (k, false))) (go_name (by simp)) ?_
  walk_at "w*"
  refine ⟨_, .t, rfl, by simp; omega, fun k hk => ?_, ?_⟩
  · walk_at "w*"
    exact ⟨rfl, rfl⟩
  walk_at "w*"
  refine w_map (xs := List.range es.length) (f := fun k => .int (c (k, true))) (h := fun k => .int (- c (k, true))) (go_name (by simp)) ?_
  walk_at "w*"
  refine ⟨_, .t, rfl, by simp; omega, fun k hk => ?_, ?_⟩
  · walk_at "w*"
    exact ⟨rfl, rfl⟩
  walk_at "w*"
  refine fun p3 hp3 => ?_
  refine ⟨p3, n, es, fun r => - c r, _, _, rfl, stU_same, .l, .l, rfl, _, _, stU_same, ?_⟩
  rw [stU_U, stD_U hp3]
  exact ⟨_, Sub.refl _, q⟩
end
end Tw


set_option Elab.async false
set_option linter.all false
set_option maxRecDepth 100000
set_option maxHeartbeats 4000000
namespace Tw
open PySem PySem.Spec PyProof.Rows L2
local macro_rules | `(tactic| walk_at "w") => `(tactic| first
  | ((with_reducible show WE _ (tVar _) _ _ _); refine w_var (by rfl) ?_)
  | ((with_reducible show WE _ (tC (.int _)) _ _ _); refine w_cI ?_)
  | ((with_reducible show WE _ (tC (.str _)) _ _ _); refine w_cS ?_)
  | ((with_reducible show WE _ (tC (.bl _)) _ _ _); refine w_cB ?_)
  | ((with_reducible show WE _ (tC .non) _ _ _); refine w_cN ?_)
  | ((with_reducible show WE _ (tC (.ty _)) _ _ _); refine w_cT ?_)
  | ((with_reducible show WE _ (tC (.ref _)) _ _ _); refine w_cR ?_)
  | ((with_reducible show WE _ (tOp _ _ _) _ _ _); refine w_op ?_)
  | ((with_reducible show WE _ (tUn _ _) _ _ _); refine w_un ?_)
  | ((with_reducible show WE _ (tChain _ _ _ _ _) _ _ _); refine w_chain ?_)
  | ((with_reducible show WE _ (tFld _ _ _) _ _ _); refine w_fld ?_)
  | ((with_reducible show WE _ (tIf _ _ _) _ _ _); refine w_ifE ?_)
  | ((with_reducible show WE _ (tTup _) _ _ _); refine w_tup ?_)
  | ((with_reducible show WE _ (tCB _ _) _ _ _); refine w_cb ?_)
  | ((with_reducible show WE _ (tCall _ _ _ _) _ _ _); refine w_call ?_)
  | ((with_reducible show WE _ (tMake _ _ _ _ _) _ _ _); refine w_make ?_)
  | ((with_reducible show WE _ (tMeth _ _ _ _ _ _ _) _ _ _); refine w_meth ?_)
  | ((with_reducible show WE _ (tSl _ _ _ _) _ _ _); refine w_sl ?_)
  | ((with_reducible show WE _ (tBM _ _ rAppend _ _) _ _ _); refine w_append (p := 0) (ds := []) ?_)
  | ((with_reducible show WE _ (tBM _ _ rExtend _ _) _ _ _); refine w_extend ?_)
  | ((with_reducible show WE _ (tBM _ _ rInsL _ _) _ _ _); refine w_insert ?_)
  | ((with_reducible show WE _ (tBM0 _ _ rPop _) _ _ _); refine w_pop ?_)
  | ((with_reducible show WE _ (tBM _ _ rPopAt _ _) _ _ _); refine w_popAt ?_)
  | ((with_reducible show WE _ (tBM _ _ (rCntD _) _ _) _ _ _); refine w_bmL ?_)
  | ((with_reducible show WE _ (tAndV _ _) _ _ _); refine w_andV ?_)
  | ((with_reducible show WE _ (tOrV _ _) _ _ _); refine w_orV ?_)
  | ((with_reducible show WE _ (tNotV _) _ _ _); refine w_notV ?_)
  | ((with_reducible show WA _ tNil _ _ _); refine wa_nil ?_)
  | ((with_reducible show WA _ (tCons _ _) _ _ _); refine wa_cons ?_)
  | ((with_reducible show WO _ tNoPart _ _ _); refine wo_none ?_)
  | ((with_reducible show WO _ (tPart _) _ _ _); refine wo_some ?_)
  | ((with_reducible show WT _ (tTest _) _ _ _); refine w_test ?_)
  | ((with_reducible show WT _ (tB _) _ _ _); refine w_tB ?_)
  | ((with_reducible show WT _ (tTru _ _) _ _ _); refine w_tru ?_)
  | ((with_reducible show WT _ (tTruO _ _) _ _ _); refine w_truO ?_)
  | ((with_reducible show WT _ (tAnd _ _) _ _ _); refine w_and ?_)
  | ((with_reducible show WT _ (tOr _ _) _ _ _); refine w_or ?_)
  | ((with_reducible show WT _ (tNot _) _ _ _); refine w_not ?_)
  | ((with_reducible show WT _ tYes _ _ _); refine wt_yes ?_)
  | ((with_reducible show WS _ (tSeq _ _) _ _ _); refine ws_seq ?_)
  | ((with_reducible show WS _ (tAsg _ (gName _)) _ _ _); refine ws_set ?_)
  | ((with_reducible show WS _ (tAsg _ _) _ _ _); refine ws_asg ?_)
  | ((with_reducible show WS _ (sFld _ _ _ _) _ _ _); refine ws_fld ?_)
  | ((with_reducible show WS _ (tDrop _) _ _ _); refine ws_drop ?_)
  | ((with_reducible show WS _ (tRet _) _ _ _); refine ws_ret ?_)
  | ((with_reducible show WS _ tRetN _ _ _); refine ws_retN ?_)
  | ((with_reducible show WS _ tNext _ _ _); refine ws_next ?_)
  | ((with_reducible show WS _ tBreak _ _ _); refine ws_break ?_)
  | ((with_reducible show WS _ tCont _ _ _); refine ws_cont ?_)
  | ((with_reducible show WS _ (tIfS _ _ _) _ _ _); refine ws_if ?_)
  | ((with_reducible show WS _ (tAug _ _ _) _ _ _); refine ws_aug (by rfl) ?_)
  | ((with_reducible show WS _ (tAugS _ _ _ _ _ _) _ _ _); refine ws_augS ?_)
  | ((with_reducible show WG _ (gName _) _ _ _ _); refine wg_name ?_)
  | ((with_reducible show WG _ (gTup _ _ _) (.tup _) _ _ _); refine wg_tup (by rfl) ?_)
  | ((with_reducible show WG _ (gSub _ _ _) _ _ _ _); refine wg_sub ?_)
  | ((with_reducible show WGs _ gNil [] _ _ _); refine wgs_nil ?_)
  | ((with_reducible show WGs _ (gCons _ _) (_ :: _) _ _ _); refine wgs_cons ?_)
  | ((with_reducible show WI _ (iRng1 _) _ _ _); refine wi_rng1 ?_)
  | ((with_reducible show WI _ (iRng2 _) _ _ _); refine wi_rng2 ?_)
  | ((with_reducible show WI _ (iSeqU _ _) _ _ _); refine wi_seq ?_)
  | ((with_reducible show WI _ (iEnumU _ _) _ _ _); refine wi_enum ?_)
  | ((with_reducible show WI _ (RZ.iZipA _ _) _ _ _); refine wi_zip ?_))
local macro_rules | `(tactic| walk_at "w") => `(tactic| first
  | ((with_reducible show ∃ C ns ds d, InsOf _ _ C ns ds ∧ _); refine ⟨_, _, _, _, .o, by walk_at "cls", by walk_at "noat", by rfl, ?_⟩)
  | ((with_reducible show R2W _ (rAddU _) (.int _) (.int _) _ _); refine rw_addI ?_)
  | ((with_reducible show R2W _ rSubI (.int _) (.int _) _ _); refine rw_subI ?_)
  | ((with_reducible show R2W _ rLtI (.int _) (.int _) _ _); refine rw_ltI ?_)
  | ((with_reducible show R2W _ rLeI (.int _) (.int _) _ _); refine rw_leI ?_)
  | ((with_reducible show R2W _ rGtI (.int _) (.int _) _ _); refine rw_gtI ?_)
  | ((with_reducible show R2W _ rGeI (.int _) (.int _) _ _); refine rw_geI ?_)
  | ((with_reducible show R2W _ (rEqU _) (.int _) (.int _) _ _); refine rw_eqUI ?_)
  | ((with_reducible show R2W _ (rEqU _) (.str _) (.str _) _ _); refine rw_eqUS ?_)
  | ((with_reducible show R2W _ (rNeU _) (.int _) (.int _) _ _); refine rw_neUI ?_)
  | ((with_reducible show R2W _ (rNeU _) (.str _) (.str _) _ _); refine rw_neUS ?_)
  | ((with_reducible show R1W _ rNegI (.int _) _ _); refine rw_negI ?_)
  | ((with_reducible show RLW _ (rLenQ _) [_] _ _); refine rw_len (by first | exact .t | exact .l | exact .r (by assumption)) ?_)
  | ((with_reducible show RLW _ rIntQ [.int _] _ _); refine rw_int ?_)
  | ((with_reducible show RLW _ rAbsQ [.int _] _ _); refine rw_abs ?_)
  | ((with_reducible show ∃ k, .bl _ = D.bl k ∧ _); refine ⟨_, rfl, ?_⟩)
  | ((with_reducible show ∃ k, .int _ = D.int k ∧ _); refine ⟨_, rfl, ?_⟩)
  | ((with_reducible show ∃ k, TruD _ (.bl _) k ∧ _); refine ⟨_, .bl, ?_⟩)
  | ((with_reducible show ∃ k, TruD _ (.int _) k ∧ _); refine ⟨_, .int, ?_⟩)
  | ((with_reducible show List.length _ ≤ 1000000 ∧ _); refine ⟨Nat.le_of_ble_eq_true rfl, ?_⟩)
  | ((with_reducible show ∃ S2, Sub S2 _ ∧ _); refine ⟨_, Sub.refl _, ?_⟩))
local macro_rules | `(tactic| walk_at "w*") => `(tactic| repeat walk_at "w")
local macro_rules | `(tactic| walk_at "le") => `(tactic| repeat first | exact Le.nil | exact Le.rfl | refine Le.som ?_ | refine Le.non ?_)
local macro_rules | `(tactic| walk_at "fz") => `(tactic| repeat first | exact Fz.nil | refine Fz.som ?_ | refine Fz.frz ?_ | refine Fz.non ?_)
local macro_rules | `(tactic| walk_at "cls") => `(tactic| first | exact cl_Net (by assumption) | exact cl_Standing (by assumption) | exact cl_Bill (by assumption) | exact cl_Trip (by assumption))
local macro_rules | `(tactic| walk_at "noat") => `(tactic| first | exact na_Net_stations (by assumption) | exact na_Net_ropes (by assumption) | exact na_Standing_net (by assumption) | exact na_Standing_reds (by assumption) | exact na_Standing_blues (by assumption) | exact na_Standing_cars (by assumption) | exact na_Bill_net (by assumption) | exact na_Bill_reds (by assumption) | exact na_Bill_blues (by assumption) | exact na_Trip_rides (by assumption))

theorem tup2_map {rs : List Ride} : rs.map (fun r => D.tup [.int r.1, .str (colS r.2)]) = rs.map wD := rfl
theorem at_last {ds : List D} {d : D} : atI (ds ++ [d]) (-1) = some d := by
  unfold atI ixN
  simp
  rw [if_pos (by omega)]
  have : (-1 + ((ds.length : Int) + 1)).toNat = ds.length := by omega
  simp [this]
section
variable {P : Program} {w : World} {K : PySem.W.Frag} {mg : Str → Option Value} {base : Heap}
theorem ok_Trip___init__ (T : Hd fn fa xs K mg) : FnE P w K mg base 1 (He.fAd K d_Trip___init__.at_) ps_Trip___init__ (spOf K (sp_Trip___init__ K)) := by
  refine T.ok _ ix_Trip___init__ (N := N_Trip___init__) rfl sc_Trip___init__ (fun ds S Φ ⟨_, _, _, e, _⟩ => by rw [e]; rfl) (fun _ _ _ _ _ _ us hl => ?_) fun cdv A outer s H E hr => ⟨_, dv_Trip___init__ T hr, ?_⟩
  · match us, hl with
    | [a, b], _ => rfl
  rintro _ S Φ ⟨p, x, rs, rfl, hp, hx, hz, q⟩
  unfold t_Trip___init__
  walk_at "w*"
  refine ws_forN [some (.ref p), some x, none, none, none] (by walk_at "le") ?_
  walk_at "w*"
  refine ⟨_, _, rfl, hx, fun i y hy => ?_, ?_⟩
  · obtain ⟨d, hd, rfl⟩ := enumD_get hy
    obtain ⟨r, hr', rfl⟩ := map_get hd
    walk_at "w*"
    refine ifD (fun h => absurd h (by omega)) (fun _ => ?_)
    walk_at "w*"
    refine rw_notInS (ns := ["red", "blue"]) .t ?_
    have e : decide (colS r.2 ∈ (["red", "blue"] : List Str)) = true := by cases r.2 <;> decide
    rw [e]
    walk_at "w*"
    refine iteF ?_
    walk_at "w*"
    exact ⟨by walk_at "le", rfl⟩
  walk_at "w*"
  refine w_map (xs := rs) (f := wD) (h := wD) (go_tup (gos_cons (go_name (by simp)) (gos_cons (go_name (by simp)) gos_nil))) ?_
  walk_at "w*"
  refine ⟨_, hx, rfl, by omega, fun r hr' => ?_, ?_⟩
  · walk_at "w*"
    exact ⟨rfl, rfl⟩
  walk_at "w*"
  refine rw_tuple .l ?_
  walk_at "w*"
  refine ⟨_, _, _, _, rfl, hp, by walk_at "cls", by walk_at "noat", by decide, by decide, ?_⟩
  exact ⟨_, Sub.refl _, q⟩
theorem ok_Trip___len__ (T : Hd fn fa xs K mg) : FnE P w K mg base 1 (He.fAd K d_Trip___len__.at_) ps_Trip___len__ (spOf K (sp_Trip___len__ K)) := by
  refine T.ok _ ix_Trip___len__ (N := N_Trip___len__) rfl sc_Trip___len__ (fun ds S Φ ⟨_, e, _⟩ => by rw [e]; rfl) (fun _ _ _ _ _ _ us hl => ?_) fun cdv A outer s H E hr => ⟨_, dv_Trip___len__ T hr, ?_⟩
  · match us, hl with
    | [a], _ => rfl
  rintro _ S Φ ⟨rs, rfl, q⟩
  unfold t_Trip___len__
  walk_at "w*"
  rw [List.length_map]
  exact q
theorem ok_Trip___bool__ (T : Hd fn fa xs K mg) : FnE P w K mg base 1 (He.fAd K d_Trip___bool__.at_) ps_Trip___bool__ (spOf K (sp_Trip___bool__ K)) := by
  refine T.ok _ ix_Trip___bool__ (N := N_Trip___bool__) rfl sc_Trip___bool__ (fun ds S Φ ⟨_, e, _⟩ => by rw [e]; rfl) (fun _ _ _ _ _ _ us hl => ?_) fun cdv A outer s H E hr => ⟨_, dv_Trip___bool__ T hr, ?_⟩
  · match us, hl with
    | [a], _ => rfl
  rintro _ S Φ ⟨rs, rfl, q⟩
  unfold t_Trip___bool__
  walk_at "w*"
  refine rw_boolS .t ?_
  rw [List.isEmpty_map]
  exact ⟨_, Sub.refl _, q⟩
theorem ok_Trip___add__ (T : Hd fn fa xs K mg) : FnE P w K mg base 3 (He.fAd K d_Trip___add__.at_) ps_Trip___add__ (spOf K (sp_Trip___add__ K)) := by
  refine T.ok _ ix_Trip___add__ (N := N_Trip___add__) rfl sc_Trip___add__ (fun ds S Φ ⟨_, _, e, _⟩ => by rw [e]; rfl) (fun _ _ _ _ _ _ us hl => ?_) fun cdv A outer s H E hr => ⟨_, dv_Trip___add__ T (ok_Trip___init__ T) hr, ?_⟩
  · match us, hl with
    | [a, b], _ => rfl
  rintro _ S Φ ⟨rs, qs, rfl, h1, h2, q⟩
  unfold t_Trip___add__
  walk_at "w*"
  refine rw_addT (by simp; omega) ?_
  walk_at "w*"
  refine fun p3 hp3 => ?_
  refine ⟨p3, _, rs ++ qs, rfl, stU_same, by rw [List.map_append]; exact .t, by simp; omega, rfl, _, _, stU_same, ?_⟩
  rw [stU_U, stD_U hp3]
  exact ⟨_, Sub.refl _, q⟩
theorem ok_Trip___invert__ (T : Hd fn fa xs K mg) : FnE P w K mg base 3 (He.fAd K d_Trip___invert__.at_) ps_Trip___invert__ (spOf K (sp_Trip___invert__ K)) := by
  refine T.ok _ ix_Trip___invert__ (N := N_Trip___invert__) rfl sc_Trip___invert__ (fun ds S Φ ⟨_, e, _⟩ => by rw [e]; rfl) (fun _ _ _ _ _ _ us hl => ?_) fun cdv A outer s H E hr => ⟨_, dv_Trip___invert__ T (ok_Trip___init__ T) hr, ?_⟩
  · match us, hl with
    | [a], _ => rfl
  rintro _ S Φ ⟨rs, rfl, h1, q⟩
  unfold t_Trip___invert__
  walk_at "w*"
  refine w_revT ?_
  walk_at "w*"
  refine ⟨_, rfl, ?_⟩
  walk_at "w*"
  refine fun p3 hp3 => ?_
  refine ⟨p3, _, rs.reverse, rfl, stU_same, by rw [List.map_reverse]; exact .t, by simp; omega, rfl, _, _, stU_same, ?_⟩
  rw [stU_U, stD_U hp3]
  exact ⟨_, Sub.refl _, q⟩
theorem ok_Trip_reduced (T : Hd fn fa xs K mg) : FnE P w K mg base 3 (He.fAd K d_Trip_reduced.at_) ps_Trip_reduced (spOf K (sp_Trip_reduced K)) := by
  refine T.ok _ ix_Trip_reduced (N := N_Trip_reduced) rfl sc_Trip_reduced (fun ds S Φ ⟨_, e, _⟩ => by rw [e]; rfl) (fun _ _ _ _ _ _ us hl => ?_) fun cdv A outer s H E hr => ⟨_, dv_Trip_reduced T (ok_Trip___init__ T) hr, ?_⟩
  · match us, hl with
    | [a], _ => rfl
  rintro _ S Φ ⟨rs, rfl, h1, q⟩
  unfold t_Trip_reduced
  walk_at "w*"
  refine w_lstM ?_
  walk_at "w*"
  refine fun p hp => ?_
  walk_at "w*"
  refine ws_forE ?_
  walk_at "w*"
  refine ⟨_, .t, fun i => [some (tripD K rs), some (.ref p), none], fun i S' => S' = stU S p (.lst ((red (rs.take i)).map wD)), by walk_at "le", rfl, fun i y S' hy e => ?_, fun S' e => ?_⟩
  · subst e
    obtain ⟨r, hr', rfl⟩ := map_get hy
    have hl := red_len (rs := rs.take i)
    have hl2 : (red (rs.take i)).length ≤ rs.length := Nat.le_trans hl (by rw [List.length_take]; exact Nat.min_le_right _ _)
    dsimp only
    rw [red_take hr']
    generalize red (rs.take i) = kept at *
    walk_at "w*"
    refine ⟨_, .seq (.r stU_same), ?_⟩
    rw [List.isEmpty_map]
    rcases List.eq_nil_or_concat kept with rfl | ⟨ks, k, rfl⟩
    · refine iteF ?_
      refine iteF ?_
      walk_at "w*"
      refine ⟨_, _, rfl, stU_same, ?_⟩
      walk_at "w*"
      refine ⟨_, stU_same, by simp, ?_⟩
      rw [stU_U]
      exact ⟨by walk_at "le", rfl⟩
    · rw [List.concat_eq_append] at *
      have e0 : (!(ks ++ [k]).isEmpty) = true := by cases ks <;> rfl
      rw [e0]
      refine iteT ?_
      walk_at "w*"
      rw [List.map_append]
      refine rw_ix (d := wD k) (.r stU_same) (at_last (ds := ks.map wD)) ?_
      walk_at "w*"
      refine rw_eqUD emb_w (a := k) (b := r) (by decide) ?_
      walk_at "w*"
      refine ifD (fun h => ?_) (fun h => ?_)
      · subst h
        walk_at "w*"
        refine ⟨_, _, wD k, rfl, stU_same, by simp, ?_⟩
        rw [stU_U]
        refine ⟨by walk_at "le", ?_⟩
        unfold redS
        rw [if_pos (by simp)]
        simp
      · walk_at "w*"
        refine ⟨_, _, rfl, stU_same, ?_⟩
        walk_at "w*"
        refine ⟨_, stU_same, by simp at *; omega, ?_⟩
        rw [stU_U]
        refine ⟨by walk_at "le", ?_⟩
        unfold redS
        rw [if_neg (by simpa using h)]
        simp
  · subst e
    rw [List.length_map, List.take_length]
    refine ws_fz stU_same (Γ' := [none, some (.lst _), none]) (by walk_at "fz") ?_
    rw [stD_U hp]
    walk_at "w*"
    refine fun p3 hp3 => ?_
    have := red_len (rs := rs)
    refine ⟨p3, _, red rs, rfl, stU_same, .l, by omega, rfl, _, _, stU_same, ?_⟩
    rw [stU_U, stD_U hp3]
    exact ⟨_, Sub.refl _, q⟩
theorem rw_eqSeq {S : Store} {Φ : D → Store → Prop} {m : Nat} {f g : Nat → Int} (h : ∀ k, k < m → f k = g k) (q : Φ (.bl true) S) : R2W K (rEqU K) (.lst (seqI m f)) (.lst (seqI m g)) S Φ := by
  rw [seqI_congr h, seqI_sum]
  refine rw_eqUD (Emb.lst Emb.int) (a := (List.range m).map g) (b := (List.range m).map g) (by decide) ?_
  rw [decide_eq_true rfl]
  exact q
theorem rw_neSeq {S : Store} {Φ : D → Store → Prop} {m : Nat} {f g : Nat → Int} (h : ∀ k, k < m → f k = g k) (q : Φ (.bl false) S) : R2W K (rNeU K) (.lst (seqI m f)) (.lst (seqI m g)) S Φ := by
  rw [seqI_congr h, seqI_sum]
  refine rw_neUD (Emb.lst Emb.int) (a := (List.range m).map g) (b := (List.range m).map g) (by decide) ?_
  rw [decide_eq_true rfl]
  exact q
theorem ok__check_size (T : Hd fn fa xs K mg) : FnE P w K mg base 1 (He.fAd K d__check_size.at_) ps__check_size (spOf K sp__check_size) := by
  refine T.ok _ ix__check_size (N := N__check_size) rfl sc__check_size (fun ds S Φ ⟨_, e, _⟩ => by rw [e]; rfl) (fun _ _ _ _ _ _ us hl => ?_) fun cdv A outer s H E hr => ⟨_, dv__check_size T hr, ?_⟩
  · match us, hl with
    | [a, b], _ => rfl
  rintro _ S Φ ⟨n, rfl, h1, h2, q⟩
  unfold t__check_size
  walk_at "w*"
  refine ifD (fun _ => ?_) (fun h => absurd h (by omega))
  walk_at "w*"
  refine w_cval (cv_Net_MOST_STATIONS T) ?_
  walk_at "w*"
  refine ⟨rfl, ?_⟩
  walk_at "w*"
  refine ifF (by simp; omega) ?_
  walk_at "w*"
  exact q
def bls (n : Nat) (J : Nat → Bool) : List D := (List.range n).map fun i => .bl (J i)
theorem bls_set {n i : Nat} {J : Nat → Bool} {b : Bool} (h : i < n) : (bls n J).set i (.bl b) = bls n (fun j => if j = i then b else J j) := by
  unfold bls
  refine List.ext_getElem? fun j => ?_
  rw [List.getElem?_set]
  by_cases e : i = j
  · subst e
    rw [if_pos rfl, if_pos (by simpa using h), List.getElem?_map, List.getElem?_range h]
    simp
  · rw [if_neg e, List.getElem?_map, List.getElem?_map]
    by_cases hj : j < n
    · rw [List.getElem?_range hj]
      simp [Ne.symm e]
    · rw [List.getElem?_eq_none (by simpa using hj)]; rfl
theorem rw_ixb {S : Store} {Φ : D → Store → Prop} {x : D} {J : Nat → Bool} {n k : Nat} (h : SeqOf S x (bls n J)) (h1 : k < n) (q : Φ (.bl (J k)) S) : R2W K (rIxU K) x (.int (k : Int)) S Φ := by
  refine rw_ixn (xs := List.range n) (f := fun i => .bl (J i)) 0 h (by simpa using h1) ?_
  rw [getD_range h1]
  exact q
theorem ok__cut_off (T : Hd fn fa xs K mg) : FnE P w K mg base 1 (He.fAd K d__cut_off.at_) ps__cut_off (spOf K sp__cut_off) := by
  refine T.ok _ ix__cut_off (N := N__cut_off) rfl sc__cut_off (fun ds S Φ ⟨_, _, e, _⟩ => by rw [e]; rfl) (fun _ _ _ _ _ _ us hl => ?_) fun cdv A outer s H E hr => ⟨_, dv__cut_off T hr, ?_⟩
  · match us, hl with
    | [a, b], _ => rfl
  rintro _ S Φ ⟨n, es, rfl, N, C, q⟩
  unfold t__cut_off
  have hn := N.hi
  walk_at "w*"
  refine w_lcM (go_name (by simp)) ?_
  walk_at "w*"
  refine ⟨n, rfl, by omega, by omega, fun i acc S' => acc = bls i (fun k => decide (k = 0)) ∧ S' = S, ⟨rfl, rfl⟩, by simp [rng]; omega, fun i x acc S' hx _ e => ?_, fun acc S' p e hp => ?_⟩
  · obtain ⟨rfl, rfl⟩ := e
    obtain ⟨k, hk, rfl⟩ := map_get hx
    obtain ⟨hi, rfl⟩ := List.getElem?_eq_some_iff.mp hk
    rw [List.getElem_range]
    walk_at "w*"
    refine iteT ?_
    walk_at "w*"
    refine ⟨?_, rfl⟩
    unfold bls
    rw [List.range_succ, List.map_append]
    simp
  obtain ⟨rfl, rfl⟩ := e
  have e0 : (rng 0 (n : Int).toNat).length = n := by simp [rng]
  rw [e0]
  walk_at "w*"
  refine ws_whileE (fun m S2 Γ2 => ∃ J g, Γ2 = [some (.int n), some (.lst (es.map pD)), some (.ref p), some (.bl g), none, none, none] ∧ S2 = stU S' p (.lst (bls n J)) ∧ J 0 = true ∧ (g = false → ∀ e ∈ es, J e.1 = J e.2) ∧ m = cntF n J + if g then 1 else 0)
    ⟨_, _, ?_, _, true, rfl, rfl, by simp, by simp, rfl⟩ fun m S2 Γ2 hI => ?_
  · walk_at "le"
  obtain ⟨J, g, rfl, rfl, hJ, hg, rfl⟩ := hI
  walk_at "w*"
  refine ifB (fun h => ?_) (fun h => ?_)
  · subst h
    walk_at "w*"
    refine ws_forE ?_
    walk_at "w*"
    have JS := joinF_spec (n := n) es J (fun e he => ⟨(N.ends e he).1, (N.ends e he).2.1⟩) hJ
    refine ⟨_, .l, fun i => [some (.int n), some (.lst (es.map pD)), some (.ref p), some (.bl (joinF (J, false) (es.take i)).2), none, none, none], fun i S2 => S2 = stU S' p (.lst (bls n (joinF (J, false) (es.take i)).1)), by walk_at "le", rfl, fun i y S2 hy e => ?_, fun S2 e => ?_⟩
    · subst e
      obtain ⟨r, hr', rfl⟩ := map_get hy
      have hN := N.ends r (List.mem_of_getElem? hr')
      dsimp only
      rw [joinF_take hr']
      generalize joinF (J, false) (es.take i) = a
      walk_at "w*"
      refine rw_ixb (.r stU_same) hN.1 ?_
      walk_at "w*"
      refine rw_ixb (.r stU_same) hN.2.1 ?_
      refine rw_neUB ?_
      walk_at "w*"
      refine ifN (fun h => ?_) (fun h => ?_)
      · walk_at "w*"
        refine rs_set stU_same (ix_nat (Int.natCast_nonneg _) (by simp [bls]; omega)) ?_
        rw [stU_U, Int.toNat_natCast, bls_set hN.1]
        walk_at "w*"
        refine rs_set stU_same (ix_nat (Int.natCast_nonneg _) (by simp [bls]; omega)) ?_
        rw [stU_U, Int.toNat_natCast, bls_set hN.2.1]
        walk_at "w*"
        unfold joinS
        rw [if_neg h]
        refine ⟨by walk_at "le", ?_⟩
        refine congrArg (fun l => stU S' p (.lst l)) ?_
        refine congrArg (bls n) ?_
        funext j
        by_cases h1 : j = r.2
        · simp [h1]
        · by_cases h2 : j = r.1 <;> simp [h1, h2]
      · walk_at "w*"
        unfold joinS
        rw [if_pos h]
        exact ⟨by walk_at "le", rfl⟩
    · subst e
      dsimp only
      rw [List.length_map, List.take_length]
      generalize hJ' : joinF (J, false) es = a at *
      obtain ⟨J2, g2⟩ := a
      rcases JS with ⟨j0, ⟨j1, j2⟩ | ⟨j1, j2, j3⟩⟩
      · have j1' : g2 = true := j1
        subst j1'
        refine ⟨_, _, ?_, .rfl, J2, true, rfl, rfl, j0, fun h => by (cases h), rfl⟩
        have j2' : cntF n J2 < cntF n J := j2
        omega
      · have j1' : g2 = false := j1
        have j2' : J2 = J := j2
        subst j1' j2'
        refine ⟨_, _, ?_, .rfl, J2, false, rfl, rfl, j0, fun _ => j3, rfl⟩
        rw [if_pos rfl, if_neg (by simp)]
        omega
  · subst h
    walk_at "w*"
    have hall := C J (hg rfl)
    refine w_filter (xs := List.range n) (f := fun k => .int (0 + (k : Nat))) (h := fun k => .int (0 + (k : Nat))) (q := fun k => !J k) (go_name (by simp)) ?_
    walk_at "w*"
    refine ⟨n, rfl, by omega, by omega, rfl, by simp; omega, fun k hk => ?_, ?_⟩
    · have hk' := List.mem_range.mp hk
      walk_at "w*"
      rw [Int.zero_add]
      refine rw_ixb (.r stU_same) hk' ?_
      walk_at "w*"
      refine ⟨rfl, rfl, fun _ => ?_⟩
      walk_at "w*"
      exact ⟨rfl, rfl⟩
    have e1 : (List.range n).filter (fun k => !J k) = [] := by
      refine List.filter_eq_nil_iff.mpr fun k hk => ?_
      rw [hall k (List.mem_range.mp hk), hJ]
      simp
    rw [e1]
    exact ⟨_, Sub.new hp, q⟩
theorem ok_Net___init__ (T : Hd fn fa xs K mg) : FnE P w K mg base 2 (He.fAd K d_Net___init__.at_) ps_Net___init__ (spOf K (sp_Net___init__ K)) := by
  refine T.ok _ ix_Net___init__ (N := N_Net___init__) rfl sc_Net___init__ (fun ds S Φ ⟨_, _, _, e, _⟩ => by rw [e]; rfl) (fun _ _ _ _ _ _ us hl => ?_) fun cdv A outer s H E hr => ⟨_, dv_Net___init__ T (ok__check_size T) (ok__cut_off T) hr, ?_⟩
  · match us, hl with
    | [a, b, c], _ => rfl
  rintro _ S Φ ⟨p, n, es, rfl, hp, N, C, q⟩
  unfold t_Net___init__
  have hn := N.hi
  have hn1 := N.lo
  have hf := N.few
  walk_at "w*"
  refine ⟨n, rfl, hn1, hn, ?_⟩
  walk_at "w*"
  refine w_conI (co_Net_MOST_ROPES T) (cl_Net T) ?_
  walk_at "w*"
  refine ⟨_, _, .r hp, by decide, ?_⟩
  walk_at "w*"
  rw [List.length_map]
  refine ifD (fun h => absurd h (by omega)) (fun _ => ?_)
  walk_at "w*"
  refine ws_forN [some (.ref p), some (.int n), some (.lst (es.map pD)), none, none, none, none] (by walk_at "le") ?_
  walk_at "w*"
  refine ⟨_, _, rfl, .l, fun i y hy => ?_, ?_⟩
  · obtain ⟨d, hd, rfl⟩ := enumD_get hy
    obtain ⟨r, hr', rfl⟩ := map_get hd
    have hN := N.ends r (List.mem_of_getElem? hr')
    walk_at "w*"
    refine ifD (fun _ => ?_) (fun h => absurd h (by omega))
    walk_at "w*"
    refine ifF (by simp; omega) ?_
    walk_at "w*"
    refine ifD (fun _ => ?_) (fun h => absurd h (by omega))
    walk_at "w*"
    refine ifF (by simp; omega) ?_
    walk_at "w*"
    refine ifF (by simp; omega) ?_
    walk_at "w*"
    exact ⟨by walk_at "le", rfl⟩
  walk_at "w*"
  refine ⟨n, es, rfl, N, C, ?_⟩
  walk_at "w*"
  refine ⟨_, .seq .l, ?_⟩
  refine iteF ?_
  walk_at "w*"
  refine ⟨_, _, _, _, rfl, hp, by walk_at "cls", by walk_at "noat", by decide, by decide, ?_⟩
  walk_at "w*"
  refine w_map (xs := es) (f := pD) (h := pD) (go_tup (gos_cons (go_name (by simp)) (gos_cons (go_name (by simp)) gos_nil))) ?_
  walk_at "w*"
  refine ⟨_, .l, rfl, by omega, fun r hr' => ?_, ?_⟩
  · walk_at "w*"
    exact ⟨rfl, rfl⟩
  walk_at "w*"
  refine rw_tuple .l ?_
  walk_at "w*"
  refine ⟨_, _, _, _, rfl, stU_same, by walk_at "cls", by walk_at "noat", by decide, by decide, ?_⟩
  rw [stU_U]
  exact ⟨_, Sub.refl _, q⟩
theorem ok_Bill_cost (T : Hd fn fa xs K mg) : FnDE P w K mg base 2 (He.fAd K d_Bill_cost.at_) ps_Bill_cost (d_Bill_cost.dvs K) (spOf K (sp_Bill_cost K)) := by
  refine T.okD _ ix_Bill_cost (N := N_Bill_cost) 1 (fun h => by cases h) rfl sc_Bill_cost (fun ds S Φ ⟨_, _, _, e, _⟩ => by rw [e]; rfl) (fun _ _ _ _ _ _ _ us its hl hl2 => ?_) fun cdv A outer s H E hr => ⟨_, dv_Bill_cost T (ok_prices_for T) hr, ?_⟩
  · match us, its, hl, hl2 with
    | [a], [b], _, _ => exact ⟨_, rfl, rfl⟩
  rintro _ S Φ ⟨n, es, c, rfl, hz, q⟩
  unfold t_Bill_cost
  walk_at "w*"
  refine ⟨n, es, rfl, hz, ?_⟩
  walk_at "w*"
  refine w_map (xs := List.range es.length) (f := fun k => .tup [.int (c (k, false)), .int (c (k, true))]) (h := fun k => .int (((c (k, false)).natAbs : Nat) + ((c (k, true)).natAbs : Nat))) (go_tup (gos_cons (go_name (by simp)) (gos_cons (go_name (by simp)) gos_nil))) ?_
  walk_at "w*"
  refine ⟨_, _, _, _, rfl, .t, zipD_seqI, by simp; omega, fun k hk => ?_, ?_⟩
  · walk_at "w*"
    exact ⟨rfl, rfl⟩
  walk_at "w*"
  refine w_map (xs := List.range es.length) (f := fun k => .tup [.int 1, .int (((c (k, false)).natAbs : Nat) + ((c (k, true)).natAbs : Nat))]) (h := fun k => .int (((c (k, false)).natAbs : Nat) + ((c (k, true)).natAbs : Nat))) (go_tup (gos_cons (go_name (by simp)) (gos_cons (go_name (by simp)) gos_nil))) ?_
  walk_at "w*"
  refine ⟨_, _, _, _, rfl, .l, zipD_seqI, by simp; omega, fun k hk => ?_, ?_⟩
  · walk_at "w*"
    refine rw_mulI (.inl ⟨by decide, by decide⟩) ?_
    rw [Int.one_mul]
    exact ⟨rfl, rfl⟩
  walk_at "w*"
  refine rw_sum (ns := (List.range es.length).map fun k => (((c (k, false)).natAbs : Nat) : Int) + ((c (k, true)).natAbs : Nat)) (by rw [List.map_map]; exact .l) ?_
  exact ⟨_, Sub.refl _, q⟩
theorem ok_Bill_leads (T : Hd fn fa xs K mg) : FnE P w K mg base 3 (He.fAd K d_Bill_leads.at_) ps_Bill_leads (spOf K (sp_Bill_leads K)) := by
  refine T.ok _ ix_Bill_leads (N := N_Bill_leads) rfl sc_Bill_leads (fun ds S Φ ⟨_, _, _, _, _, e, _⟩ => by rw [e]; rfl) (fun _ _ _ _ _ _ us hl => ?_) fun cdv A outer s H E hr => ⟨_, dv_Bill_leads T (ok_Net___eq__ T) (ok_differences T) (ok_outflows T) hr, ?_⟩
  · match us, hl with
    | [a, b, c], _ => rfl
  rintro _ S Φ ⟨n, es, c, f, g, rfl, N, e1, e2, e3, q⟩
  unfold t_Bill_leads
  have hn := N.hi
  have hf := N.few
  walk_at "w*"
  refine rw_ownNe .o .o ⟨n, es, rfl, ?_⟩
  walk_at "w*"
  refine iteF ?_
  walk_at "w*"
  refine rw_ownNe .o .o ⟨n, es, rfl, ?_⟩
  walk_at "w*"
  refine iteF ?_
  walk_at "w*"
  refine ⟨_, _, _, rfl, by omega, ?_⟩
  walk_at "w*"
  refine ⟨_, _, _, rfl, by omega, ?_⟩
  walk_at "w*"
  refine rw_neSeq e1 ?_
  walk_at "w*"
  refine iteF ?_
  walk_at "w*"
  refine ⟨n, es, _, rfl, N, ?_⟩
  walk_at "w*"
  refine ⟨_, _, _, rfl, by omega, ?_⟩
  walk_at "w*"
  refine rw_eqSeq e2 ?_
  walk_at "w*"
  refine iteT ?_
  walk_at "w*"
  refine ⟨n, es, _, rfl, N, ?_⟩
  walk_at "w*"
  refine ⟨_, _, _, rfl, by omega, ?_⟩
  walk_at "w*"
  refine rw_eqSeq e3 ?_
  exact ⟨_, Sub.refl _, q⟩
theorem stU2_congr {S : Store} {p q : Addr} {a a' b b' : List D} (h : a = a') (h' : b = b') : stU (stU S p (.lst a)) q (.lst b) = stU (stU S p (.lst a')) q (.lst b') := by rw [h, h']
theorem stU2_l {S : Store} {p q : Addr} {a b c : Cell} (h : p ≠ q) : stU (stU (stU S p a) q b) p c = stU (stU S p c) q b := by rw [stU_comm h, stU_U, stU_comm (Ne.symm h)]
theorem ok_bill_of (T : Hd fn fa xs K mg) : FnE P w K mg base 6 (He.fAd K d_bill_of.at_) ps_bill_of (spOf K (sp_bill_of K)) := by
  refine T.ok _ ix_bill_of (N := N_bill_of) rfl sc_bill_of (fun ds S Φ ⟨_, _, _, _, e, _⟩ => by rw [e]; rfl) (fun _ _ _ _ _ _ us hl => ?_) fun cdv A outer s H E hr => ⟨_, dv_bill_of T (ok_walk T) (ok_car_station T) (ok_Bill___init__ T) hr, ?_⟩
  · match us, hl with
    | [a, b], _ => rfl
  rintro _ S Φ ⟨n, es, f, rs, rfl, N, O, hz, W, q⟩
  unfold t_bill_of
  have hn := N.hi
  have hf := N.few
  walk_at "w*"
  refine w_lst ?_
  walk_at "w*"
  refine rw_mulM (by omega) (by simp; omega) fun p hp => ?_
  walk_at "w*"
  refine w_lst ?_
  walk_at "w*"
  refine rw_mulM (by omega) (by simp; omega) fun p2 hp2 => ?_
  have hpp : p ≠ p2 := fun e => by rw [← e, stU_same] at hp2; cases hp2
  have hS2 : S p2 = none := by rw [stU_ne (Ne.symm hpp)] at hp2; exact hp2
  have e0 : ∀ b, List.replicate ((List.map pD es).length : Int).toNat (D.int 0) = seqI es.length fun k => crP n es f rs 0 (k, b) := fun b => by
    unfold seqI crP
    rw [List.map_const']
    simp
  rw [e0 false]
  walk_at "w*"
  refine ws_forE ?_
  walk_at "w*"
  refine ⟨n, es, f, _, rs, rfl, N, O, .l, hz, W, ?_⟩
  walk_at "w*"
  refine ⟨_, _, _, _, rfl, .l, fun i => [some (stgD K n es f), some (.lst (rs.map wD)), some (netD K n es), some (.ref p), some (.ref p2), none, none, none, none, none, none],
    fun i S' => S' = stU (stU S p (.lst (seqI es.length fun k => crP n es f rs i (k, false)))) p2 (.lst (seqI es.length fun k => crP n es f rs i (k, true))), by walk_at "le", rfl, fun i y S' hy e => ?_, fun S' e => ?_⟩
  · subst e
    obtain ⟨d, d', hd, hd', rfl⟩ := zipD_get hy
    obtain ⟨r, hr', rfl⟩ := map_get hd'
    obtain ⟨g, hg, rfl⟩ := map_get hd
    have hi : i < rs.length := (List.getElem?_eq_some_iff.mp hr').1
    have hg' : g = run n es f (rs.take i) := by
      unfold path at hg
      rw [List.getElem?_map, List.getElem?_range (by omega)] at hg
      cases hg; rfl
    subst hg'
    have Oi := O.run N W i (by omega)
    have ci := W i r hr'
    have hk := ci.1
    have aN := N.at hk
    walk_at "w*"
    refine rw_ixn (0, 0) .t hk ?_
    walk_at "w*"
    refine ⟨n, es, _, r, rfl, Oi, hk, ?_⟩
    obtain ⟨k, b⟩ := r
    have hs1 : ((at_ n es (run n es f (rs.take i)) (k, b) : Nat) : Int) = ((es.getD k (0, 0)).1 : Nat) → stp n (run n es f (rs.take i)) (k, b) = 1 := fun h => by
      unfold stp
      by_cases z : (run n es f (rs.take i) (2 * n + k) = 0 ↔ b = false)
      · exact if_pos z
      · unfold at_ at h
        rw [if_neg z] at h
        exact absurd (Int.ofNat.inj h).symm aN.2.2
    have hs2 : ¬ ((at_ n es (run n es f (rs.take i)) (k, b) : Nat) : Int) = ((es.getD k (0, 0)).1 : Nat) → stp n (run n es f (rs.take i)) (k, b) = -1 := fun h => by
      unfold stp
      by_cases z : (run n es f (rs.take i) (2 * n + k) = 0 ↔ b = false)
      · unfold at_ at h
        rw [if_pos z] at h
        exact absurd rfl h
      · exact if_neg z
    have hst : ∀ x, crP n es f rs (i + 1) x = crP n es f rs i x + if x = (k, b) then stp n (run n es f (rs.take i)) (k, b) else 0 := fun x => by
      show crP n es f rs i x + (if rs[i]? = some x then stp n (run n es f (rs.take i)) x else 0) = _
      rw [hr']
      by_cases hx : x = (k, b)
      · subst hx; rw [if_pos rfl, if_pos rfl]
      · rw [if_neg hx, if_neg (fun h => hx (Option.some.inj h).symm)]
    have hk2 : k < es.length := hk
    walk_at "w*"
    refine ifD (fun h => ?_) (fun h => ?_)
    · replace h := hs1 h
      rw [h] at hst
      walk_at "w*"
      rw [colS_red]
      cases b
      · dsimp only [Bool.not_true, Bool.not_false]
        refine iteT ?_
        walk_at "w*"
        refine ⟨_, _, _, crP n es f rs i (k, false), rfl, rfl, Int.natCast_nonneg _, (by rw [stU_comm hpp]; exact stU_same), by rw [Int.toNat_natCast, List.getElem?_map, List.getElem?_range hk2]; rfl, ?_⟩
        walk_at "w*"
        refine ⟨_, _, rfl, (by rw [stU_comm hpp]; exact stU_same), by rw [seqI_len, Int.toNat_natCast]; exact hk2, ?_⟩
        refine ⟨by walk_at "le", (stU2_l hpp).trans ?_⟩
        rw [Int.toNat_natCast, seqI_set hk2]
        refine stU2_congr (seqI_congr fun j hj => ?_) (seqI_congr fun j hj => ?_)
        · rw [hst]
          by_cases hj' : j = k
          · subst hj'; rw [if_pos rfl, if_pos rfl]
          · rw [if_neg hj', if_neg (fun e => hj' (congrArg Prod.fst e)), Int.add_zero]
        · rw [hst, if_neg (fun e => by cases e), Int.add_zero]
      · dsimp only [Bool.not_true, Bool.not_false]
        refine iteF ?_
        walk_at "w*"
        refine ⟨_, _, _, crP n es f rs i (k, true), rfl, rfl, Int.natCast_nonneg _, stU_same, by rw [Int.toNat_natCast, List.getElem?_map, List.getElem?_range hk2]; rfl, ?_⟩
        walk_at "w*"
        refine ⟨_, _, rfl, stU_same, by rw [seqI_len, Int.toNat_natCast]; exact hk2, ?_⟩
        refine ⟨by walk_at "le", stU_U.trans ?_⟩
        rw [Int.toNat_natCast, seqI_set hk2]
        refine stU2_congr (seqI_congr fun j hj => ?_) (seqI_congr fun j hj => ?_)
        · rw [hst]
          rw [if_neg (fun e => by cases e), Int.add_zero]
        · rw [hst]
          by_cases hj' : j = k
          · subst hj'; rw [if_pos rfl, if_pos rfl]
          · rw [if_neg hj', if_neg (fun e => hj' (congrArg Prod.fst e)), Int.add_zero]
    · replace h := hs2 h
      rw [h] at hst
      walk_at "w*"
      rw [colS_red]
      cases b
      · dsimp only [Bool.not_true, Bool.not_false]
        refine iteT ?_
        walk_at "w*"
        refine ⟨_, _, _, crP n es f rs i (k, false), rfl, rfl, Int.natCast_nonneg _, (by rw [stU_comm hpp]; exact stU_same), by rw [Int.toNat_natCast, List.getElem?_map, List.getElem?_range hk2]; rfl, ?_⟩
        walk_at "w*"
        refine ⟨_, _, rfl, (by rw [stU_comm hpp]; exact stU_same), by rw [seqI_len, Int.toNat_natCast]; exact hk2, ?_⟩
        refine ⟨by walk_at "le", (stU2_l hpp).trans ?_⟩
        rw [Int.toNat_natCast, seqI_set hk2]
        refine stU2_congr (seqI_congr fun j hj => ?_) (seqI_congr fun j hj => ?_)
        · rw [hst]
          by_cases hj' : j = k
          · subst hj'; rw [if_pos rfl, if_pos rfl]
          · rw [if_neg hj', if_neg (fun e => hj' (congrArg Prod.fst e)), Int.add_zero]
        · rw [hst, if_neg (fun e => by cases e), Int.add_zero]
      · dsimp only [Bool.not_true, Bool.not_false]
        refine iteF ?_
        walk_at "w*"
        refine ⟨_, _, _, crP n es f rs i (k, true), rfl, rfl, Int.natCast_nonneg _, stU_same, by rw [Int.toNat_natCast, List.getElem?_map, List.getElem?_range hk2]; rfl, ?_⟩
        walk_at "w*"
        refine ⟨_, _, rfl, stU_same, by rw [seqI_len, Int.toNat_natCast]; exact hk2, ?_⟩
        refine ⟨by walk_at "le", stU_U.trans ?_⟩
        rw [Int.toNat_natCast, seqI_set hk2]
        refine stU2_congr (seqI_congr fun j hj => ?_) (seqI_congr fun j hj => ?_)
        · rw [hst]
          rw [if_neg (fun e => by cases e), Int.add_zero]
        · rw [hst]
          by_cases hj' : j = k
          · subst hj'; rw [if_pos rfl, if_pos rfl]
          · rw [if_neg hj', if_neg (fun e => hj' (congrArg Prod.fst e)), Int.add_zero]
  · subst e
    have hpl : (path n es f rs).length = rs.length + 1 := by simp [path]
    dsimp only
    rw [zipD_len, List.length_map, List.length_map, hpl, Nat.min_eq_right (by omega)]
    refine ws_fz stU_same (Γ' := [none, none, some (netD K n es), some (.ref p), some (.lst _), none, none, none, none, none, none]) (by walk_at "fz") ?_
    rw [stD_U (by rw [stU_ne (Ne.symm hpp)]; exact hS2)]
    refine ws_fz stU_same (Γ' := [none, none, some (netD K n es), some (.lst _), some (.lst _), none, none, none, none, none, none]) (by walk_at "fz") ?_
    rw [stD_U hp]
    walk_at "w*"
    refine fun p3 hp3 => ?_
    refine ⟨p3, n, es, cr n es f rs, _, _, rfl, stU_same, .l, .l, rfl, _, _, stU_same, ?_⟩
    rw [stU_U, stD_U hp3]
    exact ⟨_, Sub.refl _, q⟩
end
end Tw


set_option Elab.async false
set_option linter.all false
set_option maxRecDepth 100000
set_option maxHeartbeats 4000000
namespace Tw
open PySem PySem.Spec PyProof.Rows L2
/-! ### a pot of draws -/
def potU (S : Store) (p c : Addr) (xs : List Int) (a b d m : Int) : Store := stU (stU S c (.lst (xs.map .int))) p (.lst [.ref c, .int a, .int b, .int d, .int m])
def Pot (S : Store) (p c : Addr) : Prop := p ≠ c ∧ ∃ (xs : List Int) (a b d m : Int), xs.length ≤ 1000 ∧ S p = some (.lst [.ref c, .int a, .int b, .int d, .int m]) ∧ S c = some (.lst (xs.map .int))
structure Dr (p c : Addr) (S S' : Store) : Prop where
  pot : Pot S' p c
  off : ∀ x, x ≠ p → x ≠ c → S' x = S x
theorem Dr.rfl {p c : Addr} {S : Store} (h : Pot S p c) : Dr p c S S := ⟨h, fun _ _ _ => _root_.rfl⟩
theorem Dr.trans {p c : Addr} {S S1 S2 : Store} (a : Dr p c S S1) (b : Dr p c S1 S2) : Dr p c S S2 := ⟨b.pot, fun x h h' => (b.off x h h').trans (a.off x h h')⟩
theorem Pot.eq {S : Store} {p c : Addr} (h : Pot S p c) : p ≠ c ∧ ∃ (xs : List Int) (a b d m : Int), xs.length ≤ 1000 ∧ S = potU S p c xs a b d m := by
  obtain ⟨hn, xs, a, b, d, m, hl, h1, h2⟩ := h
  refine ⟨hn, xs, a, b, d, m, hl, ?_⟩
  unfold potU
  rw [stU_eq h2, stU_eq h1]
theorem pot_at {S : Store} {p c : Addr} {xs : List Int} {a b d m : Int} : potU S p c xs a b d m p = some (.lst [.ref c, .int a, .int b, .int d, .int m]) := stU_same
theorem pot_cell {S : Store} {p c : Addr} {xs : List Int} {a b d m : Int} (h : p ≠ c) : potU S p c xs a b d m c = some (.lst (xs.map .int)) := (stU_ne (Ne.symm h)).trans stU_same
theorem pot_ok {S : Store} {p c : Addr} {xs : List Int} {a b d m : Int} (h : p ≠ c) (hl : xs.length ≤ 1000) : Pot (potU S p c xs a b d m) p c := ⟨h, xs, a, b, d, m, hl, pot_at, pot_cell h⟩
theorem pot_dr {S S0 : Store} {p c : Addr} {xs : List Int} {a b d m : Int} (h : p ≠ c) (hl : xs.length ≤ 1000) (o : ∀ x, x ≠ p → x ≠ c → S x = S0 x) : Dr p c S0 (potU S p c xs a b d m) := ⟨pot_ok h hl, fun x h1 h2 => by
  unfold potU
  rw [stU_ne h1, stU_ne h2]
  exact o x h1 h2⟩
/-- a list that the draws leave alone -/
theorem Dr.pull {p c q : Addr} {S S' : Store} {v : Cell} (h : Dr p c (stU S q v) S') (h1 : q ≠ p) (h2 : q ≠ c) : ∃ Sb, Dr p c S Sb ∧ S' = stU Sb q v := by
  refine ⟨fun x => if x = q then S x else S' x, ⟨?_, fun x e1 e2 => ?_⟩, ?_⟩
  · obtain ⟨hn, xs, a, b, d, m, hl, z1, z2⟩ := h.pot
    exact ⟨hn, xs, a, b, d, m, hl, (if_neg (Ne.symm h1)).trans z1, (if_neg (Ne.symm h2)).trans z2⟩
  · by_cases e : x = q
    · exact if_pos e
    · show (if x = q then S x else S' x) = S x
      rw [if_neg e, h.off x e1 e2, stU_ne e]
  · funext x
    by_cases e : x = q
    · subst e
      rw [stU_same, h.off x h1 h2, stU_same]
    · rw [stU_ne e]
      exact (if_neg e).symm
theorem Dr.put {p c q : Addr} {S S' : Store} {v : Cell} (h : Dr p c S S') (h1 : q ≠ p) (h2 : q ≠ c) : Dr p c (stU S q v) (stU S' q v) := by
  refine ⟨?_, fun x e1 e2 => ?_⟩
  · obtain ⟨hn, xs, a, b, d, m, hl, z1, z2⟩ := h.pot
    exact ⟨hn, xs, a, b, d, m, hl, (stU_ne (Ne.symm h1)).trans z1, (stU_ne (Ne.symm h2)).trans z2⟩
  · by_cases e : x = q
    · subst e; rw [stU_same, stU_same]
    · rw [stU_ne e, stU_ne e, h.off x e1 e2]
theorem Pot.put {p c q : Addr} {S : Store} {v : Cell} (h : Pot S p c) (h1 : q ≠ p) (h2 : q ≠ c) : Pot (stU S q v) p c := ((Dr.rfl h).put h1 h2).pot
/-- what stands free is none of the pot -/
theorem Pot.ne {p c q : Addr} {S : Store} (h : Pot S p c) (e : S q = none) : q ≠ p ∧ q ≠ c := by
  obtain ⟨hn, xs, a, b, d, m, hl, z1, z2⟩ := h
  exact ⟨fun z => by (rw [z, z1] at e; cases e), fun z => by (rw [z, z2] at e; cases e)⟩
theorem Dr.none {p c q : Addr} {S S' : Store} (h : Dr p c S S') (z : Pot S p c) (e : S q = none) : S' q = none := by
  rw [h.off q (z.ne e).1 (z.ne e).2]; exact e
section
variable {K : PySem.W.Frag} {S : Store} {Γ : Env} {p c : Addr} {xs : List Int} {a b d m v : Int} {Φ : D → Store → Prop} {Ψ : Store → Prop}
theorem rw_p0 (k : Φ (.ref c) (potU S p c xs a b d m)) : R2W K (rIxU K) (.ref p) (.int 0) (potU S p c xs a b d m) Φ := rw_ix (.r pot_at) rfl k
theorem rw_p1 (k : Φ (.int a) (potU S p c xs a b d m)) : R2W K (rIxU K) (.ref p) (.int 1) (potU S p c xs a b d m) Φ := rw_ix (.r pot_at) rfl k
theorem rw_p2 (k : Φ (.int b) (potU S p c xs a b d m)) : R2W K (rIxU K) (.ref p) (.int 2) (potU S p c xs a b d m) Φ := rw_ix (.r pot_at) rfl k
theorem rw_p3 (k : Φ (.int d) (potU S p c xs a b d m)) : R2W K (rIxU K) (.ref p) (.int 3) (potU S p c xs a b d m) Φ := rw_ix (.r pot_at) rfl k
theorem rw_p4 (k : Φ (.int m) (potU S p c xs a b d m)) : R2W K (rIxU K) (.ref p) (.int 4) (potU S p c xs a b d m) Φ := rw_ix (.r pot_at) rfl k
theorem rs_p1 (k : Ψ (potU S p c xs v b d m)) : RSW K rSetL (.ref p) (.int 1) (.int v) (potU S p c xs a b d m) Ψ := rs_set (j := 1) pot_at rfl (by unfold potU; rw [stU_U]; exact k)
theorem rs_p2 (k : Ψ (potU S p c xs a v d m)) : RSW K rSetL (.ref p) (.int 2) (.int v) (potU S p c xs a b d m) Ψ := rs_set (j := 2) pot_at rfl (by unfold potU; rw [stU_U]; exact k)
theorem rs_p3 (k : Ψ (potU S p c xs a b v m)) : RSW K rSetL (.ref p) (.int 3) (.int v) (potU S p c xs a b d m) Ψ := rs_set (j := 3) pot_at rfl (by unfold potU; rw [stU_U]; exact k)
theorem rs_p4 (k : Ψ (potU S p c xs a b d v)) : RSW K rSetL (.ref p) (.int 4) (.int v) (potU S p c xs a b d m) Ψ := rs_set (j := 4) pot_at rfl (by unfold potU; rw [stU_U]; exact k)
theorem pot_pop {h : p ≠ c} {ys : List Int} : stU (potU S p c xs a b d m) c (.lst (ys.map .int)) = potU S p c ys a b d m := by
  unfold potU
  rw [stU_comm h, stU_U, stU_comm (Ne.symm h)]
/-- a statement between what holds ahead and what holds behind -/
theorem ws_mid {t u : TS} {Ψ : EndsD} (J : Store → Env → Prop) (h : WS K t S Γ { nx := J, rt := Ψ.rt, bk := Ψ.bk, ct := Ψ.ct }) (h2 : ∀ S2 Γ2, J S2 Γ2 → WS K u S2 Γ2 Ψ) : WS K (tSeq t u) S Γ Ψ :=
  ws_seq (h.mono (fun S2 Γ2 j => h2 S2 Γ2 j) (fun _ _ q => q) (fun _ _ q => q) (fun _ _ q => q))
theorem wi_rng3 {ta : TA} {Φ : List D → Store → Prop} (h : WA K ta S Γ fun xs S1 => ∃ (i j c : Int) (n : Nat), xs = [.int i, .int j, .int c] ∧ RgC i j c n ∧ Φ (rngC i c n) S1) : WI K (iRng3 ta) S Γ Φ := fun F H σ R hs hg hq =>
  h F H σ _ hs hg fun F1 H1 vs xs S1 p1 r1 ⟨i, j, c, n, e, z, f⟩ => by
    subst e
    obtain ⟨v, r, rfl, r2, r3⟩ := r1.uncons
    obtain ⟨v', r', rfl, r4, r5⟩ := r3.uncons
    obtain ⟨v'', r'', rfl, r6, r7⟩ := r5.uncons
    rw [r7.unnil]
    cases r2; cases r4; cases r6
    exact ⟨i, j, c, n, rfl, z, hq F1 H1 _ _ S1 p1 (walks_rC i c n) f⟩
end
theorem rgc2 : ∀ i, i < 2 → ∀ j, j < 64 → Builtin.Range.small ((i : Nat) : Int) ((j : Nat) : Int) 2 = true ∧ Builtin.Range.rangeSize ((i : Nat) : Int) ((j : Nat) : Int) 2 = (((j + 1 - i) / 2 : Nat) : Int) := by decide +kernel
def sp__law_pot : Spec := fun ds S Φ => ∃ (x : D) (ns : List Int) (i : Nat), ds = [x, .int i, .int 2] ∧ i < 2 ∧ (∀ S, SeqOf S x (ns.map .int)) ∧ (∀ es, x ≠ .tup es) ∧ ns.length ≤ 100000 ∧
  ∀ p c S', S p = none → S c = none → Pot S' p c → (∀ y, y ≠ p → y ≠ c → S' y = S y) → Φ (.ref p) S'
def sp__law_load : Spec := fun ds S Φ => ∃ (p c : Addr) (xs : List Int) (a b d m : Int) (S0 : Store), ds = [.ref p] ∧ p ≠ c ∧ S = potU S0 p c xs a b d m ∧ xs.length ≤ 1000 ∧ xs ≠ [] ∧
  ∀ ys a b d m, ys.length ≤ 1000 → Φ .non (potU S0 p c ys a b d m)
def sp__law_draw : Spec := fun ds S Φ => ∃ (p c : Addr) (k : Nat), ds = [.ref p, .int k] ∧ k ≤ 1000000 ∧ Pot S p c ∧ ∀ (r : Nat) S', (r < k ∨ r = 0) → Dr p c S S' → Φ (.int r) S'
local macro_rules | `(tactic| walk_at "w") => `(tactic| first
  | ((with_reducible show WE _ (tVar _) _ _ _); refine w_var (by rfl) ?_)
  | ((with_reducible show WE _ (tC (.int _)) _ _ _); refine w_cI ?_)
  | ((with_reducible show WE _ (tC (.str _)) _ _ _); refine w_cS ?_)
  | ((with_reducible show WE _ (tC (.bl _)) _ _ _); refine w_cB ?_)
  | ((with_reducible show WE _ (tC .non) _ _ _); refine w_cN ?_)
  | ((with_reducible show WE _ (tC (.ty _)) _ _ _); refine w_cT ?_)
  | ((with_reducible show WE _ (tC (.ref _)) _ _ _); refine w_cR ?_)
  | ((with_reducible show WE _ (tOp _ _ _) _ _ _); refine w_op ?_)
  | ((with_reducible show WE _ (tUn _ _) _ _ _); refine w_un ?_)
  | ((with_reducible show WE _ (tChain _ _ _ _ _) _ _ _); refine w_chain ?_)
  | ((with_reducible show WE _ (tFld _ _ _) _ _ _); refine w_fld ?_)
  | ((with_reducible show WE _ (tIf _ _ _) _ _ _); refine w_ifE ?_)
  | ((with_reducible show WE _ (tTup _) _ _ _); refine w_tup ?_)
  | ((with_reducible show WE _ (tCB _ _) _ _ _); refine w_cb ?_)
  | ((with_reducible show WE _ (tCall _ _ _ _) _ _ _); refine w_call ?_)
  | ((with_reducible show WE _ (tMake _ _ _ _ _) _ _ _); refine w_make ?_)
  | ((with_reducible show WE _ (tMeth _ _ _ _ _ _ _) _ _ _); refine w_meth ?_)
  | ((with_reducible show WE _ (tSl _ _ _ _) _ _ _); refine w_sl ?_)
  | ((with_reducible show WE _ (tBM _ _ rAppend _ _) _ _ _); refine w_append (p := 0) (ds := []) ?_)
  | ((with_reducible show WE _ (tBM _ _ rExtend _ _) _ _ _); refine w_extend ?_)
  | ((with_reducible show WE _ (tBM _ _ rInsL _ _) _ _ _); refine w_insert ?_)
  | ((with_reducible show WE _ (tBM0 _ _ rPop _) _ _ _); refine w_pop ?_)
  | ((with_reducible show WE _ (tBM _ _ rPopAt _ _) _ _ _); refine w_popAt ?_)
  | ((with_reducible show WE _ (tBM _ _ (rCntD _) _ _) _ _ _); refine w_bmL ?_)
  | ((with_reducible show WE _ (tAndV _ _) _ _ _); refine w_andV ?_)
  | ((with_reducible show WE _ (tOrV _ _) _ _ _); refine w_orV ?_)
  | ((with_reducible show WE _ (tNotV _) _ _ _); refine w_notV ?_)
  | ((with_reducible show WA _ tNil _ _ _); refine wa_nil ?_)
  | ((with_reducible show WA _ (tCons _ _) _ _ _); refine wa_cons ?_)
  | ((with_reducible show WO _ tNoPart _ _ _); refine wo_none ?_)
  | ((with_reducible show WO _ (tPart _) _ _ _); refine wo_some ?_)
  | ((with_reducible show WT _ (tTest _) _ _ _); refine w_test ?_)
  | ((with_reducible show WT _ (tB _) _ _ _); refine w_tB ?_)
  | ((with_reducible show WT _ (tTru _ _) _ _ _); refine w_tru ?_)
  | ((with_reducible show WT _ (tTruO _ _) _ _ _); refine w_truO ?_)
  | ((with_reducible show WT _ (tAnd _ _) _ _ _); refine w_and ?_)
  | ((with_reducible show WT _ (tOr _ _) _ _ _); refine w_or ?_)
  | ((with_reducible show WT _ (tNot _) _ _ _); refine w_not ?_)
  | ((with_reducible show WT _ tYes _ _ _); refine wt_yes ?_)
  | ((with_reducible show WS _ (tSeq _ _) _ _ _); refine ws_seq ?_)
  | ((with_reducible show WS _ (tAsg _ (gName _)) _ _ _); refine ws_set ?_)
  | ((with_reducible show WS _ (tAsg _ _) _ _ _); refine ws_asg ?_)
  | ((with_reducible show WS _ (sFld _ _ _ _) _ _ _); refine ws_fld ?_)
  | ((with_reducible show WS _ (tDrop _) _ _ _); refine ws_drop ?_)
  | ((with_reducible show WS _ (tRet _) _ _ _); refine ws_ret ?_)
  | ((with_reducible show WS _ tRetN _ _ _); refine ws_retN ?_)
  | ((with_reducible show WS _ tNext _ _ _); refine ws_next ?_)
  | ((with_reducible show WS _ tBreak _ _ _); refine ws_break ?_)
  | ((with_reducible show WS _ tCont _ _ _); refine ws_cont ?_)
  | ((with_reducible show WS _ (tIfS _ _ _) _ _ _); refine ws_if ?_)
  | ((with_reducible show WS _ (tAug _ _ _) _ _ _); refine ws_aug (by rfl) ?_)
  | ((with_reducible show WS _ (tAugS _ _ _ _ _ _) _ _ _); refine ws_augS ?_)
  | ((with_reducible show WG _ (gName _) _ _ _ _); refine wg_name ?_)
  | ((with_reducible show WG _ (gTup _ _ _) (.tup _) _ _ _); refine wg_tup (by rfl) ?_)
  | ((with_reducible show WG _ (gSub _ _ _) _ _ _ _); refine wg_sub ?_)
  | ((with_reducible show WGs _ gNil [] _ _ _); refine wgs_nil ?_)
  | ((with_reducible show WGs _ (gCons _ _) (_ :: _) _ _ _); refine wgs_cons ?_)
  | ((with_reducible show WI _ (iRng1 _) _ _ _); refine wi_rng1 ?_)
  | ((with_reducible show WI _ (iRng2 _) _ _ _); refine wi_rng2 ?_)
  | ((with_reducible show WI _ (iSeqU _ _) _ _ _); refine wi_seq ?_)
  | ((with_reducible show WI _ (iEnumU _ _) _ _ _); refine wi_enum ?_)
  | ((with_reducible show WI _ (RZ.iZipA _ _) _ _ _); refine wi_zip ?_))
local macro_rules | `(tactic| walk_at "w") => `(tactic| first
  | ((with_reducible show ∃ C ns ds d, InsOf _ _ C ns ds ∧ _); refine ⟨_, _, _, _, .o, by walk_at "cls", by walk_at "noat", by rfl, ?_⟩)
  | ((with_reducible show R2W _ (rAddU _) (.int _) (.int _) _ _); refine rw_addI ?_)
  | ((with_reducible show R2W _ rSubI (.int _) (.int _) _ _); refine rw_subI ?_)
  | ((with_reducible show R2W _ rLtI (.int _) (.int _) _ _); refine rw_ltI ?_)
  | ((with_reducible show R2W _ rLeI (.int _) (.int _) _ _); refine rw_leI ?_)
  | ((with_reducible show R2W _ rGtI (.int _) (.int _) _ _); refine rw_gtI ?_)
  | ((with_reducible show R2W _ rGeI (.int _) (.int _) _ _); refine rw_geI ?_)
  | ((with_reducible show R2W _ (rEqU _) (.int _) (.int _) _ _); refine rw_eqUI ?_)
  | ((with_reducible show R2W _ (rEqU _) (.str _) (.str _) _ _); refine rw_eqUS ?_)
  | ((with_reducible show R2W _ (rNeU _) (.int _) (.int _) _ _); refine rw_neUI ?_)
  | ((with_reducible show R2W _ (rNeU _) (.str _) (.str _) _ _); refine rw_neUS ?_)
  | ((with_reducible show R1W _ rNegI (.int _) _ _); refine rw_negI ?_)
  | ((with_reducible show RLW _ (rLenQ _) [_] _ _); refine rw_len (by first | exact .t | exact .l | exact .r (by assumption)) ?_)
  | ((with_reducible show RLW _ rIntQ [.int _] _ _); refine rw_int ?_)
  | ((with_reducible show RLW _ rAbsQ [.int _] _ _); refine rw_abs ?_)
  | ((with_reducible show ∃ k, .bl _ = D.bl k ∧ _); refine ⟨_, rfl, ?_⟩)
  | ((with_reducible show ∃ k, .int _ = D.int k ∧ _); refine ⟨_, rfl, ?_⟩)
  | ((with_reducible show ∃ k, TruD _ (.bl _) k ∧ _); refine ⟨_, .bl, ?_⟩)
  | ((with_reducible show ∃ k, TruD _ (.int _) k ∧ _); refine ⟨_, .int, ?_⟩)
  | ((with_reducible show List.length _ ≤ 1000000 ∧ _); refine ⟨Nat.le_of_ble_eq_true rfl, ?_⟩)
  | ((with_reducible show ∃ S2, Sub S2 _ ∧ _); refine ⟨_, Sub.refl _, ?_⟩))
local macro_rules | `(tactic| walk_at "w*") => `(tactic| repeat walk_at "w")
local macro_rules | `(tactic| walk_at "le") => `(tactic| repeat first | exact Le.nil | exact Le.rfl | refine Le.som ?_ | refine Le.non ?_)
local macro_rules | `(tactic| walk_at "fz") => `(tactic| repeat first | exact Fz.nil | refine Fz.som ?_ | refine Fz.frz ?_ | refine Fz.non ?_)
local macro_rules | `(tactic| walk_at "cls") => `(tactic| first | exact cl_Net (by assumption) | exact cl_Standing (by assumption) | exact cl_Bill (by assumption) | exact cl_Trip (by assumption))
local macro_rules | `(tactic| walk_at "noat") => `(tactic| first | exact na_Net_stations (by assumption) | exact na_Net_ropes (by assumption) | exact na_Standing_net (by assumption) | exact na_Standing_reds (by assumption) | exact na_Standing_blues (by assumption) | exact na_Standing_cars (by assumption) | exact na_Bill_net (by assumption) | exact na_Bill_reds (by assumption) | exact na_Bill_blues (by assumption) | exact na_Trip_rides (by assumption))

local macro_rules | `(tactic| walk_at "w") => `(tactic| first
  | ((with_reducible show WI _ (iRng3 _) _ _ _); refine wi_rng3 ?_)
  | ((with_reducible show R2W _ (rIxU _) (.ref _) (.int 0) (potU _ _ _ _ _ _ _ _) _); refine rw_p0 ?_)
  | ((with_reducible show R2W _ (rIxU _) (.ref _) (.int 1) (potU _ _ _ _ _ _ _ _) _); refine rw_p1 ?_)
  | ((with_reducible show R2W _ (rIxU _) (.ref _) (.int 2) (potU _ _ _ _ _ _ _ _) _); refine rw_p2 ?_)
  | ((with_reducible show R2W _ (rIxU _) (.ref _) (.int 3) (potU _ _ _ _ _ _ _ _) _); refine rw_p3 ?_)
  | ((with_reducible show R2W _ (rIxU _) (.ref _) (.int 4) (potU _ _ _ _ _ _ _ _) _); refine rw_p4 ?_)
  | ((with_reducible show RSW _ rSetL (.ref _) (.int 1) (.int _) (potU _ _ _ _ _ _ _ _) _); refine rs_p1 ?_)
  | ((with_reducible show RSW _ rSetL (.ref _) (.int 2) (.int _) (potU _ _ _ _ _ _ _ _) _); refine rs_p2 ?_)
  | ((with_reducible show RSW _ rSetL (.ref _) (.int 3) (.int _) (potU _ _ _ _ _ _ _ _) _); refine rs_p3 ?_)
  | ((with_reducible show RSW _ rSetL (.ref _) (.int 4) (.int _) (potU _ _ _ _ _ _ _ _) _); refine rs_p4 ?_)
  | ((with_reducible show R2W _ rMulU (.int _) (.int _) _ _); refine rw_mulI (.inr ⟨by decide, by decide⟩) ?_)
  | ((with_reducible show R2W _ rMulU (.int _) (.int _) _ _); refine rw_mulI (.inl ⟨by decide, by decide⟩) ?_)
  | ((with_reducible show R2W _ rModI (.int _) (.int _) _ _); refine rw_modI (by decide) ?_)
  | ((with_reducible show R2W _ rDivI (.int _) (.int _) _ _); refine rw_divI (by decide) (by decide) ?_)
  | ((with_reducible show RLW _ rMax2Q [.int _, .int _] _ _); refine rw_max2 ?_)
  | ((with_reducible show RLW _ rMin2Q [.int _, .int _] _ _); refine rw_min2 ?_))
section
variable {P : Program} {w : World} {K : PySem.W.Frag} {mg : Str → Option Value} {base : Heap}
theorem ok__law_load (T : Hd fn fa xs K mg) : FnE P w K mg base 1 (He.fAd K d__law_load.at_) ps__law_load (spOf K sp__law_load) := by
  refine T.ok _ ix__law_load (N := N__law_load) rfl sc__law_load (fun ds S Φ ⟨_, _, _, _, _, _, _, _, e, _⟩ => by rw [e]; rfl) (fun _ _ _ _ _ _ us hl => ?_) fun cdv A outer s H E hr => ⟨_, dv__law_load T hr, ?_⟩
  · match us, hl with
    | [a], _ => rfl
  rintro _ S Φ ⟨p, c, xs, a, b, d, m, S0, rfl, hpc, rfl, hl, hne, q⟩
  unfold t__law_load
  walk_at "w*"
  match xs, hne with
  | x0 :: xs, _ =>
  have hl' : xs.length ≤ 1000 := by simp at hl; omega
  refine ⟨_, _, rfl, pot_cell hpc, ?_⟩
  walk_at "w*"
  refine ⟨_, .int x0, _, rfl, by decide, pot_cell hpc, rfl, by simp; omega, ?_⟩
  have e : stU (potU S0 p c (x0 :: xs) a b d m) c (.lst ((List.map D.int (x0 :: xs)).eraseIdx (0 : Int).toNat)) = potU S0 p c xs a b d m := pot_pop (h := hpc)
  rw [e]
  walk_at "w*"
  refine ifD (fun _ => ?_) (fun _ => ?_)
  · walk_at "w*"
    exact q _ _ _ _ _ hl'
  · walk_at "w*"
    exact q _ _ _ _ _ hl'
theorem ok__law_draw (T : Hd fn fa xs K mg) : FnE P w K mg base 2 (He.fAd K d__law_draw.at_) ps__law_draw (spOf K sp__law_draw) := by
  refine T.ok _ ix__law_draw (N := N__law_draw) rfl sc__law_draw (fun ds S Φ ⟨_, _, _, e, _⟩ => by rw [e]; rfl) (fun _ _ _ _ _ _ us hl => ?_) fun cdv A outer s H E hr => ⟨_, dv__law_draw T (ok__law_load T) hr, ?_⟩
  · match us, hl with
    | [a, b], _ => rfl
  rintro _ S Φ ⟨p, c, k, rfl, hk, hP, q⟩
  unfold t__law_draw
  walk_at "w*"
  refine ifD (fun _ => ?_) (fun h => ?_)
  · walk_at "w*"
    exact q 0 S (.inr rfl) (.rfl hP)
  have hk0 : (0 : Int) < k := by omega
  have hk1 : 0 < k := by omega
  refine ws_next ?_
  refine ws_mid (fun S2 Γ2 => Γ2 = startE N__law_draw [.ref p, .int k] ∧ ∃ (S0 : Store) (xs : List Int) (a b d m : Int), S2 = potU S0 p c xs a b d m ∧ xs.length ≤ 1000 ∧ ∀ x, x ≠ p → x ≠ c → S0 x = S x) ?_ ?_
  · obtain ⟨hpc, xs, a, b, d, m, hl, e⟩ := hP.eq
    have done : ∃ (S0 : Store) (xs : List Int) (a b d m : Int), S = potU S0 p c xs a b d m ∧ xs.length ≤ 1000 ∧ ∀ x, x ≠ p → x ≠ c → S0 x = S x := ⟨S, xs, a, b, d, m, e, hl, fun _ _ _ => rfl⟩
    generalize hS : S = S1 at e done
    rw [e]
    walk_at "w*"
    have no : startE N__law_draw [.ref p, .int k] = startE N__law_draw [.ref p, .int k] ∧ ∃ (S0 : Store) (xs' : List Int) (a' b' d' m' : Int), potU S1 p c xs a b d m = potU S0 p c xs' a' b' d' m' ∧ xs'.length ≤ 1000 ∧ ∀ x, x ≠ p → x ≠ c → S0 x = potU S1 p c xs a b d m x := ⟨rfl, S1, xs, a, b, d, m, rfl, hl, fun x _ _ => by rw [← e]⟩
    refine ifD (fun _ => ?_) (fun _ => ?_)
    · walk_at "w*"
      refine ifD (fun _ => ?_) (fun _ => ?_)
      · walk_at "w*"
        refine ⟨_, .seq (.r (pot_cell hpc)), ?_⟩
        refine ifB (fun h => ?_) (fun _ => ?_)
        · walk_at "w*"
          refine ⟨p, c, xs, a, b, d, m, S1, rfl, hpc, rfl, hl, fun z => by (rw [z] at h; cases h), fun ys a' b' d' m' hl' => ?_⟩
          exact ⟨rfl, S1, ys, a', b', d', m', rfl, hl', fun x _ _ => by rw [← e]⟩
        · walk_at "w*"
          exact no
      · refine iteF ?_
        walk_at "w*"
        exact no
    · refine iteF ?_
      walk_at "w*"
      exact no
  rintro S2 _ ⟨rfl, S0, xs, a, b, d, m, rfl, hl, ho⟩
  have hpc := hP.1
  walk_at "w*"
  refine ifD (fun _ => ?_) (fun _ => ?_)
  · walk_at "w*"
    refine rw_modI hk0 ?_
    walk_at "w*"
    refine rw_divI hk0 (by omega) ?_
    walk_at "w*"
    have h1 := Int.emod_nonneg a (by omega : (k : Int) ≠ 0)
    have h2 := Int.emod_lt_of_pos a hk0
    have e : a % (k : Int) = ((a % k).toNat : Int) := by omega
    rw [e]
    exact q _ _ (.inl (by omega)) (pot_dr hpc hl ho)
  · walk_at "w*"
    refine rw_mulI (.inr ⟨by omega, by omega⟩) ?_
    walk_at "w*"
    refine rw_modI hk0 ?_
    generalize ((b + 7919 * (m + 1)) * 48271 % 2147483647 + (m + 1)) * ((b + 7919 * (m + 1)) * 48271 % 2147483647 / 16 + 69621) % 2147483629 / 8 = z
    have h1 := Int.emod_nonneg z (by omega : (k : Int) ≠ 0)
    have h2 := Int.emod_lt_of_pos z hk0
    have e : z % (k : Int) = ((z % k).toNat : Int) := by omega
    rw [e]
    exact ⟨_, Sub.refl _, q _ _ (.inl (by omega)) (pot_dr hpc hl ho)⟩
theorem ok__law_pot (T : Hd fn fa xs K mg) : FnE P w K mg base 1 (He.fAd K d__law_pot.at_) ps__law_pot (spOf K sp__law_pot) := by
  refine T.ok _ ix__law_pot (N := N__law_pot) rfl sc__law_pot (fun ds S Φ ⟨_, _, _, e, _⟩ => by rw [e]; rfl) (fun _ _ _ _ _ _ us hl => ?_) fun cdv A outer s H E hr => ⟨_, dv__law_pot T hr, ?_⟩
  · match us, hl with
    | [a, b, c], _ => rfl
  rintro _ S Φ ⟨x, ns, i, rfl, hi, hx, hnt, hl, q⟩
  unfold t__law_pot
  walk_at "w*"
  refine w_lcM (go_name (by simp)) ?_
  walk_at "w*"
  refine rw_len (hx _) ?_
  walk_at "w*"
  rw [List.length_map]
  have hj : ∃ j : Nat, j < 64 ∧ (j : Int) = min 63 (ns.length : Int) ∧ j ≤ ns.length := ⟨min 63 ns.length, by omega, by omega, by omega⟩
  obtain ⟨j, hj1, hj2, hj3⟩ := hj
  rw [← hj2]
  obtain ⟨z1, z2⟩ := rgc2 i hi j hj1
  refine ⟨_, _, _, (j + 1 - i) / 2, rfl, ⟨by decide, by decide, z1, z2⟩, fun i acc S' => (∃ ms : List Int, acc = ms.map .int ∧ ms.length ≤ i) ∧ S' = S, ⟨⟨[], rfl, Nat.le_refl _⟩, rfl⟩, by simp [rngC]; omega, fun n y acc S' hy _ e => ?_, fun acc S' c e hc => ?_⟩
  · obtain ⟨⟨ms, rfl, hm⟩, rfl⟩ := e
    obtain ⟨n', hn, rfl⟩ := map_get hy
    obtain ⟨hn', rfl⟩ := List.getElem?_eq_some_iff.mp hn
    rw [List.getElem_range]
    rw [List.length_range] at hn'
    walk_at "w*"
    refine iteT ?_
    walk_at "w*"
    refine rw_ixm 0 (hx _) (by omega) (by omega) ?_
    refine ⟨⟨ms ++ [ns.getD ((i : Int) + (n : Nat) * 2).toNat 0], by rw [List.map_append]; rfl, by simp; omega⟩, rfl⟩
  · obtain ⟨⟨ms, rfl, hm⟩, rfl⟩ := e
    walk_at "w*"
    refine w_lstM ?_
    walk_at "w*"
    refine rc_lst (hx _) hnt ?_
    rw [cutD_map]
    walk_at "w*"
    refine rw_sum .l ?_
    walk_at "w*"
    refine fun p hp => ?_
    have hpc : p ≠ c := fun e => by rw [e, stU_same] at hp; cases hp
    refine ⟨_, Sub.refl _, q p c _ (by rw [stU_ne hpc] at hp; exact hp) hc ?_ ?_⟩
    · refine pot_ok (S := S') (xs := ms) hpc ?_
      simp [rngC] at hm
      omega
    · intro y h1 h2
      rw [stU_ne h1, stU_ne h2]
end
end Tw


set_option Elab.async false
set_option linter.all false
set_option maxRecDepth 100000
set_option maxHeartbeats 4000000
namespace Tw
open PySem PySem.Spec PyProof.Rows L2
abbrev nD (k : Nat) : D := .int k
section
variable {K : PySem.W.Frag} {S : Store} {Γ : Env} {Φ : D → Store → Prop} {te : TE}
theorem w_mapM {α : Type} {xs : List α} {f h : α → D} {wi : TI} {g : TG} {vs : List Nat} (hg : GOnly g vs)
    (hw : WI K wi S Γ fun ds S1 => ds = xs.map f ∧ xs.length ≤ 1000000 ∧ (∀ a, a ∈ xs → WG K g (f a) S1 (wipeE Γ vs) fun S2 Γ2 => WE K te S2 Γ2 fun y S4 => y = h a ∧ S4 = S1) ∧ ∀ p, S1 p = none → Φ (.ref p) (stU S1 p (.lst (xs.map h)))) : WE K (tLcM wi g tYes te vs) S Γ Φ :=
  w_lcM hg fun F H σ R hs hσ hq => hw F H σ R hs hσ fun F' H' J ds S1 p w ⟨e, hl, hstep, k⟩ => by
    subst e
    refine hq F' H' J _ S1 p w ⟨fun i acc S' => acc = (xs.take i).map h ∧ S' = S1, ⟨rfl, rfl⟩, by rw [List.length_map]; exact hl, fun i x acc S' hx hal ⟨e1, e2⟩ => ?_, fun acc S' p ⟨e1, e2⟩ hp => ?_⟩
    · subst e1 e2
      rw [List.getElem?_map] at hx
      cases ha : xs[i]? with
      | none => rw [ha] at hx; cases hx
      | some a =>
        rw [ha] at hx
        cases hx
        have hst := hstep a (List.mem_of_getElem? ha)
        refine fun F H σ v Q hs hg r hq => hst F H σ v Q hs hg r fun F' H' σ' S' Γ' p sl z => hq F' H' σ' S' Γ' p sl (wt_yes (if_pos rfl ▸ z.mono fun y S4 ⟨q1, q2⟩ => ⟨?_, q2⟩))
        subst q1
        rw [List.take_add_one, ha, List.map_append]
        rfl
    · subst e1 e2
      rw [List.length_map, List.take_length]
      exact k _ hp
theorem range_add {m : Nat} : ∀ n, List.range (m + n) = List.range m ++ (List.range n).map (m + ·) := fun n => List.range_add
end
theorem map_eraseIdx' {α β : Type} {f : α → β} : ∀ (l : List α) (i : Nat), (l.eraseIdx i).map f = (l.map f).eraseIdx i
  | [], i => rfl
  | a :: l, 0 => rfl
  | a :: l, i + 1 => congrArg (f a :: ·) (map_eraseIdx' l i)
theorem perm_erase {α : Type} : ∀ {l : List α} {i : Nat} (h : i < l.length), ([l[i]] ++ l.eraseIdx i).Perm l
  | a :: l, 0, _ => .refl _
  | a :: l, i + 1, h => (List.Perm.swap a (l[i]'(Nat.lt_of_succ_lt_succ h)) _).trans (List.Perm.cons a (perm_erase (Nat.lt_of_succ_lt_succ h)))
def EOk (n : Nat) (es : List (Nat × Nat)) : Prop := ∀ e ∈ es, e.1 < n ∧ e.2 < n ∧ e.1 ≠ e.2
def sp__law_order : Spec := fun ds S Φ => ∃ (p c : Addr) (n : Nat), ds = [.ref p, .int n] ∧ n ≤ 1000 ∧ Pot S p c ∧ ∀ (l : List Nat) S', l.Perm (List.range n) → Dr p c S S' → Φ (.lst (l.map nD)) S'
def sp__law_rope : Spec := fun ds S Φ => ∃ (p c e : Addr) (es : List (Nat × Nat)) (a b : Nat) (S0 : Store), ds = [.ref p, .ref e, .int a, .int b] ∧ S = stU S0 e (.lst (es.map pD)) ∧ Pot S0 p c ∧ e ≠ p ∧ e ≠ c ∧ es.length ≤ 1000 ∧
  ∀ (es' : List (Nat × Nat)) (y : Nat × Nat) S', (y = (a, b) ∨ y = (b, a)) → es'.Perm (y :: es) → Dr p c S0 S' → Φ .non (stU S' e (.lst (es'.map pD)))
def sp__law_tree : Spec := fun ds S Φ => ∃ (p c : Addr) (n : Nat), ds = [.ref p, .int n] ∧ 1 ≤ n ∧ n ≤ 1000 ∧ Pot S p c ∧ ∀ (e : Addr) (es : List (Nat × Nat)) S', S e = none → EOk n es → Conn n es → es.length + 1 = n → Dr p c S S' → Φ (.ref e) (stU S' e (.lst (es.map pD)))
def sp__law_extra : Spec := fun ds S Φ => ∃ (p c e : Addr) (n m : Nat) (es : List (Nat × Nat)) (S0 : Store), ds = [.ref p, .int n, .ref e, .int m] ∧ 2 ≤ n ∧ n ≤ 1000 ∧ m ≤ 100 ∧ es.length ≤ 100 ∧ S = stU S0 e (.lst (es.map pD)) ∧ Pot S0 p c ∧ e ≠ p ∧ e ≠ c ∧ EOk n es ∧ Conn n es ∧
  ∀ (es' : List (Nat × Nat)) S', EOk n es' → Conn n es' → es'.length ≤ es.length + m → Dr p c S0 S' → Φ .non (stU S' e (.lst (es'.map pD)))
def sp__law_spread : Spec := fun ds S Φ => ∃ (p c : Addr) (n m a b : Nat), ds = [.ref p, .int n, .int m, .lst [.int a, .int b]] ∧ 1 ≤ n ∧ n ≤ 100 ∧ m ≤ 100 ∧ a + b ≤ 30 ∧ Pot S p c ∧
  ∀ (f : Conf) S', (∀ es, es.length = m → Ok n es f) → Dr p c S S' → Φ (.tup (seqI (2 * n + m) f)) S'
local macro_rules | `(tactic| walk_at "w") => `(tactic| first
  | ((with_reducible show WE _ (tVar _) _ _ _); refine w_var (by rfl) ?_)
  | ((with_reducible show WE _ (tC (.int _)) _ _ _); refine w_cI ?_)
  | ((with_reducible show WE _ (tC (.str _)) _ _ _); refine w_cS ?_)
  | ((with_reducible show WE _ (tC (.bl _)) _ _ _); refine w_cB ?_)
  | ((with_reducible show WE _ (tC .non) _ _ _); refine w_cN ?_)
  | ((with_reducible show WE _ (tC (.ty _)) _ _ _); refine w_cT ?_)
  | ((with_reducible show WE _ (tC (.ref _)) _ _ _); refine w_cR ?_)
  | ((with_reducible show WE _ (tOp _ _ _) _ _ _); refine w_op ?_)
  | ((with_reducible show WE _ (tUn _ _) _ _ _); refine w_un ?_)
  | ((with_reducible show WE _ (tChain _ _ _ _ _) _ _ _); refine w_chain ?_)
  | ((with_reducible show WE _ (tFld _ _ _) _ _ _); refine w_fld ?_)
  | ((with_reducible show WE _ (tIf _ _ _) _ _ _); refine w_ifE ?_)
  | ((with_reducible show WE _ (tTup _) _ _ _); refine w_tup ?_)
  | ((with_reducible show WE _ (tCB _ _) _ _ _); refine w_cb ?_)
  | ((with_reducible show WE _ (tCall _ _ _ _) _ _ _); refine w_call ?_)
  | ((with_reducible show WE _ (tMake _ _ _ _ _) _ _ _); refine w_make ?_)
  | ((with_reducible show WE _ (tMeth _ _ _ _ _ _ _) _ _ _); refine w_meth ?_)
  | ((with_reducible show WE _ (tSl _ _ _ _) _ _ _); refine w_sl ?_)
  | ((with_reducible show WE _ (tBM _ _ rAppend _ _) _ _ _); refine w_append (p := 0) (ds := []) ?_)
  | ((with_reducible show WE _ (tBM _ _ rExtend _ _) _ _ _); refine w_extend ?_)
  | ((with_reducible show WE _ (tBM _ _ rInsL _ _) _ _ _); refine w_insert ?_)
  | ((with_reducible show WE _ (tBM0 _ _ rPop _) _ _ _); refine w_pop ?_)
  | ((with_reducible show WE _ (tBM _ _ rPopAt _ _) _ _ _); refine w_popAt ?_)
  | ((with_reducible show WE _ (tBM _ _ (rCntD _) _ _) _ _ _); refine w_bmL ?_)
  | ((with_reducible show WE _ (tAndV _ _) _ _ _); refine w_andV ?_)
  | ((with_reducible show WE _ (tOrV _ _) _ _ _); refine w_orV ?_)
  | ((with_reducible show WE _ (tNotV _) _ _ _); refine w_notV ?_)
  | ((with_reducible show WA _ tNil _ _ _); refine wa_nil ?_)
  | ((with_reducible show WA _ (tCons _ _) _ _ _); refine wa_cons ?_)
  | ((with_reducible show WO _ tNoPart _ _ _); refine wo_none ?_)
  | ((with_reducible show WO _ (tPart _) _ _ _); refine wo_some ?_)
  | ((with_reducible show WT _ (tTest _) _ _ _); refine w_test ?_)
  | ((with_reducible show WT _ (tB _) _ _ _); refine w_tB ?_)
  | ((with_reducible show WT _ (tTru _ _) _ _ _); refine w_tru ?_)
  | ((with_reducible show WT _ (tTruO _ _) _ _ _); refine w_truO ?_)
  | ((with_reducible show WT _ (tAnd _ _) _ _ _); refine w_and ?_)
  | ((with_reducible show WT _ (tOr _ _) _ _ _); refine w_or ?_)
  | ((with_reducible show WT _ (tNot _) _ _ _); refine w_not ?_)
  | ((with_reducible show WT _ tYes _ _ _); refine wt_yes ?_)
  | ((with_reducible show WS _ (tSeq _ _) _ _ _); refine ws_seq ?_)
  | ((with_reducible show WS _ (tAsg _ (gName _)) _ _ _); refine ws_set ?_)
  | ((with_reducible show WS _ (tAsg _ _) _ _ _); refine ws_asg ?_)
  | ((with_reducible show WS _ (sFld _ _ _ _) _ _ _); refine ws_fld ?_)
  | ((with_reducible show WS _ (tDrop _) _ _ _); refine ws_drop ?_)
  | ((with_reducible show WS _ (tRet _) _ _ _); refine ws_ret ?_)
  | ((with_reducible show WS _ tRetN _ _ _); refine ws_retN ?_)
  | ((with_reducible show WS _ tNext _ _ _); refine ws_next ?_)
  | ((with_reducible show WS _ tBreak _ _ _); refine ws_break ?_)
  | ((with_reducible show WS _ tCont _ _ _); refine ws_cont ?_)
  | ((with_reducible show WS _ (tIfS _ _ _) _ _ _); refine ws_if ?_)
  | ((with_reducible show WS _ (tAug _ _ _) _ _ _); refine ws_aug (by rfl) ?_)
  | ((with_reducible show WS _ (tAugS _ _ _ _ _ _) _ _ _); refine ws_augS ?_)
  | ((with_reducible show WG _ (gName _) _ _ _ _); refine wg_name ?_)
  | ((with_reducible show WG _ (gTup _ _ _) (.tup _) _ _ _); refine wg_tup (by rfl) ?_)
  | ((with_reducible show WG _ (gSub _ _ _) _ _ _ _); refine wg_sub ?_)
  | ((with_reducible show WGs _ gNil [] _ _ _); refine wgs_nil ?_)
  | ((with_reducible show WGs _ (gCons _ _) (_ :: _) _ _ _); refine wgs_cons ?_)
  | ((with_reducible show WI _ (iRng1 _) _ _ _); refine wi_rng1 ?_)
  | ((with_reducible show WI _ (iRng2 _) _ _ _); refine wi_rng2 ?_)
  | ((with_reducible show WI _ (iSeqU _ _) _ _ _); refine wi_seq ?_)
  | ((with_reducible show WI _ (iEnumU _ _) _ _ _); refine wi_enum ?_)
  | ((with_reducible show WI _ (RZ.iZipA _ _) _ _ _); refine wi_zip ?_))
local macro_rules | `(tactic| walk_at "w") => `(tactic| first
  | ((with_reducible show ∃ C ns ds d, InsOf _ _ C ns ds ∧ _); refine ⟨_, _, _, _, .o, by walk_at "cls", by walk_at "noat", by rfl, ?_⟩)
  | ((with_reducible show R2W _ (rAddU _) (.int _) (.int _) _ _); refine rw_addI ?_)
  | ((with_reducible show R2W _ rSubI (.int _) (.int _) _ _); refine rw_subI ?_)
  | ((with_reducible show R2W _ rLtI (.int _) (.int _) _ _); refine rw_ltI ?_)
  | ((with_reducible show R2W _ rLeI (.int _) (.int _) _ _); refine rw_leI ?_)
  | ((with_reducible show R2W _ rGtI (.int _) (.int _) _ _); refine rw_gtI ?_)
  | ((with_reducible show R2W _ rGeI (.int _) (.int _) _ _); refine rw_geI ?_)
  | ((with_reducible show R2W _ (rEqU _) (.int _) (.int _) _ _); refine rw_eqUI ?_)
  | ((with_reducible show R2W _ (rEqU _) (.str _) (.str _) _ _); refine rw_eqUS ?_)
  | ((with_reducible show R2W _ (rNeU _) (.int _) (.int _) _ _); refine rw_neUI ?_)
  | ((with_reducible show R2W _ (rNeU _) (.str _) (.str _) _ _); refine rw_neUS ?_)
  | ((with_reducible show R1W _ rNegI (.int _) _ _); refine rw_negI ?_)
  | ((with_reducible show RLW _ (rLenQ _) [_] _ _); refine rw_len (by first | exact .t | exact .l | exact .r (by assumption)) ?_)
  | ((with_reducible show RLW _ rIntQ [.int _] _ _); refine rw_int ?_)
  | ((with_reducible show RLW _ rAbsQ [.int _] _ _); refine rw_abs ?_)
  | ((with_reducible show ∃ k, .bl _ = D.bl k ∧ _); refine ⟨_, rfl, ?_⟩)
  | ((with_reducible show ∃ k, .int _ = D.int k ∧ _); refine ⟨_, rfl, ?_⟩)
  | ((with_reducible show ∃ k, TruD _ (.bl _) k ∧ _); refine ⟨_, .bl, ?_⟩)
  | ((with_reducible show ∃ k, TruD _ (.int _) k ∧ _); refine ⟨_, .int, ?_⟩)
  | ((with_reducible show List.length _ ≤ 1000000 ∧ _); refine ⟨Nat.le_of_ble_eq_true rfl, ?_⟩)
  | ((with_reducible show ∃ S2, Sub S2 _ ∧ _); refine ⟨_, Sub.refl _, ?_⟩))
local macro_rules | `(tactic| walk_at "w*") => `(tactic| repeat walk_at "w")
local macro_rules | `(tactic| walk_at "le") => `(tactic| repeat first | exact Le.nil | exact Le.rfl | refine Le.som ?_ | refine Le.non ?_)
local macro_rules | `(tactic| walk_at "fz") => `(tactic| repeat first | exact Fz.nil | refine Fz.som ?_ | refine Fz.frz ?_ | refine Fz.non ?_)
local macro_rules | `(tactic| walk_at "cls") => `(tactic| first | exact cl_Net (by assumption) | exact cl_Standing (by assumption) | exact cl_Bill (by assumption) | exact cl_Trip (by assumption))
local macro_rules | `(tactic| walk_at "noat") => `(tactic| first | exact na_Net_stations (by assumption) | exact na_Net_ropes (by assumption) | exact na_Standing_net (by assumption) | exact na_Standing_reds (by assumption) | exact na_Standing_blues (by assumption) | exact na_Standing_cars (by assumption) | exact na_Bill_net (by assumption) | exact na_Bill_reds (by assumption) | exact na_Bill_blues (by assumption) | exact na_Trip_rides (by assumption))

local macro_rules | `(tactic| walk_at "w") => `(tactic| first
  | ((with_reducible show WI _ (iRng3 _) _ _ _); refine wi_rng3 ?_)
  | ((with_reducible show R2W _ (rIxU _) (.ref _) (.int 0) (potU _ _ _ _ _ _ _ _) _); refine rw_p0 ?_)
  | ((with_reducible show R2W _ (rIxU _) (.ref _) (.int 1) (potU _ _ _ _ _ _ _ _) _); refine rw_p1 ?_)
  | ((with_reducible show R2W _ (rIxU _) (.ref _) (.int 2) (potU _ _ _ _ _ _ _ _) _); refine rw_p2 ?_)
  | ((with_reducible show R2W _ (rIxU _) (.ref _) (.int 3) (potU _ _ _ _ _ _ _ _) _); refine rw_p3 ?_)
  | ((with_reducible show R2W _ (rIxU _) (.ref _) (.int 4) (potU _ _ _ _ _ _ _ _) _); refine rw_p4 ?_)
  | ((with_reducible show RSW _ rSetL (.ref _) (.int 1) (.int _) (potU _ _ _ _ _ _ _ _) _); refine rs_p1 ?_)
  | ((with_reducible show RSW _ rSetL (.ref _) (.int 2) (.int _) (potU _ _ _ _ _ _ _ _) _); refine rs_p2 ?_)
  | ((with_reducible show RSW _ rSetL (.ref _) (.int 3) (.int _) (potU _ _ _ _ _ _ _ _) _); refine rs_p3 ?_)
  | ((with_reducible show RSW _ rSetL (.ref _) (.int 4) (.int _) (potU _ _ _ _ _ _ _ _) _); refine rs_p4 ?_)
  | ((with_reducible show R2W _ rMulU (.int _) (.int _) _ _); refine rw_mulI (.inr ⟨by decide, by decide⟩) ?_)
  | ((with_reducible show R2W _ rMulU (.int _) (.int _) _ _); refine rw_mulI (.inl ⟨by decide, by decide⟩) ?_)
  | ((with_reducible show R2W _ rModI (.int _) (.int _) _ _); refine rw_modI (by decide) ?_)
  | ((with_reducible show R2W _ rDivI (.int _) (.int _) _ _); refine rw_divI (by decide) (by decide) ?_)
  | ((with_reducible show RLW _ rMax2Q [.int _, .int _] _ _); refine rw_max2 ?_)
  | ((with_reducible show RLW _ rMin2Q [.int _, .int _] _ _); refine rw_min2 ?_))

section
variable {P : Program} {w : World} {K : PySem.W.Frag} {mg : Str → Option Value} {base : Heap}
theorem ok__law_order (T : Hd fn fa xs K mg) : FnE P w K mg base 3 (He.fAd K d__law_order.at_) ps__law_order (spOf K sp__law_order) := by
  refine T.ok _ ix__law_order (N := N__law_order) rfl sc__law_order (fun ds S Φ ⟨_, _, _, e, _⟩ => by rw [e]; rfl) (fun _ _ _ _ _ _ us hl => ?_) fun cdv A outer s H E hr => ⟨_, dv__law_order T (ok__law_draw T) hr, ?_⟩
  · match us, hl with
    | [a, b], _ => rfl
  rintro _ S Φ ⟨p, c, n, rfl, hn, hP, q⟩
  unfold t__law_order
  walk_at "w*"
  refine w_mapM (xs := List.range n) (f := fun k => .int (0 + (k : Nat))) (h := nD) (go_name (by simp)) ?_
  walk_at "w*"
  refine ⟨n, rfl, by omega, by omega, rfl, by simp; omega, fun k hk => ?_, fun q1 hq1 => ?_⟩
  · walk_at "w*"
    exact ⟨by rw [Int.zero_add], rfl⟩
  walk_at "w*"
  refine w_lstM ?_
  walk_at "w*"
  refine fun q2 hq2 => ?_
  have hqq : q1 ≠ q2 := fun e => by (rw [e, stU_same] at hq2; cases hq2)
  have hS2 : S q2 = none := by rw [stU_ne (Ne.symm hqq)] at hq2; exact hq2
  obtain ⟨n1, n2⟩ := hP.ne hq1
  obtain ⟨n3, n4⟩ := hP.ne hS2
  walk_at "w*"
  refine ws_forE ?_
  walk_at "w*"
  refine ⟨n, rfl, by omega, by omega, fun i => [some (.ref p), some (.int n), some (.ref q1), some (.ref q2), none],
    fun i S' => ∃ Sb pool ord, Dr p c S Sb ∧ S' = stU (stU Sb q1 (.lst (pool.map nD))) q2 (.lst (ord.map nD)) ∧ (ord ++ pool).Perm (List.range n) ∧ ord.length = i, by walk_at "le",
    ⟨S, List.range n, [], .rfl hP, rfl, .refl _, rfl⟩, fun i y S' hy e => ?_, fun S' e => ?_⟩
  · obtain ⟨Sb, pool, ord, hD, rfl, hp, hl⟩ := e
    obtain ⟨k, hk, rfl⟩ := map_get hy
    obtain ⟨hk', -⟩ := List.getElem?_eq_some_iff.mp hk
    rw [List.length_range] at hk'
    have hlen := hp.length_eq
    rw [List.length_append, List.length_range] at hlen
    walk_at "w*"
    refine ⟨_, _, rfl, stU_same, ?_⟩
    walk_at "w*"
    refine ⟨_, _, rfl, (stU_ne hqq).trans stU_same, ?_⟩
    walk_at "w*"
    refine rw_len (.r ((stU_ne hqq).trans stU_same)) ?_
    walk_at "w*"
    rw [List.length_map]
    refine ⟨p, c, pool.length, rfl, by omega, (hD.pot.put n1 n2).put n3 n4, fun r S2 hr' hD2 => ?_⟩
    obtain ⟨S3, hD3, rfl⟩ := hD2.pull n3 n4
    obtain ⟨S4, hD4, rfl⟩ := hD3.pull n1 n2
    have hrp : r < pool.length := by omega
    refine ⟨_, nD (pool[r]), _, rfl, Int.natCast_nonneg _, (stU_ne hqq).trans stU_same, by rw [Int.toNat_natCast, List.getElem?_map, List.getElem?_eq_getElem hrp]; rfl, by simp; omega, ?_⟩
    rw [stU2_l hqq]
    refine ⟨_, stU_same, by simp; omega, ?_⟩
    rw [stU_U, Int.toNat_natCast, ← map_eraseIdx']
    refine ⟨by walk_at "le", S4, pool.eraseIdx r, ord ++ [pool[r]], hD.trans hD4, by rw [List.map_append]; rfl, ?_, by simp [hl]⟩
    refine List.Perm.trans ?_ hp
    rw [List.append_assoc]
    refine List.Perm.append_left _ ?_
    exact perm_erase hrp
  · obtain ⟨Sb, pool, ord, hD, rfl, hp, hl⟩ := e
    have e0 : (rng 0 (n : Int).toNat).length = n := by simp [rng]
    rw [e0] at hl
    have hlen := hp.length_eq
    rw [List.length_append, List.length_range] at hlen
    have hp0 : pool = [] := List.length_eq_zero_iff.mp (by omega)
    subst hp0
    rw [List.append_nil] at hp
    refine ws_fz stU_same (Γ' := [none, none, none, some (.lst _), none]) (by walk_at "fz") ?_
    have h1 : Sb q1 = none := hD.none hP hq1
    have h2 : Sb q2 = none := hD.none hP hS2
    rw [stD_U (by rw [stU_ne (Ne.symm hqq)]; exact h2)]
    refine ws_ret ?_
    refine w_var (by rfl) ?_
    exact ⟨_, Sub.new h1, q _ _ hp hD⟩
theorem insert_perm {α : Type} {l : List α} {y : α} {i : Nat} : (l.take i ++ [y] ++ l.drop i).Perm (y :: l) := by
  have h : (l.take i ++ ([y] ++ l.drop i)).Perm ([y] ++ l.drop i ++ l.take i) := List.perm_append_comm
  rw [List.append_assoc]
  refine h.trans (List.Perm.cons y ?_)
  have h2 : (l.drop i ++ l.take i).Perm (l.take i ++ l.drop i) := List.perm_append_comm
  rw [List.take_append_drop] at h2
  exact h2
theorem ok__law_rope (T : Hd fn fa xs K mg) : FnE P w K mg base 3 (He.fAd K d__law_rope.at_) ps__law_rope (spOf K sp__law_rope) := by
  refine T.ok _ ix__law_rope (N := N__law_rope) rfl sc__law_rope (fun ds S Φ ⟨_, _, _, _, _, _, _, e, _⟩ => by rw [e]; rfl) (fun _ _ _ _ _ _ us hl => ?_) fun cdv A outer s H E hr => ⟨_, dv__law_rope T (ok__law_draw T) hr, ?_⟩
  · match us, hl with
    | [a, b, c, d], _ => rfl
  rintro _ S Φ ⟨p, c, e, es, a, b, S0, rfl, rfl, hP, n1, n2, hl, q⟩
  unfold t__law_rope
  refine ws_mid (fun S2 Γ2 => S2 = stU S0 e (.lst (es.map pD)) ∧ Γ2 = [some (.ref p), some (.ref e), some (.int a), some (.int b), some (pD (a, b))]) (by walk_at "w*"; exact ⟨rfl, rfl⟩) ?_
  rintro _ _ ⟨rfl, rfl⟩
  refine ws_mid (fun S2 Γ2 => ∃ S3 y, Dr p c S0 S3 ∧ (y = (a, b) ∨ y = (b, a)) ∧ S2 = stU S3 e (.lst (es.map pD)) ∧ Γ2 = [some (.ref p), some (.ref e), some (.int a), some (.int b), some (pD y)]) ?_ ?_
  · walk_at "w*"
    refine ⟨p, c, 2, rfl, by omega, hP.put n1 n2, fun r S2 _ hD => ?_⟩
    obtain ⟨S3, hD3, rfl⟩ := hD.pull n1 n2
    walk_at "w*"
    refine ifD (fun _ => ?_) (fun _ => ?_)
    · walk_at "w*"
      exact ⟨S3, (b, a), hD3, .inr rfl, rfl, rfl⟩
    · walk_at "w*"
      exact ⟨S3, (a, b), hD3, .inl rfl, rfl, rfl⟩
  rintro _ _ ⟨S3, y, hD3, hy, rfl, rfl⟩
  walk_at "w*"
  refine ⟨_, _, rfl, stU_same, ?_⟩
  walk_at "w*"
  refine rw_len (.r stU_same) ?_
  walk_at "w*"
  rw [List.length_map]
  refine ⟨p, c, es.length + 1, rfl, by omega, hD3.pot.put n1 n2, fun r2 S4 _ hD4 => ?_⟩
  obtain ⟨S5, hD5, rfl⟩ := hD4.pull n1 n2
  walk_at "w*"
  refine ⟨_, _, rfl, Int.natCast_nonneg _, by omega, stU_same, by simp; omega, ?_⟩
  rw [stU_U, Int.toNat_natCast]
  have z := q (es.take r2 ++ [y] ++ es.drop r2) y S5 hy insert_perm (hD3.trans hD5)
  rw [List.map_append, List.map_append, List.map_take, List.map_drop] at z
  exact ⟨_, Sub.refl _, z⟩
theorem rw_ixi' {S : Store} {Φ : D → Store → Prop} {x : D} {α : Type} {f : α → D} {xs : List α} {k : Nat} {i : Int} (dflt : α) (h : SeqOf S x (xs.map f)) (e : i = (k : Int)) (h1 : k < xs.length) (q : Φ (f (xs.getD k dflt)) S) : R2W K (rIxU K) x (.int i) S Φ := by
  subst e
  exact rw_ixn dflt h h1 q
theorem ok__law_tree (T : Hd fn fa xs K mg) : FnE P w K mg base 4 (He.fAd K d__law_tree.at_) ps__law_tree (spOf K sp__law_tree) := by
  refine T.ok _ ix__law_tree (N := N__law_tree) rfl sc__law_tree (fun ds S Φ ⟨_, _, _, e, _⟩ => by rw [e]; rfl) (fun _ _ _ _ _ _ us hl => ?_) fun cdv A outer s H E hr => ⟨_, dv__law_tree T (ok__law_order T) (ok__law_rope T) (ok__law_draw T) hr, ?_⟩
  · match us, hl with
    | [a, b], _ => rfl
  rintro _ S Φ ⟨p, c, n, rfl, hn1, hn, hP, q⟩
  unfold t__law_tree
  walk_at "w*"
  refine ⟨p, c, n, rfl, hn, hP, fun l S2 hl hD => ?_⟩
  have hll := hl.length_eq
  rw [List.length_range] at hll
  have hnd : l.Nodup := hl.nodup_iff.mpr List.nodup_range
  have hlt : ∀ x ∈ l, x < n := fun x hx => List.mem_range.mp (hl.mem_iff.mp hx)
  walk_at "w*"
  refine w_lstM ?_
  walk_at "w*"
  refine fun e he2 => ?_
  have he : S e = none := by
    have := hD.pot.ne he2
    rw [hD.off e this.1 this.2] at he2
    exact he2
  obtain ⟨n1, n2⟩ := hP.ne he
  walk_at "w*"
  refine ws_forE ?_
  walk_at "w*"
  refine ⟨1, n, rfl, ⟨by omega, by omega, by omega, by omega⟩, fun i => [some (.ref p), some (.int n), some (.lst (l.map nD)), some (.ref e), none],
    fun i S' => ∃ Sb es, Dr p c S Sb ∧ S' = stU Sb e (.lst (es.map pD)) ∧ EOk n es ∧ es.length = i ∧ ∀ J : Nat → Bool, (∀ e ∈ es, J e.1 = J e.2) → ∀ j, j ≤ i → J (l.getD j 0) = J (l.getD 0 0), by walk_at "le",
    ⟨S2, [], hD, rfl, fun _ h => by simp at h, rfl, fun J _ j hj => by rw [Nat.le_zero.mp hj]⟩, fun i y S' hy e => ?_, fun S' e => ?_⟩
  · obtain ⟨Sb, es, hDb, rfl, hE, hel, hJ⟩ := e
    obtain ⟨k, hk, rfl⟩ := map_get hy
    obtain ⟨hk', -⟩ := List.getElem?_eq_some_iff.mp hk
    rw [List.length_range] at hk'
    have ek : k = i := by
      rw [List.getElem?_range hk'] at hk
      exact (Option.some.inj hk).symm
    subst ek
    have hi : k + 1 < n := by omega
    walk_at "w*"
    refine rw_ixi' (k := k + 1) 0 .l (by omega) (by omega) ?_
    walk_at "w*"
    refine ⟨p, c, k + 1, by rw [show (1 : Int) + (k : Nat) = ((k + 1 : Nat) : Int) by omega], by omega, hDb.pot.put n1 n2, fun r S4 hr' hD4 => ?_⟩
    obtain ⟨S5, hD5, rfl⟩ := hD4.pull n1 n2
    have hrk : r ≤ k := by omega
    refine rw_ixn (xs := l) (f := nD) 0 .l (by omega) ?_
    walk_at "w*"
    have d1 : l.getD (k + 1) 0 = l[k + 1] := by rw [List.getD_eq_getElem?_getD, List.getElem?_eq_getElem (by omega)]; rfl
    have d2 : l.getD r 0 = l[r] := by rw [List.getD_eq_getElem?_getD, List.getElem?_eq_getElem (by omega)]; rfl
    have hne : l.getD (k + 1) 0 ≠ l.getD r 0 := fun z => by
      rw [d1, d2] at z
      exact List.pairwise_iff_getElem.mp hnd r (k + 1) (by omega) (by omega) (by omega) z.symm
    have m1 : l.getD (k + 1) 0 < n := by rw [d1]; exact hlt _ (List.getElem_mem _)
    have m2 : l.getD r 0 < n := by rw [d2]; exact hlt _ (List.getElem_mem _)
    refine ⟨p, c, e, es, _, _, S5, rfl, rfl, hD5.pot, n1, n2, by omega, fun es' y S6 hy hp' hD6 => ?_⟩
    refine ⟨by walk_at "le", S6, es', (hDb.trans hD5).trans hD6, rfl, fun x hx => ?_, ?_, fun J hJ' j hj => ?_⟩
    · rcases List.mem_cons.mp (hp'.mem_iff.mp hx) with z | z
      · subst z
        rcases hy with z | z
        · rw [z]; exact ⟨m1, m2, hne⟩
        · rw [z]; exact ⟨m2, m1, Ne.symm hne⟩
      · exact hE x z
    · rw [hp'.length_eq, List.length_cons, hel]
    · have base : ∀ j, j ≤ k → J (l.getD j 0) = J (l.getD 0 0) := hJ J fun x hx => hJ' x (hp'.mem_iff.mpr (List.mem_cons_of_mem _ hx))
      have new : J (l.getD (k + 1) 0) = J (l.getD r 0) := by
        have := hJ' y (hp'.mem_iff.mpr List.mem_cons_self)
        rcases hy with z | z
        · rw [z] at this; exact this
        · rw [z] at this; exact this.symm
      by_cases hjk : j ≤ k
      · exact base j hjk
      · have : j = k + 1 := by omega
        subst this
        rw [new]; exact base r hrk
  · obtain ⟨Sb, es, hDb, rfl, hE, hel, hJ⟩ := e
    have e0 : (rng 1 ((n : Int) - 1).toNat).length = n - 1 := by simp [rng]
    rw [e0] at hel hJ
    have all : ∀ i, i < n → ∃ j, j ≤ n - 1 ∧ l.getD j 0 = i := fun i hi => by
      obtain ⟨j, hj, e⟩ := List.getElem_of_mem (hl.mem_iff.mpr (List.mem_range.mpr hi))
      exact ⟨j, by omega, by rw [List.getD_eq_getElem?_getD, List.getElem?_eq_getElem hj]; exact e⟩
    refine ws_ret ?_
    refine w_var (by rfl) ?_
    refine ⟨_, Sub.refl _, q _ es Sb he hE (fun J hJ' i hi => ?_) (by omega) hDb⟩
    obtain ⟨j, hj, e1⟩ := all i hi
    obtain ⟨j0, hj0, e2⟩ := all 0 (by omega)
    have a1 := hJ J hJ' j hj
    have a2 := hJ J hJ' j0 hj0
    rw [e1] at a1
    rw [e2] at a2
    exact a1.trans a2.symm
theorem ok__law_extra (T : Hd fn fa xs K mg) : FnE P w K mg base 4 (He.fAd K d__law_extra.at_) ps__law_extra (spOf K sp__law_extra) := by
  refine T.ok _ ix__law_extra (N := N__law_extra) rfl sc__law_extra (fun ds S Φ ⟨_, _, _, _, _, _, _, e, _⟩ => by rw [e]; rfl) (fun _ _ _ _ _ _ us hl => ?_) fun cdv A outer s H E hr => ⟨_, dv__law_extra T (ok__law_draw T) (ok__law_rope T) hr, ?_⟩
  · match us, hl with
    | [a, b, c, d], _ => rfl
  rintro _ S Φ ⟨p, c, e, n, m, es, S0, rfl, hn1, hn, hm, hes, rfl, hP, n1, n2, hE, hC, q⟩
  unfold t__law_extra
  refine ws_forE ?_
  walk_at "w*"
  refine ⟨p, c, m + 1, rfl, by omega, hP.put n1 n2, fun r S2 hr' hD2 => ?_⟩
  obtain ⟨S3, hD3, rfl⟩ := hD2.pull n1 n2
  walk_at "w*"
  refine ⟨r, rfl, by omega, by omega, fun i => [some (.ref p), some (.int n), some (.ref e), none, none, none, none],
    fun i S' => ∃ Sb es', Dr p c S0 Sb ∧ S' = stU Sb e (.lst (es'.map pD)) ∧ EOk n es' ∧ Conn n es' ∧ es'.length ≤ es.length + i, by walk_at "le",
    ⟨S3, es, hD3, rfl, hE, hC, Nat.le_refl _⟩, fun i y S' hy e => ?_, fun S' e => ?_⟩
  · obtain ⟨Sb, es', hDb, rfl, hE', hC', hel⟩ := e
    obtain ⟨k, hk, rfl⟩ := map_get hy
    have hi : i < r := by
      have := (List.getElem?_eq_some_iff.mp hk).1
      rw [List.length_range] at this
      omega
    walk_at "w*"
    refine ⟨p, c, n, rfl, by omega, hDb.pot.put n1 n2, fun a S4 ha hD4 => ?_⟩
    obtain ⟨S5, hD5, rfl⟩ := hD4.pull n1 n2
    walk_at "w*"
    refine ⟨p, c, n - 1, by rw [show (n : Int) - 1 = ((n - 1 : Nat) : Int) by omega], by omega, hD5.pot.put n1 n2, fun b S6 hb hD6 => ?_⟩
    obtain ⟨S7, hD7, rfl⟩ := hD6.pull n1 n2
    walk_at "w*"
    refine rw_modI (by omega) ?_
    have hz : ((a : Int) + 1 + (b : Nat)) % (n : Int) = (((a + 1 + b) % n : Nat) : Int) := by rw [Int.natCast_emod, Int.natCast_add, Int.natCast_add]; rfl
    rw [hz]
    have ha' : a < n := by omega
    have hb' : b < n - 1 := by omega
    have hlt : (a + 1 + b) % n < n := Nat.mod_lt _ (by omega)
    have hne : a ≠ (a + 1 + b) % n := by
      by_cases h : a + 1 + b < n
      · rw [Nat.mod_eq_of_lt h]; omega
      · rw [Nat.mod_eq_sub_mod (by omega), Nat.mod_eq_of_lt (by omega)]; omega
    walk_at "w*"
    refine ⟨p, c, e, es', a, _, S7, rfl, rfl, hD7.pot, n1, n2, by omega, fun es2 y S8 hy hp' hD8 => ?_⟩
    refine ⟨by walk_at "le", S8, es2, ((hDb.trans hD5).trans hD7).trans hD8, rfl, fun x hx => ?_, fun J hJ => hC' J fun x hx => hJ x (hp'.mem_iff.mpr (List.mem_cons_of_mem _ hx)), ?_⟩
    · rcases List.mem_cons.mp (hp'.mem_iff.mp hx) with z | z
      · subst z
        rcases hy with z | z
        · rw [z]; exact ⟨ha', hlt, hne⟩
        · rw [z]; exact ⟨hlt, ha', Ne.symm hne⟩
      · exact hE' x z
    · rw [hp'.length_eq, List.length_cons]
      omega
  · obtain ⟨Sb, es', hDb, rfl, hE', hC', hel⟩ := e
    have e0 : (rng 0 (r : Int).toNat).length = r := by simp [rng]
    rw [e0] at hel
    exact ⟨_, Sub.refl _, q es' Sb hE' hC' (by omega) hDb⟩
end
end Tw


set_option Elab.async false
set_option linter.all false
set_option maxRecDepth 100000
set_option maxHeartbeats 4000000
namespace Tw
open PySem PySem.Spec PyProof.Rows L2
abbrev bI (b : Bool) : Int := if b then 1 else 0
abbrev rD (r : Ride) : D := .tup [.int r.1, .int (bI r.2)]
abbrev keyD (n m : Nat) (f : Conf) : D := .tup (seqI (2 * n + m) f)
theorem Emb.bit : Emb (fun b : Bool => D.int (bI b)) (fun b => PyData.int (bI b)) 0 where
  rep := fun _ r => by cases r; exact .int _
  lay := fun _ => rfl
  dep := fun _ => by simp [PyData.depth]
  eqv := fun a b => by cases a <;> cases b <;> decide
theorem emb_r : Emb rD (fun ab : Ride => .tuple [.int ab.1, .int (bI ab.2)]) 1 := Emb.pair Emb.nat Emb.bit
def LkS (d : D) : Prop := (∃ b, d = .bl b) ∨ (∃ i, d = .int i) ∨ ∃ s, d = .str s
def LkD : Nat → D → Prop
  | 0, d => LkS d
  | n + 1, d => LkS d ∨ ∃ ds, (d = .lst ds ∨ d = .tup ds) ∧ ds.length ≤ 1000000 ∧ ∀ x ∈ ds, LkD n x
theorem LkD.up {d : D} (h : LkS d) : ∀ n, LkD n d
  | 0 => h
  | _ + 1 => Or.inl h
theorem LkD.int {n : Nat} {i : Int} : LkD n (.int i) := LkD.up (Or.inr (Or.inl ⟨i, rfl⟩)) n
theorem LkD.bl {n : Nat} {i : Bool} : LkD n (.bl i) := LkD.up (Or.inl ⟨i, rfl⟩) n
theorem LkD.str {n : Nat} {i : Str} : LkD n (.str i) := LkD.up (Or.inr (Or.inr ⟨i, rfl⟩)) n
theorem LkD.seq {n : Nat} {ds : List D} (hl : ds.length ≤ 1000000) (h : ∀ x ∈ ds, LkD n x) : LkD (n + 1) (.lst ds) ∧ LkD (n + 1) (.tup ds) := ⟨Or.inr ⟨ds, .inl rfl, hl, h⟩, Or.inr ⟨ds, .inr rfl, hl, h⟩⟩
def sp__law_like (n : Nat) : Spec := fun ds S Φ => ∃ d, ds = [d, d] ∧ LkD n d ∧ Φ (.bl true) S
def sp__law_open : Spec := fun ds S Φ => ∃ (n : Nat) (es : List (Nat × Nat)) (f : Conf), ds = [.int n, .lst (es.map pD), keyD n es.length f] ∧ NetOk n es ∧ Ok n es f ∧ ∀ l : List Ride, (∀ r, r ∈ l ↔ can n es f r) → l.length ≤ 1000 → Φ (.lst (l.map rD)) S
def sp__law_ridden : Spec := fun ds S Φ => ∃ (n : Nat) (es : List (Nat × Nat)) (f : Conf) (r : Ride), ds = [.int n, .lst (es.map pD), keyD n es.length f, rD r] ∧ NetOk n es ∧ Ok n es f ∧ can n es f r ∧ Φ (keyD n es.length (ride n es f r)) S
def sp__law_stand (K : PySem.W.Frag) : Spec := fun ds S Φ => ∃ (n : Nat) (es : List (Nat × Nat)) (f : Conf), ds = [netD K n es, .int n, keyD n es.length f] ∧ NetOk n es ∧ Ok n es f ∧ Φ (stgD K n es f) S
def sp__law_words : Spec := fun ds S Φ => ∃ (x : D) (rs : List Ride), ds = [x] ∧ Stands x (rs.map rD) ∧ rs.length ≤ 1000 ∧ Φ (.lst (rs.map wD)) S
def sp__law_reduced : Spec := fun ds S Φ => ∃ (rs : List Ride), ds = [.lst (rs.map rD)] ∧ rs.length ≤ 1000 ∧ Φ (.lst ((red rs).map rD)) S
local macro_rules | `(tactic| walk_at "w") => `(tactic| first
  | ((with_reducible show WE _ (tVar _) _ _ _); refine w_var (by rfl) ?_)
  | ((with_reducible show WE _ (tC (.int _)) _ _ _); refine w_cI ?_)
  | ((with_reducible show WE _ (tC (.str _)) _ _ _); refine w_cS ?_)
  | ((with_reducible show WE _ (tC (.bl _)) _ _ _); refine w_cB ?_)
  | ((with_reducible show WE _ (tC .non) _ _ _); refine w_cN ?_)
  | ((with_reducible show WE _ (tC (.ty _)) _ _ _); refine w_cT ?_)
  | ((with_reducible show WE _ (tC (.ref _)) _ _ _); refine w_cR ?_)
  | ((with_reducible show WE _ (tOp _ _ _) _ _ _); refine w_op ?_)
  | ((with_reducible show WE _ (tUn _ _) _ _ _); refine w_un ?_)
  | ((with_reducible show WE _ (tChain _ _ _ _ _) _ _ _); refine w_chain ?_)
  | ((with_reducible show WE _ (tFld _ _ _) _ _ _); refine w_fld ?_)
  | ((with_reducible show WE _ (tIf _ _ _) _ _ _); refine w_ifE ?_)
  | ((with_reducible show WE _ (tTup _) _ _ _); refine w_tup ?_)
  | ((with_reducible show WE _ (tCB _ _) _ _ _); refine w_cb ?_)
  | ((with_reducible show WE _ (tCall _ _ _ _) _ _ _); refine w_call ?_)
  | ((with_reducible show WE _ (tMake _ _ _ _ _) _ _ _); refine w_make ?_)
  | ((with_reducible show WE _ (tMeth _ _ _ _ _ _ _) _ _ _); refine w_meth ?_)
  | ((with_reducible show WE _ (tSl _ _ _ _) _ _ _); refine w_sl ?_)
  | ((with_reducible show WE _ (tBM _ _ rAppend _ _) _ _ _); refine w_append (p := 0) (ds := []) ?_)
  | ((with_reducible show WE _ (tBM _ _ rExtend _ _) _ _ _); refine w_extend ?_)
  | ((with_reducible show WE _ (tBM _ _ rInsL _ _) _ _ _); refine w_insert ?_)
  | ((with_reducible show WE _ (tBM0 _ _ rPop _) _ _ _); refine w_pop ?_)
  | ((with_reducible show WE _ (tBM _ _ rPopAt _ _) _ _ _); refine w_popAt ?_)
  | ((with_reducible show WE _ (tBM _ _ (rCntD _) _ _) _ _ _); refine w_bmL ?_)
  | ((with_reducible show WE _ (tAndV _ _) _ _ _); refine w_andV ?_)
  | ((with_reducible show WE _ (tOrV _ _) _ _ _); refine w_orV ?_)
  | ((with_reducible show WE _ (tNotV _) _ _ _); refine w_notV ?_)
  | ((with_reducible show WA _ tNil _ _ _); refine wa_nil ?_)
  | ((with_reducible show WA _ (tCons _ _) _ _ _); refine wa_cons ?_)
  | ((with_reducible show WO _ tNoPart _ _ _); refine wo_none ?_)
  | ((with_reducible show WO _ (tPart _) _ _ _); refine wo_some ?_)
  | ((with_reducible show WT _ (tTest _) _ _ _); refine w_test ?_)
  | ((with_reducible show WT _ (tB _) _ _ _); refine w_tB ?_)
  | ((with_reducible show WT _ (tTru _ _) _ _ _); refine w_tru ?_)
  | ((with_reducible show WT _ (tTruO _ _) _ _ _); refine w_truO ?_)
  | ((with_reducible show WT _ (tAnd _ _) _ _ _); refine w_and ?_)
  | ((with_reducible show WT _ (tOr _ _) _ _ _); refine w_or ?_)
  | ((with_reducible show WT _ (tNot _) _ _ _); refine w_not ?_)
  | ((with_reducible show WT _ tYes _ _ _); refine wt_yes ?_)
  | ((with_reducible show WS _ (tSeq _ _) _ _ _); refine ws_seq ?_)
  | ((with_reducible show WS _ (tAsg _ (gName _)) _ _ _); refine ws_set ?_)
  | ((with_reducible show WS _ (tAsg _ _) _ _ _); refine ws_asg ?_)
  | ((with_reducible show WS _ (sFld _ _ _ _) _ _ _); refine ws_fld ?_)
  | ((with_reducible show WS _ (tDrop _) _ _ _); refine ws_drop ?_)
  | ((with_reducible show WS _ (tRet _) _ _ _); refine ws_ret ?_)
  | ((with_reducible show WS _ tRetN _ _ _); refine ws_retN ?_)
  | ((with_reducible show WS _ tNext _ _ _); refine ws_next ?_)
  | ((with_reducible show WS _ tBreak _ _ _); refine ws_break ?_)
  | ((with_reducible show WS _ tCont _ _ _); refine ws_cont ?_)
  | ((with_reducible show WS _ (tIfS _ _ _) _ _ _); refine ws_if ?_)
  | ((with_reducible show WS _ (tAug _ _ _) _ _ _); refine ws_aug (by rfl) ?_)
  | ((with_reducible show WS _ (tAugS _ _ _ _ _ _) _ _ _); refine ws_augS ?_)
  | ((with_reducible show WG _ (gName _) _ _ _ _); refine wg_name ?_)
  | ((with_reducible show WG _ (gTup _ _ _) (.tup _) _ _ _); refine wg_tup (by rfl) ?_)
  | ((with_reducible show WG _ (gSub _ _ _) _ _ _ _); refine wg_sub ?_)
  | ((with_reducible show WGs _ gNil [] _ _ _); refine wgs_nil ?_)
  | ((with_reducible show WGs _ (gCons _ _) (_ :: _) _ _ _); refine wgs_cons ?_)
  | ((with_reducible show WI _ (iRng1 _) _ _ _); refine wi_rng1 ?_)
  | ((with_reducible show WI _ (iRng2 _) _ _ _); refine wi_rng2 ?_)
  | ((with_reducible show WI _ (iSeqU _ _) _ _ _); refine wi_seq ?_)
  | ((with_reducible show WI _ (iEnumU _ _) _ _ _); refine wi_enum ?_)
  | ((with_reducible show WI _ (RZ.iZipA _ _) _ _ _); refine wi_zip ?_))
local macro_rules | `(tactic| walk_at "w") => `(tactic| first
  | ((with_reducible show ∃ C ns ds d, InsOf _ _ C ns ds ∧ _); refine ⟨_, _, _, _, .o, by walk_at "cls", by walk_at "noat", by rfl, ?_⟩)
  | ((with_reducible show R2W _ (rAddU _) (.int _) (.int _) _ _); refine rw_addI ?_)
  | ((with_reducible show R2W _ rSubI (.int _) (.int _) _ _); refine rw_subI ?_)
  | ((with_reducible show R2W _ rLtI (.int _) (.int _) _ _); refine rw_ltI ?_)
  | ((with_reducible show R2W _ rLeI (.int _) (.int _) _ _); refine rw_leI ?_)
  | ((with_reducible show R2W _ rGtI (.int _) (.int _) _ _); refine rw_gtI ?_)
  | ((with_reducible show R2W _ rGeI (.int _) (.int _) _ _); refine rw_geI ?_)
  | ((with_reducible show R2W _ (rEqU _) (.int _) (.int _) _ _); refine rw_eqUI ?_)
  | ((with_reducible show R2W _ (rEqU _) (.str _) (.str _) _ _); refine rw_eqUS ?_)
  | ((with_reducible show R2W _ (rNeU _) (.int _) (.int _) _ _); refine rw_neUI ?_)
  | ((with_reducible show R2W _ (rNeU _) (.str _) (.str _) _ _); refine rw_neUS ?_)
  | ((with_reducible show R1W _ rNegI (.int _) _ _); refine rw_negI ?_)
  | ((with_reducible show RLW _ (rLenQ _) [_] _ _); refine rw_len (by first | exact .t | exact .l | exact .r (by assumption)) ?_)
  | ((with_reducible show RLW _ rIntQ [.int _] _ _); refine rw_int ?_)
  | ((with_reducible show RLW _ rAbsQ [.int _] _ _); refine rw_abs ?_)
  | ((with_reducible show ∃ k, .bl _ = D.bl k ∧ _); refine ⟨_, rfl, ?_⟩)
  | ((with_reducible show ∃ k, .int _ = D.int k ∧ _); refine ⟨_, rfl, ?_⟩)
  | ((with_reducible show ∃ k, TruD _ (.bl _) k ∧ _); refine ⟨_, .bl, ?_⟩)
  | ((with_reducible show ∃ k, TruD _ (.int _) k ∧ _); refine ⟨_, .int, ?_⟩)
  | ((with_reducible show List.length _ ≤ 1000000 ∧ _); refine ⟨Nat.le_of_ble_eq_true rfl, ?_⟩)
  | ((with_reducible show ∃ S2, Sub S2 _ ∧ _); refine ⟨_, Sub.refl _, ?_⟩))
local macro_rules | `(tactic| walk_at "w*") => `(tactic| repeat walk_at "w")
local macro_rules | `(tactic| walk_at "le") => `(tactic| repeat first | exact Le.nil | exact Le.rfl | refine Le.som ?_ | refine Le.non ?_)
local macro_rules | `(tactic| walk_at "fz") => `(tactic| repeat first | exact Fz.nil | refine Fz.som ?_ | refine Fz.frz ?_ | refine Fz.non ?_)
local macro_rules | `(tactic| walk_at "cls") => `(tactic| first | exact cl_Net (by assumption) | exact cl_Standing (by assumption) | exact cl_Bill (by assumption) | exact cl_Trip (by assumption))
local macro_rules | `(tactic| walk_at "noat") => `(tactic| first | exact na_Net_stations (by assumption) | exact na_Net_ropes (by assumption) | exact na_Standing_net (by assumption) | exact na_Standing_reds (by assumption) | exact na_Standing_blues (by assumption) | exact na_Standing_cars (by assumption) | exact na_Bill_net (by assumption) | exact na_Bill_reds (by assumption) | exact na_Bill_blues (by assumption) | exact na_Trip_rides (by assumption))

local macro_rules | `(tactic| walk_at "w") => `(tactic| first
  | ((with_reducible show WI _ (iRng3 _) _ _ _); refine wi_rng3 ?_)
  | ((with_reducible show R2W _ (rIxU _) (.ref _) (.int 0) (potU _ _ _ _ _ _ _ _) _); refine rw_p0 ?_)
  | ((with_reducible show R2W _ (rIxU _) (.ref _) (.int 1) (potU _ _ _ _ _ _ _ _) _); refine rw_p1 ?_)
  | ((with_reducible show R2W _ (rIxU _) (.ref _) (.int 2) (potU _ _ _ _ _ _ _ _) _); refine rw_p2 ?_)
  | ((with_reducible show R2W _ (rIxU _) (.ref _) (.int 3) (potU _ _ _ _ _ _ _ _) _); refine rw_p3 ?_)
  | ((with_reducible show R2W _ (rIxU _) (.ref _) (.int 4) (potU _ _ _ _ _ _ _ _) _); refine rw_p4 ?_)
  | ((with_reducible show RSW _ rSetL (.ref _) (.int 1) (.int _) (potU _ _ _ _ _ _ _ _) _); refine rs_p1 ?_)
  | ((with_reducible show RSW _ rSetL (.ref _) (.int 2) (.int _) (potU _ _ _ _ _ _ _ _) _); refine rs_p2 ?_)
  | ((with_reducible show RSW _ rSetL (.ref _) (.int 3) (.int _) (potU _ _ _ _ _ _ _ _) _); refine rs_p3 ?_)
  | ((with_reducible show RSW _ rSetL (.ref _) (.int 4) (.int _) (potU _ _ _ _ _ _ _ _) _); refine rs_p4 ?_)
  | ((with_reducible show R2W _ rMulU (.int _) (.int _) _ _); refine rw_mulI (.inr ⟨by decide, by decide⟩) ?_)
  | ((with_reducible show R2W _ rMulU (.int _) (.int _) _ _); refine rw_mulI (.inl ⟨by decide, by decide⟩) ?_)
  | ((with_reducible show R2W _ rModI (.int _) (.int _) _ _); refine rw_modI (by decide) ?_)
  | ((with_reducible show R2W _ rDivI (.int _) (.int _) _ _); refine rw_divI (by decide) (by decide) ?_)
  | ((with_reducible show RLW _ rMax2Q [.int _, .int _] _ _); refine rw_max2 ?_)
  | ((with_reducible show RLW _ rMin2Q [.int _, .int _] _ _); refine rw_min2 ?_))

theorem rw_all {K : PySem.W.Frag} {S : Store} {Φ : D → Store → Prop} {bs : List Bool} (k : Φ (.bl (bs.all id)) S) : RLW K (rAll K) [.lst (bs.map .bl)] S Φ := fun F H vs Q hs rl hq => by
  obtain ⟨vx, r, rfl, r1, r2⟩ := rl.uncons
  rw [r2.unnil]
  cases r1 with
  | lst h hl hr =>
    rename_i a vs
    have q : RepL K F vs (bs.map .bl) := ⟨hl, hr⟩
    have e : vs = bs.map V.bl := by
      refine List.ext_getElem? fun i => ?_
      by_cases hi : i < bs.length
      · have h2 : (bs.map D.bl)[i]? = some (.bl bs[i]) := by rw [List.getElem?_map, List.getElem?_eq_getElem hi]; rfl
        obtain ⟨v, hv, rv⟩ := q.get h2
        cases rv
        rw [hv, List.getElem?_map, List.getElem?_eq_getElem hi]; rfl
      · rw [List.getElem?_eq_none (by rw [hl, List.length_map]; omega), List.getElem?_eq_none (by rw [List.length_map]; omega)]
    subst e
    exact ⟨a, bs, rfl, SqL.of (hs.ext _ _ h), hq F H _ _ S (Post.refl hs) (.bl _) k⟩
section
variable {P : Program} {w : World} {K : PySem.W.Frag} {mg : Str → Option Value} {base : Heap}
theorem like_never (T : Hd fn fa xs K mg) (k : Nat) : FnE P w K mg base (k + 1) (He.fAd K d__law_like.at_) ps__law_like (spOf K fun _ _ _ => False) := by
  refine T.ok _ ix__law_like (N := N__law_like) rfl sc__law_like (fun ds S Φ h => h.elim) (fun _ _ _ _ _ _ us hl => ?_) fun cdv A outer s H E hr => ⟨_, pss_never, fun _ _ _ h => h.elim⟩
  · match us, hl with
    | [a, b], _ => rfl
theorem like_scalar {sp : Spec} {S : Store} {Φ : D → Store → Prop} {d : D} (h : LkS d) (q : Φ (.bl true) S) : WS K (t__law_like K sp) S (startE N__law_like [d, d]) { nx := fun S' _ => ∃ S2, Sub S2 S' ∧ Φ .non S2, rt := Φ } := by
  unfold t__law_like
  rcases h with ⟨b, rfl⟩ | ⟨i, rfl⟩ | ⟨i, rfl⟩
  · walk_at "w*"
    refine rw_isN (c := false) (fun F v r => by cases r; rfl) ?_
    walk_at "w*"
    refine iteF ?_
    walk_at "w*"
    refine rw_isB (c := b) (fun F v r => by cases r; cases b <;> rfl) ?_
    walk_at "w*"
    cases b with
    | true =>
      refine iteT ?_
      walk_at "w*"
      refine rw_isB (c := true) (fun F v r => by cases r; rfl) ?_
      walk_at "w*"
      exact q
    | false =>
      refine iteF ?_
      walk_at "w*"
      refine rw_isB (c := true) (fun F v r => by cases r; rfl) ?_
      walk_at "w*"
      refine iteT ?_
      walk_at "w*"
      refine rw_isB (c := true) (fun F v r => by cases r; rfl) ?_
      walk_at "w*"
      exact q
  · walk_at "w*"
    refine rw_isN (c := false) (fun F v r => by cases r; rfl) ?_
    walk_at "w*"
    refine iteF ?_
    walk_at "w*"
    refine rw_isB (c := false) (fun F v r => by cases r; rfl) ?_
    walk_at "w*"
    refine iteF ?_
    walk_at "w*"
    refine rw_isB (c := false) (fun F v r => by cases r; rfl) ?_
    walk_at "w*"
    refine iteF ?_
    walk_at "w*"
    refine rw_isi .int .ty (kit_ty (r := false) (by decide +kernel)) ?_
    walk_at "w*"
    refine iteF ?_
    walk_at "w*"
    refine rw_isi .int .ty (kit_ty (r := true) (by decide +kernel)) ?_
    walk_at "w*"
    refine iteT ?_
    walk_at "w*"
    refine rw_isi .int .ty (kit_ty (r := true) (by decide +kernel)) ?_
    walk_at "w*"
    refine iteT ?_
    walk_at "w*"
    refine rw_isi .int .ty (kit_ty (r := false) (by decide +kernel)) ?_
    walk_at "w*"
    refine iteT ?_
    walk_at "w*"
    rw [decide_eq_true rfl]
    exact q
  · walk_at "w*"
    refine rw_isN (c := false) (fun F v r => by cases r; rfl) ?_
    walk_at "w*"
    refine iteF ?_
    walk_at "w*"
    refine rw_isB (c := false) (fun F v r => by cases r; rfl) ?_
    walk_at "w*"
    refine iteF ?_
    walk_at "w*"
    refine rw_isB (c := false) (fun F v r => by cases r; rfl) ?_
    walk_at "w*"
    refine iteF ?_
    walk_at "w*"
    refine rw_isi .str .ty (kit_ty (r := true) (by decide +kernel)) ?_
    walk_at "w*"
    refine iteT ?_
    walk_at "w*"
    refine rw_isi .str .ty (kit_ty (r := true) (by decide +kernel)) ?_
    walk_at "w*"
    refine iteT ?_
    walk_at "w*"
    rw [decide_eq_true rfl]
    exact q
theorem like_step {n : Nat} {S : Store} {Φ : D → Store → Prop} {d : D} (hd : LkD (n + 1) d) (q : Φ (.bl true) S) : WS K (t__law_like K (sp__law_like n)) S (startE N__law_like [d, d]) { nx := fun S' _ => ∃ S2, Sub S2 S' ∧ Φ .non S2, rt := Φ } := by
  rcases hd with hd | ⟨ds, hd, hz, hx⟩
  · exact like_scalar hd q
  have hsq : SeqOf S d ds := by rcases hd with rfl | rfl; exact .l; exact .t
  unfold t__law_like
  walk_at "w*"
  refine rw_isN (c := false) (fun F v r => by rcases hd with rfl | rfl <;> cases r <;> rfl) ?_
  walk_at "w*"
  refine iteF ?_
  walk_at "w*"
  refine rw_isB (c := false) (fun F v r => by rcases hd with rfl | rfl <;> cases r <;> rfl) ?_
  walk_at "w*"
  refine iteF ?_
  walk_at "w*"
  refine rw_isB (c := false) (fun F v r => by rcases hd with rfl | rfl <;> cases r <;> rfl) ?_
  walk_at "w*"
  refine iteF ?_
  walk_at "w*"
  have hil : ∃ il : Bool, (il = true ∧ d = .lst ds) ∨ (il = false ∧ d = .tup ds) := by
    rcases hd with rfl | rfl
    · exact ⟨true, .inl ⟨rfl, rfl⟩⟩
    · exact ⟨false, .inr ⟨rfl, rfl⟩⟩
  obtain ⟨il, hil⟩ := hil
  have isi : ∀ (u : String) (b b' : Bool) (Φ' : D → Store → Prop), kitB "list" u = some b → kitB "tuple" u = some b' → Φ' (.bl (if il = true then b else b')) S → RLW K (rIsi K) [d, .ty u] S Φ' := fun u b b' Φ' h1 h2 k => by
    rcases hil with ⟨rfl, rfl⟩ | ⟨rfl, rfl⟩
    · exact rw_isi .lst .ty (kit_ty h1) k
    · exact rw_isi .tup .ty (kit_ty h2) k
  refine isi _ false false _ (by decide +kernel) (by decide +kernel) ?_
  rw [ite_self]
  walk_at "w*"
  refine iteF ?_
  walk_at "w*"
  refine isi _ false false _ (by decide +kernel) (by decide +kernel) ?_
  rw [ite_self]
  walk_at "w*"
  refine iteF ?_
  refine ws_next ?_
  refine ws_mid (fun S2 Γ2 => S2 = S ∧ Γ2 = startE N__law_like [d, d]) ?_ ?_
  · walk_at "w*"
    refine isi _ true false _ (by decide +kernel) (by decide +kernel) ?_
    walk_at "w*"
    refine ifB (fun h => ?_) (fun h => ?_)
    · walk_at "w*"
      refine isi _ true false _ (by decide +kernel) (by decide +kernel) ?_
      rw [h]
      walk_at "w*"
      refine iteF ?_
      walk_at "w*"
      exact ⟨rfl, rfl⟩
    · refine iteF ?_
      walk_at "w*"
      exact ⟨rfl, rfl⟩
  intro S2 Γ2 ⟨z1, z2⟩
  rw [z1, z2]
  refine ws_mid (fun S2 Γ2 => S2 = S ∧ Γ2 = startE N__law_like [d, d]) ?_ ?_
  · walk_at "w*"
    refine isi _ false true _ (by decide +kernel) (by decide +kernel) ?_
    walk_at "w*"
    refine ifB (fun h => ?_) (fun h => ?_)
    · walk_at "w*"
      refine isi _ false true _ (by decide +kernel) (by decide +kernel) ?_
      rw [h]
      walk_at "w*"
      refine iteF ?_
      walk_at "w*"
      exact ⟨rfl, rfl⟩
    · refine iteF ?_
      walk_at "w*"
      exact ⟨rfl, rfl⟩
  intro S2 Γ2 ⟨z1, z2⟩
  rw [z1, z2]
  walk_at "w*"
  refine rw_len hsq ?_
  walk_at "w*"
  refine rw_len hsq ?_
  walk_at "w*"
  rw [decide_eq_true rfl]
  refine iteF ?_
  walk_at "w*"
  refine w_map (xs := List.range ds.length) (f := fun k => .int (0 + (k : Nat))) (h := fun _ => .bl true) (go_name (by simp)) ?_
  walk_at "w*"
  refine rw_len hsq ?_
  walk_at "w*"
  refine ⟨ds.length, rfl, by omega, by omega, rfl, by simp; omega, fun k hk => ?_, ?_⟩
  · have hk' := List.mem_range.mp hk
    walk_at "w*"
    have hat : ∀ x : D, atI ds (0 + (k : Nat)) = some ds[k] := fun _ => by
      unfold atI ixN
      rw [Int.zero_add, if_pos (Int.natCast_nonneg _), if_pos (by omega), Int.toNat_natCast]
      exact List.getElem?_eq_getElem hk'
    refine rw_ix hsq (hat d) ?_
    walk_at "w*"
    refine rw_ix hsq (hat d) ?_
    walk_at "w*"
    exact ⟨_, rfl, hx _ (List.getElem_mem _), rfl, rfl⟩
  have e1 : (List.range ds.length).map (fun _ => D.bl true) = (List.replicate ds.length true).map D.bl := by
    rw [List.map_const', List.length_range, List.map_replicate]
  rw [e1]
  walk_at "w*"
  refine rw_all ?_
  have e2 : (List.replicate ds.length true).all id = true := by simp
  rw [e2]
  exact ⟨_, Sub.refl _, q⟩
theorem ok__law_like (T : Hd fn fa xs K mg) : ∀ n, FnE P w K mg base (n + 2) (He.fAd K d__law_like.at_) ps__law_like (spOf K (sp__law_like n))
  | 0 => by
    refine T.ok _ ix__law_like (N := N__law_like) rfl sc__law_like (fun ds S Φ ⟨_, e, _⟩ => by rw [e]; rfl) (fun _ _ _ _ _ _ us hl => ?_) fun cdv A outer s H E hr => ⟨_, dv__law_like T (like_never T 0) hr, ?_⟩
    · match us, hl with
      | [a, b], _ => rfl
    rintro _ S Φ ⟨d, rfl, hd, q⟩
    exact like_scalar hd q
  | n + 1 => by
    refine T.ok _ ix__law_like (N := N__law_like) rfl sc__law_like (fun ds S Φ ⟨_, e, _⟩ => by rw [e]; rfl) (fun _ _ _ _ _ _ us hl => ?_) fun cdv A outer s H E hr => ⟨_, dv__law_like T (ok__law_like T n) hr, ?_⟩
    · match us, hl with
      | [a, b], _ => rfl
    rintro _ S Φ ⟨d, rfl, hd, q⟩
    exact like_step hd q
end
end Tw


set_option Elab.async false
set_option linter.all false
set_option maxRecDepth 100000
set_option maxHeartbeats 4000000
namespace Tw
open PySem PySem.Spec PyProof.Rows L2
theorem getD_seqI {n k : Nat} {f : Nat → Int} (h : k < n) : ((List.range n).map f).getD k 0 = f k := by
  rw [List.getD_eq_getElem?_getD, List.getElem?_map, List.getElem?_range h]; rfl
theorem at_false {n : Nat} {es : List (Nat × Nat)} {f : Conf} {k : Nat} : at_ n es f (k, false) = if f (2 * n + k) = 0 then (endsK es k).1 else (endsK es k).2 := by
  unfold at_
  by_cases h : f (2 * n + k) = 0
  · rw [if_pos h, if_pos (by simp [h])]
  · rw [if_neg h, if_neg (by simp [h])]
theorem at_true {n : Nat} {es : List (Nat × Nat)} {f : Conf} {k : Nat} : at_ n es f (k, true) = if f (2 * n + k) = 0 then (endsK es k).2 else (endsK es k).1 := by
  unfold at_
  by_cases h : f (2 * n + k) = 0
  · rw [if_pos h, if_neg (by simp [h])]
  · rw [if_neg h, if_pos (by simp [h])]
theorem to_eq {n : Nat} {es : List (Nat × Nat)} {f : Conf} {k : Nat} {b : Bool} : to_ n es f (k, b) = at_ n es f (k, !b) := by
  unfold at_ to_
  by_cases h : f (2 * n + k) = 0 <;> cases b <;> simp [h]
theorem drop_range {m n : Nat} {f : Nat → Int} : (seqI (n + m) f).drop n = seqI m fun i => f (n + i) := by
  unfold seqI
  rw [List.range_add, List.map_append, List.drop_left' (by simp), List.map_map]
  rfl
theorem take_range {m n : Nat} {f : Nat → Int} : (seqI (n + m) f).take n = seqI n f := by
  unfold seqI
  rw [List.range_add, List.map_append, List.take_left' (by simp)]
local macro_rules | `(tactic| walk_at "w") => `(tactic| first
  | ((with_reducible show WE _ (tVar _) _ _ _); refine w_var (by rfl) ?_)
  | ((with_reducible show WE _ (tC (.int _)) _ _ _); refine w_cI ?_)
  | ((with_reducible show WE _ (tC (.str _)) _ _ _); refine w_cS ?_)
  | ((with_reducible show WE _ (tC (.bl _)) _ _ _); refine w_cB ?_)
  | ((with_reducible show WE _ (tC .non) _ _ _); refine w_cN ?_)
  | ((with_reducible show WE _ (tC (.ty _)) _ _ _); refine w_cT ?_)
  | ((with_reducible show WE _ (tC (.ref _)) _ _ _); refine w_cR ?_)
  | ((with_reducible show WE _ (tOp _ _ _) _ _ _); refine w_op ?_)
  | ((with_reducible show WE _ (tUn _ _) _ _ _); refine w_un ?_)
  | ((with_reducible show WE _ (tChain _ _ _ _ _) _ _ _); refine w_chain ?_)
  | ((with_reducible show WE _ (tFld _ _ _) _ _ _); refine w_fld ?_)
  | ((with_reducible show WE _ (tIf _ _ _) _ _ _); refine w_ifE ?_)
  | ((with_reducible show WE _ (tTup _) _ _ _); refine w_tup ?_)
  | ((with_reducible show WE _ (tCB _ _) _ _ _); refine w_cb ?_)
  | ((with_reducible show WE _ (tCall _ _ _ _) _ _ _); refine w_call ?_)
  | ((with_reducible show WE _ (tMake _ _ _ _ _) _ _ _); refine w_make ?_)
  | ((with_reducible show WE _ (tMeth _ _ _ _ _ _ _) _ _ _); refine w_meth ?_)
  | ((with_reducible show WE _ (tSl _ _ _ _) _ _ _); refine w_sl ?_)
  | ((with_reducible show WE _ (tBM _ _ rAppend _ _) _ _ _); refine w_append (p := 0) (ds := []) ?_)
  | ((with_reducible show WE _ (tBM _ _ rExtend _ _) _ _ _); refine w_extend ?_)
  | ((with_reducible show WE _ (tBM _ _ rInsL _ _) _ _ _); refine w_insert ?_)
  | ((with_reducible show WE _ (tBM0 _ _ rPop _) _ _ _); refine w_pop ?_)
  | ((with_reducible show WE _ (tBM _ _ rPopAt _ _) _ _ _); refine w_popAt ?_)
  | ((with_reducible show WE _ (tBM _ _ (rCntD _) _ _) _ _ _); refine w_bmL ?_)
  | ((with_reducible show WE _ (tAndV _ _) _ _ _); refine w_andV ?_)
  | ((with_reducible show WE _ (tOrV _ _) _ _ _); refine w_orV ?_)
  | ((with_reducible show WE _ (tNotV _) _ _ _); refine w_notV ?_)
  | ((with_reducible show WA _ tNil _ _ _); refine wa_nil ?_)
  | ((with_reducible show WA _ (tCons _ _) _ _ _); refine wa_cons ?_)
  | ((with_reducible show WO _ tNoPart _ _ _); refine wo_none ?_)
  | ((with_reducible show WO _ (tPart _) _ _ _); refine wo_some ?_)
  | ((with_reducible show WT _ (tTest _) _ _ _); refine w_test ?_)
  | ((with_reducible show WT _ (tB _) _ _ _); refine w_tB ?_)
  | ((with_reducible show WT _ (tTru _ _) _ _ _); refine w_tru ?_)
  | ((with_reducible show WT _ (tTruO _ _) _ _ _); refine w_truO ?_)
  | ((with_reducible show WT _ (tAnd _ _) _ _ _); refine w_and ?_)
  | ((with_reducible show WT _ (tOr _ _) _ _ _); refine w_or ?_)
  | ((with_reducible show WT _ (tNot _) _ _ _); refine w_not ?_)
  | ((with_reducible show WT _ tYes _ _ _); refine wt_yes ?_)
  | ((with_reducible show WS _ (tSeq _ _) _ _ _); refine ws_seq ?_)
  | ((with_reducible show WS _ (tAsg _ (gName _)) _ _ _); refine ws_set ?_)
  | ((with_reducible show WS _ (tAsg _ _) _ _ _); refine ws_asg ?_)
  | ((with_reducible show WS _ (sFld _ _ _ _) _ _ _); refine ws_fld ?_)
  | ((with_reducible show WS _ (tDrop _) _ _ _); refine ws_drop ?_)
  | ((with_reducible show WS _ (tRet _) _ _ _); refine ws_ret ?_)
  | ((with_reducible show WS _ tRetN _ _ _); refine ws_retN ?_)
  | ((with_reducible show WS _ tNext _ _ _); refine ws_next ?_)
  | ((with_reducible show WS _ tBreak _ _ _); refine ws_break ?_)
  | ((with_reducible show WS _ tCont _ _ _); refine ws_cont ?_)
  | ((with_reducible show WS _ (tIfS _ _ _) _ _ _); refine ws_if ?_)
  | ((with_reducible show WS _ (tAug _ _ _) _ _ _); refine ws_aug (by rfl) ?_)
  | ((with_reducible show WS _ (tAugS _ _ _ _ _ _) _ _ _); refine ws_augS ?_)
  | ((with_reducible show WG _ (gName _) _ _ _ _); refine wg_name ?_)
  | ((with_reducible show WG _ (gTup _ _ _) (.tup _) _ _ _); refine wg_tup (by rfl) ?_)
  | ((with_reducible show WG _ (gSub _ _ _) _ _ _ _); refine wg_sub ?_)
  | ((with_reducible show WGs _ gNil [] _ _ _); refine wgs_nil ?_)
  | ((with_reducible show WGs _ (gCons _ _) (_ :: _) _ _ _); refine wgs_cons ?_)
  | ((with_reducible show WI _ (iRng1 _) _ _ _); refine wi_rng1 ?_)
  | ((with_reducible show WI _ (iRng2 _) _ _ _); refine wi_rng2 ?_)
  | ((with_reducible show WI _ (iSeqU _ _) _ _ _); refine wi_seq ?_)
  | ((with_reducible show WI _ (iEnumU _ _) _ _ _); refine wi_enum ?_)
  | ((with_reducible show WI _ (RZ.iZipA _ _) _ _ _); refine wi_zip ?_))
local macro_rules | `(tactic| walk_at "w") => `(tactic| first
  | ((with_reducible show ∃ C ns ds d, InsOf _ _ C ns ds ∧ _); refine ⟨_, _, _, _, .o, by walk_at "cls", by walk_at "noat", by rfl, ?_⟩)
  | ((with_reducible show R2W _ (rAddU _) (.int _) (.int _) _ _); refine rw_addI ?_)
  | ((with_reducible show R2W _ rSubI (.int _) (.int _) _ _); refine rw_subI ?_)
  | ((with_reducible show R2W _ rLtI (.int _) (.int _) _ _); refine rw_ltI ?_)
  | ((with_reducible show R2W _ rLeI (.int _) (.int _) _ _); refine rw_leI ?_)
  | ((with_reducible show R2W _ rGtI (.int _) (.int _) _ _); refine rw_gtI ?_)
  | ((with_reducible show R2W _ rGeI (.int _) (.int _) _ _); refine rw_geI ?_)
  | ((with_reducible show R2W _ (rEqU _) (.int _) (.int _) _ _); refine rw_eqUI ?_)
  | ((with_reducible show R2W _ (rEqU _) (.str _) (.str _) _ _); refine rw_eqUS ?_)
  | ((with_reducible show R2W _ (rNeU _) (.int _) (.int _) _ _); refine rw_neUI ?_)
  | ((with_reducible show R2W _ (rNeU _) (.str _) (.str _) _ _); refine rw_neUS ?_)
  | ((with_reducible show R1W _ rNegI (.int _) _ _); refine rw_negI ?_)
  | ((with_reducible show RLW _ (rLenQ _) [_] _ _); refine rw_len (by first | exact .t | exact .l | exact .r (by assumption)) ?_)
  | ((with_reducible show RLW _ rIntQ [.int _] _ _); refine rw_int ?_)
  | ((with_reducible show RLW _ rAbsQ [.int _] _ _); refine rw_abs ?_)
  | ((with_reducible show ∃ k, .bl _ = D.bl k ∧ _); refine ⟨_, rfl, ?_⟩)
  | ((with_reducible show ∃ k, .int _ = D.int k ∧ _); refine ⟨_, rfl, ?_⟩)
  | ((with_reducible show ∃ k, TruD _ (.bl _) k ∧ _); refine ⟨_, .bl, ?_⟩)
  | ((with_reducible show ∃ k, TruD _ (.int _) k ∧ _); refine ⟨_, .int, ?_⟩)
  | ((with_reducible show List.length _ ≤ 1000000 ∧ _); refine ⟨Nat.le_of_ble_eq_true rfl, ?_⟩)
  | ((with_reducible show ∃ S2, Sub S2 _ ∧ _); refine ⟨_, Sub.refl _, ?_⟩))
local macro_rules | `(tactic| walk_at "w*") => `(tactic| repeat walk_at "w")
local macro_rules | `(tactic| walk_at "le") => `(tactic| repeat first | exact Le.nil | exact Le.rfl | refine Le.som ?_ | refine Le.non ?_)
local macro_rules | `(tactic| walk_at "fz") => `(tactic| repeat first | exact Fz.nil | refine Fz.som ?_ | refine Fz.frz ?_ | refine Fz.non ?_)
local macro_rules | `(tactic| walk_at "cls") => `(tactic| first | exact cl_Net (by assumption) | exact cl_Standing (by assumption) | exact cl_Bill (by assumption) | exact cl_Trip (by assumption))
local macro_rules | `(tactic| walk_at "noat") => `(tactic| first | exact na_Net_stations (by assumption) | exact na_Net_ropes (by assumption) | exact na_Standing_net (by assumption) | exact na_Standing_reds (by assumption) | exact na_Standing_blues (by assumption) | exact na_Standing_cars (by assumption) | exact na_Bill_net (by assumption) | exact na_Bill_reds (by assumption) | exact na_Bill_blues (by assumption) | exact na_Trip_rides (by assumption))

local macro_rules | `(tactic| walk_at "w") => `(tactic| first
  | ((with_reducible show WI _ (iRng3 _) _ _ _); refine wi_rng3 ?_)
  | ((with_reducible show R2W _ (rIxU _) (.ref _) (.int 0) (potU _ _ _ _ _ _ _ _) _); refine rw_p0 ?_)
  | ((with_reducible show R2W _ (rIxU _) (.ref _) (.int 1) (potU _ _ _ _ _ _ _ _) _); refine rw_p1 ?_)
  | ((with_reducible show R2W _ (rIxU _) (.ref _) (.int 2) (potU _ _ _ _ _ _ _ _) _); refine rw_p2 ?_)
  | ((with_reducible show R2W _ (rIxU _) (.ref _) (.int 3) (potU _ _ _ _ _ _ _ _) _); refine rw_p3 ?_)
  | ((with_reducible show R2W _ (rIxU _) (.ref _) (.int 4) (potU _ _ _ _ _ _ _ _) _); refine rw_p4 ?_)
  | ((with_reducible show RSW _ rSetL (.ref _) (.int 1) (.int _) (potU _ _ _ _ _ _ _ _) _); refine rs_p1 ?_)
  | ((with_reducible show RSW _ rSetL (.ref _) (.int 2) (.int _) (potU _ _ _ _ _ _ _ _) _); refine rs_p2 ?_)
  | ((with_reducible show RSW _ rSetL (.ref _) (.int 3) (.int _) (potU _ _ _ _ _ _ _ _) _); refine rs_p3 ?_)
  | ((with_reducible show RSW _ rSetL (.ref _) (.int 4) (.int _) (potU _ _ _ _ _ _ _ _) _); refine rs_p4 ?_)
  | ((with_reducible show R2W _ rMulU (.int _) (.int _) _ _); refine rw_mulI (.inr ⟨by decide, by decide⟩) ?_)
  | ((with_reducible show R2W _ rMulU (.int _) (.int _) _ _); refine rw_mulI (.inl ⟨by decide, by decide⟩) ?_)
  | ((with_reducible show R2W _ rModI (.int _) (.int _) _ _); refine rw_modI (by decide) ?_)
  | ((with_reducible show R2W _ rDivI (.int _) (.int _) _ _); refine rw_divI (by decide) (by decide) ?_)
  | ((with_reducible show RLW _ rMax2Q [.int _, .int _] _ _); refine rw_max2 ?_)
  | ((with_reducible show RLW _ rMin2Q [.int _, .int _] _ _); refine rw_min2 ?_))

section
variable {P : Program} {w : World} {K : PySem.W.Frag} {mg : Str → Option Value} {base : Heap}
theorem ok__law_open (T : Hd fn fa xs K mg) : FnE P w K mg base 1 (He.fAd K d__law_open.at_) ps__law_open (spOf K sp__law_open) := by
  refine T.ok _ ix__law_open (N := N__law_open) rfl sc__law_open (fun ds S Φ ⟨_, _, _, e, _⟩ => by rw [e]; rfl) (fun _ _ _ _ _ _ us hl => ?_) fun cdv A outer s H E hr => ⟨_, dv__law_open T hr, ?_⟩
  · match us, hl with
    | [a, b, c], _ => rfl
  rintro _ S Φ ⟨n, es, f, rfl, N, O, q⟩
  have hn := N.hi
  have hf := N.few
  unfold t__law_open
  walk_at "w*"
  refine w_lstM ?_
  walk_at "w*"
  refine fun p hp => ?_
  walk_at "w*"
  refine ws_forE ?_
  walk_at "w*"
  rw [List.length_map]
  refine ⟨es.length, rfl, by omega, by omega, fun i => [some (.int n), some (.lst (es.map pD)), some (keyD n es.length f), some (.ref p), none, none],
    fun i S' => ∃ l : List Ride, S' = stU S p (.lst (l.map rD)) ∧ (∀ r, r ∈ l ↔ (r.1 < i ∧ can n es f r)) ∧ l.length ≤ 2 * i, by walk_at "le", ⟨[], rfl, by simp, Nat.le_refl _⟩, fun i y S' hy e => ?_, fun S' e => ?_⟩
  · obtain ⟨l, rfl, hm, hl⟩ := e
    obtain ⟨k, hk, rfl⟩ := map_get hy
    have hk' := (List.getElem?_eq_some_iff.mp hk).1
    rw [List.length_range] at hk'
    rw [List.getElem?_range hk'] at hk
    cases hk
    have hi : i < es.length := by omega
    have aN := N.at (r := (i, false)) hi
    have hsel : ∀ c : Int, (c = 0 ∨ c = 1) → ∀ (S : Store) (Φ' : D → Store → Prop), Φ' (.int (if c = 0 then (endsK es i).1 else (endsK es i).2 : Nat)) S → R2W K (rIxU K) (pD (endsK es i)) (.int c) S Φ' := fun c hc S Φ' k => by
      rcases hc with rfl | rfl
      · exact rw_ix .t rfl k
      · exact rw_ix .t rfl k
    have a0 := at_lt (f := f) N (r := (i, false)) hi
    have a1 := at_lt (f := f) N (r := (i, true)) hi
    have hs' : 1 - f (2 * n + i) = 0 ∨ 1 - f (2 * n + i) = 1 := by rcases O.cars i hi with z | z <;> omega
    have hat1 : at_ n es f (i, true) = if 1 - f (2 * n + i) = 0 then (endsK es i).1 else (endsK es i).2 := by
      rw [at_true]
      rcases O.cars i hi with z | z <;> rw [z] <;> rfl
    rw [Int.zero_add]
    walk_at "w*"
    refine rw_ixi (k := 2 * n + i) .t (by omega) (by omega) ?_
    refine ws_mid (fun S2 Γ2 => Γ2 = [some (.int n), some (.lst (es.map pD)), some (keyD n es.length f), some (.ref p), some (.int i), some (.int (f (2 * n + i)))] ∧ ∃ l' : List Ride, S2 = stU S p (.lst (l'.map rD)) ∧ (∀ r, r ∈ l' ↔ ((r.1 < i ∨ r = (i, false)) ∧ can n es f r)) ∧ l'.length ≤ 2 * i + 1) ?_ ?_
    · walk_at "w*"
      refine rw_ixn (0, 0) .l hi ?_
      walk_at "w*"
      refine hsel _ (O.cars i hi) _ _ ?_
      rw [← at_false]
      refine rw_ixr .t (by omega) ?_
      walk_at "w*"
      refine ifD (fun h => ?_) (fun h => ?_)
      · walk_at "w*"
        refine ⟨_, _, rfl, stU_same, ?_⟩
        walk_at "w*"
        refine ⟨_, stU_same, by simp; omega, ?_⟩
        rw [stU_U]
        refine ⟨rfl, l ++ [(i, false)], by rw [List.map_append]; rfl, fun r => ?_, by simp; omega⟩
        rw [List.mem_append, hm r, List.mem_singleton]
        have hcan : can n es f (i, false) := ⟨hi, by show 0 < f (0 + _); rw [Nat.zero_add]; exact h⟩
        constructor
        · rintro (z | z)
          · exact ⟨.inl z.1, z.2⟩
          · rw [z]; exact ⟨.inr rfl, hcan⟩
        · rintro ⟨z | z, z2⟩
          · exact .inl ⟨z, z2⟩
          · exact .inr z
      · walk_at "w*"
        refine ⟨rfl, l, rfl, fun r => ?_, by omega⟩
        rw [hm r]
        constructor
        · rintro z
          exact ⟨.inl z.1, z.2⟩
        · rintro ⟨z | z, z2⟩
          · exact ⟨z, z2⟩
          · rw [z] at z2
            have z3 := z2.2
            have z4 : 0 < f (0 + at_ n es f (i, false)) := z3
            rw [Nat.zero_add] at z4
            exact absurd z4 h
    rintro _ _ ⟨rfl, l', rfl, hm', hl'⟩
    walk_at "w*"
    refine rw_ixn (0, 0) .l hi ?_
    walk_at "w*"
    refine hsel _ hs' _ _ ?_
    rw [← hat1]
    walk_at "w*"
    refine rw_ixi (k := n + at_ n es f (i, true)) .t (by omega) (by omega) ?_
    walk_at "w*"
    refine ifD (fun h => ?_) (fun h => ?_)
    · walk_at "w*"
      refine ⟨_, _, rfl, stU_same, ?_⟩
      walk_at "w*"
      refine ⟨_, stU_same, by simp; omega, ?_⟩
      rw [stU_U]
      refine ⟨by walk_at "le", l' ++ [(i, true)], by rw [List.map_append]; rfl, fun r => ?_, by simp; omega⟩
      rw [List.mem_append, hm' r, List.mem_singleton]
      have hcan : can n es f (i, true) := ⟨hi, h⟩
      constructor
      · rintro (z | z)
        · rcases z with ⟨z | z, z2⟩
          · exact ⟨by omega, z2⟩
          · exact ⟨by rw [z]; omega, z2⟩
        · rw [z]; exact ⟨Nat.lt_succ_self _, hcan⟩
      · rintro ⟨z, z2⟩
        obtain ⟨j, b⟩ := r
        by_cases hj : j < i
        · exact .inl ⟨.inl hj, z2⟩
        · have hj' : j = i := by have : j < i + 1 := z; omega
          subst hj'
          cases b with
          | false => exact .inl ⟨.inr rfl, z2⟩
          | true => exact .inr rfl
    · walk_at "w*"
      refine ⟨by walk_at "le", l', rfl, fun r => ?_, by omega⟩
      rw [hm' r]
      constructor
      · rintro ⟨z | z, z2⟩
        · exact ⟨by omega, z2⟩
        · exact ⟨by rw [z]; omega, z2⟩
      · rintro ⟨z, z2⟩
        obtain ⟨j, b⟩ := r
        by_cases hj : j < i
        · exact ⟨.inl hj, z2⟩
        · have hj' : j = i := by have : j < i + 1 := z; omega
          subst hj'
          cases b with
          | false => exact ⟨.inr rfl, z2⟩
          | true => exact absurd z2.2 h
  · obtain ⟨l, rfl, hm, hl⟩ := e
    have e0 : (rng 0 (es.length : Int).toNat).length = es.length := by simp [rng]
    rw [e0] at hm hl
    refine ws_fz stU_same (Γ' := [none, none, none, some (.lst _), none, none]) (by walk_at "fz") ?_
    rw [stD_U hp]
    walk_at "w*"
    exact q l (fun r => (hm r).trans ⟨fun h => h.2, fun h => ⟨h.1, h⟩⟩) (by omega)
theorem ok__law_reduced (T : Hd fn fa xs K mg) : FnE P w K mg base 1 (He.fAd K d__law_reduced.at_) ps__law_reduced (spOf K sp__law_reduced) := by
  refine T.ok _ ix__law_reduced (N := N__law_reduced) rfl sc__law_reduced (fun ds S Φ ⟨_, e, _⟩ => by rw [e]; rfl) (fun _ _ _ _ _ _ us hl => ?_) fun cdv A outer s H E hr => ⟨_, dv__law_reduced T hr, ?_⟩
  · match us, hl with
    | [a], _ => rfl
  rintro _ S Φ ⟨rs, rfl, h1, q⟩
  unfold t__law_reduced
  walk_at "w*"
  refine w_lstM ?_
  walk_at "w*"
  refine fun p hp => ?_
  walk_at "w*"
  refine ws_forE ?_
  walk_at "w*"
  refine ⟨_, .l, fun i => [some (.lst (rs.map rD)), some (.ref p), none], fun i S' => S' = stU S p (.lst ((red (rs.take i)).map rD)), by walk_at "le", rfl, fun i y S' hy e => ?_, fun S' e => ?_⟩
  · subst e
    obtain ⟨r, hr', rfl⟩ := map_get hy
    have hl := red_len (rs := rs.take i)
    have hl2 : (red (rs.take i)).length ≤ rs.length := Nat.le_trans hl (by rw [List.length_take]; exact Nat.min_le_right _ _)
    dsimp only
    rw [red_take hr']
    generalize red (rs.take i) = kept at *
    walk_at "w*"
    refine ⟨_, .seq (.r stU_same), ?_⟩
    rw [List.isEmpty_map]
    rcases List.eq_nil_or_concat kept with rfl | ⟨ks, k, rfl⟩
    · refine iteF ?_
      refine iteF ?_
      walk_at "w*"
      refine ⟨_, _, rfl, stU_same, ?_⟩
      walk_at "w*"
      refine ⟨_, stU_same, by simp, ?_⟩
      rw [stU_U]
      exact ⟨by walk_at "le", rfl⟩
    · rw [List.concat_eq_append] at *
      have e0 : (!(ks ++ [k]).isEmpty) = true := by cases ks <;> rfl
      rw [e0]
      refine iteT ?_
      walk_at "w*"
      rw [List.map_append]
      refine rw_ix (d := rD k) (.r stU_same) (at_last (ds := ks.map rD)) ?_
      walk_at "w*"
      refine rw_eqUD emb_r (a := k) (b := r) (by decide) ?_
      walk_at "w*"
      refine ifD (fun h => ?_) (fun h => ?_)
      · subst h
        walk_at "w*"
        refine ⟨_, _, rD k, rfl, stU_same, by simp, ?_⟩
        rw [stU_U]
        refine ⟨by walk_at "le", ?_⟩
        unfold redS
        rw [if_pos (by simp)]
        simp
      · walk_at "w*"
        refine ⟨_, _, rfl, stU_same, ?_⟩
        walk_at "w*"
        refine ⟨_, stU_same, by simp at *; omega, ?_⟩
        rw [stU_U]
        refine ⟨by walk_at "le", ?_⟩
        unfold redS
        rw [if_neg (by simpa using h)]
        simp
  · subst e
    rw [List.length_map, List.take_length]
    refine ws_fz stU_same (Γ' := [none, some (.lst _), none]) (by walk_at "fz") ?_
    rw [stD_U hp]
    walk_at "w*"
    exact q
theorem ok__law_words (T : Hd fn fa xs K mg) : FnE P w K mg base 1 (He.fAd K d__law_words.at_) ps__law_words (spOf K sp__law_words) := by
  refine T.ok _ ix__law_words (N := N__law_words) rfl sc__law_words (fun ds S Φ ⟨_, _, e, _⟩ => by rw [e]; rfl) (fun _ _ _ _ _ _ us hl => ?_) fun cdv A outer s H E hr => ⟨_, dv__law_words T hr, ?_⟩
  · match us, hl with
    | [a], _ => rfl
  rintro _ S Φ ⟨x, rs, rfl, hx, h1, q⟩
  unfold t__law_words
  walk_at "w*"
  refine w_map (xs := rs) (f := rD) (h := wD) (go_name (by simp)) ?_
  walk_at "w*"
  refine ⟨_, hx, rfl, by omega, fun r hr' => ?_, ⟨_, Sub.refl _, q⟩⟩
  walk_at "w*"
  refine rw_ix .t rfl ?_
  walk_at "w*"
  refine rw_ix .t rfl ?_
  obtain ⟨k, b⟩ := r
  cases b with
  | false =>
    refine rw_ix .t rfl ?_
    walk_at "w*"
    exact ⟨rfl, rfl⟩
  | true =>
    refine rw_ix .t rfl ?_
    walk_at "w*"
    exact ⟨rfl, rfl⟩
theorem ok__law_stand (T : Hd fn fa xs K mg) : FnE P w K mg base 4 (He.fAd K d__law_stand.at_) ps__law_stand (spOf K (sp__law_stand K)) := by
  refine T.ok _ ix__law_stand (N := N__law_stand) rfl sc__law_stand (fun ds S Φ ⟨_, _, _, e, _⟩ => by rw [e]; rfl) (fun _ _ _ _ _ _ us hl => ?_) fun cdv A outer s H E hr => ⟨_, dv__law_stand T (ok_Standing___init__ T) hr, ?_⟩
  · match us, hl with
    | [a, b, c], _ => rfl
  rintro _ S Φ ⟨n, es, f, rfl, N, O, q⟩
  unfold t__law_stand
  walk_at "w*"
  have c1 : cutD (seqI (2 * n + es.length) f) none (some (n : Int)) = seqI n f := by
    rw [cutD_to (Int.natCast_nonneg _), Int.toNat_natCast, show 2 * n + es.length = n + (n + es.length) by omega, take_range]
  have c2 : cutD (seqI (2 * n + es.length) f) (some (n : Int)) (some (2 * (n : Int))) = seqI n fun i => f (n + i) := by
    rw [cutD_mid (Int.natCast_nonneg _) (by omega), Int.toNat_natCast, show ((2 : Int) * (n : Nat)).toNat - n = n by omega, show 2 * n + es.length = n + (n + es.length) by omega, drop_range, take_range]
  have c3 : cutD (seqI (2 * n + es.length) f) (some (2 * (n : Int))) none = seqI es.length fun i => f (2 * n + i) := by
    rw [cutD_from (by omega), show ((2 : Int) * (n : Nat)).toNat = 2 * n by omega, drop_range]
  refine rc_tup ?_
  rw [c1]
  walk_at "w*"
  refine rw_list .t ?_
  walk_at "w*"
  refine rc_tup ?_
  rw [c2]
  walk_at "w*"
  refine rw_list .t ?_
  walk_at "w*"
  refine rc_tup ?_
  rw [c3]
  walk_at "w*"
  refine rw_list .t ?_
  walk_at "w*"
  refine fun p3 hp3 => ?_
  refine ⟨p3, n, es, f, _, _, _, rfl, stU_same, O, .l, .l, .l, rfl, _, _, stU_same, ?_⟩
  rw [stU_U, stD_U hp3]
  exact ⟨_, Sub.refl _, q⟩
theorem ridden_fn {n m k A B : Nat} {es : List (Nat × Nat)} {f : Conf} {b : Bool} (hA : at_ n es f (k, b) = A) (hB : to_ n es f (k, b) = B) (h1 : A < n) (h2 : B < n) (h3 : A ≠ B) :
    (seqI (2 * n + m) fun j => if j = 2 * n + k then 1 - (if 2 * n + k = off n b + B then (if off n b + B = off n b + A then f (off n b + A) - 1 else f (off n b + B)) + 1 else if 2 * n + k = off n b + A then f (off n b + A) - 1 else f (2 * n + k)) else if j = off n b + B then (if off n b + B = off n b + A then f (off n b + A) - 1 else f (off n b + B)) + 1 else if j = off n b + A then f (off n b + A) - 1 else f j) = seqI (2 * n + m) (ride n es f (k, b)) := seqI_congr fun j hj => by
  have o := off_le n b
  unfold ride
  dsimp only
  rw [hA, hB]
  rw [if_neg (show ¬ 2 * n + k = off n b + B by omega), if_neg (show ¬ 2 * n + k = off n b + A by omega), if_neg (show ¬ off n b + B = off n b + A by omega)]
  by_cases h0 : j = 2 * n + k
  · rw [if_pos h0, if_pos h0, h0]
  · rw [if_neg h0, if_neg h0]
    by_cases h2 : j = off n b + B
    · rw [if_pos h2, if_neg (by omega), if_pos h2, h2]
    · rw [if_neg h2]
      by_cases h1 : j = off n b + A
      · rw [if_pos h1, if_pos h1, h1]
      · rw [if_neg h1, if_neg h1, if_neg h2]
theorem ok__law_ridden (T : Hd fn fa xs K mg) : FnE P w K mg base 1 (He.fAd K d__law_ridden.at_) ps__law_ridden (spOf K sp__law_ridden) := by
  refine T.ok _ ix__law_ridden (N := N__law_ridden) rfl sc__law_ridden (fun ds S Φ ⟨_, _, _, _, e, _⟩ => by rw [e]; rfl) (fun _ _ _ _ _ _ us hl => ?_) fun cdv A outer s H E hr => ⟨_, dv__law_ridden T hr, ?_⟩
  · match us, hl with
    | [a, b, c, d], _ => rfl
  rintro _ S Φ ⟨n, es, f, ⟨k, b⟩, rfl, N, O, hc, q⟩
  have hk : k < es.length := hc.1
  have aN := N.at (r := (k, b)) hk
  have hn := N.hi
  have hsel : ∀ c : Int, (c = 0 ∨ c = 1) → ∀ (S : Store) (Φ' : D → Store → Prop), Φ' (.int (if c = 0 then (endsK es k).1 else (endsK es k).2 : Nat)) S → R2W K (rIxU K) (pD (endsK es k)) (.int c) S Φ' := fun c hc S Φ' k => by
    rcases hc with rfl | rfl
    · exact rw_ix .t rfl k
    · exact rw_ix .t rfl k
  unfold t__law_ridden
  walk_at "w*"
  refine rw_ix (d := .int k) .t rfl ?_
  walk_at "w*"
  refine rw_ixi (k := 2 * n + k) .t (by omega) (by omega) ?_
  walk_at "w*"
  refine rw_ix (d := .int (bI b)) .t rfl ?_
  walk_at "w*"
  have hAB := at_ne (f := f) N (r := (k, b)) hk
  have hA' := at_lt (f := f) N (r := (k, b)) hk
  have hB' := to_lt (f := f) N (r := (k, b)) hk
  cases b with
  | false =>
    rw [decide_eq_false (show ¬ bI false = 1 by decide)]
    refine iteF ?_
    walk_at "w*"
    have hs : f (2 * n + k) = 0 ∨ f (2 * n + k) = 1 := by rcases O.cars k hk with z | z <;> omega
    have hs' : 1 - (f (2 * n + k)) = 0 ∨ 1 - (f (2 * n + k)) = 1 := by omega
    have hat : at_ n es f (k, false) = if f (2 * n + k) = 0 then (endsK es k).1 else (endsK es k).2 := by
      rw [at_false]
    have hto : to_ n es f (k, false) = if 1 - (f (2 * n + k)) = 0 then (endsK es k).1 else (endsK es k).2 := by
      rw [to_eq, Bool.not_false, at_true]
      rcases O.cars k hk with z | z <;> rw [z] <;> rfl
    generalize hsd : f (2 * n + k) = sd at *
    refine rw_listM .t fun p hp => ?_
    walk_at "w*"
    refine rw_ix (d := .int 0) .t rfl ?_
    walk_at "w*"
    refine rw_ixn (0, 0) .l hk ?_
    walk_at "w*"
    refine hsel sd hs _ _ ?_
    rw [← hat]
    walk_at "w*"
    refine rw_ix (d := .int 0) .t rfl ?_
    walk_at "w*"
    refine rw_ixn (0, 0) .l hk ?_
    walk_at "w*"
    refine hsel (1 - sd) hs' _ _ ?_
    rw [← hto]
    walk_at "w*"
    have oo : off n false = 0 := rfl
    have gA : (0 : Int) * (n : Nat) + (at_ n es f (k, false) : Nat) = ((off n false + at_ n es f (k, false) : Nat) : Int) := by rw [oo]; omega
    have gB : (0 : Int) * (n : Nat) + (to_ n es f (k, false) : Nat) = ((off n false + to_ n es f (k, false) : Nat) : Int) := by rw [oo]; omega
    have lA : off n false + at_ n es f (k, false) < 2 * n + es.length := by rw [oo]; omega
    have lB : off n false + to_ n es f (k, false) < 2 * n + es.length := by rw [oo]; omega
    rw [gA, gB]
    refine rw_ixr (.r stU_same) lA ?_
    walk_at "w*"
    refine rs_set stU_same (ix_nat (Int.natCast_nonneg _) (by rw [seqI_len]; omega)) ?_
    rw [stU_U, Int.toNat_natCast, seqI_set lA]
    walk_at "w*"
    refine rw_ixr (.r stU_same) lB ?_
    walk_at "w*"
    refine rs_set stU_same (ix_nat (Int.natCast_nonneg _) (by rw [seqI_len]; omega)) ?_
    rw [stU_U, Int.toNat_natCast, seqI_set lB]
    walk_at "w*"
    have gK : (2 : Int) * (n : Nat) + (k : Nat) = ((2 * n + k : Nat) : Int) := by omega
    have lK : 2 * n + k < 2 * n + es.length := by omega
    rw [gK]
    refine rw_ixr (.r stU_same) lK ?_
    walk_at "w*"
    rw [gK]
    refine rs_set stU_same (ix_nat (Int.natCast_nonneg _) (by rw [seqI_len]; omega)) ?_
    rw [stU_U, Int.toNat_natCast, seqI_set lK, ridden_fn rfl rfl hA' hB' hAB]
    refine ws_ret ?_
    refine w_cb (wa_cons (w_var (by rfl) (wa_nil ?_)))
    refine rw_tuple (.r stU_same) ?_
    exact ⟨_, Sub.new hp, q⟩
  | true =>
    rw [decide_eq_true (show bI true = 1 from rfl)]
    refine iteT ?_
    walk_at "w*"
    have hs : 1 - f (2 * n + k) = 0 ∨ 1 - f (2 * n + k) = 1 := by rcases O.cars k hk with z | z <;> omega
    have hs' : 1 - (1 - f (2 * n + k)) = 0 ∨ 1 - (1 - f (2 * n + k)) = 1 := by omega
    have hat : at_ n es f (k, true) = if 1 - f (2 * n + k) = 0 then (endsK es k).1 else (endsK es k).2 := by
      rw [at_true]
      rcases O.cars k hk with z | z <;> (rw [z]; try rfl)
    have hto : to_ n es f (k, true) = if 1 - (1 - f (2 * n + k)) = 0 then (endsK es k).1 else (endsK es k).2 := by
      rw [to_eq, Bool.not_true, at_false]
      rcases O.cars k hk with z | z <;> (rw [z]; try rfl)
    generalize hsd : 1 - f (2 * n + k) = sd at *
    refine rw_listM .t fun p hp => ?_
    walk_at "w*"
    refine rw_ix (d := .int 1) .t rfl ?_
    walk_at "w*"
    refine rw_ixn (0, 0) .l hk ?_
    walk_at "w*"
    refine hsel sd hs _ _ ?_
    rw [← hat]
    walk_at "w*"
    refine rw_ix (d := .int 1) .t rfl ?_
    walk_at "w*"
    refine rw_ixn (0, 0) .l hk ?_
    walk_at "w*"
    refine hsel (1 - sd) hs' _ _ ?_
    rw [← hto]
    walk_at "w*"
    have oo : off n true = n := rfl
    have gA : (1 : Int) * (n : Nat) + (at_ n es f (k, true) : Nat) = ((off n true + at_ n es f (k, true) : Nat) : Int) := by rw [oo]; omega
    have gB : (1 : Int) * (n : Nat) + (to_ n es f (k, true) : Nat) = ((off n true + to_ n es f (k, true) : Nat) : Int) := by rw [oo]; omega
    have lA : off n true + at_ n es f (k, true) < 2 * n + es.length := by rw [oo]; omega
    have lB : off n true + to_ n es f (k, true) < 2 * n + es.length := by rw [oo]; omega
    rw [gA, gB]
    refine rw_ixr (.r stU_same) lA ?_
    walk_at "w*"
    refine rs_set stU_same (ix_nat (Int.natCast_nonneg _) (by rw [seqI_len]; omega)) ?_
    rw [stU_U, Int.toNat_natCast, seqI_set lA]
    walk_at "w*"
    refine rw_ixr (.r stU_same) lB ?_
    walk_at "w*"
    refine rs_set stU_same (ix_nat (Int.natCast_nonneg _) (by rw [seqI_len]; omega)) ?_
    rw [stU_U, Int.toNat_natCast, seqI_set lB]
    walk_at "w*"
    have gK : (2 : Int) * (n : Nat) + (k : Nat) = ((2 * n + k : Nat) : Int) := by omega
    have lK : 2 * n + k < 2 * n + es.length := by omega
    rw [gK]
    refine rw_ixr (.r stU_same) lK ?_
    walk_at "w*"
    rw [gK]
    refine rs_set stU_same (ix_nat (Int.natCast_nonneg _) (by rw [seqI_len]; omega)) ?_
    rw [stU_U, Int.toNat_natCast, seqI_set lK, ridden_fn rfl rfl hA' hB' hAB]
    refine ws_ret ?_
    refine w_cb (wa_cons (w_var (by rfl) (wa_nil ?_)))
    refine rw_tuple (.r stU_same) ?_
    exact ⟨_, Sub.new hp, q⟩
end
end Tw


set_option Elab.async false
set_option linter.all false
set_option maxRecDepth 100000
set_option maxHeartbeats 4000000
namespace Tw
open PySem PySem.Spec PyProof.Rows L2
/-- d' is d with the list at p told of -/
inductive FzD (p : Addr) (ds : List D) : D → D → Prop
  | same (d : D) : FzD p ds d d
  | here : FzD p ds (.lst ds) (.ref p)
  | pair {a b a' b' : D} (h : FzD p ds a' a) (h' : FzD p ds b' b) : FzD p ds (.lst [a', b']) (.lst [a, b])
theorem FzD.rep {K : PySem.W.Frag} {F : Hp} {p : Addr} {ds : List D} {d' d : D} (z : FzD p ds d' d) (hp : Rep K F (.ref p) (.lst ds)) : ∀ {v : V}, Rep K F v d → Rep K F v d' := by
  induction z with
  | same d => exact fun r => r
  | here => intro v r; cases r; exact hp
  | pair h h' i1 i2 =>
    intro v r
    cases r with
    | lst e hl hr =>
      refine .lst e hl fun i v d q1 q2 => ?_
      match i, q2 with
      | 0, q2 => cases q2; exact i1 (hr 0 v _ q1 rfl)
      | 1, q2 => cases q2; exact i2 (hr 1 v _ q1 rfl)
      | i + 2, q2 => simp at q2
inductive FzE (p : Addr) (ds : List D) : Env → Env → Prop
  | nil : FzE p ds [] []
  | non {a : Option D} {Γ' Γ : Env} (h : FzE p ds Γ' Γ) : FzE p ds (none :: Γ') (a :: Γ)
  | put {d' d : D} {Γ' Γ : Env} (z : FzD p ds d' d) (h : FzE p ds Γ' Γ) : FzE p ds (some d' :: Γ') (some d :: Γ)
theorem FzE.len {p : Addr} {ds : List D} {Γ' Γ : Env} (h : FzE p ds Γ' Γ) : Γ'.length = Γ.length := by
  induction h with
  | nil => rfl
  | _ => simp_all
theorem FzE.get {p : Addr} {ds : List D} {Γ' Γ : Env} (h : FzE p ds Γ' Γ) : ∀ (i : Nat) d', Γ'[i]? = some (some d') → ∃ d, Γ[i]? = some (some d) ∧ FzD p ds d' d := by
  induction h with
  | nil => intro i d e; simp at e
  | non h ih =>
    intro i d e
    cases i with
    | zero => simp at e
    | succ i => exact ih i d (by simpa using e)
  | put z h ih =>
    intro i d e
    cases i with
    | zero => simp at e; subst e; exact ⟨_, rfl, z⟩
    | succ i => exact ih i d (by simpa using e)
theorem ws_fzE {K : PySem.W.Frag} {S : Store} {Γ Γ' : Env} {Ψ : EndsD} {t : TS} {p : Addr} {ds : List D} (hp : S p = some (.lst ds)) (z : FzE p ds Γ' Γ) (h : WS K t (stD S p) Γ' Ψ) : WS K t S Γ Ψ := fun F H σ D0 hs hg q1 q2 q3 q4 => by
  obtain ⟨F1, p1, r1⟩ := Post.freeze hs hp
  refine h F1 H σ D0 p1.sat ⟨(hg.mono p1.same).1.trans z.len.symm, fun i d q => ?_⟩ (fun F2 H2 σ2 S2 Γ2 p2 g2 f2 => q1 F2 H2 σ2 S2 Γ2 (p1.trans p2) g2 f2) (fun F2 H2 v d S2 p2 r2 f2 => q2 F2 H2 v d S2 (p1.trans p2) r2 f2)
        (fun F2 H2 σ2 S2 Γ2 p2 g2 f2 => q3 F2 H2 σ2 S2 Γ2 (p1.trans p2) g2 f2) (fun F2 H2 σ2 S2 Γ2 p2 g2 f2 => q4 F2 H2 σ2 S2 Γ2 (p1.trans p2) g2 f2)
  obtain ⟨d0, e0, zd⟩ := z.get i d q
  obtain ⟨v, e1, r⟩ := (hg.mono p1.same).2 i _ e0
  exact ⟨v, e1, zd.rep r1 r⟩
def offs (n m : Nat) : Nat → Nat
  | 0 => 0
  | 1 => n
  | 2 => 2 * n
  | _ => 2 * n + m
def sp__law_flat (K : PySem.W.Frag) : Spec := fun ds S Φ => ∃ (n : Nat) (es : List (Nat × Nat)) (f : Conf), ds = [netD K n es, .int n, stgD K n es f] ∧ n ≤ 100 ∧ es.length ≤ 100 ∧ Φ (keyD n es.length f) S
def sp__law_net_rides : Spec := fun ds S Φ => ∃ (n : Nat) (es : List (Nat × Nat)) (f : Conf) (kf : List Conf) (rs : List Ride), ds = [.lst (es.map pD), .int n, .lst (kf.map (keyD n es.length)), .lst (rs.map rD)] ∧ NetOk n es ∧ Ok n es f ∧ walkOk n es f rs ∧ rs.length ≤ 1000 ∧
  (∀ k, k < rs.length → kf[k]? = some (run n es f (rs.take k))) ∧ Φ (.lst [.lst (seqI es.length fun k => cr n es f rs (k, false)), .lst (seqI es.length fun k => cr n es f rs (k, true))]) S
def sp__law_bill (K : PySem.W.Frag) : Spec := fun ds S Φ => ∃ (n : Nat) (es : List (Nat × Nat)) (c : Ride → Int), ds = [netD K n es, billD K n es c, .lst [.lst (seqI es.length fun k => c (k, false)), .lst (seqI es.length fun k => c (k, true))]] ∧ es.length ≤ 1000 ∧ Φ (.bl true) S
def sp__law_ends_at (K : PySem.W.Frag) : Spec := fun ds S Φ => ∃ (n : Nat) (es : List (Nat × Nat)) (f : Conf) (rs : List Ride), ds = [netD K n es, .int n, stgD K n es f, .lst (rs.map wD), keyD n es.length (run n es f rs)] ∧ NetOk n es ∧ Ok n es f ∧ walkOk n es f rs ∧ rs.length ≤ 1000 ∧ Φ (.bl true) S
def sp__law_again : Spec := fun ds S Φ => ∃ (p c : Addr) (n : Nat) (es : List (Nat × Nat)) (f : Conf) (m : Nat), ds = [.ref p, .int n, .lst (es.map pD), keyD n es.length f, .int m] ∧ NetOk n es ∧ Ok n es f ∧ m ≤ 100 ∧ Pot S p c ∧
  ∀ (rs : List Ride) S', walkOk n es f rs → rs.length ≤ m → Dr p c S S' → Φ (.lst [.lst (rs.map rD), .lst ((path n es f rs).map (keyD n es.length))]) S'
local macro_rules | `(tactic| walk_at "w") => `(tactic| first
  | ((with_reducible show WE _ (tVar _) _ _ _); refine w_var (by rfl) ?_)
  | ((with_reducible show WE _ (tC (.int _)) _ _ _); refine w_cI ?_)
  | ((with_reducible show WE _ (tC (.str _)) _ _ _); refine w_cS ?_)
  | ((with_reducible show WE _ (tC (.bl _)) _ _ _); refine w_cB ?_)
  | ((with_reducible show WE _ (tC .non) _ _ _); refine w_cN ?_)
  | ((with_reducible show WE _ (tC (.ty _)) _ _ _); refine w_cT ?_)
  | ((with_reducible show WE _ (tC (.ref _)) _ _ _); refine w_cR ?_)
  | ((with_reducible show WE _ (tOp _ _ _) _ _ _); refine w_op ?_)
  | ((with_reducible show WE _ (tUn _ _) _ _ _); refine w_un ?_)
  | ((with_reducible show WE _ (tChain _ _ _ _ _) _ _ _); refine w_chain ?_)
  | ((with_reducible show WE _ (tFld _ _ _) _ _ _); refine w_fld ?_)
  | ((with_reducible show WE _ (tIf _ _ _) _ _ _); refine w_ifE ?_)
  | ((with_reducible show WE _ (tTup _) _ _ _); refine w_tup ?_)
  | ((with_reducible show WE _ (tCB _ _) _ _ _); refine w_cb ?_)
  | ((with_reducible show WE _ (tCall _ _ _ _) _ _ _); refine w_call ?_)
  | ((with_reducible show WE _ (tMake _ _ _ _ _) _ _ _); refine w_make ?_)
  | ((with_reducible show WE _ (tMeth _ _ _ _ _ _ _) _ _ _); refine w_meth ?_)
  | ((with_reducible show WE _ (tSl _ _ _ _) _ _ _); refine w_sl ?_)
  | ((with_reducible show WE _ (tBM _ _ rAppend _ _) _ _ _); refine w_append (p := 0) (ds := []) ?_)
  | ((with_reducible show WE _ (tBM _ _ rExtend _ _) _ _ _); refine w_extend ?_)
  | ((with_reducible show WE _ (tBM _ _ rInsL _ _) _ _ _); refine w_insert ?_)
  | ((with_reducible show WE _ (tBM0 _ _ rPop _) _ _ _); refine w_pop ?_)
  | ((with_reducible show WE _ (tBM _ _ rPopAt _ _) _ _ _); refine w_popAt ?_)
  | ((with_reducible show WE _ (tBM _ _ (rCntD _) _ _) _ _ _); refine w_bmL ?_)
  | ((with_reducible show WE _ (tAndV _ _) _ _ _); refine w_andV ?_)
  | ((with_reducible show WE _ (tOrV _ _) _ _ _); refine w_orV ?_)
  | ((with_reducible show WE _ (tNotV _) _ _ _); refine w_notV ?_)
  | ((with_reducible show WA _ tNil _ _ _); refine wa_nil ?_)
  | ((with_reducible show WA _ (tCons _ _) _ _ _); refine wa_cons ?_)
  | ((with_reducible show WO _ tNoPart _ _ _); refine wo_none ?_)
  | ((with_reducible show WO _ (tPart _) _ _ _); refine wo_some ?_)
  | ((with_reducible show WT _ (tTest _) _ _ _); refine w_test ?_)
  | ((with_reducible show WT _ (tB _) _ _ _); refine w_tB ?_)
  | ((with_reducible show WT _ (tTru _ _) _ _ _); refine w_tru ?_)
  | ((with_reducible show WT _ (tTruO _ _) _ _ _); refine w_truO ?_)
  | ((with_reducible show WT _ (tAnd _ _) _ _ _); refine w_and ?_)
  | ((with_reducible show WT _ (tOr _ _) _ _ _); refine w_or ?_)
  | ((with_reducible show WT _ (tNot _) _ _ _); refine w_not ?_)
  | ((with_reducible show WT _ tYes _ _ _); refine wt_yes ?_)
  | ((with_reducible show WS _ (tSeq _ _) _ _ _); refine ws_seq ?_)
  | ((with_reducible show WS _ (tAsg _ (gName _)) _ _ _); refine ws_set ?_)
  | ((with_reducible show WS _ (tAsg _ _) _ _ _); refine ws_asg ?_)
  | ((with_reducible show WS _ (sFld _ _ _ _) _ _ _); refine ws_fld ?_)
  | ((with_reducible show WS _ (tDrop _) _ _ _); refine ws_drop ?_)
  | ((with_reducible show WS _ (tRet _) _ _ _); refine ws_ret ?_)
  | ((with_reducible show WS _ tRetN _ _ _); refine ws_retN ?_)
  | ((with_reducible show WS _ tNext _ _ _); refine ws_next ?_)
  | ((with_reducible show WS _ tBreak _ _ _); refine ws_break ?_)
  | ((with_reducible show WS _ tCont _ _ _); refine ws_cont ?_)
  | ((with_reducible show WS _ (tIfS _ _ _) _ _ _); refine ws_if ?_)
  | ((with_reducible show WS _ (tAug _ _ _) _ _ _); refine ws_aug (by rfl) ?_)
  | ((with_reducible show WS _ (tAugS _ _ _ _ _ _) _ _ _); refine ws_augS ?_)
  | ((with_reducible show WG _ (gName _) _ _ _ _); refine wg_name ?_)
  | ((with_reducible show WG _ (gTup _ _ _) (.tup _) _ _ _); refine wg_tup (by rfl) ?_)
  | ((with_reducible show WG _ (gSub _ _ _) _ _ _ _); refine wg_sub ?_)
  | ((with_reducible show WGs _ gNil [] _ _ _); refine wgs_nil ?_)
  | ((with_reducible show WGs _ (gCons _ _) (_ :: _) _ _ _); refine wgs_cons ?_)
  | ((with_reducible show WI _ (iRng1 _) _ _ _); refine wi_rng1 ?_)
  | ((with_reducible show WI _ (iRng2 _) _ _ _); refine wi_rng2 ?_)
  | ((with_reducible show WI _ (iSeqU _ _) _ _ _); refine wi_seq ?_)
  | ((with_reducible show WI _ (iEnumU _ _) _ _ _); refine wi_enum ?_)
  | ((with_reducible show WI _ (RZ.iZipA _ _) _ _ _); refine wi_zip ?_))
local macro_rules | `(tactic| walk_at "w") => `(tactic| first
  | ((with_reducible show ∃ C ns ds d, InsOf _ _ C ns ds ∧ _); refine ⟨_, _, _, _, .o, by walk_at "cls", by walk_at "noat", by rfl, ?_⟩)
  | ((with_reducible show R2W _ (rAddU _) (.int _) (.int _) _ _); refine rw_addI ?_)
  | ((with_reducible show R2W _ rSubI (.int _) (.int _) _ _); refine rw_subI ?_)
  | ((with_reducible show R2W _ rLtI (.int _) (.int _) _ _); refine rw_ltI ?_)
  | ((with_reducible show R2W _ rLeI (.int _) (.int _) _ _); refine rw_leI ?_)
  | ((with_reducible show R2W _ rGtI (.int _) (.int _) _ _); refine rw_gtI ?_)
  | ((with_reducible show R2W _ rGeI (.int _) (.int _) _ _); refine rw_geI ?_)
  | ((with_reducible show R2W _ (rEqU _) (.int _) (.int _) _ _); refine rw_eqUI ?_)
  | ((with_reducible show R2W _ (rEqU _) (.str _) (.str _) _ _); refine rw_eqUS ?_)
  | ((with_reducible show R2W _ (rNeU _) (.int _) (.int _) _ _); refine rw_neUI ?_)
  | ((with_reducible show R2W _ (rNeU _) (.str _) (.str _) _ _); refine rw_neUS ?_)
  | ((with_reducible show R1W _ rNegI (.int _) _ _); refine rw_negI ?_)
  | ((with_reducible show RLW _ (rLenQ _) [_] _ _); refine rw_len (by first | exact .t | exact .l | exact .r (by assumption)) ?_)
  | ((with_reducible show RLW _ rIntQ [.int _] _ _); refine rw_int ?_)
  | ((with_reducible show RLW _ rAbsQ [.int _] _ _); refine rw_abs ?_)
  | ((with_reducible show ∃ k, .bl _ = D.bl k ∧ _); refine ⟨_, rfl, ?_⟩)
  | ((with_reducible show ∃ k, .int _ = D.int k ∧ _); refine ⟨_, rfl, ?_⟩)
  | ((with_reducible show ∃ k, TruD _ (.bl _) k ∧ _); refine ⟨_, .bl, ?_⟩)
  | ((with_reducible show ∃ k, TruD _ (.int _) k ∧ _); refine ⟨_, .int, ?_⟩)
  | ((with_reducible show List.length _ ≤ 1000000 ∧ _); refine ⟨Nat.le_of_ble_eq_true rfl, ?_⟩)
  | ((with_reducible show ∃ S2, Sub S2 _ ∧ _); refine ⟨_, Sub.refl _, ?_⟩))
local macro_rules | `(tactic| walk_at "w*") => `(tactic| repeat walk_at "w")
local macro_rules | `(tactic| walk_at "le") => `(tactic| repeat first | exact Le.nil | exact Le.rfl | refine Le.som ?_ | refine Le.non ?_)
local macro_rules | `(tactic| walk_at "fz") => `(tactic| repeat first | exact Fz.nil | refine Fz.som ?_ | refine Fz.frz ?_ | refine Fz.non ?_)
local macro_rules | `(tactic| walk_at "cls") => `(tactic| first | exact cl_Net (by assumption) | exact cl_Standing (by assumption) | exact cl_Bill (by assumption) | exact cl_Trip (by assumption))
local macro_rules | `(tactic| walk_at "noat") => `(tactic| first | exact na_Net_stations (by assumption) | exact na_Net_ropes (by assumption) | exact na_Standing_net (by assumption) | exact na_Standing_reds (by assumption) | exact na_Standing_blues (by assumption) | exact na_Standing_cars (by assumption) | exact na_Bill_net (by assumption) | exact na_Bill_reds (by assumption) | exact na_Bill_blues (by assumption) | exact na_Trip_rides (by assumption))

local macro_rules | `(tactic| walk_at "w") => `(tactic| first
  | ((with_reducible show WI _ (iRng3 _) _ _ _); refine wi_rng3 ?_)
  | ((with_reducible show R2W _ (rIxU _) (.ref _) (.int 0) (potU _ _ _ _ _ _ _ _) _); refine rw_p0 ?_)
  | ((with_reducible show R2W _ (rIxU _) (.ref _) (.int 1) (potU _ _ _ _ _ _ _ _) _); refine rw_p1 ?_)
  | ((with_reducible show R2W _ (rIxU _) (.ref _) (.int 2) (potU _ _ _ _ _ _ _ _) _); refine rw_p2 ?_)
  | ((with_reducible show R2W _ (rIxU _) (.ref _) (.int 3) (potU _ _ _ _ _ _ _ _) _); refine rw_p3 ?_)
  | ((with_reducible show R2W _ (rIxU _) (.ref _) (.int 4) (potU _ _ _ _ _ _ _ _) _); refine rw_p4 ?_)
  | ((with_reducible show RSW _ rSetL (.ref _) (.int 1) (.int _) (potU _ _ _ _ _ _ _ _) _); refine rs_p1 ?_)
  | ((with_reducible show RSW _ rSetL (.ref _) (.int 2) (.int _) (potU _ _ _ _ _ _ _ _) _); refine rs_p2 ?_)
  | ((with_reducible show RSW _ rSetL (.ref _) (.int 3) (.int _) (potU _ _ _ _ _ _ _ _) _); refine rs_p3 ?_)
  | ((with_reducible show RSW _ rSetL (.ref _) (.int 4) (.int _) (potU _ _ _ _ _ _ _ _) _); refine rs_p4 ?_)
  | ((with_reducible show R2W _ rMulU (.int _) (.int _) _ _); refine rw_mulI (.inr ⟨by decide, by decide⟩) ?_)
  | ((with_reducible show R2W _ rMulU (.int _) (.int _) _ _); refine rw_mulI (.inl ⟨by decide, by decide⟩) ?_)
  | ((with_reducible show R2W _ rModI (.int _) (.int _) _ _); refine rw_modI (by decide) ?_)
  | ((with_reducible show R2W _ rDivI (.int _) (.int _) _ _); refine rw_divI (by decide) (by decide) ?_)
  | ((with_reducible show RLW _ rMax2Q [.int _, .int _] _ _); refine rw_max2 ?_)
  | ((with_reducible show RLW _ rMin2Q [.int _, .int _] _ _); refine rw_min2 ?_))

theorem rw_eqSeqT {K : PySem.W.Frag} {S : Store} {Φ : D → Store → Prop} {m : Nat} {f : Nat → Int} (q : Φ (.bl true) S) : R2W K (rEqU K) (.tup (seqI m f)) (.tup (seqI m f)) S Φ := by
  rw [seqI_sum]
  refine rw_eqUD (Emb.tup Emb.int) (a := (List.range m).map f) (b := (List.range m).map f) (by decide) ?_
  rw [decide_eq_true rfl]
  exact q
theorem seqI_snoc {m : Nat} {f : Nat → Int} : seqI m f ++ [.int (f m)] = seqI (m + 1) f := by
  unfold seqI
  rw [List.range_succ, List.map_append]; rfl
section
variable {P : Program} {w : World} {K : PySem.W.Frag} {mg : Str → Option Value} {base : Heap}
theorem ok__law_flat (T : Hd fn fa xs K mg) : FnE P w K mg base 2 (He.fAd K d__law_flat.at_) ps__law_flat (spOf K (sp__law_flat K)) := by
  refine T.ok _ ix__law_flat (N := N__law_flat) rfl sc__law_flat (fun ds S Φ ⟨_, _, _, e, _⟩ => by rw [e]; rfl) (fun _ _ _ _ _ _ us hl => ?_) fun cdv A outer s H E hr => ⟨_, dv__law_flat T (ok_Net___eq__ T) hr, ?_⟩
  · match us, hl with
    | [a, b, c], _ => rfl
  rintro _ S Φ ⟨n, es, f, rfl, hn, hf, q⟩
  unfold t__law_flat
  walk_at "w*"
  refine rw_isi (.ins .o (in_Standing T)) .own (kit_self _) ?_
  walk_at "w*"
  refine iteF ?_
  walk_at "w*"
  refine rw_own2 .o .o ⟨n, es, rfl, ?_⟩
  walk_at "w*"
  refine iteF ?_
  walk_at "w*"
  refine w_lstM ?_
  walk_at "w*"
  refine fun p hp => ?_
  walk_at "w*"
  refine ws_forE ?_
  walk_at "w*"
  refine ⟨_, .t, fun i => [some (netD K n es), some (.int n), some (stgD K n es f), some (.ref p), none, none],
    fun i S' => S' = stU S p (.lst (seqI (offs n es.length i) f)), by walk_at "le", rfl, fun i y S' hy e => ?_, fun S' e => ?_⟩
  · subst e
    have hseg : ∃ len off, y = .tup (seqI len fun j => f (off + j)) ∧ len ≤ 100 ∧ off ≤ 200 ∧ offs n es.length i = off ∧ offs n es.length (i + 1) = off + len := by
      match i, hy with
      | 0, hy => cases hy; exact ⟨n, 0, congrArg D.tup (seqI_congr (g := fun j => f (0 + j)) fun i _ => by rw [Nat.zero_add]), hn, by omega, rfl, (Nat.zero_add n).symm⟩
      | 1, hy => cases hy; exact ⟨n, n, rfl, hn, by omega, rfl, Nat.two_mul n⟩
      | 2, hy => cases hy; exact ⟨es.length, 2 * n, rfl, hf, Nat.mul_le_mul_left 2 hn, rfl, rfl⟩
      | i + 3, hy => simp at hy
    obtain ⟨len, off, rfl, hlen, hoff, h1, h2⟩ := hseg
    dsimp only at h1 h2 ⊢
    rw [h1, h2]
    walk_at "w*"
    refine rw_isi .tup .ty (kit_ty (r := true) (by decide +kernel)) ?_
    walk_at "w*"
    refine iteF ?_
    walk_at "w*"
    refine ws_forE ?_
    walk_at "w*"
    refine ⟨_, .t, fun _ => [some (netD K n es), some (.int n), some (stgD K n es f), some (.ref p), none, none], fun j S' => S' = stU S p (.lst (seqI (off + j) f)), by walk_at "le", rfl, fun j y S' hy e => ?_, fun S' e => ?_⟩
    · subst e
      obtain ⟨hj, rfl⟩ := seqI_get hy
      walk_at "w*"
      refine rw_isi .int .ty (kit_ty (r := true) (by decide +kernel)) ?_
      walk_at "w*"
      refine iteF ?_
      walk_at "w*"
      refine rw_isi .int .ty (kit_ty (r := false) (by decide +kernel)) ?_
      walk_at "w*"
      refine iteF ?_
      walk_at "w*"
      refine ⟨_, _, rfl, stU_same, ?_⟩
      walk_at "w*"
      refine ⟨_, stU_same, by rw [seqI_len]; omega, ?_⟩
      rw [stU_U, seqI_snoc]
      exact ⟨by walk_at "le", rfl⟩
    · subst e
      rw [seqI_len]
      exact ⟨by walk_at "le", rfl⟩
  · subst e
    walk_at "w*"
    rw [List.length_map, List.length_range, decide_eq_true rfl]
    refine iteF ?_
    walk_at "w*"
    rw [List.length_map, List.length_range, decide_eq_true rfl]
    refine iteF ?_
    refine ws_next ?_
    refine ws_ret ?_
    refine w_cb (wa_cons (w_var (by rfl) (wa_nil ?_)))
    refine rw_tuple (.r stU_same) ?_
    exact ⟨_, Sub.new hp, q⟩
theorem ok__law_bill (T : Hd fn fa xs K mg) : FnE P w K mg base 5 (He.fAd K d__law_bill.at_) ps__law_bill (spOf K (sp__law_bill K)) := by
  refine T.ok _ ix__law_bill (N := N__law_bill) rfl sc__law_bill (fun ds S Φ ⟨_, _, _, e, _⟩ => by rw [e]; rfl) (fun _ _ _ _ _ _ us hl => ?_) fun cdv A outer s H E hr => ⟨_, dv__law_bill T (ok_Net___eq__ T) (ok__law_like T 2) hr, ?_⟩
  · match us, hl with
    | [a, b, c], _ => rfl
  rintro _ S Φ ⟨n, es, c, rfl, hf, q⟩
  unfold t__law_bill
  walk_at "w*"
  refine rw_isi (.ins .o (in_Bill T)) .own (kit_self _) ?_
  walk_at "w*"
  refine iteF ?_
  walk_at "w*"
  refine rw_own2 .o .o ⟨n, es, rfl, ?_⟩
  walk_at "w*"
  refine iteF ?_
  walk_at "w*"
  refine w_lst ?_
  walk_at "w*"
  refine w_lst ?_
  walk_at "w*"
  refine rw_ix .l rfl ?_
  walk_at "w*"
  refine rw_tuple .l ?_
  walk_at "w*"
  refine rw_ix .l rfl ?_
  walk_at "w*"
  refine rw_tuple .l ?_
  walk_at "w*"
  refine ⟨_, rfl, (LkD.seq (Nat.le_of_ble_eq_true rfl) fun x hx => ?_).1, ⟨_, Sub.refl _, q⟩⟩
  have hii : ∀ g : Nat → Int, LkD 1 (.tup (seqI es.length g)) := fun g => (LkD.seq (by rw [seqI_len]; omega) fun x hx => by
    obtain ⟨i, hi⟩ := List.mem_iff_getElem?.mp hx
    obtain ⟨_, rfl⟩ := seqI_get hi
    exact LkD.int).2
  rcases List.mem_cons.mp hx with rfl | hx
  · exact hii _
  · rcases List.mem_cons.mp hx with rfl | hx
    · exact hii _
    · simp at hx
theorem ok__law_ends_at (T : Hd fn fa xs K mg) : FnE P w K mg base 6 (He.fAd K d__law_ends_at.at_) ps__law_ends_at (spOf K (sp__law_ends_at K)) := by
  refine T.ok _ ix__law_ends_at (N := N__law_ends_at) rfl sc__law_ends_at (fun ds S Φ ⟨_, _, _, _, e, _⟩ => by rw [e]; rfl) (fun _ _ _ _ _ _ us hl => ?_) fun cdv A outer s H E hr => ⟨_, dv__law_ends_at T (ok_walk T) (ok__law_flat T) hr, ?_⟩
  · match us, hl with
    | [a, b, c, d, e], _ => rfl
  rintro _ S Φ ⟨n, es, f, rs, rfl, N, O, W, hz, q⟩
  have hn := N.hi
  have hf := N.few
  unfold t__law_ends_at
  walk_at "w*"
  refine ⟨n, es, f, _, rs, rfl, N, O, .l, hz, W, ?_⟩
  walk_at "w*"
  refine rw_isi .lst .ty (kit_ty (r := true) (by decide +kernel)) ?_
  walk_at "w*"
  refine iteF ?_
  walk_at "w*"
  have hpl : (path n es f rs).length = rs.length + 1 := by simp [path]
  rw [List.length_map, List.length_map, hpl, decide_eq_true (by omega)]
  refine iteF ?_
  walk_at "w*"
  have hlast : (path n es f rs).map (stgD K n es) = (((List.range rs.length).map fun j => run n es f (rs.take j)).map (stgD K n es)) ++ [stgD K n es (run n es f rs)] := by
    unfold path
    rw [List.range_succ, List.map_append, List.map_append, List.map_singleton, List.map_singleton, List.take_length]
  rw [hlast]
  refine rw_ix .l at_last ?_
  walk_at "w*"
  refine ⟨n, es, _, rfl, by omega, by omega, ?_⟩
  walk_at "w*"
  refine rw_eqSeqT ?_
  exact ⟨_, Sub.refl _, q⟩
end
end Tw


set_option Elab.async false
set_option linter.all false
set_option maxRecDepth 100000
set_option maxHeartbeats 4000000
namespace Tw
open PySem PySem.Spec PyProof.Rows L2
theorem tot_split {n : Nat} {f : Conf} : ∀ m, tot (n + m) f = tot n f + tot m fun i => f (n + i)
  | 0 => by rw [show tot 0 (fun i => f (n + i)) = 0 from rfl]; simp
  | m + 1 => by
    rw [← Nat.add_assoc, tot_succ, tot_split m, tot_succ]
    omega
theorem tot_inc {n s : Nat} {f : Conf} (h : s < n) : tot n (fun j => if j = s then f s + 1 else f j) = tot n f + 1 := by
  rw [tot_congr (g := fun j => f j + if j = s then 1 else 0) fun j _ => ?_, tot_add n f, tot_one h]
  by_cases e : j = s
  · subst e; simp
  · simp [e]
def tots (a b : Nat) : Nat → Nat
  | 0 => 0
  | 1 => a
  | _ => a + b
theorem app2 {a b c d : List D} (h : a = c) (h' : b = d) : a ++ b = c ++ d := by rw [h, h']
theorem seqI_append {n m : Nat} {f g : Nat → Int} : seqI n f ++ seqI m g = seqI (n + m) fun j => if j < n then f j else g (j - n) := by
  unfold seqI
  rw [List.range_add, List.map_append, List.map_map]
  refine app2 (List.map_congr_left fun i hi => ?_) (List.map_congr_left fun i hi => ?_)
  · show D.int (f i) = D.int (if i < n then f i else g (i - n))
    rw [if_pos (List.mem_range.mp hi)]
  · show _ = D.int (if n + i < n then f (n + i) else g (n + i - n))
    rw [if_neg (by omega), Nat.add_sub_cancel_left]
local macro_rules | `(tactic| walk_at "w") => `(tactic| first
  | ((with_reducible show WE _ (tVar _) _ _ _); refine w_var (by rfl) ?_)
  | ((with_reducible show WE _ (tC (.int _)) _ _ _); refine w_cI ?_)
  | ((with_reducible show WE _ (tC (.str _)) _ _ _); refine w_cS ?_)
  | ((with_reducible show WE _ (tC (.bl _)) _ _ _); refine w_cB ?_)
  | ((with_reducible show WE _ (tC .non) _ _ _); refine w_cN ?_)
  | ((with_reducible show WE _ (tC (.ty _)) _ _ _); refine w_cT ?_)
  | ((with_reducible show WE _ (tC (.ref _)) _ _ _); refine w_cR ?_)
  | ((with_reducible show WE _ (tOp _ _ _) _ _ _); refine w_op ?_)
  | ((with_reducible show WE _ (tUn _ _) _ _ _); refine w_un ?_)
  | ((with_reducible show WE _ (tChain _ _ _ _ _) _ _ _); refine w_chain ?_)
  | ((with_reducible show WE _ (tFld _ _ _) _ _ _); refine w_fld ?_)
  | ((with_reducible show WE _ (tIf _ _ _) _ _ _); refine w_ifE ?_)
  | ((with_reducible show WE _ (tTup _) _ _ _); refine w_tup ?_)
  | ((with_reducible show WE _ (tCB _ _) _ _ _); refine w_cb ?_)
  | ((with_reducible show WE _ (tCall _ _ _ _) _ _ _); refine w_call ?_)
  | ((with_reducible show WE _ (tMake _ _ _ _ _) _ _ _); refine w_make ?_)
  | ((with_reducible show WE _ (tMeth _ _ _ _ _ _ _) _ _ _); refine w_meth ?_)
  | ((with_reducible show WE _ (tSl _ _ _ _) _ _ _); refine w_sl ?_)
  | ((with_reducible show WE _ (tBM _ _ rAppend _ _) _ _ _); refine w_append (p := 0) (ds := []) ?_)
  | ((with_reducible show WE _ (tBM _ _ rExtend _ _) _ _ _); refine w_extend ?_)
  | ((with_reducible show WE _ (tBM _ _ rInsL _ _) _ _ _); refine w_insert ?_)
  | ((with_reducible show WE _ (tBM0 _ _ rPop _) _ _ _); refine w_pop ?_)
  | ((with_reducible show WE _ (tBM _ _ rPopAt _ _) _ _ _); refine w_popAt ?_)
  | ((with_reducible show WE _ (tBM _ _ (rCntD _) _ _) _ _ _); refine w_bmL ?_)
  | ((with_reducible show WE _ (tAndV _ _) _ _ _); refine w_andV ?_)
  | ((with_reducible show WE _ (tOrV _ _) _ _ _); refine w_orV ?_)
  | ((with_reducible show WE _ (tNotV _) _ _ _); refine w_notV ?_)
  | ((with_reducible show WA _ tNil _ _ _); refine wa_nil ?_)
  | ((with_reducible show WA _ (tCons _ _) _ _ _); refine wa_cons ?_)
  | ((with_reducible show WO _ tNoPart _ _ _); refine wo_none ?_)
  | ((with_reducible show WO _ (tPart _) _ _ _); refine wo_some ?_)
  | ((with_reducible show WT _ (tTest _) _ _ _); refine w_test ?_)
  | ((with_reducible show WT _ (tB _) _ _ _); refine w_tB ?_)
  | ((with_reducible show WT _ (tTru _ _) _ _ _); refine w_tru ?_)
  | ((with_reducible show WT _ (tTruO _ _) _ _ _); refine w_truO ?_)
  | ((with_reducible show WT _ (tAnd _ _) _ _ _); refine w_and ?_)
  | ((with_reducible show WT _ (tOr _ _) _ _ _); refine w_or ?_)
  | ((with_reducible show WT _ (tNot _) _ _ _); refine w_not ?_)
  | ((with_reducible show WT _ tYes _ _ _); refine wt_yes ?_)
  | ((with_reducible show WS _ (tSeq _ _) _ _ _); refine ws_seq ?_)
  | ((with_reducible show WS _ (tAsg _ (gName _)) _ _ _); refine ws_set ?_)
  | ((with_reducible show WS _ (tAsg _ _) _ _ _); refine ws_asg ?_)
  | ((with_reducible show WS _ (sFld _ _ _ _) _ _ _); refine ws_fld ?_)
  | ((with_reducible show WS _ (tDrop _) _ _ _); refine ws_drop ?_)
  | ((with_reducible show WS _ (tRet _) _ _ _); refine ws_ret ?_)
  | ((with_reducible show WS _ tRetN _ _ _); refine ws_retN ?_)
  | ((with_reducible show WS _ tNext _ _ _); refine ws_next ?_)
  | ((with_reducible show WS _ tBreak _ _ _); refine ws_break ?_)
  | ((with_reducible show WS _ tCont _ _ _); refine ws_cont ?_)
  | ((with_reducible show WS _ (tIfS _ _ _) _ _ _); refine ws_if ?_)
  | ((with_reducible show WS _ (tAug _ _ _) _ _ _); refine ws_aug (by rfl) ?_)
  | ((with_reducible show WS _ (tAugS _ _ _ _ _ _) _ _ _); refine ws_augS ?_)
  | ((with_reducible show WG _ (gName _) _ _ _ _); refine wg_name ?_)
  | ((with_reducible show WG _ (gTup _ _ _) (.tup _) _ _ _); refine wg_tup (by rfl) ?_)
  | ((with_reducible show WG _ (gSub _ _ _) _ _ _ _); refine wg_sub ?_)
  | ((with_reducible show WGs _ gNil [] _ _ _); refine wgs_nil ?_)
  | ((with_reducible show WGs _ (gCons _ _) (_ :: _) _ _ _); refine wgs_cons ?_)
  | ((with_reducible show WI _ (iRng1 _) _ _ _); refine wi_rng1 ?_)
  | ((with_reducible show WI _ (iRng2 _) _ _ _); refine wi_rng2 ?_)
  | ((with_reducible show WI _ (iSeqU _ _) _ _ _); refine wi_seq ?_)
  | ((with_reducible show WI _ (iEnumU _ _) _ _ _); refine wi_enum ?_)
  | ((with_reducible show WI _ (RZ.iZipA _ _) _ _ _); refine wi_zip ?_))
local macro_rules | `(tactic| walk_at "w") => `(tactic| first
  | ((with_reducible show ∃ C ns ds d, InsOf _ _ C ns ds ∧ _); refine ⟨_, _, _, _, .o, by walk_at "cls", by walk_at "noat", by rfl, ?_⟩)
  | ((with_reducible show R2W _ (rAddU _) (.int _) (.int _) _ _); refine rw_addI ?_)
  | ((with_reducible show R2W _ rSubI (.int _) (.int _) _ _); refine rw_subI ?_)
  | ((with_reducible show R2W _ rLtI (.int _) (.int _) _ _); refine rw_ltI ?_)
  | ((with_reducible show R2W _ rLeI (.int _) (.int _) _ _); refine rw_leI ?_)
  | ((with_reducible show R2W _ rGtI (.int _) (.int _) _ _); refine rw_gtI ?_)
  | ((with_reducible show R2W _ rGeI (.int _) (.int _) _ _); refine rw_geI ?_)
  | ((with_reducible show R2W _ (rEqU _) (.int _) (.int _) _ _); refine rw_eqUI ?_)
  | ((with_reducible show R2W _ (rEqU _) (.str _) (.str _) _ _); refine rw_eqUS ?_)
  | ((with_reducible show R2W _ (rNeU _) (.int _) (.int _) _ _); refine rw_neUI ?_)
  | ((with_reducible show R2W _ (rNeU _) (.str _) (.str _) _ _); refine rw_neUS ?_)
  | ((with_reducible show R1W _ rNegI (.int _) _ _); refine rw_negI ?_)
  | ((with_reducible show RLW _ (rLenQ _) [_] _ _); refine rw_len (by first | exact .t | exact .l | exact .r (by assumption)) ?_)
  | ((with_reducible show RLW _ rIntQ [.int _] _ _); refine rw_int ?_)
  | ((with_reducible show RLW _ rAbsQ [.int _] _ _); refine rw_abs ?_)
  | ((with_reducible show ∃ k, .bl _ = D.bl k ∧ _); refine ⟨_, rfl, ?_⟩)
  | ((with_reducible show ∃ k, .int _ = D.int k ∧ _); refine ⟨_, rfl, ?_⟩)
  | ((with_reducible show ∃ k, TruD _ (.bl _) k ∧ _); refine ⟨_, .bl, ?_⟩)
  | ((with_reducible show ∃ k, TruD _ (.int _) k ∧ _); refine ⟨_, .int, ?_⟩)
  | ((with_reducible show List.length _ ≤ 1000000 ∧ _); refine ⟨Nat.le_of_ble_eq_true rfl, ?_⟩)
  | ((with_reducible show ∃ S2, Sub S2 _ ∧ _); refine ⟨_, Sub.refl _, ?_⟩))
local macro_rules | `(tactic| walk_at "w*") => `(tactic| repeat walk_at "w")
local macro_rules | `(tactic| walk_at "le") => `(tactic| repeat first | exact Le.nil | exact Le.rfl | refine Le.som ?_ | refine Le.non ?_)
local macro_rules | `(tactic| walk_at "fz") => `(tactic| repeat first | exact Fz.nil | refine Fz.som ?_ | refine Fz.frz ?_ | refine Fz.non ?_)
local macro_rules | `(tactic| walk_at "cls") => `(tactic| first | exact cl_Net (by assumption) | exact cl_Standing (by assumption) | exact cl_Bill (by assumption) | exact cl_Trip (by assumption))
local macro_rules | `(tactic| walk_at "noat") => `(tactic| first | exact na_Net_stations (by assumption) | exact na_Net_ropes (by assumption) | exact na_Standing_net (by assumption) | exact na_Standing_reds (by assumption) | exact na_Standing_blues (by assumption) | exact na_Standing_cars (by assumption) | exact na_Bill_net (by assumption) | exact na_Bill_reds (by assumption) | exact na_Bill_blues (by assumption) | exact na_Trip_rides (by assumption))

local macro_rules | `(tactic| walk_at "w") => `(tactic| first
  | ((with_reducible show WI _ (iRng3 _) _ _ _); refine wi_rng3 ?_)
  | ((with_reducible show R2W _ (rIxU _) (.ref _) (.int 0) (potU _ _ _ _ _ _ _ _) _); refine rw_p0 ?_)
  | ((with_reducible show R2W _ (rIxU _) (.ref _) (.int 1) (potU _ _ _ _ _ _ _ _) _); refine rw_p1 ?_)
  | ((with_reducible show R2W _ (rIxU _) (.ref _) (.int 2) (potU _ _ _ _ _ _ _ _) _); refine rw_p2 ?_)
  | ((with_reducible show R2W _ (rIxU _) (.ref _) (.int 3) (potU _ _ _ _ _ _ _ _) _); refine rw_p3 ?_)
  | ((with_reducible show R2W _ (rIxU _) (.ref _) (.int 4) (potU _ _ _ _ _ _ _ _) _); refine rw_p4 ?_)
  | ((with_reducible show RSW _ rSetL (.ref _) (.int 1) (.int _) (potU _ _ _ _ _ _ _ _) _); refine rs_p1 ?_)
  | ((with_reducible show RSW _ rSetL (.ref _) (.int 2) (.int _) (potU _ _ _ _ _ _ _ _) _); refine rs_p2 ?_)
  | ((with_reducible show RSW _ rSetL (.ref _) (.int 3) (.int _) (potU _ _ _ _ _ _ _ _) _); refine rs_p3 ?_)
  | ((with_reducible show RSW _ rSetL (.ref _) (.int 4) (.int _) (potU _ _ _ _ _ _ _ _) _); refine rs_p4 ?_)
  | ((with_reducible show R2W _ rMulU (.int _) (.int _) _ _); refine rw_mulI (.inr ⟨by decide, by decide⟩) ?_)
  | ((with_reducible show R2W _ rMulU (.int _) (.int _) _ _); refine rw_mulI (.inl ⟨by decide, by decide⟩) ?_)
  | ((with_reducible show R2W _ rModI (.int _) (.int _) _ _); refine rw_modI (by decide) ?_)
  | ((with_reducible show R2W _ rDivI (.int _) (.int _) _ _); refine rw_divI (by decide) (by decide) ?_)
  | ((with_reducible show RLW _ rMax2Q [.int _, .int _] _ _); refine rw_max2 ?_)
  | ((with_reducible show RLW _ rMin2Q [.int _, .int _] _ _); refine rw_min2 ?_))

section
variable {P : Program} {w : World} {K : PySem.W.Frag} {mg : Str → Option Value} {base : Heap}
theorem ok__law_spread (T : Hd fn fa xs K mg) : FnE P w K mg base 3 (He.fAd K d__law_spread.at_) ps__law_spread (spOf K sp__law_spread) := by
  refine T.ok _ ix__law_spread (N := N__law_spread) rfl sc__law_spread (fun ds S Φ ⟨_, _, _, _, _, _, e, _⟩ => by rw [e]; rfl) (fun _ _ _ _ _ _ us hl => ?_) fun cdv A outer s H E hr => ⟨_, dv__law_spread T (ok__law_draw T) hr, ?_⟩
  · match us, hl with
    | [a, b, c, d], _ => rfl
  rintro _ S Φ ⟨p, c, n, m, a, b, rfl, hn1, hn, hm, hab, hP, q⟩
  unfold t__law_spread
  walk_at "w*"
  refine w_mapM (xs := List.range (2 * n)) (f := fun k => .int (0 + (k : Nat))) (h := fun _ => .int 0) (go_name (by simp)) ?_
  walk_at "w*"
  refine ⟨2 * n, rfl, by omega, by omega, by unfold rng; rw [show (2 * (n : Int)).toNat = 2 * n by omega], by simp; omega, fun k hk => ?_, fun q1 hq1 => ?_⟩
  · walk_at "w*"
    exact ⟨rfl, rfl⟩
  obtain ⟨n1, n2⟩ := hP.ne hq1
  walk_at "w*"
  have e00 : ((List.range (2 * n)).map fun _ => D.int 0) = seqI (2 * n) fun _ => 0 := rfl
  rw [e00]
  refine ws_forE ?_
  walk_at "w*"
  refine ⟨2, rfl, by omega, by omega, fun _ => [some (.ref p), some (.int n), some (.int m), some (.lst [.int a, .int b]), some (.ref q1), none, none, none],
    fun i S' => ∃ Sb f, Dr p c S Sb ∧ S' = stU Sb q1 (.lst (seqI (2 * n) f)) ∧ (∀ j, 0 ≤ f j) ∧ tot (2 * n) f = (tots a b i : Nat), by walk_at "le",
    ⟨S, fun _ => 0, .rfl hP, rfl, fun _ => Int.le_refl _, tot_zero _⟩, fun i y S' hy e => ?_, fun S' e => ?_⟩
  · obtain ⟨Sb, f, hD, rfl, hpos, htot⟩ := e
    have hseg : ∃ co cnt : Nat, y = .int co ∧ co ≤ 1 ∧ cnt ≤ 30 ∧ (∀ (S : Store) (Φ' : D → Store → Prop), Φ' (.int cnt) S → R2W K (rIxU K) (.lst [.int a, .int b]) (.int co) S Φ') ∧ tots a b (i + 1) = tots a b i + cnt := by
      match i, hy with
      | 0, hy => cases hy; exact ⟨0, a, rfl, by omega, by omega, fun S Φ' k => rw_ix .l rfl k, (Nat.zero_add a).symm⟩
      | 1, hy => cases hy; exact ⟨1, b, rfl, by omega, by omega, fun S Φ' k => rw_ix .l rfl k, rfl⟩
      | i + 2, hy => simp [rng] at hy
    obtain ⟨co, cnt, rfl, hco, hcnt, hread, hnext⟩ := hseg
    have hcn : co * n ≤ n := by have := Nat.mul_le_mul_right n hco; rw [Nat.one_mul] at this; exact this
    dsimp only
    rw [hnext]
    walk_at "w*"
    refine ws_forE ?_
    walk_at "w*"
    refine hread _ _ ?_
    walk_at "w*"
    refine ⟨cnt, rfl, by omega, by omega, fun _ => [some (.ref p), some (.int n), some (.int m), some (.lst [.int a, .int b]), some (.ref q1), some (.int co), none, none],
      fun j S' => ∃ Sb f, Dr p c S Sb ∧ S' = stU Sb q1 (.lst (seqI (2 * n) f)) ∧ (∀ j, 0 ≤ f j) ∧ tot (2 * n) f = ((tots a b i + j : Nat) : Int), by walk_at "le",
      ⟨Sb, f, hD, rfl, hpos, htot⟩, fun j y S' hy e => ?_, fun S' e => ?_⟩
    · obtain ⟨Sb, f, hD, rfl, hpos, htot⟩ := e
      walk_at "w*"
      refine rw_mulI (.inl ⟨by omega, by omega⟩) ?_
      walk_at "w*"
      refine ⟨p, c, n, rfl, by omega, hD.pot.put n1 n2, fun r S2 hr' hD2 => ?_⟩
      obtain ⟨S3, hD3, rfl⟩ := hD2.pull n1 n2
      have hat : co * n + r < 2 * n := by omega
      have gat : (co : Int) * (n : Nat) + (r : Nat) = ((co * n + r : Nat) : Int) := by rw [Int.natCast_add, Int.natCast_mul]
      walk_at "w*"
      rw [gat]
      refine rw_ixr (.r stU_same) hat ?_
      walk_at "w*"
      refine rs_set stU_same (ix_nat (Int.natCast_nonneg _) (by rw [seqI_len]; omega)) ?_
      rw [stU_U, Int.toNat_natCast, seqI_set hat]
      refine ⟨by walk_at "le", S3, _, hD.trans hD3, rfl, fun j => ?_, ?_⟩
      · have h1 := hpos (co * n + r)
        have h2 := hpos j
        split <;> omega
      · rw [tot_inc hat, htot]
        omega
    · obtain ⟨Sb, f, hD, rfl, hpos, htot⟩ := e
      have e0 : (rng 0 (cnt : Int).toNat).length = cnt := by simp [rng]
      rw [e0] at htot
      exact ⟨by walk_at "le", Sb, f, hD, rfl, hpos, htot⟩
  · obtain ⟨Sb, f, hD, rfl, hpos, htot⟩ := e
    have htot' : tot (2 * n) f = ((a + b : Nat) : Int) := htot
    refine ws_ret ?_
    refine w_cb (wa_cons ?_)
    refine w_op (w_var (by rfl) ?_)
    refine w_lc (go_name (by simp)) ?_
    walk_at "w*"
    refine ⟨m, rfl, by omega, by omega, fun i acc S' => ∃ Sb g, Dr p c S Sb ∧ S' = stU Sb q1 (.lst (seqI (2 * n) f)) ∧ acc = seqI i g ∧ ∀ j, g j = 0 ∨ g j = 1, ⟨Sb, fun _ => 0, hD, rfl, rfl, fun _ => .inl rfl⟩, by simp [rng]; omega, fun i x acc S' hx _ e => ?_, fun acc S' e => ?_⟩
    · obtain ⟨Sb, g, hD, rfl, rfl, hg⟩ := e
      walk_at "w*"
      refine iteT ?_
      walk_at "w*"
      refine ⟨p, c, 2, rfl, by omega, hD.pot.put n1 n2, fun r S2 hr' hD2 => ?_⟩
      obtain ⟨S3, hD3, rfl⟩ := hD2.pull n1 n2
      refine ⟨S3, fun j => if j = i then (r : Int) else g j, hD.trans hD3, rfl, ?_, fun j => ?_⟩
      · rw [← seqI_snoc]
        refine app2 (seqI_congr fun j hj => (if_neg (by omega)).symm) ?_
        rw [if_pos rfl]
      · show (if j = i then (r : Int) else g j) = 0 ∨ (if j = i then (r : Int) else g j) = 1
        split
        · omega
        · exact hg j
    · obtain ⟨Sb, g, hD, rfl, rfl, hg⟩ := e
      have e0 : (rng 0 (m : Int).toNat).length = m := by simp [rng]
      rw [e0]
      refine rw_addL (.r stU_same) .l (by rw [seqI_len, seqI_len]; omega) ?_
      rw [seqI_append]
      refine wa_nil ?_
      refine rw_tuple .l ?_
      have h1 : Sb q1 = none := hD.none hP hq1
      refine ⟨_, Sub.new h1, q _ Sb (fun es hes => ⟨fun i hi => ?_, fun k hk => ?_, ?_⟩) hD⟩
      · rw [if_pos hi]; exact hpos i
      · rw [if_neg (by omega), Nat.add_sub_cancel_left]; exact hg k
      · rw [← tot_split, ← Nat.two_mul, tot_congr (g := f) fun i hi => if_pos hi, htot']
        omega
theorem stU2_pull {S : Store} {p q : Addr} {a b : Cell} (h : p ≠ q) (hq : S q = none) : stD (stU (stU S p a) q b) q = stU S p a := stD_U (by rw [stU_ne (Ne.symm h)]; exact hq)
theorem ok__law_net_rides (T : Hd fn fa xs K mg) : FnE P w K mg base 1 (He.fAd K d__law_net_rides.at_) ps__law_net_rides (spOf K sp__law_net_rides) := by
  refine T.ok _ ix__law_net_rides (N := N__law_net_rides) rfl sc__law_net_rides (fun ds S Φ ⟨_, _, _, _, _, e, _⟩ => by rw [e]; rfl) (fun _ _ _ _ _ _ us hl => ?_) fun cdv A outer s H E hr => ⟨_, dv__law_net_rides T hr, ?_⟩
  · match us, hl with
    | [a, b, c, d], _ => rfl
  rintro _ S Φ ⟨n, es, f, kf, rs, rfl, N, O, W, hz, hkf, q⟩
  have hn := N.hi
  have hf := N.few
  unfold t__law_net_rides
  walk_at "w*"
  refine w_lst ?_
  refine wa_cons ?_
  have e0 : ∀ b, es.map (fun _ => D.int 0) = seqI es.length fun k => crP n es f rs 0 (k, b) := fun b => by
    unfold seqI crP
    rw [List.map_const', List.map_const', List.length_range]
  refine w_mapM (xs := es) (f := pD) (h := fun _ => .int 0) (go_name (by simp)) ?_
  walk_at "w*"
  refine ⟨_, .l, rfl, by omega, fun k hk => ?_, fun p hp => ?_⟩
  · walk_at "w*"
    exact ⟨rfl, rfl⟩
  refine wa_cons ?_
  refine w_mapM (xs := es) (f := pD) (h := fun _ => .int 0) (go_name (by simp)) ?_
  walk_at "w*"
  refine ⟨_, .l, rfl, by omega, fun k hk => ?_, fun p2 hp2 => ?_⟩
  · walk_at "w*"
    exact ⟨rfl, rfl⟩
  have hpp : p ≠ p2 := fun e => by (rw [← e, stU_same] at hp2; cases hp2)
  have hS2 : S p2 = none := by rw [stU_ne (Ne.symm hpp)] at hp2; exact hp2
  rw [e0 false]
  walk_at "w*"
  refine ws_forE ?_
  walk_at "w*"
  rw [List.length_map]
  refine ⟨rs.length, rfl, by omega, by omega, fun i => [some (.lst (es.map pD)), some (.int n), some (.lst (kf.map (keyD n es.length))), some (.lst (rs.map rD)), some (.lst [.ref p, .ref p2]), none, none, none, none, none],
    fun i S' => S' = stU (stU S p (.lst (seqI es.length fun k => crP n es f rs i (k, false)))) p2 (.lst (seqI es.length fun k => crP n es f rs i (k, true))), by walk_at "le", rfl, fun i y S' hy e => ?_, fun S' e => ?_⟩
  · subst e
    obtain ⟨k, hk, rfl⟩ := map_get hy
    have hk' := (List.getElem?_eq_some_iff.mp hk).1
    rw [List.length_range] at hk'
    rw [List.getElem?_range hk'] at hk
    cases hk
    have hi : i < rs.length := by omega
    obtain ⟨⟨k, b⟩, hr'⟩ : ∃ r, rs[i]? = some r := ⟨rs[i], List.getElem?_eq_getElem hi⟩
    have ci := W i _ hr'
    have Oi := O.run N W i (by omega)
    have hk2 : k < es.length := ci.1
    rw [Int.zero_add]
    have g1 : ∀ (S : Store) (Φ' : D → Store → Prop), Φ' (rD (k, b)) S → R2W K (rIxU K) (.lst (rs.map rD)) (.int i) S Φ' := fun S Φ' z => by
      refine rw_ixn (xs := rs) (f := rD) (0, false) .l hi ?_
      rw [List.getD_eq_getElem?_getD, hr']
      exact z
    have hkl : i < kf.length := (List.getElem?_eq_some_iff.mp (hkf i hi)).1
    walk_at "w*"
    refine g1 _ _ ?_
    walk_at "w*"
    refine rw_ix (d := .int k) .t rfl ?_
    walk_at "w*"
    refine rw_ixn (xs := kf) (f := keyD n es.length) (fun _ => 0) .l hkl ?_
    rw [List.getD_eq_getElem?_getD, hkf i hi, Option.getD_some]
    walk_at "w*"
    refine rw_ixi (k := 2 * n + k) .t (by omega) (by omega) ?_
    walk_at "w*"
    refine g1 _ _ ?_
    walk_at "w*"
    refine rw_ix (d := .int (bI b)) .t rfl ?_
    have hst : ∀ x, crP n es f rs (i + 1) x = crP n es f rs i x + if x = (k, b) then stp n (run n es f (rs.take i)) (k, b) else 0 := fun x => by
      show crP n es f rs i x + (if rs[i]? = some x then stp n (run n es f (rs.take i)) x else 0) = _
      rw [hr']
      by_cases hx : x = (k, b)
      · subst hx; rw [if_pos rfl, if_pos rfl]
      · rw [if_neg hx, if_neg (fun h => hx (Option.some.inj h).symm)]
    have hway : (1 - 2 * run n es f (rs.take i) (2 * n + k)) * (1 - 2 * bI b) = stp n (run n es f (rs.take i)) (k, b) := by
      unfold stp
      dsimp only
      rcases Oi.cars k hk2 with z | z <;> rw [z] <;> cases b <;> first | rfl | simp
    have hway1 : -1 ≤ 1 - 2 * run n es f (rs.take i) (2 * n + k) ∧ 1 - 2 * run n es f (rs.take i) (2 * n + k) ≤ 1 := by
      rcases Oi.cars k hk2 with z | z <;> omega
    cases b with
    | false =>
      refine rw_ix (d := .ref p) .l rfl ?_
      walk_at "w*"
      refine rw_ixr (.r (by rw [stU_comm hpp]; exact stU_same)) hk2 ?_
      walk_at "w*"
      refine g1 _ _ ?_
      walk_at "w*"
      refine rw_ix (d := .int (bI false)) .t rfl ?_
      walk_at "w*"
      rw [hway]
      refine rs_set (by rw [stU_comm hpp]; exact stU_same) (ix_nat (Int.natCast_nonneg _) (by rw [seqI_len]; omega)) ?_
      refine ⟨by walk_at "le", ((stU2_l hpp)).trans ?_⟩
      rw [Int.toNat_natCast, seqI_set hk2]
      refine stU2_congr (seqI_congr fun j hj => ?_) (seqI_congr fun j hj => ?_)
      · rw [hst]
        by_cases hj' : j = k
        · subst hj'; rw [if_pos rfl, if_pos rfl]
        · rw [if_neg hj', if_neg (fun e => hj' (congrArg Prod.fst e)), Int.add_zero]
      · rw [hst, if_neg (fun e => by cases e), Int.add_zero]
    | true =>
      refine rw_ix (d := .ref p2) .l rfl ?_
      walk_at "w*"
      refine rw_ixr (.r stU_same) hk2 ?_
      walk_at "w*"
      refine g1 _ _ ?_
      walk_at "w*"
      refine rw_ix (d := .int (bI true)) .t rfl ?_
      walk_at "w*"
      rw [hway]
      refine rs_set stU_same (ix_nat (Int.natCast_nonneg _) (by rw [seqI_len]; omega)) ?_
      refine ⟨by walk_at "le", (stU_U).trans ?_⟩
      rw [Int.toNat_natCast, seqI_set hk2]
      refine stU2_congr (seqI_congr fun j hj => ?_) (seqI_congr fun j hj => ?_)
      · rw [hst, if_neg (fun e => by cases e), Int.add_zero]
      · rw [hst]
        by_cases hj' : j = k
        · subst hj'; rw [if_pos rfl, if_pos rfl]
        · rw [if_neg hj', if_neg (fun e => hj' (congrArg Prod.fst e)), Int.add_zero]
  · subst e
    have e0 : (rng 0 (rs.length : Int).toNat).length = rs.length := by simp [rng]
    rw [e0]
    refine ws_fzE stU_same (Γ' := [none, none, none, none, some (.lst [.ref p, .lst _]), none, none, none, none, none]) (by repeat first | exact FzE.nil | refine FzE.non ?_ | refine FzE.put (FzD.pair (.same _) .here) ?_) ?_
    rw [stU2_pull hpp hS2]
    refine ws_fzE stU_same (Γ' := [none, none, none, none, some (.lst [.lst _, .lst _]), none, none, none, none, none]) (by repeat first | exact FzE.nil | refine FzE.non ?_ | refine FzE.put (FzD.pair .here (.same _)) ?_) ?_
    rw [stD_U hp]
    walk_at "w*"
    exact q
end
end Tw


set_option Elab.async false
set_option linter.all false
set_option maxRecDepth 100000
set_option maxHeartbeats 4000000
namespace Tw
open PySem PySem.Spec PyProof.Rows L2
theorem path_last {n : Nat} {es : List (Nat × Nat)} {f : Conf} {rs : List Ride} : path n es f rs = ((List.range rs.length).map fun j => run n es f (rs.take j)) ++ [run n es f rs] := by
  unfold path
  rw [List.range_succ, List.map_append, List.map_singleton, List.take_length]
theorem run_snoc {n : Nat} {es : List (Nat × Nat)} {f : Conf} {rs : List Ride} {r : Ride} : run n es f (rs ++ [r]) = ride n es (run n es f rs) r := by
  unfold run
  rw [List.foldl_append]; rfl
theorem path_snoc {n : Nat} {es : List (Nat × Nat)} {f : Conf} {rs : List Ride} {r : Ride} : path n es f (rs ++ [r]) = path n es f rs ++ [ride n es (run n es f rs) r] := by
  rw [path_last, run_snoc]
  refine congrArg (· ++ _) ?_
  unfold path
  rw [List.length_append, List.length_singleton]
  refine List.map_congr_left fun j hj => ?_
  rw [List.take_append_of_le_length (by have := List.mem_range.mp hj; omega)]
theorem walkOk_snoc {n : Nat} {es : List (Nat × Nat)} {f : Conf} {rs : List Ride} {r : Ride} (W : walkOk n es f rs) (h : can n es (run n es f rs) r) : walkOk n es f (rs ++ [r]) := by
  intro i x hx
  by_cases hi : i < rs.length
  · rw [List.getElem?_append_left hi] at hx
    rw [List.take_append_of_le_length (by omega)]
    exact W i x hx
  · rw [List.getElem?_append_right (by omega)] at hx
    have e : i = rs.length := by
      cases z : i - rs.length with
      | zero => omega
      | succ k => rw [z] at hx; simp at hx
    subst e
    rw [Nat.sub_self] at hx
    cases hx
    rw [List.take_left]
    exact h
theorem walkOk_init {n : Nat} {es : List (Nat × Nat)} {f : Conf} {rs : List Ride} {r : Ride} (W : walkOk n es f (rs ++ [r])) : walkOk n es f rs ∧ can n es (run n es f rs) r := by
  constructor
  · intro i x hx
    have hi := (List.getElem?_eq_some_iff.mp hx).1
    have := W i x (by rw [List.getElem?_append_left hi]; exact hx)
    rw [List.take_append_of_le_length (by omega)] at this
    exact this
  · have := W rs.length r (by rw [List.getElem?_append_right (Nat.le_refl _), Nat.sub_self]; rfl)
    rw [List.take_left] at this
    exact this
theorem Ok.runs {n : Nat} {es : List (Nat × Nat)} {f : Conf} {rs : List Ride} (N : NetOk n es) (O : Ok n es f) (W : walkOk n es f rs) : Ok n es (Tw.run n es f rs) := by
  have := O.run N W rs.length (Nat.le_refl _)
  rw [List.take_length] at this
  exact this
local macro_rules | `(tactic| walk_at "w") => `(tactic| first
  | ((with_reducible show WE _ (tVar _) _ _ _); refine w_var (by rfl) ?_)
  | ((with_reducible show WE _ (tC (.int _)) _ _ _); refine w_cI ?_)
  | ((with_reducible show WE _ (tC (.str _)) _ _ _); refine w_cS ?_)
  | ((with_reducible show WE _ (tC (.bl _)) _ _ _); refine w_cB ?_)
  | ((with_reducible show WE _ (tC .non) _ _ _); refine w_cN ?_)
  | ((with_reducible show WE _ (tC (.ty _)) _ _ _); refine w_cT ?_)
  | ((with_reducible show WE _ (tC (.ref _)) _ _ _); refine w_cR ?_)
  | ((with_reducible show WE _ (tOp _ _ _) _ _ _); refine w_op ?_)
  | ((with_reducible show WE _ (tUn _ _) _ _ _); refine w_un ?_)
  | ((with_reducible show WE _ (tChain _ _ _ _ _) _ _ _); refine w_chain ?_)
  | ((with_reducible show WE _ (tFld _ _ _) _ _ _); refine w_fld ?_)
  | ((with_reducible show WE _ (tIf _ _ _) _ _ _); refine w_ifE ?_)
  | ((with_reducible show WE _ (tTup _) _ _ _); refine w_tup ?_)
  | ((with_reducible show WE _ (tCB _ _) _ _ _); refine w_cb ?_)
  | ((with_reducible show WE _ (tCall _ _ _ _) _ _ _); refine w_call ?_)
  | ((with_reducible show WE _ (tMake _ _ _ _ _) _ _ _); refine w_make ?_)
  | ((with_reducible show WE _ (tMeth _ _ _ _ _ _ _) _ _ _); refine w_meth ?_)
  | ((with_reducible show WE _ (tSl _ _ _ _) _ _ _); refine w_sl ?_)
  | ((with_reducible show WE _ (tBM _ _ rAppend _ _) _ _ _); refine w_append (p := 0) (ds := []) ?_)
  | ((with_reducible show WE _ (tBM _ _ rExtend _ _) _ _ _); refine w_extend ?_)
  | ((with_reducible show WE _ (tBM _ _ rInsL _ _) _ _ _); refine w_insert ?_)
  | ((with_reducible show WE _ (tBM0 _ _ rPop _) _ _ _); refine w_pop ?_)
  | ((with_reducible show WE _ (tBM _ _ rPopAt _ _) _ _ _); refine w_popAt ?_)
  | ((with_reducible show WE _ (tBM _ _ (rCntD _) _ _) _ _ _); refine w_bmL ?_)
  | ((with_reducible show WE _ (tAndV _ _) _ _ _); refine w_andV ?_)
  | ((with_reducible show WE _ (tOrV _ _) _ _ _); refine w_orV ?_)
  | ((with_reducible show WE _ (tNotV _) _ _ _); refine w_notV ?_)
  | ((with_reducible show WA _ tNil _ _ _); refine wa_nil ?_)
  | ((with_reducible show WA _ (tCons _ _) _ _ _); refine wa_cons ?_)
  | ((with_reducible show WO _ tNoPart _ _ _); refine wo_none ?_)
  | ((with_reducible show WO _ (tPart _) _ _ _); refine wo_some ?_)
  | ((with_reducible show WT _ (tTest _) _ _ _); refine w_test ?_)
  | ((with_reducible show WT _ (tB _) _ _ _); refine w_tB ?_)
  | ((with_reducible show WT _ (tTru _ _) _ _ _); refine w_tru ?_)
  | ((with_reducible show WT _ (tTruO _ _) _ _ _); refine w_truO ?_)
  | ((with_reducible show WT _ (tAnd _ _) _ _ _); refine w_and ?_)
  | ((with_reducible show WT _ (tOr _ _) _ _ _); refine w_or ?_)
  | ((with_reducible show WT _ (tNot _) _ _ _); refine w_not ?_)
  | ((with_reducible show WT _ tYes _ _ _); refine wt_yes ?_)
  | ((with_reducible show WS _ (tSeq _ _) _ _ _); refine ws_seq ?_)
  | ((with_reducible show WS _ (tAsg _ (gName _)) _ _ _); refine ws_set ?_)
  | ((with_reducible show WS _ (tAsg _ _) _ _ _); refine ws_asg ?_)
  | ((with_reducible show WS _ (sFld _ _ _ _) _ _ _); refine ws_fld ?_)
  | ((with_reducible show WS _ (tDrop _) _ _ _); refine ws_drop ?_)
  | ((with_reducible show WS _ (tRet _) _ _ _); refine ws_ret ?_)
  | ((with_reducible show WS _ tRetN _ _ _); refine ws_retN ?_)
  | ((with_reducible show WS _ tNext _ _ _); refine ws_next ?_)
  | ((with_reducible show WS _ tBreak _ _ _); refine ws_break ?_)
  | ((with_reducible show WS _ tCont _ _ _); refine ws_cont ?_)
  | ((with_reducible show WS _ (tIfS _ _ _) _ _ _); refine ws_if ?_)
  | ((with_reducible show WS _ (tAug _ _ _) _ _ _); refine ws_aug (by rfl) ?_)
  | ((with_reducible show WS _ (tAugS _ _ _ _ _ _) _ _ _); refine ws_augS ?_)
  | ((with_reducible show WG _ (gName _) _ _ _ _); refine wg_name ?_)
  | ((with_reducible show WG _ (gTup _ _ _) (.tup _) _ _ _); refine wg_tup (by rfl) ?_)
  | ((with_reducible show WG _ (gSub _ _ _) _ _ _ _); refine wg_sub ?_)
  | ((with_reducible show WGs _ gNil [] _ _ _); refine wgs_nil ?_)
  | ((with_reducible show WGs _ (gCons _ _) (_ :: _) _ _ _); refine wgs_cons ?_)
  | ((with_reducible show WI _ (iRng1 _) _ _ _); refine wi_rng1 ?_)
  | ((with_reducible show WI _ (iRng2 _) _ _ _); refine wi_rng2 ?_)
  | ((with_reducible show WI _ (iSeqU _ _) _ _ _); refine wi_seq ?_)
  | ((with_reducible show WI _ (iEnumU _ _) _ _ _); refine wi_enum ?_)
  | ((with_reducible show WI _ (RZ.iZipA _ _) _ _ _); refine wi_zip ?_))
local macro_rules | `(tactic| walk_at "w") => `(tactic| first
  | ((with_reducible show ∃ C ns ds d, InsOf _ _ C ns ds ∧ _); refine ⟨_, _, _, _, .o, by walk_at "cls", by walk_at "noat", by rfl, ?_⟩)
  | ((with_reducible show R2W _ (rAddU _) (.int _) (.int _) _ _); refine rw_addI ?_)
  | ((with_reducible show R2W _ rSubI (.int _) (.int _) _ _); refine rw_subI ?_)
  | ((with_reducible show R2W _ rLtI (.int _) (.int _) _ _); refine rw_ltI ?_)
  | ((with_reducible show R2W _ rLeI (.int _) (.int _) _ _); refine rw_leI ?_)
  | ((with_reducible show R2W _ rGtI (.int _) (.int _) _ _); refine rw_gtI ?_)
  | ((with_reducible show R2W _ rGeI (.int _) (.int _) _ _); refine rw_geI ?_)
  | ((with_reducible show R2W _ (rEqU _) (.int _) (.int _) _ _); refine rw_eqUI ?_)
  | ((with_reducible show R2W _ (rEqU _) (.str _) (.str _) _ _); refine rw_eqUS ?_)
  | ((with_reducible show R2W _ (rNeU _) (.int _) (.int _) _ _); refine rw_neUI ?_)
  | ((with_reducible show R2W _ (rNeU _) (.str _) (.str _) _ _); refine rw_neUS ?_)
  | ((with_reducible show R1W _ rNegI (.int _) _ _); refine rw_negI ?_)
  | ((with_reducible show RLW _ (rLenQ _) [_] _ _); refine rw_len (by first | exact .t | exact .l | exact .r (by assumption)) ?_)
  | ((with_reducible show RLW _ rIntQ [.int _] _ _); refine rw_int ?_)
  | ((with_reducible show RLW _ rAbsQ [.int _] _ _); refine rw_abs ?_)
  | ((with_reducible show ∃ k, .bl _ = D.bl k ∧ _); refine ⟨_, rfl, ?_⟩)
  | ((with_reducible show ∃ k, .int _ = D.int k ∧ _); refine ⟨_, rfl, ?_⟩)
  | ((with_reducible show ∃ k, TruD _ (.bl _) k ∧ _); refine ⟨_, .bl, ?_⟩)
  | ((with_reducible show ∃ k, TruD _ (.int _) k ∧ _); refine ⟨_, .int, ?_⟩)
  | ((with_reducible show List.length _ ≤ 1000000 ∧ _); refine ⟨Nat.le_of_ble_eq_true rfl, ?_⟩)
  | ((with_reducible show ∃ S2, Sub S2 _ ∧ _); refine ⟨_, Sub.refl _, ?_⟩))
local macro_rules | `(tactic| walk_at "w*") => `(tactic| repeat walk_at "w")
local macro_rules | `(tactic| walk_at "le") => `(tactic| repeat first | exact Le.nil | exact Le.rfl | refine Le.som ?_ | refine Le.non ?_)
local macro_rules | `(tactic| walk_at "fz") => `(tactic| repeat first | exact Fz.nil | refine Fz.som ?_ | refine Fz.frz ?_ | refine Fz.non ?_)
local macro_rules | `(tactic| walk_at "cls") => `(tactic| first | exact cl_Net (by assumption) | exact cl_Standing (by assumption) | exact cl_Bill (by assumption) | exact cl_Trip (by assumption))
local macro_rules | `(tactic| walk_at "noat") => `(tactic| first | exact na_Net_stations (by assumption) | exact na_Net_ropes (by assumption) | exact na_Standing_net (by assumption) | exact na_Standing_reds (by assumption) | exact na_Standing_blues (by assumption) | exact na_Standing_cars (by assumption) | exact na_Bill_net (by assumption) | exact na_Bill_reds (by assumption) | exact na_Bill_blues (by assumption) | exact na_Trip_rides (by assumption))

local macro_rules | `(tactic| walk_at "w") => `(tactic| first
  | ((with_reducible show WI _ (iRng3 _) _ _ _); refine wi_rng3 ?_)
  | ((with_reducible show R2W _ (rIxU _) (.ref _) (.int 0) (potU _ _ _ _ _ _ _ _) _); refine rw_p0 ?_)
  | ((with_reducible show R2W _ (rIxU _) (.ref _) (.int 1) (potU _ _ _ _ _ _ _ _) _); refine rw_p1 ?_)
  | ((with_reducible show R2W _ (rIxU _) (.ref _) (.int 2) (potU _ _ _ _ _ _ _ _) _); refine rw_p2 ?_)
  | ((with_reducible show R2W _ (rIxU _) (.ref _) (.int 3) (potU _ _ _ _ _ _ _ _) _); refine rw_p3 ?_)
  | ((with_reducible show R2W _ (rIxU _) (.ref _) (.int 4) (potU _ _ _ _ _ _ _ _) _); refine rw_p4 ?_)
  | ((with_reducible show RSW _ rSetL (.ref _) (.int 1) (.int _) (potU _ _ _ _ _ _ _ _) _); refine rs_p1 ?_)
  | ((with_reducible show RSW _ rSetL (.ref _) (.int 2) (.int _) (potU _ _ _ _ _ _ _ _) _); refine rs_p2 ?_)
  | ((with_reducible show RSW _ rSetL (.ref _) (.int 3) (.int _) (potU _ _ _ _ _ _ _ _) _); refine rs_p3 ?_)
  | ((with_reducible show RSW _ rSetL (.ref _) (.int 4) (.int _) (potU _ _ _ _ _ _ _ _) _); refine rs_p4 ?_)
  | ((with_reducible show R2W _ rMulU (.int _) (.int _) _ _); refine rw_mulI (.inr ⟨by decide, by decide⟩) ?_)
  | ((with_reducible show R2W _ rMulU (.int _) (.int _) _ _); refine rw_mulI (.inl ⟨by decide, by decide⟩) ?_)
  | ((with_reducible show R2W _ rModI (.int _) (.int _) _ _); refine rw_modI (by decide) ?_)
  | ((with_reducible show R2W _ rDivI (.int _) (.int _) _ _); refine rw_divI (by decide) (by decide) ?_)
  | ((with_reducible show RLW _ rMax2Q [.int _, .int _] _ _); refine rw_max2 ?_)
  | ((with_reducible show RLW _ rMin2Q [.int _, .int _] _ _); refine rw_min2 ?_))

section
variable {P : Program} {w : World} {K : PySem.W.Frag} {mg : Str → Option Value} {base : Heap}
theorem ok__law_again (T : Hd fn fa xs K mg) : FnE P w K mg base 3 (He.fAd K d__law_again.at_) ps__law_again (spOf K sp__law_again) := by
  refine T.ok _ ix__law_again (N := N__law_again) rfl sc__law_again (fun ds S Φ ⟨_, _, _, _, _, _, e, _⟩ => by rw [e]; rfl) (fun _ _ _ _ _ _ us hl => ?_) fun cdv A outer s H E hr => ⟨_, dv__law_again T (ok__law_open T) (ok__law_draw T) (ok__law_ridden T) hr, ?_⟩
  · match us, hl with
    | [a, b, c, d, e], _ => rfl
  rintro _ S Φ ⟨p, c, n, es, f, m, rfl, N, O, hm, hP, q⟩
  have hn := N.hi
  have hf := N.few
  unfold t__law_again
  walk_at "w*"
  refine w_lstM ?_
  walk_at "w*"
  refine fun q1 hq1 => ?_
  walk_at "w*"
  refine w_lstM ?_
  walk_at "w*"
  refine fun q2 hq2 => ?_
  have hqq : q1 ≠ q2 := fun e => by (rw [e, stU_same] at hq2; cases hq2)
  have hS2 : S q2 = none := by rw [stU_ne (Ne.symm hqq)] at hq2; exact hq2
  obtain ⟨n1, n2⟩ := hP.ne hq1
  obtain ⟨n3, n4⟩ := hP.ne hS2
  refine ws_mid (fun S2 Γ2 => Le [some (.ref p), some (.int n), some (.lst (es.map pD)), some (keyD n es.length f), some (.int m), some (.ref q1), some (.ref q2), none, none, none] Γ2 ∧ ∃ Sb rs, Dr p c S Sb ∧ S2 = stU (stU Sb q1 (.lst (rs.map rD))) q2 (.lst ((path n es f rs).map (keyD n es.length))) ∧ walkOk n es f rs ∧ rs.length ≤ m) ?_ ?_
  · refine ws_forE ?_
    walk_at "w*"
    refine ⟨m, rfl, by omega, by omega, fun i => [some (.ref p), some (.int n), some (.lst (es.map pD)), some (keyD n es.length f), some (.int m), some (.ref q1), some (.ref q2), none, none, none],
      fun i S2 => ∃ Sb rs, Dr p c S Sb ∧ S2 = stU (stU Sb q1 (.lst (rs.map rD))) q2 (.lst ((path n es f rs).map (keyD n es.length))) ∧ walkOk n es f rs ∧ rs.length ≤ i, by walk_at "le",
      ⟨S, [], .rfl hP, rfl, fun i r h => by simp at h, Nat.le_refl _⟩, fun i y S' hy e => ?_, fun S' e => ?_⟩
    · obtain ⟨Sb, rs, hD, rfl, W, hl⟩ := e
      have hi : i < m := by
        have := (List.getElem?_eq_some_iff.mp hy).1
        simpa [rng] using this
      have hlast : ∀ (Φ' : D → Store → Prop), Φ' (keyD n es.length (run n es f rs)) (stU (stU Sb q1 (.lst (rs.map rD))) q2 (.lst ((path n es f rs).map (keyD n es.length)))) → R2W K (rIxU K) (.ref q2) (.int (-1)) (stU (stU Sb q1 (.lst (rs.map rD))) q2 (.lst ((path n es f rs).map (keyD n es.length)))) Φ' := fun Φ' k => by
        refine rw_ix (.r stU_same) ?_ k
        rw [path_last, List.map_append]
        exact at_last
      have Or := O.runs N W
      walk_at "w*"
      refine hlast _ ?_
      walk_at "w*"
      refine ⟨n, es, _, rfl, N, Or, fun l hl' hll => ?_⟩
      walk_at "w*"
      refine ⟨_, .seq .l, ?_⟩
      rw [List.isEmpty_map, Bool.not_not]
      refine ifB (fun _ => ?_) (fun hne => ?_)
      · walk_at "w*"
        exact ⟨by walk_at "le", Sb, rs, hD, rfl, W, by omega⟩
      refine ws_next ?_
      refine ws_mid (fun S2 Γ2 => ∃ Sb2 r, Dr p c Sb Sb2 ∧ S2 = stU (stU Sb2 q1 (.lst (rs.map rD))) q2 (.lst ((path n es f rs).map (keyD n es.length))) ∧ r ∈ l ∧ Le [some (.ref p), some (.int n), some (.lst (es.map pD)), some (keyD n es.length f), some (.int m), some (.ref q1), some (.ref q2), none, none, some (rD r)] Γ2) ?_ ?_
      · walk_at "w*"
        rw [List.length_map]
        refine ⟨p, c, l.length, rfl, by omega, (hD.pot.put n1 n2).put n3 n4, fun r S2 hr' hD2 => ?_⟩
        obtain ⟨S3, hD3, rfl⟩ := hD2.pull n3 n4
        obtain ⟨S4, hD4, rfl⟩ := hD3.pull n1 n2
        have hlp : 0 < l.length := by
          cases l with
          | nil => simp at hne
          | cons _ _ => simp
        have hrl : r < l.length := by omega
        refine rw_ixn (xs := l) (f := rD) (0, false) .l hrl ?_
        rw [List.getD_eq_getElem?_getD, List.getElem?_eq_getElem hrl, Option.getD_some]
        exact ⟨S4, l[r], hD4, rfl, List.getElem_mem _, by walk_at "le"⟩
      rintro S2 Γ2 ⟨Sb2, r, hD2, rfl, hrl, hle⟩
      refine ws_pre hle ?_
      have hcr := (hl' r).mp hrl
      refine ws_mid (fun S2 Γ2 => ∃ Sb3 r, Dr p c Sb Sb3 ∧ S2 = stU (stU Sb3 q1 (.lst (rs.map rD))) q2 (.lst ((path n es f rs).map (keyD n es.length))) ∧ can n es (run n es f rs) r ∧ Γ2 = [some (.ref p), some (.int n), some (.lst (es.map pD)), some (keyD n es.length f), some (.int m), some (.ref q1), some (.ref q2), none, none, some (rD r)]) ?_ ?_
      · walk_at "w*"
        refine ⟨_, .seq (.r ((stU_ne hqq).trans stU_same)), ?_⟩
        rw [List.isEmpty_map]
        refine ifB (fun hne2 => ?_) (fun _ => ?_)
        · walk_at "w*"
          refine ⟨p, c, 3, rfl, by omega, (hD2.pot.put n1 n2).put n3 n4, fun r2 S3 _ hD3 => ?_⟩
          obtain ⟨S4, hD4, rfl⟩ := hD3.pull n3 n4
          obtain ⟨S5, hD5, rfl⟩ := hD4.pull n1 n2
          walk_at "w*"
          refine ifD (fun _ => ?_) (fun _ => ?_)
          · walk_at "w*"
            rcases List.eq_nil_or_concat rs with rfl | ⟨rs0, r0, rfl⟩
            · simp at hne2
            rw [List.concat_eq_append] at *
            obtain ⟨W0, c0⟩ := walkOk_init W
            refine rw_ix (d := rD r0) (.r ((stU_ne hqq).trans stU_same)) (by rw [List.map_append]; exact at_last) ?_
            refine ⟨S5, r0, hD2.trans hD5, rfl, ?_, rfl⟩
            rw [run_snoc]
            exact can_ride N (O.runs N W0) c0
          · walk_at "w*"
            exact ⟨S5, r, hD2.trans hD5, rfl, hcr, rfl⟩
        · refine iteF ?_
          walk_at "w*"
          exact ⟨Sb2, r, hD2, rfl, hcr, rfl⟩
      rintro _ _ ⟨Sb3, r2, hD3, rfl, hc3, rfl⟩
      walk_at "w*"
      refine ⟨_, _, rfl, (stU_ne hqq).trans stU_same, ?_⟩
      walk_at "w*"
      refine ⟨_, (stU_ne hqq).trans stU_same, by rw [List.length_map]; omega, ?_⟩
      rw [stU2_l hqq]
      walk_at "w*"
      refine ⟨_, _, rfl, stU_same, ?_⟩
      walk_at "w*"
      refine rw_ix (d := keyD n es.length (run n es f rs)) (.r stU_same) (by rw [path_last, List.map_append]; exact at_last) ?_
      walk_at "w*"
      refine ⟨n, es, _, r2, rfl, N, Or, hc3, ?_⟩
      refine ⟨_, stU_same, by rw [List.length_map]; simp [path]; omega, ?_⟩
      rw [stU_U]
      refine ⟨by walk_at "le", Sb3, rs ++ [r2], hD.trans hD3, ?_, walkOk_snoc W hc3, by simp; omega⟩
      rw [path_snoc, List.map_append, List.map_append]
      rfl
    · obtain ⟨Sb, rs, hD, rfl, W, hl⟩ := e
      have e0 : (rng 0 (m : Int).toNat).length = m := by simp [rng]
      rw [e0] at hl
      exact ⟨by walk_at "le", Sb, rs, hD, rfl, W, hl⟩
  rintro S2 Γ2 ⟨hle, Sb, rs, hD, rfl, W, hl⟩
  refine ws_pre hle ?_
  have h1 : Sb q1 = none := hD.none hP hq1
  have h2 : Sb q2 = none := hD.none hP hS2
  refine ws_fz stU_same (Γ' := [none, none, none, none, none, some (.ref q1), some (.lst _), none, none, none]) (by walk_at "fz") ?_
  rw [stU2_pull hqq h2]
  refine ws_fz stU_same (Γ' := [none, none, none, none, none, some (.lst _), some (.lst _), none, none, none]) (by walk_at "fz") ?_
  rw [stD_U h1]
  walk_at "w*"
  refine w_lst ?_
  walk_at "w*"
  exact q rs Sb W hl hD
end
end Tw


set_option Elab.async false
set_option linter.all false
set_option maxRecDepth 100000
set_option maxHeartbeats 4000000
/-! Law k76: reductions, ways back, parts, costs, leads in plain Lean. -/
namespace Tw
open PySem L2
theorem snocInd {α : Type} {P : List α → Prop} (h0 : P []) (hs : ∀ l a, P l → P (l ++ [a])) (l : List α) : P l := by
  have H : ∀ l : List α, P l.reverse := by
    intro l
    induction l with
    | nil => exact h0
    | cons a l ih => rw [List.reverse_cons]; exact hs _ _ ih
  have := H l.reverse
  rw [List.reverse_reverse] at this
  exact this
section
variable {n : Nat} {es : List (Nat × Nat)} {f : Conf} {rs : List Ride} {r x : Ride}
theorem crP_congr {rs qs : List Ride} : ∀ i, (∀ j, j < i → rs[j]? = qs[j]? ∧ rs.take j = qs.take j) → ∀ x, crP n es f rs i x = crP n es f qs i x
  | 0, _, _ => rfl
  | i + 1, h, x => by
    unfold crP
    rw [crP_congr i (fun j hj => h j (by omega)) x, (h i (by omega)).1, (h i (by omega)).2]
theorem cr_snoc : cr n es f (rs ++ [r]) x = cr n es f rs x + if x = r then stp n (run n es f rs) r else 0 := by
  unfold cr
  rw [List.length_append, List.length_singleton]
  show crP n es f (rs ++ [r]) rs.length x + (if (rs ++ [r])[rs.length]? = some x then stp n (run n es f ((rs ++ [r]).take rs.length)) x else 0) = _
  rw [crP_congr (rs := rs ++ [r]) (qs := rs) rs.length (fun j hj => ⟨List.getElem?_append_left hj, List.take_append_of_le_length (by omega)⟩) x]
  rw [List.getElem?_append_right (Nat.le_refl _), Nat.sub_self, List.take_left]
  by_cases h : x = r
  · subst h
    rw [if_pos rfl]
    exact congrArg (crP n es f rs rs.length x + ·) (if_pos rfl)
  · rw [if_neg h, if_neg]
    intro e
    exact h (Option.some.inj e).symm
theorem cr_nil : cr n es f [] x = 0 := rfl
theorem run_nil : run n es f [] = f := rfl
theorem run_cons : run n es f (r :: rs) = run n es (ride n es f r) rs := rfl
theorem run_append {qs : List Ride} : run n es f (rs ++ qs) = run n es (run n es f rs) qs := by
  unfold run
  rw [List.foldl_append]
theorem cr_append {qs : List Ride} : ∀ x, cr n es f (rs ++ qs) x = cr n es f rs x + cr n es (run n es f rs) qs x := by
  refine snocInd (P := fun qs => ∀ x, cr n es f (rs ++ qs) x = cr n es f rs x + cr n es (run n es f rs) qs x) (fun x => ?_) (fun qs a ih x => ?_) qs
  · rw [List.append_nil, cr_nil, Int.add_zero]
  · rw [← List.append_assoc, cr_snoc, ih, cr_snoc, run_append]
    omega
theorem cr_one : cr n es f [r] x = if x = r then stp n f r else 0 := by
  have := cr_snoc (n := n) (es := es) (f := f) (rs := []) (r := r) (x := x)
  rw [List.nil_append, cr_nil, run_nil, Int.zero_add] at this
  exact this
theorem walkOk_append {qs : List Ride} : walkOk n es f (rs ++ qs) ↔ walkOk n es f rs ∧ walkOk n es (run n es f rs) qs := by
  refine snocInd (P := fun qs => walkOk n es f (rs ++ qs) ↔ walkOk n es f rs ∧ walkOk n es (run n es f rs) qs) ?_ (fun qs a ih => ?_) qs
  · rw [List.append_nil]
    exact ⟨fun h => ⟨h, fun i r e => by simp at e⟩, fun h => h.1⟩
  · rw [← List.append_assoc]
    constructor
    · intro h
      obtain ⟨h1, h2⟩ := walkOk_init h
      rw [run_append] at h2
      exact ⟨(ih.mp h1).1, walkOk_snoc (ih.mp h1).2 h2⟩
    · rintro ⟨h1, h2⟩
      obtain ⟨h3, h4⟩ := walkOk_init h2
      refine walkOk_snoc (ih.mpr ⟨h1, h3⟩) ?_
      rw [run_append]; exact h4
theorem walkOk_nil : walkOk n es f [] := fun i r e => by simp at e
theorem walkOk_one : walkOk n es f [r] ↔ can n es f r := by
  constructor
  · intro h
    exact (walkOk_init (rs := []) h).2
  · intro h
    exact walkOk_snoc (rs := []) walkOk_nil h
theorem stp_ride (O : Ok n es f) (h : r.1 < es.length) : stp n (ride n es f r) r = - stp n f r := by
  unfold stp
  rw [car_ride]
  rcases O.cars _ h with z | z <;> rw [z] <;> cases r.2 <;> simp
/-- rides gone two by two -/
theorem red_ok (N : NetOk n es) (O : Ok n es f) : walkOk n es f rs → walkOk n es f (red rs) ∧ run n es f (red rs) = run n es f rs ∧ ∀ x, cr n es f (red rs) x = cr n es f rs x := by
  refine snocInd (P := fun rs => walkOk n es f rs → walkOk n es f (red rs) ∧ run n es f (red rs) = run n es f rs ∧ ∀ x, cr n es f (red rs) x = cr n es f rs x) (fun _ => ⟨walkOk_nil, rfl, fun _ => rfl⟩) (fun l a ih W => ?_) rs
  obtain ⟨W0, c0⟩ := walkOk_init W
  obtain ⟨i1, i2, i3⟩ := ih W0
  have e : red (l ++ [a]) = redS (red l) a := by unfold red; rw [List.foldl_append]; rfl
  rw [e]
  unfold redS
  generalize red l = s at *
  rcases List.eq_nil_or_concat s with rfl | ⟨ks, k, rfl⟩
  · rw [if_neg (by simp)]
    refine ⟨walkOk_snoc i1 (by rw [i2]; exact c0), by rw [run_snoc, run_snoc, i2], fun x => by rw [cr_snoc, cr_snoc, i3, i2]⟩
  · rw [List.concat_eq_append] at *
    by_cases h : (ks ++ [k]).getLast? = some a
    · rw [if_pos h]
      have hk : k = a := by simpa using h
      subst hk
      rw [List.dropLast_concat]
      obtain ⟨w1, w2⟩ := walkOk_init i1
      have Ok1 := O.runs N w1
      rw [run_snoc] at i2
      refine ⟨w1, ?_, fun x => ?_⟩
      · rw [run_snoc, ← i2, ride_ride N Ok1 w2.1]
      · have := i3 x
        rw [cr_snoc] at this ⊢
        rw [← this, ← i2, stp_ride Ok1 w2.1]
        split <;> omega
    · rw [if_neg h]
      generalize ks ++ [k] = s at *
      refine ⟨walkOk_snoc i1 (by rw [i2]; exact c0), by rw [run_snoc, run_snoc, i2], fun x => by rw [cr_snoc, cr_snoc, i3, i2]⟩
/-- the way back -/
theorem back_ok (N : NetOk n es) (O : Ok n es f) : walkOk n es f rs → walkOk n es (run n es f rs) rs.reverse ∧ run n es (run n es f rs) rs.reverse = f ∧ ∀ x, cr n es (run n es f rs) rs.reverse x = - cr n es f rs x := by
  refine snocInd (P := fun rs => walkOk n es f rs → walkOk n es (run n es f rs) rs.reverse ∧ run n es (run n es f rs) rs.reverse = f ∧ ∀ x, cr n es (run n es f rs) rs.reverse x = - cr n es f rs x) (fun _ => ⟨walkOk_nil, rfl, fun _ => rfl⟩) (fun l a ih W => ?_) rs
  obtain ⟨W0, c0⟩ := walkOk_init W
  obtain ⟨i1, i2, i3⟩ := ih W0
  have Ok1 := O.runs N W0
  rw [List.reverse_append, List.reverse_singleton, run_snoc]
  have e1 : run n es (ride n es (run n es f l) a) [a] = run n es f l := ride_ride N Ok1 c0.1
  refine ⟨walkOk_append.mpr ⟨walkOk_one.mpr (can_ride N Ok1 c0), by rw [e1]; exact i1⟩, by rw [run_append, e1]; exact i2, fun x => ?_⟩
  rw [cr_append, e1, i3, cr_one, cr_snoc, stp_ride Ok1 c0.1]
  split <;> omega
end
/-! ### no two equal neighbours -/
section
variable {α : Type} [DecidableEq α]
def RedL (s : List α) : Prop := ∀ (i : Nat) a, s[i]? = some a → s[i + 1]? = some a → False
theorem RedL.init {s : List α} {a : α} (h : RedL (s ++ [a])) : RedL s := fun i x e1 e2 => by
  have l1 := (List.getElem?_eq_some_iff.mp e1).1
  have l2 := (List.getElem?_eq_some_iff.mp e2).1
  exact h i x (by rw [List.getElem?_append_left l1]; exact e1) (by rw [List.getElem?_append_left l2]; exact e2)
theorem RedL.snoc {s : List α} {a : α} (h : RedL s) (ne : s.getLast? ≠ some a) : RedL (s ++ [a]) := fun i x e1 e2 => by
  by_cases hi : i + 1 < s.length
  · rw [List.getElem?_append_left (by omega)] at e1
    rw [List.getElem?_append_left hi] at e2
    exact h i x e1 e2
  · have l2 := (List.getElem?_eq_some_iff.mp e2).1
    rw [List.length_append, List.length_singleton] at l2
    have hl : i + 1 = s.length := by omega
    rw [List.getElem?_append_left (by omega)] at e1
    rw [List.getElem?_append_right (by omega), hl, Nat.sub_self] at e2
    have ex : a = x := by simpa using e2
    subst ex
    refine ne ?_
    rw [List.getLast?_eq_getElem?, ← hl]
    exact e1
theorem RedL.red {s : List α} (h : RedL s) (a : α) : RedL (redS s a) ∧ redS (redS s a) a = s := by
  unfold redS
  by_cases e : s.getLast? = some a
  · rw [if_pos e]
    rcases List.eq_nil_or_concat s with rfl | ⟨ks, k, rfl⟩
    · simp at e
    rw [List.concat_eq_append] at *
    have hk : k = a := by simpa using e
    subst hk
    rw [List.dropLast_concat]
    refine ⟨h.init, ?_⟩
    rw [if_neg]
    intro z
    rcases List.eq_nil_or_concat ks with rfl | ⟨js, j, rfl⟩
    · simp at z
    rw [List.concat_eq_append] at *
    have hj : j = k := by simpa using z
    subst hj
    exact h js.length j (by simp) (by simp)
  · rw [if_neg e]
    refine ⟨h.snoc e, ?_⟩
    rw [if_pos (by simp), List.dropLast_concat]
theorem red_back (l : List α) : ∀ s : List α, RedL s → l.reverse.foldl redS (l.foldl redS s) = s := by
  induction l with
  | nil => intro s _; rfl
  | cons a l ih =>
    intro s h
    rw [List.reverse_cons, List.foldl_append]
    show redS (l.reverse.foldl redS (l.foldl redS (redS s a))) a = s
    rw [ih _ (h.red a).1]
    exact (h.red a).2
theorem red_there_back (l : List α) : red (l ++ l.reverse) = [] := by
  unfold red
  rw [List.foldl_append]
  exact red_back l [] fun i a e => by simp at e
end
/-! ### costs, leads, counts -/
section
variable {n : Nat} {es : List (Nat × Nat)} {f : Conf} {rs : List Ride} {r x : Ride}
theorem stp_pm : stp n f r = 1 ∨ stp n f r = -1 := by
  unfold stp
  split
  · exact .inl rfl
  · exact .inr rfl
theorem walkOk_lt (W : walkOk n es f rs) : ∀ r ∈ rs, r.1 < es.length := fun r h => by
  obtain ⟨i, hi⟩ := List.mem_iff_getElem?.mp h
  exact (W i r hi).1
theorem abs_pm {a d : Int} (h : d = 1 ∨ d = -1) : ((a + d).natAbs : Int) = a.natAbs + 1 ∨ ((a + d).natAbs : Int) = a.natAbs - 1 := by
  rcases h with rfl | rfl <;> omega
theorem costOf_succ {m : Nat} {c : Ride → Int} : costOf (m + 1) c = costOf m c + (((c (m, false)).natAbs : Int) + (c (m, true)).natAbs) := by
  unfold costOf
  rw [List.range_succ, List.map_append, List.sum_append]
  simp
theorem costOf_congr {m : Nat} {c d : Ride → Int} (h : ∀ x : Ride, x.1 < m → c x = d x) : costOf m c = costOf m d := by
  induction m with
  | zero => rfl
  | succ m ih => rw [costOf_succ, costOf_succ, ih fun x hx => h x (by omega), h (m, false) (by simp), h (m, true) (by simp)]
/-- one more crossing -/
theorem costOf_one {m : Nat} {c : Ride → Int} {d : Int} (hd : d = 1 ∨ d = -1) (h : r.1 < m) : costOf m (fun x => c x + if x = r then d else 0) = costOf m c + 1 ∨ costOf m (fun x => c x + if x = r then d else 0) = costOf m c - 1 := by
  induction m with
  | zero => omega
  | succ m ih =>
    rw [costOf_succ, costOf_succ]
    obtain ⟨k, b⟩ := r
    by_cases hk : k = m
    · subst hk
      have e : costOf k (fun x => c x + if x = (k, b) then d else 0) = costOf k c := costOf_congr fun x hx => by
        rw [if_neg (fun e => by rw [e] at hx; simp at hx), Int.add_zero]
      rw [e]
      cases b with
      | false =>
        have := abs_pm (a := c (k, false)) hd
        rw [if_pos rfl, if_neg (fun e => by cases e), Int.add_zero]
        omega
      | true =>
        have := abs_pm (a := c (k, true)) hd
        rw [if_pos rfl, if_neg (fun e => by cases e), Int.add_zero]
        omega
    · have := ih (by have : k < m + 1 := h; show k < m; omega)
      rw [if_neg (fun e => hk (congrArg Prod.fst e).symm), if_neg (fun e => hk (congrArg Prod.fst e).symm), Int.add_zero, Int.add_zero]
      omega
theorem cost_le : walkOk n es f rs → ∃ j : Nat, (rs.length : Int) - costOf es.length (cr n es f rs) = 2 * j := by
  refine snocInd (P := fun rs => walkOk n es f rs → ∃ j : Nat, (rs.length : Int) - costOf es.length (cr n es f rs) = 2 * j) (fun _ => ⟨0, ?_⟩) (fun l a ih W => ?_) rs
  · have : costOf es.length (cr n es f []) = 0 := by
      induction es.length with
      | zero => rfl
      | succ m ih => rw [costOf_succ, ih]; rfl
    rw [this]; rfl
  · obtain ⟨W0, c0⟩ := walkOk_init W
    obtain ⟨j, hj⟩ := ih W0
    have e : cr n es f (l ++ [a]) = fun x => cr n es f l x + if x = a then stp n (run n es f l) a else 0 := by
      funext x; exact cr_snoc
    rw [e, List.length_append, List.length_singleton]
    rcases costOf_one (c := cr n es f l) (stp_pm (n := n) (f := run n es f l) (r := a)) c0.1 with z | z
    · exact ⟨j, by rw [z]; omega⟩
    · exact ⟨j + 1, by rw [z]; omega⟩
theorem cost_nn {m : Nat} {c : Ride → Int} : 0 ≤ costOf m c := by
  induction m with
  | zero => exact Int.le_refl _
  | succ m ih => rw [costOf_succ]; omega
theorem count_ge : ((cr n es f rs x).natAbs : Int) ≤ rs.count x := by
  refine snocInd (P := fun rs => ((cr n es f rs x).natAbs : Int) ≤ rs.count x) (by simp [cr_nil]) (fun l a ih => ?_) rs
  rw [cr_snoc, List.count_append, List.count_singleton]
  by_cases h : x = a
  · subst h
    rw [if_pos rfl]
    have := stp_pm (n := n) (f := run n es f l) (r := x)
    simp
    omega
  · rw [if_neg h]
    have e : (a == x) = false := by simpa using fun z => h z.symm
    rw [e]
    simp
    omega
theorem lead_cars (N : NetOk n es) (O : Ok n es f) : walkOk n es f rs → ∀ k, k < es.length → cr n es f rs (k, false) - cr n es f rs (k, true) = run n es f rs (2 * n + k) - f (2 * n + k) := by
  refine snocInd (P := fun rs => walkOk n es f rs → ∀ k, k < es.length → cr n es f rs (k, false) - cr n es f rs (k, true) = run n es f rs (2 * n + k) - f (2 * n + k)) (fun _ k _ => by rw [cr_nil, cr_nil, run_nil]; omega) (fun l a ih W k hk => ?_) rs
  obtain ⟨W0, c0⟩ := walkOk_init W
  have h := ih W0 k hk
  have Ol := O.runs N W0
  rw [cr_snoc, cr_snoc, run_snoc, ride_car N c0.1]
  obtain ⟨j, b⟩ := a
  by_cases hj : k = j
  · subst hj
    rw [if_pos (show k = (k, b).1 from rfl)]
    unfold stp
    dsimp only
    rcases Ol.cars k hk with z | z <;> rw [z] at h ⊢ <;> cases b <;> simp <;> omega
  · rw [if_neg (fun e => hj (congrArg Prod.fst e)), if_neg (fun e => hj (congrArg Prod.fst e)), if_neg (show ¬ k = (j, b).1 from hj)]
    omega
theorem flow_congr {c d : Nat → Int} {s : Nat} : ∀ m, (∀ k, k < m → c k = d k) → flow es c m s = flow es d m s
  | 0, _ => rfl
  | m + 1, h => by
    unfold flow
    rw [flow_congr m fun k hk => h k (by omega), h m (by omega)]
theorem flow_one {c : Nat → Int} {d : Int} {j s : Nat} : ∀ m, j < m → flow es (fun k => c k + if k = j then d else 0) m s = flow es c m s + (if (endsK es j).1 = s then d else 0) - (if (endsK es j).2 = s then d else 0)
  | 0, h => by omega
  | m + 1, h => by
    unfold flow
    by_cases e : m = j
    · subst e
      rw [flow_congr (d := c) m fun k hk => by rw [if_neg (by omega), Int.add_zero], if_pos rfl]
      split <;> split <;> omega
    · rw [flow_one m (by omega), if_neg e, Int.add_zero]
      omega
theorem flow_zero {s : Nat} : ∀ m, flow es (fun _ => 0) m s = 0
  | 0 => rfl
  | m + 1 => by
    unfold flow
    rw [flow_zero m]
    split <;> split <;> rfl
theorem lead_flow (N : NetOk n es) (O : Ok n es f) (b : Bool) : walkOk n es f rs → ∀ s, s < n → flow es (fun k => cr n es f rs (k, b)) es.length s = f (off n b + s) - run n es f rs (off n b + s) := by
  refine snocInd (P := fun rs => walkOk n es f rs → ∀ s, s < n → flow es (fun k => cr n es f rs (k, b)) es.length s = f (off n b + s) - run n es f rs (off n b + s)) (fun _ s _ => ?_) (fun l a ih W s hs => ?_) rs
  · show flow es (fun _ => 0) es.length s = _
    rw [flow_zero, run_nil]; omega
  · obtain ⟨W0, c0⟩ := walkOk_init W
    have h := ih W0 s hs
    have Ol := O.runs N W0
    rw [run_snoc]
    have e : (fun k => cr n es f (l ++ [a]) (k, b)) = fun k => cr n es f l (k, b) + if (k, b) = a then stp n (run n es f l) a else 0 := by
      funext k; exact cr_snoc
    rw [e]
    obtain ⟨j, b'⟩ := a
    have hj : j < es.length := c0.1
    have aN := N.at (r := (j, b')) hj
    by_cases hb : b = b'
    · subst hb
      have e2 : (fun k => cr n es f l (k, b) + if (k, b) = (j, b) then stp n (run n es f l) (j, b) else 0) = fun k => cr n es f l (k, b) + if k = j then stp n (run n es f l) (j, b) else 0 := by
        funext k
        by_cases hk : k = j
        · subst hk; rw [if_pos rfl, if_pos rfl]
        · rw [if_neg hk, if_neg (fun e => hk (congrArg Prod.fst e))]
      rw [e2, flow_one _ hj, h]
      have ro := ride_own (f := run n es f l) (r := (j, b)) N hj hs
      dsimp only at ro
      rw [ro]
      generalize run n es f l = g at *
      have at1 : at_ n es g (j, b) = if (g (2 * n + j) = 0 ↔ b = false) then (endsK es j).1 else (endsK es j).2 := rfl
      have to1 : to_ n es g (j, b) = if (g (2 * n + j) = 0 ↔ b = false) then (endsK es j).2 else (endsK es j).1 := rfl
      have st1 : stp n g (j, b) = if (g (2 * n + j) = 0 ↔ b = false) then 1 else -1 := rfl
      have aN1 : (endsK es j).1 ≠ (endsK es j).2 := aN.2.2
      by_cases z : (g (2 * n + j) = 0 ↔ b = false)
      · rw [if_pos z] at at1 to1 st1
        rw [at1, to1, st1]
        by_cases s1 : s = (endsK es j).1
        · subst s1
          rw [if_pos rfl, if_neg (Ne.symm aN1), if_neg aN1, if_pos rfl]; omega
        · rw [if_neg (Ne.symm s1), if_neg (show ¬ s = (endsK es j).1 from s1)]
          by_cases s2 : s = (endsK es j).2
          · subst s2
            rw [if_pos rfl, if_pos rfl]; omega
          · rw [if_neg (Ne.symm s2), if_neg s2]; omega
      · rw [if_neg z] at at1 to1 st1
        rw [at1, to1, st1]
        by_cases s1 : s = (endsK es j).1
        · subst s1
          rw [if_pos rfl, if_neg (Ne.symm aN1), if_pos rfl]; omega
        · rw [if_neg (Ne.symm s1), if_neg (show ¬ s = (endsK es j).1 from s1)]
          by_cases s2 : s = (endsK es j).2
          · subst s2
            rw [if_pos rfl, if_pos rfl]; omega
          · rw [if_neg (Ne.symm s2), if_neg s2]; omega
    · have e2 : (fun k => cr n es f l (k, b) + if (k, b) = (j, b') then stp n (run n es f l) (j, b') else 0) = fun k => cr n es f l (k, b) := by
        funext k
        rw [if_neg (fun e => hb (congrArg Prod.snd e)), Int.add_zero]
      rw [e2, h]
      have hb' : b = !b' := by cases b <;> cases b' <;> simp_all
      have ro := ride_other (f := run n es f l) (r := (j, b')) N hj hs
      rw [hb']
      dsimp only at ro
      rw [ro]
end
end Tw

set_option Elab.async false
set_option linter.all false
set_option maxRecDepth 100000
set_option maxHeartbeats 4000000
namespace Tw
open PySem PySem.Spec PyProof.Rows L2
theorem path_getD {n : Nat} {es : List (Nat × Nat)} {f : Conf} {rs : List Ride} {i : Nat} (h : i ≤ rs.length) : (path n es f rs).getD i (fun _ => 0) = run n es f (rs.take i) := by
  unfold path
  rw [List.getD_eq_getElem?_getD, List.getElem?_map, List.getElem?_range (by omega)]
  rfl
theorem path_len {n : Nat} {es : List (Nat × Nat)} {f : Conf} {rs : List Ride} : (path n es f rs).length = rs.length + 1 := by simp [path]
theorem rw_key {K : PySem.W.Frag} {S : Store} {Φ : D → Store → Prop} {n : Nat} {es : List (Nat × Nat)} {f : Conf} {rs : List Ride} {i : Int} {k : Nat} (e : i = (k : Int)) (h : k ≤ rs.length) (q : Φ (keyD n es.length (run n es f (rs.take k))) S) : R2W K (rIxU K) (.lst ((path n es f rs).map (keyD n es.length))) (.int i) S Φ := by
  refine rw_ixi' (xs := path n es f rs) (f := keyD n es.length) (fun _ => 0) .l e (by rw [path_len]; omega) ?_
  rw [path_getD h]
  exact q
theorem rw_keyL {K : PySem.W.Frag} {S : Store} {Φ : D → Store → Prop} {n : Nat} {es : List (Nat × Nat)} {f : Conf} {rs : List Ride} (q : Φ (keyD n es.length (run n es f rs)) S) : R2W K (rIxU K) (.lst ((path n es f rs).map (keyD n es.length))) (.int (-1)) S Φ := by
  rw [path_last, List.map_append]
  exact rw_ix .l at_last q
theorem lk_words {rs : List Ride} (h : rs.length ≤ 1000) : LkD 2 (.tup (rs.map wD)) := (LkD.seq (by rw [List.length_map]; omega) fun x hx => by
  obtain ⟨r, _, rfl⟩ := List.mem_map.mp hx
  exact (LkD.seq (Nat.le_of_ble_eq_true rfl) fun y hy => by
    rcases List.mem_cons.mp hy with rfl | hy
    · exact LkD.int
    · rcases List.mem_cons.mp hy with rfl | hy
      · exact LkD.str
      · simp at hy).2).2
abbrev sumsD (m : Nat) (c : Ride → Int) : D := .lst [.lst (seqI m fun k => c (k, false)), .lst (seqI m fun k => c (k, true))]
def sp__law_trip (K : PySem.W.Frag) : Spec := fun ds S Φ => ∃ (n : Nat) (es : List (Nat × Nat)) (f : Conf) (rs : List Ride), ds = [netD K n es, .int n, .lst ((path n es f rs).map (keyD n es.length)), .lst (rs.map rD), sumsD es.length (cr n es f rs)] ∧ NetOk n es ∧ Ok n es f ∧ walkOk n es f rs ∧ rs.length ≤ 100 ∧ Φ (.bl true) S
local macro_rules | `(tactic| walk_at "w") => `(tactic| first
  | ((with_reducible show WE _ (tVar _) _ _ _); refine w_var (by rfl) ?_)
  | ((with_reducible show WE _ (tC (.int _)) _ _ _); refine w_cI ?_)
  | ((with_reducible show WE _ (tC (.str _)) _ _ _); refine w_cS ?_)
  | ((with_reducible show WE _ (tC (.bl _)) _ _ _); refine w_cB ?_)
  | ((with_reducible show WE _ (tC .non) _ _ _); refine w_cN ?_)
  | ((with_reducible show WE _ (tC (.ty _)) _ _ _); refine w_cT ?_)
  | ((with_reducible show WE _ (tC (.ref _)) _ _ _); refine w_cR ?_)
  | ((with_reducible show WE _ (tOp _ _ _) _ _ _); refine w_op ?_)
  | ((with_reducible show WE _ (tUn _ _) _ _ _); refine w_un ?_)
  | ((with_reducible show WE _ (tChain _ _ _ _ _) _ _ _); refine w_chain ?_)
  | ((with_reducible show WE _ (tFld _ _ _) _ _ _); refine w_fld ?_)
  | ((with_reducible show WE _ (tIf _ _ _) _ _ _); refine w_ifE ?_)
  | ((with_reducible show WE _ (tTup _) _ _ _); refine w_tup ?_)
  | ((with_reducible show WE _ (tCB _ _) _ _ _); refine w_cb ?_)
  | ((with_reducible show WE _ (tCall _ _ _ _) _ _ _); refine w_call ?_)
  | ((with_reducible show WE _ (tMake _ _ _ _ _) _ _ _); refine w_make ?_)
  | ((with_reducible show WE _ (tMeth _ _ _ _ _ _ _) _ _ _); refine w_meth ?_)
  | ((with_reducible show WE _ (tSl _ _ _ _) _ _ _); refine w_sl ?_)
  | ((with_reducible show WE _ (tBM _ _ rAppend _ _) _ _ _); refine w_append (p := 0) (ds := []) ?_)
  | ((with_reducible show WE _ (tBM _ _ rExtend _ _) _ _ _); refine w_extend ?_)
  | ((with_reducible show WE _ (tBM _ _ rInsL _ _) _ _ _); refine w_insert ?_)
  | ((with_reducible show WE _ (tBM0 _ _ rPop _) _ _ _); refine w_pop ?_)
  | ((with_reducible show WE _ (tBM _ _ rPopAt _ _) _ _ _); refine w_popAt ?_)
  | ((with_reducible show WE _ (tBM _ _ (rCntD _) _ _) _ _ _); refine w_bmL ?_)
  | ((with_reducible show WE _ (tAndV _ _) _ _ _); refine w_andV ?_)
  | ((with_reducible show WE _ (tOrV _ _) _ _ _); refine w_orV ?_)
  | ((with_reducible show WE _ (tNotV _) _ _ _); refine w_notV ?_)
  | ((with_reducible show WA _ tNil _ _ _); refine wa_nil ?_)
  | ((with_reducible show WA _ (tCons _ _) _ _ _); refine wa_cons ?_)
  | ((with_reducible show WO _ tNoPart _ _ _); refine wo_none ?_)
  | ((with_reducible show WO _ (tPart _) _ _ _); refine wo_some ?_)
  | ((with_reducible show WT _ (tTest _) _ _ _); refine w_test ?_)
  | ((with_reducible show WT _ (tB _) _ _ _); refine w_tB ?_)
  | ((with_reducible show WT _ (tTru _ _) _ _ _); refine w_tru ?_)
  | ((with_reducible show WT _ (tTruO _ _) _ _ _); refine w_truO ?_)
  | ((with_reducible show WT _ (tAnd _ _) _ _ _); refine w_and ?_)
  | ((with_reducible show WT _ (tOr _ _) _ _ _); refine w_or ?_)
  | ((with_reducible show WT _ (tNot _) _ _ _); refine w_not ?_)
  | ((with_reducible show WT _ tYes _ _ _); refine wt_yes ?_)
  | ((with_reducible show WS _ (tSeq _ _) _ _ _); refine ws_seq ?_)
  | ((with_reducible show WS _ (tAsg _ (gName _)) _ _ _); refine ws_set ?_)
  | ((with_reducible show WS _ (tAsg _ _) _ _ _); refine ws_asg ?_)
  | ((with_reducible show WS _ (sFld _ _ _ _) _ _ _); refine ws_fld ?_)
  | ((with_reducible show WS _ (tDrop _) _ _ _); refine ws_drop ?_)
  | ((with_reducible show WS _ (tRet _) _ _ _); refine ws_ret ?_)
  | ((with_reducible show WS _ tRetN _ _ _); refine ws_retN ?_)
  | ((with_reducible show WS _ tNext _ _ _); refine ws_next ?_)
  | ((with_reducible show WS _ tBreak _ _ _); refine ws_break ?_)
  | ((with_reducible show WS _ tCont _ _ _); refine ws_cont ?_)
  | ((with_reducible show WS _ (tIfS _ _ _) _ _ _); refine ws_if ?_)
  | ((with_reducible show WS _ (tAug _ _ _) _ _ _); refine ws_aug (by rfl) ?_)
  | ((with_reducible show WS _ (tAugS _ _ _ _ _ _) _ _ _); refine ws_augS ?_)
  | ((with_reducible show WG _ (gName _) _ _ _ _); refine wg_name ?_)
  | ((with_reducible show WG _ (gTup _ _ _) (.tup _) _ _ _); refine wg_tup (by rfl) ?_)
  | ((with_reducible show WG _ (gSub _ _ _) _ _ _ _); refine wg_sub ?_)
  | ((with_reducible show WGs _ gNil [] _ _ _); refine wgs_nil ?_)
  | ((with_reducible show WGs _ (gCons _ _) (_ :: _) _ _ _); refine wgs_cons ?_)
  | ((with_reducible show WI _ (iRng1 _) _ _ _); refine wi_rng1 ?_)
  | ((with_reducible show WI _ (iRng2 _) _ _ _); refine wi_rng2 ?_)
  | ((with_reducible show WI _ (iSeqU _ _) _ _ _); refine wi_seq ?_)
  | ((with_reducible show WI _ (iEnumU _ _) _ _ _); refine wi_enum ?_)
  | ((with_reducible show WI _ (RZ.iZipA _ _) _ _ _); refine wi_zip ?_))
local macro_rules | `(tactic| walk_at "w") => `(tactic| first
  | ((with_reducible show ∃ C ns ds d, InsOf _ _ C ns ds ∧ _); refine ⟨_, _, _, _, .o, by walk_at "cls", by walk_at "noat", by rfl, ?_⟩)
  | ((with_reducible show R2W _ (rAddU _) (.int _) (.int _) _ _); refine rw_addI ?_)
  | ((with_reducible show R2W _ rSubI (.int _) (.int _) _ _); refine rw_subI ?_)
  | ((with_reducible show R2W _ rLtI (.int _) (.int _) _ _); refine rw_ltI ?_)
  | ((with_reducible show R2W _ rLeI (.int _) (.int _) _ _); refine rw_leI ?_)
  | ((with_reducible show R2W _ rGtI (.int _) (.int _) _ _); refine rw_gtI ?_)
  | ((with_reducible show R2W _ rGeI (.int _) (.int _) _ _); refine rw_geI ?_)
  | ((with_reducible show R2W _ (rEqU _) (.int _) (.int _) _ _); refine rw_eqUI ?_)
  | ((with_reducible show R2W _ (rEqU _) (.str _) (.str _) _ _); refine rw_eqUS ?_)
  | ((with_reducible show R2W _ (rNeU _) (.int _) (.int _) _ _); refine rw_neUI ?_)
  | ((with_reducible show R2W _ (rNeU _) (.str _) (.str _) _ _); refine rw_neUS ?_)
  | ((with_reducible show R1W _ rNegI (.int _) _ _); refine rw_negI ?_)
  | ((with_reducible show RLW _ (rLenQ _) [_] _ _); refine rw_len (by first | exact .t | exact .l | exact .r (by assumption)) ?_)
  | ((with_reducible show RLW _ rIntQ [.int _] _ _); refine rw_int ?_)
  | ((with_reducible show RLW _ rAbsQ [.int _] _ _); refine rw_abs ?_)
  | ((with_reducible show ∃ k, .bl _ = D.bl k ∧ _); refine ⟨_, rfl, ?_⟩)
  | ((with_reducible show ∃ k, .int _ = D.int k ∧ _); refine ⟨_, rfl, ?_⟩)
  | ((with_reducible show ∃ k, TruD _ (.bl _) k ∧ _); refine ⟨_, .bl, ?_⟩)
  | ((with_reducible show ∃ k, TruD _ (.int _) k ∧ _); refine ⟨_, .int, ?_⟩)
  | ((with_reducible show List.length _ ≤ 1000000 ∧ _); refine ⟨Nat.le_of_ble_eq_true rfl, ?_⟩)
  | ((with_reducible show ∃ S2, Sub S2 _ ∧ _); refine ⟨_, Sub.refl _, ?_⟩))
local macro_rules | `(tactic| walk_at "w*") => `(tactic| repeat walk_at "w")
local macro_rules | `(tactic| walk_at "le") => `(tactic| repeat first | exact Le.nil | exact Le.rfl | refine Le.som ?_ | refine Le.non ?_)
local macro_rules | `(tactic| walk_at "fz") => `(tactic| repeat first | exact Fz.nil | refine Fz.som ?_ | refine Fz.frz ?_ | refine Fz.non ?_)
local macro_rules | `(tactic| walk_at "cls") => `(tactic| first | exact cl_Net (by assumption) | exact cl_Standing (by assumption) | exact cl_Bill (by assumption) | exact cl_Trip (by assumption))
local macro_rules | `(tactic| walk_at "noat") => `(tactic| first | exact na_Net_stations (by assumption) | exact na_Net_ropes (by assumption) | exact na_Standing_net (by assumption) | exact na_Standing_reds (by assumption) | exact na_Standing_blues (by assumption) | exact na_Standing_cars (by assumption) | exact na_Bill_net (by assumption) | exact na_Bill_reds (by assumption) | exact na_Bill_blues (by assumption) | exact na_Trip_rides (by assumption))

local macro_rules | `(tactic| walk_at "w") => `(tactic| first
  | ((with_reducible show WI _ (iRng3 _) _ _ _); refine wi_rng3 ?_)
  | ((with_reducible show R2W _ (rIxU _) (.ref _) (.int 0) (potU _ _ _ _ _ _ _ _) _); refine rw_p0 ?_)
  | ((with_reducible show R2W _ (rIxU _) (.ref _) (.int 1) (potU _ _ _ _ _ _ _ _) _); refine rw_p1 ?_)
  | ((with_reducible show R2W _ (rIxU _) (.ref _) (.int 2) (potU _ _ _ _ _ _ _ _) _); refine rw_p2 ?_)
  | ((with_reducible show R2W _ (rIxU _) (.ref _) (.int 3) (potU _ _ _ _ _ _ _ _) _); refine rw_p3 ?_)
  | ((with_reducible show R2W _ (rIxU _) (.ref _) (.int 4) (potU _ _ _ _ _ _ _ _) _); refine rw_p4 ?_)
  | ((with_reducible show RSW _ rSetL (.ref _) (.int 1) (.int _) (potU _ _ _ _ _ _ _ _) _); refine rs_p1 ?_)
  | ((with_reducible show RSW _ rSetL (.ref _) (.int 2) (.int _) (potU _ _ _ _ _ _ _ _) _); refine rs_p2 ?_)
  | ((with_reducible show RSW _ rSetL (.ref _) (.int 3) (.int _) (potU _ _ _ _ _ _ _ _) _); refine rs_p3 ?_)
  | ((with_reducible show RSW _ rSetL (.ref _) (.int 4) (.int _) (potU _ _ _ _ _ _ _ _) _); refine rs_p4 ?_)
  | ((with_reducible show R2W _ rMulU (.int _) (.int _) _ _); refine rw_mulI (.inr ⟨by decide, by decide⟩) ?_)
  | ((with_reducible show R2W _ rMulU (.int _) (.int _) _ _); refine rw_mulI (.inl ⟨by decide, by decide⟩) ?_)
  | ((with_reducible show R2W _ rModI (.int _) (.int _) _ _); refine rw_modI (by decide) ?_)
  | ((with_reducible show R2W _ rDivI (.int _) (.int _) _ _); refine rw_divI (by decide) (by decide) ?_)
  | ((with_reducible show RLW _ rMax2Q [.int _, .int _] _ _); refine rw_max2 ?_)
  | ((with_reducible show RLW _ rMin2Q [.int _, .int _] _ _); refine rw_min2 ?_))

section
variable {P : Program} {w : World} {K : PySem.W.Frag} {mg : Str → Option Value} {base : Heap}
theorem ok__law_trip (T : Hd fn fa xs K mg) : FnE P w K mg base 7 (He.fAd K d__law_trip.at_) ps__law_trip (spOf K (sp__law_trip K)) := by
  refine T.ok _ ix__law_trip (N := N__law_trip) rfl sc__law_trip (fun ds S Φ ⟨_, _, _, _, e, _⟩ => by rw [e]; rfl) (fun _ _ _ _ _ _ us hl => ?_) fun cdv A outer s H E hr => ⟨_, dv__law_trip T (ok__law_stand T) (ok__law_words T) (ok__law_reduced T) (ok_Trip___init__ T) (ok_Trip_reduced T) (ok__law_like T 2) (ok__law_bill T) (ok_bill_of T) (ok__law_ends_at T) (ok_Trip___invert__ T) (ok_Bill___neg__ T) (ok_Trip___add__ T) (ok_Trip___bool__ T) (ok_Trip___len__ T) hr, ?_⟩
  · match us, hl with
    | [a, b, c, d, e], _ => rfl
  rintro _ S Φ ⟨n, es, f, rs, rfl, N, O, W, hz, q⟩
  have hn := N.hi
  have hf := N.few
  have Or := O.runs N W
  obtain ⟨R1, R2, R3⟩ := red_ok N O W
  obtain ⟨B1, B2, B3⟩ := back_ok N O W
  have hrl := red_len (rs := rs)
  unfold t__law_trip
  walk_at "w*"
  refine rw_key (k := 0) rfl (Nat.zero_le _) ?_
  walk_at "w*"
  refine ⟨n, es, f, rfl, N, O, ?_⟩
  walk_at "w*"
  refine rw_keyL ?_
  walk_at "w*"
  refine ⟨n, es, _, rfl, N, Or, ?_⟩
  walk_at "w*"
  refine ⟨_, rs, rfl, .l, by omega, ?_⟩
  walk_at "w*"
  refine ⟨rs, rfl, by omega, ?_⟩
  walk_at "w*"
  refine ⟨_, red rs, rfl, .l, by omega, ?_⟩
  walk_at "w*"
  refine rw_list .l ?_
  walk_at "w*"
  refine fun p hp => ⟨p, _, rs, rfl, stU_same, .l, by omega, rfl, _, _, stU_same, ?_⟩
  rw [stU_U, stD_U hp]
  clear hp p
  have hrev : rs.reverse.length = rs.length := List.length_reverse
  walk_at "w*"
  refine ⟨_, _, .o, by decide, ?_⟩
  walk_at "w*"
  refine ⟨rs, rfl, by omega, ?_⟩
  walk_at "w*"
  refine rw_tuple .l ?_
  walk_at "w*"
  refine ⟨_, rfl, lk_words (by omega), ?_⟩
  walk_at "w*"
  refine iteF ?_
  walk_at "w*"
  refine rw_tuple .l ?_
  walk_at "w*"
  refine ⟨_, rfl, lk_words (by omega), ?_⟩
  walk_at "w*"
  refine iteF ?_
  walk_at "w*"
  refine rw_list .l ?_
  walk_at "w*"
  refine ⟨n, es, f, rs, rfl, N, O, by omega, W, ?_⟩
  walk_at "w*"
  refine ⟨n, es, _, rfl, by omega, ?_⟩
  walk_at "w*"
  refine iteF ?_
  walk_at "w*"
  refine rw_neUD (Emb.lst emb_w) (a := rs) (b := rs) (by decide) ?_
  rw [decide_eq_true rfl]
  walk_at "w*"
  refine iteF ?_
  walk_at "w*"
  refine rw_list .t ?_
  walk_at "w*"
  refine ⟨n, es, f, red rs, rfl, N, O, by omega, R1, ?_⟩
  rw [show cr n es f (red rs) = cr n es f rs from funext R3]
  walk_at "w*"
  refine ⟨n, es, _, rfl, by omega, ?_⟩
  walk_at "w*"
  refine iteF ?_
  walk_at "w*"
  refine rw_keyL ?_
  walk_at "w*"
  refine ⟨n, es, f, rs, rfl, N, O, W, by omega, ?_⟩
  walk_at "w*"
  refine iteF ?_
  walk_at "w*"
  refine rw_list .t ?_
  walk_at "w*"
  refine rw_keyL ?_
  walk_at "w*"
  rw [← R2]
  refine ⟨n, es, f, red rs, rfl, N, O, R1, by omega, ?_⟩
  rw [R2]
  walk_at "w*"
  refine iteF ?_
  walk_at "w*"
  refine w_lst ?_
  refine wa_cons ?_
  refine w_map (xs := List.range es.length) (f := fun k => .int (cr n es f rs (k, false))) (h := fun k => .int (- cr n es f rs (k, false))) (go_name (by simp)) ?_
  walk_at "w*"
  refine rw_ix .l rfl ?_
  refine ⟨_, .l, rfl, by simp; omega, fun k hk => ?_, ?_⟩
  · walk_at "w*"
    exact ⟨by rw [Int.zero_sub], rfl⟩
  refine wa_cons ?_
  refine w_map (xs := List.range es.length) (f := fun k => .int (cr n es f rs (k, true))) (h := fun k => .int (- cr n es f rs (k, true))) (go_name (by simp)) ?_
  walk_at "w*"
  refine rw_ix .l rfl ?_
  refine ⟨_, .l, rfl, by simp; omega, fun k hk => ?_, ?_⟩
  · walk_at "w*"
    exact ⟨by rw [Int.zero_sub], rfl⟩
  walk_at "w*"
  refine rw_own1 .o ⟨rs, rfl, by omega, ?_⟩
  walk_at "w*"
  refine w_revL ?_
  walk_at "w*"
  refine ⟨_, rfl, ?_⟩
  walk_at "w*"
  refine rw_tuple .l ?_
  walk_at "w*"
  rw [← List.map_reverse]
  refine ⟨_, rfl, lk_words (by omega), ?_⟩
  walk_at "w*"
  refine iteF ?_
  walk_at "w*"
  refine rw_list .t ?_
  walk_at "w*"
  refine ⟨n, es, _, rs.reverse, rfl, N, Or, by omega, B1, ?_⟩
  rw [show cr n es (run n es f rs) rs.reverse = fun x => - cr n es f rs x from funext B3]
  walk_at "w*"
  refine ⟨n, es, fun x => - cr n es f rs x, rfl, by omega, ?_⟩
  walk_at "w*"
  refine iteF ?_
  walk_at "w*"
  refine ⟨n, es, f, rs, rfl, N, O, by omega, W, ?_⟩
  walk_at "w*"
  refine rw_own1 .o ⟨n, es, _, rfl, by omega, ?_⟩
  walk_at "w*"
  refine ⟨n, es, fun x => - cr n es f rs x, rfl, by omega, ?_⟩
  walk_at "w*"
  refine iteF ?_
  walk_at "w*"
  refine rw_own2 .o .o ⟨rs, rs.reverse, rfl, by omega, by omega, ?_⟩
  refine ⟨_, _, .o, by decide, ?_⟩
  walk_at "w*"
  refine ⟨rs ++ rs.reverse, rfl, by rw [List.length_append]; omega, ?_⟩
  rw [red_there_back]
  walk_at "w*"
  refine ⟨_, _, .o, [], rfl, false, rfl, ?_⟩
  refine iteF ?_
  walk_at "w*"
  refine rw_ownLen .o ⟨[], rfl, 0, rfl, by decide, by decide, ?_⟩
  walk_at "w*"
  refine ⟨_, rfl, LkD.int, ?_⟩
  walk_at "w*"
  refine iteF ?_
  walk_at "w*"
  refine rw_ownLen .o ⟨rs, rfl, _, rfl, Int.natCast_nonneg _, by omega, ?_⟩
  walk_at "w*"
  rw [List.length_map]
  exact ⟨_, rfl, LkD.int, ⟨_, Sub.refl _, q⟩⟩
end
end Tw


set_option Elab.async false
set_option linter.all false
set_option maxRecDepth 100000
set_option maxHeartbeats 4000000
namespace Tw
open PySem PySem.Spec PyProof.Rows L2
def sp__law_parts (K : PySem.W.Frag) : Spec := fun ds S Φ => ∃ (n : Nat) (es : List (Nat × Nat)) (f : Conf) (rs : List Ride) (k : Nat), ds = [netD K n es, .int n, .lst (es.map pD), .lst ((path n es f rs).map (keyD n es.length)), .lst (rs.map rD), .int k, sumsD es.length (cr n es f rs)] ∧ NetOk n es ∧ Ok n es f ∧ walkOk n es f rs ∧ rs.length ≤ 100 ∧ k ≤ rs.length ∧ Φ (.bl true) S
local macro_rules | `(tactic| walk_at "w") => `(tactic| first
  | ((with_reducible show WE _ (tVar _) _ _ _); refine w_var (by rfl) ?_)
  | ((with_reducible show WE _ (tC (.int _)) _ _ _); refine w_cI ?_)
  | ((with_reducible show WE _ (tC (.str _)) _ _ _); refine w_cS ?_)
  | ((with_reducible show WE _ (tC (.bl _)) _ _ _); refine w_cB ?_)
  | ((with_reducible show WE _ (tC .non) _ _ _); refine w_cN ?_)
  | ((with_reducible show WE _ (tC (.ty _)) _ _ _); refine w_cT ?_)
  | ((with_reducible show WE _ (tC (.ref _)) _ _ _); refine w_cR ?_)
  | ((with_reducible show WE _ (tOp _ _ _) _ _ _); refine w_op ?_)
  | ((with_reducible show WE _ (tUn _ _) _ _ _); refine w_un ?_)
  | ((with_reducible show WE _ (tChain _ _ _ _ _) _ _ _); refine w_chain ?_)
  | ((with_reducible show WE _ (tFld _ _ _) _ _ _); refine w_fld ?_)
  | ((with_reducible show WE _ (tIf _ _ _) _ _ _); refine w_ifE ?_)
  | ((with_reducible show WE _ (tTup _) _ _ _); refine w_tup ?_)
  | ((with_reducible show WE _ (tCB _ _) _ _ _); refine w_cb ?_)
  | ((with_reducible show WE _ (tCall _ _ _ _) _ _ _); refine w_call ?_)
  | ((with_reducible show WE _ (tMake _ _ _ _ _) _ _ _); refine w_make ?_)
  | ((with_reducible show WE _ (tMeth _ _ _ _ _ _ _) _ _ _); refine w_meth ?_)
  | ((with_reducible show WE _ (tSl _ _ _ _) _ _ _); refine w_sl ?_)
  | ((with_reducible show WE _ (tBM _ _ rAppend _ _) _ _ _); refine w_append (p := 0) (ds := []) ?_)
  | ((with_reducible show WE _ (tBM _ _ rExtend _ _) _ _ _); refine w_extend ?_)
  | ((with_reducible show WE _ (tBM _ _ rInsL _ _) _ _ _); refine w_insert ?_)
  | ((with_reducible show WE _ (tBM0 _ _ rPop _) _ _ _); refine w_pop ?_)
  | ((with_reducible show WE _ (tBM _ _ rPopAt _ _) _ _ _); refine w_popAt ?_)
  | ((with_reducible show WE _ (tBM _ _ (rCntD _) _ _) _ _ _); refine w_bmL ?_)
  | ((with_reducible show WE _ (tAndV _ _) _ _ _); refine w_andV ?_)
  | ((with_reducible show WE _ (tOrV _ _) _ _ _); refine w_orV ?_)
  | ((with_reducible show WE _ (tNotV _) _ _ _); refine w_notV ?_)
  | ((with_reducible show WA _ tNil _ _ _); refine wa_nil ?_)
  | ((with_reducible show WA _ (tCons _ _) _ _ _); refine wa_cons ?_)
  | ((with_reducible show WO _ tNoPart _ _ _); refine wo_none ?_)
  | ((with_reducible show WO _ (tPart _) _ _ _); refine wo_some ?_)
  | ((with_reducible show WT _ (tTest _) _ _ _); refine w_test ?_)
  | ((with_reducible show WT _ (tB _) _ _ _); refine w_tB ?_)
  | ((with_reducible show WT _ (tTru _ _) _ _ _); refine w_tru ?_)
  | ((with_reducible show WT _ (tTruO _ _) _ _ _); refine w_truO ?_)
  | ((with_reducible show WT _ (tAnd _ _) _ _ _); refine w_and ?_)
  | ((with_reducible show WT _ (tOr _ _) _ _ _); refine w_or ?_)
  | ((with_reducible show WT _ (tNot _) _ _ _); refine w_not ?_)
  | ((with_reducible show WT _ tYes _ _ _); refine wt_yes ?_)
  | ((with_reducible show WS _ (tSeq _ _) _ _ _); refine ws_seq ?_)
  | ((with_reducible show WS _ (tAsg _ (gName _)) _ _ _); refine ws_set ?_)
  | ((with_reducible show WS _ (tAsg _ _) _ _ _); refine ws_asg ?_)
  | ((with_reducible show WS _ (sFld _ _ _ _) _ _ _); refine ws_fld ?_)
  | ((with_reducible show WS _ (tDrop _) _ _ _); refine ws_drop ?_)
  | ((with_reducible show WS _ (tRet _) _ _ _); refine ws_ret ?_)
  | ((with_reducible show WS _ tRetN _ _ _); refine ws_retN ?_)
  | ((with_reducible show WS _ tNext _ _ _); refine ws_next ?_)
  | ((with_reducible show WS _ tBreak _ _ _); refine ws_break ?_)
  | ((with_reducible show WS _ tCont _ _ _); refine ws_cont ?_)
  | ((with_reducible show WS _ (tIfS _ _ _) _ _ _); refine ws_if ?_)
  | ((with_reducible show WS _ (tAug _ _ _) _ _ _); refine ws_aug (by rfl) ?_)
  | ((with_reducible show WS _ (tAugS _ _ _ _ _ _) _ _ _); refine ws_augS ?_)
  | ((with_reducible show WG _ (gName _) _ _ _ _); refine wg_name ?_)
  | ((with_reducible show WG _ (gTup _ _ _) (.tup _) _ _ _); refine wg_tup (by rfl) ?_)
  | ((with_reducible show WG _ (gSub _ _ _) _ _ _ _); refine wg_sub ?_)
  | ((with_reducible show WGs _ gNil [] _ _ _); refine wgs_nil ?_)
  | ((with_reducible show WGs _ (gCons _ _) (_ :: _) _ _ _); refine wgs_cons ?_)
  | ((with_reducible show WI _ (iRng1 _) _ _ _); refine wi_rng1 ?_)
  | ((with_reducible show WI _ (iRng2 _) _ _ _); refine wi_rng2 ?_)
  | ((with_reducible show WI _ (iSeqU _ _) _ _ _); refine wi_seq ?_)
  | ((with_reducible show WI _ (iEnumU _ _) _ _ _); refine wi_enum ?_)
  | ((with_reducible show WI _ (RZ.iZipA _ _) _ _ _); refine wi_zip ?_))
local macro_rules | `(tactic| walk_at "w") => `(tactic| first
  | ((with_reducible show ∃ C ns ds d, InsOf _ _ C ns ds ∧ _); refine ⟨_, _, _, _, .o, by walk_at "cls", by walk_at "noat", by rfl, ?_⟩)
  | ((with_reducible show R2W _ (rAddU _) (.int _) (.int _) _ _); refine rw_addI ?_)
  | ((with_reducible show R2W _ rSubI (.int _) (.int _) _ _); refine rw_subI ?_)
  | ((with_reducible show R2W _ rLtI (.int _) (.int _) _ _); refine rw_ltI ?_)
  | ((with_reducible show R2W _ rLeI (.int _) (.int _) _ _); refine rw_leI ?_)
  | ((with_reducible show R2W _ rGtI (.int _) (.int _) _ _); refine rw_gtI ?_)
  | ((with_reducible show R2W _ rGeI (.int _) (.int _) _ _); refine rw_geI ?_)
  | ((with_reducible show R2W _ (rEqU _) (.int _) (.int _) _ _); refine rw_eqUI ?_)
  | ((with_reducible show R2W _ (rEqU _) (.str _) (.str _) _ _); refine rw_eqUS ?_)
  | ((with_reducible show R2W _ (rNeU _) (.int _) (.int _) _ _); refine rw_neUI ?_)
  | ((with_reducible show R2W _ (rNeU _) (.str _) (.str _) _ _); refine rw_neUS ?_)
  | ((with_reducible show R1W _ rNegI (.int _) _ _); refine rw_negI ?_)
  | ((with_reducible show RLW _ (rLenQ _) [_] _ _); refine rw_len (by first | exact .t | exact .l | exact .r (by assumption)) ?_)
  | ((with_reducible show RLW _ rIntQ [.int _] _ _); refine rw_int ?_)
  | ((with_reducible show RLW _ rAbsQ [.int _] _ _); refine rw_abs ?_)
  | ((with_reducible show ∃ k, .bl _ = D.bl k ∧ _); refine ⟨_, rfl, ?_⟩)
  | ((with_reducible show ∃ k, .int _ = D.int k ∧ _); refine ⟨_, rfl, ?_⟩)
  | ((with_reducible show ∃ k, TruD _ (.bl _) k ∧ _); refine ⟨_, .bl, ?_⟩)
  | ((with_reducible show ∃ k, TruD _ (.int _) k ∧ _); refine ⟨_, .int, ?_⟩)
  | ((with_reducible show List.length _ ≤ 1000000 ∧ _); refine ⟨Nat.le_of_ble_eq_true rfl, ?_⟩)
  | ((with_reducible show ∃ S2, Sub S2 _ ∧ _); refine ⟨_, Sub.refl _, ?_⟩))
local macro_rules | `(tactic| walk_at "w*") => `(tactic| repeat walk_at "w")
local macro_rules | `(tactic| walk_at "le") => `(tactic| repeat first | exact Le.nil | exact Le.rfl | refine Le.som ?_ | refine Le.non ?_)
local macro_rules | `(tactic| walk_at "fz") => `(tactic| repeat first | exact Fz.nil | refine Fz.som ?_ | refine Fz.frz ?_ | refine Fz.non ?_)
local macro_rules | `(tactic| walk_at "cls") => `(tactic| first | exact cl_Net (by assumption) | exact cl_Standing (by assumption) | exact cl_Bill (by assumption) | exact cl_Trip (by assumption))
local macro_rules | `(tactic| walk_at "noat") => `(tactic| first | exact na_Net_stations (by assumption) | exact na_Net_ropes (by assumption) | exact na_Standing_net (by assumption) | exact na_Standing_reds (by assumption) | exact na_Standing_blues (by assumption) | exact na_Standing_cars (by assumption) | exact na_Bill_net (by assumption) | exact na_Bill_reds (by assumption) | exact na_Bill_blues (by assumption) | exact na_Trip_rides (by assumption))

local macro_rules | `(tactic| walk_at "w") => `(tactic| first
  | ((with_reducible show WI _ (iRng3 _) _ _ _); refine wi_rng3 ?_)
  | ((with_reducible show R2W _ (rIxU _) (.ref _) (.int 0) (potU _ _ _ _ _ _ _ _) _); refine rw_p0 ?_)
  | ((with_reducible show R2W _ (rIxU _) (.ref _) (.int 1) (potU _ _ _ _ _ _ _ _) _); refine rw_p1 ?_)
  | ((with_reducible show R2W _ (rIxU _) (.ref _) (.int 2) (potU _ _ _ _ _ _ _ _) _); refine rw_p2 ?_)
  | ((with_reducible show R2W _ (rIxU _) (.ref _) (.int 3) (potU _ _ _ _ _ _ _ _) _); refine rw_p3 ?_)
  | ((with_reducible show R2W _ (rIxU _) (.ref _) (.int 4) (potU _ _ _ _ _ _ _ _) _); refine rw_p4 ?_)
  | ((with_reducible show RSW _ rSetL (.ref _) (.int 1) (.int _) (potU _ _ _ _ _ _ _ _) _); refine rs_p1 ?_)
  | ((with_reducible show RSW _ rSetL (.ref _) (.int 2) (.int _) (potU _ _ _ _ _ _ _ _) _); refine rs_p2 ?_)
  | ((with_reducible show RSW _ rSetL (.ref _) (.int 3) (.int _) (potU _ _ _ _ _ _ _ _) _); refine rs_p3 ?_)
  | ((with_reducible show RSW _ rSetL (.ref _) (.int 4) (.int _) (potU _ _ _ _ _ _ _ _) _); refine rs_p4 ?_)
  | ((with_reducible show R2W _ rMulU (.int _) (.int _) _ _); refine rw_mulI (.inr ⟨by decide, by decide⟩) ?_)
  | ((with_reducible show R2W _ rMulU (.int _) (.int _) _ _); refine rw_mulI (.inl ⟨by decide, by decide⟩) ?_)
  | ((with_reducible show R2W _ rModI (.int _) (.int _) _ _); refine rw_modI (by decide) ?_)
  | ((with_reducible show R2W _ rDivI (.int _) (.int _) _ _); refine rw_divI (by decide) (by decide) ?_)
  | ((with_reducible show RLW _ rMax2Q [.int _, .int _] _ _); refine rw_max2 ?_)
  | ((with_reducible show RLW _ rMin2Q [.int _, .int _] _ _); refine rw_min2 ?_))

section
variable {P : Program} {w : World} {K : PySem.W.Frag} {mg : Str → Option Value} {base : Heap}
theorem ok__law_parts (T : Hd fn fa xs K mg) : FnE P w K mg base 7 (He.fAd K d__law_parts.at_) ps__law_parts (spOf K (sp__law_parts K)) := by
  refine T.ok _ ix__law_parts (N := N__law_parts) rfl sc__law_parts (fun ds S Φ ⟨_, _, _, _, _, e, _⟩ => by rw [e]; rfl) (fun _ _ _ _ _ _ us hl => ?_) fun cdv A outer s H E hr => ⟨_, dv__law_parts T (ok__law_stand T) (ok__law_words T) (ok_Trip___init__ T) (ok_Trip___add__ T) (ok__law_like T 2) (ok_bill_of T) (ok__law_bill T) (ok_Bill___add__ T) (ok_Bill___sub__ T) (ok__law_net_rides T) hr, ?_⟩
  · match us, hl with
    | [a, b, c, d, e, f, g], _ => rfl
  rintro _ S Φ ⟨n, es, f, rs, k, rfl, N, O, W, hz, hk, q⟩
  have hn := N.hi
  have hf := N.few
  have Ok1 := O.run N W k hk
  have W12 := (walkOk_append (n := n) (es := es) (f := f) (rs := rs.take k) (qs := rs.drop k)).mp (by rw [List.take_append_drop]; exact W)
  obtain ⟨W1, W2⟩ := W12
  have ht : (rs.take k).length ≤ rs.length := by rw [List.length_take]; exact Nat.min_le_right _ _
  have hd : (rs.drop k).length ≤ rs.length := by rw [List.length_drop]; omega
  have c1 : cutD (rs.map wD) none (some (k : Int)) = (rs.take k).map wD := by rw [cutD_map, cutD_to (Int.natCast_nonneg _), Int.toNat_natCast]
  have c2 : cutD (rs.map wD) (some (k : Int)) none = (rs.drop k).map wD := by rw [cutD_map, cutD_from (Int.natCast_nonneg _), Int.toNat_natCast]
  have c3 : cutD (rs.map rD) none (some (k : Int)) = (rs.take k).map rD := by rw [cutD_map, cutD_to (Int.natCast_nonneg _), Int.toNat_natCast]
  have ca : ∀ x, cr n es f (rs.take k) x + cr n es (run n es f (rs.take k)) (rs.drop k) x = cr n es f rs x := fun x => by
    rw [← cr_append, List.take_append_drop]
  have e0 : es.map (fun _ => D.int 0) = seqI es.length fun _ => 0 := by
    unfold seqI
    rw [List.map_const', List.map_const', List.length_range]
  unfold t__law_parts
  walk_at "w*"
  refine rw_key (k := 0) rfl (Nat.zero_le _) ?_
  walk_at "w*"
  refine ⟨n, es, f, rfl, N, O, ?_⟩
  walk_at "w*"
  refine rw_key (k := k) rfl hk ?_
  walk_at "w*"
  refine ⟨n, es, _, rfl, N, Ok1, ?_⟩
  walk_at "w*"
  refine ⟨_, rs, rfl, .l, by omega, ?_⟩
  walk_at "w*"
  refine rc_lst .l (fun _ => by intro e; cases e) ?_
  rw [c1]
  walk_at "w*"
  refine fun p hp => ⟨p, _, rs.take k, rfl, stU_same, .l, by omega, rfl, _, _, stU_same, ?_⟩
  rw [stU_U, stD_U hp]
  clear hp p
  walk_at "w*"
  refine rc_lst .l (fun _ => by intro e; cases e) ?_
  rw [c2]
  walk_at "w*"
  refine fun p hp => ⟨p, _, rs.drop k, rfl, stU_same, .l, by omega, rfl, _, _, stU_same, ?_⟩
  rw [stU_U, stD_U hp]
  clear hp p
  walk_at "w*"
  refine rw_own2 .o .o ⟨rs.take k, rs.drop k, rfl, by omega, by omega, ?_⟩
  rw [List.take_append_drop]
  walk_at "w*"
  refine rw_tuple .l ?_
  walk_at "w*"
  refine ⟨_, rfl, lk_words (by omega), ?_⟩
  walk_at "w*"
  refine iteF ?_
  walk_at "w*"
  refine rw_list .t ?_
  walk_at "w*"
  refine ⟨n, es, f, rs.take k, rfl, N, O, by omega, W1, ?_⟩
  walk_at "w*"
  refine rw_list .t ?_
  walk_at "w*"
  refine ⟨n, es, _, rs.drop k, rfl, N, Ok1, by omega, W2, ?_⟩
  walk_at "w*"
  refine rw_own2 .o .o ⟨n, es, _, _, rfl, by omega, ?_⟩
  walk_at "w*"
  rw [show (fun r => cr n es f (rs.take k) r + cr n es (run n es f (rs.take k)) (rs.drop k) r) = cr n es f rs from funext ca]
  refine ⟨n, es, _, rfl, by omega, ?_⟩
  walk_at "w*"
  refine iteF ?_
  walk_at "w*"
  refine w_lst ?_
  refine wa_cons ?_
  refine w_map (xs := es) (f := pD) (h := fun _ => .int 0) (go_name (by simp)) ?_
  walk_at "w*"
  refine ⟨_, .l, rfl, by omega, fun k hk => ?_, ?_⟩
  · walk_at "w*"
    exact ⟨rfl, rfl⟩
  refine wa_cons ?_
  refine w_map (xs := es) (f := pD) (h := fun _ => .int 0) (go_name (by simp)) ?_
  walk_at "w*"
  refine ⟨_, .l, rfl, by omega, fun k hk => ?_, ?_⟩
  · walk_at "w*"
    exact ⟨rfl, rfl⟩
  rw [e0]
  walk_at "w*"
  refine rw_own2 .o .o ⟨n, es, _, _, rfl, by omega, ?_⟩
  rw [show (fun r => cr n es f (rs.take k) r + cr n es (run n es f (rs.take k)) (rs.drop k) r) = cr n es f rs from funext ca]
  walk_at "w*"
  refine ⟨n, es, f, rs, rfl, N, O, by omega, W, ?_⟩
  walk_at "w*"
  refine rw_own2 .o .o ⟨n, es, _, _, rfl, by omega, ?_⟩
  rw [show (fun r => cr n es f rs r - cr n es f rs r) = fun _ => 0 from funext fun x => Int.sub_self _]
  walk_at "w*"
  refine ⟨n, es, fun _ => 0, rfl, by omega, ?_⟩
  walk_at "w*"
  refine iteF ?_
  walk_at "w*"
  refine rc_lst .l (fun _ => by intro e; cases e) ?_
  rw [c3]
  walk_at "w*"
  refine ⟨n, es, f, path n es f rs, rs.take k, rfl, N, O, W1, by omega, fun j hj => ?_, ?_⟩
  · unfold path
    rw [List.getElem?_map, List.getElem?_range (by omega)]
    have hjk : j < k := by rw [List.length_take] at hj; omega
    show some (run n es f (rs.take j)) = _
    rw [List.take_take, Nat.min_eq_left (by omega)]
  · walk_at "w*"
    exact ⟨n, es, _, rfl, by omega, ⟨_, Sub.refl _, q⟩⟩
end
end Tw


set_option Elab.async false
set_option linter.all false
set_option maxRecDepth 100000
set_option maxHeartbeats 4000000
namespace Tw
open PySem PySem.Spec PyProof.Rows L2
abbrev cntR (rs : List Ride) (r : Ride) : Nat := @List.count Ride instBEqOfDecidableEq r rs
abbrev cntD (rs : List Ride) (k : Nat) : D := .tup [.int (cntR rs (k, false) : Nat), .int (cntR rs (k, true) : Nat)]
theorem cntR_ge {n : Nat} {es : List (Nat × Nat)} {f : Conf} {rs : List Ride} {x : Ride} : ((cr n es f rs x).natAbs : Int) ≤ cntR rs x := by
  refine snocInd (P := fun rs => ((cr n es f rs x).natAbs : Int) ≤ cntR rs x) (by simp [cr_nil]) (fun l a ih => ?_) rs
  have e1 : cntR (l ++ [a]) x = cntR l x + cntR [a] x := @List.count_append Ride instBEqOfDecidableEq x l [a]
  rw [cr_snoc, e1]
  by_cases h : x = a
  · subst h
    rw [if_pos rfl]
    have := stp_pm (n := n) (f := run n es f l) (r := x)
    have e : cntR [x] x = 1 := by simp [cntR]
    rw [e]
    omega
  · rw [if_neg h]
    have e : cntR [a] x = 0 := (@List.count_eq_zero Ride instBEqOfDecidableEq _ x [a]).mpr (by simpa using h)
    rw [e]
    omega
def sp_Trip_tally (K : PySem.W.Frag) : Spec := fun ds S Φ => ∃ (rs : List Ride) (m : Nat), ds = [tripD K rs, .int m] ∧ m ≤ 1000 ∧ rs.length ≤ 1000 ∧ (∀ r ∈ rs, r.1 < m) ∧ Φ (.lst ((List.range m).map (cntD rs))) S
def sp__law_costs (K : PySem.W.Frag) : Spec := fun ds S Φ => ∃ (n : Nat) (es : List (Nat × Nat)) (f : Conf) (rs : List Ride), ds = [netD K n es, .int n, .lst (es.map pD), .lst ((path n es f rs).map (keyD n es.length)), .lst (rs.map rD), sumsD es.length (cr n es f rs)] ∧ NetOk n es ∧ Ok n es f ∧ walkOk n es f rs ∧ rs.length ≤ 100 ∧ Φ (.bl true) S
theorem sum_map_add : ∀ (l : List Nat) (f g : Nat → Int), (l.map fun k => f k + g k).sum = (l.map f).sum + (l.map g).sum := sum_add
theorem cost_law {m : Nat} {c : Ride → Int} : ((((List.range m).map fun k => c (k, false)) ++ (List.range m).map fun k => c (k, true)).map fun i => ((i.natAbs : Nat) : Int)).sum = costOf m c := by
  unfold costOf
  rw [sum_map_add, List.map_append, List.sum_append, List.map_map, List.map_map]
  rfl
theorem cost_neg {m : Nat} {c : Ride → Int} : costOf m (fun x => - c x) = costOf m c := by
  unfold costOf
  simp only [Int.natAbs_neg]
local macro_rules | `(tactic| walk_at "w") => `(tactic| first
  | ((with_reducible show WE _ (tVar _) _ _ _); refine w_var (by rfl) ?_)
  | ((with_reducible show WE _ (tC (.int _)) _ _ _); refine w_cI ?_)
  | ((with_reducible show WE _ (tC (.str _)) _ _ _); refine w_cS ?_)
  | ((with_reducible show WE _ (tC (.bl _)) _ _ _); refine w_cB ?_)
  | ((with_reducible show WE _ (tC .non) _ _ _); refine w_cN ?_)
  | ((with_reducible show WE _ (tC (.ty _)) _ _ _); refine w_cT ?_)
  | ((with_reducible show WE _ (tC (.ref _)) _ _ _); refine w_cR ?_)
  | ((with_reducible show WE _ (tOp _ _ _) _ _ _); refine w_op ?_)
  | ((with_reducible show WE _ (tUn _ _) _ _ _); refine w_un ?_)
  | ((with_reducible show WE _ (tChain _ _ _ _ _) _ _ _); refine w_chain ?_)
  | ((with_reducible show WE _ (tFld _ _ _) _ _ _); refine w_fld ?_)
  | ((with_reducible show WE _ (tIf _ _ _) _ _ _); refine w_ifE ?_)
  | ((with_reducible show WE _ (tTup _) _ _ _); refine w_tup ?_)
  | ((with_reducible show WE _ (tCB _ _) _ _ _); refine w_cb ?_)
  | ((with_reducible show WE _ (tCall _ _ _ _) _ _ _); refine w_call ?_)
  | ((with_reducible show WE _ (tMake _ _ _ _ _) _ _ _); refine w_make ?_)
  | ((with_reducible show WE _ (tMeth _ _ _ _ _ _ _) _ _ _); refine w_meth ?_)
  | ((with_reducible show WE _ (tSl _ _ _ _) _ _ _); refine w_sl ?_)
  | ((with_reducible show WE _ (tBM _ _ rAppend _ _) _ _ _); refine w_append (p := 0) (ds := []) ?_)
  | ((with_reducible show WE _ (tBM _ _ rExtend _ _) _ _ _); refine w_extend ?_)
  | ((with_reducible show WE _ (tBM _ _ rInsL _ _) _ _ _); refine w_insert ?_)
  | ((with_reducible show WE _ (tBM0 _ _ rPop _) _ _ _); refine w_pop ?_)
  | ((with_reducible show WE _ (tBM _ _ rPopAt _ _) _ _ _); refine w_popAt ?_)
  | ((with_reducible show WE _ (tBM _ _ (rCntD _) _ _) _ _ _); refine w_bmL ?_)
  | ((with_reducible show WE _ (tAndV _ _) _ _ _); refine w_andV ?_)
  | ((with_reducible show WE _ (tOrV _ _) _ _ _); refine w_orV ?_)
  | ((with_reducible show WE _ (tNotV _) _ _ _); refine w_notV ?_)
  | ((with_reducible show WA _ tNil _ _ _); refine wa_nil ?_)
  | ((with_reducible show WA _ (tCons _ _) _ _ _); refine wa_cons ?_)
  | ((with_reducible show WO _ tNoPart _ _ _); refine wo_none ?_)
  | ((with_reducible show WO _ (tPart _) _ _ _); refine wo_some ?_)
  | ((with_reducible show WT _ (tTest _) _ _ _); refine w_test ?_)
  | ((with_reducible show WT _ (tB _) _ _ _); refine w_tB ?_)
  | ((with_reducible show WT _ (tTru _ _) _ _ _); refine w_tru ?_)
  | ((with_reducible show WT _ (tTruO _ _) _ _ _); refine w_truO ?_)
  | ((with_reducible show WT _ (tAnd _ _) _ _ _); refine w_and ?_)
  | ((with_reducible show WT _ (tOr _ _) _ _ _); refine w_or ?_)
  | ((with_reducible show WT _ (tNot _) _ _ _); refine w_not ?_)
  | ((with_reducible show WT _ tYes _ _ _); refine wt_yes ?_)
  | ((with_reducible show WS _ (tSeq _ _) _ _ _); refine ws_seq ?_)
  | ((with_reducible show WS _ (tAsg _ (gName _)) _ _ _); refine ws_set ?_)
  | ((with_reducible show WS _ (tAsg _ _) _ _ _); refine ws_asg ?_)
  | ((with_reducible show WS _ (sFld _ _ _ _) _ _ _); refine ws_fld ?_)
  | ((with_reducible show WS _ (tDrop _) _ _ _); refine ws_drop ?_)
  | ((with_reducible show WS _ (tRet _) _ _ _); refine ws_ret ?_)
  | ((with_reducible show WS _ tRetN _ _ _); refine ws_retN ?_)
  | ((with_reducible show WS _ tNext _ _ _); refine ws_next ?_)
  | ((with_reducible show WS _ tBreak _ _ _); refine ws_break ?_)
  | ((with_reducible show WS _ tCont _ _ _); refine ws_cont ?_)
  | ((with_reducible show WS _ (tIfS _ _ _) _ _ _); refine ws_if ?_)
  | ((with_reducible show WS _ (tAug _ _ _) _ _ _); refine ws_aug (by rfl) ?_)
  | ((with_reducible show WS _ (tAugS _ _ _ _ _ _) _ _ _); refine ws_augS ?_)
  | ((with_reducible show WG _ (gName _) _ _ _ _); refine wg_name ?_)
  | ((with_reducible show WG _ (gTup _ _ _) (.tup _) _ _ _); refine wg_tup (by rfl) ?_)
  | ((with_reducible show WG _ (gSub _ _ _) _ _ _ _); refine wg_sub ?_)
  | ((with_reducible show WGs _ gNil [] _ _ _); refine wgs_nil ?_)
  | ((with_reducible show WGs _ (gCons _ _) (_ :: _) _ _ _); refine wgs_cons ?_)
  | ((with_reducible show WI _ (iRng1 _) _ _ _); refine wi_rng1 ?_)
  | ((with_reducible show WI _ (iRng2 _) _ _ _); refine wi_rng2 ?_)
  | ((with_reducible show WI _ (iSeqU _ _) _ _ _); refine wi_seq ?_)
  | ((with_reducible show WI _ (iEnumU _ _) _ _ _); refine wi_enum ?_)
  | ((with_reducible show WI _ (RZ.iZipA _ _) _ _ _); refine wi_zip ?_))
local macro_rules | `(tactic| walk_at "w") => `(tactic| first
  | ((with_reducible show ∃ C ns ds d, InsOf _ _ C ns ds ∧ _); refine ⟨_, _, _, _, .o, by walk_at "cls", by walk_at "noat", by rfl, ?_⟩)
  | ((with_reducible show R2W _ (rAddU _) (.int _) (.int _) _ _); refine rw_addI ?_)
  | ((with_reducible show R2W _ rSubI (.int _) (.int _) _ _); refine rw_subI ?_)
  | ((with_reducible show R2W _ rLtI (.int _) (.int _) _ _); refine rw_ltI ?_)
  | ((with_reducible show R2W _ rLeI (.int _) (.int _) _ _); refine rw_leI ?_)
  | ((with_reducible show R2W _ rGtI (.int _) (.int _) _ _); refine rw_gtI ?_)
  | ((with_reducible show R2W _ rGeI (.int _) (.int _) _ _); refine rw_geI ?_)
  | ((with_reducible show R2W _ (rEqU _) (.int _) (.int _) _ _); refine rw_eqUI ?_)
  | ((with_reducible show R2W _ (rEqU _) (.str _) (.str _) _ _); refine rw_eqUS ?_)
  | ((with_reducible show R2W _ (rNeU _) (.int _) (.int _) _ _); refine rw_neUI ?_)
  | ((with_reducible show R2W _ (rNeU _) (.str _) (.str _) _ _); refine rw_neUS ?_)
  | ((with_reducible show R1W _ rNegI (.int _) _ _); refine rw_negI ?_)
  | ((with_reducible show RLW _ (rLenQ _) [_] _ _); refine rw_len (by first | exact .t | exact .l | exact .r (by assumption)) ?_)
  | ((with_reducible show RLW _ rIntQ [.int _] _ _); refine rw_int ?_)
  | ((with_reducible show RLW _ rAbsQ [.int _] _ _); refine rw_abs ?_)
  | ((with_reducible show ∃ k, .bl _ = D.bl k ∧ _); refine ⟨_, rfl, ?_⟩)
  | ((with_reducible show ∃ k, .int _ = D.int k ∧ _); refine ⟨_, rfl, ?_⟩)
  | ((with_reducible show ∃ k, TruD _ (.bl _) k ∧ _); refine ⟨_, .bl, ?_⟩)
  | ((with_reducible show ∃ k, TruD _ (.int _) k ∧ _); refine ⟨_, .int, ?_⟩)
  | ((with_reducible show List.length _ ≤ 1000000 ∧ _); refine ⟨Nat.le_of_ble_eq_true rfl, ?_⟩)
  | ((with_reducible show ∃ S2, Sub S2 _ ∧ _); refine ⟨_, Sub.refl _, ?_⟩))
local macro_rules | `(tactic| walk_at "w*") => `(tactic| repeat walk_at "w")
local macro_rules | `(tactic| walk_at "le") => `(tactic| repeat first | exact Le.nil | exact Le.rfl | refine Le.som ?_ | refine Le.non ?_)
local macro_rules | `(tactic| walk_at "fz") => `(tactic| repeat first | exact Fz.nil | refine Fz.som ?_ | refine Fz.frz ?_ | refine Fz.non ?_)
local macro_rules | `(tactic| walk_at "cls") => `(tactic| first | exact cl_Net (by assumption) | exact cl_Standing (by assumption) | exact cl_Bill (by assumption) | exact cl_Trip (by assumption))
local macro_rules | `(tactic| walk_at "noat") => `(tactic| first | exact na_Net_stations (by assumption) | exact na_Net_ropes (by assumption) | exact na_Standing_net (by assumption) | exact na_Standing_reds (by assumption) | exact na_Standing_blues (by assumption) | exact na_Standing_cars (by assumption) | exact na_Bill_net (by assumption) | exact na_Bill_reds (by assumption) | exact na_Bill_blues (by assumption) | exact na_Trip_rides (by assumption))

local macro_rules | `(tactic| walk_at "w") => `(tactic| first
  | ((with_reducible show WI _ (iRng3 _) _ _ _); refine wi_rng3 ?_)
  | ((with_reducible show R2W _ (rIxU _) (.ref _) (.int 0) (potU _ _ _ _ _ _ _ _) _); refine rw_p0 ?_)
  | ((with_reducible show R2W _ (rIxU _) (.ref _) (.int 1) (potU _ _ _ _ _ _ _ _) _); refine rw_p1 ?_)
  | ((with_reducible show R2W _ (rIxU _) (.ref _) (.int 2) (potU _ _ _ _ _ _ _ _) _); refine rw_p2 ?_)
  | ((with_reducible show R2W _ (rIxU _) (.ref _) (.int 3) (potU _ _ _ _ _ _ _ _) _); refine rw_p3 ?_)
  | ((with_reducible show R2W _ (rIxU _) (.ref _) (.int 4) (potU _ _ _ _ _ _ _ _) _); refine rw_p4 ?_)
  | ((with_reducible show RSW _ rSetL (.ref _) (.int 1) (.int _) (potU _ _ _ _ _ _ _ _) _); refine rs_p1 ?_)
  | ((with_reducible show RSW _ rSetL (.ref _) (.int 2) (.int _) (potU _ _ _ _ _ _ _ _) _); refine rs_p2 ?_)
  | ((with_reducible show RSW _ rSetL (.ref _) (.int 3) (.int _) (potU _ _ _ _ _ _ _ _) _); refine rs_p3 ?_)
  | ((with_reducible show RSW _ rSetL (.ref _) (.int 4) (.int _) (potU _ _ _ _ _ _ _ _) _); refine rs_p4 ?_)
  | ((with_reducible show R2W _ rMulU (.int _) (.int _) _ _); refine rw_mulI (.inr ⟨by decide, by decide⟩) ?_)
  | ((with_reducible show R2W _ rMulU (.int _) (.int _) _ _); refine rw_mulI (.inl ⟨by decide, by decide⟩) ?_)
  | ((with_reducible show R2W _ rModI (.int _) (.int _) _ _); refine rw_modI (by decide) ?_)
  | ((with_reducible show R2W _ rDivI (.int _) (.int _) _ _); refine rw_divI (by decide) (by decide) ?_)
  | ((with_reducible show RLW _ rMax2Q [.int _, .int _] _ _); refine rw_max2 ?_)
  | ((with_reducible show RLW _ rMin2Q [.int _, .int _] _ _); refine rw_min2 ?_))

section
variable {P : Program} {w : World} {K : PySem.W.Frag} {mg : Str → Option Value} {base : Heap}
theorem ok__law_costs (T : Hd fn fa xs K mg) (ht : FnE P w K mg base 1 (He.fAd K d_Trip_tally.at_) ps_Trip_tally (spOf K (sp_Trip_tally K))) : FnE P w K mg base 7 (He.fAd K d__law_costs.at_) ps__law_costs (spOf K (sp__law_costs K)) := by
  refine T.ok _ ix__law_costs (N := N__law_costs) rfl sc__law_costs (fun ds S Φ ⟨_, _, _, _, e, _⟩ => by rw [e]; rfl) (fun _ _ _ _ _ _ us hl => ?_) fun cdv A outer s H E hr => ⟨_, dv__law_costs T (ok__law_stand T) (ok_bill_of T) (ok__law_words T) (ok__law_reduced T) (ok__law_like T 2) (ok_Bill_cost T) (ok_Bill_leads T) (ok_Bill___neg__ T) ht (ok_Trip___init__ T) hr, ?_⟩
  · match us, hl with
    | [a, b, c, d, e, f], _ => rfl
  rintro _ S Φ ⟨n, es, f, rs, rfl, N, O, W, hz, q⟩
  have hn := N.hi
  have hf := N.few
  have Or := O.runs N W
  obtain ⟨R1, R2, R3⟩ := red_ok N O W
  obtain ⟨B1, B2, B3⟩ := back_ok N O W
  have hrl := red_len (rs := rs)
  obtain ⟨j, hj⟩ := cost_le R1
  rw [show cr n es f (red rs) = cr n es f rs from funext R3] at hj
  unfold t__law_costs
  walk_at "w*"
  refine rw_key (k := 0) rfl (Nat.zero_le _) ?_
  walk_at "w*"
  refine ⟨n, es, f, rfl, N, O, ?_⟩
  walk_at "w*"
  refine rw_keyL ?_
  walk_at "w*"
  refine ⟨n, es, _, rfl, N, Or, ?_⟩
  walk_at "w*"
  refine ⟨_, rs, rfl, .l, by omega, ?_⟩
  walk_at "w*"
  refine ⟨n, es, f, rs, rfl, N, O, by omega, W, ?_⟩
  walk_at "w*"
  refine w_map (xs := ((List.range es.length).map fun k => cr n es f rs (k, false)) ++ (List.range es.length).map fun k => cr n es f rs (k, true)) (f := fun i => .int i) (h := fun i => .int (i.natAbs : Nat)) (go_name (by simp)) ?_
  walk_at "w*"
  refine rw_ix .l rfl ?_
  walk_at "w*"
  refine rw_ix .l rfl ?_
  refine rw_addL .l .l (by rw [seqI_len, seqI_len]; omega) ?_
  refine ⟨_, .l, by rw [List.map_append, List.map_map, List.map_map]; rfl, by simp; omega, fun k hk => ?_, ?_⟩
  · walk_at "w*"
    exact ⟨rfl, rfl⟩
  walk_at "w*"
  refine rw_sum (ns := (((List.range es.length).map fun k => cr n es f rs (k, false)) ++ (List.range es.length).map fun k => cr n es f rs (k, true)).map fun i => ((i.natAbs : Nat) : Int)) (by rw [List.map_map]; exact .l) ?_
  rw [cost_law]
  walk_at "w*"
  refine ⟨rs, rfl, by omega, ?_⟩
  walk_at "w*"
  rw [List.length_map]
  have nn : ∀ F, RepL K F [V.non] [D.non] := fun F => .cons .non .nil
  refine w_methD (dds := [.non]) nn ?_
  walk_at "w*"
  refine ⟨_, _, .o, by decide, ?_⟩
  walk_at "w*"
  refine ⟨n, es, _, rfl, by omega, ?_⟩
  walk_at "w*"
  refine ⟨_, rfl, LkD.int, ?_⟩
  walk_at "w*"
  refine iteF ?_
  walk_at "w*"
  refine ifD (fun h => absurd h (by omega)) (fun _ => ?_)
  walk_at "w*"
  rw [decide_eq_true (show ((red rs).length - costOf es.length (cr n es f rs) : Int) % 2 = 0 by rw [hj]; omega)]
  refine iteF ?_
  walk_at "w*"
  refine ⟨_, _, .o, by decide, ?_⟩
  walk_at "w*"
  refine ⟨n, es, _, f, _, rfl, N, lead_cars N O W, fun s hs => ?_, fun s hs => lead_flow N O true W s hs, ?_⟩
  · have := lead_flow N O false W s hs
    rw [show off n false = 0 from rfl, Nat.zero_add] at this
    exact this
  walk_at "w*"
  refine ⟨_, rfl, LkD.bl, ?_⟩
  walk_at "w*"
  refine iteF ?_
  walk_at "w*"
  refine rw_own1 .o ⟨n, es, _, rfl, by omega, ?_⟩
  rw [show (fun r => - cr n es f rs r) = cr n es (run n es f rs) rs.reverse from funext fun x => (B3 x).symm]
  walk_at "w*"
  refine ⟨_, _, .o, by decide, ?_⟩
  walk_at "w*"
  have L1 := lead_cars N Or B1
  have L2 := lead_flow N Or false B1
  have L3 := lead_flow N Or true B1
  rw [B2] at L1 L2 L3
  refine ⟨n, es, _, _, f, rfl, N, L1, fun s hs => ?_, L3, ?_⟩
  · have := L2 s hs
    rw [show off n false = 0 from rfl, Nat.zero_add] at this
    exact this
  walk_at "w*"
  refine ⟨_, rfl, LkD.bl, ?_⟩
  walk_at "w*"
  refine iteF ?_
  refine w_not (w_tru (w_call (wa_cons ?_)))
  refine w_methD (dds := [.non]) nn ?_
  walk_at "w*"
  refine ⟨_, _, .o, by decide, ?_⟩
  walk_at "w*"
  refine ⟨n, es, _, rfl, by omega, ?_⟩
  rw [show cr n es (run n es f rs) rs.reverse = fun r => - cr n es f rs r from funext B3, cost_neg]
  walk_at "w*"
  refine ⟨_, rfl, LkD.int, ?_⟩
  walk_at "w*"
  refine iteF ?_
  walk_at "w*"
  refine ⟨_, rs, rfl, .l, by omega, ?_⟩
  walk_at "w*"
  refine fun p hp => ⟨p, _, rs, rfl, stU_same, .l, by omega, rfl, _, _, stU_same, ?_⟩
  rw [stU_U, stD_U hp]
  clear hp p
  refine ⟨_, _, .o, by decide, ?_⟩
  walk_at "w*"
  rw [List.length_map]
  refine ⟨rs, es.length, rfl, by omega, by omega, walkOk_lt W, ?_⟩
  walk_at "w*"
  refine w_lstM ?_
  walk_at "w*"
  refine fun p hp => ?_
  walk_at "w*"
  refine ws_forE ?_
  walk_at "w*"
  rw [List.length_map]
  refine ⟨es.length, rfl, by omega, by omega, fun i => [none, none, none, none, some (.lst (rs.map rD)), some (sumsD es.length (cr n es f rs)), none, none, none, none, none, none, some (.lst ((List.range es.length).map (cntD rs))), some (.ref p), none, none],
    fun i S' => S' = stU S p (.lst ((List.range i).map (cntD rs))), by walk_at "le", rfl, fun i y S' hy e => ?_, fun S' e => ?_⟩
  · subst e
    obtain ⟨k, hk, rfl⟩ := map_get hy
    have hk' := (List.getElem?_eq_some_iff.mp hk).1
    rw [List.length_range] at hk'
    rw [List.getElem?_range hk'] at hk
    cases hk
    have hi : i < es.length := by omega
    rw [Int.zero_add]
    have G0 := cntR_ge (n := n) (es := es) (f := f) (rs := rs) (x := (i, false))
    have G1 := cntR_ge (n := n) (es := es) (f := f) (rs := rs) (x := (i, true))
    walk_at "w*"
    refine ⟨_, _, rfl, stU_same, ?_⟩
    walk_at "w*"
    refine ⟨_, .l, ?_⟩
    walk_at "w*"
    refine rm_countD emb_r (a := (i, false)) (as := rs) (by decide) ?_
    walk_at "w*"
    refine ⟨_, .l, ?_⟩
    walk_at "w*"
    refine rm_countD emb_r (a := (i, true)) (as := rs) (by decide) ?_
    walk_at "w*"
    refine ⟨_, stU_same, by rw [List.length_map, List.length_range]; omega, ?_⟩
    rw [stU_U, show (List.range i).map (cntD rs) ++ [cntD rs i] = (List.range (i + 1)).map (cntD rs) by rw [List.range_succ, List.map_append]; rfl]
    have rd : ∀ (Φ' : D → Store → Prop), Φ' (cntD rs i) (stU S p (.lst ((List.range (i + 1)).map (cntD rs)))) → R2W K (rIxU K) (.ref p) (.int i) (stU S p (.lst ((List.range (i + 1)).map (cntD rs)))) Φ' := fun Φ' z => by
      refine rw_ixn (xs := List.range (i + 1)) (f := cntD rs) 0 (.r stU_same) (by simp) ?_
      rw [getD_range (Nat.lt_succ_self i)]
      exact z
    walk_at "w*"
    refine rd _ ?_
    walk_at "w*"
    refine rw_ix .t rfl ?_
    walk_at "w*"
    refine rw_ix .l rfl ?_
    walk_at "w*"
    refine rw_ixr .l hi ?_
    walk_at "w*"
    refine ifD (fun h => absurd h (by omega)) (fun _ => ?_)
    walk_at "w*"
    refine rd _ ?_
    walk_at "w*"
    refine rw_ix .t rfl ?_
    walk_at "w*"
    refine rw_ix .l rfl ?_
    walk_at "w*"
    refine rw_ixr .l hi ?_
    walk_at "w*"
    refine ifD (fun h => absurd h (by omega)) (fun _ => ?_)
    walk_at "w*"
    exact ⟨by walk_at "le", rfl⟩
  · subst e
    have e0 : (rng 0 (es.length : Int).toNat).length = es.length := by simp [rng]
    rw [e0]
    refine ws_fz stU_same (Γ' := [none, none, none, none, none, none, none, none, none, none, none, none, some (.lst ((List.range es.length).map (cntD rs))), some (.lst _), none, none]) (by walk_at "fz") ?_
    rw [stD_U hp]
    walk_at "w*"
    refine ⟨_, rfl, (LkD.seq (by rw [List.length_map, List.length_range]; omega) fun x hx => ?_).1, ⟨_, Sub.refl _, q⟩⟩
    obtain ⟨k, _, rfl⟩ := List.mem_map.mp hx
    exact (LkD.seq (Nat.le_of_ble_eq_true rfl) fun y hy => by
      rcases List.mem_cons.mp hy with rfl | hy
      · exact LkD.int
      · rcases List.mem_cons.mp hy with rfl | hy
        · exact LkD.int
        · simp at hy).2
end
end Tw


set_option Elab.async false
set_option linter.all false
set_option maxRecDepth 100000
set_option maxHeartbeats 4000000
namespace Tw
open PySem PySem.Spec PyProof.Rows L2
theorem cntR_take {rs : List Ride} {i : Nat} {r : Ride} (h : rs[i]? = some r) (x : Ride) : ((cntR (rs.take (i + 1)) x : Nat) : Int) = (cntR (rs.take i) x : Nat) + if x = r then 1 else 0 := by
  rw [take_snoc h]
  have e1 : cntR (rs.take i ++ [r]) x = cntR (rs.take i) x + cntR [r] x := @List.count_append Ride instBEqOfDecidableEq x _ [r]
  rw [e1]
  by_cases hx : x = r
  · subst hx
    rw [if_pos rfl]
    have e : cntR [x] x = 1 := by simp [cntR]
    rw [e]; rfl
  · rw [if_neg hx]
    have e : cntR [r] x = 0 := (@List.count_eq_zero Ride instBEqOfDecidableEq _ x [r]).mpr (by simpa using hx)
    rw [e]; rfl
local macro_rules | `(tactic| walk_at "w") => `(tactic| first
  | ((with_reducible show WE _ (tVar _) _ _ _); refine w_var (by rfl) ?_)
  | ((with_reducible show WE _ (tC (.int _)) _ _ _); refine w_cI ?_)
  | ((with_reducible show WE _ (tC (.str _)) _ _ _); refine w_cS ?_)
  | ((with_reducible show WE _ (tC (.bl _)) _ _ _); refine w_cB ?_)
  | ((with_reducible show WE _ (tC .non) _ _ _); refine w_cN ?_)
  | ((with_reducible show WE _ (tC (.ty _)) _ _ _); refine w_cT ?_)
  | ((with_reducible show WE _ (tC (.ref _)) _ _ _); refine w_cR ?_)
  | ((with_reducible show WE _ (tOp _ _ _) _ _ _); refine w_op ?_)
  | ((with_reducible show WE _ (tUn _ _) _ _ _); refine w_un ?_)
  | ((with_reducible show WE _ (tChain _ _ _ _ _) _ _ _); refine w_chain ?_)
  | ((with_reducible show WE _ (tFld _ _ _) _ _ _); refine w_fld ?_)
  | ((with_reducible show WE _ (tIf _ _ _) _ _ _); refine w_ifE ?_)
  | ((with_reducible show WE _ (tTup _) _ _ _); refine w_tup ?_)
  | ((with_reducible show WE _ (tCB _ _) _ _ _); refine w_cb ?_)
  | ((with_reducible show WE _ (tCall _ _ _ _) _ _ _); refine w_call ?_)
  | ((with_reducible show WE _ (tMake _ _ _ _ _) _ _ _); refine w_make ?_)
  | ((with_reducible show WE _ (tMeth _ _ _ _ _ _ _) _ _ _); refine w_meth ?_)
  | ((with_reducible show WE _ (tSl _ _ _ _) _ _ _); refine w_sl ?_)
  | ((with_reducible show WE _ (tBM _ _ rAppend _ _) _ _ _); refine w_append (p := 0) (ds := []) ?_)
  | ((with_reducible show WE _ (tBM _ _ rExtend _ _) _ _ _); refine w_extend ?_)
  | ((with_reducible show WE _ (tBM _ _ rInsL _ _) _ _ _); refine w_insert ?_)
  | ((with_reducible show WE _ (tBM0 _ _ rPop _) _ _ _); refine w_pop ?_)
  | ((with_reducible show WE _ (tBM _ _ rPopAt _ _) _ _ _); refine w_popAt ?_)
  | ((with_reducible show WE _ (tBM _ _ (rCntD _) _ _) _ _ _); refine w_bmL ?_)
  | ((with_reducible show WE _ (tAndV _ _) _ _ _); refine w_andV ?_)
  | ((with_reducible show WE _ (tOrV _ _) _ _ _); refine w_orV ?_)
  | ((with_reducible show WE _ (tNotV _) _ _ _); refine w_notV ?_)
  | ((with_reducible show WA _ tNil _ _ _); refine wa_nil ?_)
  | ((with_reducible show WA _ (tCons _ _) _ _ _); refine wa_cons ?_)
  | ((with_reducible show WO _ tNoPart _ _ _); refine wo_none ?_)
  | ((with_reducible show WO _ (tPart _) _ _ _); refine wo_some ?_)
  | ((with_reducible show WT _ (tTest _) _ _ _); refine w_test ?_)
  | ((with_reducible show WT _ (tB _) _ _ _); refine w_tB ?_)
  | ((with_reducible show WT _ (tTru _ _) _ _ _); refine w_tru ?_)
  | ((with_reducible show WT _ (tTruO _ _) _ _ _); refine w_truO ?_)
  | ((with_reducible show WT _ (tAnd _ _) _ _ _); refine w_and ?_)
  | ((with_reducible show WT _ (tOr _ _) _ _ _); refine w_or ?_)
  | ((with_reducible show WT _ (tNot _) _ _ _); refine w_not ?_)
  | ((with_reducible show WT _ tYes _ _ _); refine wt_yes ?_)
  | ((with_reducible show WS _ (tSeq _ _) _ _ _); refine ws_seq ?_)
  | ((with_reducible show WS _ (tAsg _ (gName _)) _ _ _); refine ws_set ?_)
  | ((with_reducible show WS _ (tAsg _ _) _ _ _); refine ws_asg ?_)
  | ((with_reducible show WS _ (sFld _ _ _ _) _ _ _); refine ws_fld ?_)
  | ((with_reducible show WS _ (tDrop _) _ _ _); refine ws_drop ?_)
  | ((with_reducible show WS _ (tRet _) _ _ _); refine ws_ret ?_)
  | ((with_reducible show WS _ tRetN _ _ _); refine ws_retN ?_)
  | ((with_reducible show WS _ tNext _ _ _); refine ws_next ?_)
  | ((with_reducible show WS _ tBreak _ _ _); refine ws_break ?_)
  | ((with_reducible show WS _ tCont _ _ _); refine ws_cont ?_)
  | ((with_reducible show WS _ (tIfS _ _ _) _ _ _); refine ws_if ?_)
  | ((with_reducible show WS _ (tAug _ _ _) _ _ _); refine ws_aug (by rfl) ?_)
  | ((with_reducible show WS _ (tAugS _ _ _ _ _ _) _ _ _); refine ws_augS ?_)
  | ((with_reducible show WG _ (gName _) _ _ _ _); refine wg_name ?_)
  | ((with_reducible show WG _ (gTup _ _ _) (.tup _) _ _ _); refine wg_tup (by rfl) ?_)
  | ((with_reducible show WG _ (gSub _ _ _) _ _ _ _); refine wg_sub ?_)
  | ((with_reducible show WGs _ gNil [] _ _ _); refine wgs_nil ?_)
  | ((with_reducible show WGs _ (gCons _ _) (_ :: _) _ _ _); refine wgs_cons ?_)
  | ((with_reducible show WI _ (iRng1 _) _ _ _); refine wi_rng1 ?_)
  | ((with_reducible show WI _ (iRng2 _) _ _ _); refine wi_rng2 ?_)
  | ((with_reducible show WI _ (iSeqU _ _) _ _ _); refine wi_seq ?_)
  | ((with_reducible show WI _ (iEnumU _ _) _ _ _); refine wi_enum ?_)
  | ((with_reducible show WI _ (RZ.iZipA _ _) _ _ _); refine wi_zip ?_))
local macro_rules | `(tactic| walk_at "w") => `(tactic| first
  | ((with_reducible show ∃ C ns ds d, InsOf _ _ C ns ds ∧ _); refine ⟨_, _, _, _, .o, by walk_at "cls", by walk_at "noat", by rfl, ?_⟩)
  | ((with_reducible show R2W _ (rAddU _) (.int _) (.int _) _ _); refine rw_addI ?_)
  | ((with_reducible show R2W _ rSubI (.int _) (.int _) _ _); refine rw_subI ?_)
  | ((with_reducible show R2W _ rLtI (.int _) (.int _) _ _); refine rw_ltI ?_)
  | ((with_reducible show R2W _ rLeI (.int _) (.int _) _ _); refine rw_leI ?_)
  | ((with_reducible show R2W _ rGtI (.int _) (.int _) _ _); refine rw_gtI ?_)
  | ((with_reducible show R2W _ rGeI (.int _) (.int _) _ _); refine rw_geI ?_)
  | ((with_reducible show R2W _ (rEqU _) (.int _) (.int _) _ _); refine rw_eqUI ?_)
  | ((with_reducible show R2W _ (rEqU _) (.str _) (.str _) _ _); refine rw_eqUS ?_)
  | ((with_reducible show R2W _ (rNeU _) (.int _) (.int _) _ _); refine rw_neUI ?_)
  | ((with_reducible show R2W _ (rNeU _) (.str _) (.str _) _ _); refine rw_neUS ?_)
  | ((with_reducible show R1W _ rNegI (.int _) _ _); refine rw_negI ?_)
  | ((with_reducible show RLW _ (rLenQ _) [_] _ _); refine rw_len (by first | exact .t | exact .l | exact .r (by assumption)) ?_)
  | ((with_reducible show RLW _ rIntQ [.int _] _ _); refine rw_int ?_)
  | ((with_reducible show RLW _ rAbsQ [.int _] _ _); refine rw_abs ?_)
  | ((with_reducible show ∃ k, .bl _ = D.bl k ∧ _); refine ⟨_, rfl, ?_⟩)
  | ((with_reducible show ∃ k, .int _ = D.int k ∧ _); refine ⟨_, rfl, ?_⟩)
  | ((with_reducible show ∃ k, TruD _ (.bl _) k ∧ _); refine ⟨_, .bl, ?_⟩)
  | ((with_reducible show ∃ k, TruD _ (.int _) k ∧ _); refine ⟨_, .int, ?_⟩)
  | ((with_reducible show List.length _ ≤ 1000000 ∧ _); refine ⟨Nat.le_of_ble_eq_true rfl, ?_⟩)
  | ((with_reducible show ∃ S2, Sub S2 _ ∧ _); refine ⟨_, Sub.refl _, ?_⟩))
local macro_rules | `(tactic| walk_at "w*") => `(tactic| repeat walk_at "w")
local macro_rules | `(tactic| walk_at "le") => `(tactic| repeat first | exact Le.nil | exact Le.rfl | refine Le.som ?_ | refine Le.non ?_)
local macro_rules | `(tactic| walk_at "fz") => `(tactic| repeat first | exact Fz.nil | refine Fz.som ?_ | refine Fz.frz ?_ | refine Fz.non ?_)
local macro_rules | `(tactic| walk_at "cls") => `(tactic| first | exact cl_Net (by assumption) | exact cl_Standing (by assumption) | exact cl_Bill (by assumption) | exact cl_Trip (by assumption))
local macro_rules | `(tactic| walk_at "noat") => `(tactic| first | exact na_Net_stations (by assumption) | exact na_Net_ropes (by assumption) | exact na_Standing_net (by assumption) | exact na_Standing_reds (by assumption) | exact na_Standing_blues (by assumption) | exact na_Standing_cars (by assumption) | exact na_Bill_net (by assumption) | exact na_Bill_reds (by assumption) | exact na_Bill_blues (by assumption) | exact na_Trip_rides (by assumption))

local macro_rules | `(tactic| walk_at "w") => `(tactic| first
  | ((with_reducible show WI _ (iRng3 _) _ _ _); refine wi_rng3 ?_)
  | ((with_reducible show R2W _ (rIxU _) (.ref _) (.int 0) (potU _ _ _ _ _ _ _ _) _); refine rw_p0 ?_)
  | ((with_reducible show R2W _ (rIxU _) (.ref _) (.int 1) (potU _ _ _ _ _ _ _ _) _); refine rw_p1 ?_)
  | ((with_reducible show R2W _ (rIxU _) (.ref _) (.int 2) (potU _ _ _ _ _ _ _ _) _); refine rw_p2 ?_)
  | ((with_reducible show R2W _ (rIxU _) (.ref _) (.int 3) (potU _ _ _ _ _ _ _ _) _); refine rw_p3 ?_)
  | ((with_reducible show R2W _ (rIxU _) (.ref _) (.int 4) (potU _ _ _ _ _ _ _ _) _); refine rw_p4 ?_)
  | ((with_reducible show RSW _ rSetL (.ref _) (.int 1) (.int _) (potU _ _ _ _ _ _ _ _) _); refine rs_p1 ?_)
  | ((with_reducible show RSW _ rSetL (.ref _) (.int 2) (.int _) (potU _ _ _ _ _ _ _ _) _); refine rs_p2 ?_)
  | ((with_reducible show RSW _ rSetL (.ref _) (.int 3) (.int _) (potU _ _ _ _ _ _ _ _) _); refine rs_p3 ?_)
  | ((with_reducible show RSW _ rSetL (.ref _) (.int 4) (.int _) (potU _ _ _ _ _ _ _ _) _); refine rs_p4 ?_)
  | ((with_reducible show R2W _ rMulU (.int _) (.int _) _ _); refine rw_mulI (.inr ⟨by decide, by decide⟩) ?_)
  | ((with_reducible show R2W _ rMulU (.int _) (.int _) _ _); refine rw_mulI (.inl ⟨by decide, by decide⟩) ?_)
  | ((with_reducible show R2W _ rModI (.int _) (.int _) _ _); refine rw_modI (by decide) ?_)
  | ((with_reducible show R2W _ rDivI (.int _) (.int _) _ _); refine rw_divI (by decide) (by decide) ?_)
  | ((with_reducible show RLW _ rMax2Q [.int _, .int _] _ _); refine rw_max2 ?_)
  | ((with_reducible show RLW _ rMin2Q [.int _, .int _] _ _); refine rw_min2 ?_))

section
variable {P : Program} {w : World} {K : PySem.W.Frag} {mg : Str → Option Value} {base : Heap}
theorem ok_Trip_tally (T : Hd fn fa xs K mg) : FnE P w K mg base 1 (He.fAd K d_Trip_tally.at_) ps_Trip_tally (spOf K (sp_Trip_tally K)) := by
  refine T.ok _ ix_Trip_tally (N := N_Trip_tally) rfl sc_Trip_tally (fun ds S Φ ⟨_, _, e, _⟩ => by rw [e]; rfl) (fun _ _ _ _ _ _ us hl => ?_) fun cdv A outer s H E hr => ⟨_, dv_Trip_tally T hr, ?_⟩
  · match us, hl with
    | [a, b], _ => rfl
  rintro _ S Φ ⟨rs, m, rfl, hm, hz, hlt, q⟩
  unfold t_Trip_tally
  walk_at "w*"
  refine ifD (fun h => by omega) (fun _ => ?_)
  walk_at "w*"
  refine ws_forN [some (tripD K rs), some (.int m), none, none, none, none] (by walk_at "le") ?_
  walk_at "w*"
  refine ⟨_, .t, fun i y hy => ?_, ?_⟩
  · obtain ⟨r, hr', rfl⟩ := map_get hy
    have hk := hlt r (List.mem_of_getElem? hr')
    walk_at "w*"
    refine ifD (fun h => by omega) (fun _ => ?_)
    walk_at "w*"
    exact ⟨by walk_at "le", rfl⟩
  walk_at "w*"
  refine w_lst ?_
  walk_at "w*"
  refine rw_mulM (by omega) (by omega) fun p hp => ?_
  walk_at "w*"
  refine w_lst ?_
  walk_at "w*"
  refine rw_mulM (by omega) (by omega) fun p2 hp2 => ?_
  have hpp : p ≠ p2 := fun e => by rw [← e, stU_same] at hp2; cases hp2
  have hS2 : S p2 = none := by rw [stU_ne (Ne.symm hpp)] at hp2; exact hp2
  have e0 : ∀ b, List.replicate ((m : Nat) : Int).toNat (D.int 0) = seqI m fun k => (cntR (rs.take 0) (k, b) : Nat) := fun b => by
    have : (fun i : Nat => D.int ((cntR (rs.take 0) (i, b) : Nat) : Int)) = fun _ => D.int 0 := by
      funext i
      rw [List.take_zero]
      rfl
    show _ = (List.range m).map (fun i : Nat => D.int ((cntR (rs.take 0) (i, b) : Nat) : Int))
    rw [this, List.map_const']
    simp
  rw [e0 false]
  walk_at "w*"
  refine ws_forE ?_
  walk_at "w*"
  refine ⟨_, .t, fun i => [some (tripD K rs), some (.int m), none, none, some (.ref p), some (.ref p2)],
    fun i S' => S' = stU (stU S p (.lst (seqI m fun k => (cntR (rs.take i) (k, false) : Nat)))) p2 (.lst (seqI m fun k => (cntR (rs.take i) (k, true) : Nat))), by walk_at "le", rfl, fun i y S' hy e => ?_, fun S' e => ?_⟩
  · subst e
    obtain ⟨r, hr', rfl⟩ := map_get hy
    have hk2 := hlt r (List.mem_of_getElem? hr')
    obtain ⟨k, b⟩ := r
    have hst := cntR_take hr'
    dsimp only at hk2
    walk_at "w*"
    rw [colS_red]
    cases b
    · dsimp only [Bool.not_true, Bool.not_false]
      refine iteT ?_
      walk_at "w*"
      refine ⟨_, _, _, (cntR (rs.take i) (k, false) : Nat), rfl, rfl, Int.natCast_nonneg _, (by rw [stU_comm hpp]; exact stU_same), by rw [Int.toNat_natCast, List.getElem?_map, List.getElem?_range hk2]; rfl, ?_⟩
      walk_at "w*"
      refine ⟨_, _, rfl, (by rw [stU_comm hpp]; exact stU_same), by rw [seqI_len, Int.toNat_natCast]; exact hk2, ?_⟩
      refine ⟨by walk_at "le", (stU2_l hpp).trans ?_⟩
      rw [Int.toNat_natCast, seqI_set hk2]
      refine stU2_congr (seqI_congr fun j hj => ?_) (seqI_congr fun j hj => ?_)
      · rw [hst]
        by_cases hj' : j = k
        · subst hj'; rw [if_pos rfl, if_pos rfl]
        · rw [if_neg hj', if_neg (fun e => hj' (congrArg Prod.fst e)), Int.add_zero]
      · rw [hst, if_neg (fun e => by cases e), Int.add_zero]
    · dsimp only [Bool.not_true, Bool.not_false]
      refine iteF ?_
      walk_at "w*"
      refine ⟨_, _, _, (cntR (rs.take i) (k, true) : Nat), rfl, rfl, Int.natCast_nonneg _, stU_same, by rw [Int.toNat_natCast, List.getElem?_map, List.getElem?_range hk2]; rfl, ?_⟩
      walk_at "w*"
      refine ⟨_, _, rfl, stU_same, by rw [seqI_len, Int.toNat_natCast]; exact hk2, ?_⟩
      refine ⟨by walk_at "le", stU_U.trans ?_⟩
      rw [Int.toNat_natCast, seqI_set hk2]
      refine stU2_congr (seqI_congr fun j hj => ?_) (seqI_congr fun j hj => ?_)
      · rw [hst]
        rw [if_neg (fun e => by cases e), Int.add_zero]
      · rw [hst]
        by_cases hj' : j = k
        · subst hj'; rw [if_pos rfl, if_pos rfl]
        · rw [if_neg hj', if_neg (fun e => hj' (congrArg Prod.fst e)), Int.add_zero]
  · subst e
    dsimp only
    rw [List.length_map, List.take_length]
    walk_at "w*"
    refine w_lzip ?_
    walk_at "w*"
    refine ⟨_, _, _, _, rfl, .r (by rw [stU_comm hpp]; exact stU_same), .r stU_same, by rw [seqI_len, seqI_len], ?_⟩
    have e1 : List.zipWith (fun a b => D.tup [a, b]) (seqI m fun k => (cntR rs (k, false) : Nat)) (seqI m fun k => (cntR rs (k, true) : Nat)) = (List.range m).map (cntD rs) := by
      unfold seqI
      rw [List.zipWith_map, List.zipWith_self]
    rw [e1]
    exact ⟨S, (Sub.new hp).trans (Sub.new (by rw [stU_ne (Ne.symm hpp)]; exact hS2)), q⟩
end
end Tw


set_option Elab.async false
set_option linter.all false
set_option maxRecDepth 100000
set_option maxHeartbeats 4000000
namespace Tw
open PySem PySem.Spec PyProof.Rows L2
section
variable {P : Program} {w : World} {K : PySem.W.Frag} {mg : Str → Option Value} {base : Heap}
theorem dv__law_likeH (T : Hd fn fa xs K mg) {sp__law_like : Spec} {k : Nat} (h__law_like : FnHE P w K mg base k (He.fAd K d__law_like.at_) ps__law_like (spOf K sp__law_like)) {cdv : Value} {A : Around} {outer : List PySem.Env} {s : Shared} {H : Hp} {E : XK} {p : Addr × Obj} (hot1 : L2H.Hot1 A p) (hr : L2H.RoomH k (A.deeper (envOfC d__law_like.qual d__law_like.scope s.heap.objs.size (He.fAd K d__law_like.at_) cdv))) :
    PSs (L2H.cxH CX0 P w K mg base N__law_like d__law_like.qual d__law_like.scope (He.fAd K d__law_like.at_) cdv A outer s H E p) d__law_like.body (t__law_like K sp__law_like) :=
  have nd := sc__law_like.nd
  have hot : L2H.HotC (L2H.cxH CX0 P w K mg base N__law_like d__law_like.qual d__law_like.scope (He.fAd K d__law_like.at_) cdv A outer s H E p) := ⟨p, hot1, List.mem_cons_self⟩
  (pss_cons (ps_if (pt_cmpR op_isNo (pe_var (i := 1) rfl (.inr (.inl rfl))) pe_non (nomark _)) (pss_one (ps_ret (pe_cmpR op_isNo (pe_var (i := 0) rfl (.inr (.inl rfl))) pe_non (nomark _)))) pss_nil)
  (pss_cons (ps_if (pt_cmpR op_isBo (pe_var (i := 1) rfl (.inr (.inl rfl))) pe_bl (nomark _)) (pss_one (ps_ret (pe_cmpR op_isBo (pe_var (i := 0) rfl (.inr (.inl rfl))) pe_bl (nomark _)))) pss_nil)
  (pss_cons (ps_if (pt_cmpR op_isBo (pe_var (i := 1) rfl (.inr (.inl rfl))) pe_bl (nomark _)) (pss_one (ps_ret (pe_cmpR op_isBo (pe_var (i := 0) rfl (.inr (.inl rfl))) pe_bl (nomark _)))) pss_nil)
  (pss_cons (ps_if (pt_tru (pe_callB call_isi rfl (fr_isinstance T) (by decide +kernel) (pa_cons (pe_var (i := 1) rfl (.inr (.inl rfl))) (pa_cons (pe_bltn rfl (fr_str T) (by decide +kernel) rfl) pa_nil)))) (pss_one (ps_ret (pe_and (pe_callB call_isi rfl (fr_isinstance T) (by decide +kernel) (pa_cons (pe_var (i := 0) rfl (.inr (.inl rfl))) (pa_cons (pe_bltn rfl (fr_str T) (by decide +kernel) rfl) pa_nil))) (pe_one (pe_cmpR (op_eqU (roomH_units hr)) (pe_var (i := 0) rfl (.inr (.inl rfl))) (pe_var (i := 1) rfl (.inr (.inl rfl))) (nomark _)))))) pss_nil)
  (pss_cons (ps_if (pt_tru (pe_callB call_isi rfl (fr_isinstance T) (by decide +kernel) (pa_cons (pe_var (i := 1) rfl (.inr (.inl rfl))) (pa_cons (pe_bltn rfl (fr_int T) (by decide +kernel) rfl) pa_nil)))) (pss_one (ps_ret (pe_and (pe_callB call_isi rfl (fr_isinstance T) (by decide +kernel) (pa_cons (pe_var (i := 0) rfl (.inr (.inl rfl))) (pa_cons (pe_bltn rfl (fr_int T) (by decide +kernel) rfl) pa_nil))) (pe_and (pe_not (pe_callB call_isi rfl (fr_isinstance T) (by decide +kernel) (pa_cons (pe_var (i := 0) rfl (.inr (.inl rfl))) (pa_cons (pe_bltn rfl (fr_bool T) (by decide +kernel) rfl) pa_nil)))) (pe_one (pe_cmpR (op_eqU (roomH_units hr)) (pe_var (i := 0) rfl (.inr (.inl rfl))) (pe_var (i := 1) rfl (.inr (.inl rfl))) (nomark _))))))) pss_nil)
  (pss_cons (ps_if (PW.pt (pw_and (pt_tru (pe_callB call_isi rfl (fr_isinstance T) (by decide +kernel) (pa_cons (pe_var (i := 1) rfl (.inr (.inl rfl))) (pa_cons (pe_bltn rfl (fr_list T) (by decide +kernel) rfl) pa_nil)))) (pw_and1 (pt_not (pt_tru (pe_callB call_isi rfl (fr_isinstance T) (by decide +kernel) (pa_cons (pe_var (i := 0) rfl (.inr (.inl rfl))) (pa_cons (pe_bltn rfl (fr_list T) (by decide +kernel) rfl) pa_nil)))))))) (pss_one (ps_ret pe_bl)) pss_nil)
  (pss_cons (ps_if (PW.pt (pw_and (pt_tru (pe_callB call_isi rfl (fr_isinstance T) (by decide +kernel) (pa_cons (pe_var (i := 1) rfl (.inr (.inl rfl))) (pa_cons (pe_bltn rfl (fr_tuple T) (by decide +kernel) rfl) pa_nil)))) (pw_and1 (pt_not (pt_tru (pe_callB call_isi rfl (fr_isinstance T) (by decide +kernel) (pa_cons (pe_var (i := 0) rfl (.inr (.inl rfl))) (pa_cons (pe_bltn rfl (fr_tuple T) (by decide +kernel) rfl) pa_nil)))))))) (pss_one (ps_ret pe_bl)) pss_nil)
  (pss_cons (ps_if (pt_cmpR (op_neU (roomH_units hr)) (pe_callB call_lenQ rfl (fr_len T) (by decide +kernel) (pa_cons (pe_var (i := 0) rfl (.inr (.inl rfl))) pa_nil)) (pe_callB call_lenQ rfl (fr_len T) (by decide +kernel) (pa_cons (pe_var (i := 1) rfl (.inr (.inl rfl))) pa_nil)) (nomark _)) (pss_one (ps_ret pe_bl)) pss_nil)
  (pss_one (ps_ret (pe_callB (TwHot.cr_allH hot) rfl (fr_all T) (by decide +kernel) (pa_cons (TwHot.pe_lcH (own := [("_law_k", 2)]) hot nd (L2H.pi_range1H rfl (fr_range T) (pa_cons (pe_callB call_lenQ rfl (fr_len T) (by decide +kernel) (pa_cons (pe_var (i := 1) rfl (.inr (.inl rfl))) pa_nil)) pa_nil)) (blkOk_by (own := [("_law_k", 2)]) (N := N__law_like) (sc := (defScope s__law_like)) (by decide +kernel)) (fun _ _ _ _ _ => (pg_name (i := 2) nd rfl (.inl rfl))) (fun _ _ _ _ _ => pts_nil) (fun _ _ _ _ _ => (pe_callHE h__law_like hr hot rfl (g__law_like T) (pa_cons (pe_ix ix_U (pe_var (i := 0) rfl (.inr (.inl rfl))) (pe_var (i := 2) rfl (.inl rfl)) (fun _ _ => rfl)) (pa_cons (pe_ix ix_U (pe_var (i := 1) rfl (.inr (.inl rfl))) (pe_var (i := 2) rfl (.inl rfl)) (fun _ _ => rfl)) pa_nil))))) pa_nil))))))))))))
def t_walkX (K : PySem.W.Frag) (W : WX) (sp_check_rides sp__is_possible sp_moved : Spec) : TS := (tSeq (tDrop (tCall (spOf K sp_check_rides) [] E0 (tCons (tFld K (tVar 0) "net") (tCons (tVar 1) tNil))))
  (tSeq (tAsg (tVar 0) (gName 2))
  (tSeq (tAsg (tLst (tCons (tVar 2) tNil)) (gName 3))
  (tSeq (tFor (iEnumU K (tCons (tVar 1) tNil)) (gTup K 2 (gCons (gName 4) (gCons (gTup K 2 (gCons (gName 5) (gCons (gName 6) gNil))) gNil)))
  (tSeq (tIfS (tNot (tTru K (tCall (spOf K sp__is_possible) [] E0 (tCons (tVar 2) (tCons (tVar 5) (tCons (tVar 6) tNil))))))
  (tRaise W (tMkO (CBR K) (sp_BR (CBR K)) [] (tCons (tVar 4) (tCons (tVar 5) (tCons (tVar 6) tNil)))))
  tNext)
  (tSeq (tAsg (tCall (spOf K sp_moved) [] E0 (tCons (tVar 2) (tCons (tVar 5) (tCons (tVar 6) tNil)))) (gName 2))
  (tDrop (tBM K "list" rAppend (tVar 3) (tCons (tVar 2) tNil))))))
  (tRet (tVar 3))))))
theorem dv_walkX (T : Hd fn fa xs K mg) {sp_check_rides sp__is_possible sp_moved : Spec} {fI : Addr} {fd : FuncData} (B : BRF P w K mg base fI fd) (h_check_rides : FnE P w K mg base 2 (He.fAd K d_check_rides.at_) ps_check_rides (spOf K sp_check_rides)) (h__is_possible : FnE P w K mg base 2 (He.fAd K d__is_possible.at_) ps__is_possible (spOf K sp__is_possible)) (h_moved : FnE P w K mg base 4 (He.fAd K d_moved.at_) ps_moved (spOf K sp_moved)) {cdv : Value} {A : Around} {outer : List PySem.Env} {s : Shared} {H : Hp} {E : XK} (hr : Room 4 (A.deeper (envOfC d_walk.qual d_walk.scope s.heap.objs.size (He.fAd K d_walk.at_) cdv))) :
    PSs (cxOf (L2N.CX P w) P w K mg base N_walk d_walk.qual d_walk.scope (He.fAd K d_walk.at_) cdv A outer s H E) d_walk.body (t_walkX K (wE E) sp_check_rides sp__is_possible sp_moved) :=
  have nd := sc_walk.nd
  have tk : L2N.Takes (cxOf (L2N.CX P w) P w K mg base N_walk d_walk.qual d_walk.scope (He.fAd K d_walk.at_) cdv A outer s H E) (wE E) := takesE rfl rfl rfl rfl
  have pso : PassesOwn (model (cxOf (L2N.CX P w) P w K mg base N_walk d_walk.qual d_walk.scope (He.fAd K d_walk.at_) cdv A outer s H E).prog (cxOf (L2N.CX P w) P w K mg base N_walk d_walk.qual d_walk.scope (He.fAd K d_walk.at_) cdv A outer s H E).w) (cxOf (L2N.CX P w) P w K mg base N_walk d_walk.qual d_walk.scope (He.fAd K d_walk.at_) cdv A outer s H E).A (cxOf (L2N.CX P w) P w K mg base N_walk d_walk.qual d_walk.scope (He.fAd K d_walk.at_) cdv A outer s H E).env (cxOf (L2N.CX P w) P w K mg base N_walk d_walk.qual d_walk.scope (He.fAd K d_walk.at_) cdv A outer s H E).xe := passes_of rfl
  (pss_cons (ps_expr (pe_callE h_check_rides (hr.mono (by decide)) rfl (g_check_rides T) (pa_cons (pe_fld (pe_var (i := 0) rfl (.inl rfl)) rfl) (pa_cons (pe_var (i := 1) rfl (.inl rfl)) pa_nil))))
  (pss_cons (ps_set (i := 2) nd rfl (.inl rfl) (pe_var (i := 0) rfl (.inl rfl)))
  (pss_cons (ps_set (i := 3) nd rfl (.inl rfl) (pe_lst (pa_cons (pe_var (i := 2) rfl (.inl rfl)) pa_nil)))
  (pss_cons (ps_for pso rfl (pi_enumU rfl (fr_enumerate T) (pa_cons (pe_var (i := 1) rfl (.inl rfl)) pa_nil)) (pg_tup rfl (pgs_cons (pg_name (i := 4) nd rfl (.inl rfl)) (pgs_cons (pg_tup rfl (pgs_cons (pg_name (i := 5) nd rfl (.inl rfl)) (pgs_cons (pg_name (i := 6) nd rfl (.inl rfl)) pgs_nil))) pgs_nil)))
  (pss_cons (ps_if (pt_not (pt_tru (pe_callE h__is_possible (hr.mono (by decide)) rfl (g__is_possible T) (pa_cons (pe_var (i := 2) rfl (.inl rfl)) (pa_cons (pe_var (i := 5) rfl (.inl rfl)) (pa_cons (pe_var (i := 6) rfl (.inl rfl)) pa_nil)))))) (pss_one (ps_raiseX rfl tk (TwY.pmk_oexN B.oex B.iC B.tI B.fn (hr.mono (by decide)) B.bd .nil pass0 rfl B.mgC (pa_cons (pe_var (i := 4) rfl (.inl rfl)) (pa_cons (pe_var (i := 5) rfl (.inl rfl)) (pa_cons (pe_var (i := 6) rfl (.inl rfl)) pa_nil)))))) pss_nil)
  (pss_cons (ps_set (i := 2) nd rfl (.inl rfl) (pe_callE h_moved (hr.mono (by decide)) rfl (g_moved T) (pa_cons (pe_var (i := 2) rfl (.inl rfl)) (pa_cons (pe_var (i := 5) rfl (.inl rfl)) (pa_cons (pe_var (i := 6) rfl (.inl rfl)) pa_nil)))))
  (pss_one (ps_expr (pe_bm PySem.F.plainAttrs_list PySem.F.slot_list_append PySem.F.type_list_append mt_append (pe_var (i := 3) rfl (.inl rfl)) (pa_cons (pe_var (i := 2) rfl (.inl rfl)) pa_nil)))))))
  (pss_one (ps_ret (pe_var (i := 3) rfl (.inl rfl))))))))
def t_bill_ofX (K : PySem.W.Frag) (W : WX) (sp_car_station sp_Bill___init__ : Spec) (sp_walk : XSpec) : TS := (tSeq (tAsg (tFld K (tVar 0) "net") (gName 2))
  (tSeq (tAsg (tOp rMulU (tLst (tCons (tC (.int 0)) tNil)) (tCB (rLenQ K) (tCons (tFld K (tVar 2) "ropes") tNil))) (gName 3))
  (tSeq (tAsg (tOp rMulU (tLst (tCons (tC (.int 0)) tNil)) (tCB (rLenQ K) (tCons (tFld K (tVar 2) "ropes") tNil))) (gName 4))
  (tSeq (tFor (RZ.iZipA K (tCons (tCallS (spOfX K sp_walk) (L2.WE W) (tCons (tVar 0) (tCons (tVar 1) tNil))) (tCons (tVar 1) tNil))) (gTup K 2 (gCons (gName 5) (gCons (gTup K 2 (gCons (gName 6) (gCons (gName 7) gNil))) gNil)))
  (tSeq (tAsg (tOp (rIxU K) (tFld K (tVar 2) "ropes") (tVar 6)) (gTup K 2 (gCons (gName 8) (gCons (gName 9) gNil))))
  (tSeq (tAsg (tIf (tTest (tOp (rEqU K) (tCall (spOf K sp_car_station) [] E0 (tCons (tVar 5) (tCons (tVar 6) (tCons (tVar 7) tNil)))) (tVar 8))) (tC (.int 1)) (tUn rNegI (tC (.int 1)))) (gName 10))
  (tIfS (tTest (tOp (rEqU K) (tVar 7) (tC (.str "red"))))
  (tAugS (tVar 3) (tVar 6) (tVar 10) (rGetL K) ipAdd rSetL)
  (tAugS (tVar 4) (tVar 6) (tVar 10) (rGetL K) ipAdd rSetL)))))
  (tRet (tMake (He.ga K "Bill") (spOf K sp_Bill___init__) [] E0 (tCons (tVar 2) (tCons (tVar 3) (tCons (tVar 4) tNil)))))))))
theorem dv_bill_ofX (T : Hd fn fa xs K mg) {sp_car_station sp_Bill___init__ : Spec} {sp_walk : XSpec} (h_walk : FnX P w K mg base 5 (He.fAd K d_walk.at_) ps_walk (spOfX K sp_walk)) (h_car_station : FnE P w K mg base 1 (He.fAd K d_car_station.at_) ps_car_station (spOf K sp_car_station)) (h_Bill___init__ : FnE P w K mg base 1 (He.fAd K d_Bill___init__.at_) ps_Bill___init__ (spOf K sp_Bill___init__)) {cdv : Value} {A : Around} {outer : List PySem.Env} {s : Shared} {H : Hp} {E : XK} (hr : Room 5 (A.deeper (envOfC d_bill_of.qual d_bill_of.scope s.heap.objs.size (He.fAd K d_bill_of.at_) cdv))) :
    PSs (cxOf (L2N.CX P w) P w K mg base N_bill_of d_bill_of.qual d_bill_of.scope (He.fAd K d_bill_of.at_) cdv A outer s H E) d_bill_of.body (t_bill_ofX K (wE E) sp_car_station sp_Bill___init__ sp_walk) :=
  have nd := sc_bill_of.nd
  have tk : L2N.Takes (cxOf (L2N.CX P w) P w K mg base N_bill_of d_bill_of.qual d_bill_of.scope (He.fAd K d_bill_of.at_) cdv A outer s H E) (wE E) := takesE rfl rfl rfl rfl
  have pso : PassesOwn (model (cxOf (L2N.CX P w) P w K mg base N_bill_of d_bill_of.qual d_bill_of.scope (He.fAd K d_bill_of.at_) cdv A outer s H E).prog (cxOf (L2N.CX P w) P w K mg base N_bill_of d_bill_of.qual d_bill_of.scope (He.fAd K d_bill_of.at_) cdv A outer s H E).w) (cxOf (L2N.CX P w) P w K mg base N_bill_of d_bill_of.qual d_bill_of.scope (He.fAd K d_bill_of.at_) cdv A outer s H E).A (cxOf (L2N.CX P w) P w K mg base N_bill_of d_bill_of.qual d_bill_of.scope (He.fAd K d_bill_of.at_) cdv A outer s H E).env (cxOf (L2N.CX P w) P w K mg base N_bill_of d_bill_of.qual d_bill_of.scope (He.fAd K d_bill_of.at_) cdv A outer s H E).xe := passes_of rfl
  (pss_cons (ps_set (i := 2) nd rfl (.inl rfl) (pe_fld (pe_var (i := 0) rfl (.inl rfl)) rfl))
  (pss_cons (ps_set (i := 3) nd rfl (.inl rfl) (pe_op op_mulU (pe_lst (pa_cons pe_int pa_nil)) (pe_callB call_lenQ rfl (fr_len T) (by decide +kernel) (pa_cons (pe_fld (pe_var (i := 2) rfl (.inl rfl)) rfl) pa_nil))))
  (pss_cons (ps_set (i := 4) nd rfl (.inl rfl) (pe_op op_mulU (pe_lst (pa_cons pe_int pa_nil)) (pe_callB call_lenQ rfl (fr_len T) (by decide +kernel) (pa_cons (pe_fld (pe_var (i := 2) rfl (.inl rfl)) rfl) pa_nil))))
  (pss_cons (ps_for pso rfl (RZ.pi_zipA rfl (fr_zip T) (pa_cons (pe_callX h_walk (hr.mono (by decide)) tk rfl (g_walk T) (pa_cons (pe_var (i := 0) rfl (.inl rfl)) (pa_cons (pe_var (i := 1) rfl (.inl rfl)) pa_nil))) (pa_cons (pe_var (i := 1) rfl (.inl rfl)) pa_nil))) (pg_tup rfl (pgs_cons (pg_name (i := 5) nd rfl (.inl rfl)) (pgs_cons (pg_tup rfl (pgs_cons (pg_name (i := 6) nd rfl (.inl rfl)) (pgs_cons (pg_name (i := 7) nd rfl (.inl rfl)) pgs_nil))) pgs_nil)))
  (pss_cons (ps_asg (pe_ix ix_U (pe_fld (pe_var (i := 2) rfl (.inl rfl)) rfl) (pe_var (i := 6) rfl (.inl rfl)) (fun _ _ => rfl)) (pg_tup rfl (pgs_cons (pg_name (i := 8) nd rfl (.inl rfl)) (pgs_cons (pg_name (i := 9) nd rfl (.inl rfl)) pgs_nil))))
  (pss_cons (ps_set (i := 10) nd rfl (.inl rfl) (pe_ifExp (pt_cmpR (op_eqU hr.units) (pe_callE h_car_station (hr.mono (by decide)) rfl (g_car_station T) (pa_cons (pe_var (i := 5) rfl (.inl rfl)) (pa_cons (pe_var (i := 6) rfl (.inl rfl)) (pa_cons (pe_var (i := 7) rfl (.inl rfl)) pa_nil)))) (pe_var (i := 8) rfl (.inl rfl)) (nomark _)) pe_int (pe_un un_negI pe_int)))
  (pss_one (ps_if (pt_cmpR (op_eqU hr.units) (pe_var (i := 7) rfl (.inl rfl)) pe_str (nomark _)) (pss_one (ps_augS (pe_var (i := 3) rfl (.inl rfl)) (pe_var (i := 6) rfl (.inl rfl)) get_list (pe_var (i := 10) rfl (.inl rfl)) ip_addI set_list)) (pss_one (ps_augS (pe_var (i := 4) rfl (.inl rfl)) (pe_var (i := 6) rfl (.inl rfl)) get_list (pe_var (i := 10) rfl (.inl rfl)) ip_addI set_list)))))))
  (pss_one (ps_ret (pe_makeE (mk_Bill T) h_Bill___init__ (hr.mono (by decide)) rfl (g_Bill T) (pa_cons (pe_var (i := 2) rfl (.inl rfl)) (pa_cons (pe_var (i := 3) rfl (.inl rfl)) (pa_cons (pe_var (i := 4) rfl (.inl rfl)) pa_nil))))))))))
abbrev N__law_broken : List Str := ["_law_way", "_law_here", "_law_words_here", "_law_due", "raised"]
abbrev ps__law_broken : List Str := ["_law_way", "_law_here", "_law_words_here", "_law_due"]
theorem sc__law_broken : FnScope N__law_broken ps__law_broken (defScope s__law_broken) := ⟨rfl, rfl, rfl, by decide +kernel, rfl, by decide +kernel, by decide +kernel⟩
def t__law_broken (K : PySem.W.Frag) (sp__law_like : Spec) (sp_walk sp_bill_of : XSpec) : TS := (tSeq (tTryAs K (.ref (He.ga K "RopeError")) 4 (fun W => (tIfS (tTest (tOp (rEqU K) (tVar 0) (tC (.int 0))))
  (tDrop (tCallS (spOfX K sp_walk) (L2.WE W) (tCons (tVar 1) (tCons (tVar 2) tNil))))
  (tDrop (tCallS (spOfX K sp_bill_of) (L2.WE W) (tCons (tVar 1) (tCons (tVar 2) tNil))))))
  (fun a cls d => (tSeq (tIfS (tNot (tTru K (tCB (rIsSelf cls (He.ga K "BrokenRow") a) (tCons (tVar 4) (tCons (tC (.ref (He.ga K "BrokenRow"))) tNil)))))
  (tRet (tC (.bl false)))
  tNext)
  (tRet (tCall (spOf K sp__law_like) [] E0 (tCons (tTup (tCons (tXf a cls d (CBR K) "step" (tVar 4)) (tCons (tXf a cls d (CBR K) "rope" (tVar 4)) (tCons (tXf a cls d (CBR K) "colour" (tVar 4)) tNil)))) (tCons (tVar 3) tNil)))))) (fun _ _ _ _ => False))
  (tRet (tC (.bl false))))
theorem dv__law_broken (T : Hd fn fa xs K mg) {sp__law_like : Spec} {sp_walk sp_bill_of : XSpec} {fI : Addr} {fd : FuncData} (B : BRF P w K mg base fI fd) (h_walk : FnX P w K mg base 5 (He.fAd K d_walk.at_) ps_walk (spOfX K sp_walk)) (h_bill_of : FnX P w K mg base 6 (He.fAd K d_bill_of.at_) ps_bill_of (spOfX K sp_bill_of)) (h__law_like : FnHE P w K mg base 3 (He.fAd K d__law_like.at_) ps__law_like (spOf K sp__law_like)) {cdv : Value} {A : Around} {outer : List PySem.Env} {s : Shared} {H : Hp} {E : XK} (hr : Room 6 (A.deeper (envOfC d__law_broken.qual d__law_broken.scope s.heap.objs.size (He.fAd K d__law_broken.at_) cdv))) :
    PSs (cxOf CX0 P w K mg base N__law_broken d__law_broken.qual d__law_broken.scope (He.fAd K d__law_broken.at_) cdv A outer s H E).nox d__law_broken.body (t__law_broken K sp__law_like sp_walk sp_bill_of) :=
  have nd := sc__law_broken.nd
  (pss_cons (ps_tryAs (i := 4) rfl rfl nd rfl rfl ⟨rfl, by decide, .inl B.mgR⟩ takesN0 (fun W pn xe tk pso => (pss_one (ps_if (pt_cmpR (op_eqU hr.units) (pe_var (i := 0) rfl (.inl rfl)) pe_int (nomark _)) (pss_one (ps_expr (pe_callX h_walk (hr.mono (by decide)) tk rfl (g_walk T) (pa_cons (pe_var (i := 1) rfl (.inl rfl)) (pa_cons (pe_var (i := 2) rfl (.inl rfl)) pa_nil))))) (pss_one (ps_expr (pe_callX h_bill_of (hr.mono (by decide)) tk rfl (g_bill_of T) (pa_cons (pe_var (i := 1) rfl (.inl rfl)) (pa_cons (pe_var (i := 2) rfl (.inl rfl)) pa_nil)))))))) (fun a oe cls d pn hz hf =>
  have hot := hot_of hz hf
  (pss_cons (ps_if (pt_not (pt_tru (pe_callB (call_isSelf hz) rfl (fr_isinstance T) (by decide +kernel) (pa_cons (pe_var (i := 4) rfl (.inl rfl)) (pa_cons (C8.pe_gc rfl ⟨_, B.mgC, rfl⟩) pa_nil))))) (pss_one (ps_ret pe_bl)) pss_nil)
  (pss_one (ps_ret (pe_callHE h__law_like (L2H.roomH_mark (hr.mono (by decide)) _) hot rfl (g__law_like T) (pa_cons (pe_tup (pa_cons (pe_xf B.xf B.n1 hz.zc hf (pe_var (i := 4) rfl (.inl rfl))) (pa_cons (pe_xf B.xf B.n2 hz.zc hf (pe_var (i := 4) rfl (.inl rfl))) (pa_cons (pe_xf B.xf B.n3 hz.zc hf (pe_var (i := 4) rfl (.inl rfl))) pa_nil)))) (pa_cons (pe_var (i := 3) rfl (.inl rfl)) pa_nil))))))))
  (pss_one (ps_ret pe_bl)))
abbrev N__law_breaks : List Str := ["_law_pot_here", "_law_net", "_law_count", "_law_ends", "_law_keys", "_law_rides", "_law_at", "_law_wrong", "_law_rope_here", "_law_free", "_law_ride", "_law_words_here", "_law_here", "_law_due", "_law_way", "_law_side"]
abbrev ps__law_breaks : List Str := ["_law_pot_here", "_law_net", "_law_count", "_law_ends", "_law_keys", "_law_rides"]
theorem sc__law_breaks : FnScope N__law_breaks ps__law_breaks (defScope s__law_breaks) := ⟨rfl, rfl, rfl, by decide +kernel, rfl, by decide +kernel, by decide +kernel⟩
def t__law_breaks (K : PySem.W.Frag) (sp__law_draw sp__law_open sp__law_words sp__law_stand sp__law_broken sp__law_flat : Spec) : TS := (tSeq (tAsg (tCall (spOf K sp__law_draw) [] E0 (tCons (tVar 0) (tCons (tOp (rAddU K) (tCB (rLenQ K) (tCons (tVar 5) tNil)) (tC (.int 1))) tNil))) (gName 6))
  (tSeq (tAsg (tLst tNil) (gName 7))
  (tSeq (tFor (iRng1 (tCons (tCB (rLenQ K) (tCons (tVar 3) tNil)) tNil)) (gName 8)
  (tDrop (tBM K "list" rExtend (tVar 7) (tCons (tLc (iRng1 (tCons (tC (.int 2)) tNil)) (gName 15) tYes (tTup (tCons (tVar 8) (tCons (tVar 15) tNil))) [15]) tNil))))
  (tSeq (tAsg (tCall (spOf K sp__law_open) [] E0 (tCons (tVar 2) (tCons (tVar 3) (tCons (tOp (rIxU K) (tVar 4) (tVar 6)) tNil)))) (gName 9))
  (tSeq (tAsg (tLc (iSeqU K (tVar 7)) (gName 10) (tTest (tOp (rNotInU K) (tVar 10) (tVar 9))) (tVar 10) [10]) (gName 7))
  (tSeq (tIfS (tNot (tTru K (tVar 7)))
  (tRet (tC (.bl true)))
  tNext)
  (tSeq (tAsg (tOp (rIxU K) (tVar 7) (tCall (spOf K sp__law_draw) [] E0 (tCons (tVar 0) (tCons (tCB (rLenQ K) (tCons (tVar 7) tNil)) tNil)))) (gName 10))
  (tSeq (tAsg (tCall (spOf K sp__law_words) [] E0 (tCons (tOp (rAddU K) (tOp (rAddU K) (tSl (rSlU K) (tVar 5) tNoPart (tPart (tVar 6))) (tLst (tCons (tVar 10) tNil))) (tSl (rSlU K) (tVar 5) (tPart (tVar 6)) tNoPart)) tNil)) (gName 11))
  (tSeq (tAsg (tCall (spOf K sp__law_stand) [] E0 (tCons (tVar 1) (tCons (tVar 2) (tCons (tOp (rIxU K) (tVar 4) (tC (.int 0))) tNil)))) (gName 12))
  (tSeq (tAsg (tTup (tCons (tVar 6) (tCons (tOp (rIxU K) (tVar 10) (tC (.int 0))) (tCons (tOp (rIxU K) (tTup (tCons (tC (.str "red")) (tCons (tC (.str "blue")) tNil))) (tOp (rIxU K) (tVar 10) (tC (.int 1)))) tNil)))) (gName 13))
  (tSeq (tFor (iRng1 (tCons (tC (.int 2)) tNil)) (gName 14)
  (tIfS (tNot (tTru K (tCall (spOf K sp__law_broken) [] E0 (tCons (tVar 14) (tCons (tVar 12) (tCons (tCB (rListQ K) (tCons (tVar 11) tNil)) (tCons (tVar 13) tNil)))))))
  (tRet (tC (.bl false)))
  tNext))
  (tRet (tOp (rEqU K) (tCall (spOf K sp__law_flat) [] E0 (tCons (tVar 1) (tCons (tVar 2) (tCons (tVar 12) tNil)))) (tOp (rIxU K) (tVar 4) (tC (.int 0))))))))))))))))
theorem dv__law_breaks (T : Hd fn fa xs K mg) {sp__law_draw sp__law_open sp__law_words sp__law_stand sp__law_broken sp__law_flat : Spec} (h__law_draw : FnE P w K mg base 2 (He.fAd K d__law_draw.at_) ps__law_draw (spOf K sp__law_draw)) (h__law_open : FnE P w K mg base 1 (He.fAd K d__law_open.at_) ps__law_open (spOf K sp__law_open)) (h__law_words : FnE P w K mg base 1 (He.fAd K d__law_words.at_) ps__law_words (spOf K sp__law_words)) (h__law_stand : FnE P w K mg base 4 (He.fAd K d__law_stand.at_) ps__law_stand (spOf K sp__law_stand)) (h__law_broken : FnE P w K mg base 7 (He.fAd K d__law_broken.at_) ps__law_broken (spOf K sp__law_broken)) (h__law_flat : FnE P w K mg base 2 (He.fAd K d__law_flat.at_) ps__law_flat (spOf K sp__law_flat)) {cdv : Value} {A : Around} {outer : List PySem.Env} {s : Shared} {H : Hp} {E : XK} (hr : Room 7 (A.deeper (envOfC d__law_breaks.qual d__law_breaks.scope s.heap.objs.size (He.fAd K d__law_breaks.at_) cdv))) :
    PSs (cxOf CX0 P w K mg base N__law_breaks d__law_breaks.qual d__law_breaks.scope (He.fAd K d__law_breaks.at_) cdv A outer s H E).nox d__law_breaks.body (t__law_breaks K sp__law_draw sp__law_open sp__law_words sp__law_stand sp__law_broken sp__law_flat) :=
  have nd := sc__law_breaks.nd
  (pss_cons (ps_set (i := 6) nd rfl (.inl rfl) (pe_callE h__law_draw (hr.mono (by decide)) rfl (g__law_draw T) (pa_cons (pe_var (i := 0) rfl (.inl rfl)) (pa_cons (pe_op op_addU (pe_callB call_lenQ rfl (fr_len T) (by decide +kernel) (pa_cons (pe_var (i := 5) rfl (.inl rfl)) pa_nil)) pe_int) pa_nil))))
  (pss_cons (ps_set (i := 7) nd rfl (.inl rfl) (pe_lst pa_nil))
  (pss_cons (ps_for PassesOwn.never rfl (pi_range1 rfl (fr_range T) (pa_cons (pe_callB call_lenQ rfl (fr_len T) (by decide +kernel) (pa_cons (pe_var (i := 3) rfl (.inl rfl)) pa_nil)) pa_nil)) (pg_name (i := 8) nd rfl (.inr rfl))
  (pss_one (ps_expr (pe_bm PySem.F.plainAttrs_list PySem.F.slot_list_extend PySem.F.type_list_extend mt_extend (pe_var (i := 7) rfl (.inl rfl)) (pa_cons (pe_lc (own := [("_law_side", 15)]) rfl nd (pi_range1 rfl (fr_range T) (pa_cons pe_int pa_nil)) (blkOk_by (own := [("_law_side", 15)]) (N := N__law_breaks) (sc := (defScope s__law_breaks)) (by decide +kernel)) (fun _ _ _ _ _ => (pg_name (i := 15) nd rfl (.inl rfl))) (fun _ _ _ _ _ => pts_nil) (fun _ _ _ _ _ => (pe_tup (pa_cons (pe_var (i := 8) rfl (.inr (.inl rfl))) (pa_cons (pe_var (i := 15) rfl (.inl rfl)) pa_nil))))) pa_nil)))))
  (pss_cons (ps_set (i := 9) nd rfl (.inr rfl) (pe_callE h__law_open (hr.mono (by decide)) rfl (g__law_open T) (pa_cons (pe_var (i := 2) rfl (.inl rfl)) (pa_cons (pe_var (i := 3) rfl (.inl rfl)) (pa_cons (pe_ix ix_U (pe_var (i := 4) rfl (.inl rfl)) (pe_var (i := 6) rfl (.inl rfl)) (fun _ _ => rfl)) pa_nil)))))
  (pss_cons (ps_setLc (i := 7) (own := [("_law_ride", 10)]) rfl nd rfl rfl (sw_true rfl rfl rfl (by decide +kernel)) (pi_seqU (pe_var (i := 7) rfl (.inl rfl))) (blkOk_by (own := [("_law_ride", 10)]) (N := N__law_breaks) (sc := (defScope s__law_breaks)) (by decide +kernel)) (fun _ _ _ _ _ => (pg_name (i := 10) nd rfl (.inl rfl))) (fun _ _ _ _ _ => (pts_one (pt_cmpR (op_notInU (room65 hr)) (pe_var (i := 10) rfl (.inl rfl)) (pe_var (i := 9) rfl (.inr (.inl rfl))) (by with_unfolding_all rfl)))) (fun _ _ _ _ _ => (pe_var (i := 10) rfl (.inl rfl))))
  (pss_cons (ps_if (pt_not (pt_tru (pe_var (i := 7) rfl (.inl rfl)))) (pss_one (ps_ret pe_bl)) pss_nil)
  (pss_cons (ps_set (i := 10) nd rfl (.inl rfl) (pe_ix ix_U (pe_var (i := 7) rfl (.inl rfl)) (pe_callE h__law_draw (hr.mono (by decide)) rfl (g__law_draw T) (pa_cons (pe_var (i := 0) rfl (.inl rfl)) (pa_cons (pe_callB call_lenQ rfl (fr_len T) (by decide +kernel) (pa_cons (pe_var (i := 7) rfl (.inl rfl)) pa_nil)) pa_nil))) (fun _ _ => rfl)))
  (pss_cons (ps_set (i := 11) nd rfl (.inl rfl) (pe_callE h__law_words (hr.mono (by decide)) rfl (g__law_words T) (pa_cons (pe_op op_addU (pe_op op_addU (pe_slice sl_U (pe_var (i := 5) rfl (.inl rfl)) po_none (po_some (pe_var (i := 6) rfl (.inl rfl)))) (pe_lst (pa_cons (pe_var (i := 10) rfl (.inl rfl)) pa_nil))) (pe_slice sl_U (pe_var (i := 5) rfl (.inl rfl)) (po_some (pe_var (i := 6) rfl (.inl rfl))) po_none)) pa_nil)))
  (pss_cons (ps_set (i := 12) nd rfl (.inl rfl) (pe_callE h__law_stand (hr.mono (by decide)) rfl (g__law_stand T) (pa_cons (pe_var (i := 1) rfl (.inl rfl)) (pa_cons (pe_var (i := 2) rfl (.inl rfl)) (pa_cons (pe_ix ix_U (pe_var (i := 4) rfl (.inl rfl)) pe_int (fun _ _ => rfl)) pa_nil)))))
  (pss_cons (ps_set (i := 13) nd rfl (.inl rfl) (pe_tup (pa_cons (pe_var (i := 6) rfl (.inl rfl)) (pa_cons (pe_ix ix_U (pe_var (i := 10) rfl (.inl rfl)) pe_int (fun _ _ => rfl)) (pa_cons (pe_ix ix_U (pe_tup (pa_cons pe_str (pa_cons pe_str pa_nil))) (pe_ix ix_U (pe_var (i := 10) rfl (.inl rfl)) pe_int (fun _ _ => rfl)) (fun _ _ => rfl)) pa_nil)))))
  (pss_cons (ps_for PassesOwn.never rfl (pi_range1 rfl (fr_range T) (pa_cons pe_int pa_nil)) (pg_name (i := 14) nd rfl (.inl rfl))
  (pss_one (ps_if (pt_not (pt_tru (pe_callE h__law_broken (hr.mono (by decide)) rfl (g__law_broken T) (pa_cons (pe_var (i := 14) rfl (.inl rfl)) (pa_cons (pe_var (i := 12) rfl (.inl rfl)) (pa_cons (pe_callTy call_listQ rfl (fr_list T) (by decide +kernel) (pa_cons (pe_var (i := 11) rfl (.inl rfl)) pa_nil)) (pa_cons (pe_var (i := 13) rfl (.inl rfl)) pa_nil))))))) (pss_one (ps_ret pe_bl)) pss_nil)))
  (pss_one (ps_ret (pe_cmpR (op_eqU hr.units) (pe_callE h__law_flat (hr.mono (by decide)) rfl (g__law_flat T) (pa_cons (pe_var (i := 1) rfl (.inl rfl)) (pa_cons (pe_var (i := 2) rfl (.inl rfl)) (pa_cons (pe_var (i := 12) rfl (.inl rfl)) pa_nil)))) (pe_ix ix_U (pe_var (i := 4) rfl (.inl rfl)) pe_int (fun _ _ => rfl)) (nomark _)))))))))))))))
abbrev N_law : List Str := ["_law_script", "_law_pot_here", "_law_deeds", "_law_count", "_law_more", "_law_totals", "_law_ends", "_law_net", "_law_key", "_law_went", "_law_rides", "_law_keys", "_law_sums"]
abbrev ps_law : List Str := ["_law_script"]
theorem sc_law : FnScope N_law ps_law (defScope s_law) := ⟨rfl, rfl, rfl, by decide +kernel, rfl, by decide +kernel, by decide +kernel⟩
def t_law (K : PySem.W.Frag) (sp__law_pot sp__law_draw sp__law_tree sp__law_extra sp_Net___init__ sp__law_spread sp__law_again sp__law_net_rides sp__law_trip sp__law_parts sp__law_costs sp__law_breaks : Spec) : TS := (tSeq (tAsg (tCall (spOf K sp__law_pot) [] E0 (tCons (tVar 0) (tCons (tC (.int 0)) (tCons (tC (.int 2)) tNil)))) (gName 1))
  (tSeq (tAsg (tCall (spOf K sp__law_pot) [] E0 (tCons (tVar 0) (tCons (tC (.int 1)) (tCons (tC (.int 2)) tNil)))) (gName 2))
  (tSeq (tAsg (tOp (rAddU K) (tC (.int 2)) (tCall (spOf K sp__law_draw) [] E0 (tCons (tVar 1) (tCons (tC (.int 5)) tNil)))) (gName 3))
  (tSeq (tIfS (tTest (tOp (rEqU K) (tCall (spOf K sp__law_draw) [] E0 (tCons (tVar 1) (tCons (tC (.int 16)) tNil))) (tC (.int 0))))
  (tAsg (tC (.int 1)) (gName 3))
  tNext)
  (tSeq (tAsg (tC (.int 4)) (gName 4))
  (tSeq (tAsg (tLst (tCons (tCall (spOf K sp__law_draw) [] E0 (tCons (tVar 1) (tCons (tC (.int 5)) tNil))) (tCons (tCall (spOf K sp__law_draw) [] E0 (tCons (tVar 1) (tCons (tC (.int 5)) tNil))) tNil))) (gName 5))
  (tSeq (tIfS (tTest (tOp (rEqU K) (tCall (spOf K sp__law_draw) [] E0 (tCons (tVar 1) (tCons (tC (.int 8)) tNil))) (tC (.int 7))))
  (tSeq (tAsg (tOp (rAddU K) (tC (.int 7)) (tCall (spOf K sp__law_draw) [] E0 (tCons (tVar 1) (tCons (tC (.int 18)) tNil)))) (gName 3))
  (tSeq (tAsg (tC (.int 17)) (gName 4))
  (tAsg (tLst (tCons (tCall (spOf K sp__law_draw) [] E0 (tCons (tVar 1) (tCons (tC (.int 11)) tNil))) (tCons (tCall (spOf K sp__law_draw) [] E0 (tCons (tVar 1) (tCons (tC (.int 11)) tNil))) tNil))) (gName 5))))
  tNext)
  (tSeq (tAsg (tCall (spOf K sp__law_tree) [] E0 (tCons (tVar 1) (tCons (tVar 3) tNil))) (gName 6))
  (tSeq (tIfS (tTest (tOp rGtI (tVar 3) (tC (.int 1))))
  (tDrop (tCall (spOf K sp__law_extra) [] E0 (tCons (tVar 1) (tCons (tVar 3) (tCons (tVar 6) (tCons (tVar 4) tNil))))))
  tNext)
  (tSeq (tAsg (tMake (He.ga K "Net") (spOf K sp_Net___init__) [] E0 (tCons (tVar 3) (tCons (tCB (rListQ K) (tCons (tVar 6) tNil)) tNil))) (gName 7))
  (tSeq (tAsg (tCall (spOf K sp__law_spread) [] E0 (tCons (tVar 1) (tCons (tVar 3) (tCons (tCB (rLenQ K) (tCons (tVar 6) tNil)) (tCons (tVar 5) tNil))))) (gName 8))
  (tSeq (tAsg (tCall (spOf K sp__law_again) [] E0 (tCons (tVar 2) (tCons (tVar 3) (tCons (tVar 6) (tCons (tVar 8) (tCons (tCall (spOf K sp__law_draw) [] E0 (tCons (tVar 2) (tCons (tC (.int 25)) tNil))) tNil)))))) (gName 9))
  (tSeq (tAsg (tOp (rIxU K) (tVar 9) (tC (.int 0))) (gName 10))
  (tSeq (tAsg (tOp (rIxU K) (tVar 9) (tC (.int 1))) (gName 11))
  (tSeq (tAsg (tCall (spOf K sp__law_net_rides) [] E0 (tCons (tVar 6) (tCons (tVar 3) (tCons (tVar 11) (tCons (tVar 10) tNil))))) (gName 12))
  (tSeq (tIfS (tNot (tTru K (tCall (spOf K sp__law_trip) [] E0 (tCons (tVar 7) (tCons (tVar 3) (tCons (tVar 11) (tCons (tVar 10) (tCons (tVar 12) tNil))))))))
  (tRet (tC (.bl false)))
  tNext)
  (tSeq (tIfS (tNot (tTru K (tCall (spOf K sp__law_parts) [] E0 (tCons (tVar 7) (tCons (tVar 3) (tCons (tVar 6) (tCons (tVar 11) (tCons (tVar 10) (tCons (tCall (spOf K sp__law_draw) [] E0 (tCons (tVar 2) (tCons (tOp (rAddU K) (tCB (rLenQ K) (tCons (tVar 10) tNil)) (tC (.int 1))) tNil))) (tCons (tVar 12) tNil))))))))))
  (tRet (tC (.bl false)))
  tNext)
  (tSeq (tIfS (tNot (tTru K (tCall (spOf K sp__law_costs) [] E0 (tCons (tVar 7) (tCons (tVar 3) (tCons (tVar 6) (tCons (tVar 11) (tCons (tVar 10) (tCons (tVar 12) tNil)))))))))
  (tRet (tC (.bl false)))
  tNext)
  (tRet (tCall (spOf K sp__law_breaks) [] E0 (tCons (tVar 2) (tCons (tVar 7) (tCons (tVar 3) (tCons (tVar 6) (tCons (tVar 11) (tCons (tVar 10) tNil))))))))))))))))))))))))))
theorem dv_law (T : Hd fn fa xs K mg) {sp__law_pot sp__law_draw sp__law_tree sp__law_extra sp_Net___init__ sp__law_spread sp__law_again sp__law_net_rides sp__law_trip sp__law_parts sp__law_costs sp__law_breaks : Spec} (h__law_pot : FnE P w K mg base 1 (He.fAd K d__law_pot.at_) ps__law_pot (spOf K sp__law_pot)) (h__law_draw : FnE P w K mg base 2 (He.fAd K d__law_draw.at_) ps__law_draw (spOf K sp__law_draw)) (h__law_tree : FnE P w K mg base 4 (He.fAd K d__law_tree.at_) ps__law_tree (spOf K sp__law_tree)) (h__law_extra : FnE P w K mg base 4 (He.fAd K d__law_extra.at_) ps__law_extra (spOf K sp__law_extra)) (h_Net___init__ : FnE P w K mg base 2 (He.fAd K d_Net___init__.at_) ps_Net___init__ (spOf K sp_Net___init__)) (h__law_spread : FnE P w K mg base 3 (He.fAd K d__law_spread.at_) ps__law_spread (spOf K sp__law_spread)) (h__law_again : FnE P w K mg base 3 (He.fAd K d__law_again.at_) ps__law_again (spOf K sp__law_again)) (h__law_net_rides : FnE P w K mg base 1 (He.fAd K d__law_net_rides.at_) ps__law_net_rides (spOf K sp__law_net_rides)) (h__law_trip : FnE P w K mg base 7 (He.fAd K d__law_trip.at_) ps__law_trip (spOf K sp__law_trip)) (h__law_parts : FnE P w K mg base 7 (He.fAd K d__law_parts.at_) ps__law_parts (spOf K sp__law_parts)) (h__law_costs : FnE P w K mg base 7 (He.fAd K d__law_costs.at_) ps__law_costs (spOf K sp__law_costs)) (h__law_breaks : FnE P w K mg base 8 (He.fAd K d__law_breaks.at_) ps__law_breaks (spOf K sp__law_breaks)) {cdv : Value} {A : Around} {outer : List PySem.Env} {s : Shared} {H : Hp} {E : XK} (hr : Room 8 (A.deeper (envOfC d_law.qual d_law.scope s.heap.objs.size (He.fAd K d_law.at_) cdv))) :
    PSs (cxOf CX0 P w K mg base N_law d_law.qual d_law.scope (He.fAd K d_law.at_) cdv A outer s H E).nox d_law.body (t_law K sp__law_pot sp__law_draw sp__law_tree sp__law_extra sp_Net___init__ sp__law_spread sp__law_again sp__law_net_rides sp__law_trip sp__law_parts sp__law_costs sp__law_breaks) :=
  have nd := sc_law.nd
  (pss_cons (ps_set (i := 1) nd rfl (.inl rfl) (pe_callE h__law_pot (hr.mono (by decide)) rfl (g__law_pot T) (pa_cons (pe_var (i := 0) rfl (.inl rfl)) (pa_cons pe_int (pa_cons pe_int pa_nil)))))
  (pss_cons (ps_set (i := 2) nd rfl (.inl rfl) (pe_callE h__law_pot (hr.mono (by decide)) rfl (g__law_pot T) (pa_cons (pe_var (i := 0) rfl (.inl rfl)) (pa_cons pe_int (pa_cons pe_int pa_nil)))))
  (pss_cons (ps_set (i := 3) nd rfl (.inl rfl) (pe_op op_addU pe_int (pe_callE h__law_draw (hr.mono (by decide)) rfl (g__law_draw T) (pa_cons (pe_var (i := 1) rfl (.inl rfl)) (pa_cons pe_int pa_nil)))))
  (pss_cons (ps_if (pt_cmpR (op_eqU hr.units) (pe_callE h__law_draw (hr.mono (by decide)) rfl (g__law_draw T) (pa_cons (pe_var (i := 1) rfl (.inl rfl)) (pa_cons pe_int pa_nil))) pe_int (nomark _)) (pss_one (ps_set (i := 3) nd rfl (.inl rfl) pe_int)) pss_nil)
  (pss_cons (ps_set (i := 4) nd rfl (.inl rfl) pe_int)
  (pss_cons (ps_set (i := 5) nd rfl (.inl rfl) (pe_lst (pa_cons (pe_callE h__law_draw (hr.mono (by decide)) rfl (g__law_draw T) (pa_cons (pe_var (i := 1) rfl (.inl rfl)) (pa_cons pe_int pa_nil))) (pa_cons (pe_callE h__law_draw (hr.mono (by decide)) rfl (g__law_draw T) (pa_cons (pe_var (i := 1) rfl (.inl rfl)) (pa_cons pe_int pa_nil))) pa_nil))))
  (pss_cons (ps_if (pt_cmpR (op_eqU hr.units) (pe_callE h__law_draw (hr.mono (by decide)) rfl (g__law_draw T) (pa_cons (pe_var (i := 1) rfl (.inl rfl)) (pa_cons pe_int pa_nil))) pe_int (nomark _)) (pss_cons (ps_set (i := 3) nd rfl (.inl rfl) (pe_op op_addU pe_int (pe_callE h__law_draw (hr.mono (by decide)) rfl (g__law_draw T) (pa_cons (pe_var (i := 1) rfl (.inl rfl)) (pa_cons pe_int pa_nil)))))
  (pss_cons (ps_set (i := 4) nd rfl (.inl rfl) pe_int)
  (pss_one (ps_set (i := 5) nd rfl (.inl rfl) (pe_lst (pa_cons (pe_callE h__law_draw (hr.mono (by decide)) rfl (g__law_draw T) (pa_cons (pe_var (i := 1) rfl (.inl rfl)) (pa_cons pe_int pa_nil))) (pa_cons (pe_callE h__law_draw (hr.mono (by decide)) rfl (g__law_draw T) (pa_cons (pe_var (i := 1) rfl (.inl rfl)) (pa_cons pe_int pa_nil))) pa_nil))))))) pss_nil)
  (pss_cons (ps_set (i := 6) nd rfl (.inl rfl) (pe_callE h__law_tree (hr.mono (by decide)) rfl (g__law_tree T) (pa_cons (pe_var (i := 1) rfl (.inl rfl)) (pa_cons (pe_var (i := 3) rfl (.inl rfl)) pa_nil))))
  (pss_cons (ps_if (pt_cmpR op_gtI (pe_var (i := 3) rfl (.inl rfl)) pe_int (nomark _)) (pss_one (ps_expr (pe_callE h__law_extra (hr.mono (by decide)) rfl (g__law_extra T) (pa_cons (pe_var (i := 1) rfl (.inl rfl)) (pa_cons (pe_var (i := 3) rfl (.inl rfl)) (pa_cons (pe_var (i := 6) rfl (.inl rfl)) (pa_cons (pe_var (i := 4) rfl (.inl rfl)) pa_nil))))))) pss_nil)
  (pss_cons (ps_set (i := 7) nd rfl (.inl rfl) (pe_makeE (mk_Net T) h_Net___init__ (hr.mono (by decide)) rfl (g_Net T) (pa_cons (pe_var (i := 3) rfl (.inl rfl)) (pa_cons (pe_callTy call_listQ rfl (fr_list T) (by decide +kernel) (pa_cons (pe_var (i := 6) rfl (.inl rfl)) pa_nil)) pa_nil))))
  (pss_cons (ps_set (i := 8) nd rfl (.inl rfl) (pe_callE h__law_spread (hr.mono (by decide)) rfl (g__law_spread T) (pa_cons (pe_var (i := 1) rfl (.inl rfl)) (pa_cons (pe_var (i := 3) rfl (.inl rfl)) (pa_cons (pe_callB call_lenQ rfl (fr_len T) (by decide +kernel) (pa_cons (pe_var (i := 6) rfl (.inl rfl)) pa_nil)) (pa_cons (pe_var (i := 5) rfl (.inl rfl)) pa_nil))))))
  (pss_cons (ps_set (i := 9) nd rfl (.inl rfl) (pe_callE h__law_again (hr.mono (by decide)) rfl (g__law_again T) (pa_cons (pe_var (i := 2) rfl (.inl rfl)) (pa_cons (pe_var (i := 3) rfl (.inl rfl)) (pa_cons (pe_var (i := 6) rfl (.inl rfl)) (pa_cons (pe_var (i := 8) rfl (.inl rfl)) (pa_cons (pe_callE h__law_draw (hr.mono (by decide)) rfl (g__law_draw T) (pa_cons (pe_var (i := 2) rfl (.inl rfl)) (pa_cons pe_int pa_nil))) pa_nil)))))))
  (pss_cons (ps_set (i := 10) nd rfl (.inl rfl) (pe_ix ix_U (pe_var (i := 9) rfl (.inl rfl)) pe_int (fun _ _ => rfl)))
  (pss_cons (ps_set (i := 11) nd rfl (.inl rfl) (pe_ix ix_U (pe_var (i := 9) rfl (.inl rfl)) pe_int (fun _ _ => rfl)))
  (pss_cons (ps_set (i := 12) nd rfl (.inl rfl) (pe_callE h__law_net_rides (hr.mono (by decide)) rfl (g__law_net_rides T) (pa_cons (pe_var (i := 6) rfl (.inl rfl)) (pa_cons (pe_var (i := 3) rfl (.inl rfl)) (pa_cons (pe_var (i := 11) rfl (.inl rfl)) (pa_cons (pe_var (i := 10) rfl (.inl rfl)) pa_nil))))))
  (pss_cons (ps_if (pt_not (pt_tru (pe_callE h__law_trip (hr.mono (by decide)) rfl (g__law_trip T) (pa_cons (pe_var (i := 7) rfl (.inl rfl)) (pa_cons (pe_var (i := 3) rfl (.inl rfl)) (pa_cons (pe_var (i := 11) rfl (.inl rfl)) (pa_cons (pe_var (i := 10) rfl (.inl rfl)) (pa_cons (pe_var (i := 12) rfl (.inl rfl)) pa_nil)))))))) (pss_one (ps_ret pe_bl)) pss_nil)
  (pss_cons (ps_if (pt_not (pt_tru (pe_callE h__law_parts (hr.mono (by decide)) rfl (g__law_parts T) (pa_cons (pe_var (i := 7) rfl (.inl rfl)) (pa_cons (pe_var (i := 3) rfl (.inl rfl)) (pa_cons (pe_var (i := 6) rfl (.inl rfl)) (pa_cons (pe_var (i := 11) rfl (.inl rfl)) (pa_cons (pe_var (i := 10) rfl (.inl rfl)) (pa_cons (pe_callE h__law_draw (hr.mono (by decide)) rfl (g__law_draw T) (pa_cons (pe_var (i := 2) rfl (.inl rfl)) (pa_cons (pe_op op_addU (pe_callB call_lenQ rfl (fr_len T) (by decide +kernel) (pa_cons (pe_var (i := 10) rfl (.inl rfl)) pa_nil)) pe_int) pa_nil))) (pa_cons (pe_var (i := 12) rfl (.inl rfl)) pa_nil)))))))))) (pss_one (ps_ret pe_bl)) pss_nil)
  (pss_cons (ps_if (pt_not (pt_tru (pe_callE h__law_costs (hr.mono (by decide)) rfl (g__law_costs T) (pa_cons (pe_var (i := 7) rfl (.inl rfl)) (pa_cons (pe_var (i := 3) rfl (.inl rfl)) (pa_cons (pe_var (i := 6) rfl (.inl rfl)) (pa_cons (pe_var (i := 11) rfl (.inl rfl)) (pa_cons (pe_var (i := 10) rfl (.inl rfl)) (pa_cons (pe_var (i := 12) rfl (.inl rfl)) pa_nil))))))))) (pss_one (ps_ret pe_bl)) pss_nil)
  (pss_one (ps_ret (pe_callE h__law_breaks (hr.mono (by decide)) rfl (g__law_breaks T) (pa_cons (pe_var (i := 2) rfl (.inl rfl)) (pa_cons (pe_var (i := 7) rfl (.inl rfl)) (pa_cons (pe_var (i := 3) rfl (.inl rfl)) (pa_cons (pe_var (i := 6) rfl (.inl rfl)) (pa_cons (pe_var (i := 11) rfl (.inl rfl)) (pa_cons (pe_var (i := 10) rfl (.inl rfl)) pa_nil)))))))))))))))))))))))))))
end
end Tw

set_option Elab.async false
set_option linter.all false
set_option maxRecDepth 100000
set_option maxHeartbeats 4000000
namespace Tw
open PySem PySem.Spec PyProof.Rows L2
/-- a row whose ride at i is the first that is not possible -/
structure BrokenAt (n : Nat) (es : List (Nat × Nat)) (f : Conf) (rs : List Ride) (i : Nat) (r : Ride) : Prop where
  len : rs.length ≤ 150
  inr : ∀ q ∈ rs, q.1 < es.length
  ok : walkOk n es f (rs.take i)
  at_ : rs[i]? = some r
  no : ¬ can n es (run n es f (rs.take i)) r
def sp_walkX (K : PySem.W.Frag) : XSpec := fun ds S Φ Ξ => ∃ (n : Nat) (es : List (Nat × Nat)) (f : Conf) (x : D) (rs : List Ride) (i : Nat) (r : Ride), ds = [stgD K n es f, x] ∧ NetOk n es ∧ Ok n es f ∧ Stands x (rs.map wD) ∧ BrokenAt n es f rs i r ∧ ∀ dd, S dd = none → Ξ (CBR K) (some dd) (stU S dd (brD i r.1 (colS r.2)))
def sp_bill_ofX (K : PySem.W.Frag) : XSpec := fun ds S Φ Ξ => ∃ (n : Nat) (es : List (Nat × Nat)) (f : Conf) (rs : List Ride) (i : Nat) (r : Ride), ds = [stgD K n es f, .lst (rs.map wD)] ∧ NetOk n es ∧ Ok n es f ∧ BrokenAt n es f rs i r ∧ ∀ dd, S dd = none → Ξ (CBR K) (some dd) (stU S dd (brD i r.1 (colS r.2)))
def sp__law_broken (K : PySem.W.Frag) : Spec := fun ds S Φ => ∃ (n : Nat) (es : List (Nat × Nat)) (f : Conf) (rs : List Ride) (i : Nat) (r : Ride) (way : Nat), ds = [.int way, stgD K n es f, .lst (rs.map wD), .tup [.int i, .int r.1, .str (colS r.2)]] ∧ NetOk n es ∧ Ok n es f ∧ BrokenAt n es f rs i r ∧ Φ (.bl true) S
theorem colS_len (b : Bool) : (colS b).length ≤ 10 := by cases b <;> decide
local macro_rules | `(tactic| walk_at "w") => `(tactic| first
  | ((with_reducible show WE _ (tVar _) _ _ _); refine w_var (by rfl) ?_)
  | ((with_reducible show WE _ (tC (.int _)) _ _ _); refine w_cI ?_)
  | ((with_reducible show WE _ (tC (.str _)) _ _ _); refine w_cS ?_)
  | ((with_reducible show WE _ (tC (.bl _)) _ _ _); refine w_cB ?_)
  | ((with_reducible show WE _ (tC .non) _ _ _); refine w_cN ?_)
  | ((with_reducible show WE _ (tC (.ty _)) _ _ _); refine w_cT ?_)
  | ((with_reducible show WE _ (tC (.ref _)) _ _ _); refine w_cR ?_)
  | ((with_reducible show WE _ (tOp _ _ _) _ _ _); refine w_op ?_)
  | ((with_reducible show WE _ (tUn _ _) _ _ _); refine w_un ?_)
  | ((with_reducible show WE _ (tChain _ _ _ _ _) _ _ _); refine w_chain ?_)
  | ((with_reducible show WE _ (tFld _ _ _) _ _ _); refine w_fld ?_)
  | ((with_reducible show WE _ (tIf _ _ _) _ _ _); refine w_ifE ?_)
  | ((with_reducible show WE _ (tTup _) _ _ _); refine w_tup ?_)
  | ((with_reducible show WE _ (tCB _ _) _ _ _); refine w_cb ?_)
  | ((with_reducible show WE _ (tCall _ _ _ _) _ _ _); refine w_call ?_)
  | ((with_reducible show WE _ (tMake _ _ _ _ _) _ _ _); refine w_make ?_)
  | ((with_reducible show WE _ (tMeth _ _ _ _ _ _ _) _ _ _); refine w_meth ?_)
  | ((with_reducible show WE _ (tSl _ _ _ _) _ _ _); refine w_sl ?_)
  | ((with_reducible show WE _ (tBM _ _ rAppend _ _) _ _ _); refine w_append (p := 0) (ds := []) ?_)
  | ((with_reducible show WE _ (tBM _ _ rExtend _ _) _ _ _); refine w_extend ?_)
  | ((with_reducible show WE _ (tBM _ _ rInsL _ _) _ _ _); refine w_insert ?_)
  | ((with_reducible show WE _ (tBM0 _ _ rPop _) _ _ _); refine w_pop ?_)
  | ((with_reducible show WE _ (tBM _ _ rPopAt _ _) _ _ _); refine w_popAt ?_)
  | ((with_reducible show WE _ (tBM _ _ (rCntD _) _ _) _ _ _); refine w_bmL ?_)
  | ((with_reducible show WE _ (tAndV _ _) _ _ _); refine w_andV ?_)
  | ((with_reducible show WE _ (tOrV _ _) _ _ _); refine w_orV ?_)
  | ((with_reducible show WE _ (tNotV _) _ _ _); refine w_notV ?_)
  | ((with_reducible show WA _ tNil _ _ _); refine wa_nil ?_)
  | ((with_reducible show WA _ (tCons _ _) _ _ _); refine wa_cons ?_)
  | ((with_reducible show WO _ tNoPart _ _ _); refine wo_none ?_)
  | ((with_reducible show WO _ (tPart _) _ _ _); refine wo_some ?_)
  | ((with_reducible show WT _ (tTest _) _ _ _); refine w_test ?_)
  | ((with_reducible show WT _ (tB _) _ _ _); refine w_tB ?_)
  | ((with_reducible show WT _ (tTru _ _) _ _ _); refine w_tru ?_)
  | ((with_reducible show WT _ (tTruO _ _) _ _ _); refine w_truO ?_)
  | ((with_reducible show WT _ (tAnd _ _) _ _ _); refine w_and ?_)
  | ((with_reducible show WT _ (tOr _ _) _ _ _); refine w_or ?_)
  | ((with_reducible show WT _ (tNot _) _ _ _); refine w_not ?_)
  | ((with_reducible show WT _ tYes _ _ _); refine wt_yes ?_)
  | ((with_reducible show WS _ (tSeq _ _) _ _ _); refine ws_seq ?_)
  | ((with_reducible show WS _ (tAsg _ (gName _)) _ _ _); refine ws_set ?_)
  | ((with_reducible show WS _ (tAsg _ _) _ _ _); refine ws_asg ?_)
  | ((with_reducible show WS _ (sFld _ _ _ _) _ _ _); refine ws_fld ?_)
  | ((with_reducible show WS _ (tDrop _) _ _ _); refine ws_drop ?_)
  | ((with_reducible show WS _ (tRet _) _ _ _); refine ws_ret ?_)
  | ((with_reducible show WS _ tRetN _ _ _); refine ws_retN ?_)
  | ((with_reducible show WS _ tNext _ _ _); refine ws_next ?_)
  | ((with_reducible show WS _ tBreak _ _ _); refine ws_break ?_)
  | ((with_reducible show WS _ tCont _ _ _); refine ws_cont ?_)
  | ((with_reducible show WS _ (tIfS _ _ _) _ _ _); refine ws_if ?_)
  | ((with_reducible show WS _ (tAug _ _ _) _ _ _); refine ws_aug (by rfl) ?_)
  | ((with_reducible show WS _ (tAugS _ _ _ _ _ _) _ _ _); refine ws_augS ?_)
  | ((with_reducible show WG _ (gName _) _ _ _ _); refine wg_name ?_)
  | ((with_reducible show WG _ (gTup _ _ _) (.tup _) _ _ _); refine wg_tup (by rfl) ?_)
  | ((with_reducible show WG _ (gSub _ _ _) _ _ _ _); refine wg_sub ?_)
  | ((with_reducible show WGs _ gNil [] _ _ _); refine wgs_nil ?_)
  | ((with_reducible show WGs _ (gCons _ _) (_ :: _) _ _ _); refine wgs_cons ?_)
  | ((with_reducible show WI _ (iRng1 _) _ _ _); refine wi_rng1 ?_)
  | ((with_reducible show WI _ (iRng2 _) _ _ _); refine wi_rng2 ?_)
  | ((with_reducible show WI _ (iSeqU _ _) _ _ _); refine wi_seq ?_)
  | ((with_reducible show WI _ (iEnumU _ _) _ _ _); refine wi_enum ?_)
  | ((with_reducible show WI _ (RZ.iZipA _ _) _ _ _); refine wi_zip ?_))
local macro_rules | `(tactic| walk_at "w") => `(tactic| first
  | ((with_reducible show ∃ C ns ds d, InsOf _ _ C ns ds ∧ _); refine ⟨_, _, _, _, .o, by walk_at "cls", by walk_at "noat", by rfl, ?_⟩)
  | ((with_reducible show R2W _ (rAddU _) (.int _) (.int _) _ _); refine rw_addI ?_)
  | ((with_reducible show R2W _ rSubI (.int _) (.int _) _ _); refine rw_subI ?_)
  | ((with_reducible show R2W _ rLtI (.int _) (.int _) _ _); refine rw_ltI ?_)
  | ((with_reducible show R2W _ rLeI (.int _) (.int _) _ _); refine rw_leI ?_)
  | ((with_reducible show R2W _ rGtI (.int _) (.int _) _ _); refine rw_gtI ?_)
  | ((with_reducible show R2W _ rGeI (.int _) (.int _) _ _); refine rw_geI ?_)
  | ((with_reducible show R2W _ (rEqU _) (.int _) (.int _) _ _); refine rw_eqUI ?_)
  | ((with_reducible show R2W _ (rEqU _) (.str _) (.str _) _ _); refine rw_eqUS ?_)
  | ((with_reducible show R2W _ (rNeU _) (.int _) (.int _) _ _); refine rw_neUI ?_)
  | ((with_reducible show R2W _ (rNeU _) (.str _) (.str _) _ _); refine rw_neUS ?_)
  | ((with_reducible show R1W _ rNegI (.int _) _ _); refine rw_negI ?_)
  | ((with_reducible show RLW _ (rLenQ _) [_] _ _); refine rw_len (by first | exact .t | exact .l | exact .r (by assumption)) ?_)
  | ((with_reducible show RLW _ rIntQ [.int _] _ _); refine rw_int ?_)
  | ((with_reducible show RLW _ rAbsQ [.int _] _ _); refine rw_abs ?_)
  | ((with_reducible show ∃ k, .bl _ = D.bl k ∧ _); refine ⟨_, rfl, ?_⟩)
  | ((with_reducible show ∃ k, .int _ = D.int k ∧ _); refine ⟨_, rfl, ?_⟩)
  | ((with_reducible show ∃ k, TruD _ (.bl _) k ∧ _); refine ⟨_, .bl, ?_⟩)
  | ((with_reducible show ∃ k, TruD _ (.int _) k ∧ _); refine ⟨_, .int, ?_⟩)
  | ((with_reducible show List.length _ ≤ 1000000 ∧ _); refine ⟨Nat.le_of_ble_eq_true rfl, ?_⟩)
  | ((with_reducible show ∃ S2, Sub S2 _ ∧ _); refine ⟨_, Sub.refl _, ?_⟩))
local macro_rules | `(tactic| walk_at "w*") => `(tactic| repeat walk_at "w")
local macro_rules | `(tactic| walk_at "le") => `(tactic| repeat first | exact Le.nil | exact Le.rfl | refine Le.som ?_ | refine Le.non ?_)
local macro_rules | `(tactic| walk_at "fz") => `(tactic| repeat first | exact Fz.nil | refine Fz.som ?_ | refine Fz.frz ?_ | refine Fz.non ?_)
local macro_rules | `(tactic| walk_at "cls") => `(tactic| first | exact cl_Net (by assumption) | exact cl_Standing (by assumption) | exact cl_Bill (by assumption) | exact cl_Trip (by assumption))
local macro_rules | `(tactic| walk_at "noat") => `(tactic| first | exact na_Net_stations (by assumption) | exact na_Net_ropes (by assumption) | exact na_Standing_net (by assumption) | exact na_Standing_reds (by assumption) | exact na_Standing_blues (by assumption) | exact na_Standing_cars (by assumption) | exact na_Bill_net (by assumption) | exact na_Bill_reds (by assumption) | exact na_Bill_blues (by assumption) | exact na_Trip_rides (by assumption))

local macro_rules | `(tactic| walk_at "w") => `(tactic| first
  | ((with_reducible show WI _ (iRng3 _) _ _ _); refine wi_rng3 ?_)
  | ((with_reducible show R2W _ (rIxU _) (.ref _) (.int 0) (potU _ _ _ _ _ _ _ _) _); refine rw_p0 ?_)
  | ((with_reducible show R2W _ (rIxU _) (.ref _) (.int 1) (potU _ _ _ _ _ _ _ _) _); refine rw_p1 ?_)
  | ((with_reducible show R2W _ (rIxU _) (.ref _) (.int 2) (potU _ _ _ _ _ _ _ _) _); refine rw_p2 ?_)
  | ((with_reducible show R2W _ (rIxU _) (.ref _) (.int 3) (potU _ _ _ _ _ _ _ _) _); refine rw_p3 ?_)
  | ((with_reducible show R2W _ (rIxU _) (.ref _) (.int 4) (potU _ _ _ _ _ _ _ _) _); refine rw_p4 ?_)
  | ((with_reducible show RSW _ rSetL (.ref _) (.int 1) (.int _) (potU _ _ _ _ _ _ _ _) _); refine rs_p1 ?_)
  | ((with_reducible show RSW _ rSetL (.ref _) (.int 2) (.int _) (potU _ _ _ _ _ _ _ _) _); refine rs_p2 ?_)
  | ((with_reducible show RSW _ rSetL (.ref _) (.int 3) (.int _) (potU _ _ _ _ _ _ _ _) _); refine rs_p3 ?_)
  | ((with_reducible show RSW _ rSetL (.ref _) (.int 4) (.int _) (potU _ _ _ _ _ _ _ _) _); refine rs_p4 ?_)
  | ((with_reducible show R2W _ rMulU (.int _) (.int _) _ _); refine rw_mulI (.inr ⟨by decide, by decide⟩) ?_)
  | ((with_reducible show R2W _ rMulU (.int _) (.int _) _ _); refine rw_mulI (.inl ⟨by decide, by decide⟩) ?_)
  | ((with_reducible show R2W _ rModI (.int _) (.int _) _ _); refine rw_modI (by decide) ?_)
  | ((with_reducible show R2W _ rDivI (.int _) (.int _) _ _); refine rw_divI (by decide) (by decide) ?_)
  | ((with_reducible show RLW _ rMax2Q [.int _, .int _] _ _); refine rw_max2 ?_)
  | ((with_reducible show RLW _ rMin2Q [.int _, .int _] _ _); refine rw_min2 ?_))

section
variable {P : Program} {w : World} {K : PySem.W.Frag} {mg : Str → Option Value} {base : Heap} {fI : Addr} {fd : FuncData}
theorem like_neverH (T : Hd fn fa xs K mg) (k : Nat) : FnHE P w K mg base (k + 1) (He.fAd K d__law_like.at_) ps__law_like (spOf K fun _ _ _ => False) := by
  refine T.okH _ ix__law_like (N := N__law_like) rfl sc__law_like (fun ds S Φ h => h.elim) (fun _ _ _ _ _ _ us hl => ?_) fun cdv A outer s H E p hot hr => ⟨_, pss_never, fun _ _ _ h => h.elim⟩
  · match us, hl with
    | [a, b], _ => rfl
theorem ok__law_likeH (T : Hd fn fa xs K mg) : ∀ n, FnHE P w K mg base (n + 2) (He.fAd K d__law_like.at_) ps__law_like (spOf K (sp__law_like n))
  | 0 => by
    refine T.okH _ ix__law_like (N := N__law_like) rfl sc__law_like (fun ds S Φ ⟨_, e, _⟩ => by rw [e]; rfl) (fun _ _ _ _ _ _ us hl => ?_) fun cdv A outer s H E p hot hr => ⟨_, dv__law_likeH T (like_neverH T 0) hot hr, ?_⟩
    · match us, hl with
      | [a, b], _ => rfl
    rintro _ S Φ ⟨d, rfl, hd, q⟩
    exact like_scalar hd q
  | n + 1 => by
    refine T.okH _ ix__law_like (N := N__law_like) rfl sc__law_like (fun ds S Φ ⟨_, e, _⟩ => by rw [e]; rfl) (fun _ _ _ _ _ _ us hl => ?_) fun cdv A outer s H E p hot hr => ⟨_, dv__law_likeH T (ok__law_likeH T n) hot hr, ?_⟩
    · match us, hl with
      | [a, b], _ => rfl
    rintro _ S Φ ⟨d, rfl, hd, q⟩
    exact like_step hd q
theorem ok_walkX (T : Hd fn fa xs K mg) (B : BRF P w K mg base fI fd) : FnX P w K mg base 5 (He.fAd K d_walk.at_) ps_walk (spOfX K (sp_walkX K)) := by
  refine T.okX _ ix_walk (N := N_walk) rfl sc_walk (fun ds S Φ Ξ ⟨_, _, _, _, _, _, _, e, _⟩ => by rw [e]; rfl) (fun _ _ _ _ _ _ us hl => ?_) fun cdv A outer s H E hr => ⟨_, dv_walkX T B (ok_check_rides T) (ok__is_possible T) (ok_moved T) hr, ?_⟩
  · match us, hl with
    | [a, b], _ => rfl
  rintro _ S Φ Ξ ⟨n, es, f, x, rs, i, r, rfl, N, O, hx, BA, q⟩
  have hil : i < rs.length := (List.getElem?_eq_some_iff.mp BA.at_).1
  have hlen := BA.len
  have hfew := N.few
  unfold t_walkX
  refine wx_seq ?_
  walk_at "w*"
  refine ⟨n, es, x, rs, rfl, hx, BA.inr, ?_⟩
  refine wx_seq ?_
  walk_at "w*"
  refine wx_seq ?_
  refine ws_set ?_
  refine w_lstM ?_
  walk_at "w*"
  intro p hp
  refine wx_seqX ?_
  refine wx_forE ?_
  walk_at "w*"
  refine ⟨_, _, rfl, hx, fun j => [some (stgD K n es f), some x, some (stgD K n es (run n es f (rs.take j))), some (.ref p), none, none, none],
    fun j S' => j ≤ i ∧ S' = stU S p (.lst (((List.range (j + 1)).map fun j => run n es f (rs.take j)).map (stgD K n es))), by walk_at "le", ⟨Nat.zero_le _, rfl⟩, fun j y S' hy e => ?_, fun S' e => ?_⟩
  · obtain ⟨hj, rfl⟩ := e
    obtain ⟨d, hd, rfl⟩ := enumD_get hy
    obtain ⟨r', hr', rfl⟩ := map_get hd
    have hjl : j < rs.length := (List.getElem?_eq_some_iff.mp hr').1
    have tj : (rs.take i).take j = rs.take j := by rw [List.take_take, Nat.min_eq_left hj]
    have Oj : Ok n es (run n es f (rs.take j)) := by
      have := O.run N BA.ok j (by rw [List.length_take]; omega)
      rw [tj] at this
      exact this
    have hin := BA.inr r' (List.mem_of_getElem? hr')
    walk_at "w*"
    refine wx_seqX ?_
    refine wx_if ?_
    walk_at "w*"
    refine ⟨n, es, _, r', rfl, N, Oj, hin, ?_⟩
    walk_at "w*"
    by_cases hji : j = i
    · subst hji
      have er : r' = r := Option.some.inj (hr'.symm.trans BA.at_)
      subst er
      have hno : ¬ 0 < (run n es f (rs.take j)) (off n r'.2 + at_ n es (run n es f (rs.take j)) r') := fun h => BA.no ⟨hin, h⟩
      rw [decide_eq_false hno]
      walk_at "w*"
      refine iteT ?_
      refine wx_raiseBR ?_
      walk_at "w*"
      refine ⟨j, r'.1, colS r'.2, rfl, by omega, by omega, colS_len _, fun dd hdd => ⟨_, Sub.upd (Sub.new hp), q dd ?_⟩⟩
      by_cases e : dd = p
      · rw [e, stU_same] at hdd; cases hdd
      · rw [stU_ne e] at hdd; exact hdd
    · have hlt : j < i := by omega
      have cj : can n es (run n es f (rs.take j)) r' := by
        have := BA.ok j r' (by rw [List.getElem?_take]; rw [if_pos hlt]; exact hr')
        rw [tj] at this
        exact this
      rw [decide_eq_true cj.2]
      walk_at "w*"
      refine iteF ?_
      refine wx_of ?_
      walk_at "w*"
      refine wx_of ?_
      walk_at "w*"
      refine ⟨n, es, _, r', rfl, N, Oj, cj, ?_⟩
      walk_at "w*"
      refine ⟨_, _, rfl, stU_same, ?_⟩
      walk_at "w*"
      refine ⟨_, stU_same, by simp; omega, ?_⟩
      rw [stU_U, ← run_take hr']
      refine ⟨by walk_at "le", by omega, ?_⟩
      rw [List.range_succ (n := j + 1), List.map_append, List.map_append]
      rfl
  · obtain ⟨hj, _⟩ := e
    rw [enumD_length, List.length_map] at hj
    omega
theorem ok_bill_ofX (T : Hd fn fa xs K mg) (B : BRF P w K mg base fI fd) : FnX P w K mg base 6 (He.fAd K d_bill_of.at_) ps_bill_of (spOfX K (sp_bill_ofX K)) := by
  refine T.okX _ ix_bill_of (N := N_bill_of) rfl sc_bill_of (fun ds S Φ Ξ ⟨_, _, _, _, _, _, e, _⟩ => by rw [e]; rfl) (fun _ _ _ _ _ _ us hl => ?_) fun cdv A outer s H E hr => ⟨_, dv_bill_ofX T (ok_walkX T B) (ok_car_station T) (ok_Bill___init__ T) hr, ?_⟩
  · match us, hl with
    | [a, b], _ => rfl
  rintro _ S Φ Ξ ⟨n, es, f, rs, i, r, rfl, N, O, BA, q⟩
  have hn := N.hi
  have hf := N.few
  unfold t_bill_ofX
  refine wx_seq ?_
  walk_at "w*"
  refine wx_seq ?_
  walk_at "w*"
  refine w_lst ?_
  walk_at "w*"
  refine rw_mulM (by omega) (by simp; omega) fun p hp => ?_
  walk_at "w*"
  refine wx_seq ?_
  walk_at "w*"
  refine w_lst ?_
  walk_at "w*"
  refine rw_mulM (by omega) (by simp; omega) fun p2 hp2 => ?_
  have hpp : p ≠ p2 := fun e => by rw [← e, stU_same] at hp2; cases hp2
  have hS2 : S p2 = none := by rw [stU_ne (Ne.symm hpp)] at hp2; exact hp2
  walk_at "w*"
  refine wx_seqX ?_
  refine wx_sub ?_
  refine wx_for_zip ?_
  refine wex_call ?_
  walk_at "w*"
  refine ⟨n, es, f, _, rs, i, r, rfl, N, O, .l, BA, fun dd hdd => ?_⟩
  have h2 : dd ≠ p2 := fun e => by rw [e, stU_same] at hdd; cases hdd
  rw [stU_ne h2] at hdd
  have h1 : dd ≠ p := fun e => by rw [e, stU_same] at hdd; cases hdd
  rw [stU_ne h1] at hdd
  exact ⟨_, Sub.upd ((Sub.new hp).trans (Sub.new (by rw [stU_ne (Ne.symm hpp)]; exact hS2))), q dd hdd⟩
theorem ok__law_broken (T : Hd fn fa xs K mg) (B : BRF P w K mg base fI fd) : FnE P w K mg base 7 (He.fAd K d__law_broken.at_) ps__law_broken (spOf K (sp__law_broken K)) := by
  refine T.ok _ ix__law_broken (N := N__law_broken) rfl sc__law_broken (fun ds S Φ ⟨_, _, _, _, _, _, _, e, _⟩ => by rw [e]; rfl) (fun _ _ _ _ _ _ us hl => ?_) fun cdv A outer s H E hr => ⟨_, dv__law_broken T B (ok_walkX T B) (ok_bill_ofX T B) (ok__law_likeH T 1) hr, ?_⟩
  · match us, hl with
    | [a, b, c, d], _ => rfl
  rintro _ S Φ ⟨n, es, f, rs, i, r, way, rfl, N, O, BA, q⟩
  unfold t__law_broken
  refine ws_seq ?_
  refine ws_tryAs fun W => ?_
  have suite : ∀ dd, S dd = none → PySem.W.exmOne K (.ref (CBR K)) (.ref (He.ga K "RopeError")) = some true ∧ ∀ a, WS K (tSeq (tIfS (tNot (tTru K (tCB (rIsSelf (.ref (CBR K)) (He.ga K "BrokenRow") a) (tCons (tVar 4) (tCons (tC (.ref (He.ga K "BrokenRow"))) tNil))))) (tRet (tC (.bl false))) tNext)
      (tRet (tCall (spOf K (sp__law_like 1)) [] E0 (tCons (tTup (tCons (tXf a (.ref (CBR K)) (some dd) (CBR K) "step" (tVar 4)) (tCons (tXf a (.ref (CBR K)) (some dd) (CBR K) "rope" (tVar 4)) (tCons (tXf a (.ref (CBR K)) (some dd) (CBR K) "colour" (tVar 4)) tNil)))) (tCons (tVar 3) tNil)))))
      (stU S dd (brD i r.1 (colS r.2))) ((startE N__law_broken [.int way, stgD K n es f, .lst (rs.map wD), .tup [.int i, .int r.1, .str (colS r.2)]]).set 4 (some (.ref a))) { nx := fun _ _ => False, rt := Φ } := by
    intro dd hdd
    refine ⟨B.exm, fun a => ?_⟩
    walk_at "w*"
    refine rw_isSelf ?_
    walk_at "w*"
    refine iteF ?_
    walk_at "w*"
    refine w_xf ?_
    walk_at "w*"
    refine ⟨rfl, rfl, dd, _, _, .int i, rfl, stU_same, rfl, ?_⟩
    walk_at "w*"
    refine w_xf ?_
    walk_at "w*"
    refine ⟨rfl, rfl, dd, _, _, .int r.1, rfl, stU_same, rfl, ?_⟩
    walk_at "w*"
    refine w_xf ?_
    walk_at "w*"
    refine ⟨rfl, rfl, dd, _, _, .str (colS r.2), rfl, stU_same, rfl, ?_⟩
    walk_at "w*"
    refine ⟨_, rfl, (LkD.seq (Nat.le_of_ble_eq_true rfl) fun x hx => ?_).2, ?_⟩
    · simp only [List.mem_cons, List.not_mem_nil, or_false] at hx
      rcases hx with rfl | rfl | rfl
      · exact LkD.int
      · exact LkD.int
      · exact LkD.str
    exact ⟨S, Sub.new hdd, q⟩
  refine wx_if ?_
  walk_at "w*"
  refine ifD (fun _ => ?_) (fun _ => ?_)
  · refine wx_drop (wex_call ?_)
    walk_at "w*"
    refine ⟨n, es, f, _, rs, i, r, rfl, N, O, .l, BA, fun dd hdd => ⟨(suite dd hdd).1, fun a => ?_⟩⟩
    refine ((suite dd hdd).2 a).mono (fun _ _ z => z.elim) (fun _ _ z => z) (fun _ _ z => z.elim) (fun _ _ z => z.elim)
  · refine wx_drop (wex_call ?_)
    walk_at "w*"
    refine ⟨n, es, f, rs, i, r, rfl, N, O, BA, fun dd hdd => ⟨(suite dd hdd).1, fun a => ?_⟩⟩
    refine ((suite dd hdd).2 a).mono (fun _ _ z => z.elim) (fun _ _ z => z) (fun _ _ z => z.elim) (fun _ _ z => z.elim)
end
end Tw


set_option Elab.async false
set_option linter.all false
set_option maxRecDepth 100000
set_option maxHeartbeats 4000000
namespace Tw
open PySem PySem.Spec PyProof.Rows L2
/-- both rides over each of the first i ropes -/
def bothR (i : Nat) : List Ride := (List.range i).flatMap fun k => [(k, false), (k, true)]
theorem bothR_succ (i : Nat) : bothR (i + 1) = bothR i ++ [(i, false), (i, true)] := by
  unfold bothR
  rw [List.range_succ, List.flatMap_append]
  simp
theorem bothR_len (i : Nat) : (bothR i).length = 2 * i := by
  induction i with
  | zero => rfl
  | succ i ih => rw [bothR_succ, List.length_append, ih]; simp; omega
theorem bothR_mem {i : Nat} {r : Ride} (h : r ∈ bothR i) : r.1 < i := by
  unfold bothR at h
  obtain ⟨k, hk, e⟩ := List.mem_flatMap.mp h
  have hk' := List.mem_range.mp hk
  simp at e
  rcases e with rfl | rfl <;> exact hk'
def sp__law_breaks (K : PySem.W.Frag) : Spec := fun ds S Φ => ∃ (p c : Addr) (n : Nat) (es : List (Nat × Nat)) (f : Conf) (rs : List Ride), ds = [.ref p, netD K n es, .int n, .lst (es.map pD), .lst ((path n es f rs).map (keyD n es.length)), .lst (rs.map rD)] ∧ NetOk n es ∧ Ok n es f ∧ walkOk n es f rs ∧ rs.length ≤ 100 ∧ Pot S p c ∧ ∀ S', Dr p c S S' → Φ (.bl true) S'
theorem take_mid {α : Type} {rs : List α} {r : α} {k : Nat} (h : k ≤ rs.length) : (rs.take k ++ [r] ++ rs.drop k).take k = rs.take k := by
  have e : (rs.take k).length = k := by rw [List.length_take]; omega
  rw [List.append_assoc, List.take_append_of_le_length (by omega), List.take_of_length_le (by omega)]
theorem get_mid {α : Type} {rs : List α} {r : α} {k : Nat} (h : k ≤ rs.length) : (rs.take k ++ [r] ++ rs.drop k)[k]? = some r := by
  have e : (rs.take k).length = k := by rw [List.length_take]; omega
  rw [List.append_assoc, List.getElem?_append_right (by omega), e, Nat.sub_self]
  rfl
local macro_rules | `(tactic| walk_at "w") => `(tactic| first
  | ((with_reducible show WE _ (tVar _) _ _ _); refine w_var (by rfl) ?_)
  | ((with_reducible show WE _ (tC (.int _)) _ _ _); refine w_cI ?_)
  | ((with_reducible show WE _ (tC (.str _)) _ _ _); refine w_cS ?_)
  | ((with_reducible show WE _ (tC (.bl _)) _ _ _); refine w_cB ?_)
  | ((with_reducible show WE _ (tC .non) _ _ _); refine w_cN ?_)
  | ((with_reducible show WE _ (tC (.ty _)) _ _ _); refine w_cT ?_)
  | ((with_reducible show WE _ (tC (.ref _)) _ _ _); refine w_cR ?_)
  | ((with_reducible show WE _ (tOp _ _ _) _ _ _); refine w_op ?_)
  | ((with_reducible show WE _ (tUn _ _) _ _ _); refine w_un ?_)
  | ((with_reducible show WE _ (tChain _ _ _ _ _) _ _ _); refine w_chain ?_)
  | ((with_reducible show WE _ (tFld _ _ _) _ _ _); refine w_fld ?_)
  | ((with_reducible show WE _ (tIf _ _ _) _ _ _); refine w_ifE ?_)
  | ((with_reducible show WE _ (tTup _) _ _ _); refine w_tup ?_)
  | ((with_reducible show WE _ (tCB _ _) _ _ _); refine w_cb ?_)
  | ((with_reducible show WE _ (tCall _ _ _ _) _ _ _); refine w_call ?_)
  | ((with_reducible show WE _ (tMake _ _ _ _ _) _ _ _); refine w_make ?_)
  | ((with_reducible show WE _ (tMeth _ _ _ _ _ _ _) _ _ _); refine w_meth ?_)
  | ((with_reducible show WE _ (tSl _ _ _ _) _ _ _); refine w_sl ?_)
  | ((with_reducible show WE _ (tBM _ _ rAppend _ _) _ _ _); refine w_append (p := 0) (ds := []) ?_)
  | ((with_reducible show WE _ (tBM _ _ rExtend _ _) _ _ _); refine w_extend ?_)
  | ((with_reducible show WE _ (tBM _ _ rInsL _ _) _ _ _); refine w_insert ?_)
  | ((with_reducible show WE _ (tBM0 _ _ rPop _) _ _ _); refine w_pop ?_)
  | ((with_reducible show WE _ (tBM _ _ rPopAt _ _) _ _ _); refine w_popAt ?_)
  | ((with_reducible show WE _ (tBM _ _ (rCntD _) _ _) _ _ _); refine w_bmL ?_)
  | ((with_reducible show WE _ (tAndV _ _) _ _ _); refine w_andV ?_)
  | ((with_reducible show WE _ (tOrV _ _) _ _ _); refine w_orV ?_)
  | ((with_reducible show WE _ (tNotV _) _ _ _); refine w_notV ?_)
  | ((with_reducible show WA _ tNil _ _ _); refine wa_nil ?_)
  | ((with_reducible show WA _ (tCons _ _) _ _ _); refine wa_cons ?_)
  | ((with_reducible show WO _ tNoPart _ _ _); refine wo_none ?_)
  | ((with_reducible show WO _ (tPart _) _ _ _); refine wo_some ?_)
  | ((with_reducible show WT _ (tTest _) _ _ _); refine w_test ?_)
  | ((with_reducible show WT _ (tB _) _ _ _); refine w_tB ?_)
  | ((with_reducible show WT _ (tTru _ _) _ _ _); refine w_tru ?_)
  | ((with_reducible show WT _ (tTruO _ _) _ _ _); refine w_truO ?_)
  | ((with_reducible show WT _ (tAnd _ _) _ _ _); refine w_and ?_)
  | ((with_reducible show WT _ (tOr _ _) _ _ _); refine w_or ?_)
  | ((with_reducible show WT _ (tNot _) _ _ _); refine w_not ?_)
  | ((with_reducible show WT _ tYes _ _ _); refine wt_yes ?_)
  | ((with_reducible show WS _ (tSeq _ _) _ _ _); refine ws_seq ?_)
  | ((with_reducible show WS _ (tAsg _ (gName _)) _ _ _); refine ws_set ?_)
  | ((with_reducible show WS _ (tAsg _ _) _ _ _); refine ws_asg ?_)
  | ((with_reducible show WS _ (sFld _ _ _ _) _ _ _); refine ws_fld ?_)
  | ((with_reducible show WS _ (tDrop _) _ _ _); refine ws_drop ?_)
  | ((with_reducible show WS _ (tRet _) _ _ _); refine ws_ret ?_)
  | ((with_reducible show WS _ tRetN _ _ _); refine ws_retN ?_)
  | ((with_reducible show WS _ tNext _ _ _); refine ws_next ?_)
  | ((with_reducible show WS _ tBreak _ _ _); refine ws_break ?_)
  | ((with_reducible show WS _ tCont _ _ _); refine ws_cont ?_)
  | ((with_reducible show WS _ (tIfS _ _ _) _ _ _); refine ws_if ?_)
  | ((with_reducible show WS _ (tAug _ _ _) _ _ _); refine ws_aug (by rfl) ?_)
  | ((with_reducible show WS _ (tAugS _ _ _ _ _ _) _ _ _); refine ws_augS ?_)
  | ((with_reducible show WG _ (gName _) _ _ _ _); refine wg_name ?_)
  | ((with_reducible show WG _ (gTup _ _ _) (.tup _) _ _ _); refine wg_tup (by rfl) ?_)
  | ((with_reducible show WG _ (gSub _ _ _) _ _ _ _); refine wg_sub ?_)
  | ((with_reducible show WGs _ gNil [] _ _ _); refine wgs_nil ?_)
  | ((with_reducible show WGs _ (gCons _ _) (_ :: _) _ _ _); refine wgs_cons ?_)
  | ((with_reducible show WI _ (iRng1 _) _ _ _); refine wi_rng1 ?_)
  | ((with_reducible show WI _ (iRng2 _) _ _ _); refine wi_rng2 ?_)
  | ((with_reducible show WI _ (iSeqU _ _) _ _ _); refine wi_seq ?_)
  | ((with_reducible show WI _ (iEnumU _ _) _ _ _); refine wi_enum ?_)
  | ((with_reducible show WI _ (RZ.iZipA _ _) _ _ _); refine wi_zip ?_))
local macro_rules | `(tactic| walk_at "w") => `(tactic| first
  | ((with_reducible show ∃ C ns ds d, InsOf _ _ C ns ds ∧ _); refine ⟨_, _, _, _, .o, by walk_at "cls", by walk_at "noat", by rfl, ?_⟩)
  | ((with_reducible show R2W _ (rAddU _) (.int _) (.int _) _ _); refine rw_addI ?_)
  | ((with_reducible show R2W _ rSubI (.int _) (.int _) _ _); refine rw_subI ?_)
  | ((with_reducible show R2W _ rLtI (.int _) (.int _) _ _); refine rw_ltI ?_)
  | ((with_reducible show R2W _ rLeI (.int _) (.int _) _ _); refine rw_leI ?_)
  | ((with_reducible show R2W _ rGtI (.int _) (.int _) _ _); refine rw_gtI ?_)
  | ((with_reducible show R2W _ rGeI (.int _) (.int _) _ _); refine rw_geI ?_)
  | ((with_reducible show R2W _ (rEqU _) (.int _) (.int _) _ _); refine rw_eqUI ?_)
  | ((with_reducible show R2W _ (rEqU _) (.str _) (.str _) _ _); refine rw_eqUS ?_)
  | ((with_reducible show R2W _ (rNeU _) (.int _) (.int _) _ _); refine rw_neUI ?_)
  | ((with_reducible show R2W _ (rNeU _) (.str _) (.str _) _ _); refine rw_neUS ?_)
  | ((with_reducible show R1W _ rNegI (.int _) _ _); refine rw_negI ?_)
  | ((with_reducible show RLW _ (rLenQ _) [_] _ _); refine rw_len (by first | exact .t | exact .l | exact .r (by assumption)) ?_)
  | ((with_reducible show RLW _ rIntQ [.int _] _ _); refine rw_int ?_)
  | ((with_reducible show RLW _ rAbsQ [.int _] _ _); refine rw_abs ?_)
  | ((with_reducible show ∃ k, .bl _ = D.bl k ∧ _); refine ⟨_, rfl, ?_⟩)
  | ((with_reducible show ∃ k, .int _ = D.int k ∧ _); refine ⟨_, rfl, ?_⟩)
  | ((with_reducible show ∃ k, TruD _ (.bl _) k ∧ _); refine ⟨_, .bl, ?_⟩)
  | ((with_reducible show ∃ k, TruD _ (.int _) k ∧ _); refine ⟨_, .int, ?_⟩)
  | ((with_reducible show List.length _ ≤ 1000000 ∧ _); refine ⟨Nat.le_of_ble_eq_true rfl, ?_⟩)
  | ((with_reducible show ∃ S2, Sub S2 _ ∧ _); refine ⟨_, Sub.refl _, ?_⟩))
local macro_rules | `(tactic| walk_at "w*") => `(tactic| repeat walk_at "w")
local macro_rules | `(tactic| walk_at "le") => `(tactic| repeat first | exact Le.nil | exact Le.rfl | refine Le.som ?_ | refine Le.non ?_)
local macro_rules | `(tactic| walk_at "fz") => `(tactic| repeat first | exact Fz.nil | refine Fz.som ?_ | refine Fz.frz ?_ | refine Fz.non ?_)
local macro_rules | `(tactic| walk_at "cls") => `(tactic| first | exact cl_Net (by assumption) | exact cl_Standing (by assumption) | exact cl_Bill (by assumption) | exact cl_Trip (by assumption))
local macro_rules | `(tactic| walk_at "noat") => `(tactic| first | exact na_Net_stations (by assumption) | exact na_Net_ropes (by assumption) | exact na_Standing_net (by assumption) | exact na_Standing_reds (by assumption) | exact na_Standing_blues (by assumption) | exact na_Standing_cars (by assumption) | exact na_Bill_net (by assumption) | exact na_Bill_reds (by assumption) | exact na_Bill_blues (by assumption) | exact na_Trip_rides (by assumption))

local macro_rules | `(tactic| walk_at "w") => `(tactic| first
  | ((with_reducible show WI _ (iRng3 _) _ _ _); refine wi_rng3 ?_)
  | ((with_reducible show R2W _ (rIxU _) (.ref _) (.int 0) (potU _ _ _ _ _ _ _ _) _); refine rw_p0 ?_)
  | ((with_reducible show R2W _ (rIxU _) (.ref _) (.int 1) (potU _ _ _ _ _ _ _ _) _); refine rw_p1 ?_)
  | ((with_reducible show R2W _ (rIxU _) (.ref _) (.int 2) (potU _ _ _ _ _ _ _ _) _); refine rw_p2 ?_)
  | ((with_reducible show R2W _ (rIxU _) (.ref _) (.int 3) (potU _ _ _ _ _ _ _ _) _); refine rw_p3 ?_)
  | ((with_reducible show R2W _ (rIxU _) (.ref _) (.int 4) (potU _ _ _ _ _ _ _ _) _); refine rw_p4 ?_)
  | ((with_reducible show RSW _ rSetL (.ref _) (.int 1) (.int _) (potU _ _ _ _ _ _ _ _) _); refine rs_p1 ?_)
  | ((with_reducible show RSW _ rSetL (.ref _) (.int 2) (.int _) (potU _ _ _ _ _ _ _ _) _); refine rs_p2 ?_)
  | ((with_reducible show RSW _ rSetL (.ref _) (.int 3) (.int _) (potU _ _ _ _ _ _ _ _) _); refine rs_p3 ?_)
  | ((with_reducible show RSW _ rSetL (.ref _) (.int 4) (.int _) (potU _ _ _ _ _ _ _ _) _); refine rs_p4 ?_)
  | ((with_reducible show R2W _ rMulU (.int _) (.int _) _ _); refine rw_mulI (.inr ⟨by decide, by decide⟩) ?_)
  | ((with_reducible show R2W _ rMulU (.int _) (.int _) _ _); refine rw_mulI (.inl ⟨by decide, by decide⟩) ?_)
  | ((with_reducible show R2W _ rModI (.int _) (.int _) _ _); refine rw_modI (by decide) ?_)
  | ((with_reducible show R2W _ rDivI (.int _) (.int _) _ _); refine rw_divI (by decide) (by decide) ?_)
  | ((with_reducible show RLW _ rMax2Q [.int _, .int _] _ _); refine rw_max2 ?_)
  | ((with_reducible show RLW _ rMin2Q [.int _, .int _] _ _); refine rw_min2 ?_))

section
variable {P : Program} {w : World} {K : PySem.W.Frag} {mg : Str → Option Value} {base : Heap} {fI : Addr} {fd : FuncData}
theorem ok__law_breaks (T : Hd fn fa xs K mg) (B : BRF P w K mg base fI fd) : FnE P w K mg base 8 (He.fAd K d__law_breaks.at_) ps__law_breaks (spOf K (sp__law_breaks K)) := by
  refine T.ok _ ix__law_breaks (N := N__law_breaks) rfl sc__law_breaks (fun ds S Φ ⟨_, _, _, _, _, _, e, _⟩ => by rw [e]; rfl) (fun _ _ _ _ _ _ us hl => ?_) fun cdv A outer s H E hr => ⟨_, dv__law_breaks T (ok__law_draw T) (ok__law_open T) (ok__law_words T) (ok__law_stand T) (ok__law_broken T B) (ok__law_flat T) hr, ?_⟩
  · match us, hl with
    | [a, b, c, d, e, f], _ => rfl
  rintro _ S Φ ⟨p, c, n, es, f, rs, rfl, N, O, W, hz, hP, q⟩
  have hn := N.hi
  have hf := N.few
  unfold t__law_breaks
  walk_at "w*"
  rw [List.length_map]
  refine ⟨p, c, rs.length + 1, rfl, by omega, hP, fun k S1 hk hD1 => ?_⟩
  have hkl : k ≤ rs.length := by omega
  have Ok1 : Ok n es (run n es f (rs.take k)) := O.run N W k hkl
  walk_at "w*"
  refine w_lstM ?_
  walk_at "w*"
  refine fun q1 hq1 => ?_
  obtain ⟨n1, n2⟩ := hD1.pot.ne hq1
  refine ws_mid (fun S2 Γ2 => Le [some (.ref p), some (netD K n es), some (.int n), some (.lst (es.map pD)), some (.lst ((path n es f rs).map (keyD n es.length))), some (.lst (rs.map rD)), some (.int k), some (.ref q1), none, none, none, none, none, none, none, none] Γ2 ∧ S2 = stU S1 q1 (.lst ((bothR es.length).map rD))) ?_ ?_
  · refine ws_forE ?_
    walk_at "w*"
    refine ⟨es.length, by rw [List.length_map], by omega, by omega, fun i => [some (.ref p), some (netD K n es), some (.int n), some (.lst (es.map pD)), some (.lst ((path n es f rs).map (keyD n es.length))), some (.lst (rs.map rD)), some (.int k), some (.ref q1), none, none, none, none, none, none, none, none],
      fun i S2 => S2 = stU S1 q1 (.lst ((bothR i).map rD)), by walk_at "le", rfl, fun i y S' hy e => ?_, fun S' e => ?_⟩
    · subst e
      obtain ⟨i', hi', rfl⟩ := map_get hy
      obtain ⟨hi, rfl⟩ := List.getElem?_eq_some_iff.mp hi'
      rw [List.getElem_range]
      rw [List.length_range] at hi
      have hi2 : i < es.length := by simpa using hi
      walk_at "w*"
      refine ⟨_, _, rfl, stU_same, ?_⟩
      refine w_map (xs := List.range 2) (f := fun j => .int (0 + (j : Nat))) (h := fun j => .tup [.int (0 + (i : Nat)), .int (0 + (j : Nat))]) (go_name (by simp)) ?_
      walk_at "w*"
      refine ⟨2, rfl, by decide, by decide, rfl, by decide, fun j hj => ?_, ?_⟩
      · walk_at "w*"
        exact ⟨rfl, rfl⟩
      refine ⟨_, _, .l, stU_same, by rw [List.length_map, bothR_len]; simp; omega, ?_⟩
      rw [stU_U]
      refine ⟨by walk_at "le", ?_⟩
      dsimp only
      rw [bothR_succ, List.map_append]
      simp [List.range_succ, bI]
      rfl
    · subst e
      have e0 : (rng 0 (es.length : Int).toNat).length = es.length := by simp [rng]
      rw [e0]
      exact ⟨by walk_at "le", rfl⟩
  rintro S2 Γ2 ⟨hle, rfl⟩
  refine ws_pre hle ?_
  walk_at "w*"
  refine rw_key (k := k) rfl hkl ?_
  walk_at "w*"
  refine ⟨n, es, _, rfl, N, Ok1, fun l hl hll => ?_⟩
  refine ws_fz stU_same (Γ' := [some (.ref p), some (netD K n es), some (.int n), some (.lst (es.map pD)), some (.lst ((path n es f rs).map (keyD n es.length))), some (.lst (rs.map rD)), some (.int k), some (.lst ((bothR es.length).map rD)), none, some (.lst (l.map rD)), none, none, none, none, none, none]) (by walk_at "fz") ?_
  rw [stD_U hq1]
  walk_at "w*"
  refine w_filter (xs := bothR es.length) (f := rD) (h := rD) (q := fun r => !decide (r ∈ l)) (go_name (by simp)) ?_
  walk_at "w*"
  refine ⟨_, .l, rfl, by rw [bothR_len]; omega, fun a ha => ?_, ?_⟩
  · walk_at "w*"
    refine rw_notInUD emb_r (by decide) ?_
    walk_at "w*"
    refine ⟨by congr, rfl, fun _ => ?_⟩
    walk_at "w*"
    exact ⟨rfl, rfl⟩
  generalize hwr : (bothR es.length).filter (fun r => !decide (r ∈ l)) = wr
  have hwl : wr.length ≤ 100 := by
    rw [← hwr]
    have := List.length_filter_le (fun r => !decide (r ∈ l)) (bothR es.length)
    rw [bothR_len] at this
    omega
  walk_at "w*"
  refine ⟨_, .seq .l, ?_⟩
  rw [List.isEmpty_map, Bool.not_not]
  refine ifB (fun _ => ?_) (fun hne => ?_)
  · walk_at "w*"
    exact q _ hD1
  walk_at "w*"
  rw [List.length_map]
  refine ⟨p, c, wr.length, rfl, by omega, hD1.pot, fun j S2 hj hD2 => ?_⟩
  have hlp : 0 < wr.length := by
    cases wr with
    | nil => simp at hne
    | cons _ _ => simp
  have hjl : j < wr.length := by omega
  refine rw_ixn (xs := wr) (f := rD) (0, false) .l hjl ?_
  rw [List.getD_eq_getElem?_getD, List.getElem?_eq_getElem hjl, Option.getD_some]
  have hmem : wr[j] ∈ wr := List.getElem_mem _
  generalize wr[j] = r at hmem
  rw [← hwr] at hmem
  obtain ⟨hm1, hm2⟩ := List.mem_filter.mp hmem
  have hno : ¬ can n es (run n es f (rs.take k)) r := fun h => by
    have := (hl r).mpr h
    simp [this] at hm2
  have hr1 := bothR_mem hm1
  have BA : BrokenAt n es f (rs.take k ++ [r] ++ rs.drop k) k r := by
    refine ⟨?_, fun x hx => ?_, ?_, get_mid hkl, ?_⟩
    · rw [List.length_append, List.length_append, List.length_take, List.length_drop, List.length_singleton]; omega
    · rcases List.mem_append.mp hx with hx | hx
      · rcases List.mem_append.mp hx with hx | hx
        · exact walkOk_lt W x (List.mem_of_mem_take hx)
        · rw [List.mem_singleton.mp hx]; exact hr1
      · exact walkOk_lt W x (List.mem_of_mem_drop hx)
    · rw [take_mid hkl]
      have := W
      rw [← List.take_append_drop k rs] at this
      exact (walkOk_append.mp this).1
    · rw [take_mid hkl]; exact hno
  have hlen : (rs.take k ++ [r] ++ rs.drop k).length ≤ 150 := BA.len
  walk_at "w*"
  refine rc_lst .l (fun _ => by intro e; cases e) ?_
  rw [cutD_to (Int.natCast_nonneg _), Int.toNat_natCast, ← List.map_take]
  walk_at "w*"
  refine w_lst ?_
  walk_at "w*"
  refine rw_addL .l .l (by simp; omega) ?_
  walk_at "w*"
  refine rc_lst .l (fun _ => by intro e; cases e) ?_
  rw [cutD_from (Int.natCast_nonneg _), Int.toNat_natCast, ← List.map_drop]
  walk_at "w*"
  refine rw_addL .l .l (by simp; omega) ?_
  have e1 : (rs.take k).map rD ++ [rD r] ++ (rs.drop k).map rD = (rs.take k ++ [r] ++ rs.drop k).map rD := by simp
  rw [e1]
  generalize rs.take k ++ [r] ++ rs.drop k = qs at BA hlen
  walk_at "w*"
  refine ⟨_, qs, rfl, .l, by omega, ?_⟩
  walk_at "w*"
  refine rw_key (k := 0) rfl (Nat.zero_le _) ?_
  walk_at "w*"
  refine ⟨n, es, f, rfl, N, O, ?_⟩
  walk_at "w*"
  refine rw_ix (d := .int r.1) .t rfl ?_
  walk_at "w*"
  refine rw_ix (d := .int (bI r.2)) .t rfl ?_
  refine rw_ix (d := .str (colS r.2)) .t (by cases r.2 <;> rfl) ?_
  walk_at "w*"
  refine ws_forN [some (.ref p), some (netD K n es), some (.int n), some (.lst (es.map pD)), some (.lst ((path n es f rs).map (keyD n es.length))), some (.lst (rs.map rD)), some (.int k), none, none, none, none, some (.lst (qs.map wD)), some (stgD K n es f), some (.tup [.int k, .int r.1, .str (colS r.2)]), none, none] (by walk_at "le") ?_
  walk_at "w*"
  refine ⟨2, rfl, by decide, by decide, fun i y hy => ?_, ?_⟩
  · obtain ⟨i', hi', rfl⟩ := map_get hy
    walk_at "w*"
    refine rw_list .l ?_
    walk_at "w*"
    refine ⟨n, es, f, qs, k, r, i', by rw [Int.zero_add], N, O, BA, ?_⟩
    walk_at "w*"
    refine iteF ?_
    walk_at "w*"
    exact ⟨by walk_at "le", rfl⟩
  walk_at "w*"
  refine ⟨n, es, f, rfl, by omega, by omega, ?_⟩
  walk_at "w*"
  refine rw_key (k := 0) rfl (Nat.zero_le _) ?_
  refine rw_eqSeqT ?_
  exact ⟨_, Sub.refl _, q _ (hD1.trans hD2)⟩
end
end Tw


set_option Elab.async false
set_option linter.all false
set_option maxRecDepth 100000
set_option maxHeartbeats 4000000
namespace Tw
open PySem PySem.Spec PyProof.Rows L2
def sp_law (K : PySem.W.Frag) : Spec := fun ds S Φ => ∃ (ns : List Int), ds = [.sq (ns.map .int)] ∧ ns.length ≤ 100000 ∧ ∀ S', Φ (.bl true) S'
/-- two pots apart -/
structure P2 (S : Store) (p c p2 c2 : Addr) : Prop where
  a : Pot S p c
  b : Pot S p2 c2
  n1 : p2 ≠ p
  n2 : p2 ≠ c
  n3 : c2 ≠ p
  n4 : c2 ≠ c
theorem Pot.same {S S' : Store} {p c : Addr} (h : Pot S p c) (e1 : S' p = S p) (e2 : S' c = S c) : Pot S' p c := by
  obtain ⟨n, xs, a, b, d, m, hl, h1, h2⟩ := h
  exact ⟨n, xs, a, b, d, m, hl, e1.trans h1, e2.trans h2⟩
theorem P2.dr1 {S S' : Store} {p c p2 c2 : Addr} (h : P2 S p c p2 c2) (d : Dr p c S S') : P2 S' p c p2 c2 := ⟨d.pot, h.b.same (d.off _ h.n1 h.n2) (d.off _ h.n3 h.n4), h.n1, h.n2, h.n3, h.n4⟩
theorem P2.dr2 {S S' : Store} {p c p2 c2 : Addr} (h : P2 S p c p2 c2) (d : Dr p2 c2 S S') : P2 S' p c p2 c2 := ⟨h.a.same (d.off _ (Ne.symm h.n1) (Ne.symm h.n3)) (d.off _ (Ne.symm h.n2) (Ne.symm h.n4)), d.pot, h.n1, h.n2, h.n3, h.n4⟩
section
variable {P : Program} {w : World} {K : PySem.W.Frag} {mg : Str → Option Value} {fn : List He.DefD} {fa : List He.Fa} {xs : List (PySem.W.Frag → Bool)}
/-- a def's promise over every base -/
theorem Hd.okAll (T : Hd fn fa xs K mg) (i : Nat) {d : He.DefD} (hi : fn[i]? = some d) {N ps : List Str} {k : Nat} {sp : Spec} (hdf : d.dfl = []) (S : FnScope N ps d.scope) (len : ∀ ds S Φ, sp ds S Φ → ds.length = ps.length)
    (hb : ∀ (kV doc pm : Value) (an : Option Addr) (cdv ct : Value) (us : List Value), us.length = ps.length → bindArgs (PySem.W.fnOf d.name d.qual d.params d.body d.scope .none kV doc pm an cdv ct) ⟨us, []⟩ = pure (ps.zip us))
    (body : ∀ (base : Heap) (cdv : Value) (A : Around) (outer : List PySem.Env) (s : Shared) (H : Hp) (E : XK), Room k (A.deeper (envOfC d.qual d.scope s.heap.objs.size (He.fAd K d.at_) cdv)) →
      ∃ t, PSs (cxOf CX0 P w K mg base N d.qual d.scope (He.fAd K d.at_) cdv A outer s H E).nox d.body t ∧ ∀ ds S Φ, sp ds S Φ → WS K t S (startE N ds) { nx := fun S' _ => ∃ S2, Sub S2 S' ∧ Φ .non S2, rt := Φ }) :
    ∃ fd, (∀ (s : Shared) (us : List Value), us.length = ps.length → BindsTo s fd ⟨us, []⟩ (ps.zip us)) ∧ ∀ base, FnOk P w K mg base CX0 (k + 1) (He.fAd K d.at_) fd ps (spOf K sp) := by
  obtain ⟨fd, F⟩ := T.defs i d hi
  have F' := F
  obtain ⟨oc, od, dV, kV, doc, pm, an, cdv, ct, osl, rfl, lk, hcd, hD, _⟩ := F.ex
  have hdV : dV = .none := by
    rcases hD with ⟨_, e⟩ | ⟨ne, _⟩
    · exact e
    · exact absurd (by unfold He.DefD.dvs; rw [hdf]; rfl) ne
  subst hdV
  refine ⟨_, fun s us hl => .of_eq (hb _ _ _ _ _ _ us hl), fun base => F'.ok (CX := CX0) S (fun vs H Q E ⟨F0, S0, ds, Φ, _, r, h, _⟩ => by rw [r.1]; exact len _ _ _ h) (fun cdv A outer s H vs Q E hr h => ?_)⟩
  obtain ⟨t, ht, hw⟩ := body base cdv A outer s H E hr
  obtain ⟨F0, S0, ds, Φ, hs, r, h, hq⟩ := h
  exact ⟨t, ht.nox, hw ds S0 Φ h F0 H _ _ hs (slots_start r) (fun F' H' σ' S' Γ' p g ⟨S2, s2, z⟩ => hq F' H' _ _ S2 (p.sub s2) .non z) (fun F' H' v d S' p r z => hq F' H' v d S' p r z) (fun _ _ _ _ _ _ _ z => z.elim) (fun _ _ _ _ _ _ _ z => z.elim)⟩
end
local macro_rules | `(tactic| walk_at "w") => `(tactic| first
  | ((with_reducible show WE _ (tVar _) _ _ _); refine w_var (by rfl) ?_)
  | ((with_reducible show WE _ (tC (.int _)) _ _ _); refine w_cI ?_)
  | ((with_reducible show WE _ (tC (.str _)) _ _ _); refine w_cS ?_)
  | ((with_reducible show WE _ (tC (.bl _)) _ _ _); refine w_cB ?_)
  | ((with_reducible show WE _ (tC .non) _ _ _); refine w_cN ?_)
  | ((with_reducible show WE _ (tC (.ty _)) _ _ _); refine w_cT ?_)
  | ((with_reducible show WE _ (tC (.ref _)) _ _ _); refine w_cR ?_)
  | ((with_reducible show WE _ (tOp _ _ _) _ _ _); refine w_op ?_)
  | ((with_reducible show WE _ (tUn _ _) _ _ _); refine w_un ?_)
  | ((with_reducible show WE _ (tChain _ _ _ _ _) _ _ _); refine w_chain ?_)
  | ((with_reducible show WE _ (tFld _ _ _) _ _ _); refine w_fld ?_)
  | ((with_reducible show WE _ (tIf _ _ _) _ _ _); refine w_ifE ?_)
  | ((with_reducible show WE _ (tTup _) _ _ _); refine w_tup ?_)
  | ((with_reducible show WE _ (tCB _ _) _ _ _); refine w_cb ?_)
  | ((with_reducible show WE _ (tCall _ _ _ _) _ _ _); refine w_call ?_)
  | ((with_reducible show WE _ (tMake _ _ _ _ _) _ _ _); refine w_make ?_)
  | ((with_reducible show WE _ (tMeth _ _ _ _ _ _ _) _ _ _); refine w_meth ?_)
  | ((with_reducible show WE _ (tSl _ _ _ _) _ _ _); refine w_sl ?_)
  | ((with_reducible show WE _ (tBM _ _ rAppend _ _) _ _ _); refine w_append (p := 0) (ds := []) ?_)
  | ((with_reducible show WE _ (tBM _ _ rExtend _ _) _ _ _); refine w_extend ?_)
  | ((with_reducible show WE _ (tBM _ _ rInsL _ _) _ _ _); refine w_insert ?_)
  | ((with_reducible show WE _ (tBM0 _ _ rPop _) _ _ _); refine w_pop ?_)
  | ((with_reducible show WE _ (tBM _ _ rPopAt _ _) _ _ _); refine w_popAt ?_)
  | ((with_reducible show WE _ (tBM _ _ (rCntD _) _ _) _ _ _); refine w_bmL ?_)
  | ((with_reducible show WE _ (tAndV _ _) _ _ _); refine w_andV ?_)
  | ((with_reducible show WE _ (tOrV _ _) _ _ _); refine w_orV ?_)
  | ((with_reducible show WE _ (tNotV _) _ _ _); refine w_notV ?_)
  | ((with_reducible show WA _ tNil _ _ _); refine wa_nil ?_)
  | ((with_reducible show WA _ (tCons _ _) _ _ _); refine wa_cons ?_)
  | ((with_reducible show WO _ tNoPart _ _ _); refine wo_none ?_)
  | ((with_reducible show WO _ (tPart _) _ _ _); refine wo_some ?_)
  | ((with_reducible show WT _ (tTest _) _ _ _); refine w_test ?_)
  | ((with_reducible show WT _ (tB _) _ _ _); refine w_tB ?_)
  | ((with_reducible show WT _ (tTru _ _) _ _ _); refine w_tru ?_)
  | ((with_reducible show WT _ (tTruO _ _) _ _ _); refine w_truO ?_)
  | ((with_reducible show WT _ (tAnd _ _) _ _ _); refine w_and ?_)
  | ((with_reducible show WT _ (tOr _ _) _ _ _); refine w_or ?_)
  | ((with_reducible show WT _ (tNot _) _ _ _); refine w_not ?_)
  | ((with_reducible show WT _ tYes _ _ _); refine wt_yes ?_)
  | ((with_reducible show WS _ (tSeq _ _) _ _ _); refine ws_seq ?_)
  | ((with_reducible show WS _ (tAsg _ (gName _)) _ _ _); refine ws_set ?_)
  | ((with_reducible show WS _ (tAsg _ _) _ _ _); refine ws_asg ?_)
  | ((with_reducible show WS _ (sFld _ _ _ _) _ _ _); refine ws_fld ?_)
  | ((with_reducible show WS _ (tDrop _) _ _ _); refine ws_drop ?_)
  | ((with_reducible show WS _ (tRet _) _ _ _); refine ws_ret ?_)
  | ((with_reducible show WS _ tRetN _ _ _); refine ws_retN ?_)
  | ((with_reducible show WS _ tNext _ _ _); refine ws_next ?_)
  | ((with_reducible show WS _ tBreak _ _ _); refine ws_break ?_)
  | ((with_reducible show WS _ tCont _ _ _); refine ws_cont ?_)
  | ((with_reducible show WS _ (tIfS _ _ _) _ _ _); refine ws_if ?_)
  | ((with_reducible show WS _ (tAug _ _ _) _ _ _); refine ws_aug (by rfl) ?_)
  | ((with_reducible show WS _ (tAugS _ _ _ _ _ _) _ _ _); refine ws_augS ?_)
  | ((with_reducible show WG _ (gName _) _ _ _ _); refine wg_name ?_)
  | ((with_reducible show WG _ (gTup _ _ _) (.tup _) _ _ _); refine wg_tup (by rfl) ?_)
  | ((with_reducible show WG _ (gSub _ _ _) _ _ _ _); refine wg_sub ?_)
  | ((with_reducible show WGs _ gNil [] _ _ _); refine wgs_nil ?_)
  | ((with_reducible show WGs _ (gCons _ _) (_ :: _) _ _ _); refine wgs_cons ?_)
  | ((with_reducible show WI _ (iRng1 _) _ _ _); refine wi_rng1 ?_)
  | ((with_reducible show WI _ (iRng2 _) _ _ _); refine wi_rng2 ?_)
  | ((with_reducible show WI _ (iSeqU _ _) _ _ _); refine wi_seq ?_)
  | ((with_reducible show WI _ (iEnumU _ _) _ _ _); refine wi_enum ?_)
  | ((with_reducible show WI _ (RZ.iZipA _ _) _ _ _); refine wi_zip ?_))
local macro_rules | `(tactic| walk_at "w") => `(tactic| first
  | ((with_reducible show ∃ C ns ds d, InsOf _ _ C ns ds ∧ _); refine ⟨_, _, _, _, .o, by walk_at "cls", by walk_at "noat", by rfl, ?_⟩)
  | ((with_reducible show R2W _ (rAddU _) (.int _) (.int _) _ _); refine rw_addI ?_)
  | ((with_reducible show R2W _ rSubI (.int _) (.int _) _ _); refine rw_subI ?_)
  | ((with_reducible show R2W _ rLtI (.int _) (.int _) _ _); refine rw_ltI ?_)
  | ((with_reducible show R2W _ rLeI (.int _) (.int _) _ _); refine rw_leI ?_)
  | ((with_reducible show R2W _ rGtI (.int _) (.int _) _ _); refine rw_gtI ?_)
  | ((with_reducible show R2W _ rGeI (.int _) (.int _) _ _); refine rw_geI ?_)
  | ((with_reducible show R2W _ (rEqU _) (.int _) (.int _) _ _); refine rw_eqUI ?_)
  | ((with_reducible show R2W _ (rEqU _) (.str _) (.str _) _ _); refine rw_eqUS ?_)
  | ((with_reducible show R2W _ (rNeU _) (.int _) (.int _) _ _); refine rw_neUI ?_)
  | ((with_reducible show R2W _ (rNeU _) (.str _) (.str _) _ _); refine rw_neUS ?_)
  | ((with_reducible show R1W _ rNegI (.int _) _ _); refine rw_negI ?_)
  | ((with_reducible show RLW _ (rLenQ _) [_] _ _); refine rw_len (by first | exact .t | exact .l | exact .r (by assumption)) ?_)
  | ((with_reducible show RLW _ rIntQ [.int _] _ _); refine rw_int ?_)
  | ((with_reducible show RLW _ rAbsQ [.int _] _ _); refine rw_abs ?_)
  | ((with_reducible show ∃ k, .bl _ = D.bl k ∧ _); refine ⟨_, rfl, ?_⟩)
  | ((with_reducible show ∃ k, .int _ = D.int k ∧ _); refine ⟨_, rfl, ?_⟩)
  | ((with_reducible show ∃ k, TruD _ (.bl _) k ∧ _); refine ⟨_, .bl, ?_⟩)
  | ((with_reducible show ∃ k, TruD _ (.int _) k ∧ _); refine ⟨_, .int, ?_⟩)
  | ((with_reducible show List.length _ ≤ 1000000 ∧ _); refine ⟨Nat.le_of_ble_eq_true rfl, ?_⟩)
  | ((with_reducible show ∃ S2, Sub S2 _ ∧ _); refine ⟨_, Sub.refl _, ?_⟩))
local macro_rules | `(tactic| walk_at "w*") => `(tactic| repeat walk_at "w")
local macro_rules | `(tactic| walk_at "le") => `(tactic| repeat first | exact Le.nil | exact Le.rfl | refine Le.som ?_ | refine Le.non ?_)
local macro_rules | `(tactic| walk_at "fz") => `(tactic| repeat first | exact Fz.nil | refine Fz.som ?_ | refine Fz.frz ?_ | refine Fz.non ?_)
local macro_rules | `(tactic| walk_at "cls") => `(tactic| first | exact cl_Net (by assumption) | exact cl_Standing (by assumption) | exact cl_Bill (by assumption) | exact cl_Trip (by assumption))
local macro_rules | `(tactic| walk_at "noat") => `(tactic| first | exact na_Net_stations (by assumption) | exact na_Net_ropes (by assumption) | exact na_Standing_net (by assumption) | exact na_Standing_reds (by assumption) | exact na_Standing_blues (by assumption) | exact na_Standing_cars (by assumption) | exact na_Bill_net (by assumption) | exact na_Bill_reds (by assumption) | exact na_Bill_blues (by assumption) | exact na_Trip_rides (by assumption))

local macro_rules | `(tactic| walk_at "w") => `(tactic| first
  | ((with_reducible show WI _ (iRng3 _) _ _ _); refine wi_rng3 ?_)
  | ((with_reducible show R2W _ (rIxU _) (.ref _) (.int 0) (potU _ _ _ _ _ _ _ _) _); refine rw_p0 ?_)
  | ((with_reducible show R2W _ (rIxU _) (.ref _) (.int 1) (potU _ _ _ _ _ _ _ _) _); refine rw_p1 ?_)
  | ((with_reducible show R2W _ (rIxU _) (.ref _) (.int 2) (potU _ _ _ _ _ _ _ _) _); refine rw_p2 ?_)
  | ((with_reducible show R2W _ (rIxU _) (.ref _) (.int 3) (potU _ _ _ _ _ _ _ _) _); refine rw_p3 ?_)
  | ((with_reducible show R2W _ (rIxU _) (.ref _) (.int 4) (potU _ _ _ _ _ _ _ _) _); refine rw_p4 ?_)
  | ((with_reducible show RSW _ rSetL (.ref _) (.int 1) (.int _) (potU _ _ _ _ _ _ _ _) _); refine rs_p1 ?_)
  | ((with_reducible show RSW _ rSetL (.ref _) (.int 2) (.int _) (potU _ _ _ _ _ _ _ _) _); refine rs_p2 ?_)
  | ((with_reducible show RSW _ rSetL (.ref _) (.int 3) (.int _) (potU _ _ _ _ _ _ _ _) _); refine rs_p3 ?_)
  | ((with_reducible show RSW _ rSetL (.ref _) (.int 4) (.int _) (potU _ _ _ _ _ _ _ _) _); refine rs_p4 ?_)
  | ((with_reducible show R2W _ rMulU (.int _) (.int _) _ _); refine rw_mulI (.inr ⟨by decide, by decide⟩) ?_)
  | ((with_reducible show R2W _ rMulU (.int _) (.int _) _ _); refine rw_mulI (.inl ⟨by decide, by decide⟩) ?_)
  | ((with_reducible show R2W _ rModI (.int _) (.int _) _ _); refine rw_modI (by decide) ?_)
  | ((with_reducible show R2W _ rDivI (.int _) (.int _) _ _); refine rw_divI (by decide) (by decide) ?_)
  | ((with_reducible show RLW _ rMax2Q [.int _, .int _] _ _); refine rw_max2 ?_)
  | ((with_reducible show RLW _ rMin2Q [.int _, .int _] _ _); refine rw_min2 ?_))

section
variable {P : Program} {w : World} {K : PySem.W.Frag} {mg : Str → Option Value} {base : Heap} {fI : Addr} {fd : FuncData}
theorem law_all (T : Hd fn fa xs K mg) (B : ∀ base, BRF P w K mg base fI fd) : ∃ fdL, (∀ (s : Shared) (us : List Value), us.length = ps_law.length → BindsTo s fdL ⟨us, []⟩ (ps_law.zip us)) ∧ ∀ base, FnOk P w K mg base CX0 9 (He.fAd K d_law.at_) fdL ps_law (spOf K (sp_law K)) := by
  refine T.okAll _ ix_law (N := N_law) rfl sc_law (fun ds S Φ ⟨_, e, _⟩ => by rw [e]; rfl) (fun _ _ _ _ _ _ us hl => ?_) fun base cdv A outer s H E hr => ⟨_, dv_law T (ok__law_pot T) (ok__law_draw T) (ok__law_tree T) (ok__law_extra T) (ok_Net___init__ T) (ok__law_spread T) (ok__law_again T) (ok__law_net_rides T) (ok__law_trip T) (ok__law_parts T) (ok__law_costs T (ok_Trip_tally T)) (ok__law_breaks T (B base)) hr, ?_⟩
  · match us, hl with
    | [a], _ => rfl
  rintro _ S Φ ⟨ns, rfl, hns, q⟩
  unfold t_law
  walk_at "w*"
  refine ⟨_, ns, 0, rfl, by decide, fun S => .s, fun es => by (intro e; cases e), hns, fun p c S1 hp hc hP1 ho1 => ?_⟩
  walk_at "w*"
  refine ⟨_, ns, 1, rfl, by decide, fun S => .s, fun es => by (intro e; cases e), hns, fun p2 c2 S2 hp2 hc2 hP2 ho2 => ?_⟩
  have m1 := hP1.ne hp2
  have m2 := hP1.ne hc2
  have hPP : P2 S2 p c p2 c2 := ⟨hP1.same (ho2 _ (Ne.symm m1.1) (Ne.symm m2.1)) (ho2 _ (Ne.symm m1.2) (Ne.symm m2.2)), hP2, m1.1, m1.2, m2.1, m2.2⟩
  clear hP1 hP2 ho1 ho2
  walk_at "w*"
  refine ⟨p, c, 5, rfl, by decide, hPP.a, fun r S3 hr3 hD3 => ?_⟩
  have hPP3 := hPP.dr1 hD3
  refine rw_addI ?_
  refine ws_mid (fun S' Γ' => ∃ (k : Nat), 1 ≤ k ∧ k ≤ 6 ∧ P2 S' p c p2 c2 ∧ Le [none, some (.ref p), some (.ref p2), some (.int k), none, none, none, none, none, none, none, none, none] Γ') ?_ ?_
  · walk_at "w*"
    refine ⟨p, c, 16, rfl, by decide, hPP3.a, fun r4 S4 hr4 hD4 => ?_⟩
    walk_at "w*"
    refine ifD (fun _ => ?_) (fun _ => ?_)
    · walk_at "w*"
      exact ⟨1, by decide, by decide, hPP3.dr1 hD4, by walk_at "le"⟩
    · walk_at "w*"
      refine ⟨2 + r, by omega, by omega, hPP3.dr1 hD4, ?_⟩
      rw [show ((2 + r : Nat) : Int) = 2 + (r : Int) by omega]
      walk_at "le"
  rintro S4 Γ4 ⟨k, hk1, hk2, hPP4, hle4⟩
  refine ws_pre hle4 ?_
  walk_at "w*"
  refine w_lst ?_
  walk_at "w*"
  refine ⟨p, c, 5, rfl, by decide, hPP4.a, fun a S5 ha hD5 => ?_⟩
  walk_at "w*"
  refine ⟨p, c, 5, rfl, by decide, (hPP4.dr1 hD5).a, fun b S6 hb hD6 => ?_⟩
  have hPP6 := (hPP4.dr1 hD5).dr1 hD6
  refine wa_nil ?_
  refine ⟨Nat.le_of_ble_eq_true rfl, ?_⟩
  refine ws_mid (fun S' Γ' => ∃ (n m a b : Nat), 1 ≤ n ∧ n ≤ 24 ∧ n + m ≤ 41 ∧ a ≤ 10 ∧ b ≤ 10 ∧ P2 S' p c p2 c2 ∧ Le [none, some (.ref p), some (.ref p2), some (.int n), some (.int m), some (.lst [.int a, .int b]), none, none, none, none, none, none, none] Γ') ?_ ?_
  · walk_at "w*"
    refine ⟨p, c, 8, rfl, by decide, hPP6.a, fun r7 S7 hr7 hD7 => ?_⟩
    have hPP7 := hPP6.dr1 hD7
    walk_at "w*"
    refine ifD (fun _ => ?_) (fun _ => ?_)
    · walk_at "w*"
      refine ⟨p, c, 18, rfl, by decide, hPP7.a, fun r8 S8 hr8 hD8 => ?_⟩
      have hPP8 := hPP7.dr1 hD8
      walk_at "w*"
      refine w_lst ?_
      walk_at "w*"
      refine ⟨p, c, 11, rfl, by decide, hPP8.a, fun a S9 ha hD9 => ?_⟩
      walk_at "w*"
      refine ⟨p, c, 11, rfl, by decide, (hPP8.dr1 hD9).a, fun b S10 hb hD10 => ?_⟩
      walk_at "w*"
      refine ⟨7 + r8, 17, a, b, by omega, by omega, by omega, by omega, by omega, (hPP8.dr1 hD9).dr1 hD10, ?_⟩
      rw [show ((7 + r8 : Nat) : Int) = 7 + (r8 : Int) by omega]
      walk_at "le"
    · walk_at "w*"
      exact ⟨k, 4, a, b, by omega, by omega, by omega, by omega, by omega, hPP7, by walk_at "le"⟩
  clear hPP hPP3 hPP4 hPP6 hD3 hD5 hD6 ha hb hle4
  clear a b
  rintro S7 Γ7 ⟨n, m, a, b, hn1, hn2, hm, ha, hb, hPP7, hle7⟩
  refine ws_pre hle7 ?_
  walk_at "w*"
  refine ⟨p, c, n, rfl, hn1, by omega, hPP7.a, fun e es S8 he hE hC hel hD8 => ?_⟩
  have hPP8 := hPP7.dr1 hD8
  have he8 : S8 e = none := hD8.none hPP7.a he
  obtain ⟨e1, e2⟩ := hPP8.a.ne he8
  refine ws_mid (fun S' Γ' => ∃ (es : List (Nat × Nat)) (Sb : Store), P2 Sb p c p2 c2 ∧ Sb e = none ∧ S' = stU Sb e (.lst (es.map pD)) ∧ EOk n es ∧ Conn n es ∧ es.length ≤ 40 ∧ Le [none, some (.ref p), some (.ref p2), some (.int n), some (.int m), some (.lst [.int a, .int b]), some (.ref e), none, none, none, none, none, none] Γ') ?_ ?_
  · walk_at "w*"
    refine ifD (fun h => ?_) (fun _ => ?_)
    · walk_at "w*"
      refine ⟨p, c, e, n, m, es, S8, rfl, by omega, by omega, by omega, by omega, rfl, hPP8.a, e1, e2, hE, hC, fun es' S9 hE' hC' hl' hD9 => ?_⟩
      exact ⟨es', S9, hPP8.dr1 hD9, hD9.none hPP8.a he8, rfl, hE', hC', by omega, by walk_at "le"⟩
    · walk_at "w*"
      exact ⟨es, S8, hPP8, he8, rfl, hE, hC, by omega, by walk_at "le"⟩
  clear hE hC hel hPP8 hD8 he8 he e1 e2 hPP7 hle7
  clear es S8
  rintro S9 Γ9 ⟨es, Sb, hPb, heb, rfl, hE, hC, hel, hle9⟩
  have N : NetOk n es := ⟨hn1, hn2, hel, hE⟩
  refine ws_pre hle9 ?_
  refine ws_fz stU_same (Γ' := [none, some (.ref p), some (.ref p2), some (.int n), some (.int m), some (.lst [.int a, .int b]), some (.lst (es.map pD)), none, none, none, none, none, none]) (by walk_at "fz") ?_
  rw [stD_U heb]
  clear hle9 heb
  clear e
  walk_at "w*"
  refine rw_list .l ?_
  walk_at "w*"
  refine fun p3 hp3 => ⟨p3, n, es, rfl, stU_same, N, hC, rfl, _, _, stU_same, ?_⟩
  rw [stU_U, stD_U hp3]
  clear hp3 p3
  walk_at "w*"
  rw [List.length_map]
  refine ⟨p, c, n, es.length, a, b, rfl, hn1, by omega, by omega, by omega, hPb.a, fun f S10 hf hD10 => ?_⟩
  have O : Ok n es f := hf es rfl
  have hP10 := hPb.dr1 hD10
  walk_at "w*"
  refine ⟨p2, c2, 25, rfl, by decide, hP10.b, fun r11 S11 hr11 hD11 => ?_⟩
  have hP11 := hP10.dr2 hD11
  walk_at "w*"
  refine ⟨p2, c2, n, es, f, r11, rfl, N, O, by omega, hP11.b, fun rs S12 W hrl hD12 => ?_⟩
  have hP12 := hP11.dr2 hD12
  walk_at "w*"
  refine rw_ix (d := .lst (rs.map rD)) .l rfl ?_
  walk_at "w*"
  refine rw_ix (d := .lst ((path n es f rs).map (keyD n es.length))) .l rfl ?_
  walk_at "w*"
  refine ⟨n, es, f, path n es f rs, rs, rfl, N, O, W, by omega, fun j hj => ?_, ?_⟩
  · unfold path
    rw [List.getElem?_map, List.getElem?_range (by omega)]
    rfl
  walk_at "w*"
  refine ⟨n, es, f, rs, rfl, N, O, W, by omega, ?_⟩
  walk_at "w*"
  refine iteF ?_
  walk_at "w*"
  rw [List.length_map]
  refine ⟨p2, c2, rs.length + 1, rfl, by omega, hP12.b, fun k13 S13 hk13 hD13 => ?_⟩
  have hP13 := hP12.dr2 hD13
  walk_at "w*"
  refine ⟨n, es, f, rs, k13, rfl, N, O, W, by omega, by omega, ?_⟩
  walk_at "w*"
  refine iteF ?_
  walk_at "w*"
  refine ⟨n, es, f, rs, rfl, N, O, W, by omega, ?_⟩
  walk_at "w*"
  refine iteF ?_
  walk_at "w*"
  exact ⟨p2, c2, n, es, f, rs, rfl, N, O, W, by omega, hP13.b, fun S' _ => ⟨_, Sub.refl _, q S'⟩⟩
end
end Tw


set_option Elab.async false
set_option linter.all false
set_option maxRecDepth 100000
set_option maxHeartbeats 4000000
/-! The end of law k76. -/
namespace Tw
open PySem PySem.Spec PyProof.Rows L2
theorem Hd.pre {fn : List He.DefD} {fa fb : List He.Fa} {xs ys : List (PySem.W.Frag → Bool)} {K : PySem.W.Frag} {mg : Str → Option Value} (T : Hd fn (fa ++ fb) (xs ++ ys) K mg) : Hd fn fa xs K mg := by
  have up : ∀ {α : Type} {l m : List α} {i : Nat} {x : α}, l[i]? = some x → (l ++ m)[i]? = some x := fun {α l m i x} h => by
    rw [List.getElem?_append_left (List.getElem?_eq_some_iff.mp h).1]; exact h
  exact ⟨T.defs, fun i f h => T.facts i f (up h), fun i x h => T.glos i x (up h), fun i x h => T.frees i x (up h), fun i b h => T.more i b (up h)⟩
section
variable {w : World} {K : PySem.W.Frag} {h : Heap} {mg : Str → Option Value}
theorem brf_of (X : K.In h) (G : h.Ns mainGlobals mg) (c : SaysA faA fn xsA clA K) : ∃ fd, ∀ base, BRF PySem.Challenge.pw_twinrope_k76_bills_of_trips w K mg base (He.fAd K brAt) fd := by
  have T : Hd fn (fa ++ faB) (xs ++ xsB) K mg := c.hd X G
  have fb : ∀ (i : Nat) f, faB[i]? = some f → f.ok K = true := fun i f e => T.facts (fa.length + i) f (by rw [List.getElem?_append_right (Nat.le_add_right _ _), Nat.add_sub_cancel_left]; exact e)
  have xb : ∀ (i : Nat) b, xsB[i]? = some b → b K = true := fun i b e => T.more (xs.length + i) b (by rw [List.getElem?_append_right (Nat.le_add_right _ _), Nat.add_sub_cancel_left]; exact e)
  obtain ⟨oc, od, osl, dV, kV, doc, pm, an, cdv, ct, lk⟩ := c.clo 0 (d := d_BR) rfl
  have O : OexC K (CBR K) := oexAll_ok (xb 0 _ rfl)
  obtain ⟨cda, rfl, rfl, hcd, SC⟩ := fxSup_ok (P := PySem.Challenge.pw_twinrope_k76_bills_of_trips) (d := d_BR) (me := "self") (xb 2 _ rfl) rfl lk (by decide +kernel) rfl rfl
  have n1 : PySem.W.findIn K (.ref (CBR K)) "step" = some none := He.noat_ok (fb 4 _ rfl)
  have n2 : PySem.W.findIn K (.ref (CBR K)) "rope" = some none := He.noat_ok (fb 5 _ rfl)
  have n3 : PySem.W.findIn K (.ref (CBR K)) "colour" = some none := He.noat_ok (fb 6 _ rfl)
  have me := He.meth_ok (fb 7 _ rfl)
  have sup : mg "super" = none := He.free_ok X G (fb 2 _ rfl)
  refine ⟨_, fun base => ⟨O, xfB_ok (xb 1 _ rfl), n1, n2, n3, He.glo_ok X G (fb 0 _ rfl), He.eqO_ok (He.ba (fb 7 _ rfl)).1, of_decide_eq_true (xb 3 _ rfl), ok_BR lk hcd SC O n1 n2 n3 sup, .all fun us hl => ?_, He.glo_ok X G (fb 1 _ rfl), He.exm_ok (fb 3 _ rfl)⟩⟩
  match us, hl with
  | [a, b, c, d], _ => rfl
theorem law_starts {H : Hp} {a : Addr} {ns : List Int} {E : XK} (hl : ns.length ≤ 63) (hS : SqL K H a (ns.map V.int)) : spOf K (sp_law K) [.ref a] H (fun v _ => v = .bl true) E := by
  refine ⟨H, fun _ => none, [.sq (ns.map .int)], fun d _ => d = .bl true, ⟨Same.refl _, (fun _ _ e => by cases e), fun _ _ e => by cases e⟩, .cons (.sq hS (by simp) fun i v d e1 e2 => ?_) .nil, ⟨ns, rfl, by omega, fun _ => rfl⟩, fun F' H' v d S' p r e => ?_⟩
  · rw [List.getElem?_map] at e1 e2
    cases h : ns[i]? with
    | none => rw [h] at e1; cases e1
    | some n =>
      rw [h] at e1 e2
      cases e1; cases e2
      exact .int n
  · subst e
    cases r
    rfl
end
end Tw
open PySem PySem.W PySem.Calls PyProof.Rows
theorem PySem.Challenge.cw_twinrope_k76_bills_of_trips_holds : PySem.Challenge.rw_twinrope_k76_bills_of_trips.Holds := by
  w_on; o_law
  refine HandSHeadRun.head_any (r := OpenLaw.row PySem.Challenge.rw_twinrope_k76_bills_of_trips) (q := view (OpenLaw.row PySem.Challenge.rw_twinrope_k76_bills_of_trips).prog [70]) (H := Tw.hk) (ob := Tw.ob) (M := 16000) (loose := Tw.nms) (d := HandSHeadRun.topDef (OpenLaw.row PySem.Challenge.rw_twinrope_k76_bills_of_trips).prog 70) (kwd := []) Tw.ob_eq
    (by kernel_rfl) (fun s => by kernel_rfl) Tw.runH (by kernel_rfl) (by kernel_rfl) (by kernel_rfl) (by rfl) (by first | assumption | decide +kernel) (by decide +kernel) ⟨rfl, rfl, rfl, rfl, rfl, by decide +kernel⟩ ?hw ?hc
  case hw => w_witness2
  case hc =>
    refine L2.walk_ofE (l := PySem.Challenge.rw_twinrope_k76_bills_of_trips) (n := 63) (k := 9) (x := "_law_script") (CX := L2.CX0) rfl (by decide) (by kernel_rfl) ⟨rfl, by decide, by decide⟩ ?F (fun _ _ _ _ z => z)
    intro w mg fa h Y G hmg0
    obtain ⟨K, KX, c⟩ := Y
    have hmg : mg ("law" : PySem.Str) = some (.ref fa) := by
      have e : (HandSHeadRun.topDef (OpenLaw.row PySem.Challenge.rw_twinrope_k76_bills_of_trips).prog 70).name = ("law" : PySem.Str) := by kernel_rfl
      rw [← e]
      exact hmg0
    have T : Tw.Hd Tw.fn Tw.fa Tw.xs K mg := (show Tw.Hd Tw.fn (Tw.fa ++ Tw.faB) (Tw.xs ++ Tw.xsB) K mg from c.hd KX G).pre
    obtain ⟨fdB, B⟩ := Tw.brf_of (w := w) KX G c
    obtain ⟨fd, hb, hF⟩ := Tw.law_all (P := (PySem.Challenge.rw_twinrope_k76_bills_of_trips).prog) (w := w) T B
    have e := hmg.symm.trans (Tw.g_law T)
    cases e
    refine ⟨K, fd, Tw.spOf K (Tw.sp_law K), KX, fun s v => hb s [v] rfl, fun H a ns hl _ hS => Tw.law_starts hl hS, fun base _ _ => hF base⟩

