import PyProof.Rows.All
import Wide.All
import OpenK.AllK
import Wide.FinOn
import HandS.ForMost
import HandS.Exc
import HandS.ExcOwn
import HandS.HotCalls
import HandS.Wide
import HandS.Flow
import HandS.Deep
import HandS.TupAny
import HandS.IsInst
import HandS.Text
import HandS.WordsDict
import HandS.Codes
import HandS.Comp
import HandS.Iter
import HandS.ForList
import HandS.ExcIs
import HandS.ExcField
import KE.KIsAll
import HandS.Small
import HandS.ExcInit
import HandS.ExcInitHot
import HandS.Head0
import HandS.Head1
import HandS.Head2
import HandS.HeadEnd
import HandS.HeadHook1
import HandS.HeadHook2
import HandS.Defaults
import HandS.Ends
import KE.KStateDown
import Lean
import PySem.Challenge.RW_stillmain_k13_refusals_apart
set_option Elab.async false
set_option linter.all false
set_option maxRecDepth 100000
set_option maxHeartbeats 0
/-! Sv0: data as values, mutable objects as cells, how they lie in the abstract heap. -/
namespace Sv
open PySem PySem.Spec PyProof.Rows L2

inductive D where
  | non | bl (b : Bool) | int (i : Int) | str (x : Str)
  | lst (xs : List D) | tup (xs : List D) | dic (kvs : List (Key × D))
  | obj (a : Addr) | exc (a : Addr) (oe : Obj) (C : Addr) (fs : List (Str × D))
inductive Cell where
  | lst (xs : List D) | dic (kvs : List (Key × D)) | loc (kvs : List (Key × D)) | ins (C : Addr) (fs : List (Str × D))
abbrev SS := Addr → Option Cell
def SS.set (S : SS) (a : Addr) (c : Cell) : SS := fun b => if b = a then some c else S b
def SS.del (S : SS) (a : Addr) : SS := fun b => if b = a then none else S b
theorem SS.set_same {S : SS} {a : Addr} {c : Cell} : S.set a c a = some c := if_pos rfl
theorem SS.set_ne {S : SS} {a b : Addr} {c : Cell} (h : b ≠ a) : S.set a c b = S b := if_neg h
theorem SS.del_same {S : SS} {a : Addr} : S.del a a = none := if_pos rfl
theorem SS.del_ne {S : SS} {a b : Addr} (h : b ≠ a) : S.del a b = S b := if_neg h

/-- the ground of a context: the written part -/
structure Gd where
  K : PySem.W.Frag
abbrev noH : Hp := fun _ => none
def LstAt (g : Gd) (S : SS) (H : Hp) (p : Addr) (vs : List V) : Prop := (S p = none ∧ Rd H p (.lst vs)) ∨ SqL g.K noH p vs
def TupAt (g : Gd) (S : SS) (H : Hp) (p : Addr) (vs : List V) : Prop := (S p = none ∧ H p = some (.tup vs)) ∨ SqT g.K noH p vs
mutual
def Rep (g : Gd) (S : SS) (H : Hp) : D → V → Prop
  | .non, v => v = .non
  | .bl b, v => v = .bl b
  | .int i, v => v = .int i
  | .str x, v => v = .str x
  | .lst ds, v => ∃ p vs, v = .ref p ∧ LstAt g S H p vs ∧ Reps g S H ds vs
  | .tup ds, v => ∃ p vs, v = .ref p ∧ TupAt g S H p vs ∧ Reps g S H ds vs
  | .dic kvs, v => ∃ p ws, v = .ref p ∧ S p = none ∧ Rd H p (.dK ws) ∧ RepK g S H kvs ws
  | .obj a, v => v = .ref a
  | .exc a oe C fs, v => ∃ d, v = .ref a ∧ (Zc (.ref C) d oe ∧ ∃ vs, oe.data = .fields vs) ∧ ((d = none ∧ fs = []) ∨ ∃ dd ws, d = some dd ∧ S dd = none ∧ H dd = some (.xd ws) ∧ RepF g S H fs ws)
def Reps (g : Gd) (S : SS) (H : Hp) : List D → List V → Prop
  | [], vs => vs = []
  | d :: ds, vs => ∃ v r, vs = v :: r ∧ Rep g S H d v ∧ Reps g S H ds r
def RepK (g : Gd) (S : SS) (H : Hp) : List (Key × D) → List (Key × V) → Prop
  | [], ws => ws = []
  | (k, d) :: r, ws => ∃ v q, ws = (k, v) :: q ∧ Rep g S H d v ∧ RepK g S H r q
def RepF (g : Gd) (S : SS) (H : Hp) : List (Str × D) → List (Str × V) → Prop
  | [], ws => ws = []
  | (k, d) :: r, ws => ∃ v q, ws = (k, v) :: q ∧ Rep g S H d v ∧ RepF g S H r q
end

/-- from one state to a later one -/
structure Post (S : SS) (H : Hp) (S' : SS) (H' : Hp) : Prop where
  kp : ∀ p o, S p = none → H p = some o → H' p = some o
  fr : ∀ a, S' a ≠ none → S a ≠ none ∨ H a = none
theorem Post.refl (S : SS) (H : Hp) : Post S H S H := ⟨fun _ _ _ h => h, fun _ h => .inl h⟩
theorem Post.none_of {S : SS} {H : Hp} {S' : SS} {H' : Hp} (P : Post S H S' H') {p : Addr} {o : HO} (h : S p = none) (e : H p = some o) : S' p = none := by
  cases q : S' p with
  | none => rfl
  | some c =>
    rcases P.fr p (by rw [q]; exact fun z => nomatch z) with z | z
    · exact absurd h z
    · rw [e] at z; cases z
theorem Post.trans {S : SS} {H : Hp} {S1 : SS} {H1 : Hp} {S2 : SS} {H2 : Hp} (a : Post S H S1 H1) (b : Post S1 H1 S2 H2) : Post S H S2 H2 := by
  refine ⟨fun p o h e => b.kp p o (a.none_of h e) (a.kp p o h e), fun x h => ?_⟩
  rcases b.fr x h with z | z
  · exact a.fr x z
  · cases q : S x with
    | some c => exact .inl (fun z => nomatch z)
    | none =>
      cases r : H x with
      | none => exact .inr rfl
      | some o =>
        rw [a.kp x o q r] at z
        cases z

section
variable {g : Gd} {S S' : SS} {H H' : Hp}
theorem Rd.kp {p : Addr} {u : HO} (P : Post S H S' H') (h : S p = none) (r : Rd H p u) : Rd H' p u := by
  rcases r with r | ⟨o, r⟩
  · exact .inl (P.kp _ _ h r)
  · exact .inr ⟨o, P.kp _ _ h r⟩
theorem Rd.none' {p : Addr} {u : HO} (P : Post S H S' H') (h : S p = none) (r : Rd H p u) : S' p = none := by
  rcases r with r | ⟨o, r⟩
  · exact P.none_of h r
  · exact P.none_of h r
theorem LstAt.mono {p : Addr} {vs : List V} (P : Post S H S' H') (h : LstAt g S H p vs) : LstAt g S' H' p vs := by
  rcases h with ⟨h, r⟩ | h
  · exact .inl ⟨Rd.none' P h r, Rd.kp P h r⟩
  · exact .inr h
theorem TupAt.mono {p : Addr} {vs : List V} (P : Post S H S' H') (h : TupAt g S H p vs) : TupAt g S' H' p vs := by
  rcases h with ⟨h, r⟩ | h
  · exact .inl ⟨P.none_of h r, P.kp _ _ h r⟩
  · exact .inr h
theorem sqL_noH {p : Addr} {vs : List V} (h : SqL g.K noH p vs) : SqL g.K H p vs := by
  rcases h with h | h
  · rcases h with h | ⟨o, h⟩ <;> cases h
  · exact .inr h
theorem sqT_noH {p : Addr} {vs : List V} (h : SqT g.K noH p vs) : SqT g.K H p vs := by
  rcases h with h | h
  · rcases h with h | ⟨o, h⟩ <;> cases h
  · exact .inr h
theorem LstAt.sq {p : Addr} {vs : List V} (h : LstAt g S H p vs) : SqL g.K H p vs := by
  rcases h with ⟨h, r⟩ | h
  · exact .inl r
  · exact sqL_noH h
theorem TupAt.sq {p : Addr} {vs : List V} (h : TupAt g S H p vs) : SqT g.K H p vs := by
  rcases h with ⟨h, r⟩ | h
  · exact .inl (.inl r)
  · exact sqT_noH h
mutual
theorem Rep.mono (P : Post S H S' H') : ∀ {d : D} {v : V}, Rep g S H d v → Rep g S' H' d v
  | .non, _, h => by simp only [Rep] at h ⊢; exact h
  | .bl _, _, h => by simp only [Rep] at h ⊢; exact h
  | .int _, _, h => by simp only [Rep] at h ⊢; exact h
  | .str _, _, h => by simp only [Rep] at h ⊢; exact h
  | .lst ds, _, h => by
    simp only [Rep] at h ⊢
    obtain ⟨p, vs, e, a, r⟩ := h
    exact ⟨p, vs, e, a.mono P, Reps.mono P r⟩
  | .tup ds, _, h => by
    simp only [Rep] at h ⊢
    obtain ⟨p, vs, e, a, r⟩ := h
    exact ⟨p, vs, e, a.mono P, Reps.mono P r⟩
  | .dic kvs, _, h => by
    simp only [Rep] at h ⊢
    obtain ⟨p, ws, e, a, b, r⟩ := h
    exact ⟨p, ws, e, Rd.none' P a b, Rd.kp P a b, RepK.mono P r⟩
  | .obj _, _, h => by simp only [Rep] at h ⊢; exact h
  | .exc a oe C fs, _, h => by
    simp only [Rep] at h ⊢
    obtain ⟨d, e, x, r⟩ := h
    refine ⟨d, e, x, ?_⟩
    rcases r with r | ⟨dd, ws, e1, n, q, r⟩
    · exact .inl r
    · exact .inr ⟨dd, ws, e1, P.none_of n q, P.kp _ _ n q, RepF.mono P r⟩
theorem Reps.mono (P : Post S H S' H') : ∀ {ds : List D} {vs : List V}, Reps g S H ds vs → Reps g S' H' ds vs
  | [], _, h => by simp only [Reps] at h ⊢; exact h
  | d :: ds, _, h => by
    simp only [Reps] at h ⊢
    obtain ⟨v, r, e, a, b⟩ := h
    exact ⟨v, r, e, Rep.mono P a, Reps.mono P b⟩
theorem RepK.mono (P : Post S H S' H') : ∀ {ds : List (Key × D)} {vs : List (Key × V)}, RepK g S H ds vs → RepK g S' H' ds vs
  | [], _, h => by simp only [RepK] at h ⊢; exact h
  | (k, d) :: ds, _, h => by
    simp only [RepK] at h ⊢
    obtain ⟨v, r, e, a, b⟩ := h
    exact ⟨v, r, e, Rep.mono P a, RepK.mono P b⟩
theorem RepF.mono (P : Post S H S' H') : ∀ {ds : List (Str × D)} {vs : List (Str × V)}, RepF g S H ds vs → RepF g S' H' ds vs
  | [], _, h => by simp only [RepF] at h ⊢; exact h
  | (k, d) :: ds, _, h => by
    simp only [RepF] at h ⊢
    obtain ⟨v, r, e, a, b⟩ := h
    exact ⟨v, r, e, Rep.mono P a, RepF.mono P b⟩
end

/-- a mutable object as it lies -/
def CellOk (g : Gd) (S : SS) (H : Hp) (a : Addr) : Cell → Prop
  | .lst ds => ∃ vs, H a = some (.lst vs) ∧ Reps g S H ds vs
  | .dic kvs => ∃ ws, H a = some (.dK ws) ∧ RepK g S H kvs ws
  | .loc kvs => ∃ ws o, H a = some (.frz o (.dK ws)) ∧ RepK g S H kvs ws
  | .ins C fs => ∃ dx ws, H a = some (.ins C dx ws) ∧ RepF g S H fs ws
def CellsOk (g : Gd) (S : SS) (H : Hp) : Prop := ∀ a c, S a = some c → CellOk g S H a c
theorem CellOk.there {a : Addr} {c : Cell} (h : CellOk g S H a c) : ∃ o, H a = some o := by
  cases c with
  | lst _ => obtain ⟨_, e, _⟩ := h; exact ⟨_, e⟩
  | dic _ => obtain ⟨_, e, _⟩ := h; exact ⟨_, e⟩
  | loc _ => obtain ⟨_, _, e, _⟩ := h; exact ⟨_, e⟩
  | ins _ _ => obtain ⟨_, _, e, _⟩ := h; exact ⟨_, e⟩
theorem CellOk.mono {a : Addr} {c : Cell} (P : Post S H S' H') (e : H' a = H a) (h : CellOk g S H a c) : CellOk g S' H' a c := by
  cases c with
  | lst _ => obtain ⟨x, q, r⟩ := h; exact ⟨x, by rw [e]; exact q, r.mono P⟩
  | dic _ => obtain ⟨x, q, r⟩ := h; exact ⟨x, by rw [e]; exact q, r.mono P⟩
  | loc _ => obtain ⟨x, y, q, r⟩ := h; exact ⟨x, y, by rw [e]; exact q, r.mono P⟩
  | ins _ _ => obtain ⟨x, y, q, r⟩ := h; exact ⟨x, y, by rw [e]; exact q, r.mono P⟩
theorem CellsOk.free (h : CellsOk g S H) {p : Addr} (e : H p = none) : S p = none := by
  cases q : S p with
  | none => rfl
  | some c =>
    obtain ⟨o, z⟩ := (h p c q).there
    rw [e] at z; cases z
/-- a new object that is no cell -/
theorem Post.new {p : Addr} {o : HO} (e : H p = none) : Post S H S (upd H p o) :=
  ⟨fun q u _ z => by rw [upd_ne (ne_of_none z e)]; exact z, fun _ h => .inl h⟩
theorem CellsOk.new {p : Addr} {o : HO} (h : CellsOk g S H) (e : H p = none) : CellsOk g S (upd H p o) := fun a c q => by
  obtain ⟨u, z⟩ := (h a c q).there
  exact (h a c q).mono (Post.new e) (upd_ne (ne_of_none z e))
/-- a new cell -/
theorem Post.newC {p : Addr} {o : HO} {c : Cell} (e : H p = none) : Post S H (S.set p c) (upd H p o) :=
  ⟨fun q u _ z => by rw [upd_ne (ne_of_none z e)]; exact z, fun a h => by
    by_cases q : a = p
    · exact .inr (q ▸ e)
    · rw [SS.set_ne q] at h; exact .inl h⟩
theorem CellsOk.newC {p : Addr} {o : HO} {c : Cell} (h : CellsOk g S H) (e : H p = none) (hc : CellOk g (S.set p c) (upd H p o) p c) : CellsOk g (S.set p c) (upd H p o) := fun a d q => by
  by_cases z : a = p
  · subst z; rw [SS.set_same] at q; cases q; exact hc
  · rw [SS.set_ne z] at q
    exact (h a d q).mono (Post.newC e) (upd_ne z)
/-- a cell is written -/
theorem Post.write {a : Addr} {o : HO} {c c0 : Cell} (e : S a = some c0) : Post S H (S.set a c) (upd H a o) :=
  ⟨fun q u n z => by rw [upd_ne (fun y => by rw [y, e] at n; cases n)]; exact z, fun b h => by
    by_cases q : b = a
    · exact .inl (by rw [q, e]; exact fun z => nomatch z)
    · rw [SS.set_ne q] at h; exact .inl h⟩
theorem CellsOk.write {a : Addr} {o : HO} {c c0 : Cell} (h : CellsOk g S H) (e : S a = some c0) (hc : CellOk g (S.set a c) (upd H a o) a c) : CellsOk g (S.set a c) (upd H a o) := fun b d q => by
  by_cases z : b = a
  · subst z; rw [SS.set_same] at q; cases q; exact hc
  · rw [SS.set_ne z] at q
    exact (h b d q).mono (Post.write e) (upd_ne z)
/-- a list that is changed no more -/
theorem Post.freeze {a : Addr} : Post S H (S.del a) H :=
  ⟨fun _ _ _ z => z, fun b h => by
    by_cases q : b = a
    · rw [q, SS.del_same] at h; exact absurd rfl h
    · rw [SS.del_ne q] at h; exact .inl h⟩
theorem CellsOk.freeze {a : Addr} (h : CellsOk g S H) : CellsOk g (S.del a) H := fun b d q => by
  by_cases z : b = a
  · rw [z, SS.del_same] at q; cases q
  · rw [SS.del_ne z] at q
    exact (h b d q).mono Post.freeze rfl
theorem Rep.freeze {a : Addr} {ds : List D} (h : CellsOk g S H) (e : S a = some (.lst ds)) : Rep g (S.del a) H (.lst ds) (.ref a) := by
  obtain ⟨vs, q, r⟩ := h a _ e
  simp only [Rep]
  exact ⟨a, vs, rfl, .inl ⟨SS.del_same, .inl q⟩, r.mono Post.freeze⟩
theorem Rep.freezeK {a : Addr} {ds : List (Key × D)} (h : CellsOk g S H) (e : S a = some (.dic ds)) : Rep g (S.del a) H (.dic ds) (.ref a) := by
  obtain ⟨vs, q, r⟩ := h a _ e
  simp only [Rep]
  exact ⟨a, vs, rfl, SS.del_same, .inl q, r.mono Post.freeze⟩

/-! ### slots -/
abbrev DS := List (Option D)
structure RelS (g : Gd) (S : SS) (H : Hp) (δ : DS) (σ : L2.St) : Prop where
  len : δ.length = σ.length
  at_ : ∀ (i : Nat) d, δ[i]? = some (some d) → ∃ v, σ[i]? = some (some v) ∧ Rep g S H d v
theorem RelS.mono {δ : DS} {σ : L2.St} (P : Post S H S' H') (h : RelS g S H δ σ) : RelS g S' H' δ σ := ⟨h.len, fun i d e =>
  let ⟨v, e1, r⟩ := h.at_ i d e
  ⟨v, e1, r.mono P⟩⟩
theorem RelS.set {δ : DS} {σ : L2.St} {i : Nat} {d : D} {v : V} (h : RelS g S H δ σ) (r : Rep g S H d v) : RelS g S H (δ.set i (some d)) (σ.set i (some v)) := by
  refine ⟨by rw [List.length_set, List.length_set, h.len], fun j e q => ?_⟩
  by_cases hj : i = j
  · subst hj
    by_cases hi : i < δ.length
    · rw [List.getElem?_set_self hi] at q
      cases q
      exact ⟨v, List.getElem?_set_self (by rw [← h.len]; exact hi), r⟩
    · rw [List.getElem?_eq_none (by simpa using hi)] at q; cases q
  · rw [List.getElem?_set_ne hj] at q
    obtain ⟨w, e1, r1⟩ := h.at_ j e q
    exact ⟨w, by rw [List.getElem?_set_ne hj]; exact e1, r1⟩
theorem RelS.setN {δ : DS} {σ : L2.St} {i : Nat} {x : Option V} (h : RelS g S H δ σ) : RelS g S H (δ.set i none) (σ.set i x) := by
  refine ⟨by rw [List.length_set, List.length_set, h.len], fun j e q => ?_⟩
  by_cases hj : i = j
  · subst hj
    by_cases hi : i < δ.length
    · rw [List.getElem?_set_self hi] at q; cases q
    · rw [List.getElem?_eq_none (by simpa using hi)] at q; cases q
  · rw [List.getElem?_set_ne hj] at q
    obtain ⟨w, e1, r1⟩ := h.at_ j e q
    exact ⟨w, by rw [List.getElem?_set_ne hj]; exact e1, r1⟩
/-- less known of the slots -/
theorem RelS.weak {δ δ' : DS} {σ : L2.St} (h : RelS g S H δ σ) (hl : δ'.length = δ.length) (w : ∀ (i : Nat) d, δ'[i]? = some (some d) → δ[i]? = some (some d)) : RelS g S H δ' σ :=
  ⟨hl.trans h.len, fun i d e => h.at_ i d (w i d e)⟩
theorem RelS.start {N : List Str} : ∀ {ds : List D} {vs : List V}, Reps g S H ds vs → RelS g S H (ds.map some ++ List.replicate (N.length - ds.length) none) (L2.start N vs) := by
  have key : ∀ (n : Nat) (ds : List D) (vs : List V), Reps g S H ds vs → RelS g S H (ds.map some ++ List.replicate n none) (vs.map some ++ List.replicate n none) := by
    intro n ds
    induction ds with
    | nil =>
      intro vs h
      simp only [Reps] at h
      subst h
      refine ⟨by simp, fun i d e => ?_⟩
      simp only [List.map_nil, List.nil_append, List.getElem?_replicate] at e
      split at e <;> cases e
    | cons d ds ih =>
      intro vs h
      simp only [Reps] at h
      obtain ⟨v, r, e, a, b⟩ := h
      subst e
      have q := ih r b
      refine ⟨by simpa using q.len, fun i x e => ?_⟩
      cases i with
      | zero => cases e; exact ⟨v, rfl, a⟩
      | succ i => exact q.at_ i x e
  intro ds vs h
  have hl : ds.length = vs.length := by
    induction ds generalizing vs with
    | nil => simp only [Reps] at h; subst h; rfl
    | cons d ds ih =>
      simp only [Reps] at h
      obtain ⟨v, r, e, a, b⟩ := h
      subst e
      rw [List.length_cons, List.length_cons, ih b]
  unfold L2.start
  rw [← hl]
  exact key _ _ _ h
/-- the whole relation of a state -/
structure Rel (g : Gd) (S : SS) (H : Hp) (δ : DS) (σ : L2.St) : Prop where
  sl : RelS g S H δ σ
  ce : CellsOk g S H
end
end Sv

/-! Sv1: what a def promises, in a calm state and within an except suite, with no repr running. -/
namespace Sv
open PySem PySem.Spec PyProof.Rows L2
open L2H (RoomH Hot1 PinOk)

/-- calm, or p is handled -/
def Mode (A : Around) (outer : List Env) (H : Hp) (s : Shared) : Option (Addr × Obj) → Prop
  | none => A.handled = none
  | some p => Hot1 A p ∧ PinOk outer H s p
abbrev SpM := Option (Addr × Obj) → Sp
structure FnG (P : Program) (w : World) (K : PySem.W.Frag) (mg : Str → Option Value) (base : Heap) (hot : Bool) (k : Nat) (f : Addr) (fd : FuncData) (ps : List Str) (sp : SpM) : Prop where
  len : ∀ m vs H Q E, m.isSome = hot → sp m vs H Q E → vs.length = ps.length
  run : ∀ (A : Around) (outer : List Env) (s : Shared) (H : Hp) (args : Args) (us : List Value) (vs : List V) (Q : VK) (E : XK) (m : Option (Addr × Obj)), m.isSome = hot → RoomH k A → Mode A outer H s m → Env0 P w K mg base A outer s H →
    BindsTo s fd args (ps.zip us) → Vals vs us → sp m vs H Q E → codeAny (model P w) A (.call (.ref f) args) (CR (L2N.CX P w) outer P w H s Q E) s
theorem FnG.mono {P : Program} {w : World} {K : PySem.W.Frag} {mg : Str → Option Value} {base : Heap} {hot : Bool} {j k : Nat} {f : Addr} {fd : FuncData} {ps : List Str} {sp : SpM} (F : FnG P w K mg base hot j f fd ps sp) (h : j ≤ k) :
    FnG P w K mg base hot k f fd ps sp := ⟨F.len, fun A outer s H args us vs Q E m hm hr => F.run A outer s H args us vs Q E m hm (hr.mono h)⟩
theorem FnG.imp {P : Program} {w : World} {K : PySem.W.Frag} {mg : Str → Option Value} {base : Heap} {hot : Bool} {k : Nat} {f : Addr} {fd : FuncData} {ps : List Str} {sp sp' : SpM} (F : FnG P w K mg base hot k f fd ps sp)
    (h : ∀ m vs H Q E, sp' m vs H Q E → sp m vs H Q E) : FnG P w K mg base hot k f fd ps sp' :=
  ⟨fun m vs H Q E z q => F.len m vs H Q E z (h _ _ _ _ _ q), fun A outer s H args us vs Q E m hm hr hM he hb hv hs => F.run A outer s H args us vs Q E m hm hr hM he hb hv (h _ _ _ _ _ hs)⟩

/-- the context of a def's body -/
def cxM (P : Program) (w : World) (K : PySem.W.Frag) (mg : Str → Option Value) (base : Heap) (N : List Str) (qual : Str) (scope : Scope) (f : Addr) (cd : Value) (A : Around) (outer : List Env) (s : Shared) (H : Hp) (E : XK) (m : Option (Addr × Obj)) : Cx :=
  { cxOf (L2N.CX P w) P w K mg base N qual scope f cd A outer s H E with calm := m.isNone, pn := m.toList }
theorem inv_startM {P : Program} {w : World} {K : PySem.W.Frag} {mg : Str → Option Value} {base : Heap} {N ps : List Str} {qual : Str} {scope : Scope} {f : Addr} {cd : Value} {A : Around} {outer : List Env} {s s1 : Shared} {H : Hp} {E : XK} {us : List Value} {vs : List V}
    (S : FnScope N ps scope) {m : Option (Addr × Obj)} (hM : Mode A outer H s m) (e0 : Env0 P w K mg base A outer s H) (hl : vs.length = ps.length) (r : Vals vs us)
    (x : InCallC s s.heap.objs.size (bindL (envOfC qual scope s.heap.objs.size f cd).kindOf (ps.zip us) (fun _ => none)) (cellsFrom (s.heap.objs.size + 1) scope.names []) (bindC (envOfC qual scope s.heap.objs.size f cd).kindOf (ps.zip us) (fun _ => none)) s1) :
    Inv (cxM P w K mg base N qual scope f cd A outer s H E m) [] (L2.start N vs) H s1 := by
  cases m with
  | none => exact L2.inv_start S hM e0 hl r x
  | some p => exact L2H.inv_startH S hM.2 e0 hl r x
/-! ### a def by its body -/
/-- each parameter is a local or a cell that is laid -/
theorem par_kinds {N ps : List Str} {scope : Scope} {us : List Value} {n : Nat} (S : FnScope N ps scope) (y : Str × Value) (hy : y ∈ ps.zip us) :
    scope.names.lookup y.1 = some .local ∨ (scope.names.lookup y.1 = some .cell ∧ ((cellsFrom n scope.names []).lookup y.1).isSome = true) :=
  (S.par y.1 (List.of_mem_zip (show (y.1, y.2) ∈ ps.zip us from hy)).1).imp id fun c => ⟨c, PySem.W.cellsFrom_some _ _ _ (.inl c)⟩
/-- how a body ends is how the call ends -/
theorem flow_tells {P : Program} {w : World} {K : PySem.W.Frag} {mg : Str → Option Value} {base : Heap} {N : List Str} {qual : Str} {scope : Scope} {f : Addr} {cd : Value} {A : Around} {outer : List Env} {s : Shared} {H : Hp} {Q : VK} {E : XK} {m : Option (Addr × Obj)} :
    ∀ (fl : Flow) (t : Shared), SP (cxM P w K mg base N qual scope f cd A outer s H E m) [] { nx := fun _ H1 => Q .non H1, rt := Q } fl t →
      match fl with
      | .ret u => CE outer P w H s Q u t
      | .next => CE outer P w H s Q .none t
      | _ => False
  | .ret _, _, ⟨v, _, H1, I, rv, q⟩ => ⟨v, H1, I.os, I.bare, I.base, I.hok, rv, q⟩
  | .next, _, ⟨_, H1, I, q⟩ => ⟨.non, H1, I.os, I.bare, I.base, I.hok, rfl, q⟩
  | .brk, _, ⟨_, _, _, q⟩ => q
  | .cont, _, ⟨_, _, _, q⟩ => q
theorem fn_ofM {P : Program} {w : World} {K : PySem.W.Frag} {mg : Str → Option Value} {base : Heap} {hot : Bool} {k : Nat} {f : Addr} {name qual : Str} {params : Arguments} {body : List Stmt} {scope : Scope} {dV kV doc pm cdv ct oc : Value} {an od : Option Addr}
    {osl : Array (Option Value)} {N ps : List Str} {sp : SpM} (at_f : K.lookup f = some ⟨oc, od, .func (PySem.W.fnOf name qual params body scope dV kV doc pm an cdv ct), osl⟩) (at_cd : PySem.W.codeIn K cdv qual = true) (S : FnScope N ps scope)
    (len : ∀ m vs H Q E, m.isSome = hot → sp m vs H Q E → vs.length = ps.length)
    (hbody : ∀ (A : Around) (outer : List Env) (s : Shared) (H : Hp) (vs : List V) (Q : VK) (E : XK) (m : Option (Addr × Obj)), m.isSome = hot → Mode A outer H s m → RoomH k (A.deeper (envOfC qual scope s.heap.objs.size f cdv)) → sp m vs H Q E →
      ∃ t, PSs (cxM P w K mg base N qual scope f cdv A outer s H E m) body t ∧ t { nx := fun _ H' => Q .non H', rt := Q } (L2.start N vs) H) :
    FnG P w K mg base hot (k + 1) f (PySem.W.fnOf name qual params body scope dV kV doc pm an cdv ct) ps sp where
  len := len
  run A outer s H args us vs Q E m hm hr hM e0 hb r hsp := by
    have grown : ∀ {b o}, base.get? b = some o → s.heap.get? b = some o := fun {b o} e => (e0.bs b o e).1
    have inK : K.In s.heap := e0.mod.kin.keeps fun _ _ => grown
    apply codeAny_call_function hr.depth (inK _ _ at_f) rfl S.co S.gen rfl (PySem.W.codeRec_of inK at_cd)
    apply hb
    apply wpAny_newFunctionEnv_cells S.kind (par_kinds S)
    rintro _ rfl s1 laid
    obtain ⟨t, walks, wants⟩ := hbody A outer s H vs Q E m hm hM (hr.deeper _) hsp
    have I0 := inv_startM (E := E) S hM e0 (len _ _ _ _ _ hm hsp) r laid
    refine ⟨(e0.mod.nolimit.keeps fun _ _ => grown).keeps laid.toInCall.keep, codeAny_func (wpAny_mono (walks.run _ _ _ _ _ I0 wants) (fun fl t ended => ?_) fun _ _ x => x)⟩
    have told := flow_tells fl t ended
    cases fl <;> first | exact told | exact told.elim

/-! ### calls -/
/-- the context bears its mode -/
def ModeC (X : Cx) : Option (Addr × Obj) → Prop
  | none => X.calm = true
  | some p => Hot1 X.A p ∧ p ∈ X.pn
theorem ModeC.at {X : Cx} {m0 : Option (Addr × Obj)} {pins : List (Addr × Obj)} {σ : L2.St} {H : Hp} {s : Shared} (c : ModeC X m0) (I : Inv X pins σ H s) : Mode X.A X.stack H s m0 := by
  match m0, c with
  | none, c => exact I.ok.hd c
  | some p, ⟨h, hp⟩ =>
    have ⟨get, free, noLoc, noFs, noCell⟩ := I.pin p (List.mem_append_left pins hp)
    refine ⟨h, get, free, fun z => ?_, noCell⟩
    rcases List.mem_cons.mp (I.stkSub _ z) with z | z
    · exact noLoc z
    · exact noFs z
section
variable {X : Cx} {hot : Bool} {m0 : Option (Addr × Obj)} {k : Nat} {f : Addr} {fd : FuncData} {ps : List Str} {sp : SpM} {dvs : List V} {ds : List Value} {E : L2.St → XK} {x : Str} {q pos : Pos} {e : Expr} {es : List Expr} {t : TA}
/-- the def at f, called with values -/
theorem run_fnG {pins : List (Addr × Obj)} {σ : L2.St} {H : Hp} {s : Shared} {Q : VK} {us : List Value} {vs : List V} (F : FnG X.prog X.w X.K X.mg X.base hot k f fd ps sp) (hh : m0.isSome = hot) (room : RoomH k X.A) (mode : ModeC X m0) (binds : L2.Binds X.K fd ps ds) (hd : Vals dvs ds)
    (out : PassesAt (L2N.CX X.prog X.w) X σ (E σ)) (I : Inv X pins σ H s) (rv : Vals vs us) (want : sp m0 (vs ++ dvs) H Q (E σ)) : wpAny (model X.prog X.w) X.A (call (.ref f) us) (EP X pins σ Q) X.xe s := by
  have all := rv.append hd
  have whole := F.run X.A X.stack s H ⟨us, []⟩ (us ++ ds) _ Q (E σ) m0 hh room (mode.at I) I.env0 (binds s us I.kIn (all.length ▸ F.len _ _ _ _ _ hh want)) all want
  apply wpAny_call
  refine codeAny_mono whole ?_
  rintro (err | (_ | u | _ | _)) s' told
  · exact out _ _ _ _ _ I told
  all_goals first | exact I.after told | exact told.elim
def tCallG (m0 : Option (Addr × Obj)) (sp : SpM) (dvs : List V) (E : L2.St → XK) (t : TA) : TE := fun σ H Q => t σ H fun vs H1 => sp m0 (vs ++ dvs) H1 Q (E σ)
/-- the name x is the def at f -/
structure Named (X : Cx) (x : Str) (f : Addr) : Prop where
  gl : Gl X x
  mg : X.mg x = some (.ref f)
  kp : PySem.W.keepIn X.K (.ref f) = true
  db : (x == ("__debug__" : Str)) = false
theorem pe_callG (F : FnG X.prog X.w X.K X.mg X.base hot k f fd ps sp) (hh : m0.isSome = hot) (room : RoomH k X.A) (mode : ModeC X m0) (nm : Named X x f) (binds : L2.Binds X.K fd ps ds) (hd : Vals dvs ds)
    (out : ∀ σ, PassesAt (L2N.CX X.prog X.w) X σ (E σ)) (args : PA X (e :: es) t) (plain : starEach (e :: es) X.env = (false, eval e X.env) :: starEach es X.env) (rest : (backTo pos (starEach es X.env)).any (·.1) = false) :
    PE X (.Call (.Name x q) (e :: es) [] pos) (tCallG m0 sp dvs E t) where
  run pins s σ H Q I want := wpAny_Call_Name_kw (ld_glob I nm.gl nm.mg (PySem.W.callWith_K (h₀ := X.base) I.ok.mod.kin nm.kp
    (thn (args.run pos pins s σ H _ I want) fun _ _ ⟨_, _, J, rv, go⟩ => ⟨J.kIn, run_fnG F hh room mode binds hd (out σ) J rv go⟩) plain rest) nm.db)
theorem pe_callG0 (F : FnG X.prog X.w X.K X.mg X.base hot k f fd ps sp) (hh : m0.isSome = hot) (room : RoomH k X.A) (mode : ModeC X m0) (nm : Named X x f) (binds : L2.Binds X.K fd ps ds) (hd : Vals dvs ds) (out : ∀ σ, PassesAt (L2N.CX X.prog X.w) X σ (E σ)) :
    PE X (.Call (.Name x q) [] [] pos) (tCallG m0 sp dvs E tNil) where
  run pins s σ H Q I want := wpAny_Call_Name_kw (ld_glob I nm.gl nm.mg (PySem.W.callWith_K0 I.kIn nm.kp (run_fnG F hh room mode binds hd (out σ) I .nil want)) nm.db)
end
end Sv

/-! Sv2: operators on values. -/
namespace Sv
open PySem PySem.Spec PyProof.Rows L2
abbrev DK := D → SS → Prop

/-! ### lists side by side -/
section
variable {α β : Type} {F : α → β → Prop}
/-- two lists lie side by side when one list of related pairs shows both -/
theorem pz_zip {xs : List α} {us : List β} (h : Paired F xs us) : ∃ ps : List {p : α × β // F p.1 p.2}, ps.map (fun p => p.1.1) = xs ∧ ps.map (fun p => p.1.2) = us := by
  induction h with
  | nil => exact ⟨[], rfl, rfl⟩
  | cons r _ more =>
    obtain ⟨ps, rfl, rfl⟩ := more
    exact ⟨⟨(_, _), r⟩ :: ps, rfl, rfl⟩
theorem pz_of (ps : List {p : α × β // F p.1 p.2}) : Paired F (ps.map fun p => p.1.1) (ps.map fun p => p.1.2) := by
  induction ps with
  | nil => exact .nil
  | cons p ps more => exact .cons p.2 more
/-- what is done alike to both lists is done to the pairs -/
theorem pz_same (f : ∀ {γ : Type}, List γ → List γ) (nat : ∀ {γ δ : Type} (h : γ → δ) (l : List γ), f (l.map h) = (f l).map h) {xs : List α} {us : List β} (r : Paired F xs us) : Paired F (f xs) (f us) := by
  obtain ⟨ps, rfl, rfl⟩ := pz_zip r
  rw [nat, nat]
  exact pz_of _
theorem pz_get {xs : List α} {us : List β} {i : Nat} {x : α} (r : Paired F xs us) (e : xs[i]? = some x) : ∃ u, us[i]? = some u ∧ F x u := by
  obtain ⟨ps, rfl, rfl⟩ := pz_zip r
  rw [List.getElem?_map] at e
  rw [List.getElem?_map]
  cases at_i : ps[i]? with
  | none => rw [at_i] at e; exact nomatch e
  | some p =>
    rw [at_i] at e
    cases e
    exact ⟨p.1.2, rfl, p.2⟩
theorem pz_set {x : α} {u : β} (r : F x u) {xs : List α} {us : List β} (i : Nat) (rs : Paired F xs us) : Paired F (xs.set i x) (us.set i u) := by
  obtain ⟨ps, rfl, rfl⟩ := pz_zip rs
  have put := pz_of (ps.set i ⟨(x, u), r⟩)
  rwa [List.map_set, List.map_set] at put
theorem pz_append {xs ys : List α} {us ws : List β} (r : Paired F xs us) (q : Paired F ys ws) : Paired F (xs ++ ys) (us ++ ws) := by
  obtain ⟨ps, rfl, rfl⟩ := pz_zip r
  obtain ⟨qs, rfl, rfl⟩ := pz_zip q
  rw [← List.map_append, ← List.map_append]
  exact pz_of _
theorem pz_take {xs : List α} {us : List β} (n : Nat) : Paired F xs us → Paired F (xs.take n) (us.take n) := pz_same (fun l => l.take n) fun h l => List.map_take.symm
theorem pz_drop {xs : List α} {us : List β} (n : Nat) : Paired F xs us → Paired F (xs.drop n) (us.drop n) := pz_same (fun l => l.drop n) fun h l => List.map_drop.symm
theorem pz_reverse {xs : List α} {us : List β} : Paired F xs us → Paired F xs.reverse us.reverse := pz_same List.reverse fun h l => List.map_reverse.symm
theorem pz_erase {xs : List α} {us : List β} (i : Nat) : Paired F xs us → Paired F (xs.eraseIdx i) (us.eraseIdx i) := pz_same (fun l => l.eraseIdx i) fun h l => by rw [List.eraseIdx_eq_take_drop_succ, List.eraseIdx_eq_take_drop_succ, List.map_append, List.map_take, List.map_drop]
theorem pz_dropLast {xs : List α} {us : List β} : Paired F xs us → Paired F xs.dropLast us.dropLast := pz_same List.dropLast fun h l => List.map_dropLast.symm
end

section
variable {g : Gd} {S S' : SS} {H H' : Hp}
abbrev RP (g : Gd) (S : SS) (H : Hp) : List D → List V → Prop := Paired fun d v => Rep g S H d v
theorem rp_of : ∀ {ds : List D} {vs : List V}, Reps g S H ds vs → RP g S H ds vs
  | [], _, h => by simp only [Reps] at h; subst h; exact .nil
  | d :: ds, _, h => by
    simp only [Reps] at h
    obtain ⟨v, r, e, a, b⟩ := h
    subst e
    exact .cons a (rp_of b)
theorem of_rp : ∀ {ds : List D} {vs : List V}, RP g S H ds vs → Reps g S H ds vs
  | _, _, .nil => by simp only [Reps]
  | _, _, .cons a b => by simp only [Reps]; exact ⟨_, _, rfl, a, of_rp b⟩
abbrev RPK (g : Gd) (S : SS) (H : Hp) : List (Key × D) → List (Key × V) → Prop := Paired fun d v => d.1 = v.1 ∧ Rep g S H d.2 v.2
theorem rpk_of : ∀ {ds : List (Key × D)} {vs : List (Key × V)}, RepK g S H ds vs → RPK g S H ds vs
  | [], _, h => by simp only [RepK] at h; subst h; exact .nil
  | (k, d) :: ds, _, h => by
    simp only [RepK] at h
    obtain ⟨v, r, e, a, b⟩ := h
    subst e
    exact .cons ⟨rfl, a⟩ (rpk_of b)
theorem of_rpk : ∀ {ds : List (Key × D)} {vs : List (Key × V)}, RPK g S H ds vs → RepK g S H ds vs
  | _, _, .nil => by simp only [RepK]
  | (k, d) :: _, (k', v) :: _, .cons a b => by
    obtain ⟨e, a⟩ := a
    cases e
    simp only [RepK]
    exact ⟨v, _, rfl, a, of_rpk b⟩
theorem Reps.length {ds : List D} {vs : List V} (h : Reps g S H ds vs) : ds.length = vs.length := Paired.length (rp_of h)
theorem Reps.get {ds : List D} {vs : List V} (h : Reps g S H ds vs) {i : Nat} {d : D} (e : ds[i]? = some d) : ∃ v, vs[i]? = some v ∧ Rep g S H d v := pz_get (rp_of h) e
theorem Reps.append {ds es : List D} {vs us : List V} (h : Reps g S H ds vs) (h' : Reps g S H es us) : Reps g S H (ds ++ es) (vs ++ us) := of_rp (pz_append (rp_of h) (rp_of h'))
theorem Reps.take {ds : List D} {vs : List V} (h : Reps g S H ds vs) (n : Nat) : Reps g S H (ds.take n) (vs.take n) := of_rp (pz_take n (rp_of h))
theorem Reps.drop {ds : List D} {vs : List V} (h : Reps g S H ds vs) (n : Nat) : Reps g S H (ds.drop n) (vs.drop n) := of_rp (pz_drop n (rp_of h))
theorem Reps.set {ds : List D} {vs : List V} (h : Reps g S H ds vs) {i : Nat} {d : D} {v : V} (r : Rep g S H d v) : Reps g S H (ds.set i d) (vs.set i v) := of_rp (pz_set r i (rp_of h))
theorem Reps.reverse {ds : List D} {vs : List V} (h : Reps g S H ds vs) : Reps g S H ds.reverse vs.reverse := of_rp (pz_reverse (rp_of h))
theorem Reps.at {ds : List D} {vs : List V} (h : Reps g S H ds vs) {i : Int} {d : D} (e : atI ds i = some d) : ∃ v, atI vs i = some v ∧ Rep g S H d v := by
  unfold atI at e ⊢
  rw [← h.length]
  cases q : ixN ds.length i with
  | none => rw [q] at e; cases e
  | some j =>
    rw [q] at e
    exact h.get e

/-! ### what a value shows: a cell's content for a cell -/
def vw (S : SS) : D → D
  | .obj a => match S a with
    | some (.lst ds) => .lst ds
    | some (.dic k) => .dic k
    | some (.loc k) => .dic k
    | _ => .obj a
  | d => d
theorem vw_lst {d : D} {ds : List D} {v : V} (hc : CellsOk g S H) (r : Rep g S H d v) (e : vw S d = .lst ds) : ∃ p vs, v = .ref p ∧ SqL g.K H p vs ∧ Reps g S H ds vs := by
  cases d with
  | lst xs =>
    have e' : D.lst xs = .lst ds := e
    cases e'
    simp only [Rep] at r
    obtain ⟨p, vs, e1, a, b⟩ := r
    exact ⟨p, vs, e1, a.sq, b⟩
  | obj a =>
    simp only [Rep] at r
    have e' : (match S a with | some (.lst ds) => D.lst ds | some (.dic k) => .dic k | some (.loc k) => .dic k | _ => .obj a) = .lst ds := e
    cases q : S a with
    | none => rw [q] at e'; cases e'
    | some c =>
      rw [q] at e'
      cases c with
      | lst xs =>
        cases e'
        obtain ⟨vs, h1, h2⟩ := hc a _ q
        exact ⟨a, vs, r, .inl (.inl h1), h2⟩
      | _ => cases e'
  | _ => cases e
theorem vw_tup {d : D} {ds : List D} {v : V} (r : Rep g S H d v) (e : vw S d = .tup ds) : ∃ p vs, v = .ref p ∧ SqT g.K H p vs ∧ Reps g S H ds vs := by
  cases d with
  | tup xs =>
    have e' : D.tup xs = .tup ds := e
    cases e'
    simp only [Rep] at r
    obtain ⟨p, vs, e1, a, b⟩ := r
    exact ⟨p, vs, e1, a.sq, b⟩
  | obj a =>
    have e' : (match S a with | some (.lst ds) => D.lst ds | some (.dic k) => .dic k | some (.loc k) => .dic k | _ => .obj a) = .tup ds := e
    cases q : S a with
    | none => rw [q] at e'; cases e'
    | some c =>
      rw [q] at e'
      cases c <;> cases e'
  | _ => cases e
theorem vw_dic {d : D} {ds : List (Key × D)} {v : V} (hc : CellsOk g S H) (r : Rep g S H d v) (e : vw S d = .dic ds) : ∃ p vs, v = .ref p ∧ Rd H p (.dK vs) ∧ RepK g S H ds vs := by
  cases d with
  | dic xs =>
    have e' : D.dic xs = .dic ds := e
    cases e'
    simp only [Rep] at r
    obtain ⟨p, vs, e1, _, a, b⟩ := r
    exact ⟨p, vs, e1, a, b⟩
  | obj a =>
    simp only [Rep] at r
    have e' : (match S a with | some (.lst ds) => D.lst ds | some (.dic k) => .dic k | some (.loc k) => .dic k | _ => .obj a) = .dic ds := e
    cases q : S a with
    | none => rw [q] at e'; cases e'
    | some c =>
      rw [q] at e'
      cases c with
      | dic xs =>
        cases e'
        obtain ⟨vs, h1, h2⟩ := hc a _ q
        exact ⟨a, vs, r, .inl h1, h2⟩
      | loc xs =>
        cases e'
        obtain ⟨vs, o, h1, h2⟩ := hc a _ q
        exact ⟨a, vs, r, .inr ⟨o, h1⟩, h2⟩
      | _ => cases e'
  | _ => cases e
theorem vw_sc {d x : D} {v : V} (r : Rep g S H d v) (e : vw S d = x) (h : ∀ ds, x ≠ .lst ds) (h2 : ∀ ds, x ≠ .dic ds) : Rep g S H x v := by
  cases d with
  | obj a =>
    have e' : (match S a with | some (.lst ds) => D.lst ds | some (.dic k) => .dic k | some (.loc k) => .dic k | _ => .obj a) = x := e
    cases q : S a with
    | none => rw [q] at e'; subst e'; exact r
    | some c =>
      rw [q] at e'
      cases c with
      | lst xs => subst e'; exact absurd rfl (h _)
      | dic xs => subst e'; exact absurd rfl (h2 _)
      | loc xs => subst e'; exact absurd rfl (h2 _)
      | ins _ _ => subst e'; exact r
  | _ => subst e; exact r

/-- what is to follow, told of values -/
def Res (g : Gd) (S : SS) (H : Hp) (K : DK) (Q : VK) : Prop := ∀ d S' v H', K d S' → Post S H S' H' → CellsOk g S' H' → Rep g S' H' d v → Q v H'
theorem Res.val {K : DK} {Q : VK} {d : D} {v : V} (r : Res g S H K Q) (k : K d S) (hc : CellsOk g S H) (h : Rep g S H d v) : Q v H := r d S v H k (Post.refl _ _) hc h
theorem Res.int {K : DK} {Q : VK} {i : Int} (r : Res g S H K Q) (k : K (.int i) S) (hc : CellsOk g S H) : Q (.int i) H := r.val k hc (by simp only [Rep])
theorem Res.bl {K : DK} {Q : VK} {i : Bool} (r : Res g S H K Q) (k : K (.bl i) S) (hc : CellsOk g S H) : Q (.bl i) H := r.val k hc (by simp only [Rep])
theorem Res.str {K : DK} {Q : VK} {i : Str} (r : Res g S H K Q) (k : K (.str i) S) (hc : CellsOk g S H) : Q (.str i) H := r.val k hc (by simp only [Rep])
theorem Res.non {K : DK} {Q : VK} (r : Res g S H K Q) (k : K .non S) (hc : CellsOk g S H) : Q .non H := r.val k hc (by simp only [Rep])
theorem Res.lst {K : DK} {Q : VK} {ds : List D} {vs : List V} {p : Addr} (r : Res g S H K Q) (k : K (.lst ds) S) (hc : CellsOk g S H) (h : Reps g S H ds vs) (e : H p = none) : Q (.ref p) (upd H p (.lst vs)) :=
  r _ S _ _ k (Post.new e) (hc.new e) (by simp only [Rep]; exact ⟨p, vs, rfl, .inl ⟨hc.free e, .inl upd_same⟩, h.mono (Post.new e)⟩)
theorem Res.tup {K : DK} {Q : VK} {ds : List D} {vs : List V} {p : Addr} (r : Res g S H K Q) (k : K (.tup ds) S) (hc : CellsOk g S H) (h : Reps g S H ds vs) (e : H p = none) : Q (.ref p) (upd H p (.tup vs)) :=
  r _ S _ _ k (Post.new e) (hc.new e) (by simp only [Rep]; exact ⟨p, vs, rfl, .inl ⟨hc.free e, upd_same⟩, h.mono (Post.new e)⟩)
theorem Res.dic {K : DK} {Q : VK} {ds : List (Key × D)} {vs : List (Key × V)} {p : Addr} (r : Res g S H K Q) (k : K (.dic ds) S) (hc : CellsOk g S H) (h : RepK g S H ds vs) (e : H p = none) : Q (.ref p) (upd H p (.dK vs)) :=
  r _ S _ _ k (Post.new e) (hc.new e) (by simp only [Rep]; exact ⟨p, vs, rfl, hc.free e, .inl upd_same, h.mono (Post.new e)⟩)
theorem Res.lstC {K : DK} {Q : VK} {ds : List D} {vs : List V} {p : Addr} (r : Res g S H K Q) (k : ∀ p, S p = none → K (.obj p) (S.set p (.lst ds))) (hc : CellsOk g S H) (h : Reps g S H ds vs) (e : H p = none) : Q (.ref p) (upd H p (.lst vs)) :=
  r _ _ _ _ (k p (hc.free e)) (Post.newC e) (hc.newC e ⟨vs, upd_same, h.mono (Post.newC e)⟩) (by simp only [Rep])
theorem Res.dicC {K : DK} {Q : VK} {ds : List (Key × D)} {vs : List (Key × V)} {p : Addr} (r : Res g S H K Q) (k : ∀ p, S p = none → K (.obj p) (S.set p (.dic ds))) (hc : CellsOk g S H) (h : RepK g S H ds vs) (e : H p = none) : Q (.ref p) (upd H p (.dK vs)) :=
  r _ _ _ _ (k p (hc.free e)) (Post.newC e) (hc.newC e ⟨vs, upd_same, h.mono (Post.newC e)⟩) (by simp only [Rep])

/-- the operators' readings -/
def rD2 (g : Gd) (t : D → D → SS → DK → Prop) : R2 := fun v u H Q => ∃ x y S K, CellsOk g S H ∧ Rep g S H x v ∧ Rep g S H y u ∧ t x y S K ∧ Res g S H K Q
def rDu (g : Gd) (t : D → SS → DK → Prop) : V → Hp → VK → Prop := fun v H Q => ∃ x S K, CellsOk g S H ∧ Rep g S H x v ∧ t x S K ∧ Res g S H K Q
def rDc (g : Gd) (t : List D → SS → DK → Prop) : List V → Hp → VK → Prop := fun vs H Q => ∃ xs S K, CellsOk g S H ∧ Reps g S H xs vs ∧ t xs S K ∧ Res g S H K Q
def rDm (g : Gd) (t : D → List D → SS → DK → Prop) : V → List V → Hp → VK → Prop := fun v vs H Q => ∃ x xs S K, CellsOk g S H ∧ Rep g S H x v ∧ Reps g S H xs vs ∧ t x xs S K ∧ Res g S H K Q
end

/-! ### + - * // % ** -/
def opAdd (x y : D) (S : SS) (Q : DK) : Prop := match vw S x, vw S y with
  | .int i, .int j => Q (.int (i + j)) S
  | .str a, .str b => a.length + b.length ≤ sizeLine ∧ Q (.str (a ++ b)) S
  | .lst a, .lst b => a.length + b.length ≤ sizeLine ∧ Q (.lst (a ++ b)) S
  | .tup a, .tup b => a.length + b.length ≤ sizeLine ∧ Q (.tup (a ++ b)) S
  | _, _ => False
def opSub (x y : D) (S : SS) (Q : DK) : Prop := match x, y with
  | .int i, .int j => Q (.int (i - j)) S
  | _, _ => False
def opMul (x y : D) (S : SS) (Q : DK) : Prop := match x, y with
  | .int i, .int j => (CMul i j ∨ CMulW i j) ∧ Q (.int (i * j)) S
  | _, _ => False
def opDiv (x y : D) (S : SS) (Q : DK) : Prop := match x, y with
  | .int i, .int j => CDivW i j ∧ Q (.int (i / j)) S
  | _, _ => False
def opMod (x y : D) (S : SS) (Q : DK) : Prop := match x, y with
  | .int i, .int j => 0 < j ∧ Q (.int (i % j)) S
  | _, _ => False
def opPow (x y : D) (S : SS) (Q : DK) : Prop := match x, y with
  | .int i, .int j => CPow i j ∧ Q (.int (i ^ j.toNat)) S
  | _, _ => False
def opD : Operator → D → D → SS → DK → Prop
  | .Add => opAdd | .Sub => opSub | .Mult => opMul | .FloorDiv => opDiv | .Mod => opMod | .Pow => opPow | _ => fun _ _ _ _ => False
section
variable {X : Cx} {g : Gd}
theorem op_catS : OpR X (binaryOp .Add) (fun x y H Q => ∃ l b xs zs, x = .ref l ∧ y = .ref b ∧ SqL X.K H l xs ∧ SqL X.K H b zs ∧ xs.length + zs.length ≤ sizeLine ∧ ∀ p, H p = none → Q (.ref p) (upd H p (.lst (xs ++ zs)))) := by
  intro pins s σ H x y v u Q I rx ry h
  obtain ⟨l, b, xs, zs, rfl, rfl, hl, hb, hz, q⟩ := h
  cases rx
  cases ry
  obtain ⟨its, r1, p1, z1⟩ := I.list hl
  obtain ⟨its2, r2, p2, z2⟩ := I.list hb
  obtain ⟨⟨cls, dd, data, sl⟩, n, ho, hc, hdd, hd⟩ := p1
  obtain ⟨⟨cls2, dd2, data2, sl2⟩, n2, ho2, hc2, hdd2, hd2⟩ := p2
  simp only at hc hd hc2 hd2
  subst hc hd hc2 hd2
  have e1 := r1.length
  have e2 := r2.length
  have e : its.toArray ++ its2.toArray = (its ++ its2).toArray := by simp
  refine PySem.concat_meets ⟨_, ho, rfl⟩ ⟨_, ho2, rfl⟩ PySem.noFill_list_add PySem.seq_list_add PySem.F.slot_list_add PySem.F.entry_list_add (PySem.F.args_list_add_2 _ _) (list_addW l b its.toArray its2.toArray n n2 dd dd2 sl sl2 (by simpa [← e1, ← e2] using hz)) ⟨ho, ho2, ?_⟩
  rw [e]
  exact ⟨.ref _, _, I.lnew (t' := s.toks) (r1.append r2) (by rw [List.length_append]; omega), rfl, q _ I.fresh⟩

theorem rep_int {S : SS} {H : Hp} {i : Int} {v : V} (h : Rep g S H (.int i) v) : v = .int i := by simpa only [Rep] using h
theorem rep_bl {S : SS} {H : Hp} {i : Bool} {v : V} (h : Rep g S H (.bl i) v) : v = .bl i := by simpa only [Rep] using h
theorem rep_str {S : SS} {H : Hp} {i : Str} {v : V} (h : Rep g S H (.str i) v) : v = .str i := by simpa only [Rep] using h
theorem rep_non {S : SS} {H : Hp} {v : V} (h : Rep g S H .non v) : v = .non := by simpa only [Rep] using h
theorem rep_obj {S : SS} {H : Hp} {a : Addr} {v : V} (h : Rep g S H (.obj a) v) : v = .ref a := by simpa only [Rep] using h
theorem vw_int {S : SS} {H : Hp} {d : D} {i : Int} {v : V} (r : Rep g S H d v) (e : vw S d = .int i) : v = .int i := rep_int (vw_sc r e (fun _ z => nomatch z) (fun _ z => nomatch z))
theorem vw_bl {S : SS} {H : Hp} {d : D} {i : Bool} {v : V} (r : Rep g S H d v) (e : vw S d = .bl i) : v = .bl i := rep_bl (vw_sc r e (fun _ z => nomatch z) (fun _ z => nomatch z))
theorem vw_str {S : SS} {H : Hp} {d : D} {i : Str} {v : V} (r : Rep g S H d v) (e : vw S d = .str i) : v = .str i := rep_str (vw_sc r e (fun _ z => nomatch z) (fun _ z => nomatch z))
theorem vw_non {S : SS} {H : Hp} {d : D} {v : V} (r : Rep g S H d v) (e : vw S d = .non) : v = .non := rep_non (vw_sc r e (fun _ z => nomatch z) (fun _ z => nomatch z))

theorem opD_ok (hK : g.K = X.K) : ∀ op : Operator, OpR X (binaryOp op) (rD2 g (opD op)) := by
  intro op pins s σ H v1 v2 u1 u2 Q I r1 r2 h
  obtain ⟨x, y, S, K, hc, p1, p2, ht, res⟩ := h
  cases op with
  | Add =>
    change opAdd x y S K at ht
    unfold opAdd at ht
    split at ht
    · rename_i i j e1 e2
      cases vw_int p1 e1
      cases vw_int p2 e2
      exact op_add pins s σ H _ _ _ _ Q I r1 r2 ⟨i, j, rfl, rfl, res.int ht hc⟩
    · rename_i i j e1 e2
      cases vw_str p1 e1
      cases vw_str p2 e2
      exact op_add_str pins s σ H _ _ _ _ Q I r1 r2 ⟨i, j, rfl, rfl, ht.1, res.str ht.2 hc⟩
    · rename_i i j e1 e2
      obtain ⟨p, vs, rfl, hl, hr⟩ := vw_lst hc p1 e1
      obtain ⟨q, us, rfl, hl2, hr2⟩ := vw_lst hc p2 e2
      rw [hK] at hl hl2
      exact op_catS pins s σ H _ _ _ _ Q I r1 r2 ⟨p, q, vs, us, rfl, rfl, hl, hl2, by rw [← hr.length, ← hr2.length]; exact ht.1, fun z hz => res.lst ht.2 hc (hr.append hr2) hz⟩
    · rename_i i j e1 e2
      obtain ⟨p, vs, rfl, hl, hr⟩ := vw_tup p1 e1
      obtain ⟨q, us, rfl, hl2, hr2⟩ := vw_tup p2 e2
      have hl' := hl
      have hl2' := hl2
      rw [hK] at hl hl2
      have f1 : vw S x = x := by
        cases x with
        | tup _ => rfl
        | obj a =>
          have e' : (match S a with | some (.lst ds) => D.lst ds | some (.dic k) => .dic k | some (.loc k) => .dic k | _ => .obj a) = .tup i := e1
          cases q : S a with
          | none => rw [q] at e'; cases e'
          | some c => rw [q] at e'; cases c <;> cases e'
        | _ => cases e1
      have f2 : vw S y = y := by
        cases y with
        | tup _ => rfl
        | obj a =>
          have e' : (match S a with | some (.lst ds) => D.lst ds | some (.dic k) => .dic k | some (.loc k) => .dic k | _ => .obj a) = .tup j := e2
          cases q : S a with
          | none => rw [q] at e'; cases e'
          | some c => rw [q] at e'; cases c <;> cases e'
        | _ => cases e2
      have g1 : x = .tup i := f1.symm.trans e1
      have g2 : y = .tup j := f2.symm.trans e2
      subst g1 g2
      refine op_catA pins s σ H _ _ _ _ Q I r1 r2 ⟨p, q, vs, us, rfl, rfl, hl, hl2, by rw [← hr.length, ← hr2.length]; exact ht.1, fun z => ?_, fun _ z => ?_, fun _ _ a ha => res.tup ht.2 hc (hr.append hr2) ha⟩
      · have hi : i = [] := by
          have e := hr.length
          rw [z] at e
          exact List.eq_nil_of_length_eq_zero e
        refine res.val (d := .tup (i ++ j)) ht.2 hc ?_
        rw [hi]
        exact p2
      · have hi : j = [] := by
          have e := hr2.length
          rw [z] at e
          exact List.eq_nil_of_length_eq_zero e
        refine res.val (d := .tup (i ++ j)) ht.2 hc ?_
        rw [hi, List.append_nil]
        exact p1
    · exact ht.elim
  | Sub =>
    change opSub x y S K at ht
    unfold opSub at ht
    split at ht
    · rename_i i j
      cases rep_int p1
      cases rep_int p2
      exact op_sub pins s σ H _ _ _ _ Q I r1 r2 ⟨i, j, rfl, rfl, res.int ht hc⟩
    · exact ht.elim
  | Mult =>
    change opMul x y S K at ht
    unfold opMul at ht
    split at ht
    · rename_i i j
      cases rep_int p1
      cases rep_int p2
      rcases ht.1 with hm | hm
      · exact op_mul pins s σ H _ _ _ _ Q I r1 r2 ⟨i, j, rfl, rfl, hm, res.int ht.2 hc⟩
      · exact op_mulW pins s σ H _ _ _ _ Q I r1 r2 ⟨i, j, rfl, rfl, hm, res.int ht.2 hc⟩
    · exact ht.elim
  | FloorDiv =>
    change opDiv x y S K at ht
    unfold opDiv at ht
    split at ht
    · rename_i i j
      cases rep_int p1
      cases rep_int p2
      exact op_fdivW pins s σ H _ _ _ _ Q I r1 r2 ⟨i, j, rfl, rfl, ht.1, res.int ht.2 hc⟩
    · exact ht.elim
  | Mod =>
    change opMod x y S K at ht
    unfold opMod at ht
    split at ht
    · rename_i i j
      cases rep_int p1
      cases rep_int p2
      exact op_mod pins s σ H _ _ _ _ Q I r1 r2 ⟨i, j, rfl, rfl, ht.1, res.int ht.2 hc⟩
    · exact ht.elim
  | Pow =>
    change opPow x y S K at ht
    unfold opPow at ht
    split at ht
    · rename_i i j
      cases rep_int p1
      cases rep_int p2
      exact op_pow pins s σ H _ _ _ _ Q I r1 r2 ⟨i, j, rfl, rfl, ht.1, res.int ht.2 hc⟩
    · exact ht.elim
  | _ => exact False.elim ht
end

/-! ### == -/
mutual
def D.py : D → PyData
  | .non => .none | .bl b => .bool b | .int i => .int i | .str x => .str x
  | .lst xs => .list (D.pys xs) | .tup xs => .tuple (D.pys xs)
  | _ => .none
def D.pys : List D → List PyData
  | [] => [] | d :: ds => D.py d :: D.pys ds
end
/-! data that == tells apart, at most n deep -/
mutual
def D.okd : Nat → D → Bool
  | _, .non => true | _, .bl _ => true | _, .int _ => true | _, .str x => PyData.strOk x
  | n, .lst xs => decide (0 < n) && D.okds (n - 1) xs
  | n, .tup xs => decide (0 < n) && D.okds (n - 1) xs
  | _, _ => false
def D.okds : Nat → List D → Bool
  | _, [] => true | n, d :: ds => D.okd n d && D.okds n ds
end
mutual
theorem okd_lay : ∀ (d : D) (n : Nat), D.okd n d = true → d.py.canLay0 = true ∧ d.py.depth ≤ n
  | .non, n, _ => by simp [D.py, PyData.canLay0, PyData.depth]
  | .bl _, n, _ => by simp [D.py, PyData.canLay0, PyData.depth]
  | .int _, n, _ => by simp [D.py, PyData.canLay0, PyData.depth]
  | .str _, n, h => by simpa [D.py, PyData.canLay0, PyData.depth, D.okd] using h
  | .lst xs, n, h => by
    simp only [D.okd, Bool.and_eq_true, decide_eq_true_eq] at h
    have q := okds_lay xs (n - 1) h.2
    simp only [D.py, PyData.canLay0, PyData.depth]
    exact ⟨q.1, by omega⟩
  | .tup xs, n, h => by
    simp only [D.okd, Bool.and_eq_true, decide_eq_true_eq] at h
    have q := okds_lay xs (n - 1) h.2
    simp only [D.py, PyData.canLay0, PyData.depth]
    exact ⟨q.1, by omega⟩
  | .dic _, n, h => by simp [D.okd] at h
  | .obj _, n, h => by simp [D.okd] at h
  | .exc _ _ _ _, n, h => by simp [D.okd] at h
theorem okds_lay : ∀ (ds : List D) (n : Nat), D.okds n ds = true → PyData.canLayAll0 (D.pys ds) = true ∧ PyData.depthAll (D.pys ds) ≤ n
  | [], n, _ => by simp [D.pys, PyData.canLayAll0, PyData.depthAll]
  | d :: ds, n, h => by
    simp only [D.okds, Bool.and_eq_true] at h
    have q := okd_lay d n h.1
    have q2 := okds_lay ds n h.2
    simp only [D.pys, PyData.canLayAll0, PyData.depthAll, Bool.and_eq_true]
    exact ⟨⟨q.1, q2.1⟩, by omega⟩
end
section
variable {X : Cx} {g : Gd} {S : SS} {H : Hp}
mutual
theorem dp_of : ∀ {d : D} {v : V} (n : Nat), D.okd n d = true → Rep g S H d v → Dp g.K H v d.py
  | .non, _, n, _, r => by simp only [Rep] at r; subst r; exact .non
  | .bl _, _, n, _, r => by simp only [Rep] at r; subst r; exact .bl _
  | .int _, _, n, _, r => by simp only [Rep] at r; subst r; exact .int _
  | .str _, _, n, _, r => by simp only [Rep] at r; subst r; exact .str _
  | .lst xs, _, n, h, r => by
    simp only [D.okd, Bool.and_eq_true] at h
    simp only [Rep] at r
    obtain ⟨p, vs, rfl, a, b⟩ := r
    exact .lst a.sq (dps_of (n - 1) h.2 b)
  | .tup xs, _, n, h, r => by
    simp only [D.okd, Bool.and_eq_true] at h
    simp only [Rep] at r
    obtain ⟨p, vs, rfl, a, b⟩ := r
    exact .tup a.sq (dps_of (n - 1) h.2 b)
  | .dic _, _, n, h, _ => by simp [D.okd] at h
  | .obj _, _, n, h, _ => by simp [D.okd] at h
  | .exc _ _ _ _, _, n, h, _ => by simp [D.okd] at h
theorem dps_of : ∀ {ds : List D} {vs : List V} (n : Nat), D.okds n ds = true → Reps g S H ds vs → DpAll g.K H vs (D.pys ds)
  | [], _, n, _, r => by simp only [Reps] at r; subst r; exact .nil
  | d :: ds, _, n, h, r => by
    simp only [D.okds, Bool.and_eq_true] at h
    simp only [Reps] at r
    obtain ⟨v, q, rfl, a, b⟩ := r
    exact .cons (dp_of n h.1 a) (dps_of n h.2 b)
end
theorem dp_vw {d x : D} {v : V} (hc : CellsOk g S H) (r : Rep g S H d v) (e : vw S d = x) (h : D.okd 60 x = true) : Dp g.K H v x.py := by
  cases x with
  | lst ds =>
    obtain ⟨p, vs, rfl, hl, hr⟩ := vw_lst hc r e
    simp only [D.okd, Bool.and_eq_true] at h
    exact .lst hl (dps_of _ h.2 hr)
  | tup ds =>
    obtain ⟨p, vs, rfl, hl, hr⟩ := vw_tup r e
    simp only [D.okd, Bool.and_eq_true] at h
    exact .tup hl (dps_of _ h.2 hr)
  | dic ds => simp [D.okd] at h
  | obj a => simp [D.okd] at h
  | exc _ _ _ _ => simp [D.okd] at h
  | non => exact dp_of 60 h (vw_sc r e (fun _ z => nomatch z) (fun _ z => nomatch z))
  | bl _ => exact dp_of 60 h (vw_sc r e (fun _ z => nomatch z) (fun _ z => nomatch z))
  | int _ => exact dp_of 60 h (vw_sc r e (fun _ z => nomatch z) (fun _ z => nomatch z))
  | str _ => exact dp_of 60 h (vw_sc r e (fun _ z => nomatch z) (fun _ z => nomatch z))
theorem shaped_of {d : D} (h : D.okd 60 d = true) : SeqAt.shaped d.py = true := by
  have q := okd_lay d 60 h
  unfold SeqAt.shaped
  rw [q.1, decide_eq_true (by omega : d.py.depth ≤ 64)]
  rfl
end
def D.eqv (x y : D) : Bool := PyData.eqv x.py y.py

/-! ### comparisons -/
def cEq (neg : Bool) (x y : D) (S : SS) (Q : DK) : Prop := D.okd 60 (vw S x) = true ∧ D.okd 60 (vw S y) = true ∧ Q (.bl (neg ^^ D.eqv (vw S x) (vw S y))) S
def cLt (f : Int → Int → Bool) (h : List Nat → List Nat → Bool) (x y : D) (S : SS) (Q : DK) : Prop := match x, y with
  | .int i, .int j => Q (.bl (f i j)) S
  | .str a, .str b => Q (.bl (h a.cps.toList b.cps.toList)) S
  | _, _ => False
def keyD : D → Option Key
  | .int i => some (.inl i) | .str x => some (.inr x) | _ => none
def valD (kvs : List (Key × D)) (k : Key) : Option D := (kvs.find? fun kv => decide (kv.1 = k)).map (·.2)
def putD (kvs : List (Key × D)) (k : Key) (v : D) : List (Key × D) :=
  if (kvs.any fun kv => decide (kv.1 = k)) = true then kvs.map fun kv => if kv.1 = k then (kv.1, v) else kv else kvs ++ [(k, v)]
def dropD (kvs : List (Key × D)) (k : Key) : List (Key × D) := kvs.filter fun kv => decide (kv.1 ≠ k)
def cIn (neg : Bool) (x y : D) (S : SS) (Q : DK) : Prop := match vw S y with
  | .lst ds => D.okd 60 (vw S x) = true ∧ D.okds 59 ds = true ∧ Q (.bl (neg ^^ ds.any fun z => D.eqv z (vw S x))) S
  | .tup ds => (∃ z, x = .str z ∧ ∃ zs : List Str, ds = zs.map D.str ∧ Q (.bl (neg ^^ zs.any fun y => y == z)) S) ∨ (∃ z, x = .int z ∧ ∃ zs : List Int, ds = zs.map D.int ∧ Q (.bl (neg ^^ zs.any fun y => y == z)) S)
  | .str b => match x with
    | .str a => a.length = 1 ∧ Q (.bl (neg ^^ decide (a.cps.getD 0 0 ∈ b.cps.toList))) S
    | _ => False
  | .dic kvs => ∃ k, keyD x = some k ∧ Q (.bl (neg ^^ (valD kvs k).isSome)) S
  | _ => False
def isNon : D → Bool
  | .non => true | _ => false
def cIs (neg : Bool) (x y : D) (S : SS) (Q : DK) : Prop := match y with
  | .non => Q (.bl (neg ^^ isNon x)) S
  | _ => False
def cmpD : CmpOp → D → D → SS → DK → Prop
  | .Eq => cEq false | .NotEq => cEq true
  | .Lt => cLt (fun i j => decide (i < j)) (fun a b => decide (a < b)) | .LtE => cLt (fun i j => decide (i ≤ j)) (fun a b => !decide (b < a))
  | .Gt => cLt (fun i j => decide (j < i)) (fun a b => decide (b < a)) | .GtE => cLt (fun i j => decide (j ≤ i)) (fun a b => !decide (a < b))
  | .In => cIn false | .NotIn => cIn true | .Is => cIs false | .IsNot => cIs true
section
variable {X : Cx} {g : Gd} {S : SS} {H : Hp}
theorem valK_of {ds : List (Key × D)} {vs : List (Key × V)} (h : RepK g S H ds vs) (k : Key) : (valD ds k = none ∧ valV vs k = none) ∨ ∃ d v, valD ds k = some d ∧ valV vs k = some v ∧ Rep g S H d v := by
  have q := rpk_of h
  clear h
  induction q with
  | nil => exact .inl ⟨rfl, rfl⟩
  | @cons x y l l2 r _ ih =>
    obtain ⟨k1, d1⟩ := x
    obtain ⟨k2, v2⟩ := y
    obtain ⟨e, r⟩ := r
    cases e
    by_cases z : k1 = k
    · refine .inr ⟨d1, v2, ?_, valV_pos z, r⟩
      simp [valD, List.find?_cons, z]
    · have e1 : valD ((k1, d1) :: l) k = valD l k := by simp [valD, List.find?_cons, z]
      rw [e1, valV_neg z]
      exact ih
theorem valK_some {ds : List (Key × D)} {vs : List (Key × V)} (h : RepK g S H ds vs) (k : Key) : (valV vs k).isSome = (valD ds k).isSome := by
  rcases valK_of h k with ⟨a, b⟩ | ⟨d, v, a, b, _⟩ <;> rw [a, b] <;> rfl
theorem putK_of {ds : List (Key × D)} {vs : List (Key × V)} (h : RepK g S H ds vs) (k : Key) {d : D} {v : V} (r : Rep g S H d v) : RepK g S H (putD ds k d) (putK vs k v) := by
  have q := rpk_of h
  refine of_rpk ?_
  have ea : (ds.any fun kv => decide (kv.1 = k)) = (vs.any fun kv => decide (kv.1 = k)) := by
    clear h
    induction q with
    | nil => rfl
    | cons r _ ih => rw [List.any_cons, List.any_cons, ih, r.1]
  unfold putD putK
  rw [ea]
  split
  · rename_i hz
    clear h ea hz
    induction q with
    | nil => exact .nil
    | @cons x y l l2 r1 _ ih =>
      rw [List.map_cons, List.map_cons]
      refine .cons ?_ ih
      obtain ⟨k1, d1⟩ := x
      obtain ⟨k2, v2⟩ := y
      obtain ⟨e, r1⟩ := r1
      cases e
      dsimp only
      split <;> rename_i z
      · exact ⟨rfl, r⟩
      · exact ⟨rfl, r1⟩
  · exact pz_append q (.cons ⟨rfl, r⟩ .nil)
end
end Sv

/-! Sv3: comparisons, subscripts, len on values. -/
namespace Sv
open PySem PySem.Spec PyProof.Rows L2
def flatD : D → Bool
  | .non => true | .bl _ => true | .int _ => true | .str _ => true | _ => false
section
variable {X : Cx} {g : Gd} {S : SS} {H : Hp}
theorem rep_flat {d : D} {v : V} (h : flatD d = true) (r : Rep g S H d v) : flatV v = true := by
  cases d <;> simp only [Rep] at r <;> first | (subst r; rfl) | cases h
theorem rep_flats : ∀ {ds : List D} {vs : List V}, ds.all flatD = true → Reps g S H ds vs → vs.all flatV = true
  | [], _, _, r => by simp only [Reps] at r; subst r; rfl
  | d :: ds, _, h, r => by
    simp only [Reps] at r
    obtain ⟨v, q, rfl, a, b⟩ := r
    rw [List.all_cons, Bool.and_eq_true] at h
    rw [List.all_cons, rep_flat h.1 a, rep_flats h.2 b]; rfl
theorem eqV_rep {d e : D} {v u : V} (h : flatD d = true) (h2 : flatD e = true) (r : Rep g S H d v) (r2 : Rep g S H e u) : eqV v u = D.eqv d e := by
  cases d <;> (first | (cases h; done) | skip) <;> cases e <;> (first | (cases h2; done) | skip) <;> simp only [Rep] at r r2 <;> subst r r2 <;> simp [eqV, D.eqv, D.py, PyData.eqv]
theorem inV_rep {x : D} {u : V} (h : flatD x = true) (rx : Rep g S H x u) : ∀ {ds : List D} {vs : List V}, ds.all flatD = true → Reps g S H ds vs → inV u vs = ds.any fun z => D.eqv z x
  | [], _, _, r => by simp only [Reps] at r; subst r; rfl
  | d :: ds, _, hd, r => by
    simp only [Reps] at r
    obtain ⟨v, q, rfl, a, b⟩ := r
    rw [List.all_cons, Bool.and_eq_true] at hd
    have ih := inV_rep h rx hd.2 b
    unfold inV at ih ⊢
    rw [List.any_cons, List.any_cons, ih, eqV_rep hd.1 h a rx]
theorem isNon_rep {d : D} {v : V} (r : Rep g S H d v) : decide (v = .non) = isNon d := by
  cases d with
  | non => simp only [Rep] at r; subst r; rfl
  | bl _ => simp only [Rep] at r; subst r; rfl
  | int _ => simp only [Rep] at r; subst r; rfl
  | str _ => simp only [Rep] at r; subst r; rfl
  | obj _ => simp only [Rep] at r; subst r; rfl
  | lst _ => simp only [Rep] at r; obtain ⟨_, _, rfl, _⟩ := r; rfl
  | tup _ => simp only [Rep] at r; obtain ⟨_, _, rfl, _⟩ := r; rfl
  | dic _ => simp only [Rep] at r; obtain ⟨_, _, rfl, _⟩ := r; rfl
  | exc _ _ _ _ => simp only [Rep] at r; obtain ⟨_, rfl, _⟩ := r; rfl
theorem rep_key {d : D} {k : Key} {v : V} (e : keyD d = some k) (r : Rep g S H d v) : v = kV k := by
  cases d <;> first | (cases e; done) | skip
  · simp only [Rep] at r; cases e; exact r
  · simp only [Rep] at r; cases e; exact r
theorem vw_tupE {d : D} {ds : List D} (e : vw S d = .tup ds) : d = .tup ds := by
  cases d with
  | tup _ => exact e
  | obj a =>
    have e' : (match S a with | some (.lst ds) => D.lst ds | some (.dic k) => .dic k | some (.loc k) => .dic k | _ => .obj a) = .tup ds := e
    cases q : S a with
    | none => rw [q] at e'; cases e'
    | some c => rw [q] at e'; cases c <;> cases e'
  | _ => cases e
end
def cIn2 (neg : Bool) (x y : D) (S : SS) (Q : DK) : Prop := match vw S y with
  | .lst ds => D.okd 60 (vw S x) = true ∧ D.okds 59 ds = true ∧ Q (.bl (neg ^^ ds.any fun z => D.eqv z (vw S x))) S
  | .tup ds => flatD x = true ∧ ds.all flatD = true ∧ Q (.bl (neg ^^ ds.any fun z => D.eqv z x)) S
  | .str b => match x with
    | .str a => ∃ c, a = ⟨#[c]⟩ ∧ Q (.bl (neg ^^ decide (c ∈ b.cps.toList))) S
    | _ => False
  | .dic kvs => ∃ k, keyD x = some k ∧ Q (.bl (neg ^^ (valD kvs k).isSome)) S
  | _ => False
def cmpE : CmpOp → D → D → SS → DK → Prop
  | .In => cIn2 false | .NotIn => cIn2 true | o => cmpD o
section
variable {X : Cx} {g : Gd}
theorem cLt_ok {op : CmpOp} {f : Int → Int → Bool} {h : List Nat → List Nat → Bool} (hi : OpR X (compareOp op) (rI0 fun i j => .bl (f i j)))
    (hs : OpR X (compareOp op) (fun x y H Q => ∃ i j, x = .str i ∧ y = .str j ∧ Q (.bl (h i.cps.toList j.cps.toList)) H)) : OpR X (compareOp op) (rD2 g (cLt f h)) := by
  intro pins s σ H v1 v2 u1 u2 Q I r1 r2 hh
  obtain ⟨x, y, S, K, hc, p1, p2, ht, res⟩ := hh
  unfold cLt at ht
  split at ht
  · cases rep_int p1
    cases rep_int p2
    exact hi pins s σ H _ _ _ _ Q I r1 r2 ⟨_, _, rfl, rfl, res.bl ht hc⟩
  · cases rep_str p1
    cases rep_str p2
    exact hs pins s σ H _ _ _ _ Q I r1 r2 ⟨_, _, rfl, rfl, res.bl ht hc⟩
  · exact ht.elim
theorem cmpE_ok (hK : g.K = X.K) (hu : X.A.units + 65 < cLine) : ∀ op : CmpOp, OpR X (compareOp op) (rD2 g (cmpE op)) := by
  intro op
  cases op with
  | Eq =>
    intro pins s σ H v1 v2 u1 u2 Q I r1 r2 ⟨x, y, S, K, hc, p1, p2, ⟨o1, o2, k⟩, res⟩
    rw [Bool.false_xor] at k
    exact op_eqD (by omega) pins s σ H _ _ _ _ Q I r1 r2 ⟨_, _, hK ▸ dp_vw hc p1 rfl o1, hK ▸ dp_vw hc p2 rfl o2, shaped_of o1, shaped_of o2, res.bl k hc⟩
  | NotEq =>
    intro pins s σ H v1 v2 u1 u2 Q I r1 r2 ⟨x, y, S, K, hc, p1, p2, ⟨o1, o2, k⟩, res⟩
    rw [Bool.true_xor] at k
    exact op_neD (by omega) pins s σ H _ _ _ _ Q I r1 r2 ⟨_, _, hK ▸ dp_vw hc p1 rfl o1, hK ▸ dp_vw hc p2 rfl o2, shaped_of o1, shaped_of o2, res.bl k hc⟩
  | Lt => exact cLt_ok (f := fun i j => decide (i < j)) (h := fun a b => decide (a < b)) op_lt op_lt_str
  | LtE => exact cLt_ok (f := fun i j => decide (i ≤ j)) (h := fun a b => !decide (b < a)) op_le op_le_str
  | Gt => exact cLt_ok (f := fun i j => decide (j < i)) (h := fun a b => decide (b < a)) op_gt op_gt_str
  | GtE => exact cLt_ok (f := fun i j => decide (j ≤ i)) (h := fun a b => !decide (a < b)) op_ge op_ge_str
  | Is =>
    intro pins s σ H v1 v2 u1 u2 Q I r1 r2 ⟨x, y, S, K, hc, p1, p2, ht, res⟩
    change cIs false x y S K at ht
    unfold cIs at ht
    split at ht
    · cases rep_non p2
      rw [Bool.false_xor] at ht
      exact op_isN pins s σ H _ _ _ _ Q I r1 r2 ⟨rfl, by rw [isNon_rep p1]; exact res.bl ht hc⟩
    · exact ht.elim
  | IsNot =>
    intro pins s σ H v1 v2 u1 u2 Q I r1 r2 ⟨x, y, S, K, hc, p1, p2, ht, res⟩
    change cIs true x y S K at ht
    unfold cIs at ht
    split at ht
    · cases rep_non p2
      rw [Bool.true_xor] at ht
      exact op_notN pins s σ H _ _ _ _ Q I r1 r2 ⟨rfl, by rw [isNon_rep p1]; exact res.bl ht hc⟩
    · exact ht.elim
  | In =>
    intro pins s σ H v1 v2 u1 u2 Q I r1 r2 ⟨x, y, S, K, hc, p1, p2, ht, res⟩
    change cIn2 false x y S K at ht
    unfold cIn2 at ht
    split at ht
    · rename_i ds e
      obtain ⟨o1, o2, k⟩ := ht
      rw [Bool.false_xor] at k
      have o3 : D.okd 60 (.lst ds) = true := by simp only [D.okd, Bool.and_eq_true]; exact ⟨rfl, o2⟩
      have w : ((D.pys ds).any fun z => PyData.eqv z (vw S x).py) = ds.any fun z => D.eqv z (vw S x) := by
        clear e o2 k o3
        induction ds with
        | nil => rfl
        | cons a l ih => rw [D.pys, List.any_cons, List.any_cons, ih]; rfl
      exact op_inD hu pins s σ H _ _ _ _ Q I r1 r2 ⟨(vw S x).py, D.pys ds, hK ▸ dp_vw hc p1 rfl o1, hK ▸ dp_vw hc p2 e o3, shaped_of o1, shaped_of o3, by rw [w]; exact res.bl k hc⟩
    · rename_i ds e
      obtain ⟨f1, f2, k⟩ := ht
      obtain ⟨p, vs, rfl, hl, hr⟩ := vw_tup p2 e
      rw [hK] at hl
      rw [Bool.false_xor] at k
      exact op_in_seq pins s σ H _ _ _ _ Q I r1 r2 ⟨p, vs, rfl, .inr hl, rep_flat f1 p1, rep_flats f2 hr, by rw [inV_rep f1 p1 f2 hr]; exact res.bl k hc⟩
    · rename_i b e
      cases vw_str p2 e
      split at ht
      · obtain ⟨c, rfl, k⟩ := ht
        cases rep_str p1
        rw [Bool.false_xor] at k
        exact op_in_sign pins s σ H _ _ _ _ Q I r1 r2 ⟨c, b, rfl, rfl, res.bl k hc⟩
      · exact ht.elim
    · rename_i kvs e
      obtain ⟨k, ek, q⟩ := ht
      obtain ⟨p, vs, rfl, hl, hr⟩ := vw_dic hc p2 e
      cases rep_key ek p1
      cases (show u2 = Value.ref p from r2)
      rw [Bool.false_xor] at q
      exact d_in (by omega) I (.inl ⟨vs, k, hl, rfl, rfl⟩) r1 fun s' I' => ⟨.bl _, H, I', rfl, by rw [valK_some hr]; exact res.bl q hc⟩
    · exact ht.elim
  | NotIn =>
    intro pins s σ H v1 v2 u1 u2 Q I r1 r2 ⟨x, y, S, K, hc, p1, p2, ht, res⟩
    change cIn2 true x y S K at ht
    unfold cIn2 at ht
    split at ht
    · rename_i ds e
      obtain ⟨o1, o2, k⟩ := ht
      rw [Bool.true_xor] at k
      have o3 : D.okd 60 (.lst ds) = true := by simp only [D.okd, Bool.and_eq_true]; exact ⟨rfl, o2⟩
      have w : ((D.pys ds).any fun z => PyData.eqv z (vw S x).py) = ds.any fun z => D.eqv z (vw S x) := by
        clear e o2 k o3
        induction ds with
        | nil => rfl
        | cons a l ih => rw [D.pys, List.any_cons, List.any_cons, ih]; rfl
      exact op_notInD hu pins s σ H _ _ _ _ Q I r1 r2 ⟨(vw S x).py, D.pys ds, hK ▸ dp_vw hc p1 rfl o1, hK ▸ dp_vw hc p2 e o3, shaped_of o1, shaped_of o3, by rw [w]; exact res.bl k hc⟩
    · rename_i ds e
      obtain ⟨f1, f2, k⟩ := ht
      obtain ⟨p, vs, rfl, hl, hr⟩ := vw_tup p2 e
      rw [hK] at hl
      rw [Bool.true_xor] at k
      exact op_notIn_seq pins s σ H _ _ _ _ Q I r1 r2 ⟨p, vs, rfl, .inr hl, rep_flat f1 p1, rep_flats f2 hr, by rw [inV_rep f1 p1 f2 hr]; exact res.bl k hc⟩
    · rename_i b e
      cases vw_str p2 e
      split at ht
      · obtain ⟨c, rfl, k⟩ := ht
        cases rep_str p1
        rw [Bool.true_xor] at k
        exact op_notIn_sign pins s σ H _ _ _ _ Q I r1 r2 ⟨c, b, rfl, rfl, res.bl k hc⟩
      · exact ht.elim
    · rename_i kvs e
      obtain ⟨k, ek, q⟩ := ht
      obtain ⟨p, vs, rfl, hl, hr⟩ := vw_dic hc p2 e
      cases rep_key ek p1
      cases (show u2 = Value.ref p from r2)
      rw [Bool.true_xor] at q
      exact d_notIn (by omega) I (.inl ⟨vs, k, hl, rfl, rfl⟩) r1 fun s' I' => ⟨.bl _, H, I', rfl, by rw [valK_some hr]; exact res.bl q hc⟩
    · exact ht.elim
end

/-! ### subscripts -/
def ixD (x y : D) (S : SS) (Q : DK) : Prop := match vw S x with
  | .lst ds => match y with
    | .int i => ∃ d, atI ds i = some d ∧ Q d S
    | _ => False
  | .tup ds => match y with
    | .int i => ∃ d, atI ds i = some d ∧ Q d S
    | _ => False
  | .str z => match y with
    | .int i => ∃ c, z.length ≤ sizeLine ∧ atI z.cps.toList i = some c ∧ Q (.str ⟨#[c]⟩) S
    | _ => False
  | .dic kvs => ∃ k d, keyD y = some k ∧ valD kvs k = some d ∧ Q d S
  | _ => False
section
variable {X : Cx} {g : Gd}
theorem ix_dict (hu : X.A.units + 1 < cLine) : IxR X (fun x y H Q => ∃ a v, x = .ref a ∧ DGet H a y (some v) ∧ Q v H) := by
  intro value slice pins s σ H x y v u Q I rx ry h hs
  obtain ⟨a, w, rfl, g, q⟩ := h
  cases (show v = Value.ref a from rx)
  exact tail_any (dict_typeIs I g) PySem.F.slot_dict_getitem.lookup (d_getItem hu I g ry fun w' s3 I3 rw' => ⟨w, H, I3, rw', q⟩) hs
theorem ixD_ok (hK : g.K = X.K) (hu : X.A.units + 65 < cLine) : IxR X (rD2 g ixD) := by
  intro value slice pins s σ H v1 v2 u1 u2 Q I r1 r2 h hs
  obtain ⟨x, y, S, K, hc, p1, p2, ht, res⟩ := h
  unfold ixD at ht
  split at ht
  · rename_i ds e
    obtain ⟨p, vs, rfl, hl, hr⟩ := vw_lst hc p1 e
    rw [hK] at hl
    split at ht
    · obtain ⟨d, ed, k⟩ := ht
      obtain ⟨w, ew, rw'⟩ := hr.at ed
      cases rep_int p2
      exact ix_list value slice pins s σ H _ _ _ _ Q I r1 r2 ⟨p, vs, _, w, rfl, rfl, hl, ew, res.val k hc rw'⟩ hs
    · exact ht.elim
  · rename_i ds e
    obtain ⟨p, vs, rfl, hl, hr⟩ := vw_tup p1 e
    rw [hK] at hl
    split at ht
    · obtain ⟨d, ed, k⟩ := ht
      obtain ⟨w, ew, rw'⟩ := hr.at ed
      cases rep_int p2
      exact ix_tup value slice pins s σ H _ _ _ _ Q I r1 r2 ⟨p, vs, _, w, rfl, rfl, hl, ew, res.val k hc rw'⟩ hs
    · exact ht.elim
  · rename_i z e
    cases vw_str p1 e
    split at ht
    · obtain ⟨c, hz, ec, k⟩ := ht
      cases rep_int p2
      exact ix_str value slice pins s σ H _ _ _ _ Q I r1 r2 ⟨z, _, c, rfl, rfl, hz, ec, res.str k hc⟩ hs
    · exact ht.elim
  · rename_i kvs e
    obtain ⟨k, d, ek, ed, q⟩ := ht
    obtain ⟨p, vs, rfl, hl, hr⟩ := vw_dic hc p1 e
    cases rep_key ek p2
    rcases valK_of hr k with ⟨z, _⟩ | ⟨d2, w, z1, z2, rw'⟩
    · rw [ed] at z; cases z
    · rw [ed] at z1
      cases z1
      exact ix_dict (by omega) value slice pins s σ H _ _ _ _ Q I r1 r2 ⟨p, w, rfl, .inl ⟨vs, k, hl, rfl, z2.symm⟩, res.val q hc rw'⟩ hs
  · exact ht.elim
end

/-! ### slices -/
def cutD (xs : List D) (lo hi : Option Int) : List D := (xs.drop (HT.sIx xs.length 0 lo)).take (HT.sIx xs.length xs.length hi - HT.sIx xs.length 0 lo)
def slD (x : D) (lo hi : Option Int) (S : SS) (Q : DK) : Prop := match vw S x with
  | .lst ds => Q (.lst (cutD ds lo hi)) S
  | .str z => z.length ≤ sizeLine ∧ Q (.str (cutS z lo hi)) S
  | _ => False
section
variable {X : Cx} {g : Gd}
def rDs (g : Gd) (t : D → Option Int → Option Int → SS → DK → Prop) : V → Option Int → Option Int → Hp → VK → Prop := fun v lo hi H Q => ∃ x S K, CellsOk g S H ∧ Rep g S H x v ∧ t x lo hi S K ∧ Res g S H K Q
theorem slD_ok (hK : g.K = X.K) : SlR X (rDs g slD) := by
  intro pins s σ H v1 u1 vl vu lo hi sl Q I r1 hs pl pu h
  obtain ⟨x, S, K, hc, p1, ht, res⟩ := h
  unfold slD at ht
  split at ht
  · rename_i ds e
    obtain ⟨p, vs, rfl, hl, hr⟩ := vw_lst hc p1 e
    rw [hK] at hl
    refine sl_list pins s σ H _ _ vl vu lo hi sl Q I r1 hs pl pu ⟨p, vs, rfl, hl, fun q hq => res.lst ht hc ?_ hq⟩
    unfold cutD cutV
    rw [hr.length]
    exact (hr.drop _).take _
  · rename_i z e
    cases vw_str p1 e
    exact sl_str pins s σ H _ _ vl vu lo hi sl Q I r1 hs pl pu ⟨z, rfl, ht.1, res.str ht.2 hc⟩
  · exact ht.elim
end

/-! ### len -/
def lenD (xs : List D) (S : SS) (Q : DK) : Prop := match xs with
  | [x] => match vw S x with
    | .lst ds => Q (.int ds.length) S
    | .tup ds => Q (.int ds.length) S
    | .str z => z.length ≤ sizeLine ∧ Q (.int z.length) S
    | .dic kvs => Q (.int kvs.length) S
    | _ => False
  | _ => False
def absD (xs : List D) (S : SS) (Q : DK) : Prop := match xs with
  | [.int i] => Q (.int (if i < 0 then -i else i)) S
  | _ => False
def maxD (xs : List D) (S : SS) (Q : DK) : Prop := match xs with
  | [.int i, .int j] => Q (.int (if j > i then j else i)) S
  | _ => False
def minD (xs : List D) (S : SS) (Q : DK) : Prop := match xs with
  | [.int i, .int j] => Q (.int (if j < i then j else i)) S
  | _ => False
section
variable {X : Cx} {g : Gd} {S : SS} {H : Hp}
theorem reps_one {d : D} {vs : List V} (r : Reps g S H [d] vs) : ∃ v, vs = [v] ∧ Rep g S H d v := by
  simp only [Reps] at r
  obtain ⟨v, q, rfl, a, rfl⟩ := r
  exact ⟨v, rfl, a⟩
theorem reps_two {d e : D} {vs : List V} (r : Reps g S H [d, e] vs) : ∃ v u, vs = [v, u] ∧ Rep g S H d v ∧ Rep g S H e u := by
  simp only [Reps] at r
  obtain ⟨v, q, rfl, a, u, q2, rfl, b, rfl⟩ := r
  exact ⟨v, u, rfl, a, b⟩
theorem len_ok (hK : g.K = X.K) : CallR X (.builtin "len") (rDc g lenD) := by
  intro pins s σ H vs us Q I r h
  obtain ⟨xs, S, K, hc, p1, ht, res⟩ := h
  unfold lenD at ht
  split at ht
  · rename_i x
    obtain ⟨v, rfl, p2⟩ := reps_one p1
    split at ht
    · rename_i ds e
      obtain ⟨p, ws, rfl, hl, hr⟩ := vw_lst hc p2 e
      rw [hK] at hl
      exact call_len_seq pins s σ H _ _ Q I r ⟨p, ws, rfl, .inl hl, by rw [← hr.length]; exact res.int ht hc⟩
    · rename_i ds e
      obtain ⟨p, ws, rfl, hl, hr⟩ := vw_tup p2 e
      rw [hK] at hl
      exact call_len_seq pins s σ H _ _ Q I r ⟨p, ws, rfl, .inr hl, by rw [← hr.length]; exact res.int ht hc⟩
    · rename_i z e
      cases vw_str p2 e
      exact call_len_str pins s σ H _ _ Q I r ⟨z, rfl, ht.1, res.int ht.2 hc⟩
    · rename_i kvs e
      obtain ⟨p, ws, rfl, hl, hr⟩ := vw_dic hc p2 e
      obtain ⟨u1, rfl, r1⟩ := Vals.one r
      cases (show u1 = Value.ref p from r1)
      exact d_len I hl fun t s' I' => ⟨.int ws.length, H, I', ⟨t, rfl⟩, by rw [← Paired.length (rpk_of hr)]; exact res.int ht hc⟩
    · exact ht.elim
  · exact ht.elim
theorem abs_ok : CallR X (.builtin "abs") (rDc g absD) := by
  intro pins s σ H vs us Q I r h
  obtain ⟨xs, S, K, hc, p1, ht, res⟩ := h
  unfold absD at ht
  split at ht
  · obtain ⟨v, rfl, p2⟩ := reps_one p1
    cases rep_int p2
    exact call_abs pins s σ H _ _ Q I r ⟨_, rfl, res.int ht hc⟩
  · exact ht.elim
theorem max_ok (hc : X.calm = true) : CallR X (.builtin "max") (rDc g maxD) := by
  intro pins s σ H vs us Q I r h
  obtain ⟨xs, S, K, hce, p1, ht, res⟩ := h
  unfold maxD at ht
  split at ht
  · obtain ⟨v, u, rfl, p3, p4⟩ := reps_two p1
    cases rep_int p3
    cases rep_int p4
    exact call_max2 hc pins s σ H _ _ Q I r ⟨_, _, rfl, res.int ht hce⟩
  · exact ht.elim
theorem min_ok (hc : X.calm = true) : CallR X (.builtin "min") (rDc g minD) := by
  intro pins s σ H vs us Q I r h
  obtain ⟨xs, S, K, hce, p1, ht, res⟩ := h
  unfold minD at ht
  split at ht
  · obtain ⟨v, u, rfl, p3, p4⟩ := reps_two p1
    cases rep_int p3
    cases rep_int p4
    exact call_min2 hc pins s σ H _ _ Q I r ⟨_, _, rfl, res.int ht hce⟩
  · exact ht.elim

/-! ### truth -/
def truD (x : D) (S : SS) (Q : Bool → Prop) : Prop := match vw S x with
  | .non => Q false
  | .bl b => Q b
  | .int i => Q (i != 0)
  | .str z => z.length ≤ sizeLine ∧ Q ((z.length : Int) != 0)
  | .lst ds => Q (!ds.isEmpty)
  | .tup ds => Q (!ds.isEmpty)
  | _ => False
theorem isEmpty_reps {ds : List D} {vs : List V} (r : Reps g S H ds vs) : vs.isEmpty = ds.isEmpty := by
  cases rp_of r <;> rfl
theorem truD_ok (hK : g.K = X.K) {x : D} {v : V} {Q : Bool → Prop} (hc : CellsOk g S H) (r : Rep g S H x v) (h : truD x S Q) : ∃ k, TruV X.K v H k ∧ Q k := by
  unfold truD at h
  split at h
  · rename_i e; cases vw_non r e; exact ⟨false, rfl, h⟩
  · rename_i b e; cases vw_bl r e; exact ⟨b, rfl, h⟩
  · rename_i b e; cases vw_int r e; exact ⟨_, rfl, h⟩
  · rename_i b e; cases vw_str r e; exact ⟨_, ⟨h.1, rfl⟩, h.2⟩
  · rename_i ds e
    obtain ⟨p, vs, rfl, hl, hr⟩ := vw_lst hc r e
    rw [hK] at hl
    exact ⟨_, .inl ⟨vs, hl, rfl⟩, by rw [isEmpty_reps hr]; exact h⟩
  · rename_i ds e
    obtain ⟨p, vs, rfl, hl, hr⟩ := vw_tup r e
    rw [hK] at hl
    exact ⟨_, .inr (.inl ⟨vs, hl, rfl⟩), by rw [isEmpty_reps hr]; exact h⟩
  · exact h.elim
end
end Sv

/-! Sv4: the resolved text, its reading on values, its check against the row's text. -/
namespace Sv
open PySem PySem.Spec PyProof.Rows L2
open L2H (RoomH)

/-! ### readings by values -/
abbrev XK' := Addr → List (Str × D) → SS → Prop
abbrev XD' := Addr → List (Str × D) → DS → SS → Prop
abbrev TR := Option (Addr × Obj) → List D → SS → DK → XK' → Prop
structure SE where
  nx : DS → SS → Prop
  rt : DK
  bk : DS → SS → Prop
  ct : DS → SS → Prop
def XDk (g : Gd) (S : SS) (H : Hp) (d : Option Addr) (fs : List (Str × D)) : Prop := (d = none ∧ fs = []) ∨ ∃ dd ws, d = some dd ∧ S dd = none ∧ H dd = some (.xd ws) ∧ RepF g S H fs ws
def ResX (g : Gd) (S : SS) (H : Hp) (Y : XK') (E : XK) : Prop := ∀ C fs S' d H', Y C fs S' → Post S H S' H' → CellsOk g S' H' → XDk g S' H' d fs → E (.ref C) d H'
def spD (g : Gd) (T : TR) : SpM := fun m vs H Q E => ∃ ds S K Y, CellsOk g S H ∧ Reps g S H ds vs ∧ T m ds S K Y ∧ Res g S H K Q ∧ ResX g S H Y E
def ResW (g : Gd) (S : SS) (H : Hp) (Y : XD') (W : WX) : Prop := ∀ C fs δ' S' d σ' H', Y C fs δ' S' → Post S H S' H' → Rel g S' H' δ' σ' → XDk g S' H' d fs → W (.ref C) d σ' H'
structure ResS (g : Gd) (S : SS) (H : Hp) (F : SE) (D : Ends) : Prop where
  nx : ∀ δ' S' σ' H', F.nx δ' S' → Post S H S' H' → Rel g S' H' δ' σ' → D.nx σ' H'
  rt : Res g S H F.rt D.rt
  bk : ∀ δ' S' σ' H', F.bk δ' S' → Post S H S' H' → Rel g S' H' δ' σ' → D.bk σ' H'
  ct : ∀ δ' S' σ' H', F.ct δ' S' → Post S H S' H' → Rel g S' H' δ' σ' → D.ct σ' H'
/-- an iterator's turns by values -/
structure ItOk (g : Gd) (S1 : SS) (H1 : Hp) (J : It) (ds : List D) (ok : SS → Prop) : Prop where
  go : ∀ i S H, i < ds.length → Post S1 H1 S H → CellsOk g S H → ok S → J.go i H
  yl : ∀ i S H x H' d, ds[i]? = some d → Post S1 H1 S H → CellsOk g S H → ok S → J.yld i H x H' → Post S H S H' ∧ CellsOk g S H' ∧ Rep g S H' d x
  st : ∀ i S H, ds.length ≤ i → Post S1 H1 S H → CellsOk g S H → ok S → J.stop i H
abbrev RdE := DS → SS → XD' → DK → Prop
abbrev RdT := DS → SS → XD' → (Bool → SS → Prop) → Prop
abbrev RdL := DS → SS → XD' → (List D → SS → Prop) → Prop
abbrev RdI := DS → SS → XD' → (List D → (SS → Prop) → SS → Prop) → Prop
abbrev RdS := DS → SS → XD' → SE → Prop
section
variable (g : Gd) (W : WX)
def LE (t : RdE) : TE := fun σ H Q => ∃ δ S Y K, Rel g S H δ σ ∧ t δ S Y K ∧ Res g S H K Q ∧ ResW g S H Y W
def LT (t : RdT) : TT := fun σ H Q => ∃ δ S Y K, Rel g S H δ σ ∧ t δ S Y K ∧ (∀ b S' H', K b S' → Post S H S' H' → CellsOk g S' H' → Q b H') ∧ ResW g S H Y W
def LA (t : RdL) : TA := fun σ H Q => ∃ δ S Y K, Rel g S H δ σ ∧ t δ S Y K ∧ (∀ ds S' vs H', K ds S' → Post S H S' H' → CellsOk g S' H' → Reps g S' H' ds vs → Q vs H') ∧ ResW g S H Y W
def LI (t : RdI) : TI := fun σ H R => ∃ δ S Y K, Rel g S H δ σ ∧ t δ S Y K ∧ (∀ ds ok S' H' J, K ds ok S' → Post S H S' H' → CellsOk g S' H' → ItOk g S' H' J ds ok → R J H') ∧ ResW g S H Y W
def LS (t : RdS) : TS := fun D σ H => ∃ δ S Y F, Rel g S H δ σ ∧ t δ S Y F ∧ ResS g S H F D ∧ ResW g S H Y W
end
section
variable {g : Gd} {W : WX} {S S1 S' : SS} {H H1 H' : Hp} {δ : DS} {σ : L2.St}
theorem Rel.mono (P : Post S H S' H') (c : CellsOk g S' H') (h : Rel g S H δ σ) : Rel g S' H' δ σ := ⟨h.sl.mono P, c⟩
theorem XDk.mono {d : Option Addr} {fs : List (Str × D)} (P : Post S H S' H') (h : XDk g S H d fs) : XDk g S' H' d fs := by
  rcases h with h | ⟨dd, ws, e, n, q, r⟩
  · exact .inl h
  · exact .inr ⟨dd, ws, e, P.none_of n q, P.kp _ _ n q, r.mono P⟩
theorem Res.mono {K : DK} {Q : VK} (P : Post S H S1 H1) (h : Res g S H K Q) : Res g S1 H1 K Q := fun d S' v H' k p c r => h d S' v H' k (P.trans p) c r
theorem ResX.mono {Y : XK'} {E : XK} (P : Post S H S1 H1) (h : ResX g S H Y E) : ResX g S1 H1 Y E := fun C fs S' d H' y p c x => h C fs S' d H' y (P.trans p) c x
theorem ResW.mono {Y : XD'} (P : Post S H S1 H1) (h : ResW g S H Y W) : ResW g S1 H1 Y W := fun C fs δ' S' d σ' H' y p c x => h C fs δ' S' d σ' H' y (P.trans p) c x
theorem ResS.mono {F : SE} {D : Ends} (P : Post S H S1 H1) (h : ResS g S H F D) : ResS g S1 H1 F D :=
  ⟨fun δ' S' σ' H' y p c => h.nx δ' S' σ' H' y (P.trans p) c, h.rt.mono P, fun δ' S' σ' H' y p c => h.bk δ' S' σ' H' y (P.trans p) c, fun δ' S' σ' H' y p c => h.ct δ' S' σ' H' y (P.trans p) c⟩
end
section
variable {X : Cx} {e : Expr}
theorem PE.imp {t t' : TE} (h : PE X e t) (w : ∀ σ H Q, t' σ H Q → t σ H Q) : PE X e t' := ⟨fun pins s σ H Q I q => h.run pins s σ H Q I (w σ H Q q)⟩
theorem PT.imp {t t' : TT} (h : PT X e t) (w : ∀ σ H Q, t' σ H Q → t σ H Q) : PT X e t' := ⟨fun pins s σ H Q I q => h.run pins s σ H Q I (w σ H Q q)⟩
theorem PW.imp {t t' : TT} (h : PW X e t) (w : ∀ σ H Q, t' σ H Q → t σ H Q) : PW X e t' := ⟨fun whole pins s σ H Q I q => h.run whole pins s σ H Q I (w σ H Q q)⟩
theorem PA.imp {es : List Expr} {t t' : TA} (h : PA X es t) (w : ∀ σ H Q, t' σ H Q → t σ H Q) : PA X es t' := ⟨fun pos pins s σ H Q I q => h.run pos pins s σ H Q I (w σ H Q q)⟩
theorem PI.imp {tg : Expr} {t t' : TI} (h : PI X tg e t) (w : ∀ σ H Q, t' σ H Q → t σ H Q) : PI X tg e t' := ⟨fun pins s σ H Q I q => h.run pins s σ H Q I (w σ H Q q)⟩
theorem PS.imp {st : Stmt} {t t' : TS} (h : PS X st t) (w : ∀ D σ H, t' D σ H → t D σ H) : PS X st t' := ⟨fun pins s σ H D I q => h.run pins s σ H D I (w D σ H q)⟩
theorem PSs.imp {st : List Stmt} {t t' : TS} (h : PSs X st t) (w : ∀ D σ H, t' D σ H → t D σ H) : PSs X st t' := ⟨fun pins s σ H D I q => h.run pins s σ H D I (w D σ H q)⟩
end

/-! ### the resolved text -/
inductive RC where
  | non | bl (b : Bool) | int (i : Int) | str (x : Str)
def RC.d : RC → D
  | .non => .non | .bl b => .bl b | .int i => .int i | .str x => .str x
/-- builtins that are called -/
inductive Bn where
  | len | abs | max | min
def Bn.nm : Bn → Str
  | .len => "len" | .abs => "abs" | .max => "max" | .min => "min"
def Bn.den : Bn → List D → SS → DK → Prop
  | .len => lenD | .abs => absD | .max => maxD | .min => minD
def Bn.needs (m0 : Option (Addr × Obj)) : Bn → Prop
  | .len => True | .abs => True | .max => m0 = none | .min => m0 = none
/-- a class that isinstance is asked for -/
inductive Cn where
  | ty (n : String) | own (j : Nat)
mutual
inductive RE where
  | var (i : Nat) | con (c : RC) | glb (j : Nat)
  | bin (op : Operator) (a b : RE) | neg (a : RE) | nt (a : RE)
  | and (es : RL) | or (es : RL) | ife (c a b : RE)
  | cmp (op : CmpOp) (a b : RE) | chn (o1 o2 : CmpOp) (a b c : RE)
  | lst (cell : Bool) (es : RL) | tup (es : RL)
  | ix (a b : RE) | sl (a : RE) (lo hi : RO) | fld (a : RE) (f : Str)
  | call (j : Nat) (es : RL) | bi (b : Bn) (es : RL) | isi (a : RE) (c : Cn)
  | lc (cell : Bool) (elt : RE) (tg : List Nat) (one : Bool) (it : RI) (c : RO) (own : List (Str × Nat))
inductive RO where
  | nn | ss (e : RE)
inductive RL where
  | nil | cons (e : RE) (es : RL)
inductive RI where
  | lst (e : RE) | tup (e : RE) | rng1 (a : RE) | rng2 (a b : RE)
end
structure SN where
  N : List Str
  fns : List Str
  cls : List Str
  gvs : List Str
structure Gm extends Gd where
  m0 : Option (Addr × Obj)
  fn : Bool → Nat → Option TR
  gv : Nat → D
  cl : Nat → Addr
def Cn.val (G : Gm) : Cn → Value
  | .ty n => .type n | .own j => .ref (G.cl j)
/-- a value's type -/
def tyD (S : SS) : D → Option Value
  | .non => some (.type "NoneType") | .bl _ => some (.type "bool") | .int _ => some (.type "int") | .str _ => some (.type "str")
  | .lst _ => some (.type "list") | .tup _ => some (.type "tuple") | .dic _ => some (.type "dict")
  | .obj a => match S a with
    | some (.lst _) => some (.type "list") | some (.dic _) => some (.type "dict") | some (.loc _) => some (.type "dict") | some (.ins C _) => some (.ref C) | none => none
  | .exc _ _ C _ => some (.ref C)
def rngD (lo : Int) (n : Nat) : List D := (List.range n).map fun (i : Nat) => .int (lo + (i : Int))
/-- what the written part must say of a class: the library's own kits -/
abbrev InsF : PySem.W.Frag → Addr → Prop := C8.InsC
abbrev ExcF : PySem.W.Frag → Addr → Prop := ExcC
def tyOk (G : Gm) (S : SS) : D → Prop
  | .obj a => ∀ C fs, S a = some (.ins C fs) → InsF G.K C
  | .exc y oe C _ => G.m0 = some (y, oe) ∧ ExcF G.K C
  | _ => True
def fldD (G : Gm) (f : Str) (x : D) (S : SS) (K : DK) : Prop := match x with
  | .obj a => ∃ C fs d, S a = some (.ins C fs) ∧ Cls G.K C ∧ NoAttr G.K C f ∧ fs.lookup f = some d ∧ K d S
  | .exc y oe C fs => G.m0 = some (y, oe) ∧ ExcF G.K C ∧ NoAttr G.K C f ∧ ∃ d, fs.lookup f = some d ∧ K d S
  | _ => False
def noX : XD' := fun _ _ _ _ => False
def setAll : DS → List Nat → List D → DS
  | δ, i :: is, d :: ds => setAll (δ.set i (some d)) is ds
  | δ, _, _ => δ
def denTg (tg : List Nat) (one : Bool) (d : D) (δ : DS) (S : SS) (Q : DS → SS → Prop) : Prop :=
  if one = true then (match tg with
    | [i] => Q (δ.set i (some d)) S
    | _ => False)
  else ∃ ds, vw S d = .tup ds ∧ ds.length = tg.length ∧ Q (setAll δ tg ds) S
def wipeD (δ : DS) : List Nat → DS
  | [] => δ
  | v :: vs => (wipeD δ vs).set v none
mutual
def den (G : Gm) : RE → RdE
  | .var i => fun δ S _ K => match δ[i]? with
    | some (some d) => K d S
    | _ => False
  | .con c => fun _ S _ K => K c.d S
  | .glb j => fun _ S _ K => K (G.gv j) S
  | .bin op a b => fun δ S Y K => den G a δ S Y fun x S1 => den G b δ S1 Y fun y S2 => opD op x y S2 K
  | .neg a => fun δ S Y K => den G a δ S Y fun x S1 => ∃ i, x = .int i ∧ K (.int (-i)) S1
  | .nt a => fun δ S Y K => den G a δ S Y fun x S1 => truD x S1 fun b => K (.bl (!b)) S1
  | .and es => denAnd G es
  | .or es => denOr G es
  | .ife c a b => fun δ S Y K => denT G c δ S Y fun k S1 => if k = true then den G a δ S1 Y K else den G b δ S1 Y K
  | .cmp op a b => fun δ S Y K => den G a δ S Y fun x S1 => den G b δ S1 Y fun y S2 => cmpE op x y S2 K
  | .chn o1 o2 a b c => fun δ S Y K => den G a δ S Y fun x S1 => den G b δ S1 Y fun y S2 => cmpE o1 x y S2 fun z S3 => ∃ k, z = .bl k ∧
      if k = true then den G c δ S3 Y fun w S4 => cmpE o2 y w S4 K else K (.bl false) S3
  | .lst cell es => fun δ S Y K => dens G es δ S Y fun ds S1 => ds.length ≤ sizeLine ∧ if cell = true then ∀ p, S1 p = none → K (.obj p) (S1.set p (.lst ds)) else K (.lst ds) S1
  | .tup es => fun δ S Y K => dens G es δ S Y fun ds S1 => ds.length ≤ sizeLine ∧ K (.tup ds) S1
  | .ix a b => fun δ S Y K => den G a δ S Y fun x S1 => den G b δ S1 Y fun y S2 => ixD x y S2 K
  | .sl a lo hi => fun δ S Y K => den G a δ S Y fun x S1 => denO G lo δ S1 Y fun l S2 => denO G hi δ S2 Y fun u S3 => slD x l u S3 K
  | .fld a f => fun δ S Y K => den G a δ S Y fun x S1 => fldD G f x S1 K
  | .call j es => fun δ S Y K => ∃ T, G.fn G.m0.isSome j = some T ∧ dens G es δ S Y fun ds S1 => T G.m0 ds S1 K fun C fs S' => Y C fs δ S'
  | .bi b es => fun δ S Y K => b.needs G.m0 ∧ dens G es δ S Y fun ds S1 => b.den ds S1 K
  | .isi a c => fun δ S Y K => den G a δ S Y fun x S1 => ∃ t b, tyD S1 x = some t ∧ tyOk G S1 x ∧ PySem.W.kitOne G.K t (c.val G) = some b ∧ K (.bl b) S1
  | .lc cell elt tg one it c own => fun δ S Y K => G.m0 = none ∧ denI G it δ S Y fun ds ok S1 => ∀ p, S1 p = none → ∃ Iv : Nat → SS → Prop, Iv 0 (S1.set p (.lst [])) ∧ (∀ i S', Iv i S' → i ≤ ds.length → ok S') ∧
      (∀ i d S', ds[i]? = some d → Iv i S' → denTg tg one d (wipeD δ (own.map (·.2))) S' fun δ2 S2 => denC G c δ2 S2 noX fun b S3 =>
        if b = true then den G elt δ2 S3 noX fun y S4 => ∃ acc, S4 p = some (.lst acc) ∧ acc.length < sizeLine ∧ Iv (i + 1) (S4.set p (.lst (acc ++ [y]))) else Iv (i + 1) S3) ∧
      (∀ S', Iv ds.length S' → ∃ acc, S' p = some (.lst acc) ∧ if cell = true then K (.obj p) S' else K (.lst acc) (S'.del p))
def dens (G : Gm) : RL → RdL
  | .nil => fun _ S _ K => K [] S
  | .cons e es => fun δ S Y K => den G e δ S Y fun d S1 => dens G es δ S1 Y fun ds S2 => K (d :: ds) S2
def denAnd (G : Gm) : RL → RdE
  | .nil => fun _ _ _ _ => False
  | .cons e .nil => den G e
  | .cons e (.cons f r) => fun δ S Y K => den G e δ S Y fun x S1 => truD x S1 fun k => if k = true then denAnd G (.cons f r) δ S1 Y K else K x S1
def denOr (G : Gm) : RL → RdE
  | .nil => fun _ _ _ _ => False
  | .cons e .nil => den G e
  | .cons e (.cons f r) => fun δ S Y K => den G e δ S Y fun x S1 => truD x S1 fun k => if k = true then K x S1 else denOr G (.cons f r) δ S1 Y K
def denT (G : Gm) : RE → RdT
  | .nt a => fun δ S Y K => denT G a δ S Y fun b S1 => K (!b) S1
  | .and es => denTAnd G es
  | .or es => denTOr G es
  | .ife _ _ _ => fun _ _ _ _ => False
  | .cmp op a b => fun δ S Y K => den G a δ S Y fun x S1 => den G b δ S1 Y fun y S2 => cmpE op x y S2 fun d S' => ∃ k, d = .bl k ∧ K k S'
  | .chn o1 o2 a b c => fun δ S Y K => den G a δ S Y fun x S1 => den G b δ S1 Y fun y S2 => cmpE o1 x y S2 fun z S3 => ∃ k, z = .bl k ∧
      if k = true then den G c δ S3 Y fun w S4 => cmpE o2 y w S4 fun d S' => ∃ k, d = .bl k ∧ K k S' else ∃ k, D.bl false = .bl k ∧ K k S3
  | .var i => fun δ S _ K => match δ[i]? with
    | some (some d) => truD d S fun b => K b S
    | _ => False
  | .con c => fun _ S _ K => truD c.d S fun b => K b S
  | .glb j => fun _ S _ K => truD (G.gv j) S fun b => K b S
  | .ix a b => fun δ S Y K => den G a δ S Y fun x S1 => den G b δ S1 Y fun y S2 => ixD x y S2 fun d S3 => truD d S3 fun b => K b S3
  | .fld a f => fun δ S Y K => den G a δ S Y fun x S1 => fldD G f x S1 fun d S3 => truD d S3 fun b => K b S3
  | .call j es => fun δ S Y K => ∃ T, G.fn G.m0.isSome j = some T ∧ dens G es δ S Y fun ds S1 => T G.m0 ds S1 (fun d S3 => truD d S3 fun b => K b S3) fun C fs S' => Y C fs δ S'
  | .isi a c => fun δ S Y K => den G a δ S Y fun x S1 => ∃ t b, tyD S1 x = some t ∧ tyOk G S1 x ∧ PySem.W.kitOne G.K t (c.val G) = some b ∧ K b S1
  | _ => fun _ _ _ _ => False
def denTAnd (G : Gm) : RL → RdT
  | .nil => fun _ _ _ _ => False
  | .cons e .nil => denT G e
  | .cons e (.cons f r) => fun δ S Y K => denT G e δ S Y fun k S1 => if k = true then denTAnd G (.cons f r) δ S1 Y K else K false S1
def denTOr (G : Gm) : RL → RdT
  | .nil => fun _ _ _ _ => False
  | .cons e .nil => denT G e
  | .cons e (.cons f r) => fun δ S Y K => denT G e δ S Y fun k S1 => if k = true then K true S1 else denTOr G (.cons f r) δ S1 Y K
def denC (G : Gm) : RO → RdT
  | .nn => fun _ S _ K => K true S
  | .ss e => denT G e
def denO (G : Gm) : RO → DS → SS → XD' → (Option Int → SS → Prop) → Prop
  | .nn => fun _ S _ K => K none S
  | .ss e => fun δ S Y K => den G e δ S Y fun d S1 => ∃ i, d = .int i ∧ K (some i) S1
def denI (G : Gm) : RI → RdI
  | .lst e => fun δ S Y K => den G e δ S Y fun d S1 => ∃ ds, vw S1 d = .lst ds ∧ K ds (fun S' => vw S' d = .lst ds) S1
  | .tup e => fun δ S Y K => den G e δ S Y fun d S1 => ∃ ds, vw S1 d = .tup ds ∧ K ds (fun S' => True) S1
  | .rng1 a => fun δ S Y K => den G a δ S Y fun d S1 => ∃ j, d = .int j ∧ -(2 ^ 62) ≤ j ∧ j < 2 ^ 62 ∧ K (rngD 0 j.toNat) (fun _ => True) S1
  | .rng2 a b => fun δ S Y K => den G a δ S Y fun d S1 => den G b δ S1 Y fun d2 S2 => ∃ i j, d = .int i ∧ d2 = .int j ∧ (-(2 ^ 62) ≤ i ∧ i < 2 ^ 62 ∧ -(2 ^ 62) ≤ j ∧ j < 2 ^ 62) ∧ K (rngD i (j - i).toNat) (fun _ => True) S2
end

/-! ### the check -/
def nmB (l : List Str) (i : Nat) (x : Str) : Bool := decide (l[i]? = some x) && decide ((x == ("__debug__" : Str)) = false ∧ (x == ("__classdict__" : Str)) = false)
/-- the builtins' names that the readings use: no row stores them -/
def bnames : List Str := ["len", "abs", "max", "min", "range", "isinstance", "repr", "list", "tuple", "dict", "sorted", "sum", "enumerate", "zip", "reversed", "str", "int", "bool", "set", "ValueError", "any", "all"]
def visB (sc : Scope) (x : Str) : Bool := match sc.names.lookup x with
  | some .local => true | some .cell => true | some .free => true | _ => false
def locB (sc : Scope) (x : Str) : Bool := match sc.names.lookup x with
  | some .local => true | some .cell => true | _ => false
def glB (sc : Scope) (x : Str) : Bool := match sc.names.lookup x with
  | some .globalImplicit => true | _ => false
theorem nmB_ok {l : List Str} {i : Nat} {x : Str} (h : nmB l i x = true) : l[i]? = some x ∧ (x == ("__debug__" : Str)) = false ∧ (x == ("__classdict__" : Str)) = false := by
  unfold nmB at h
  rw [Bool.and_eq_true, decide_eq_true_eq, decide_eq_true_eq] at h
  exact h
theorem visB_ok {sc : Scope} {x : Str} (h : visB sc x = true) : Vis sc x := by
  unfold visB at h
  split at h <;> first | exact .inl (by assumption) | exact .inr (.inl (by assumption)) | exact .inr (.inr (by assumption)) | cases h
theorem locB_ok {sc : Scope} {x : Str} (h : locB sc x = true) : Loc sc x := by
  unfold locB at h
  split at h <;> first | exact .inl (by assumption) | exact .inr (by assumption) | cases h
theorem glB_ok {sc : Scope} {x : Str} (h : glB sc x = true) : sc.names.lookup x = some .globalImplicit := by
  unfold glB at h
  split at h <;> first | assumption | cases h
def nstar : Expr → Bool
  | .Starred _ _ => false | _ => true
def nsup : Expr → Bool
  | .Call (.Name x _) [] [] _ => decide (x ≠ ("super" : Str)) | _ => true
def nslice : Expr → Bool
  | .Slice _ _ _ _ => false | _ => true
def nsetd : Expr → Bool
  | .Set _ _ _ => false | _ => true
/-- a test is the value's truth -/
def plainT : Expr → Bool
  | .UnaryOp .Not _ _ => false | .BoolOp _ _ _ => false | .IfExp _ _ _ _ => false | .Compare _ _ _ _ => false | _ => true
theorem nstar_ok {e : Expr} {es : List Expr} {env : Env} (h : nstar e = true) : starEach (e :: es) env = (false, eval e env) :: starEach es env := by
  cases e <;> first | rfl | cases h
theorem nslice_ok {e : Expr} (h : nslice e = true) (o i : Value) : subscripted e false o i = operate [o, i] (getItem o i) := by
  cases e <;> first | rfl | cases h
theorem nsetd_ok {e : Expr} (h : nsetd e = true) (op : CmpOp) : behindInMarks op e = false := by
  cases e <;> first | rfl | cases h
theorem plainT_ok {e : Expr} {env : Env} (h : plainT e = true) (whole : Sem Value) : isTrue e env whole = (do let v ← whole; standAt e.pos; holding [v] (truthy v)) := by
  cases e <;> first | rfl | (cases h; done) | (rename_i op _ _; cases op <;> first | rfl | cases h)
theorem nsetf_ok {e : Expr} {env : Env} (h : nsetd e = true) (x : Value) : foldedSetIterable e env x = pure x := by
  cases e <;> first | rfl | cases h
theorem nsup_ok {e : Expr} {f : Str} {env : Env} {whole : Sem Value} (h : nsup e = true) : attributeBase e f env whole = whole := by
  unfold attributeBase
  split
  · rename_i id _ _
    have q : (id != ("super" : Str)) = true := by
      have h' : decide (id ≠ ("super" : Str)) = true := h
      simpa using h'
    rw [q]
    simp
  · rfl
theorem stars_any : ∀ {es : List Expr} {env : Env} {pos : Pos}, es.all nstar = true → (backTo pos (starEach es env)).any (·.1) = false
  | [], _, _, _ => rfl
  | e :: es, env, pos, h => by
    rw [List.all_cons, Bool.and_eq_true] at h
    rw [nstar_ok h.1]
    have q := stars_any (env := env) (pos := pos) h.2
    simpa [backTo] using q
def chkNs (n : SN) (sc : Scope) : List Nat → List Expr → Bool
  | [], xs => xs.isEmpty
  | i :: is, xs => match xs with
    | .Name y _ :: xs => nmB n.N i y && locB sc y && chkNs n sc is xs
    | _ => false
def chkTg (n : SN) (sc : Scope) (tg : List Nat) (one : Bool) (x : Expr) : Bool :=
  if one = true then (match tg, x with
    | [i], .Name y _ => nmB n.N i y && locB sc y
    | _, _ => false)
  else (match x with
    | .Tuple xs _ _ => chkNs n sc tg xs
    | _ => false)
mutual
def chk (n : SN) (sc : Scope) : RE → Expr → Bool
  | .var i, x => match x with
    | .Name y _ => nmB n.N i y && visB sc y
    | _ => false
  | .con c, x => match c, x with
    | .non, .Constant .none _ _ => true
    | .bl b, .Constant (.bool b') _ _ => b == b'
    | .int i, .Constant (.int i') _ _ => decide (i = i')
    | .str s, .Constant (.str s') _ _ => decide (s = s')
    | _, _ => false
  | .glb j, x => match x with
    | .Name y _ => nmB n.gvs j y && glB sc y
    | _ => false
  | .bin op a b, x => match x with
    | .BinOp l o r _ => decide (o = op) && (chk n sc a l && chk n sc b r)
    | _ => false
  | .neg a, x => match x with
    | .UnaryOp .USub l _ => chk n sc a l
    | _ => false
  | .nt a, x => match x with
    | .UnaryOp .Not l _ => chk n sc a l
    | _ => false
  | .and es, x => match x with
    | .BoolOp .And xs _ => chks n sc es xs
    | _ => false
  | .or es, x => match x with
    | .BoolOp .Or xs _ => chks n sc es xs
    | _ => false
  | .ife c a b, x => match x with
    | .IfExp t l r _ => chk n sc c t && (chk n sc a l && chk n sc b r)
    | _ => false
  | .cmp op a b, x => match x with
    | .Compare l [o] [r] _ => decide (o = op) && nsetd r && (chk n sc a l && chk n sc b r)
    | _ => false
  | .chn o1 o2 a b c, x => match x with
    | .Compare l [o, o'] [r, t] _ => decide (o = o1) && decide (o' = o2) && nsetd t && (chk n sc a l && (chk n sc b r && chk n sc c t))
    | _ => false
  | .lst _ es, x => match x with
    | .List xs _ => chks n sc es xs
    | _ => false
  | .tup es, x => match x with
    | .Tuple xs _ _ => chks n sc es xs
    | _ => false
  | .ix a b, x => match x with
    | .Subscript l r _ => nslice r && (chk n sc a l && chk n sc b r)
    | _ => false
  | .sl a lo hi, x => match x with
    | .Subscript l (.Slice p q none _) _ => chk n sc a l && (chkO n sc lo p && chkO n sc hi q)
    | _ => false
  | .fld a f, x => match x with
    | .Attribute l f' _ => decide (f' = f) && nsup l && chk n sc a l
    | _ => false
  | .call j es, x => match x with
    | .Call (.Name y _) xs [] _ => nmB n.fns j y && glB sc y && chks n sc es xs
    | _ => false
  | .bi b es, x => match x with
    | .Call (.Name y _) xs [] _ => decide (y = b.nm) && glB sc y && !xs.isEmpty && chks n sc es xs
    | _ => false
  | .isi a c, x => match x with
    | .Call (.Name y _) [l, .Name z _] [] _ => decide (y = ("isinstance" : Str)) && glB sc y && glB sc z && nstar l && chk n sc a l && (match c with
      | .ty t => decide (bootBuiltins z = some (.type t)) && decide (z ≠ ("__name__" : Str)) && decide ((z == ("__debug__" : Str)) = false) && decide (z ∈ bnames)
      | .own j => nmB n.cls j z)
    | _ => false
  | .lc _ elt tg one it c own, x => match x with
    | .ListComp xe [⟨xt, xi, ifs, 0⟩] scope _ => blkC n.N sc scope own && nsetd xi && chkI n sc it xi && (tg.all fun i => decide (i ∈ own.map (·.2))) && chkTg n scope tg one xt && chkC n scope c ifs && chk n scope elt xe
    | _ => false
def chks (n : SN) (sc : Scope) : RL → List Expr → Bool
  | .nil, xs => xs.isEmpty
  | .cons e es, xs => match xs with
    | x :: xs => nstar x && (chk n sc e x && chks n sc es xs)
    | [] => false
def chkO (n : SN) (sc : Scope) : RO → Option Expr → Bool
  | .nn, x => x.isNone
  | .ss e, x => match x with
    | some x => chk n sc e x
    | none => false
def chkC (n : SN) (sc : Scope) : RO → List Expr → Bool
  | .nn, x => x.isEmpty
  | .ss e, x => match x with
    | [x] => chk n sc e x
    | _ => false
def chkI (n : SN) (sc : Scope) : RI → Expr → Bool
  | .lst e, x => chk n sc e x
  | .tup e, x => chk n sc e x
  | .rng1 a, x => match x with
    | .Call (.Name y _) [l] [] _ => decide (y = ("range" : Str)) && glB sc y && nstar l && chk n sc a l
    | _ => false
  | .rng2 a b, x => match x with
    | .Call (.Name y _) [l, r] [] _ => decide (y = ("range" : Str)) && glB sc y && nstar l && nstar r && (chk n sc a l && chk n sc b r)
    | _ => false
end
end Sv

/-! Sv5: errors as values: isinstance, fields; types of values. -/
namespace PySem.W
open PySem PySem.Spec PySem.Calls PyProof.Rows
section
variable {prog : Program} {w : World} {A : Around} {E : Value → Shared → Prop} {s : Shared} {K : Frag} {x D : Addr} {ox : Obj} {od : Option Obj}
/-- an error's class, asked of the error: its getter is data of the class, so the error's own dict is not looked at -/
theorem err_found (hd : hasDictIn K D = true) (ha : findIn K (.ref D) "__class__" = some (some (.builtin "object.__class__"))) (gt : specialIn K (.builtin "object.__class__") "__get__" = some (some (.builtin "getset_descriptor.__get__"))) (tk : takesIn K (.builtin "object.__class__") = some true) :
    findObj K D od "__class__" = some (.bind (.builtin "getset_descriptor.__get__") (.builtin "object.__class__")) := by
  have known : (clsIn K D).isSome = true := by
    have ⟨_, e, _⟩ := any_some hd
    simp [e]
  match od with
  | none => exact findObj_dataN known ha gt tk
  | some _ => exact findObj_data known ha gt tk
theorem err_class (own : findIn K (.ref D) "__getattribute__" = some (some (.builtin "BaseException.__getattribute__"))) (noHook : findIn K (.ref D) "__getattr__" = some none) (err : subIn K (.ref D) (.type "BaseException") = some true) (obj : mroIn K D (.type "object") = some true)
    (fnd : findObj K D od "__class__" = some (.bind (.builtin "getset_descriptor.__get__") (.builtin "object.__class__"))) (inK : K.In s.heap) (I : InstAt s.heap x ox D od) {Q : Option Value → Shared → Prop} (want : Q (some (.ref D)) { s with toks := s.toks + 1 }) : wpAny (model prog w) A (getAttr? (.ref x) "__class__") Q E s := by
  rcases s with ⟨hp, gs, dr, tk, os⟩
  have ty {M : Model} := I.type (M := M)
  have own' {M : Model} := looks_findIn (M := M) inK own
  have hook' {M : Model} := looks_findIn (M := M) inK noHook
  have fnd' {M : Model} := looks_find (M := M) inK I fnd
  have isErr {M : Model} : Looks M hp (isInstance (.ref x) (.type "BaseException")) true := ty.andThen (looks_subIn inK err)
  simp only [getAttr?, getAttrBy?, getAttrBy, getAttrByItsOwn, hookBefore, callGetattribute, boundAndCalled]
  repeat (first | with_reducible refine ty.at ?_ | with_reducible refine own'.at ?_ | with_reducible refine hook'.at ?_ | wp_step)
  refine wpAny_of_eq (PySem.F.excAttr_ValueError.ga.bind (.ref x)) ?_
  apply wpAny_call
  refine codeAny_call_builtin PySem.F.excAttr_ValueError.ga.plain PySem.F.entry_bexc_ga ?_
  have kind : builtinKind "BaseException.__getattribute__" = some .slot := by decide +kernel
  have split : splitId "BaseException.__getattribute__" = some ("BaseException", "__getattribute__") := by decide +kernel
  refine check_slot (i := "BaseException.__getattribute__") (self := .ref x) (rest := [.str "__class__" tk]) (kw := []) kind split isErr (PySem.F.args_bexc_ga _ _) ?_
  unfold Builtin.«object.__getattribute__»
  refine wpAny_bind (wpAny_of_eq (a := ((Value.ref x : Value), [Value.str "__class__" tk])) (by first | rfl | (simp only [slotArgs]; rfl)) ?_)
  dsimp only
  repeat (first | with_reducible refine ty.at ?_ | with_reducible refine fnd'.at ?_ | wp_step)
  refine class_get (s := ⟨hp, gs, dr, tk + 1, os⟩) inK I obj (wpAny_pure ?_)
  dsimp only
  rw [handedOut_of (v := .ref D) rfl]
  exact wpAny_pure (wpAny_pure want)
/-- so isinstance asks an error rightly, with a dict of its own or without -/
theorem err_kit (f : L2.ExcC K D) : KitX K (.ref x) (.ref D) fun h => InstAt h x ox D od where
  ty _ _ _ I := I.type
  ca inK I want := err_class f.hg f.hk f.hs f.hm (err_found f.hd f.ha f.hn f.ht) inK I want
  it := by
    intro M h inK _
    have ⟨_, known, _⟩ := any_some f.hd
    revert known
    unfold clsIn
    split
    · rename_i at_D
      intro _ A Q E t k q
      unfold isType loadHead
      exact wpAny_bind (wpAny_loadPart (k _ _ (inK _ _ at_D)) (wpAny_pure q))
    · exact nofun
  ne := by
    intro h tp dd its n sl inK at_tp
    have ⟨_, known, _⟩ := any_some f.hd
    cases same : (Value.ref D == Value.ref tp) with
    | false => rfl
    | true =>
      cases beq_iff_eq.mp same
      revert known
      unfold clsIn
      split
      · rename_i at_D
        cases (inK _ _ at_D).symm.trans at_tp
      · exact nofun
end
end PySem.W
namespace Sv
open PySem PySem.Spec PyProof.Rows L2
open L2H (RoomH)
/-- an error that is pinned -/
structure ExcAt (X : Cx) (H : Hp) (a C : Addr) (oe : Obj) (d : Option Addr) : Prop where
  pin : (a, oe) ∈ X.pn
  z : Zc (.ref C) d oe
  f : ∃ vs, oe.data = .fields vs
  d : d = none ∨ ∃ dd ws, d = some dd ∧ H dd = some (.xd ws)
section
variable {X : Cx} {pins : List (Addr × Obj)} {σ : L2.St} {H : Hp} {s : Shared}
/-- the dict of an error in the heap: under each name it keeps what the fields say -/
theorem err_dict (I : Inv X pins σ H s) {d : Addr} {ws : List (Str × V)} (at_d : H d = some (.xd ws)) : ∃ od, s.heap.get? d = some od ∧ ∀ (f : Str) (w : V), ws.lookup f = some w → ∃ u, PySem.W.lookIn f od = some (some u) ∧ RelV w u := by
  have laid : ObjOk X.prog X.w H s.heap d (.xd ws) := I.hok d _ at_d
  have ⟨keeps, named, alike⟩ := laid
  have ⟨od, there, tells⟩ := lookIn_ns named
  refine ⟨od, there, fun f w is => ?_⟩
  have like := alike f
  rw [is] at like
  have told := tells f
  cases found : keeps f with
  | none => rw [found] at like; exact like.elim
  | some u => rw [found] at like told; exact ⟨u, told, like⟩
/-- an error in the heap, beside its dict -/
theorem err_inst {a C : Addr} {oe : Obj} {d : Option Addr} {od : Option Obj} (dict : match d, od with | some p, some o => s.heap.get? p = some o | none, none => True | _, _ => False)
    (zc : Zc (.ref C) d oe) (fields : ∃ vs, oe.data = .fields vs) (here : s.heap.get? a = some oe) : PySem.W.InstAt s.heap a oe C od where
  at_ := here
  cls := zc.1
  no := by
    have ⟨_, e⟩ := fields
    simp only [PySem.W.notCls, e]
  dict := by rw [zc.2]; exact dict
theorem ExcAt.inst {a C : Addr} {oe : Obj} {d : Option Addr} (x : ExcAt X H a C oe d) (I : Inv X pins σ H s) : ∃ od, PySem.W.InstAt s.heap a oe C od := by
  have here := (I.pin (a, oe) (List.mem_append_left _ x.pin)).1
  rcases x.d with rfl | ⟨p, ws, rfl, at_p⟩
  · exact ⟨none, err_inst trivial x.z x.f here⟩
  · have ⟨od, there, _⟩ := err_dict I at_p
    exact ⟨some od, err_inst there x.z x.f here⟩
end
inductive TyP (X : Cx) (H : Hp) : V → Value → Prop where
  | base {v : V} {t : Value} (h : TyX X.K H v t) : TyP X H v t
  | exc {a C : Addr} {oe : Obj} {d : Option Addr} (h : ExcAt X H a C oe d) (c : ExcC X.K C) : TyP X H (.ref a) (.ref C)
def rIsP (X : Cx) : List V → Hp → VK → Prop := fun xs H Q => ∃ (x c : V) (t u : Value) (b : Bool), xs = [x, c] ∧ ClsV c u ∧ TyP X H x t ∧ PySem.W.kitOne X.K t u = some b ∧ Q (.bl b) H
theorem call_isP {X : Cx} : CallR X (.builtin "isinstance") (rIsP X) := by
  rintro pins s σ H _ us Q I given ⟨_, _, _, _, b, rfl, names, kind, asks, want⟩
  cases kind with
  | base plain => exact call_isi _ _ _ _ _ _ _ I given ⟨_, _, _, _, b, rfl, names, plain, asks, want⟩
  | exc at_a cls =>
    cases given with
    | cons one rest =>
      cases rest with
      | cons two none_left =>
        cases none_left
        cases one
        cases names.eq two
        have ⟨_, J⟩ := at_a.inst I
        exact PySem.W.kia_one (PySem.W.err_kit cls) I.kIn J asks nofun fun t => ⟨.bl b, _, I.tok t, rfl, want⟩

/-- the mode's error -/
def ModeP (X : Cx) (m0 : Option (Addr × Obj)) : Prop := ∀ p, m0 = some p → p ∈ X.pn
theorem ModeC.p {X : Cx} {m0 : Option (Addr × Obj)} (h : ModeC X m0) : ModeP X m0 := fun p e => by
  subst e
  exact h.2
section
variable {X : Cx} {G : Gm} {S : SS} {H : Hp}
theorem tyP_of (hK : G.K = X.K) (hm : ModeP X G.m0) (hc : CellsOk G.toGd S H) {d : D} {v : V} {t : Value} (r : Rep G.toGd S H d v) (e : tyD S d = some t) (ok : tyOk G S d) : TyP X H v t := by
  cases d with
  | non => simp only [Rep] at r; subst r; cases e; exact .base (.base .non)
  | bl _ => simp only [Rep] at r; subst r; cases e; exact .base (.base (.bl _))
  | int _ => simp only [Rep] at r; subst r; cases e; exact .base (.base (.int _))
  | str _ => simp only [Rep] at r; subst r; cases e; exact .base (.base (.str _))
  | lst ds =>
    simp only [Rep] at r
    obtain ⟨p, vs, rfl, a, b⟩ := r
    cases e
    rcases a.sq with (a | ⟨o, a⟩) | ⟨o, its, n, a, c, _⟩
    · exact .base (.base (.lst a))
    · exact .base (.base (.frz a))
    · rw [hK] at a
      exact .base (.kList a c)
  | tup ds =>
    simp only [Rep] at r
    obtain ⟨p, vs, rfl, a, b⟩ := r
    cases e
    rcases a.sq with (a | ⟨o, a⟩) | ⟨o, its, n, a, c, _⟩
    · exact .base (.base (.tup a))
    · exact .base (.fTuple a)
    · rw [hK] at a
      exact .base (.kTuple a c)
  | dic ds =>
    simp only [Rep] at r
    obtain ⟨p, vs, rfl, _, a, b⟩ := r
    cases e
    rcases a with a | ⟨o, a⟩
    · exact .base (.base (.dK a))
    · exact .base (.fDict a)
  | obj a =>
    simp only [Rep] at r
    subst r
    have e' : (match S a with | some (.lst _) => some (Value.type "list") | some (.dic _) => some (.type "dict") | some (.loc _) => some (.type "dict") | some (.ins C _) => some (.ref C) | none => none) = some t := e
    cases q : S a with
    | none => rw [q] at e'; cases e'
    | some c =>
      rw [q] at e'
      have k := hc a c q
      cases c with
      | lst _ => cases e'; obtain ⟨_, h, _⟩ := k; exact .base (.base (.lst h))
      | dic _ => cases e'; obtain ⟨_, h, _⟩ := k; exact .base (.base (.dK h))
      | loc _ => cases e'; obtain ⟨_, _, h, _⟩ := k; exact .base (.fDict h)
      | ins C fs =>
        cases e'
        obtain ⟨dx, ws, h, _⟩ := k
        have F := ok C fs q
        rw [hK] at F
        exact .base (.base (.ins h F.cl F.ha F.hn F.htk F.hm))
  | exc y oe C fs =>
    simp only [Rep] at r
    obtain ⟨d, rfl, ⟨z, f⟩, x⟩ := r
    cases e
    have F := ok.2
    rw [hK] at F
    refine .exc (oe := oe) (d := d) ⟨hm _ ok.1, z, f, ?_⟩ F
    rcases x with ⟨x, _⟩ | ⟨dd, ws, x, _, y, _⟩
    · exact .inl x
    · exact .inr ⟨dd, ws, x, y⟩
theorem repF_get {g : Gd} {fs : List (Str × D)} : ∀ {ws : List (Str × V)}, RepF g S H fs ws → ∀ {f : Str} {d : D}, fs.lookup f = some d → ∃ v, ws.lookup f = some v ∧ Rep g S H d v := by
  induction fs with
  | nil => intro ws _ f d e; cases e
  | cons p fs ih =>
    intro ws r f d e
    obtain ⟨k, x⟩ := p
    simp only [RepF] at r
    obtain ⟨v, q, rfl, a, b⟩ := r
    rw [List.lookup_cons] at e ⊢
    cases h : f == k with
    | true => rw [h] at e; cases e; exact ⟨v, rfl, a⟩
    | false => rw [h] at e; exact ih b e
theorem repF_none {g : Gd} {fs : List (Str × D)} : ∀ {ws : List (Str × V)}, RepF g S H fs ws → ∀ {f : Str}, fs.lookup f = none → ws.lookup f = none := by
  induction fs with
  | nil => intro ws r f _; simp only [RepF] at r; subst r; rfl
  | cons p fs ih =>
    intro ws r f e
    obtain ⟨k, x⟩ := p
    simp only [RepF] at r
    obtain ⟨v, q, rfl, a, b⟩ := r
    rw [List.lookup_cons] at e ⊢
    cases h : f == k with
    | true => rw [h] at e; cases e
    | false => rw [h] at e; exact ih b e
/-- o.f -/
theorem pe_fldD {W : WX} {e : Expr} {f : Str} {pos : Pos} {t : RdE} (hK : G.K = X.K) (hm : ModeP X G.m0) (he : PE X e (LE G.toGd W t)) (hb : attributeBase e f X.env (eval e X.env) = eval e X.env) :
    PE X (.Attribute e f pos) (LE G.toGd W fun δ S Y K => t δ S Y fun x S1 => fldD G f x S1 K) := by
  refine ⟨fun pins s σ H Q I h => ?_⟩
  obtain ⟨δ, S, Y, K, R, ht, res, rw'⟩ := h
  refine attr_of hb (thn (he.run pins s σ H (fun v H1 => ∃ d S1, fldD G f d S1 K ∧ Post S H S1 H1 ∧ CellsOk G.toGd S1 H1 ∧ Rep G.toGd S1 H1 d v) I ⟨δ, S, Y, _, R, ht, fun d S1 v H1 k P c r => ⟨d, S1, k, P, c, r⟩, rw'⟩) fun u s1 hh => ?_)
  obtain ⟨v, H1, I1, rv, d, S1, k, P, c, r⟩ := hh
  unfold fldD at k
  split at k
  · rename_i a
    cases rep_obj r
    cases rv
    obtain ⟨C, fs, x, e1, cl, na, l, q⟩ := k
    obtain ⟨dx, ws, ha, hf⟩ := c _ _ e1
    obtain ⟨w, lw, rw2⟩ := repF_get hf l
    rw [hK] at cl na
    exact getattr_ok I1 ha cl na lw fun u s' I' ru => ⟨w, H1, I', ru, res _ S1 _ _ q P c rw2⟩
  · rename_i y oe C fs
    obtain ⟨mine, cls, apart, x, has, q⟩ := k
    simp only [Rep] at r
    obtain ⟨d, rfl, ⟨zc, fields⟩, bare | ⟨p, ws, hasD, _, at_p, same⟩⟩ := r
    · rw [bare.2] at has
      exact nomatch has
    · cases rv
      rw [hK] at cls apart
      have ⟨w, is, like⟩ := repF_get same has
      have ⟨od, there, keeps⟩ := err_dict I1 at_p
      have ⟨u, kept, ru⟩ := keeps f w is
      have here := (I1.pin (y, oe) (List.mem_append_left _ (hm _ mine))).1
      exact HandSPX.exc_get I1.kIn (err_inst (by rw [hasD]; exact there) zc fields here) cls.hg cls.hk cls.hs (PySem.W.findObj_own cls.hd apart rfl kept) (handed_of ru) ⟨w, H1, I1.tok _, ru, res _ S1 _ _ q P c like⟩
  · exact k.elim
end
end Sv

/-! Sv6: the check is sound: expressions. -/
namespace Sv
open PySem PySem.Spec PyProof.Rows L2
open L2H (RoomH)
/-- what the row's names mean -/
structure GOk (n : SN) (P : Program) (w : World) (KK : PySem.W.Frag) (mg : Str → Option Value) (base : Heap) (G : Gm) (k : Nat) : Prop where
  K : G.K = KK
  nd : n.N.Nodup
  fn : ∀ h j T x, G.fn h j = some T → n.fns[j]? = some x → ∃ f fd ps, mg x = some (.ref f) ∧ PySem.W.keepIn KK (.ref f) = true ∧ L2.Binds KK fd ps [] ∧ FnG P w KK mg base h k f fd ps (spD G.toGd T)
  gv : ∀ j x, n.gvs[j]? = some x → ∃ v u, mg x = some u ∧ RelV v u ∧ ∀ S H, Rep G.toGd S H (G.gv j) v
  cl : ∀ j x, n.cls[j]? = some x → mg x = some (.ref (G.cl j))
  bt : ∀ x, x ∈ bnames → mg x = none
structure ScOk (X : Cx) (sc : Scope) : Prop where
  vis : ∀ x, visB sc x = true → Vis X.env.scope x
  loc : ∀ x, locB sc x = true → Loc X.env.scope x ∧ (X.fn x = true ∨ X.env.scope.names.lookup x = some .local)
  gl : ∀ x, glB sc x = true → Gl X x
  fr : ∀ x, sc.names.lookup x = some .cell ∨ sc.names.lookup x = some .free → X.env.scope.names.lookup x = some .cell ∨ X.env.scope.names.lookup x = some .free
structure XC (n : SN) (X : Cx) (G : Gm) (W : WX) (k : Nat) (sc : Scope) : Prop where
  ok : GOk n X.prog X.w X.K X.mg X.base G k
  N : X.N = n.N
  sc : ScOk X sc
  rm : RoomH k X.A
  md : ModeC X G.m0
  tk : L2N.Takes X W
  ps : PassesOwn (model X.prog X.w) X.A X.env X.xe
abbrev noW : WX := fun _ _ _ _ => False
theorem relabel_at {env : Env} : ∀ {names : List (Str × NameKind)} {x : Str} {k : NameKind}, names.lookup x = some k →
    (names.map fun (n, k) => if (k == NameKind.free && env.scope.kind == .function && env.kindOf n == some .cell) then (n, NameKind.cell) else (n, k)).lookup x = some k ∨
    (k = .free ∧ (names.map fun (n, k) => if (k == NameKind.free && env.scope.kind == .function && env.kindOf n == some .cell) then (n, NameKind.cell) else (n, k)).lookup x = some .cell)
  | [], _, _, h => by simp at h
  | (m, j) :: r, x, k, h => by
    have ih := @relabel_at env r x k
    rw [List.map_cons]
    cases hx : x == m with
    | true =>
      rw [List.lookup_cons, hx] at h
      cases h
      by_cases q : (j == NameKind.free && env.scope.kind == .function && env.kindOf m == some .cell) = true
      · right
        refine ⟨?_, ?_⟩
        · simp only [Bool.and_eq_true, beq_iff_eq] at q
          cases j <;> first | rfl | (have := q.1.1; simp at this; done) | (exact absurd q.1.1 (by decide))
        · simp only [q, if_true]; rw [List.lookup_cons, hx]
      · left
        simp only [q, if_false, Bool.false_eq_true]; rw [List.lookup_cons, hx]
    | false =>
      rw [List.lookup_cons, hx] at h
      have e : ∀ z : NameKind, List.lookup x ((m, z) :: r.map fun (n, k) => if (k == NameKind.free && env.scope.kind == .function && env.kindOf n == some .cell) then (n, NameKind.cell) else (n, k)) =
          List.lookup x (r.map fun (n, k) => if (k == NameKind.free && env.scope.kind == .function && env.kindOf n == some .cell) then (n, NameKind.cell) else (n, k)) := fun z => by rw [List.lookup_cons, hx]
      dsimp only
      split
      · rw [e]; exact ih h
      · rw [e]; exact ih h
section
variable {n : SN} {X : Cx} {G : Gm} {W : WX} {k : Nat} {sc : Scope}
theorem ScOk.self (hf : ∀ x, X.fn x = true) : ScOk X X.env.scope :=
  ⟨fun _ h => visB_ok h, fun x h => ⟨locB_ok h, .inl (hf x)⟩, fun _ h => glB_ok h, fun _ h => h⟩
theorem XC.nd (c : XC n X G W k sc) : X.N.Nodup := c.N ▸ c.ok.nd
theorem XC.un (c : XC n X G W k sc) : X.A.units + 65 < cLine := by have := c.rm.un; omega
theorem XC.at (c : XC n X G W k sc) {i : Nat} {x : Str} (h : nmB n.N i x = true) : X.N[i]? = some x := c.N ▸ (nmB_ok h).1
theorem ScOk.blk {s : Shared} {H : Hp} {scope : Scope} {C : Addr} {cl : List (Str × Addr)} {fp : List Addr} : ScOk (X.blk s H scope (compEnvC scope cl C X.env) fp) scope := by
  have key : ∀ {x k}, scope.names.lookup x = some k → (X.blk s H scope (compEnvC scope cl C X.env) fp).env.scope.names.lookup x = some k ∨ (k = .free ∧ (X.blk s H scope (compEnvC scope cl C X.env) fp).env.scope.names.lookup x = some .cell) := fun {x k} h => relabel_at (env := X.env) h
  refine ⟨fun x h => ?_, fun x h => ?_, fun x h => ?_, fun x h => ?_⟩
  · rcases visB_ok h with h | h | h <;> rcases key h with q | ⟨_, q⟩
    · exact .inl q
    · exact .inr (.inl q)
    · exact .inr (.inl q)
    · exact .inr (.inl q)
    · exact .inr (.inr q)
    · exact .inr (.inl q)
  · rcases locB_ok h with h | h <;> rcases key h with q | ⟨e, q⟩
    · exact ⟨.inl q, .inr q⟩
    · cases e
    · refine ⟨.inr q, .inl ?_⟩
      show (scope.names.lookup x == some .cell) = true
      rw [h]; rfl
    · cases e
  · rcases key (glB_ok h) with q | ⟨e, _⟩
    · exact q
    · cases e
  · rcases h with h | h <;> rcases key h with q | ⟨_, q⟩
    · exact .inl q
    · exact .inl q
    · exact .inr q
    · exact .inl q
theorem XC.blk (c : XC n X G W k sc) (hm : G.m0 = none) {s : Shared} {H : Hp} {scope : Scope} {C : Addr} {cl : List (Str × Addr)} {fp : List Addr} : XC n (X.blk s H scope (compEnvC scope cl C X.env) fp) G noW k scope :=
  ⟨c.ok, c.N, ScOk.blk, c.rm, by have := c.md; rw [hm] at this ⊢; exact this, fun u s' ⟨_, _, _, _, _, _, _, _, _, _, _, _, _, _, _, _, z⟩ => z.elim, PassesOwn.never⟩
theorem XC.vis (c : XC n X G W k sc) {x : Str} (h : visB sc x = true) : Vis X.env.scope x := c.sc.vis x h
theorem XC.loc (c : XC n X G W k sc) {x : Str} (h : locB sc x = true) : Loc X.env.scope x := (c.sc.loc x h).1
theorem XC.sto (c : XC n X G W k sc) {x : Str} (h : locB sc x = true) : X.fn x = true ∨ X.env.scope.names.lookup x = some .local := (c.sc.loc x h).2
theorem XC.gl (c : XC n X G W k sc) {x : Str} (h : glB sc x = true) : Gl X x := c.sc.gl x h
end

/-! ### targets -/
def LG (g : Gd) (t : D → DS → SS → (DS → SS → Prop) → Prop) : TG := fun v σ H Q => ∃ d δ S K, Rel g S H δ σ ∧ Rep g S H d v ∧ t d δ S K ∧ ∀ δ' S' σ' H', K δ' S' → Post S H S' H' → Rel g S' H' δ' σ' → Q σ' H'
section
variable {n : SN} {X : Cx} {G : Gm} {W : WX} {k : Nat} {sc : Scope}
theorem PG.imp {e : Expr} {t t' : TG} (h : PG X e t) (w : ∀ v σ H Q, t' v σ H Q → t v σ H Q) : PG X e t' := ⟨fun pins s σ H v u Q I r q => h.run pins s σ H v u Q I r (w v σ H Q q)⟩
def gNames : List Nat → TGs
  | [] => gNil
  | i :: is => gCons (gName i) (gNames is)
theorem pgs_names (c : XC n X G W k sc) : ∀ (is : List Nat) (xs : List Expr), chkNs n sc is xs = true → PGs X xs (gNames is) ∧ (assignEach xs X.env).length = is.length ∧ (assignEach xs X.env).findIdx? (·.1) = none
  | [], xs, h => by
    unfold chkNs at h
    cases xs with
    | nil => exact ⟨pgs_nil, rfl, rfl⟩
    | cons _ _ => cases h
  | i :: is, xs, h => by
    unfold chkNs at h
    split at h
    · rename_i y p ys
      simp only [Bool.and_eq_true] at h
      obtain ⟨h1, h2, h3⟩ := pgs_names c is ys h.2
      refine ⟨pgs_cons (pg_name c.nd (c.at h.1.1) (c.loc h.1.2) (c.sto h.1.2)) h1, ?_, ?_⟩
      · show (assignEach (Expr.Name y p :: ys) X.env).length = _
        unfold assignEach
        rw [List.length_cons, List.length_cons, h2]
      · show (assignEach (Expr.Name y p :: ys) X.env).findIdx? _ = none
        unfold assignEach
        rw [List.findIdx?_cons, h3]; rfl
    · cases h
theorem setAll_rel {g : Gd} {S : SS} {H : Hp} : ∀ (is : List Nat) (ds : List D) (vs : List V) (δ : DS) (σ : L2.St) (Q : L2.St → Hp → Prop), Rel g S H δ σ → Reps g S H ds vs → ds.length = is.length → (∀ σ', Rel g S H (setAll δ is ds) σ' → Q σ' H) → gNames is vs σ H Q
  | [], ds, vs, δ, σ, Q, R, r, l, h => by
    cases ds with
    | nil => simp only [Reps] at r; subst r; exact ⟨rfl, h σ R⟩
    | cons _ _ => cases l
  | i :: is, ds, vs, δ, σ, Q, R, r, l, h => by
    cases ds with
    | nil => cases l
    | cons d ds =>
      simp only [Reps] at r
      obtain ⟨v, q, rfl, a, b⟩ := r
      exact ⟨v, q, rfl, setAll_rel is ds q _ _ Q ⟨R.sl.set a, R.ce⟩ b (by simpa using l) h⟩
theorem pg_D (c : XC n X G W k sc) {tg : List Nat} {one : Bool} {x : Expr} (hc : one = false → X.calm = true) (h : chkTg n sc tg one x = true) : PG X x (LG G.toGd fun d δ S K => denTg tg one d δ S K) := by
  cases one with
  | true =>
    unfold chkTg at h
    rw [if_pos rfl] at h
    split at h
    · rename_i i y p
      rw [Bool.and_eq_true] at h
      refine PG.imp (pg_name c.nd (c.at h.1) (c.loc h.2) (c.sto h.2)) fun v σ H Q hh => ?_
      obtain ⟨d, δ, S, K, R, r, ht, q⟩ := hh
      exact q _ _ _ _ ht (Post.refl _ _) ⟨R.sl.set r, R.ce⟩
    · cases h
  | false =>
    unfold chkTg at h
    rw [if_neg Bool.false_ne_true] at h
    split at h
    · rename_i xs kk p
      obtain ⟨h1, h2, h3⟩ := pgs_names c _ _ h
      refine PG.imp (pg_tup (hc rfl) h1 h2 h3) fun v σ H Q hh => ?_
      obtain ⟨d, δ, S, K, R, r, ht, q⟩ := hh
      unfold denTg at ht
      rw [if_neg Bool.false_ne_true] at ht
      obtain ⟨ds, e, l, hk⟩ := ht
      obtain ⟨p, vs, rfl, hl, hr⟩ := vw_tup r e
      rw [c.ok.K] at hl
      exact ⟨p, vs, rfl, hl, by rw [← hr.length]; exact l, setAll_rel tg ds vs δ σ Q R hr l fun σ' R' => q _ _ _ _ hk (Post.refl _ _) R'⟩
    · cases h
end

/-! ### the pieces of the reading -/
section
variable {g : Gd} {W : WX}
/-- behind one value -/
def LE1 (g : Gd) (W : WX) (t : D → RdE) (v : V) : TE := fun σ H Q => ∃ x δ S Y K, Rel g S H δ σ ∧ Rep g S H x v ∧ t x δ S Y K ∧ Res g S H K Q ∧ ResW g S H Y W
theorem le_bind {t1 : RdE} {t2 : D → RdE} {σ : L2.St} {H : Hp} {Q : VK} (h : LE g W (fun δ S Y K => t1 δ S Y fun x S1 => t2 x δ S1 Y K) σ H Q) : LE g W t1 σ H fun v H1 => LE1 g W t2 v σ H1 Q := by
  obtain ⟨δ, S, Y, K, R, ht, res, rw'⟩ := h
  exact ⟨δ, S, Y, _, R, ht, fun d S1 v H1 k P c r => ⟨d, δ, S1, Y, K, R.mono P c, r, k, res.mono P, rw'.mono P⟩, rw'⟩
def LE2 (g : Gd) (W : WX) (t : D → D → RdE) (v u : V) : TE := fun σ H Q => ∃ x y δ S Y K, Rel g S H δ σ ∧ Rep g S H x v ∧ Rep g S H y u ∧ t x y δ S Y K ∧ Res g S H K Q ∧ ResW g S H Y W
theorem le_bind1 {t1 : RdE} {t2 : D → D → RdE} {σ : L2.St} {H : Hp} {Q : VK} {v : V} (h : LE1 g W (fun x δ S Y K => t1 δ S Y fun y S1 => t2 x y δ S1 Y K) v σ H Q) : LE g W t1 σ H fun u H1 => LE2 g W t2 v u σ H1 Q := by
  obtain ⟨x, δ, S, Y, K, R, r0, ht, res, rw'⟩ := h
  exact ⟨δ, S, Y, _, R, ht, fun d S1 u H1 k P c r => ⟨x, d, δ, S1, Y, K, R.mono P c, r0.mono P, r, k, res.mono P, rw'.mono P⟩, rw'⟩
theorem le2_r2 {t : D → D → SS → DK → Prop} {σ : L2.St} {H : Hp} {Q : VK} {v u : V} (h : LE2 g W (fun x y _ S _ K => t x y S K) v u σ H Q) : rD2 g t v u H Q := by
  obtain ⟨x, y, δ, S, Y, K, R, r1, r2, ht, res, _⟩ := h
  exact ⟨x, y, S, K, R.ce, r1, r2, ht, res⟩
/-- a test's reading over K, from the value's -/
theorem lt_le {t : RdE} {σ : L2.St} {H : Hp} {Q : Bool → Hp → Prop} (h : LT g W (fun δ S Y K => t δ S Y fun d S' => ∃ k, d = .bl k ∧ K k S') σ H Q) : LE g W t σ H fun v H' => ∃ k, v = .bl k ∧ Q k H' := by
  obtain ⟨δ, S, Y, K, R, ht, res, rw'⟩ := h
  refine ⟨δ, S, Y, _, R, ht, fun d S1 v H1 k P c r => ?_, rw'⟩
  obtain ⟨b, rfl, k⟩ := k
  exact ⟨b, rep_bl r, res b S1 H1 k P c⟩
theorem lt_tru {K : PySem.W.Frag} (hK : g.K = K) {t : RdE} {σ : L2.St} {H : Hp} {Q : Bool → Hp → Prop} (h : LT g W (fun δ S Y K => t δ S Y fun d S' => truD d S' fun b => K b S') σ H Q) : LE g W t σ H fun v H' => ∃ k, TruV K v H' k ∧ Q k H' := by
  obtain ⟨δ, S, Y, K', R, ht, res, rw'⟩ := h
  refine ⟨δ, S, Y, _, R, ht, fun d S1 v H1 k P c r => ?_, rw'⟩
  subst hK
  have X0 : ∃ k, TruV g.K v H1 k ∧ K' k S1 := by
    have k : truD d S1 fun b => K' b S1 := k
    unfold truD at k
    split at k
    · rename_i e; cases vw_non r e; exact ⟨false, rfl, k⟩
    · rename_i b e; cases vw_bl r e; exact ⟨b, rfl, k⟩
    · rename_i b e; cases vw_int r e; exact ⟨_, rfl, k⟩
    · rename_i b e; cases vw_str r e; exact ⟨_, ⟨k.1, rfl⟩, k.2⟩
    · rename_i ds e
      obtain ⟨p, vs, rfl, hl, hr⟩ := vw_lst c r e
      exact ⟨_, .inl ⟨vs, hl, rfl⟩, by rw [isEmpty_reps hr]; exact k⟩
    · rename_i ds e
      obtain ⟨p, vs, rfl, hl, hr⟩ := vw_tup r e
      exact ⟨_, .inr (.inl ⟨vs, hl, rfl⟩), by rw [isEmpty_reps hr]; exact k⟩
    · exact k.elim
  obtain ⟨b, tv, k⟩ := X0
  exact ⟨b, tv, res b S1 H1 k P c⟩
end
section
variable {n : SN} {X : Cx} {G : Gm} {W : WX} {k : Nat} {sc : Scope}
theorem pe_false {x : Expr} {t : RdE} (h : ∀ δ S Y K, ¬ t δ S Y K) : PE X x (LE G.toGd W t) := ⟨fun _ _ _ _ _ _ ⟨_, _, _, _, _, q, _⟩ => (h _ _ _ _ q).elim⟩
theorem pt_false {x : Expr} {t : RdT} (h : ∀ δ S Y K, ¬ t δ S Y K) : PT X x (LT G.toGd W t) := ⟨fun _ _ _ _ _ _ ⟨_, _, _, _, _, q, _⟩ => (h _ _ _ _ q).elim⟩
theorem pw_false {x : Expr} {t : RdT} (h : ∀ δ S Y K, ¬ t δ S Y K) : PW X x (LT G.toGd W t) := ⟨fun _ _ _ _ _ _ _ ⟨_, _, _, _, _, q, _⟩ => (h _ _ _ _ q).elim⟩
/-- a test that is the value's truth -/
theorem pt_of {x : Expr} {t : RdE} (c : XC n X G W k sc) (h : PE X x (LE G.toGd W t)) (hp : plainT x = true) : PT X x (LT G.toGd W fun δ S Y K => t δ S Y fun d S' => truD d S' fun b => K b S') :=
  PT.imp (pt_truth h fun whole => plainT_ok hp whole) fun σ H Q q => lt_tru c.ok.K q
end
end Sv

/-! Sv7: the check is sound: expressions. -/
namespace Sv
open PySem PySem.Spec PyProof.Rows L2
open L2H (RoomH)
def RL.len : RL → Nat
  | .nil => 0 | .cons _ r => r.len + 1
/-- what is shown of an expression, of a list of them -/
structure SndE (n : SN) (sc : Scope) (e : RE) (x : Expr) : Prop where
  v : ∀ X G W k, XC n X G W k sc → PE X x (LE G.toGd W (den G e))
  t : ∀ X G W k, XC n X G W k sc → PT X x (LT G.toGd W (denT G e))
structure SndL (n : SN) (sc : Scope) (es : RL) (xs : List Expr) : Prop where
  a : ∀ X G W k, XC n X G W k sc → PA X xs (LA G.toGd W (dens G es))
  and : ∀ X G W k pos, XC n X G W k sc → PE X (.BoolOp .And xs pos) (LE G.toGd W (denAnd G es))
  or : ∀ X G W k pos, XC n X G W k sc → PE X (.BoolOp .Or xs pos) (LE G.toGd W (denOr G es))
  tand : ∀ X G W k pos, XC n X G W k sc → PW X (.BoolOp .And xs pos) (LT G.toGd W (denTAnd G es))
  tor : ∀ X G W k pos, XC n X G W k sc → PW X (.BoolOp .Or xs pos) (LT G.toGd W (denTOr G es))
  st : xs.all nstar = true
  nl : xs = [] → es = .nil
  ne : es.len = xs.length
def SndI (n : SN) (sc : Scope) (i : RI) (x : Expr) : Prop := ∀ X G W k tg, XC n X G W k sc → G.m0 = none → PI X tg x (LI G.toGd W (denI G i))
theorem LE.then {g : Gd} {W : WX} {t : RdE} {σ : L2.St} {H : Hp} {Q Q' : VK} (h : LE g W t σ H Q) (w : ∀ v H', Q v H' → Q' v H') : LE g W t σ H Q' := by
  obtain ⟨δ, S, Y, K, R, ht, res, rw'⟩ := h
  exact ⟨δ, S, Y, K, R, ht, fun d S1 v H1 k P c r => w _ _ (res d S1 v H1 k P c r), rw'⟩
theorem LT.then {g : Gd} {W : WX} {t : RdT} {σ : L2.St} {H : Hp} {Q Q' : Bool → Hp → Prop} (h : LT g W t σ H Q) (w : ∀ v H', Q v H' → Q' v H') : LT g W t σ H Q' := by
  obtain ⟨δ, S, Y, K, R, ht, res, rw'⟩ := h
  exact ⟨δ, S, Y, K, R, ht, fun d S1 v k P c => w _ _ (res d S1 v k P c), rw'⟩
theorem LA.then {g : Gd} {W : WX} {t : RdL} {σ : L2.St} {H : Hp} {Q Q' : List V → Hp → Prop} (h : LA g W t σ H Q) (w : ∀ v H', Q v H' → Q' v H') : LA g W t σ H Q' := by
  obtain ⟨δ, S, Y, K, R, ht, res, rw'⟩ := h
  exact ⟨δ, S, Y, K, R, ht, fun d S1 v H1 k P c r => w _ _ (res d S1 v H1 k P c r), rw'⟩
/-- a reading that is another's -/
theorem LE.re {g : Gd} {W : WX} {t t' : RdE} {σ : L2.St} {H : Hp} {Q : VK} (h : LE g W t σ H Q) (w : ∀ δ S Y K, t δ S Y K → t' δ S Y K) : LE g W t' σ H Q := by
  obtain ⟨δ, S, Y, K, R, ht, res, rw'⟩ := h
  exact ⟨δ, S, Y, K, R, w _ _ _ _ ht, res, rw'⟩
theorem LT.re {g : Gd} {W : WX} {t t' : RdT} {σ : L2.St} {H : Hp} {Q : Bool → Hp → Prop} (h : LT g W t σ H Q) (w : ∀ δ S Y K, t δ S Y K → t' δ S Y K) : LT g W t' σ H Q := by
  obtain ⟨δ, S, Y, K, R, ht, res, rw'⟩ := h
  exact ⟨δ, S, Y, K, R, w _ _ _ _ ht, res, rw'⟩
section
variable {n : SN} {X : Cx} {G : Gm} {W : WX} {k : Nat} {sc : Scope} {a b c' : RE} {l r t : Expr} {pos : Pos} {es : RL} {xs : List Expr}
/-- behind a list of values -/
theorem la_bind {g : Gd} {t1 : RdL} {t2 : List D → RdE} {σ : L2.St} {H : Hp} {Q : VK} (h : LE g W (fun δ S Y K => t1 δ S Y fun x S1 => t2 x δ S1 Y K) σ H Q) :
    LA g W t1 σ H fun vs H1 => ∃ xs δ S Y K, Rel g S H1 δ σ ∧ Reps g S H1 xs vs ∧ t2 xs δ S Y K ∧ Res g S H1 K Q ∧ ResW g S H1 Y W := by
  obtain ⟨δ, S, Y, K, R, ht, res, rw'⟩ := h
  exact ⟨δ, S, Y, _, R, ht, fun d S1 v H1 k P c r => ⟨d, δ, S1, Y, K, R.mono P c, r, k, res.mono P, rw'.mono P⟩, rw'⟩
theorem s_bin {op : Operator} (c : XC n X G W k sc) (ha : PE X l (LE G.toGd W (den G a))) (hb : PE X r (LE G.toGd W (den G b))) : PE X (.BinOp l op r pos) (LE G.toGd W (den G (.bin op a b))) :=
  PE.imp (pe_op (opD_ok c.ok.K op) ha hb) fun σ H Q h => by
    rw [den] at h
    exact (le_bind (t1 := den G a) (t2 := fun x δ S1 Y K => den G b δ S1 Y fun y S2 => opD op x y S2 K) h).then fun v H1 q =>
      (le_bind1 (t1 := den G b) (t2 := fun x y δ S2 Y K => opD op x y S2 K) q).then fun u H2 q => le2_r2 q
theorem s_neg (ha : PE X l (LE G.toGd W (den G a))) : PE X (.UnaryOp .USub l pos) (LE G.toGd W (den G (.neg a))) :=
  PE.imp (pe_un un_neg ha) fun σ H Q h => by
    rw [den] at h
    refine (le_bind (t1 := den G a) (t2 := fun x δ S1 Y K => ∃ i, x = .int i ∧ K (.int (-i)) S1) h).then fun v H1 q => ?_
    obtain ⟨x, δ, S, Y, K, R, r, ⟨i, rfl, q⟩, res, _⟩ := q
    exact ⟨i, rep_int r, res.int q R.ce⟩
/-- a value's truth -/
theorem le1_tru {X : Cx} {v : V} {σ : L2.St} {H : Hp} {Q : VK} {t : D → Bool → RdE} {x : D} {δ : DS} {S : SS} {Y : XD'} {K : DK} (hK : G.K = X.K) (R : Rel G.toGd S H δ σ) (r : Rep G.toGd S H x v) (h : truD x S fun b => t x b δ S Y K) : ∃ b, TruV X.K v H b ∧ t x b δ S Y K :=
  truD_ok hK R.ce r h
theorem s_nt (c : XC n X G W k sc) (ha : PE X l (LE G.toGd W (den G a))) : PE X (.UnaryOp .Not l pos) (LE G.toGd W (den G (.nt a))) :=
  PE.imp (pe_notT ha) fun σ H Q h => by
    rw [den] at h
    refine (le_bind (t1 := den G a) (t2 := fun x δ S1 Y K => truD x S1 fun b => K (.bl (!b)) S1) h).then fun v H1 q => ?_
    obtain ⟨x, δ, S, Y, K, R, r, q, res, _⟩ := q
    obtain ⟨b, tv, q⟩ := truD_ok c.ok.K R.ce r q
    exact ⟨b, tv, res.bl q R.ce⟩
theorem s_ntT (ha : PT X l (LT G.toGd W (denT G a))) : PT X (.UnaryOp .Not l pos) (LT G.toGd W (denT G (.nt a))) :=
  PT.imp (pt_not ha) fun σ H Q h => by
    rw [denT] at h
    obtain ⟨δ, S, Y, K, R, ht, res, rw'⟩ := h
    exact ⟨δ, S, Y, _, R, ht, fun b S' H' k P c => res _ S' H' k P c, rw'⟩
theorem s_ife (hc : PT X t (LT G.toGd W (denT G c'))) (ha : PE X l (LE G.toGd W (den G a))) (hb : PE X r (LE G.toGd W (den G b))) : PE X (.IfExp t l r pos) (LE G.toGd W (den G (.ife c' a b))) :=
  PE.imp (pe_ifExp hc ha hb) fun σ H Q h => by
    rw [den] at h
    obtain ⟨δ, S, Y, K, R, ht, res, rw'⟩ := h
    refine ⟨δ, S, Y, _, R, ht, fun b S' H' k P c => ?_, rw'⟩
    cases b with
    | true => exact ⟨δ, S', Y, K, R.mono P c, k, res.mono P, rw'.mono P⟩
    | false => exact ⟨δ, S', Y, K, R.mono P c, k, res.mono P, rw'.mono P⟩
theorem s_cmp {op : CmpOp} (c : XC n X G W k sc) (hs : nsetd r = true) (ha : PE X l (LE G.toGd W (den G a))) (hb : PE X r (LE G.toGd W (den G b))) : PE X (.Compare l [op] [r] pos) (LE G.toGd W (den G (.cmp op a b))) :=
  PE.imp (pe_cmpR (cmpE_ok c.ok.K c.un op) ha hb (nsetd_ok hs op)) fun σ H Q h => by
    rw [den] at h
    exact (le_bind (t1 := den G a) (t2 := fun x δ S1 Y K => den G b δ S1 Y fun y S2 => cmpE op x y S2 K) h).then fun v H1 q =>
      (le_bind1 (t1 := den G b) (t2 := fun x y δ S2 Y K => cmpE op x y S2 K) q).then fun u H2 q => le2_r2 q
theorem s_cmpT {op : CmpOp} (c : XC n X G W k sc) (hs : nsetd r = true) (ha : PE X l (LE G.toGd W (den G a))) (hb : PE X r (LE G.toGd W (den G b))) : PT X (.Compare l [op] [r] pos) (LT G.toGd W (denT G (.cmp op a b))) :=
  PT.imp (pt_cmpR (cmpE_ok c.ok.K c.un op) ha hb (nsetd_ok hs op)) fun σ H Q h => by
    rw [denT] at h
    have h := lt_le (t := fun δ S Y K => den G a δ S Y fun x S1 => den G b δ S1 Y fun y S2 => cmpE op x y S2 K) h
    exact (le_bind (t1 := den G a) (t2 := fun x δ S1 Y K => den G b δ S1 Y fun y S2 => cmpE op x y S2 K) h).then fun v H1 q =>
      (le_bind1 (t1 := den G b) (t2 := fun x y δ S2 Y K => cmpE op x y S2 K) q).then fun u H2 q => le2_r2 q
/-- the chain's reading -/
theorem chain_rd {o1 o2 : CmpOp} {σ : L2.St} {H : Hp} {Q : VK} (h : LE G.toGd W (den G (.chn o1 o2 a b c')) σ H Q) : tChain (rD2 G.toGd (cmpE o1)) (rD2 G.toGd (cmpE o2)) (LE G.toGd W (den G a)) (LE G.toGd W (den G b)) (LE G.toGd W (den G c')) σ H Q := by
  rw [den] at h
  refine (le_bind (t1 := den G a) (t2 := fun x δ S1 Y K => den G b δ S1 Y fun y S2 => cmpE o1 x y S2 fun z S3 => ∃ k, z = .bl k ∧ if k = true then den G c' δ S3 Y fun w S4 => cmpE o2 y w S4 K else K (.bl false) S3) h).then fun v H1 q => ?_
  refine (le_bind1 (t1 := den G b) (t2 := fun x y δ S2 Y K => cmpE o1 x y S2 fun z S3 => ∃ k, z = .bl k ∧ if k = true then den G c' δ S3 Y fun w S4 => cmpE o2 y w S4 K else K (.bl false) S3) q).then fun u H2 q => ?_
  obtain ⟨x, y, δ, S, Y, K, R, r1, r2, ht, res, rw'⟩ := q
  refine ⟨x, y, S, _, R.ce, r1, r2, ht, fun z S3 zv H3 k P c r => ?_⟩
  obtain ⟨b0, rfl, k⟩ := k
  refine ⟨b0, rep_bl r, ?_⟩
  cases b0 with
  | false => exact (res.mono P).bl k c
  | true => exact ⟨δ, S3, Y, _, R.mono P c, k, fun w S4 wv H4 k P2 c2 r' => ⟨y, w, S4, K, c2, (r2.mono P).mono P2, r', k, (res.mono P).mono P2⟩, rw'.mono P⟩
theorem s_chn {o1 o2 : CmpOp} (c : XC n X G W k sc) (hs : nsetd t = true) (ha : PE X l (LE G.toGd W (den G a))) (hb : PE X r (LE G.toGd W (den G b))) (hc : PE X t (LE G.toGd W (den G c'))) : PE X (.Compare l [o1, o2] [r, t] pos) (LE G.toGd W (den G (.chn o1 o2 a b c'))) :=
  PE.imp (pe_chain (cmpE_ok c.ok.K c.un o1) (cmpE_ok c.ok.K c.un o2) ha hb hc (by show lastMarks [o2] [t] = false; exact nsetd_ok hs o2)) fun σ H Q h => chain_rd h
theorem s_chnT {o1 o2 : CmpOp} (c : XC n X G W k sc) (hs : nsetd t = true) (ha : PE X l (LE G.toGd W (den G a))) (hb : PE X r (LE G.toGd W (den G b))) (hc : PE X t (LE G.toGd W (den G c'))) : PT X (.Compare l [o1, o2] [r, t] pos) (LT G.toGd W (denT G (.chn o1 o2 a b c'))) :=
  PT.imp (pt_chain (cmpE_ok c.ok.K c.un o1) (cmpE_ok c.ok.K c.un o2) ha hb hc (by show lastMarks [o2] [t] = false; exact nsetd_ok hs o2)) fun σ H Q h => by
    refine chain_rd (lt_le (t := den G (.chn o1 o2 a b c')) ?_)
    refine h.re fun δ S Y K q => ?_
    rw [denT] at q
    rw [den]
    refine q
theorem s_lst {cell : Bool} (ha : PA X xs (LA G.toGd W (dens G es))) : PE X (.List xs pos) (LE G.toGd W (den G (.lst cell es))) :=
  PE.imp (pe_lst ha) fun σ H Q h => by
    rw [den] at h
    refine (la_bind (t1 := dens G es) (t2 := fun ds δ S1 Y K => ds.length ≤ sizeLine ∧ if cell = true then ∀ p, S1 p = none → K (.obj p) (S1.set p (.lst ds)) else K (.lst ds) S1) h).then fun vs H1 q => ?_
    obtain ⟨ds, δ, S, Y, K, R, r, ⟨hz, q⟩, res, _⟩ := q
    refine ⟨by rw [← r.length]; exact hz, fun p hp => ?_⟩
    cases cell with
    | true => exact res.lstC q R.ce r hp
    | false => exact res.lst q R.ce r hp
theorem s_tup {kk : Nat} (ha : PA X xs (LA G.toGd W (dens G es))) : PE X (.Tuple xs kk pos) (LE G.toGd W (den G (.tup es))) :=
  PE.imp (pe_tup ha) fun σ H Q h => by
    rw [den] at h
    refine (la_bind (t1 := dens G es) (t2 := fun ds δ S1 Y K => ds.length ≤ sizeLine ∧ K (.tup ds) S1) h).then fun vs H1 q => ?_
    obtain ⟨ds, δ, S, Y, K, R, r, ⟨hz, q⟩, res, _⟩ := q
    exact ⟨by rw [← r.length]; exact hz, fun p hp => res.tup q R.ce r hp⟩
theorem s_ix (c : XC n X G W k sc) (hs : nslice r = true) (ha : PE X l (LE G.toGd W (den G a))) (hb : PE X r (LE G.toGd W (den G b))) : PE X (.Subscript l r pos) (LE G.toGd W (den G (.ix a b))) :=
  PE.imp (pe_ix (ixD_ok c.ok.K c.un) ha hb (nslice_ok hs)) fun σ H Q h => by
    rw [den] at h
    exact (le_bind (t1 := den G a) (t2 := fun x δ S1 Y K => den G b δ S1 Y fun y S2 => ixD x y S2 K) h).then fun v H1 q =>
      (le_bind1 (t1 := den G b) (t2 := fun x y δ S2 Y K => ixD x y S2 K) q).then fun u H2 q => le2_r2 q
/-- a slice's part -/
def LO (g : Gd) (W : WX) (t : DS → SS → XD' → (Option Int → SS → Prop) → Prop) : TO := fun σ H Q => ∃ δ S Y K, Rel g S H δ σ ∧ t δ S Y K ∧ (∀ o S' H', K o S' → Post S H S' H' → CellsOk g S' H' → Q o H') ∧ ResW g S H Y W
theorem PO.imp {e : Option Expr} {t t' : TO} (h : PO X e t) (w : ∀ σ H Q, t' σ H Q → t σ H Q) : PO X e t' := ⟨fun pins s σ H Q I q => h.run pins s σ H Q I (w σ H Q q)⟩
theorem s_sl {lo hi : RO} {p q : Option Expr} {p2 : Pos} (c : XC n X G W k sc) (ha : PE X l (LE G.toGd W (den G a))) (hl : PO X p (LO G.toGd W (denO G lo))) (hh : PO X q (LO G.toGd W (denO G hi))) : PE X (.Subscript l (.Slice p q none p2) pos) (LE G.toGd W (den G (.sl a lo hi))) :=
  PE.imp (pe_slice (slD_ok c.ok.K) ha hl hh) fun σ H Q h => by
    rw [den] at h
    refine (le_bind (t1 := den G a) (t2 := fun x δ S1 Y K => denO G lo δ S1 Y fun l S2 => denO G hi δ S2 Y fun u S3 => slD x l u S3 K) h).then fun v H1 q => ?_
    obtain ⟨x, δ, S, Y, K, R, r, q, res, rw'⟩ := q
    refine ⟨δ, S, Y, _, R, q, fun o S1 H1 k P c => ⟨δ, S1, Y, _, R.mono P c, k, fun o2 S2 H2 k P2 c2 => ⟨x, S2, K, c2, (r.mono P).mono P2, k, (res.mono P).mono P2⟩, rw'.mono P⟩, rw'⟩
theorem s_call {j : Nat} {x : Str} {p : Pos} (c : XC n X G W k sc) (hn : nmB n.fns j x = true) (hg : glB sc x = true) (hL : SndL n sc es xs) : PE X (.Call (.Name x p) xs [] pos) (LE G.toGd W (den G (.call j es))) := by
  cases hT : G.fn G.m0.isSome j with
  | none =>
    refine pe_false fun δ S Y K h => ?_
    rw [den] at h
    obtain ⟨T, e, _⟩ := h
    rw [hT] at e; cases e
  | some T =>
    obtain ⟨f, fd, ps, h1, h2, h3, F⟩ := c.ok.fn _ j T x hT (nmB_ok hn).1
    have hs := hL.st
    have ha := hL.a X G W k c
    have fin : ∀ {σ : L2.St} {H : Hp} {Q : VK}, LE G.toGd W (den G (.call j es)) σ H Q → tCallG G.m0 (spD G.toGd T) [] (WE W) (LA G.toGd W (dens G es)) σ H Q := by
      intro σ H Q h
      have h := h.re (t' := fun δ S Y K => dens G es δ S Y fun ds S1 => T G.m0 ds S1 K fun C fs S' => Y C fs δ S') fun δ S Y K q => by
        rw [den] at q
        obtain ⟨T', e, q⟩ := q
        rw [hT] at e; cases e
        exact q
      refine (la_bind (t1 := dens G es) (t2 := fun ds δ S1 Y K => T G.m0 ds S1 K fun C fs S' => Y C fs δ S') h).then fun vs H1 q => ?_
      obtain ⟨ds, δ, S, Y, K, R, r, q, res, rw'⟩ := q
      rw [List.append_nil]
      exact ⟨ds, S, K, _, R.ce, r, q, res, fun C fs S' d H' y P cc x => rw' C fs δ S' d σ H' y P (R.mono P cc) x⟩
    cases xs with
    | nil =>
      refine PE.imp (pe_callG0 F rfl c.rm c.md ⟨c.gl hg, h1, h2, (nmB_ok hn).2.1⟩ h3 .nil (fun σ => L2N.passAt c.tk σ)) fun σ H Q h => ?_
      have hes := hL.nl rfl
      obtain ⟨δ, S, Y, K, R, ht, res, rw'⟩ := fin h
      rw [hes, dens] at ht
      exact res [] S [] H ht (Post.refl _ _) R.ce (by simp only [Reps])
    | cons y ys =>
      rw [List.all_cons, Bool.and_eq_true] at hs
      exact PE.imp (pe_callG F rfl c.rm c.md ⟨c.gl hg, h1, h2, (nmB_ok hn).2.1⟩ h3 .nil (fun σ => L2N.passAt c.tk σ) ha (nstar_ok hs.1) (stars_any hs.2)) fun σ H Q h => fin h
theorem bn_ok (c : XC n X G W k sc) (b : Bn) (hb : b.needs G.m0) : ∃ id, CallR X (.builtin id) (rDc G.toGd b.den) ∧ bootBuiltins b.nm = some (.builtin id) ∧ b.nm ∈ bnames ∧ b.nm ≠ "__name__" ∧ (b.nm == ("__debug__" : Str)) = false := by
  have calm : G.m0 = none → X.calm = true := fun e => by have := c.md; rw [e] at this; exact this
  cases b with
  | len => exact ⟨"len", len_ok c.ok.K, by decide +kernel, by decide +kernel, by decide +kernel, by decide +kernel⟩
  | abs => exact ⟨"abs", abs_ok, by decide +kernel, by decide +kernel, by decide +kernel, by decide +kernel⟩
  | max => exact ⟨"max", max_ok (calm hb), by decide +kernel, by decide +kernel, by decide +kernel, by decide +kernel⟩
  | min => exact ⟨"min", min_ok (calm hb), by decide +kernel, by decide +kernel, by decide +kernel, by decide +kernel⟩
theorem s_bi {b : Bn} {p : Pos} (c : XC n X G W k sc) (hg : glB sc b.nm = true) (hne : xs.isEmpty = false) (hL : SndL n sc es xs) : PE X (.Call (.Name b.nm p) xs [] pos) (LE G.toGd W (den G (.bi b es))) := by
  by_cases hb : b.needs G.m0
  · obtain ⟨id, hc, hv, hm, hn, hd⟩ := bn_ok c b hb
    have hs := hL.st
    cases xs with
    | nil => cases hne
    | cons y ys =>
      rw [List.all_cons, Bool.and_eq_true] at hs
      refine PE.imp (pe_callB hc (c.gl hg) (c.ok.bt _ hm) hv (hL.a X G W k c) hn hd (nstar_ok hs.1) (stars_any hs.2)) fun σ H Q h => ?_
      have h := h.re (t' := fun δ S Y K => dens G es δ S Y fun ds S1 => b.den ds S1 K) fun δ S Y K q => by
        rw [den] at q
        exact q.2
      refine (la_bind (t1 := dens G es) (t2 := fun ds δ S1 Y K => b.den ds S1 K) h).then fun vs H1 q => ?_
      obtain ⟨ds, δ, S, Y, K, R, r, q, res, _⟩ := q
      exact ⟨ds, S, K, R.ce, r, q, res⟩
  · refine pe_false fun δ S Y K h => ?_
    rw [den] at h
    exact hb h.1
theorem s_isi {cn : Cn} {x z : Str} {p p2 : Pos} (c : XC n X G W k sc) (ex : x = ("isinstance" : Str)) (hg : glB sc x = true) (hz : glB sc z = true) (hst : nstar l = true) (ha : PE X l (LE G.toGd W (den G a)))
    (hc : (match cn with
      | .ty t => decide (bootBuiltins z = some (.type t)) && decide (z ≠ ("__name__" : Str)) && decide ((z == ("__debug__" : Str)) = false) && decide (z ∈ bnames)
      | .own j => nmB n.cls j z) = true) : PE X (.Call (.Name x p) [l, .Name z p2] [] pos) (LE G.toGd W (den G (.isi a cn))) := by
  subst ex
  have hcl : ∃ cv, PE X (.Name z p2) (tC cv) ∧ ClsV cv (cn.val G) := by
    cases cn with
    | ty t =>
      simp only [Bool.and_eq_true, decide_eq_true_eq] at hc
      obtain ⟨⟨⟨h1, h2⟩, h3⟩, h4⟩ := hc
      exact ⟨.ty t, pe_bltn (c.gl hz) (c.ok.bt _ h4) h1 rfl h2 h3, .ty t⟩
    | own j =>
      have h := c.ok.cl j z (nmB_ok hc).1
      exact ⟨.ref (G.cl j), pe_glob (c.gl hz) h rfl (nmB_ok hc).2.1, .own _⟩
  obtain ⟨cv, pz, cz⟩ := hcl
  refine PE.imp (pe_callB call_isP (c.gl hg) (c.ok.bt _ (by decide +kernel)) (by decide +kernel) (pa_cons ha (pa_cons pz pa_nil rfl) (nstar_ok hst)) (by decide +kernel) (by decide +kernel) (nstar_ok hst) rfl) fun σ H Q h => ?_
  rw [den] at h
  refine (le_bind (t1 := den G a) (t2 := fun x δ S1 Y K => ∃ t b, tyD S1 x = some t ∧ tyOk G S1 x ∧ PySem.W.kitOne G.K t (cn.val G) = some b ∧ K (.bl b) S1) h).then fun v H1 q => ?_
  obtain ⟨x, δ, S, Y, K, R, r, ⟨t, b, e1, e2, e3, q⟩, res, _⟩ := q
  rw [c.ok.K] at e3
  exact ⟨v, cv, t, _, b, rfl, cz, tyP_of c.ok.K c.md.p R.ce r e1 e2, e3, res.bl q R.ce⟩
end
end Sv

/-! Sv8: the check is sound: iterators, comprehensions, the whole of the expressions. -/
namespace Sv
open PySem PySem.Spec PyProof.Rows L2
open L2H (RoomH)
section
variable {g : Gd} {S1 : SS} {H1 : Hp}
theorem itOk_lst {d : D} {v : V} {ds : List D} {a : Addr} (e : v = .ref a) (r : Rep g S1 H1 d v) : ItOk g S1 H1 (Itl g.K a) ds fun S' => vw S' d = .lst ds := by
  subst e
  have get : ∀ {S H}, Post S1 H1 S H → CellsOk g S H → vw S d = .lst ds → ∃ vs, SqL g.K H a vs ∧ Reps g S H ds vs := fun {S H} P c ok => by
    obtain ⟨p, vs, e, hl, hr⟩ := vw_lst c (r.mono P) ok
    cases e
    exact ⟨vs, hl, hr⟩
  refine ⟨fun i S H hi P c ok => ?_, fun i S H x H' d' hd P c ok y => ?_, fun i S H hi P c ok => ?_⟩
  · obtain ⟨vs, hl, hr⟩ := get P c ok
    have := hr.length
    exact ⟨vs, vs[i]'(by omega), hl, by simp⟩
  · obtain ⟨vs, hl, hr⟩ := get P c ok
    obtain ⟨e, y⟩ := y
    subst e
    obtain ⟨w, hw, rw'⟩ := hr.get hd
    have := y vs hl
    rw [hw] at this
    cases this
    exact ⟨Post.refl _ _, c, rw'⟩
  · obtain ⟨vs, hl, hr⟩ := get P c ok
    exact ⟨vs, hl, by rw [← hr.length]; exact hi⟩
theorem itOk_tup {d : D} {v : V} {ds : List D} {a : Addr} (e : v = .ref a) (r : Rep g S1 H1 d v) (ed : vw S1 d = .tup ds) : ItOk g S1 H1 (Itt g.K a) ds fun S' => True := by
  subst e
  have ed' := vw_tupE ed
  subst ed'
  have get : ∀ {S H}, Post S1 H1 S H → ∃ vs, SqT g.K H a vs ∧ Reps g S H ds vs := fun {S H} P => by
    obtain ⟨p, vs, e, hl, hr⟩ := vw_tup (S := S) (d := .tup ds) (r.mono P) rfl
    cases e
    exact ⟨vs, hl, hr⟩
  refine ⟨fun i S H hi P c ok => ?_, fun i S H x H' d' hd P c ok y => ?_, fun i S H hi P c ok => ?_⟩
  · obtain ⟨vs, hl, hr⟩ := get P
    have := hr.length
    exact ⟨vs, vs[i]'(by omega), hl, by simp⟩
  · obtain ⟨vs, hl, hr⟩ := get P
    obtain ⟨e, y⟩ := y
    subst e
    obtain ⟨w, hw, rw'⟩ := hr.get hd
    have := y vs hl
    rw [hw] at this
    cases this
    exact ⟨Post.refl _ _, c, rw'⟩
  · obtain ⟨vs, hl, hr⟩ := get P
    exact ⟨vs, hl, by rw [← hr.length]; exact hi⟩
theorem rngD_len {lo : Int} {n : Nat} : (rngD lo n).length = n := by simp [rngD]
theorem rngD_at {lo : Int} {n i : Nat} {d : D} (h : (rngD lo n)[i]? = some d) : i < n ∧ d = .int (lo + (i : Int)) := by
  unfold rngD at h
  rw [List.getElem?_map] at h
  cases e : (List.range n)[i]? with
  | none => rw [e] at h; cases h
  | some j =>
    rw [e] at h
    cases h
    obtain ⟨h1, h2⟩ := List.getElem?_eq_some_iff.mp e
    rw [List.getElem_range] at h2
    subst h2
    exact ⟨by simpa using h1, rfl⟩
theorem itOk_rng {lo : Int} {n : Nat} : ItOk g S1 H1 (Itr lo n) (rngD lo n) fun S' => True := by
  refine ⟨fun i S H hi P c ok => ?_, fun i S H x H' d' hd P c ok y => ?_, fun i S H hi P c ok => ?_⟩
  · rw [rngD_len] at hi; exact hi
  · obtain ⟨e, y⟩ := y
    subst e y
    obtain ⟨_, rfl⟩ := rngD_at hd
    exact ⟨Post.refl _ _, c, by simp only [Rep]⟩
  · rw [rngD_len] at hi; exact hi
end
section
variable {n : SN} {X : Cx} {G : Gm} {W : WX} {k : Nat} {sc : Scope} {a b c' : RE} {l r t : Expr} {pos : Pos} {es : RL} {xs : List Expr}
theorem li_e {tg : Expr} {g : Gd} {t1 : RdE} {t2 : D → RdI} {σ : L2.St} {H : Hp} {R : It → Hp → Prop} (h : LI g W (fun δ S Y K => t1 δ S Y fun x S1 => t2 x δ S1 Y K) σ H R) :
    LE g W t1 σ H fun v H1 => ∃ x δ S Y K, Rel g S H1 δ σ ∧ Rep g S H1 x v ∧ t2 x δ S Y K ∧ (∀ ds ok S' H' J, K ds ok S' → Post S H1 S' H' → CellsOk g S' H' → ItOk g S' H' J ds ok → R J H') ∧ ResW g S H1 Y W := by
  obtain ⟨δ, S, Y, K, R0, ht, res, rw'⟩ := h
  exact ⟨δ, S, Y, _, R0, ht, fun d S1 v H1 k P c r => ⟨d, δ, S1, Y, K, R0.mono P c, r, k, fun ds ok S' H' J q P2 => res ds ok S' H' J q (P.trans P2), rw'.mono P⟩, rw'⟩
theorem i_lst {tg : Expr} (c : XC n X G W k sc) (ha : PE X l (LE G.toGd W (den G a))) : PI X tg l (LI G.toGd W (denI G (.lst a))) :=
  PI.imp (pi_list ha) fun σ H R h => by
    have h : LI G.toGd W (fun δ S Y K => den G a δ S Y fun d S1 => ∃ ds, vw S1 d = .lst ds ∧ K ds (fun S' => vw S' d = .lst ds) S1) σ H R := by
      obtain ⟨δ, S, Y, K, R, ht, q⟩ := h
      rw [denI] at ht
      exact ⟨δ, S, Y, K, R, ht, q⟩
    refine (li_e (tg := tg) (t1 := den G a) (t2 := fun d δ S1 Y K => ∃ ds, vw S1 d = .lst ds ∧ K ds (fun S' => vw S' d = .lst ds) S1) h).then fun v H1 q => ?_
    obtain ⟨x, δ, S, Y, K, R, r, ⟨ds, e, q⟩, res, _⟩ := q
    obtain ⟨p, vs, rfl, hl, hr⟩ := vw_lst R.ce r e
    rw [c.ok.K] at hl
    refine ⟨p, rfl, ⟨vs, hl⟩, ?_⟩
    have := res ds _ S H1 _ q (Post.refl _ _) R.ce (itOk_lst rfl r)
    rwa [c.ok.K] at this
theorem i_tup {tg : Expr} (c : XC n X G W k sc) (ha : PE X l (LE G.toGd W (den G a))) : PI X tg l (LI G.toGd W (denI G (.tup a))) :=
  PI.imp (pi_tup ha) fun σ H R h => by
    have h : LI G.toGd W (fun δ S Y K => den G a δ S Y fun d S1 => ∃ ds, vw S1 d = .tup ds ∧ K ds (fun S' => True) S1) σ H R := by
      obtain ⟨δ, S, Y, K, R, ht, q⟩ := h
      rw [denI] at ht
      exact ⟨δ, S, Y, K, R, ht, q⟩
    refine (li_e (tg := tg) (t1 := den G a) (t2 := fun d δ S1 Y K => ∃ ds, vw S1 d = .tup ds ∧ K ds (fun S' => True) S1) h).then fun v H1 q => ?_
    obtain ⟨x, δ, S, Y, K, R, r, ⟨ds, e, q⟩, res, _⟩ := q
    obtain ⟨p, vs, rfl, hl, hr⟩ := vw_tup r e
    rw [c.ok.K] at hl
    refine ⟨p, rfl, ⟨vs, hl⟩, ?_⟩
    have := res ds _ S H1 _ q (Post.refl _ _) R.ce (itOk_tup rfl r e)
    rwa [c.ok.K] at this
theorem i_rng1 {tg : Expr} {p : Pos} (c : XC n X G W k sc) (hg : glB sc "range" = true) (hs : nstar l = true) (ha : PE X l (LE G.toGd W (den G a))) : PI X tg (.Call (.Name "range" p) [l] [] pos) (LI G.toGd W (denI G (.rng1 a))) :=
  PI.imp (pi_range1 (c.gl hg) (c.ok.bt _ (by decide +kernel)) (pa_cons ha pa_nil (nstar_ok hs)) (nstar_ok hs)) fun σ H R h => by
    have h : LI G.toGd W (fun δ S Y K => den G a δ S Y fun d S1 => ∃ j, d = .int j ∧ -(2 ^ 62) ≤ j ∧ j < 2 ^ 62 ∧ K (rngD 0 j.toNat) (fun _ => True) S1) σ H R := by
      obtain ⟨δ, S, Y, K, R, ht, q⟩ := h
      rw [denI] at ht
      exact ⟨δ, S, Y, K, R, ht, q⟩
    refine (li_e (tg := tg) (t1 := den G a) (t2 := fun d δ S1 Y K => ∃ j, d = .int j ∧ -(2 ^ 62) ≤ j ∧ j < 2 ^ 62 ∧ K (rngD 0 j.toNat) (fun _ => True) S1) h).then fun v H1 q => ?_
    obtain ⟨x, δ, S, Y, K, R, r, ⟨j, rfl, h1, h2, q⟩, res, _⟩ := q
    cases rep_int r
    exact ⟨j, rfl, h1, h2, res _ _ S H1 _ q (Post.refl _ _) R.ce itOk_rng⟩
theorem i_rng2 {tg : Expr} {p : Pos} (c : XC n X G W k sc) (hg : glB sc "range" = true) (hs : nstar l = true) (hs2 : nstar r = true) (ha : PE X l (LE G.toGd W (den G a))) (hb : PE X r (LE G.toGd W (den G b))) : PI X tg (.Call (.Name "range" p) [l, r] [] pos) (LI G.toGd W (denI G (.rng2 a b))) :=
  PI.imp (pi_range2 (c.gl hg) (c.ok.bt _ (by decide +kernel)) (pa_cons ha (pa_cons hb pa_nil (nstar_ok hs2)) (nstar_ok hs)) (by rw [nstar_ok hs, nstar_ok hs2]; rfl) (by rw [nstar_ok hs2]; rfl)) fun σ H R h => by
    have h : LI G.toGd W (fun δ S Y K => den G a δ S Y fun d S1 => den G b δ S1 Y fun d2 S2 => ∃ i j, d = .int i ∧ d2 = .int j ∧ (-(2 ^ 62) ≤ i ∧ i < 2 ^ 62 ∧ -(2 ^ 62) ≤ j ∧ j < 2 ^ 62) ∧ K (rngD i (j - i).toNat) (fun _ => True) S2) σ H R := by
      obtain ⟨δ, S, Y, K, R, ht, q⟩ := h
      rw [denI] at ht
      exact ⟨δ, S, Y, K, R, ht, q⟩
    refine (li_e (tg := tg) (t1 := den G a) (t2 := fun d δ S1 Y K => den G b δ S1 Y fun d2 S2 => ∃ i j, d = .int i ∧ d2 = .int j ∧ (-(2 ^ 62) ≤ i ∧ i < 2 ^ 62 ∧ -(2 ^ 62) ≤ j ∧ j < 2 ^ 62) ∧ K (rngD i (j - i).toNat) (fun _ => True) S2) h).then fun v H1 q => ?_
    obtain ⟨x, δ, S, Y, K, R, r, q, res, rw'⟩ := q
    refine ⟨δ, S, Y, _, R, q, fun d S1 v2 H2 kk P cc r2 => ?_, rw'⟩
    obtain ⟨i, j, rfl, rfl, hb, q⟩ := kk
    cases rep_int r
    cases rep_int r2
    exact ⟨i, j, rfl, hb, res _ _ S1 H2 _ q P cc itOk_rng⟩

/-! ### comprehensions -/
theorem wipe_rel {g : Gd} {S : SS} {H : Hp} {δ : DS} {σ : L2.St} (h : RelS g S H δ σ) : ∀ vs : List Nat, RelS g S H (wipeD δ vs) (wipe σ vs)
  | [] => h
  | v :: vs => (wipe_rel h vs).setN
theorem wipe_set {σ : L2.St} {i : Nat} {x : Option V} : ∀ {vs : List Nat}, i ∈ vs → wipe (σ.set i x) vs = wipe σ vs
  | v :: vs, h => by
    unfold wipe
    by_cases e : i = v
    · subst e
      have key : ∀ (ws : List Nat), (wipe (σ.set i x) ws).set i none = (wipe σ ws).set i none := by
        intro ws
        induction ws with
        | nil => show (σ.set i x).set i none = σ.set i none; rw [List.set_set]
        | cons w ws ih =>
          unfold wipe
          by_cases ew : w = i
          · subst ew; rw [List.set_set, List.set_set]; exact ih
          · rw [List.set_comm _ _ (Ne.symm (Ne.symm ew)), ih, List.set_comm _ _ ew]
      exact key vs
    · rcases List.mem_cons.mp h with h | h
      · exact absurd h e
      · rw [wipe_set h]
theorem wipe_wipe {σ : L2.St} : ∀ vs : List Nat, wipe (wipe σ vs) vs = wipe σ vs := by
  intro vs
  apply List.ext_getElem?
  intro i
  by_cases h : i ∈ vs
  · have key : ∀ (ws : List Nat) (τ : L2.St), i ∈ ws → (wipe τ ws)[i]? = if i < τ.length then some none else none := by
      intro ws
      induction ws with
      | nil => intro τ h; cases h
      | cons w ws ih =>
        intro τ h
        unfold wipe
        by_cases e : w = i
        · subst e
          rw [List.getElem?_set]
          simp [wipe_length]
        · rw [List.getElem?_set_ne e]
          exact ih τ (by rcases List.mem_cons.mp h with h | h; exact absurd h.symm e; exact h)
    rw [key vs _ h, key vs _ h, wipe_length]
  · rw [wipe_out h]
/-- a target by what it stores -/
def gTg (K : PySem.W.Frag) (tg : List Nat) (one : Bool) : TG := if one = true then (match tg with
  | [i] => gName i
  | _ => fun _ _ _ _ => False) else gTup K tg.length (gNames tg)
theorem pg_tg (c : XC n X G W k sc) {tg : List Nat} {one : Bool} {x : Expr} (hc : one = false → X.calm = true) (h : chkTg n sc tg one x = true) : PG X x (gTg X.K tg one) := by
  cases one with
  | true =>
    unfold chkTg at h
    rw [if_pos rfl] at h
    split at h
    · rw [Bool.and_eq_true] at h
      exact pg_name c.nd (c.at h.1) (c.loc h.2) (c.sto h.2)
    · cases h
  | false =>
    unfold chkTg at h
    rw [if_neg Bool.false_ne_true] at h
    split at h
    · obtain ⟨h1, h2, h3⟩ := pgs_names c _ _ h
      exact pg_tup (hc rfl) h1 h2 h3
    · cases h
theorem names_rd {g : Gd} {S : SS} {H : Hp} {I : L2.St → Prop} : ∀ (is : List Nat) (ds : List D) (vs : List V) (δ : DS) (σ : L2.St) (Q : L2.St → Hp → Prop), (∀ σ i v, i ∈ is → I σ → I (σ.set i (some v))) → Rel g S H δ σ → I σ → Reps g S H ds vs → ds.length = is.length →
    (∀ σ', Rel g S H (setAll δ is ds) σ' → I σ' → Q σ' H) → gNames is vs σ H Q
  | [], ds, vs, δ, σ, Q, hI, R, i0, r, l, h => by
    cases ds with
    | nil => simp only [Reps] at r; subst r; exact ⟨rfl, h σ R i0⟩
    | cons _ _ => cases l
  | i :: is, ds, vs, δ, σ, Q, hI, R, i0, r, l, h => by
    cases ds with
    | nil => cases l
    | cons d ds =>
      simp only [Reps] at r
      obtain ⟨v, q, rfl, a, b⟩ := r
      exact ⟨v, q, rfl, names_rd is ds q _ _ Q (fun σ j w hj => hI σ j w (List.mem_cons_of_mem _ hj)) ⟨R.sl.set a, R.ce⟩ (hI _ _ _ List.mem_cons_self i0) b (by simpa using l) h⟩
theorem gTg_rd {g : Gd} {S : SS} {H : Hp} {I : L2.St → Prop} {tg : List Nat} {one : Bool} {d : D} {v : V} {δ : DS} {σ : L2.St} {K : DS → SS → Prop} {Q : L2.St → Hp → Prop} (hI : ∀ σ i v, i ∈ tg → I σ → I (σ.set i (some v))) (hd : denTg tg one d δ S K) (r : Rep g S H d v) (R : Rel g S H δ σ) (i0 : I σ)
    (h : ∀ δ' σ', K δ' S → Rel g S H δ' σ' → I σ' → Q σ' H) : gTg g.K tg one v σ H Q := by
  cases one with
  | true =>
    unfold denTg at hd
    rw [if_pos rfl] at hd
    unfold gTg
    rw [if_pos rfl]
    split at hd
    · exact h _ _ hd ⟨R.sl.set r, R.ce⟩ (hI _ _ _ List.mem_cons_self i0)
    · exact hd.elim
  | false =>
    unfold denTg at hd
    rw [if_neg Bool.false_ne_true] at hd
    unfold gTg
    rw [if_neg Bool.false_ne_true]
    obtain ⟨ds, e, l, hk⟩ := hd
    obtain ⟨p, vs, rfl, hl, hr⟩ := vw_tup r e
    exact ⟨p, vs, rfl, hl, by rw [← hr.length]; exact l, names_rd tg ds vs δ σ Q hI R i0 hr l fun σ' R' i' => h _ _ hk R' i'⟩
theorem lc_rd {cell : Bool} {elt : RE} {cnd : RO} {tg : List Nat} {one : Bool} {it : RI} {own : List (Str × Nat)} (hK : G.K = X.K) (htg : (tg.all fun i => decide (i ∈ own.map (·.2))) = true) {σ : L2.St} {H : Hp} {Q : VK} (h : LE G.toGd W (den G (.lc cell elt tg one it cnd own)) σ H Q) :
    tLc (LI G.toGd W (denI G it)) (gTg X.K tg one) (LT G.toGd noW (denC G cnd)) (LE G.toGd noW (den G elt)) (own.map (·.2)) σ H Q := by
  rw [den] at h
  obtain ⟨δ, S, Y, K, R, ⟨_, ht⟩, res, rw'⟩ := h
  refine ⟨δ, S, Y, _, R, ht, fun ds ok S1 H1 J hk P1 c1 io L hL => ?_, rw'⟩
  obtain ⟨Iv, i0, hok, step, last⟩ := hk L (c1.free hL)
  have PL : Post S1 H1 (S1.set L (.lst [])) (upd H1 L (.lst [])) := Post.newC hL
  have cL : CellsOk G.toGd (S1.set L (.lst [])) (upd H1 L (.lst [])) := c1.newC hL ⟨[], upd_same, by simp only [Reps]⟩
  refine ⟨fun i m H' => m = ds.length - i ∧ i ≤ ds.length ∧ ∃ S', Iv i S' ∧ Post S1 H1 S' H' ∧ CellsOk G.toGd S' H', ⟨_, rfl, Nat.zero_le _, _, i0, PL, cL⟩, ?_⟩
  rintro i m H' ⟨rfl, hi, S', iv, P', c'⟩
  have ok' := hok i S' iv hi
  by_cases hlt : i < ds.length
  · refine .inr ⟨io.go i S' H' hlt P' c' ok', fun H'' => i + 1 ≤ ds.length ∧ ∃ S'', Iv (i + 1) S'' ∧ Post S1 H1 S'' H'' ∧ CellsOk G.toGd S'' H'', fun H'' q => ⟨_, by omega, rfl, q⟩, fun x H2 y => ?_⟩
    obtain ⟨P2, c2, r2⟩ := io.yl i S' H' x H2 ds[i] (by simp) P' c' ok' y
    have P12 := P'.trans P2
    have R2 : Rel G.toGd S' H2 (wipeD δ (own.map (·.2))) (wipe σ (own.map (·.2))) := ⟨wipe_rel (R.sl.mono (P1.trans P12)) _, c2⟩
    have hstep := step i ds[i] S' (by simp) iv
    rw [← hK]
    refine gTg_rd (I := fun τ => wipe τ (own.map (·.2)) = wipe σ (own.map (·.2))) (fun τ j w hj e => ?_) hstep r2 R2 (wipe_wipe _) fun δ3 σ3 hq R3 e3 => ⟨e3, ?_⟩
    · rw [wipe_set (by simpa using (List.all_eq_true.mp htg) j hj)]
      exact e
    · refine ⟨δ3, S', noX, _, R3, hq, fun b S4 H4 hb4 P4 c4 => ?_, fun _ _ _ _ _ _ _ z => z.elim⟩
      cases b with
      | true =>
        refine ⟨δ3, S4, noX, _, R3.mono P4 c4, hb4, fun d5 S5 v5 H5 h5 P5 c5 r5 => ?_, fun _ _ _ _ _ _ _ z => z.elim⟩
        obtain ⟨acc, ea, hz, iv5⟩ := h5
        obtain ⟨vs, hL5, rvs⟩ := c5 L _ ea
        have P6 : Post S5 H5 (S5.set L (.lst (acc ++ [d5]))) (upd H5 L (.lst (vs ++ [v5]))) := Post.write ea
        refine ⟨vs, hL5, by rw [← rvs.length]; exact hz, hlt, _, iv5, ((P12.trans P4).trans P5).trans P6, c5.write ea ⟨_, upd_same, (rvs.append (show Reps G.toGd S5 H5 [d5] [v5] from by simp only [Reps]; exact ⟨v5, [], rfl, r5, rfl⟩)).mono P6⟩⟩
      | false => exact ⟨hlt, S4, hb4, P12.trans P4, c4⟩
  · have e : i = ds.length := by omega
    subst e
    refine .inl ⟨io.st _ S' H' (Nat.le_refl _) P' c' ok', ?_⟩
    obtain ⟨acc, ea, hk⟩ := last S' iv
    cases cell with
    | true => exact res _ S' _ H' hk (P1.trans P') c' (by simp only [Rep])
    | false => exact res _ (S'.del L) _ H' hk ((P1.trans P').trans Post.freeze) c'.freeze (Rep.freeze c' ea)
/-- [elt for tg in it if cnd] -/
theorem s_lc {cell : Bool} {elt : RE} {cnd : RO} {tg : List Nat} {one : Bool} {it : RI} {own : List (Str × Nat)} {xe xt xi : Expr} {ifs : List Expr} {scope : Scope} (c : XC n X G W k sc) (hb : blkC n.N sc scope own = true) (hsd : nsetd xi = true) (hI : SndI n sc it xi)
    (htg : (tg.all fun i => decide (i ∈ own.map (·.2))) = true) (hct : chkTg n scope tg one xt = true) (hcnd : ∀ X G W k, XC n X G W k scope → PTs X ifs (LT G.toGd W (denC G cnd))) (he : ∀ X G W k, XC n X G W k scope → PE X xe (LE G.toGd W (den G elt))) :
    PE X (.ListComp xe [⟨xt, xi, ifs, 0⟩] scope pos) (LE G.toGd W (den G (.lc cell elt tg one it cnd own))) := by
  by_cases hm : G.m0 = none
  · have calm : X.calm = true := by have := c.md; rw [hm] at this; exact this
    have bo : BlkOk X.N X.env.scope scope own := by
      have h := blkOk_by hb
      exact ⟨h.kind, h.uniq, fun p hp => c.N ▸ h.ix p hp, fun y hy e => c.sc.fr _ (h.free y hy e), fun y hy e => c.N ▸ h.own y hy e⟩
    refine PE.imp (pe_lc (wi := LI G.toGd W (denI G it)) (g := gTg X.K tg one) (tt := LT G.toGd noW (denC G cnd)) (te := LE G.toGd noW (den G elt)) calm c.nd (hI X G W k xt c hm) bo (fun s H C cl fp => pg_tg (c.blk hm) (fun _ => calm) hct) (fun s H C cl fp => hcnd _ G noW k (c.blk hm)) (fun s H C cl fp => he _ G noW k (c.blk hm)) (fun x => nsetf_ok hsd x)) fun σ H Q h => lc_rd c.ok.K htg h
  · refine pe_false fun δ S Y K h => ?_
    rw [den] at h
    exact hm h.1
end
end Sv

/-! Sv9: the check is sound: the whole of the expressions. -/
namespace Sv
open PySem PySem.Spec PyProof.Rows L2
open L2H (RoomH)
variable {n : SN}
theorem snd_no {sc : Scope} {x : Expr} {e : RE} (hv : ∀ G δ S Y K, ¬ den G e δ S Y K) (ht : ∀ G δ S Y K, ¬ denT G e δ S Y K) : SndE n sc e x :=
  ⟨fun X G W k _ => pe_false (hv G), fun X G W k _ => pt_false (ht G)⟩
/-- the test of a plain one -/
theorem snd_plain {sc : Scope} {x : Expr} {e : RE} (hp : plainT x = true) (hv : ∀ X G W k, XC n X G W k sc → PE X x (LE G.toGd W (den G e))) (ht : ∀ G δ S Y K, denT G e δ S Y K → den G e δ S Y fun d S' => truD d S' fun b => K b S') : SndE n sc e x :=
  ⟨hv, fun X G W k c => PT.imp (pt_of c (hv X G W k c) hp) fun σ H Q h => h.re fun δ S Y K q => ht G δ S Y K q⟩
/-- .. whose test is not told -/
theorem snd_untold {sc : Scope} {x : Expr} {e : RE} (hv : ∀ X G W k, XC n X G W k sc → PE X x (LE G.toGd W (den G e))) (ht : ∀ G δ S Y K, ¬ denT G e δ S Y K) : SndE n sc e x :=
  ⟨hv, fun X G W k _ => pt_false (ht G)⟩
section
variable {sc : Scope} {e f : RE} {es r : RL} {x y : Expr} {xs : List Expr}
theorem sndL_nil : SndL n sc .nil [] where
  a := fun X G W k c => PA.imp pa_nil fun σ H Q h => by
    obtain ⟨δ, S, Y, K, R, ht, res, _⟩ := h
    rw [dens] at ht
    exact res [] S [] H ht (Post.refl _ _) R.ce (by simp only [Reps])
  and := fun X G W k pos c => pe_false fun δ S Y K h => by rw [denAnd] at h; exact h
  or := fun X G W k pos c => pe_false fun δ S Y K h => by rw [denOr] at h; exact h
  tand := fun X G W k pos c => pw_false fun δ S Y K h => by rw [denTAnd] at h; exact h
  tor := fun X G W k pos c => pw_false fun δ S Y K h => by rw [denTOr] at h; exact h
  st := rfl
  nl := fun _ => rfl
  ne := rfl
theorem sndL_cons (hs : nstar x = true) (he : SndE n sc e x) (hL : SndL n sc es xs) : SndL n sc (.cons e es) (x :: xs) where
  a := fun X G W k c => PA.imp (pa_cons (he.v X G W k c) (hL.a X G W k c) (nstar_ok hs)) fun σ H Q h => by
    have h' : LE G.toGd W (den G e) σ H fun v H1 => LA G.toGd W (dens G es) σ H1 fun vs H2 => Q (v :: vs) H2 := by
      obtain ⟨δ, S, Y, K, R, ht, res, rw'⟩ := h
      rw [dens] at ht
      refine ⟨δ, S, Y, _, R, ht, fun d S1 v H1 k P c r => ⟨δ, S1, Y, _, R.mono P c, k, fun ds S2 vs H2 k2 P2 c2 r2 => res (d :: ds) S2 (v :: vs) H2 k2 (P.trans P2) c2 ?_, rw'.mono P⟩, rw'⟩
      simp only [Reps]
      exact ⟨v, vs, rfl, r.mono P2, r2⟩
    exact h'
  and := fun X G W k pos c => by
    cases xs with
    | nil =>
      have he' := hL.nl rfl
      subst he'
      exact PE.imp (pe_one (he.v X G W k c)) fun σ H Q h => h.re fun δ S Y K q => by rw [denAnd] at q; exact q
    | cons z zs =>
      cases es with
      | nil => exact absurd (hL.ne) (by simp [RL.len])
      | cons f r =>
        refine PE.imp (pe_andT (he.v X G W k c) (hL.and X G W k pos c)) fun σ H Q h => ?_
        have h := h.re (t' := fun δ S Y K => den G e δ S Y fun x S1 => truD x S1 fun k => if k = true then denAnd G (.cons f r) δ S1 Y K else K x S1) fun δ S Y K q => by rw [denAnd] at q; exact q
        refine (le_bind (t1 := den G e) (t2 := fun x δ S1 Y K => truD x S1 fun k => if k = true then denAnd G (.cons f r) δ S1 Y K else K x S1) h).then fun v H1 q => ?_
        obtain ⟨x, δ, S, Y, K, R, r1, q, res, rw'⟩ := q
        obtain ⟨b, tv, q⟩ := truD_ok c.ok.K R.ce r1 q
        refine ⟨b, tv, ?_⟩
        cases b with
        | true => exact ⟨δ, S, Y, K, R, q, res, rw'⟩
        | false => exact res.val q R.ce r1
  or := fun X G W k pos c => by
    cases xs with
    | nil =>
      have he' := hL.nl rfl
      subst he'
      exact PE.imp (pe_one (he.v X G W k c)) fun σ H Q h => h.re fun δ S Y K q => by rw [denOr] at q; exact q
    | cons z zs =>
      cases es with
      | nil => exact absurd (hL.ne) (by simp [RL.len])
      | cons f r =>
        refine PE.imp (pe_orT (he.v X G W k c) (hL.or X G W k pos c)) fun σ H Q h => ?_
        have h := h.re (t' := fun δ S Y K => den G e δ S Y fun x S1 => truD x S1 fun k => if k = true then K x S1 else denOr G (.cons f r) δ S1 Y K) fun δ S Y K q => by rw [denOr] at q; exact q
        refine (le_bind (t1 := den G e) (t2 := fun x δ S1 Y K => truD x S1 fun k => if k = true then K x S1 else denOr G (.cons f r) δ S1 Y K) h).then fun v H1 q => ?_
        obtain ⟨x, δ, S, Y, K, R, r1, q, res, rw'⟩ := q
        obtain ⟨b, tv, q⟩ := truD_ok c.ok.K R.ce r1 q
        refine ⟨b, tv, ?_⟩
        cases b with
        | true => exact res.val q R.ce r1
        | false => exact ⟨δ, S, Y, K, R, q, res, rw'⟩
  tand := fun X G W k pos c => by
    cases xs with
    | nil =>
      have he' := hL.nl rfl
      subst he'
      exact PW.imp (pw_and1 (he.t X G W k c)) fun σ H Q h => h.re fun δ S Y K q => by rw [denTAnd] at q; exact q
    | cons z zs =>
      cases es with
      | nil => exact absurd (hL.ne) (by simp [RL.len])
      | cons f r =>
        refine PW.imp (pw_and (he.t X G W k c) (hL.tand X G W k pos c)) fun σ H Q h => ?_
        obtain ⟨δ, S, Y, K, R, ht, res, rw'⟩ := h
        rw [denTAnd] at ht
        refine ⟨δ, S, Y, _, R, ht, fun b S1 H1 k P c1 => ?_, rw'⟩
        cases b with
        | true => exact ⟨δ, S1, Y, K, R.mono P c1, k, fun b S2 H2 k2 P2 => res b S2 H2 k2 (P.trans P2), rw'.mono P⟩
        | false => exact res false S1 H1 k P c1
  tor := fun X G W k pos c => by
    cases xs with
    | nil =>
      have he' := hL.nl rfl
      subst he'
      exact PW.imp (pw_or1 (he.t X G W k c)) fun σ H Q h => h.re fun δ S Y K q => by rw [denTOr] at q; exact q
    | cons z zs =>
      cases es with
      | nil => exact absurd (hL.ne) (by simp [RL.len])
      | cons f r =>
        refine PW.imp (pw_or (he.t X G W k c) (hL.tor X G W k pos c)) fun σ H Q h => ?_
        obtain ⟨δ, S, Y, K, R, ht, res, rw'⟩ := h
        rw [denTOr] at ht
        refine ⟨δ, S, Y, _, R, ht, fun b S1 H1 k P c1 => ?_, rw'⟩
        cases b with
        | true => exact res true S1 H1 k P c1
        | false => exact ⟨δ, S1, Y, K, R.mono P c1, k, fun b S2 H2 k2 P2 => res b S2 H2 k2 (P.trans P2), rw'.mono P⟩
  st := by rw [List.all_cons, hs, hL.st]; rfl
  nl := fun h => nomatch h
  ne := by simp [RL.len, hL.ne]
end

theorem con_d {H : Hp} {g : Gd} {W : WX} {G : Gm} {c : RC} {v : V} {σ : L2.St} {Q : VK} (hv : ∀ S H, Rep g S H c.d v) (h : LE g W (den G (.con c)) σ H Q) : Q v H := by
  obtain ⟨δ, S, Y, K, R, ht, res, _⟩ := h
  rw [den] at ht
  exact res.val ht R.ce (hv _ _)
mutual
theorem sE : ∀ (e : RE) (sc : Scope) (x : Expr), chk n sc e x = true → SndE n sc e x
  | .var i, sc, x, h => by
    unfold chk at h
    split at h
    · rename_i y p
      rw [Bool.and_eq_true] at h
      refine snd_plain rfl (fun X G W k c => PE.imp (pe_var (c.at h.1) (c.vis h.2) (nmB_ok h.1).2.1 (nmB_ok h.1).2.2) fun σ H Q q => ?_) (fun G δ S Y K q => by rw [denT] at q; rw [den]; exact q)
      obtain ⟨δ, S, Y, K, R, ht, res, _⟩ := q
      rw [den] at ht
      split at ht
      · rename_i d e
        obtain ⟨v, e1, r⟩ := R.sl.at_ i d e
        exact ⟨v, e1, res.val ht R.ce r⟩
      · exact ht.elim
    · cases h
  | .con c, sc, x, h => by
    unfold chk at h
    split at h
    · exact snd_plain rfl (fun X G W k _ => PE.imp pe_non fun σ H Q q => con_d (v := .non) (fun _ _ => by simp only [RC.d, Rep]) q) (fun G δ S Y K q => by rw [denT] at q; rw [den]; exact q)
    · have e := eq_of_beq h
      subst e
      exact snd_plain rfl (fun X G W k _ => PE.imp pe_bl fun σ H Q q => con_d (v := .bl _) (fun _ _ => by simp only [RC.d, Rep]) q) (fun G δ S Y K q => by rw [denT] at q; rw [den]; exact q)
    · have e := of_decide_eq_true h
      subst e
      exact snd_plain rfl (fun X G W k _ => PE.imp pe_int fun σ H Q q => con_d (v := .int _) (fun _ _ => by simp only [RC.d, Rep]) q) (fun G δ S Y K q => by rw [denT] at q; rw [den]; exact q)
    · have e := of_decide_eq_true h
      subst e
      exact snd_plain rfl (fun X G W k _ => PE.imp pe_str fun σ H Q q => con_d (v := .str _) (fun _ _ => by simp only [RC.d, Rep]) q) (fun G δ S Y K q => by rw [denT] at q; rw [den]; exact q)
    · cases h
  | .glb j, sc, x, h => by
    unfold chk at h
    split at h
    · rename_i y p
      rw [Bool.and_eq_true] at h
      refine snd_plain rfl (fun X G W k c => ?_) (fun G δ S Y K q => by rw [denT] at q; rw [den]; exact q)
      obtain ⟨v, u, h1, h2, h3⟩ := c.ok.gv j _ (nmB_ok h.1).1
      refine PE.imp (pe_glob (c.gl h.2) h1 h2 (nmB_ok h.1).2.1) fun σ H Q q => ?_
      obtain ⟨δ, S, Y, K, R, ht, res, _⟩ := q
      rw [den] at ht
      exact res.val ht R.ce (h3 _ _)
    · cases h
  | .bin op a b, sc, x, h => by
    unfold chk at h
    split at h
    · simp only [Bool.and_eq_true, decide_eq_true_eq] at h
      obtain ⟨e, h1, h2⟩ := h
      subst e
      exact snd_untold (fun X G W k c => s_bin c ((sE a sc _ h1).v X G W k c) ((sE b sc _ h2).v X G W k c)) (fun G δ S Y K q => by unfold denT at q; exact q)
    · cases h
  | .neg a, sc, x, h => by
    unfold chk at h
    split at h
    · exact snd_untold (fun X G W k c => s_neg ((sE a sc _ h).v X G W k c)) (fun G δ S Y K q => by unfold denT at q; exact q)
    · cases h
  | .nt a, sc, x, h => by
    unfold chk at h
    split at h
    · exact ⟨fun X G W k c => s_nt c ((sE a sc _ h).v X G W k c), fun X G W k c => s_ntT ((sE a sc _ h).t X G W k c)⟩
    · cases h
  | .and es, sc, x, h => by
    unfold chk at h
    split at h
    · have q := sL es sc _ h
      exact ⟨fun X G W k c => PE.imp (q.and X G W k _ c) fun σ H Q z => z.re fun δ S Y K y => by rw [den] at y; exact y, fun X G W k c => PT.imp (q.tand X G W k _ c).pt fun σ H Q z => z.re fun δ S Y K y => by rw [denT] at y; exact y⟩
    · cases h
  | .or es, sc, x, h => by
    unfold chk at h
    split at h
    · have q := sL es sc _ h
      exact ⟨fun X G W k c => PE.imp (q.or X G W k _ c) fun σ H Q z => z.re fun δ S Y K y => by rw [den] at y; exact y, fun X G W k c => PT.imp (q.tor X G W k _ c).pt fun σ H Q z => z.re fun δ S Y K y => by rw [denT] at y; exact y⟩
    · cases h
  | .ife t a b, sc, x, h => by
    unfold chk at h
    split at h
    · simp only [Bool.and_eq_true] at h
      obtain ⟨h0, h1, h2⟩ := h
      exact snd_untold (fun X G W k c => s_ife ((sE t sc _ h0).t X G W k c) ((sE a sc _ h1).v X G W k c) ((sE b sc _ h2).v X G W k c)) (fun G δ S Y K q => by unfold denT at q; exact q)
    · cases h
  | .cmp op a b, sc, x, h => by
    unfold chk at h
    split at h
    · simp only [Bool.and_eq_true, decide_eq_true_eq] at h
      obtain ⟨⟨e, h0⟩, h1, h2⟩ := h
      subst e
      exact ⟨fun X G W k c => s_cmp c h0 ((sE a sc _ h1).v X G W k c) ((sE b sc _ h2).v X G W k c), fun X G W k c => s_cmpT c h0 ((sE a sc _ h1).v X G W k c) ((sE b sc _ h2).v X G W k c)⟩
    · cases h
  | .chn o1 o2 a b t, sc, x, h => by
    unfold chk at h
    split at h
    · simp only [Bool.and_eq_true, decide_eq_true_eq] at h
      obtain ⟨⟨⟨e, e'⟩, h0⟩, h1, h2, h3⟩ := h
      subst e e'
      exact ⟨fun X G W k c => s_chn c h0 ((sE a sc _ h1).v X G W k c) ((sE b sc _ h2).v X G W k c) ((sE t sc _ h3).v X G W k c), fun X G W k c => s_chnT c h0 ((sE a sc _ h1).v X G W k c) ((sE b sc _ h2).v X G W k c) ((sE t sc _ h3).v X G W k c)⟩
    · cases h
  | .lst cell es, sc, x, h => by
    unfold chk at h
    split at h
    · exact snd_untold (fun X G W k c => s_lst ((sL es sc _ h).a X G W k c)) (fun G δ S Y K q => by unfold denT at q; exact q)
    · cases h
  | .tup es, sc, x, h => by
    unfold chk at h
    split at h
    · exact snd_untold (fun X G W k c => s_tup ((sL es sc _ h).a X G W k c)) (fun G δ S Y K q => by unfold denT at q; exact q)
    · cases h
  | .ix a b, sc, x, h => by
    unfold chk at h
    split at h
    · simp only [Bool.and_eq_true] at h
      obtain ⟨h0, h1, h2⟩ := h
      exact snd_plain rfl (fun X G W k c => s_ix c h0 ((sE a sc _ h1).v X G W k c) ((sE b sc _ h2).v X G W k c)) (fun G δ S Y K q => by rw [denT] at q; rw [den]; exact q)
    · cases h
  | .sl a lo hi, sc, x, h => by
    unfold chk at h
    split at h
    · simp only [Bool.and_eq_true] at h
      obtain ⟨h0, h1, h2⟩ := h
      exact snd_untold (fun X G W k c => s_sl c ((sE a sc _ h0).v X G W k c) (sO lo sc _ h1 X G W k c) (sO hi sc _ h2 X G W k c)) (fun G δ S Y K q => by unfold denT at q; exact q)
    · cases h
  | .fld a f, sc, x, h => by
    unfold chk at h
    split at h
    · simp only [Bool.and_eq_true, decide_eq_true_eq] at h
      obtain ⟨⟨e, h0⟩, h1⟩ := h
      subst e
      exact snd_plain rfl (fun X G W k c => PE.imp (pe_fldD c.ok.K c.md.p ((sE a sc _ h1).v X G W k c) (nsup_ok h0)) fun σ H Q z => z.re fun δ S Y K y => by rw [den] at y; exact y) (fun G δ S Y K q => by rw [denT] at q; rw [den]; exact q)
    · cases h
  | .call j es, sc, x, h => by
    unfold chk at h
    split at h
    · simp only [Bool.and_eq_true] at h
      obtain ⟨⟨h0, h1⟩, h2⟩ := h
      exact snd_plain rfl (fun X G W k c => s_call c h0 h1 (sL es sc _ h2)) (fun G δ S Y K q => by rw [denT] at q; rw [den]; exact q)
    · cases h
  | .bi b es, sc, x, h => by
    unfold chk at h
    split at h
    · simp only [Bool.and_eq_true, decide_eq_true_eq] at h
      obtain ⟨⟨⟨e, h0⟩, h1⟩, h2⟩ := h
      subst e
      exact snd_untold (fun X G W k c => s_bi c h0 (by simpa using h1) (sL es sc _ h2)) (fun G δ S Y K q => by unfold denT at q; exact q)
    · cases h
  | .isi a cn, sc, x, h => by
    unfold chk at h
    split at h
    · rw [Bool.and_eq_true] at h
      obtain ⟨h, hc⟩ := h
      simp only [Bool.and_eq_true, decide_eq_true_eq] at h
      obtain ⟨⟨⟨⟨e, h0⟩, h1⟩, h2⟩, h3⟩ := h
      exact snd_plain rfl (fun X G W k c => s_isi c e h0 h1 h2 ((sE a sc _ h3).v X G W k c) hc) (fun G δ S Y K q => by rw [denT] at q; rw [den]; exact q)
    · cases h
  | .lc cell elt tg one it cnd own, sc, x, h => by
    unfold chk at h
    split at h
    · simp only [Bool.and_eq_true] at h
      obtain ⟨⟨⟨⟨⟨⟨h0, h1⟩, h2⟩, h3⟩, h4⟩, h5⟩, h6⟩ := h
      exact snd_untold (fun X G W k c => s_lc c h0 h1 (sI it sc _ h2) h3 h4 (fun X G W k c => sC cnd _ _ h5 X G W k c) (fun X G W k c => (sE elt _ _ h6).v X G W k c)) (fun G δ S Y K q => by unfold denT at q; exact q)
    · cases h
theorem sL : ∀ (es : RL) (sc : Scope) (xs : List Expr), chks n sc es xs = true → SndL n sc es xs
  | .nil, sc, xs, h => by
    unfold chks at h
    cases xs with
    | nil => exact sndL_nil
    | cons _ _ => cases h
  | .cons e es, sc, xs, h => by
    unfold chks at h
    split at h
    · simp only [Bool.and_eq_true] at h
      obtain ⟨h0, h1, h2⟩ := h
      exact sndL_cons h0 (sE e sc _ h1) (sL es sc _ h2)
    · cases h
theorem sO : ∀ (e : RO) (sc : Scope) (x : Option Expr), chkO n sc e x = true → ∀ X G W k, XC n X G W k sc → PO X x (LO G.toGd W (denO G e))
  | .nn, sc, x, h => fun X G W k c => by
    unfold chkO at h
    cases x with
    | some _ => cases h
    | none =>
      refine PO.imp po_none fun σ H Q q => ?_
      obtain ⟨δ, S, Y, K, R, ht, res, _⟩ := q
      rw [denO] at ht
      exact res _ S H ht (Post.refl _ _) R.ce
  | .ss e, sc, x, h => fun X G W k c => by
    unfold chkO at h
    split at h
    · refine PO.imp (po_some ((sE e sc _ h).v X G W k c)) fun σ H Q q => ?_
      obtain ⟨δ, S, Y, K, R, ht, res, rw'⟩ := q
      rw [denO] at ht
      refine ⟨δ, S, Y, _, R, ht, fun d S1 v H1 kk P cc r => ?_, rw'⟩
      obtain ⟨i, rfl, kk⟩ := kk
      exact ⟨i, rep_int r, res _ S1 H1 kk P cc⟩
    · cases h
theorem sC : ∀ (e : RO) (sc : Scope) (ifs : List Expr), chkC n sc e ifs = true → ∀ X G W k, XC n X G W k sc → PTs X ifs (LT G.toGd W (denC G e))
  | .nn, sc, ifs, h => fun X G W k c => by
    unfold chkC at h
    cases ifs with
    | nil =>
      refine ⟨fun pins s σ H Q I q => ?_⟩
      obtain ⟨δ, S, Y, K, R, ht, res, rw'⟩ := q
      rw [denC] at ht
      exact pts_nil.run pins s σ H Q I (res true S H ht (Post.refl _ _) R.ce)
    | cons _ _ => cases h
  | .ss e, sc, ifs, h => fun X G W k c => by
    unfold chkC at h
    split at h
    · rw [show denC G (.ss e) = denT G e by rw [denC]]
      exact pts_one ((sE e sc _ h).t X G W k c)
    · cases h
theorem sI : ∀ (i : RI) (sc : Scope) (x : Expr), chkI n sc i x = true → SndI n sc i x
  | .lst e, sc, x, h => by
    unfold chkI at h
    exact fun X G W k tg c hm => i_lst c ((sE e sc x h).v X G W k c)
  | .tup e, sc, x, h => by
    unfold chkI at h
    exact fun X G W k tg c hm => i_tup c ((sE e sc x h).v X G W k c)
  | .rng1 a, sc, x, h => by
    unfold chkI at h
    split at h
    · simp only [Bool.and_eq_true, decide_eq_true_eq] at h
      obtain ⟨⟨⟨e, h0⟩, h1⟩, h2⟩ := h
      subst e
      exact fun X G W k tg c hm => i_rng1 c h0 h1 ((sE a sc _ h2).v X G W k c)
    · cases h
  | .rng2 a b, sc, x, h => by
    unfold chkI at h
    split at h
    · simp only [Bool.and_eq_true, decide_eq_true_eq] at h
      obtain ⟨⟨⟨⟨e, h0⟩, h1⟩, h1'⟩, h2, h3⟩ := h
      subst e
      exact fun X G W k tg c hm => i_rng2 c h0 h1 h1' ((sE a sc _ h2).v X G W k c) ((sE b sc _ h3).v X G W k c)
    · cases h
end
end Sv

/-! Sv10: stores by values; statements: the resolved text, its reading, its check. -/
namespace Sv
open PySem PySem.Spec PyProof.Rows L2
open L2H (RoomH)

/-! ### o[i] = v -/
def setD (x y z : D) (S : SS) (K : SS → Prop) : Prop := match x with
  | .obj a => match S a with
    | some (.lst ds) => ∃ i j, y = .int i ∧ ixN ds.length i = some j ∧ K (S.set a (.lst (ds.set j z)))
    | some (.dic kvs) => ∃ k, keyD y = some k ∧ kvs.length < sizeLine ∧ K (S.set a (.dic (putD kvs k z)))
    | _ => False
  | _ => False
def rD3 (g : Gd) (t : D → D → D → SS → (SS → Prop) → Prop) : TSet := fun o i v H Q => ∃ x y z S K, CellsOk g S H ∧ Rep g S H x o ∧ Rep g S H y i ∧ Rep g S H z v ∧ t x y z S K ∧ ∀ S' H', K S' → Post S H S' H' → CellsOk g S' H' → Q H'
section
variable {X : Cx} {g : Gd}
theorem setD_ok (hu : X.A.units + 1 < cLine) : PSet X (rD3 g setD) := by
  intro pins s σ H o i v ov iv u Q I ro ri rv h
  obtain ⟨x, y, z, S, K, hc, p1, p2, p3, ht, res⟩ := h
  unfold setD at ht
  split at ht
  · rename_i a
    cases rep_obj p1
    split at ht
    · rename_i ds e
      obtain ⟨k, j, rfl, hj, q⟩ := ht
      cases rep_int p2
      obtain ⟨vs, hl, hr⟩ := hc a _ e
      exact set_list pins s σ H _ _ _ ov iv u Q I ro ri rv ⟨a, vs, k, j, rfl, rfl, hl, by rw [← hr.length]; exact hj, res _ _ q (Post.write e) (hc.write e ⟨_, upd_same, (hr.set p3).mono (Post.write e)⟩)⟩
    · rename_i kvs e
      obtain ⟨k, ek, hz, q⟩ := ht
      cases rep_key ek p2
      obtain ⟨vs, hl, hr⟩ := hc a _ e
      exact set_dict hu pins s σ H _ _ _ ov iv u Q I ro ri rv ⟨a, _, rfl, .inl ⟨vs, k, hl, rfl, by rw [← Paired.length (rpk_of hr)]; exact hz, rfl⟩, res _ _ q (Post.write e) (hc.write e ⟨_, upd_same, (putK_of hr k p3).mono (Post.write e)⟩)⟩
    · exact ht.elim
  · exact ht.elim
/-- a place in a list, by the index's sign -/
theorem ixN_case {n j : Nat} {k : Int} (h : ixN n k = some j) : (0 ≤ k ∧ k = (j : Int) ∨ k < 0 ∧ k + (n : Int) = (j : Int)) ∧ j < n := by
  unfold ixN at h
  split at h
  · split at h <;> cases h
    omega
  · split at h <;> cases h
    omega
/-- xs[k], read outside a subscript -/
theorem list_take {pins : List (Addr × Obj)} {σ : L2.St} {H : Hp} {s : Shared} {a : Addr} {vs : List V} {k : Int} {t : Tok} {z : V} {Q : Value → Shared → Prop} (I : Inv X pins σ H s) (at_a : SqL X.K H a vs) (found : atI vs k = some z) {E : Value → Shared → Prop} (done : ∀ w, RelV z w → Q w s) :
    wpAny (model X.prog X.w) X.A (getItem (.ref a) (.int k t)) Q E s := by
  obtain ⟨its, rel, isL, small⟩ := I.list at_a
  obtain ⟨j, place, here⟩ := Option.bind_eq_some_iff.mp found
  obtain ⟨w, at_j, like⟩ := pz_get rel here
  have ⟨sign, inside⟩ := ixN_case place
  have same : its.toArray.size = vs.length := by rw [List.size_toArray, rel.length]
  have bound := line63
  have reads : ∀ i : Nat, i = j → its.toArray[i]? = some w := fun i e => by rw [e, List.getElem?_toArray]; exact at_j
  rcases sign with ⟨up, e⟩ | ⟨down, e⟩
  · exact wpAny_getItem_list isL.isList up (by omega) (reads _ (by omega)) (done w like)
  · exact wpAny_getItem_list_neg isL.isList down (by omega) (by omega) (reads _ (by omega)) (done w like)
/-- o[i], for o[i] op= v -/
def getD' (x y : D) (S : SS) (K : DK) : Prop := match x with
  | .obj a => match S a with
    | some (.lst ds) => ∃ i d, y = .int i ∧ atI ds i = some d ∧ K d S
    | some (.dic kvs) => ∃ k d, keyD y = some k ∧ valD kvs k = some d ∧ K d S
    | _ => False
  | _ => False
theorem getD_ok (hu : X.A.units + 1 < cLine) : PGet X (rD2 g getD') := by
  intro pins s σ H o i ov iv Q I ro ri h
  obtain ⟨x, y, S, K, hc, p1, p2, ht, res⟩ := h
  unfold getD' at ht
  split at ht
  · rename_i a
    cases rep_obj p1
    cases (show ov = Value.ref a from ro)
    split at ht
    · rename_i ds e
      obtain ⟨k, d, rfl, hd, q⟩ := ht
      cases rep_int p2
      obtain ⟨t, rfl⟩ := (show ∃ t, iv = Value.int k t from ri)
      obtain ⟨vs, hl, hr⟩ := hc a _ e
      obtain ⟨z, he, rz⟩ := hr.at hd
      exact list_take I (.inl (.inl hl)) he fun w rw' => ⟨z, H, I, rw', res.val q hc rz⟩
    · rename_i kvs e
      obtain ⟨k, d, ek, ed, q⟩ := ht
      cases rep_key ek p2
      obtain ⟨vs, hl, hr⟩ := hc a _ e
      rcases valK_of hr k with ⟨z, _⟩ | ⟨d2, w, z1, z2, rw'⟩
      · rw [ed] at z; cases z
      · rw [ed] at z1
        cases z1
        exact d_getItem hu I (.inl ⟨vs, k, .inl hl, rfl, z2.symm⟩) ri fun w' s3 I3 rw2 => ⟨w, H, I3, rw2, res.val q hc rw'⟩
    · exact ht.elim
  · exact ht.elim
/-- op= -/
def augA (x y : D) (S : SS) (K : DK) : Prop := match x, y with
  | .int i, .int j => K (.int (i + j)) S
  | .str a, .str b => a.length + b.length ≤ sizeLine ∧ K (.str (a ++ b)) S
  | _, _ => False
def augS (x y : D) (S : SS) (K : DK) : Prop := match x, y with
  | .int i, .int j => K (.int (i - j)) S
  | _, _ => False
def augD : Operator → D → D → SS → DK → Prop
  | .Add => augA | .Sub => augS | _ => fun _ _ _ _ => False
theorem augD_ok : ∀ op : Operator, PIp X op (rD2 g (augD op)) := by
  intro op pins s σ H v1 v2 u1 u2 Q I r1 r2 h
  obtain ⟨x, y, S, K, hc, p1, p2, ht, res⟩ := h
  cases op with
  | Add =>
    change augA x y S K at ht
    unfold augA at ht
    split at ht
    · cases rep_int p1
      cases rep_int p2
      exact iop_add pins s σ H _ _ _ _ Q I r1 r2 ⟨_, _, rfl, rfl, res.int ht hc⟩
    · cases rep_str p1
      cases rep_str p2
      exact iop_add_str pins s σ H _ _ _ _ Q I r1 r2 ⟨_, _, rfl, rfl, ht.1, res.str ht.2 hc⟩
    · exact ht.elim
  | Sub =>
    change augS x y S K at ht
    unfold augS at ht
    split at ht
    · cases rep_int p1
      cases rep_int p2
      exact iop_sub pins s σ H _ _ _ _ Q I r1 r2 ⟨_, _, rfl, rfl, res.int ht hc⟩
    · exact ht.elim
  | _ => exact False.elim ht
end
def putFD (f : Str) (v : D) : List (Str × D) → List (Str × D)
  | [] => [(f, v)]
  | (g, x) :: r => if g = f then (g, v) :: r else (g, x) :: putFD f v r
theorem putF_rep {g : Gd} {S : SS} {H : Hp} {f : Str} {d : D} {v : V} (r : Rep g S H d v) : ∀ {fs : List (Str × D)} {ws : List (Str × V)}, RepF g S H fs ws → RepF g S H (putFD f d fs) (putF f v ws)
  | [], _, h => by
    simp only [RepF] at h
    subst h
    simp only [putFD, putF, RepF]
    exact ⟨v, [], rfl, r, rfl⟩
  | (k, x) :: fs, _, h => by
    simp only [RepF] at h
    obtain ⟨w, q, rfl, a, b⟩ := h
    unfold putFD putF
    by_cases e : k = f
    · rw [if_pos e, if_pos e]
      simp only [RepF]
      exact ⟨v, q, rfl, r, b⟩
    · rw [if_neg e, if_neg e]
      simp only [RepF]
      exact ⟨w, _, rfl, a, putF_rep r b⟩
theorem lenF {g : Gd} {S : SS} {H : Hp} : ∀ {fs : List (Str × D)} {ws : List (Str × V)}, RepF g S H fs ws → fs.length = ws.length
  | [], _, h => by simp only [RepF] at h; subst h; rfl
  | (k, x) :: fs, _, h => by
    simp only [RepF] at h
    obtain ⟨w, q, rfl, a, b⟩ := h
    rw [List.length_cons, List.length_cons, lenF b]

/-! ### statements -/
mutual
inductive RS where
  | exp (e : RE) | asg (tg : List Nat) (one : Bool) (e : RE) | asl (i : Nat) (e : RE)
  | sti (a b c : RE) | stf (a : RE) (f : Str) (c : RE)
  | agv (i : Nat) (op : Operator) (e : RE) | agi (a b : RE) (op : Operator) (e : RE)
  | ifs (c : RE) (a b : RSs) | fr (tg : List Nat) (one : Bool) (it : RI) (b : RSs) | wh (c : RE) (b : RSs)
  | ret (e : RE) | retN | brk | cnt | pas
  | rai (j : Nat) (es : RL) | tra (b : RSs) (j : Nat) (i : Nat) (s : RSs)
inductive RSs where
  | nil | cons (s : RS) (r : RSs) | frz (i : Nat) (r : RSs) | cut (s : RS) (r : RSs)
end
/-- how an error of a class is made -/
inductive XKd where
  | fld (f : Str) | bare
def XKd.ar : XKd → Nat
  | .fld _ => 1 | .bare => 0
structure Gs extends Gm where
  xk : Nat → Option XKd
def Gs.suite (G : Gs) (a : Addr) (oe : Obj) : Gs := { G with m0 := some (a, oe) }
def mkX : XKd → List D → Option (List (Str × D))
  | .fld f, [d] => some [(f, d)]
  | .bare, [] => some []
  | _, _ => none
def frzD (i : Nat) (δ : DS) (S : SS) (K : DS → SS → Prop) : Prop := ∃ a, δ[i]? = some (some (.obj a)) ∧ ((∃ ds, S a = some (.lst ds) ∧ K (δ.set i (some (.lst ds))) (S.del a)) ∨ ∃ ds, S a = some (.dic ds) ∧ K (δ.set i (some (.dic ds))) (S.del a))
mutual
def denS (G : Gs) : RS → RdS
  | .exp e => fun δ S Y F => den G.toGm e δ S Y fun _ S1 => F.nx δ S1
  | .asg tg one e => fun δ S Y F => (one = false → G.m0 = none) ∧ den G.toGm e δ S Y fun d S1 => denTg tg one d δ S1 F.nx
  | .asl i e => fun δ S Y F => den G.toGm e δ S Y fun d S1 => F.nx (δ.set i (some d)) S1
  | .sti a b c => fun δ S Y F => den G.toGm c δ S Y fun z S1 => den G.toGm a δ S1 Y fun x S2 => den G.toGm b δ S2 Y fun y S3 => setD x y z S3 fun S4 => F.nx δ S4
  | .stf a f c => fun δ S Y F => den G.toGm c δ S Y fun z S1 => den G.toGm a δ S1 Y fun x S2 => ∃ p C fs, x = .obj p ∧ S2 p = some (.ins C fs) ∧ Cls G.K C ∧ NoAttr G.K C f ∧ fs.length < 1000 ∧ F.nx δ (S2.set p (.ins C (putFD f z fs)))
  | .agv i op e => fun δ S Y F => ∃ x, δ[i]? = some (some x) ∧ den G.toGm e δ S Y fun y S1 => augD op x y S1 fun z S2 => F.nx (δ.set i (some z)) S2
  | .agi a b op e => fun δ S Y F => den G.toGm a δ S Y fun x S1 => den G.toGm b δ S1 Y fun y S2 => getD' x y S2 fun u S3 => den G.toGm e δ S3 Y fun w S4 => augD op u w S4 fun z S5 => setD x y z S5 fun S6 => F.nx δ S6
  | .ifs c a b => fun δ S Y F => denT G.toGm c δ S Y fun k S1 => if k = true then denSs G a δ S1 Y F else denSs G b δ S1 Y F
  | .fr tg one it b => fun δ S Y F => G.m0 = none ∧ denI G.toGm it δ S Y fun ds ok S1 => ∃ Iv : Nat → DS → SS → Prop, Iv 0 δ S1 ∧ (∀ i δ' S', Iv i δ' S' → i ≤ ds.length → ok S') ∧
      (∀ i d δ' S', ds[i]? = some d → Iv i δ' S' → denTg tg one d δ' S' fun δ2 S2 => denSs G b δ2 S2 Y { F with nx := Iv (i + 1), ct := Iv (i + 1), bk := F.nx }) ∧ (∀ δ' S', Iv ds.length δ' S' → F.nx δ' S')
  | .wh c b => fun δ S Y F => ∃ Iv : Nat → DS → SS → Prop, (∃ m, Iv m δ S) ∧ ∀ m δ' S', Iv m δ' S' → denT G.toGm c δ' S' Y fun k S1 =>
      if k = true then denSs G b δ' S1 Y { F with nx := fun δ2 S2 => ∃ m', m' < m ∧ Iv m' δ2 S2, ct := fun δ2 S2 => ∃ m', m' < m ∧ Iv m' δ2 S2, bk := F.nx } else F.nx δ' S1
  | .ret e => fun δ S Y F => den G.toGm e δ S Y F.rt
  | .retN => fun δ S Y F => F.rt .non S
  | .brk => fun δ S Y F => F.bk δ S
  | .cnt => fun δ S Y F => F.ct δ S
  | .pas => fun δ S Y F => F.nx δ S
  | .rai j es => fun δ S Y F => G.m0 = none ∧ ∃ kd, G.xk j = some kd ∧ es.len = kd.ar ∧ dens G.toGm es δ S Y fun ds S1 => ∃ fs, mkX kd ds = some fs ∧ Y (G.cl j) fs δ S1
  | .tra b j i s => fun δ S Y F => G.m0 = none ∧ denSs G b δ S (fun C fs δ' S' => ∃ k, PySem.W.exmOne G.K (.ref C) (.ref (G.cl j)) = some k ∧
      (k = true → ∀ a oe, denSs (G.suite a oe) s (δ'.set i (some (.exc a oe C fs))) S' noX { F with nx := fun δ2 S2 => F.nx (δ2.set i none) S2, bk := fun δ2 S2 => F.bk (δ2.set i none) S2, ct := fun δ2 S2 => F.ct (δ2.set i none) S2 }) ∧
      (k = false → Y C fs δ' S')) F
def denSs (G : Gs) : RSs → RdS
  | .nil => fun δ S Y F => F.nx δ S
  | .cons s r => fun δ S Y F => denS G s δ S Y { F with nx := fun δ1 S1 => denSs G r δ1 S1 Y F }
  | .frz i r => fun δ S Y F => frzD i δ S fun δ1 S1 => denSs G r δ1 S1 Y F
  | .cut s r => fun δ S Y F => ∃ J : DS → SS → Prop, denS G s δ S Y { F with nx := J } ∧ ∀ δ1 S1, J δ1 S1 → denSs G r δ1 S1 Y F
end

/-! ### the check -/
def nlc : Expr → Bool
  | .ListComp _ _ _ _ => false | .SetComp _ _ _ _ => false | .DictComp _ _ _ _ _ => false | _ => true
def ntup : Expr → Bool
  | .Tuple _ _ _ => false | _ => true
/-- name = [..]: the swap is not made -/
def nswap (sc : Scope) (x e : Expr) : Bool := nlc e || (match x with
  | .Name y p => match sc.names.lookup y with
    | some .local => !(p.line == e.pos.line)
    | _ => true
  | .Tuple _ _ _ => true
  | _ => false)
mutual
def chkS (n : SN) (sc : Scope) : RS → Stmt → Bool
  | .exp e, x => match x with
    | .Expr v _ => nlc v && chk n sc e v
    | _ => false
  | .asg tg one e, x => match x with
    | .Assign [t] v _ => nswap sc t v && (one || ntup v) && (chkTg n sc tg one t && chk n sc e v)
    | _ => false
  | .asl i e, x => match x with
    | .Assign [.Name y py] (.ListComp xe [⟨xt, xi, ifs, 0⟩] scope p) _ => match e with
      | .lc _ elt tg one it c own => nmB n.N i y && decide (sc.names.lookup y = some .local) && (py.line == p.line) && !(scope.names.any fun (m, k) => m == y && (k == .local || k == .cell)) &&
          (blkC n.N sc scope own && nsetd xi && chkI n sc it xi && (tg.all fun i => decide (i ∈ own.map (·.2))) && chkTg n scope tg one xt && chkC n scope c ifs && chk n scope elt xe)
      | _ => false
    | _ => false
  | .sti a b c, x => match x with
    | .Assign [.Subscript l r _] v _ => nlc v && nslice r && (chk n sc a l && (chk n sc b r && chk n sc c v))
    | _ => false
  | .stf a f c, x => match x with
    | .Assign [.Attribute l f' _] v _ => nlc v && decide (f' = f) && (chk n sc a l && chk n sc c v)
    | _ => false
  | .agv i op e, x => match x with
    | .AugAssign (.Name y _) o v _ => nmB n.N i y && locB sc y && decide (o = op) && chk n sc e v
    | _ => false
  | .agi a b op e, x => match x with
    | .AugAssign (.Subscript l r _) o v _ => nslice r && decide (o = op) && (chk n sc a l && (chk n sc b r && chk n sc e v))
    | _ => false
  | .ifs c a b, x => match x with
    | .If t p q _ => chk n sc c t && (chkSs n sc a p && chkSs n sc b q)
    | _ => false
  | .fr tg one it b, x => match x with
    | .For t i p [] _ => nsetd i && chkTg n sc tg one t && (chkI n sc it i && chkSs n sc b p)
    | _ => false
  | .wh c b, x => match x with
    | .While t p [] _ => chk n sc c t && chkSs n sc b p
    | _ => false
  | .ret e, x => match x with
    | .Return (some v) _ => chk n sc e v
    | _ => false
  | .retN, x => match x with
    | .Return none _ => true
    | _ => false
  | .brk, x => match x with
    | .Break _ => true
    | _ => false
  | .cnt, x => match x with
    | .Continue _ => true
    | _ => false
  | .pas, x => match x with
    | .Pass _ => true
    | .Expr (.Constant (.str _) _ _) _ => true
    | _ => false
  | .rai j es, x => match x with
    | .Raise (some (.Call (.Name y _) xs [] _)) none _ => nmB n.cls j y && glB sc y && chks n sc es xs
    | _ => false
  | .tra b j i s, x => match x with
    | .Try p [.ExceptHandler (some (.Name y _)) (some m) (q :: qs) _] [] [] _ => nmB n.cls j y && glB sc y && nmB n.N i m && decide (sc.names.lookup m = some .local) && (chkSs n sc b p && chkSs n sc s (q :: qs))
    | _ => false
def chkSs (n : SN) (sc : Scope) : RSs → List Stmt → Bool
  | .nil, xs => xs.isEmpty
  | .cons s r, xs => match xs with
    | x :: xs => chkS n sc s x && chkSs n sc r xs
    | [] => false
  | .frz _ r, xs => chkSs n sc r xs
  | .cut s r, xs => match xs with
    | x :: xs => chkS n sc s x && chkSs n sc r xs
    | [] => false
end
end Sv

/-! Sv11: errors are made. -/
namespace Sv
open PySem PySem.Spec PyProof.Rows L2
open L2H (RoomH)
/-- what C's own __init__(self, y) does: self.f = y -/
def spI (C : Addr) (f : Str) : SpM := fun m vs H Q E => ∃ a y, vs = [V.ref a, y] ∧ H a = some (exo a C none) ∧ ∀ dx, H dx = none → dx ≠ a → Q .non (upd (upd H dx (exd dx [(f, y)])) a (exo a C (some dx)))
def tMkF (C : Addr) (f : Str) (ta : TA) : L2.St → Hp → XK → Prop := fun σ H Q => ta σ H fun vs H1 => ∃ y, vs = [y] ∧ ∀ dx, H1 dx = none → Q (.ref C) (some dx) (upd H1 dx (.xd [(f, y)]))
/-- the frame of an error's making shields nothing -/
theorem make_handled {A : Around} {C : Addr} {us : List Value} {kw : List (Str × Value)} : (A.under (.builtin "type.__call__" ⟨.ref C :: us, kw⟩)).handled = A.handled := rfl
/-- the abstract heap behind the making: the error let go, its dict laid -/
theorem lay_dict {H : Hp} {a d : Addr} {o o' u v : HO} (fresh : H a = none) : upd (del (upd (upd (upd H a o) d u) a o') a) d v = upd H d v := by
  funext b
  simp only [upd, del]
  split
  · rfl
  · split
    · rename_i e; rw [e, fresh]
    · rfl
section
variable {X : Cx} {C fI : Addr} {x f : Str} {e : Expr} {es : List Expr} {p pos : Pos} {ta : TA}
/-- what __init__ promises is what the making asks for -/
theorem init_meets {H : Hp} {a : Addr} {y : V} {Q : XK} (fresh : H a = none) (want : ∀ d, H d = none → Q (.ref C) (some d) (upd H d (.xd [(f, y)]))) :
    spI C f none [.ref a, y] (upd H a (exo a C none)) (fun v H2 => v = .non ∧ ∃ d fs, H2 a = some (exo a C (some d)) ∧ H2 d = some (exd d fs) ∧ H d = none ∧ Q (.ref C) (some d) (upd (del H2 a) d (.xd fs))) fun _ _ _ => False := by
  refine ⟨a, y, rfl, upd_same, fun d free apart => ?_⟩
  have free' : H d = none := by simpa only [upd, if_neg apart] using free
  refine ⟨rfl, d, [(f, y)], upd_same, ?_, free', ?_⟩
  · simp only [upd, if_neg apart, if_true]
  · rw [lay_dict fresh]
    exact want d free'
/-- C(e, ..) of a class whose own __init__ keeps its argument as a field -/
theorem pmk_fld {kI : Nat} {fd : FuncData} {ps : List Str} (T : OexC X.K C) (own : PySem.W.findIn X.K (.ref C) "__init__" = some (some (.ref fI))) (isFn : PySem.W.typeIn X.K (.ref fI) = some (.type "function")) (F : FnG X.prog X.w X.K X.mg X.base false kI fI fd ps (spI C f))
    (room : RoomH (kI + 1) X.A) (calm : X.calm = true) (binds : L2.Binds X.K fd ps []) (gl : Gl X x) (at_x : X.mg x = some (.ref C)) (args : PA X (e :: es) ta) (db : (x == ("__debug__" : Str)) = false)
    (plain : starEach (e :: es) X.env = (false, eval e X.env) :: starEach es X.env) (rest : (backTo pos (starEach es X.env)).any (·.1) = false) : L2N.PMk X (.Call (.Name x p) (e :: es) [] pos) (tMkF C f ta) := by
  intro pins s σ H Q I want
  have ⟨_, _, _, _, bm, _, _, _, _, _, _, _, _, _, _, at_C, roots⟩ := T.cls
  apply wpAny_Call_Name_kw (ld_glob I gl at_x ?_ db)
  apply PySem.W.callWith_K (h₀ := X.base) I.ok.mod.kin T.kC ?_ plain rest
  apply thn (args.run pos pins s σ H _ I want)
  rintro us ⟨hp, gs, dr, tk, os⟩ ⟨_, H1, J, rv, y, rfl, wish⟩
  refine ⟨J.kIn, wpAny_call ?_⟩
  have one : us.length = 1 := rv.length.symm
  have young : H1 (hp.objs.size + 1) = none := J.hok.fresh (Nat.le_succ hp.objs.size)
  have grows : ∀ b o, hp.get? b = some o → ((hp.push (PySem.W.kdv_tup us)).push (PySem.HandSPX.excO C hp.objs.size)).get? b = some o := fun _ _ z => Heap.get?_push_of_some _ (Heap.get?_push_of_some _ z)
  have J' := J.laid (t' := tk) grows (Nat.le_succ hp.objs.size) (exo_ok (P := X.prog) (w := X.w) (H := upd H1 _ _) (e := hp.objs.size + 1) (C := C) (d := none) (t1 := hp.objs.size) (by heap_get))
  have asked := init_meets (Q := Q) young wish
  have given : Vals [.ref (hp.objs.size + 1), y] (.ref (hp.objs.size + 1) :: us) := .cons rfl rv
  have bound := binds ⟨_, gs, dr, tk, os⟩ (.ref (hp.objs.size + 1) :: us) J'.kIn (by rw [List.append_nil, ← given.length]; exact F.len _ _ _ _ _ rfl asked)
  rw [List.append_nil] at bound
  have inner := F.run _ X.stack _ _ ⟨.ref (hp.objs.size + 1) :: us, []⟩ _ _ _ _ none rfl (room.make C us []) (make_handled.trans (J'.ok.hd calm)) (J'.env0.make C us []) bound given asked
  refine PySem.HandSPX.call_own PySem.F.excBase_ValueError (fun n => PySem.HandSPX.refsVE_contains n bm roots) (J.kIn _ _ at_C) (PySem.W.looks_findIn J.kIn own) (fun o => PySem.W.bind_fn J.kIn o isFn) (by show us.length ≤ _; rw [one, sizeLine_eq]; decide) (codeAny_mono inner ?_)
  rintro (er | fl) ⟨h2, g2, d2, t2, os2⟩ told
  · have ⟨_, _, _, _, _, _, _, _, _, _, _, _, never⟩ := told
    exact never.elim
  · cases fl with
    | ret u =>
      obtain ⟨_, H2, sameOs, bare, un, hok, rel, rfl, d, fs, at_e, at_d, free, done⟩ := told
      have ⟨_, G, JG, keeps, away, lies, off⟩ := mk_end0 (d2 := d2) (t2 := t2) J (Nat.le_succ _) grows un hok sameOs bare at_e at_d free
      exact ⟨rel, _, _, _, ⟨G, g2, d2, t2, os2⟩, _, .ref C, some d, rfl, JG, keeps, away, lies, ⟨rfl, rfl, fun _ z => by cases z; rfl⟩, rfl, rfl, off, rfl, bare, raises_own T.exC T.tyC, done⟩
    | _ => exact told.elim
/-- X() of a class without own __init__ -/
theorem pmk_bare {bmB : List Value} {B newId initId : String} (base : ExcBaseFacts B newId initId bmB) (isExc : PySem.W.excIn X.K C bmB newId = true) (kept : PySem.W.keepIn X.K (.ref C) = true) (raises : Raises X (.ref C)) (gl : Gl X x) (at_x : X.mg x = some (.ref C)) (db : (x == ("__debug__" : Str)) = false) :
    L2N.PMk X (.Call (.Name x p) [] [] pos) fun _ H Q => Q (.ref C) none H := fun _ _ _ _ _ I want =>
  have ⟨_, _, _, _, _, _, _, _, _, _, _, _, _, _, _, _, _, at_C, names, noInit, tail⟩ := exc_obj I.kIn isExc
  wpAny_Call_Name_kw (ld_glob I gl at_x (PySem.W.callWith_K0 I.kIn kept (wpAny_call_exc_subT base tail at_C names noInit (fun _ _ new => L2N.mk_of I new raises want (I.hok.gone new.new)) (Nat.zero_le _))) db)
/-- B.__init__(self, ..), B an own class that has ValueError's -/
theorem pe_binit {B : Addr} {z : Str} {p1 p2 : Pos} {pl : Sem Bool} (gl : Gl X z) (at_z : X.mg z = some (.ref B)) (db : (z == ("__debug__" : Str)) = false) (reads : PySem.W.readsIn X.K B (.type "type") = true) (plainGa : PySem.W.specialIn X.K (.ref B) "__getattribute__" = some (some (.builtin "type.__getattribute__")))
    (found : PySem.W.findCls X.K (.ref B) (.type "type") "__init__" = some (.val (.builtin "ValueError.__init__"))) (args : PA X (e :: es) ta)
    (form : eval (.Call (.Attribute (.Name z p1) "__init__" p2) (e :: es) [] pos) X.env = (do let ov ← eval (.Name z p1) X.env; standAt p2.atName; let (g, first) ← holding [ov] (getMethod ov "__init__" pl); callWith pos g first (backTo pos (starEach (e :: es) X.env)) (backToKw pos (keywordEach [] X.env))))
    (plain : starEach (e :: es) X.env = (false, eval e X.env) :: starEach es X.env) (rest : (backTo pos (starEach es X.env)).any (·.1) = false) : PE X (.Call (.Attribute (.Name z p1) "__init__" p2) (e :: es) [] pos) (tVeI X.K ta) where
  run pins s σ H Q I want := by
    apply PySem.W.methodCall_KW (ld_glob I gl at_z (PySem.W.method_cls I.kIn plainGa (PySem.W.cls_value I.kIn reads found (by decide +kernel) ?_)) db) form
    apply PyProof.Rows.callWith_method1 (first := []) ?_ plain rest
    apply thn (args.run pos pins _ σ H _ (I.tok _) want)
    rintro _ _ ⟨_, H1, J, rv, a, C, ws, rfl, few, T, at_a, q⟩
    cases rv with
    | cons r0 r1 =>
      cases r0
      exact oinit_ok T J at_a (by rw [← Paired.length r1, sizeLine_eq]; omega) fun _ J' => ⟨.non, H1, J', rfl, q⟩
end
end Sv

/-! Sv12: method calls' form; an error's own __init__. -/
namespace Sv
open PySem PySem.Spec PyProof.Rows L2
open L2H (RoomH)
theorem stars_all : ∀ {es : List Expr} {env : Env} {pos : Pos}, es.all nstar = true → (backTo pos (starEach es env)).all (fun x => !x.1) = true
  | [], _, _, _ => rfl
  | e :: es, env, pos, h => by
    rw [List.all_cons, Bool.and_eq_true] at h
    rw [nstar_ok h.1]
    have q := stars_all (env := env) (pos := pos) h.2
    simpa [backTo] using q
theorem meth_eq {o : Expr} {args : List Expr} {name : Str} {apos pos : Pos} {env : Env} (h1 : nsup o = true) (h2 : args.all nstar = true) (h3 : args.length < 30) (h4 : (apos.endLine == pos.line) = true) :
    eval (.Call (.Attribute o name apos) args [] pos) env = (do
      let ov ← eval o env
      standAt apos.atName
      let (f, first) ← holding [ov] (getMethod ov name (do return (← importBound o env).getD true))
      callWith pos f first (backTo pos (starEach args env)) (backToKw pos (keywordEach [] env))) := by
  show (do
    let ov ← attributeBase o name env (eval o env)
    standAt apos.atName
    methodCall o name apos pos env ov (args.length + ([] : List Keyword).length) (backTo pos (starEach args env)) (backToKw pos (keywordEach [] env))) = _
  rw [nsup_ok h1]
  have hform : methodCallForm (args.length + ([] : List Keyword).length) (backTo pos (starEach args env)) (backToKw pos (keywordEach [] env)) = true := by
    unfold methodCallForm
    rw [stars_all h2]
    show (true && true && decide (args.length + 0 + (if true = true then 0 else 1) < 30)) = true
    simpa using h3
  have hpos : methodCallPos true o env apos pos = pure pos := by unfold methodCallPos; simp [h4]
  congr 1
  funext ov
  congr 1
  funext _
  unfold methodCall
  rw [hform, hpos]
  unfold calleeOf
  simp
/-- what the written part says of the base class of the errors -/
structure BasF (K : PySem.W.Frag) (B : Addr) : Prop where
  rd : PySem.W.readsIn K B (.type "type") = true
  ga : PySem.W.specialIn K (.ref B) "__getattribute__" = some (some (.builtin "type.__getattribute__"))
  vV : PySem.W.findCls K (.ref B) (.type "type") "__init__" = some (.val (.builtin "ValueError.__init__"))
/-- def __init__(self, y): B.__init__(self, '..'); self.f = y -/
def initB (N : List Str) (scope : Scope) (f : Str) (body : List Stmt) (z : Str) : Bool := match body with
  | [.Expr (.Call (.Attribute (.Name z' _) m ap) [.Name s1 _, .Constant (.str _) _ _] [] cp) _, .Assign [.Attribute (.Name s2 _) f' _] (.Name y _) _] =>
    nmB N 0 s1 && nmB N 0 s2 && nmB N 1 y && visB scope s1 && visB scope s2 && visB scope y && decide (z' = z) && glB scope z && decide ((z == ("__debug__" : Str)) = false) && decide (m = ("__init__" : Str)) && decide (f' = f) && (ap.endLine == cp.line) && decide (N.length = 2) && decide (z ≠ ("super" : Str))
  | _ => false
theorem fn_init {P : Program} {w : World} {K : PySem.W.Frag} {mg : Str → Option Value} {base : Heap} {k : Nat} {f : Addr} {name qual : Str} {params : Arguments} {body : List Stmt} {scope : Scope} {dV kV doc pm cdv ct oc : Value} {an od : Option Addr}
    {osl : Array (Option Value)} {N : List Str} {C B : Addr} {z fl : Str} (lk : K.lookup f = some ⟨oc, od, .func (PySem.W.fnOf name qual params body scope dV kV doc pm an cdv ct), osl⟩) (hcd : PySem.W.codeIn K cdv qual = true) (S : FnScope N N scope)
    (hb : initB N scope fl body z = true) (hz : mg z = some (.ref B)) (bf : BasF K B) (T : OexC K C) (no : PySem.W.findIn K (.ref C) fl = some none) :
    FnG P w K mg base false (k + 1) f (PySem.W.fnOf name qual params body scope dV kV doc pm an cdv ct) N (spI C fl) := by
  unfold initB at hb
  split at hb
  · rename_i z' p1 m ap s1 p2 j0 j1 j2 cp p3 s2 p4 f' p5 y p6 p7
    simp only [Bool.and_eq_true, decide_eq_true_eq] at hb
    obtain ⟨⟨⟨⟨⟨⟨⟨⟨⟨⟨⟨⟨⟨n1, n2⟩, n3⟩, v1⟩, v2⟩, v3⟩, rfl⟩, g1⟩, d1⟩, rfl⟩, rfl⟩, ln⟩, l2⟩, ns⟩ := hb
    refine fn_ofM lk hcd S (fun m vs H Q E _ h => ?_) fun A outer s H vs Q E m hm hM hr hsp => ?_
    · obtain ⟨a, y0, rfl, _⟩ := h
      rw [l2]; rfl
    · have hm0 : m = none := by cases m with | none => rfl | some _ => cases hm
      subst hm0
      obtain ⟨a, y0, rfl, ha, q⟩ := hsp
      have pv : ∀ {x : Str} {i : Nat} {p : Pos}, nmB N i x = true → visB scope x = true → PE (cxM P w K mg base N qual scope f cdv A outer s H E none) (.Name x p) (tVar i) := fun {x i p} h1 h2 => pe_var (nmB_ok h1).1 (visB_ok h2) (nmB_ok h1).2.1 (nmB_ok h1).2.2
      refine ⟨_, pss_cons (ps_expr (pe_binit (B := B) (show Gl _ z' from glB_ok g1) hz d1 bf.rd bf.ga bf.vV (pa_cons (pv n1 v1) (pa_cons pe_str pa_nil rfl) rfl) (meth_eq (by simpa [nsup] using fun _ => ns) rfl (by show 2 < 30; decide) ln) rfl rfl) rfl) (pss_one (ps_ost (pv n2 v2) (pv n3 v3) rfl)), ?_⟩
      have e0 : (L2.start N [V.ref a, y0]) = [some (V.ref a), some y0] := by
        unfold L2.start
        rw [l2]; rfl
      rw [e0]
      refine ⟨V.ref a, rfl, ?_⟩
      refine ⟨a, C, _, rfl, (by show 1 ≤ 1000; decide), T, ha, ?_⟩
      refine ⟨y0, rfl, V.ref a, rfl, a, C, rfl, T, no, .inl ⟨ha, fun dx hd hne => q dx hd hne⟩⟩
  · cases hb
end Sv

/-! Sv13: the check is sound: statements. -/
namespace Sv
open PySem PySem.Spec PyProof.Rows L2
open L2H (RoomH)
/-- how an error is made, by the row -/
inductive MkF (P : Program) (w : World) (K : PySem.W.Frag) (mg : Str → Option Value) (base : Heap) (k : Nat) (C : Addr) : XKd → Prop
  | fld {f : Str} {fI : Addr} {fd : FuncData} {ps : List Str} {kI : Nat} (T : OexC K C) (iC : PySem.W.findIn K (.ref C) "__init__" = some (some (.ref fI))) (tI : PySem.W.typeIn K (.ref fI) = some (.type "function")) (F : FnG P w K mg base false kI fI fd ps (spI C f)) (b : L2.Binds K fd ps []) (h : kI + 1 ≤ k) : MkF P w K mg base k C (.fld f)
  | bare {bmB : List Value} {B newId initId : String} (Fb : ExcBaseFacts B newId initId bmB) (q : PySem.W.excIn K C bmB newId = true) (kC : PySem.W.keepIn K (.ref C) = true) (e1 : PySem.W.subIn K (.ref C) (.type "BaseException") = some true) (e2 : PySem.W.typeIn K (.ref C) = some (.type "type")) : MkF P w K mg base k C .bare
structure XS (n : SN) (X : Cx) (G : Gs) (W : WX) (k : Nat) (sc : Scope) : Prop where
  xc : XC n X G.toGm W k sc
  esc : X.env.scope = sc
  fn : ∀ x, X.fn x = true
  stk : X.stack = X.env :: X.outer
  fr : X.env.frame = some X.env.locals
  xm : ∀ j x kd, G.xk j = some kd → n.cls[j]? = some x → MkF X.prog X.w X.K X.mg X.base k (G.cl j) kd
section
variable {n : SN} {X : Cx} {G : Gs} {W : WX} {k : Nat} {sc : Scope}
theorem XC.tr (c : XC n X G.toGm W k sc) {W' : WX} {pn : List (Addr × Obj)} {xe : Value → Shared → Prop} (hm : G.m0 = none) (tk : L2N.Takes (X.tr pn xe) W') (ps : PassesOwn (model X.prog X.w) X.A X.env xe) : XC n (X.tr pn xe) G.toGm W' k sc :=
  ⟨c.ok, c.N, ⟨c.sc.vis, c.sc.loc, c.sc.gl, c.sc.fr⟩, c.rm, by have := c.md; rw [hm] at this ⊢; exact this, tk, ps⟩
theorem XS.tr (c : XS n X G W k sc) {W' : WX} {pn : List (Addr × Obj)} {xe : Value → Shared → Prop} (hm : G.m0 = none) (tk : L2N.Takes (X.tr pn xe) W') (ps : PassesOwn (model X.prog X.w) X.A X.env xe) : XS n (X.tr pn xe) G W' k sc :=
  ⟨c.xc.tr hm tk ps, c.esc, c.fn, c.stk, c.fr, c.xm⟩
theorem GOk.suite {P : Program} {w : World} {K : PySem.W.Frag} {mg : Str → Option Value} {base : Heap} {G : Gm} {m : Option (Addr × Obj)} (h : GOk n P w K mg base G k) : GOk n P w K mg base { G with m0 := m } k :=
  ⟨h.K, h.nd, h.fn, h.gv, h.cl, h.bt⟩
theorem XS.suite (c : XS n X G W k sc) {a : Addr} {oe : Obj} {pn : List (Addr × Obj)} {cls : Value} {d : Option Addr} (hz : L2N.Zn cls d oe) (hd : ∃ vs, oe.data = .fields vs) : XS n (X.suite a ((a, oe) :: pn)) (G.suite a oe) noW k sc :=
  ⟨⟨c.xc.ok.suite, c.xc.N, ⟨c.xc.sc.vis, c.xc.sc.loc, c.xc.sc.gl, c.xc.sc.fr⟩, ⟨c.xc.rm.dp, c.xc.rm.un⟩, by
      obtain ⟨vs, hv⟩ := hd
      exact ⟨⟨rfl, vs, hv, hz.2.2 vs hv⟩, List.mem_cons_self⟩, fun u s' ⟨_, _, _, _, _, _, _, _, _, _, _, _, _, _, _, _, z⟩ => z.elim, PassesOwn.never⟩,
    c.esc, c.fn, c.stk, c.fr, c.xm⟩
end
def SndS (n : SN) (sc : Scope) (s : RS) (x : Stmt) : Prop := ∀ X G W k, XS n X G W k sc → PS X x (LS G.toGd W (denS G s))
def SndSs (n : SN) (sc : Scope) (s : RSs) (x : List Stmt) : Prop := ∀ X G W k, XS n X G W k sc → PSs X x (LS G.toGd W (denSs G s))
theorem nlc_sw {e : Expr} {t : Option Expr} {l : Nat} {env : Env} (h : nlc e = true) : swapsWith e t l env = pure false := by
  cases e <;> first | rfl | cases h
section
variable {n : SN} {X : Cx} {G : Gs} {W : WX} {k : Nat} {sc : Scope} {pos : Pos}
theorem nswap_sw {t e : Expr} {l : Nat} (esc : X.env.scope = sc) (h : nswap sc t e = true) : swapsWith e (some t) l X.env = pure false := by
  unfold nswap at h
  rw [Bool.or_eq_true] at h
  rcases h with h | h
  · exact nlc_sw h
  · split at h
    · rename_i y p
      have key : (X.env.blockKind == .function && X.env.kindOf y == some .local && p.line == e.pos.line) = false := by
        split at h
        · have : (p.line == e.pos.line) = false := by simpa using h
          rw [this, Bool.and_false]
        · rename_i hne
          have : (X.env.kindOf y == some .local) = false := by
            have e1 : X.env.kindOf y = sc.names.lookup y := by rw [← esc]; rfl
            rw [e1]
            exact Bool.eq_false_iff.mpr fun z => hne (eq_of_beq z)
          rw [this, Bool.and_false, Bool.false_and]
      unfold swapsWith
      cases e <;> first | rfl | (simp only [key, Bool.false_and]; done) | (simp only [key, Bool.false_and]; rfl)
    · unfold swapsWith
      cases e <;> rfl
    · cases h
theorem stores_none {t e : Expr} (h : ntup e = true) : swappedStores [t] e X.env = pure none := by
  unfold swappedStores
  cases t <;> cases e <;> first | rfl | cases h
theorem one_stores {t : Expr} {one : Bool} {tg : List Nat} (h : chkTg n sc tg one t = true) (ho : one = true) {e : Expr} : swappedStores [t] e X.env = pure none := by
  subst ho
  unfold chkTg at h
  rw [if_pos rfl] at h
  split at h
  · unfold swappedStores; cases e <;> rfl
  · cases h
theorem LS.mk' {s : RS} {x : Stmt} {t : TS} (h : PS X x t) (w : ∀ D σ H δ S Y F, Rel G.toGd S H δ σ → denS G s δ S Y F → ResS G.toGd S H F D → ResW G.toGd S H Y W → t D σ H) : PS X x (LS G.toGd W (denS G s)) :=
  PS.imp h fun D σ H q => by
    obtain ⟨δ, S, Y, F, R, ht, rs, rw'⟩ := q
    exact w D σ H δ S Y F R ht rs rw'
theorem assign_one {t : Expr} {one : Bool} {tg : List Nat} (h : chkTg n sc tg one t = true) : (assignEach [t] X.env).map (·.2) = [assign t X.env] := by
  unfold chkTg at h
  cases one with
  | true =>
    rw [if_pos rfl] at h
    split at h
    · rfl
    · cases h
  | false =>
    rw [if_neg Bool.false_ne_true] at h
    split at h
    · rfl
    · cases h
theorem ss_asg {tg : List Nat} {one : Bool} {e : RE} {t v : Expr} (c : XS n X G W k sc) (h1 : nswap sc t v = true) (h2 : (one || ntup v) = true) (h3 : chkTg n sc tg one t = true) (he : PE X v (LE G.toGd W (den G.toGm e))) : PS X (.Assign [t] v pos) (LS G.toGd W (denS G (.asg tg one e))) := by
  by_cases hm : one = false → G.m0 = none
  · have calm : one = false → X.calm = true := fun h => by
      have := c.xc.md
      rw [hm h] at this
      exact this
    have hw : swappedStores [t] v X.env = pure none := by
      cases one with
      | true => exact one_stores h3 rfl
      | false => exact stores_none (by simpa using h2)
    refine LS.mk' (ps_asg he (pg_tg c.xc calm h3) (nswap_sw c.esc h1) hw (assign_one h3)) fun D σ H δ S Y F R ht rs rw' => ?_
    rw [denS] at ht
    refine ⟨δ, S, Y, _, R, ht.2, fun d S1 v1 H1 kk P cc r => ?_, rw'⟩
    rw [← c.xc.ok.K]
    exact gTg_rd (I := fun _ => True) (fun _ _ _ _ _ => trivial) kk r (R.mono P cc) trivial fun δ' σ' q R' _ => rs.nx δ' S1 σ' H1 q P R'
  · refine LS.mk' ps_never fun D σ H δ S Y F R ht rs rw' => ?_
    rw [denS] at ht
    exact (hm ht.1).elim

theorem ss_exp {e : RE} {v : Expr} (h1 : nlc v = true) (he : PE X v (LE G.toGd W (den G.toGm e))) : PS X (.Expr v pos) (LS G.toGd W (denS G (.exp e))) :=
  LS.mk' (ps_expr he (nlc_sw h1)) fun D σ H δ S Y F R ht rs rw' => by
    rw [denS] at ht
    exact ⟨δ, S, Y, _, R, ht, fun d S1 v1 H1 kk P cc r => rs.nx δ S1 σ H1 kk P (R.mono P cc), rw'⟩
theorem ss_sti {a b e : RE} {l r v : Expr} {p1 : Pos} (c : XS n X G W k sc) (h1 : nlc v = true) (h2 : nslice r = true) (ha : PE X l (LE G.toGd W (den G.toGm a))) (hb : PE X r (LE G.toGd W (den G.toGm b))) (he : PE X v (LE G.toGd W (den G.toGm e))) :
    PS X (.Assign [.Subscript l r p1] v pos) (LS G.toGd W (denS G (.sti a b e))) := by
  have hst : swappedStores [.Subscript l r p1] v X.env = pure none := by unfold swappedStores; cases v <;> rfl
  have haa : ∀ v, assign (.Subscript l r p1) X.env v = (do
      let ov ← holding [v] (eval l X.env)
      let iv ← holding [v, ov] (eval r X.env)
      standAt p1
      holding [v, ov, iv] (setItem ov iv v)
      release [v, ov, iv] []) := by
    intro v
    cases r <;> first | rfl | cases h2
  refine LS.mk' (ps_asg he (pg_sub ha hb (setD_ok (g := G.toGd) (by have := c.xc.un; omega)) haa) (show swapsWith v (some (.Subscript l r p1)) pos.line X.env = pure false from nlc_sw h1) hst rfl) fun D σ H δ S Y F R ht rs rw' => ?_
  rw [denS] at ht
  refine ⟨δ, S, Y, _, R, ht, fun z S1 v1 H1 kk P cc r1 => ?_, rw'⟩
  refine ⟨δ, S1, Y, _, R.mono P cc, kk, fun x S2 v2 H2 kk P2 cc2 r2 => ?_, rw'.mono P⟩
  refine ⟨δ, S2, Y, _, (R.mono P cc).mono P2 cc2, kk, fun y S3 v3 H3 kk P3 cc3 r3 => ?_, (rw'.mono P).mono P2⟩
  have P23 := P2.trans P3
  exact ⟨x, y, z, S3, _, cc3, r2.mono P3, r3, r1.mono P23, kk, fun S4 H4 q P4 cc4 => rs.nx δ S4 σ H4 q ((P.trans P23).trans P4) (R.mono ((P.trans P23).trans P4) cc4)⟩
theorem ss_stf {a e : RE} {l v : Expr} {f : Str} {p1 : Pos} (c : XS n X G W k sc) (h1 : nlc v = true) (ha : PE X l (LE G.toGd W (den G.toGm a))) (he : PE X v (LE G.toGd W (den G.toGm e))) :
    PS X (.Assign [.Attribute l f p1] v pos) (LS G.toGd W (denS G (.stf a f e))) := by
  refine LS.mk' (ps_fld ha he (nlc_sw h1)) fun D σ H δ S Y F R ht rs rw' => ?_
  rw [denS] at ht
  refine ⟨δ, S, Y, _, R, ht, fun z S1 v1 H1 kk P cc r1 => ?_, rw'⟩
  refine ⟨δ, S1, Y, _, R.mono P cc, kk, fun x S2 v2 H2 kk P2 cc2 r2 => ?_, rw'.mono P⟩
  obtain ⟨p, C, fs, rfl, e1, cl, na, hl, q⟩ := kk
  cases rep_obj r2
  obtain ⟨dx, ws, hi, hf⟩ := cc2 _ _ e1
  rw [c.xc.ok.K] at cl na
  have P3 : Post S2 H2 (S2.set p (.ins C (putFD f z fs))) (upd H2 p (.ins C dx (putF f v1 ws))) := Post.write e1
  refine ⟨p, C, dx, ws, rfl, hi, cl, na, by rw [← lenF hf]; exact hl, rs.nx δ _ σ _ q ((P.trans P2).trans P3) (R.mono ((P.trans P2).trans P3) (cc2.write e1 ⟨dx, _, upd_same, (putF_rep (r1.mono P2) hf).mono P3⟩))⟩
theorem ss_agv {i : Nat} {op : Operator} {e : RE} {y : Str} {v : Expr} {p1 : Pos} (c : XS n X G W k sc) (h1 : nmB n.N i y = true) (h2 : locB sc y = true) (he : PE X v (LE G.toGd W (den G.toGm e))) : PS X (.AugAssign (.Name y p1) op v pos) (LS G.toGd W (denS G (.agv i op e))) := by
  refine LS.mk' (ps_aug c.xc.nd (c.xc.at h1) (c.xc.loc h2) he (augD_ok (g := G.toGd) op) (c.xc.sto h2)) fun D σ H δ S Y F R ht rs rw' => ?_
  rw [denS] at ht
  obtain ⟨x, ex, ht⟩ := ht
  obtain ⟨u, eu, ru⟩ := R.sl.at_ i x ex
  refine ⟨u, eu, δ, S, Y, _, R, ht, fun d S1 v1 H1 kk P cc r => ?_, rw'⟩
  exact ⟨x, d, S1, _, cc, ru.mono P, r, kk, fun z S2 v2 H2 q P2 cc2 r2 => rs.nx _ S2 _ H2 q (P.trans P2) ⟨(R.sl.mono (P.trans P2)).set r2, cc2⟩⟩
theorem ss_agi {a b e : RE} {op : Operator} {l r v : Expr} {p1 : Pos} (c : XS n X G W k sc) (h2 : nslice r = true) (ha : PE X l (LE G.toGd W (den G.toGm a))) (hb : PE X r (LE G.toGd W (den G.toGm b))) (he : PE X v (LE G.toGd W (den G.toGm e))) :
    PS X (.AugAssign (.Subscript l r p1) op v pos) (LS G.toGd W (denS G (.agi a b op e))) := by
  have hau : ∀ ov iv new, augStore r ov iv new = (do holding [new, ov, iv] (setItem ov iv new); release [new, ov, iv] []; pure .next) := by
    intro ov iv new
    cases r <;> first | rfl | cases h2
  have hu : X.A.units + 1 < cLine := by have := c.xc.un; omega
  refine LS.mk' (ps_augS ha hb (getD_ok (g := G.toGd) hu) he (augD_ok (g := G.toGd) op) (setD_ok (g := G.toGd) hu) hau) fun D σ H δ S Y F R ht rs rw' => ?_
  rw [denS] at ht
  refine ⟨δ, S, Y, _, R, ht, fun x S1 v1 H1 kk P cc r1 => ?_, rw'⟩
  refine ⟨δ, S1, Y, _, R.mono P cc, kk, fun y S2 v2 H2 kk P2 cc2 r2 => ?_, rw'.mono P⟩
  refine ⟨x, y, S2, _, cc2, r1.mono P2, r2, kk, fun u S3 v3 H3 kk P3 cc3 r3 => ?_⟩
  have Q3 := (P.trans P2).trans P3
  refine ⟨δ, S3, Y, _, R.mono Q3 cc3, kk, fun w S4 v4 H4 kk P4 cc4 r4 => ?_, rw'.mono Q3⟩
  refine ⟨u, w, S4, _, cc4, r3.mono P4, r4, kk, fun z S5 v5 H5 kk P5 cc5 r5 => ?_⟩
  have P35 := (P3.trans P4).trans P5
  refine ⟨x, y, z, S5, _, cc5, r1.mono (P2.trans P35), r2.mono P35, r5, kk, fun S6 H6 q P6 cc6 => rs.nx δ S6 σ H6 q (((Q3.trans P4).trans P5).trans P6) (R.mono (((Q3.trans P4).trans P5).trans P6) cc6)⟩
theorem ss_ifs {c0 : RE} {a b : RSs} {t : Expr} {p q : List Stmt} (ht : PT X t (LT G.toGd W (denT G.toGm c0))) (ha : PSs X p (LS G.toGd W (denSs G a))) (hb : PSs X q (LS G.toGd W (denSs G b))) : PS X (.If t p q pos) (LS G.toGd W (denS G (.ifs c0 a b))) := by
  refine LS.mk' (ps_if ht ha hb) fun D σ H δ S Y F R ht rs rw' => ?_
  rw [denS] at ht
  refine ⟨δ, S, Y, _, R, ht, fun b S1 H1 kk P cc => ?_, rw'⟩
  cases b with
  | true => exact ⟨δ, S1, Y, F, R.mono P cc, kk, rs.mono P, rw'.mono P⟩
  | false => exact ⟨δ, S1, Y, F, R.mono P cc, kk, rs.mono P, rw'.mono P⟩
theorem ss_wh {c0 : RE} {b : RSs} {t : Expr} {p : List Stmt} (c : XS n X G W k sc) (ht : PT X t (LT G.toGd W (denT G.toGm c0))) (hb : PSs X p (LS G.toGd W (denSs G b))) : PS X (.While t p [] pos) (LS G.toGd W (denS G (.wh c0 b))) := by
  refine LS.mk' (ps_while c.xc.ps ht hb) fun D σ H δ S Y F R ht rs rw' => ?_
  rw [denS] at ht
  obtain ⟨Iv, ⟨m0, i0⟩, step⟩ := ht
  refine ⟨fun m σ' H' => ∃ δ' S', Iv m δ' S' ∧ Post S H S' H' ∧ Rel G.toGd S' H' δ' σ', ⟨m0, δ, S, i0, Post.refl _ _, R⟩, ?_⟩
  rintro m σ1 H1 ⟨δ1, S1, iv, P1, R1⟩
  refine ⟨δ1, S1, Y, _, R1, step m δ1 S1 iv, fun b S2 H2 kk P2 cc2 => ?_, rw'.mono P1⟩
  have P12 := P1.trans P2
  cases b with
  | true =>
    refine ⟨fun σ' H' => ∃ m', m' < m ∧ ∃ δ' S', Iv m' δ' S' ∧ Post S H S' H' ∧ Rel G.toGd S' H' δ' σ', fun σ' H' q => q, ?_⟩
    have nx : ∀ δ' S' σ' H', (∃ m', m' < m ∧ Iv m' δ' S') → Post S2 H2 S' H' → Rel G.toGd S' H' δ' σ' → ∃ m', m' < m ∧ ∃ δ' S', Iv m' δ' S' ∧ Post S H S' H' ∧ Rel G.toGd S' H' δ' σ' := fun δ' S' σ' H' ⟨m', hm, q⟩ P' R' => ⟨m', hm, δ', S', q, P12.trans P', R'⟩
    exact ⟨δ1, S2, Y, _, R1.mono P2 cc2, kk, ⟨nx, rs.rt.mono P12, fun δ' S' σ' H' q P' R' => rs.nx δ' S' σ' H' q (P12.trans P') R', nx⟩, rw'.mono P12⟩
  | false => exact rs.nx δ1 S2 σ1 H2 kk P12 (R1.mono P2 cc2)
theorem ss_fr {tg : List Nat} {one : Bool} {it : RI} {b : RSs} {t i : Expr} {p : List Stmt} (c : XS n X G W k sc) (h1 : nsetd i = true) (h2 : chkTg n sc tg one t = true) (hI : SndI n sc it i) (hb : PSs X p (LS G.toGd W (denSs G b))) : PS X (.For t i p [] pos) (LS G.toGd W (denS G (.fr tg one it b))) := by
  by_cases hm : G.m0 = none
  · have calm : X.calm = true := by have := c.xc.md; rw [hm] at this; exact this
    refine LS.mk' (ps_for c.xc.ps calm (hI X G.toGm W k t c.xc hm) (pg_tg c.xc (fun _ => calm) h2) hb (fun x => nsetf_ok h1 x)) fun D σ H δ S Y F R ht rs rw' => ?_
    rw [denS] at ht
    refine ⟨δ, S, Y, _, R, ht.2, fun ds ok S1 H1 J hk P1 c1 io => ?_, rw'⟩
    obtain ⟨Iv, i0, hok, step, last⟩ := hk
    refine ⟨fun i m σ' H' => m = ds.length - i ∧ i ≤ ds.length ∧ ∃ δ' S', Iv i δ' S' ∧ Post S1 H1 S' H' ∧ Rel G.toGd S' H' δ' σ', ⟨_, rfl, Nat.zero_le _, δ, S1, i0, Post.refl _ _, R.mono P1 c1⟩, ?_⟩
    rintro i m σ' H' ⟨rfl, hi, δ', S', iv, P', R'⟩
    have ok' := hok i δ' S' iv hi
    by_cases hlt : i < ds.length
    · refine .inr ⟨io.go i S' H' hlt P' R'.ce ok', fun σ2 H2 => i + 1 ≤ ds.length ∧ ∃ δ' S', Iv (i + 1) δ' S' ∧ Post S1 H1 S' H2 ∧ Rel G.toGd S' H2 δ' σ2, fun σ2 H2 q => ⟨_, by omega, rfl, q⟩, fun x H2 y => ?_⟩
      obtain ⟨P2, c2, r2⟩ := io.yl i S' H' x H2 ds[i] (by simp) P' R'.ce ok' y
      have hstep := step i ds[i] δ' S' (by simp) iv
      rw [← c.xc.ok.K]
      refine gTg_rd (I := fun _ => True) (fun _ _ _ _ _ => trivial) hstep r2 (R'.mono P2 c2) trivial fun δ3 σ3 hq R3 _ => ?_
      have P12 := P'.trans P2
      have nx : ∀ δ4 S4 σ4 H4, Iv (i + 1) δ4 S4 → Post S' H2 S4 H4 → Rel G.toGd S4 H4 δ4 σ4 → i + 1 ≤ ds.length ∧ ∃ δ' S', Iv (i + 1) δ' S' ∧ Post S1 H1 S' H4 ∧ Rel G.toGd S' H4 δ' σ4 := fun δ4 S4 σ4 H4 q P4 R4 => ⟨hlt, δ4, S4, q, P12.trans P4, R4⟩
      exact ⟨δ3, S', Y, _, R3, hq, ⟨nx, (rs.rt.mono P1).mono P12, fun δ4 S4 σ4 H4 q P4 R4 => rs.nx δ4 S4 σ4 H4 q (P1.trans (P12.trans P4)) R4, nx⟩, (rw'.mono P1).mono P12⟩
    · have e : i = ds.length := by omega
      subst e
      exact .inl ⟨io.st _ S' H' (Nat.le_refl _) P' R'.ce ok', rs.nx δ' S' σ' H' (last δ' S' iv) (P1.trans P') R'⟩
  · refine LS.mk' ps_never fun D σ H δ S Y F R ht rs rw' => ?_
    rw [denS] at ht
    exact (hm ht.1).elim
theorem ss_ret {e : RE} {v : Expr} (he : PE X v (LE G.toGd W (den G.toGm e))) : PS X (.Return (some v) pos) (LS G.toGd W (denS G (.ret e))) :=
  LS.mk' (ps_ret he) fun D σ H δ S Y F R ht rs rw' => by
    rw [denS] at ht
    exact ⟨δ, S, Y, _, R, ht, rs.rt, rw'⟩
theorem ss_rai {j : Nat} {es : RL} {y : Str} {xs : List Expr} {p1 p2 : Pos} (c : XS n X G W k sc) (h1 : nmB n.cls j y = true) (h2 : glB sc y = true) (hL : SndL n sc es xs) : PS X (.Raise (some (.Call (.Name y p1) xs [] p2)) none pos) (LS G.toGd W (denS G (.rai j es))) := by
  by_cases hm : G.m0 = none
  · have calm : X.calm = true := by have := c.xc.md; rw [hm] at this; exact this
    cases hx : G.xk j with
    | none =>
      refine LS.mk' ps_never fun D σ H δ S Y F R ht rs rw' => ?_
      rw [denS] at ht
      obtain ⟨_, kd, e, _⟩ := ht
      rw [hx] at e; cases e
    | some kd =>
      have M := c.xm j y kd hx (nmB_ok h1).1
      have hcl := c.xc.ok.cl j y (nmB_ok h1).1
      have hs := hL.st
      have ha := hL.a X G.toGm W k c.xc
      have ar : ∀ {δ S Y F}, denS G (.rai j es) δ S Y F → es.len = kd.ar := fun {δ S Y F} q => by
        rw [denS] at q
        obtain ⟨_, kd', e, q, _⟩ := q
        rw [hx] at e; cases e
        exact q
      have un : ∀ {δ S Y F}, denS G (.rai j es) δ S Y F → dens G.toGm es δ S Y fun ds S1 => ∃ fs, mkX kd ds = some fs ∧ Y (G.cl j) fs δ S1 := fun {δ S Y F} q => by
        rw [denS] at q
        obtain ⟨_, kd', e, _, q⟩ := q
        rw [hx] at e; cases e
        exact q
      cases M with
      | @fld f fI fd ps kI T iC tI Fn b hk =>
        cases xs with
        | nil =>
          refine LS.mk' ps_never fun D σ H δ S Y F R ht rs rw' => ?_
          have q := un ht
          rw [hL.nl rfl, dens] at q
          obtain ⟨fs, e, _⟩ := q
          cases e
        | cons z zs =>
          rw [List.all_cons, Bool.and_eq_true] at hs
          refine LS.mk' (L2N.ps_raise calm c.xc.tk (pmk_fld T iC tI Fn ⟨by have := c.xc.rm.dp; omega, by have := c.xc.rm.un; omega⟩ calm b (c.xc.gl h2) hcl ha (nmB_ok h1).2.1 (nstar_ok hs.1) (stars_any hs.2))) fun D σ H δ S Y F R ht rs rw' => ?_
          refine ⟨δ, S, Y, _, R, un ht, fun ds S1 vs H1 kk P cc r => ?_, rw'⟩
          obtain ⟨fs, e, q⟩ := kk
          match ds, e, r with
          | [d], e, r =>
            cases e
            obtain ⟨v, rfl, rv⟩ := reps_one r
            refine ⟨v, rfl, fun dx hd => ?_⟩
            have P2 : Post S1 H1 S1 (upd H1 dx (.xd [(f, v)])) := Post.new hd
            refine rw' _ _ _ _ _ _ _ q (P.trans P2) (R.mono (P.trans P2) (cc.new hd)) (.inr ⟨dx, _, rfl, cc.free hd, upd_same, ?_⟩)
            simp only [RepF]
            exact ⟨v, [], rfl, rv.mono P2, rfl⟩
      | bare Fb q0 kC e1 e2 =>
        cases xs with
        | nil =>
          refine LS.mk' (L2N.ps_raise calm c.xc.tk (pmk_bare Fb q0 kC (raises_own e1 e2) (c.xc.gl h2) hcl (nmB_ok h1).2.1)) fun D σ H δ S Y F R ht rs rw' => ?_
          have q := un ht
          rw [hL.nl rfl, dens] at q
          obtain ⟨fs, e, q⟩ := q
          cases e
          exact rw' _ _ _ _ _ _ _ q (Post.refl _ _) R (.inl ⟨rfl, rfl⟩)
        | cons z zs =>
          refine LS.mk' (ps_never) fun D σ H δ S Y F R ht rs rw' => ?_
          have e1 := ar ht
          have e2 := hL.ne
          rw [e1] at e2
          cases e2
  · refine LS.mk' ps_never fun D σ H δ S Y F R ht rs rw' => ?_
    rw [denS] at ht
    exact (hm ht.1).elim

theorem ss_asl {i : Nat} {cell : Bool} {elt : RE} {cnd : RO} {tg : List Nat} {one : Bool} {it : RI} {own : List (Str × Nat)} {xe xt xi : Expr} {ifs : List Expr} {scope : Scope} {y : Str} {py p : Pos} (c : XS n X G W k sc) (h0 : nmB n.N i y = true) (hl : sc.names.lookup y = some .local)
    (hp : (py.line == p.line) = true) (hna : (scope.names.any fun (m, k) => m == y && (k == .local || k == .cell)) = false) (hb : blkC n.N sc scope own = true) (hsd : nsetd xi = true) (hI : SndI n sc it xi)
    (htg : (tg.all fun i => decide (i ∈ own.map (·.2))) = true) (hct : chkTg n scope tg one xt = true) (hcnd : ∀ X G W k, XC n X G W k scope → PTs X ifs (LT G.toGd W (denC G cnd))) (he : ∀ X G W k, XC n X G W k scope → PE X xe (LE G.toGd W (den G elt))) :
    PS X (.Assign [.Name y py] (.ListComp xe [⟨xt, xi, ifs, 0⟩] scope p) pos) (LS G.toGd W (denS G (.asl i (.lc cell elt tg one it cnd own)))) := by
  by_cases hm : G.m0 = none
  · have calm : X.calm = true := by have := c.xc.md; rw [hm] at this; exact this
    have hyl : X.env.scope.names.lookup y = some .local := by rw [c.esc]; exact hl
    have bo : BlkOk X.N X.env.scope scope own := by
      have h := blkOk_by hb
      exact ⟨h.kind, h.uniq, fun p hp => c.xc.N ▸ h.ix p hp, fun y hy e => c.xc.sc.fr _ (h.free y hy e), fun y hy e => c.xc.N ▸ h.own y hy e⟩
    have kf : X.env.scope.kind = .function ∨ True := .inr trivial
    refine ⟨fun pins s σ H D I hh => ?_⟩
    have kfun := I.ok.kind
    refine (LS.mk' (ps_setLc (wi := LI G.toGd W (denI G.toGm it)) (g := gTg X.K tg one) (tt := LT G.toGd noW (denC G.toGm cnd)) (te := LE G.toGd noW (den G.toGm elt)) calm c.xc.nd (c.xc.at h0) hyl (sw_true kfun hyl hp hna) (hI X G.toGm W k xt c.xc hm) bo (fun s H C cl fp => pg_tg (c.xc.blk hm) (fun _ => calm) hct) (fun s H C cl fp => hcnd _ G.toGm noW k (c.xc.blk hm)) (fun s H C cl fp => he _ G.toGm noW k (c.xc.blk hm)) (fun x => nsetf_ok hsd x)) fun D σ H δ S Y F R ht rs rw' => ?_).run pins s σ H D I hh
    rw [denS] at ht
    have h : LE G.toGd W (den G.toGm (.lc cell elt tg one it cnd own)) σ H (fun v H1 => D.nx (σ.set i (some v)) H1) := ⟨δ, S, Y, _, R, ht, fun d S1 v H1 q P cc r => rs.nx _ S1 _ H1 q P ⟨(R.sl.mono P).set r, cc⟩, rw'⟩
    exact lc_rd c.xc.ok.K htg h
  · refine LS.mk' ps_never fun D σ H δ S Y F R ht rs rw' => ?_
    rw [denS, den] at ht
    exact (hm ht.1).elim
theorem ss_tra {b s : RSs} {j i : Nat} {y m : Str} {p1 p2 : Pos} {p qs : List Stmt} {q : Stmt} (c : XS n X G W k sc) (h1 : nmB n.cls j y = true) (h2 : glB sc y = true) (h3 : nmB n.N i m = true) (hl : sc.names.lookup m = some .local) (hb : SndSs n sc b p) (hs : SndSs n sc s (q :: qs)) :
    PS X (.Try p [.ExceptHandler (some (.Name y p1)) (some m) (q :: qs) p2] [] [] pos) (LS G.toGd W (denS G (.tra b j i s))) := by
  by_cases hm : G.m0 = none
  · have hcl := c.xc.ok.cl j y (nmB_ok h1).1
    have hln : X.env.kindOf m = some .local := by show X.env.scope.names.lookup m = _; rw [c.esc]; exact hl
    refine LS.mk' (L2N.ps_try_as (tb := fun W' => LS G.toGd W' (denSs G b)) (ts := fun a cls d => fun D σ H => ∀ oe, L2N.Zn cls d oe → (∃ vs, oe.data = .fields vs) → LS G.toGd noW (denSs (G.suite a oe) s) D σ H) c.stk c.fr c.xc.nd (c.xc.at h3) hln ⟨c.xc.gl h2, (nmB_ok h1).2.1, .inl hcl⟩ c.xc.tk
      (fun W' pn xe tk ps => hb _ G W' k (c.tr hm tk ps))
      (fun a oe cls d pn hz hf => PSs.imp (hs _ (G.suite a oe) noW k (c.suite hz hf)) fun D σ H q => q oe hz hf)) fun D σ H δ S Y F R ht rs rw' => ?_
    rw [denS] at ht
    refine ⟨δ, S, _, F, R, ht.2, rs, fun C fs δ' S' d σ' H' hy P R' hx => ?_⟩
    obtain ⟨kb, e1, e2, e3⟩ := hy
    refine ⟨kb, by rw [← c.xc.ok.K]; exact e1, fun hk a na oe hz hf => ?_, fun hk => rw' C fs δ' S' d σ' H' (e3 hk) P R' hx⟩
    have R2 : Rel G.toGd S' H' (δ'.set i (some (.exc a oe C fs))) (σ'.set i (some (.ref a))) := ⟨R'.sl.set (by
      simp only [Rep]
      exact ⟨d, trivial, ⟨hz.zc, hf⟩, hx⟩), R'.ce⟩
    refine ⟨_, S', noX, _, R2, e2 hk a oe, ?_, fun _ _ _ _ _ _ _ z => z.elim⟩
    exact ⟨fun δ2 S2 σ2 H2 q P2 R3 => rs.nx _ S2 _ H2 q (P.trans P2) ⟨R3.sl.setN, R3.ce⟩, rs.rt.mono P, fun δ2 S2 σ2 H2 q P2 R3 => rs.bk _ S2 _ H2 q (P.trans P2) ⟨R3.sl.setN, R3.ce⟩, fun δ2 S2 σ2 H2 q P2 R3 => rs.ct _ S2 _ H2 q (P.trans P2) ⟨R3.sl.setN, R3.ce⟩⟩
  · refine LS.mk' ps_never fun D σ H δ S Y F R ht rs rw' => ?_
    rw [denS] at ht
    exact (hm ht.1).elim
end
end Sv

/-! Sv14: the check is sound: bodies; a def by its body. -/
namespace Sv
open PySem PySem.Spec PyProof.Rows L2
open L2H (RoomH)
variable {n : SN}
mutual
theorem sS : ∀ (s : RS) (sc : Scope) (x : Stmt), chkS n sc s x = true → SndS n sc s x
  | .exp e, sc, x, h => by
    unfold chkS at h
    split at h
    · rw [Bool.and_eq_true] at h
      exact fun X G W k c => ss_exp h.1 ((sE e sc _ h.2).v X G.toGm W k c.xc)
    · cases h
  | .asg tg one e, sc, x, h => by
    unfold chkS at h
    split at h
    · simp only [Bool.and_eq_true] at h
      obtain ⟨⟨h1, h2⟩, h3, h4⟩ := h
      exact fun X G W k c => ss_asg c h1 h2 h3 ((sE e sc _ h4).v X G.toGm W k c.xc)
    · cases h
  | .asl i e, sc, x, h => by
    unfold chkS at h
    split at h
    · split at h
      · simp only [Bool.and_eq_true, decide_eq_true_eq, Bool.not_eq_true'] at h
        obtain ⟨⟨⟨⟨h1, h2⟩, h3⟩, h4⟩, ⟨⟨⟨⟨⟨g0, g1⟩, g2⟩, g3⟩, g4⟩, g5⟩, g6⟩ := h
        exact fun X G W k c => ss_asl c h1 h2 h3 h4 g0 g1 (sI _ sc _ g2) g3 g4 (fun X G W k c => sC _ _ _ g5 X G W k c) (fun X G W k c => (sE _ _ _ g6).v X G W k c)
      · cases h
    · cases h
  | .sti a b e, sc, x, h => by
    unfold chkS at h
    split at h
    · simp only [Bool.and_eq_true] at h
      obtain ⟨⟨h1, h2⟩, h3, h4, h5⟩ := h
      exact fun X G W k c => ss_sti c h1 h2 ((sE a sc _ h3).v X G.toGm W k c.xc) ((sE b sc _ h4).v X G.toGm W k c.xc) ((sE e sc _ h5).v X G.toGm W k c.xc)
    · cases h
  | .stf a f e, sc, x, h => by
    unfold chkS at h
    split at h
    · simp only [Bool.and_eq_true, decide_eq_true_eq] at h
      obtain ⟨⟨h1, h2⟩, h3, h4⟩ := h
      subst h2
      exact fun X G W k c => ss_stf c h1 ((sE a sc _ h3).v X G.toGm W k c.xc) ((sE e sc _ h4).v X G.toGm W k c.xc)
    · cases h
  | .agv i op e, sc, x, h => by
    unfold chkS at h
    split at h
    · simp only [Bool.and_eq_true, decide_eq_true_eq] at h
      obtain ⟨⟨⟨h1, h2⟩, h3⟩, h4⟩ := h
      subst h3
      exact fun X G W k c => ss_agv c h1 h2 ((sE e sc _ h4).v X G.toGm W k c.xc)
    · cases h
  | .agi a b op e, sc, x, h => by
    unfold chkS at h
    split at h
    · simp only [Bool.and_eq_true, decide_eq_true_eq] at h
      obtain ⟨⟨h1, h2⟩, h3, h4, h5⟩ := h
      subst h2
      exact fun X G W k c => ss_agi c h1 ((sE a sc _ h3).v X G.toGm W k c.xc) ((sE b sc _ h4).v X G.toGm W k c.xc) ((sE e sc _ h5).v X G.toGm W k c.xc)
    · cases h
  | .ifs t a b, sc, x, h => by
    unfold chkS at h
    split at h
    · simp only [Bool.and_eq_true] at h
      obtain ⟨h1, h2, h3⟩ := h
      exact fun X G W k c => ss_ifs ((sE t sc _ h1).t X G.toGm W k c.xc) (sSs a sc _ h2 X G W k c) (sSs b sc _ h3 X G W k c)
    · cases h
  | .fr tg one it b, sc, x, h => by
    unfold chkS at h
    split at h
    · simp only [Bool.and_eq_true] at h
      obtain ⟨⟨h1, h2⟩, h3, h4⟩ := h
      exact fun X G W k c => ss_fr c h1 h2 (sI it sc _ h3) (sSs b sc _ h4 X G W k c)
    · cases h
  | .wh t b, sc, x, h => by
    unfold chkS at h
    split at h
    · simp only [Bool.and_eq_true] at h
      obtain ⟨h1, h2⟩ := h
      exact fun X G W k c => ss_wh c ((sE t sc _ h1).t X G.toGm W k c.xc) (sSs b sc _ h2 X G W k c)
    · cases h
  | .ret e, sc, x, h => by
    unfold chkS at h
    split at h
    · exact fun X G W k c => ss_ret ((sE e sc _ h).v X G.toGm W k c.xc)
    · cases h
  | .retN, sc, x, h => by
    unfold chkS at h
    split at h
    · exact fun X G W k c => LS.mk' ps_retN fun D σ H δ S Y F R ht rs rw' => by
        rw [denS] at ht
        exact rs.rt.non ht R.ce
    · cases h
  | .brk, sc, x, h => by
    unfold chkS at h
    split at h
    · exact fun X G W k c => LS.mk' ps_break fun D σ H δ S Y F R ht rs rw' => by
        rw [denS] at ht
        exact rs.bk δ S σ H ht (Post.refl _ _) R
    · cases h
  | .cnt, sc, x, h => by
    unfold chkS at h
    split at h
    · exact fun X G W k c => LS.mk' ps_continue fun D σ H δ S Y F R ht rs rw' => by
        rw [denS] at ht
        exact rs.ct δ S σ H ht (Post.refl _ _) R
    · cases h
  | .pas, sc, x, h => by
    unfold chkS at h
    split at h
    · exact fun X G W k c => LS.mk' ps_pass fun D σ H δ S Y F R ht rs rw' => by
        rw [denS] at ht
        exact rs.nx δ S σ H ht (Post.refl _ _) R
    · exact fun X G W k c => LS.mk' ps_doc fun D σ H δ S Y F R ht rs rw' => by
        rw [denS] at ht
        exact rs.nx δ S σ H ht (Post.refl _ _) R
    · cases h
  | .rai j es, sc, x, h => by
    unfold chkS at h
    split at h
    · simp only [Bool.and_eq_true] at h
      obtain ⟨⟨h1, h2⟩, h3⟩ := h
      exact fun X G W k c => ss_rai c h1 h2 (sL es sc _ h3)
    · cases h
  | .tra b j i s, sc, x, h => by
    unfold chkS at h
    split at h
    · simp only [Bool.and_eq_true, decide_eq_true_eq] at h
      obtain ⟨⟨⟨⟨h1, h2⟩, h3⟩, h4⟩, h5, h6⟩ := h
      exact fun X G W k c => ss_tra c h1 h2 h3 h4 (sSs b sc _ h5) (sSs s sc _ h6)
    · cases h
theorem sSs : ∀ (s : RSs) (sc : Scope) (x : List Stmt), chkSs n sc s x = true → SndSs n sc s x
  | .nil, sc, x, h => by
    unfold chkSs at h
    cases x with
    | nil =>
      refine fun X G W k c => PSs.imp pss_nil fun D σ H q => ?_
      obtain ⟨δ, S, Y, F, R, ht, rs, _⟩ := q
      rw [denSs] at ht
      exact rs.nx δ S σ H ht (Post.refl _ _) R
    | cons _ _ => cases h
  | .cons s r, sc, x, h => by
    unfold chkSs at h
    split at h
    · rw [Bool.and_eq_true] at h
      refine fun X G W k c => PSs.imp (pss_cons (sS s sc _ h.1 X G W k c) (sSs r sc _ h.2 X G W k c)) fun D σ H q => ?_
      obtain ⟨δ, S, Y, F, R, ht, rs, rw'⟩ := q
      rw [denSs] at ht
      exact ⟨δ, S, Y, _, R, ht, ⟨fun δ' S' σ' H' q P R' => ⟨δ', S', Y, F, R', q, rs.mono P, rw'.mono P⟩, rs.rt, rs.bk, rs.ct⟩, rw'⟩
    · cases h
  | .cut s r, sc, x, h => by
    unfold chkSs at h
    split at h
    · rw [Bool.and_eq_true] at h
      refine fun X G W k c => PSs.imp (pss_cons (sS s sc _ h.1 X G W k c) (sSs r sc _ h.2 X G W k c)) fun D σ H q => ?_
      obtain ⟨δ, S, Y, F, R, ht, rs, rw'⟩ := q
      rw [denSs] at ht
      obtain ⟨J, hs, hj⟩ := ht
      exact ⟨δ, S, Y, _, R, hs, ⟨fun δ' S' σ' H' q P R' => ⟨δ', S', Y, F, R', hj δ' S' q, rs.mono P, rw'.mono P⟩, rs.rt, rs.bk, rs.ct⟩, rw'⟩
    · cases h
  | .frz i r, sc, x, h => by
    unfold chkSs at h
    refine fun X G W k c => PSs.imp (sSs r sc x h X G W k c) fun D σ H q => ?_
    obtain ⟨δ, S, Y, F, R, ht, rs, rw'⟩ := q
    rw [denSs] at ht
    obtain ⟨a, ea, ht⟩ := ht
    obtain ⟨v, ev, rv⟩ := R.sl.at_ i _ ea
    cases rep_obj rv
    have hlt : i < σ.length := by
      obtain ⟨hh, _⟩ := List.getElem?_eq_some_iff.mp ev
      exact hh
    have es : σ.set i (some (V.ref a)) = σ := by
      apply List.ext_getElem?
      intro j
      by_cases e : i = j
      · subst e; rw [List.getElem?_set_self hlt, ev]
      · rw [List.getElem?_set_ne e]
    rcases ht with ⟨ds, e1, q⟩ | ⟨ds, e1, q⟩
    · have R2 : Rel G.toGd (S.del a) H (δ.set i (some (.lst ds))) (σ.set i (some (V.ref a))) := ⟨(R.sl.mono Post.freeze).set (Rep.freeze R.ce e1), R.ce.freeze⟩
      rw [es] at R2
      exact ⟨_, _, Y, F, R2, q, rs.mono Post.freeze, rw'.mono Post.freeze⟩
    · have R2 : Rel G.toGd (S.del a) H (δ.set i (some (.dic ds))) (σ.set i (some (V.ref a))) := ⟨(R.sl.mono Post.freeze).set (Rep.freezeK R.ce e1), R.ce.freeze⟩
      rw [es] at R2
      exact ⟨_, _, Y, F, R2, q, rs.mono Post.freeze, rw'.mono Post.freeze⟩
end
/-- what a def promises by values: its body does it -/
def Meets (n : SN) (G : Option (Addr × Obj) → Gs) (np : Nat) (hot : Bool) (T : TR) (b : RSs) : Prop := ∀ (m : Option (Addr × Obj)), m.isSome = hot → ∀ (ds : List D) (S : SS) (K : DK) (Y : XK'), T m ds S K Y → ds.length = np ∧
  denSs (G m) b (ds.map some ++ List.replicate (n.N.length - ds.length) none) S (fun C fs _ S' => Y C fs S') { nx := fun _ S' => K .non S', rt := K, bk := fun _ _ => False, ct := fun _ _ => False }
/-- THE RULE: a def by its resolved body -/
theorem fn_D {P : Program} {w : World} {K : PySem.W.Frag} {mg : Str → Option Value} {base : Heap} {hot : Bool} {k : Nat} {f : Addr} {name qual : Str} {params : Arguments} {body : List Stmt} {scope : Scope} {dV kV doc pm cdv ct oc : Value} {an od : Option Addr}
    {osl : Array (Option Value)} {ps : List Str} {T : TR} {b : RSs} {G : Option (Addr × Obj) → Gs} {g : Gd} (lk : K.lookup f = some ⟨oc, od, .func (PySem.W.fnOf name qual params body scope dV kV doc pm an cdv ct), osl⟩) (hcd : PySem.W.codeIn K cdv qual = true) (S : FnScope n.N ps scope)
    (hck : chkSs n scope b body = true) (hG : ∀ m, (G m).m0 = m) (hg : ∀ m, (G m).toGd = g) (ok : ∀ m, GOk n P w K mg base (G m).toGm k) (xm : ∀ m j x kd, (G m).xk j = some kd → n.cls[j]? = some x → MkF P w K mg base k ((G m).cl j) kd)
    (hm : Meets n G ps.length hot T b) : FnG P w K mg base hot (k + 1) f (PySem.W.fnOf name qual params body scope dV kV doc pm an cdv ct) ps (spD g T) := by
  refine fn_ofM lk hcd S (fun m vs H Q E hmh h => ?_) fun A outer s H vs Q E m hmh hM hr hsp => ?_
  · obtain ⟨ds, S0, K0, Y0, ce, rp, ht, _⟩ := h
    rw [← rp.length]
    exact (hm m hmh ds S0 K0 Y0 ht).1
  · obtain ⟨ds, S0, K0, Y0, ce, rp, ht, res, rex⟩ := hsp
    obtain ⟨hl, hd⟩ := hm m hmh ds S0 K0 Y0 ht
    have hx : XS n (cxM P w K mg base n.N qual scope f cdv A outer s H E m) (G m) (fun cls d _ H' => E cls d H') k scope := by
      refine ⟨⟨ok m, rfl, ScOk.self (fun _ => rfl), ?_, ?_, ?_, ?_⟩, rfl, fun _ => rfl, rfl, rfl, xm m⟩
      · exact hr
      · rw [hG m]
        cases m with
        | none => rfl
        | some p => exact ⟨⟨hM.1.1, hM.1.2⟩, List.mem_cons_self⟩
      · exact L2N.takes_of rfl rfl rfl rfl
      · exact passes_of rfl
    refine ⟨_, sSs b scope body hck _ (G m) _ k hx, ?_⟩
    have hN : ds.length ≤ n.N.length := by
      have := congrArg List.length S.pre
      rw [List.length_take] at this
      omega
    rw [hg m]
    refine ⟨_, S0, _, _, ⟨RelS.start (N := n.N) rp, ce⟩, hd, ⟨fun δ' S' σ' H' q P R' => res .non S' .non H' q P R'.ce (by simp only [Rep]), res, fun _ _ _ _ z => z.elim, fun _ _ _ _ z => z.elim⟩, fun C fs δ' S' d σ' H' y P R' x => rex C fs S' d H' y P R'.ce x⟩
end Sv

/-! Sv15: the head's facts, a law's end over this layer. -/
namespace Sv
open PySem PySem.Spec PyProof.Rows L2 PySem.W PySem.Calls
open L2H (RoomH)
/-- a def's promise in a calm state, as the library tells it -/
theorem FnG.calm {P : Program} {w : World} {K : PySem.W.Frag} {mg : Str → Option Value} {base : Heap} {k : Nat} {f : Addr} {fd : FuncData} {ps : List Str} {sp : SpM} (F : FnG P w K mg base false k f fd ps sp) : FnOk P w K mg base (L2N.CX P w) k f fd ps (sp none) where
  len vs H Q E h := F.len none vs H Q E rfl h
  run A outer s H args us vs Q E r e0 hb rv h := F.run A outer s H args us vs Q E none rfl ⟨r.dp, r.un⟩ r.hd e0 hb rv h
/-- a law's end: the row's def keeps its promise, by law_call -/
theorem walk_ofG {l : PySem.W.OpenLaw} {n k : Nat} {q : Program} {loose : List Str} {XP : (Str → Option Value) → Heap → Prop} {YP : World → Heap → Prop} {d : DefRec} {x : Str} (most : l.most = some n) (few : n ≤ sizeLine) (noDf : d.params.defaults = []) (room : Room k callerA)
    (kept : ∀ w mg fa h, YP w h → h.Ns mainGlobals mg → mg d.name = some (.ref fa) → ∃ (K : PySem.W.Frag) (fd : FuncData) (sp : SpM), K.In h ∧ (∀ s u, BindsTo s fd ⟨[u], []⟩ [(x, u)]) ∧
      (∀ H a (ns : List Int), ns.length ≤ n → Only H → SqL K H a (ns.map V.int) → sp none [.ref a] H (fun v _ => v = .bl true) fun _ _ _ => False) ∧ ∀ base : Heap, K.In base → base.Ns mainGlobals mg → FnG l.prog w K mg base false k fa fd [x] sp) :
    PySem.W.WalkO q loose XP YP l.row.toRowW d [] fun f vs => PySem.call f vs :=
  Att.attach_call most noDf fun w _ s₁ mg _ fa _ _ _ _ _ _ _ G told _ _ _ nm lst whole short noGens =>
    have ⟨_, _, _, inK, binds, does, F⟩ := kept w mg fa _ told G.T.g nm
    law_call inK G.T.g G.T.b G.T.builtins G.T.nolimit noGens lst whole (Nat.le_trans short few) room (fun b i g => (F b i g).calm) binds (fun H o sq => does H _ _ short o sq) fun _ _ _ ⟨_, _, _, _, _, _, _, _, _, _, _, _, never⟩ => never
/-- the law's promise, by values -/
def lawT (n : Nat) : TR := fun m ds S K Y => ∃ ns : List Int, ns.length ≤ n ∧ ds = [.lst (ns.map .int)] ∧ S = (fun _ => none) ∧ ∀ S', K (.bl true) S'
theorem law_sp {g : Gd} {n : Nat} {H : Hp} {a : Addr} {ns : List Int} (hl : ns.length ≤ n) (hS : SqL g.K H a (ns.map V.int)) : spD g (lawT n) none [.ref a] H (fun v _ => v = .bl true) fun _ _ _ => False := by
  have ri : ∀ ms : List Int, Reps g (fun _ => none) H (ms.map D.int) (ms.map V.int) := by
    intro ms
    induction ms with
    | nil => simp only [List.map_nil, Reps]
    | cons m ms ih =>
      simp only [List.map_cons, Reps]
      exact ⟨_, _, rfl, by simp only [Rep], ih⟩
  refine ⟨[.lst (ns.map .int)], fun _ => none, fun d _ => d = .bl true, fun _ _ _ => False, (fun a c e => nomatch e), ?_, ⟨ns, hl, rfl, rfl, fun _ => rfl⟩, ?_, fun _ _ _ _ _ z => z.elim⟩
  · simp only [Reps, Rep]
    refine ⟨.ref a, [], rfl, ⟨a, ns.map V.int, rfl, ?_, ri ns⟩, rfl⟩
    rcases hS with h | h
    · exact .inl ⟨rfl, h⟩
    · exact .inr (.inr h)
  · rintro d S' v H' rfl P c r
    exact rep_bl r

/-! ### more facts of the written part -/
inductive Fx where
  | oex (x : Str) | ini (x : Str) | bas (x : Str) | exf (x : Str) | insf (x : Str) | nov (x f : Str)
  | kit (x y : Str) (b : Bool) | kitT (x : Str) (n : String) (b : Bool)
  | exfs (xs : List Str) | sib (xs : List Str) | veT (xs : List Str) (n : String) | exA (xs : List Str) (y : Str)
def oexB (K : Frag) (C : Addr) : Bool := (match K.lookup C with
  | some ⟨.type "type", _, .cls cd, sl⟩ => (match cd.mro, sl.toList with
    | .ref C' :: bm, [_, _, _, _, some (.builtin n), _] => decide (C' = C) && decide (n = "ValueError.__new__") && !cd.hasDel && cd.hasDict && PySem.HandSPX.refsVE bm
    | _, _ => false)
  | _ => false) && (He.eqO (findIn K (.ref C) "__setattr__") (some (some (.builtin "object.__setattr__"))) && (decide (subIn K (.ref C) (.type "BaseException") = some true) && (decide (typeIn K (.ref C) = some (.type "type")) && keepIn K (.ref C))))
def cvB (r : Option CFound) (v : Value) : Bool := match r with
  | some (.val u) => decide (u = v)
  | _ => false
theorem cvB_ok {r : Option CFound} {v : Value} (h : cvB r v = true) : r = some (.val v) := by
  unfold cvB at h
  split at h
  · rw [of_decide_eq_true h]
  · cases h
def exfB (K : Frag) (x : Str) : Bool := He.eqO (findIn K (.ref (He.ga K x)) "__getattribute__") (some (some (.builtin "BaseException.__getattribute__"))) && (He.eqO (findIn K (.ref (He.ga K x)) "__getattr__") (some none) && (decide (subIn K (.ref (He.ga K x)) (.type "BaseException") = some true) && (hasDictIn K (He.ga K x) &&
      (He.eqO (findIn K (.ref (He.ga K x)) "__class__") (some (some (.builtin "object.__class__"))) && (He.eqO (specialIn K (.builtin "object.__class__") "__get__") (some (some (.builtin "getset_descriptor.__get__"))) && (decide (takesIn K (.builtin "object.__class__") = some true) && decide (mroIn K (He.ga K x) (.type "object") = some true)))))))
def Fx.ok (K : Frag) : Fx → Bool
  | .oex x => oexB K (He.ga K x)
  | .ini x => He.eqO (findIn K (.ref (He.ga K x)) "__init__") (some (some (.ref (He.ma K (He.ga K x) "__init__")))) && decide (typeIn K (.ref (He.ma K (He.ga K x) "__init__")) = some (.type "function"))
  | .bas x => readsIn K (He.ga K x) (.type "type") && (He.eqO (specialIn K (.ref (He.ga K x)) "__getattribute__") (some (some (.builtin "type.__getattribute__"))) && cvB (findCls K (.ref (He.ga K x)) (.type "type") "__init__") (.builtin "ValueError.__init__"))
  | .exf x => exfB K x
  | .exfs xs => xs.all (exfB K)
  | .insf x => He.eqO (findIn K (.ref (He.ga K x)) "__class__") (some (some (.builtin "object.__class__"))) && (He.eqO (specialIn K (.builtin "object.__class__") "__get__") (some (some (.builtin "getset_descriptor.__get__"))) && (decide (takesIn K (.builtin "object.__class__") = some true) && (decide (mroIn K (He.ga K x) (.type "object") = some true) && decide (kitOne K (.ref (He.ga K x)) (.ref (He.ga K x)) = some true))))
  | .nov x f => He.eqO (findIn K (.ref (He.ga K x)) f) (some none)
  | .kit x y b => decide (kitOne K (.ref (He.ga K x)) (.ref (He.ga K y)) = some b)
  | .kitT x n b => decide (kitOne K (.ref (He.ga K x)) (.type n) = some b)
  | .sib xs => xs.all fun x => xs.all fun y => decide (kitOne K (.ref (He.ga K x)) (.ref (He.ga K y)) = some (decide (x = y)))
  | .veT xs n => xs.all fun x => decide (kitOne K (.ref (He.ga K x)) (.type n) = some true)
  | .exA xs y => xs.all fun x => decide (exmOne K (.ref (He.ga K x)) (.ref (He.ga K y)) = some true)
section
variable {K : Frag} {x : Str}
theorem oex_ok (c : (Fx.oex x).ok K = true) : OexC K (He.ga K x) := by
  have ⟨shape, c⟩ := He.ba (show oexB K (He.ga K x) = true from c)
  have ⟨sets, c⟩ := He.ba c
  have ⟨under, c⟩ := He.ba c
  have ⟨typ, kept⟩ := He.ba c
  refine ⟨?_, He.eqO_ok sets, of_decide_eq_true under, of_decide_eq_true typ, kept⟩
  split at shape
  · rename_i dd cd sl look
    split at shape
    · rename_i C' bm k0 k1 k2 k3 n k5 em es
      simp only [Bool.and_eq_true, decide_eq_true_eq, Bool.not_eq_true'] at shape
      obtain ⟨⟨⟨⟨here, new⟩, noDel⟩, dict⟩, tail⟩ := shape
      obtain ⟨nm, bs, mro, ns, qn, hd, sn, sub, ab, col, del⟩ := cd
      obtain ⟨ls⟩ := sl
      cases em; cases es; cases here; cases new; cases noDel; cases dict
      exact ⟨_, _, _, _, _, _, _, _, _, _, _, _, _, _, _, look, tail⟩
    · cases shape
  · cases shape
theorem ini_ok (c : (Fx.ini x).ok K = true) : findIn K (.ref (He.ga K x)) "__init__" = some (some (.ref (He.ma K (He.ga K x) "__init__"))) ∧ typeIn K (.ref (He.ma K (He.ga K x) "__init__")) = some (.type "function") := by
  obtain ⟨c1, c2⟩ := He.ba c
  exact ⟨He.eqO_ok c1, of_decide_eq_true c2⟩
theorem bas_ok (c : (Fx.bas x).ok K = true) : BasF K (He.ga K x) := by
  obtain ⟨c1, c⟩ := He.ba c
  obtain ⟨c2, c3⟩ := He.ba c
  exact ⟨c1, He.eqO_ok c2, cvB_ok c3⟩
theorem exf_ok (c : (Fx.exf x).ok K = true) : ExcF K (He.ga K x) := by
  have ⟨k1, c⟩ := He.ba (show exfB K x = true from c)
  have ⟨k2, c⟩ := He.ba c
  have ⟨k3, c⟩ := He.ba c
  have ⟨k4, c⟩ := He.ba c
  have ⟨k5, c⟩ := He.ba c
  have ⟨k6, c⟩ := He.ba c
  have ⟨k7, k8⟩ := He.ba c
  exact { hg := He.eqO_ok k1, hk := He.eqO_ok k2, hs := of_decide_eq_true k3, hd := k4, ha := He.eqO_ok k5, hn := He.eqO_ok k6, ht := of_decide_eq_true k7, hm := of_decide_eq_true k8 }
theorem exfs_ok {xs : List Str} (c : (Fx.exfs xs).ok K = true) (hx : x ∈ xs) : ExcF K (He.ga K x) := exf_ok (x := x) (List.all_eq_true.mp c x hx)
theorem insf_ok (cl : Cls K (He.ga K x)) (c : (Fx.insf x).ok K = true) : InsF K (He.ga K x) := by
  obtain ⟨c5, c⟩ := He.ba c
  obtain ⟨c6, c⟩ := He.ba c
  obtain ⟨c7, c8⟩ := He.ba c
  have ⟨c8, own⟩ := He.ba c8
  exact ⟨cl, He.eqO_ok c5, He.eqO_ok c6, of_decide_eq_true c7, of_decide_eq_true c8, of_decide_eq_true own⟩
theorem nov_ok {f : Str} (c : (Fx.nov x f).ok K = true) : findIn K (.ref (He.ga K x)) f = some none := He.eqO_ok c
theorem kit_ok {y : Str} {b : Bool} (c : (Fx.kit x y b).ok K = true) : kitOne K (.ref (He.ga K x)) (.ref (He.ga K y)) = some b := of_decide_eq_true c
theorem kitT_ok {n : String} {b : Bool} (c : (Fx.kitT x n b).ok K = true) : kitOne K (.ref (He.ga K x)) (.type n) = some b := of_decide_eq_true c
theorem sib_ok {xs : List Str} {y : Str} (c : (Fx.sib xs).ok K = true) (hx : x ∈ xs) (hy : y ∈ xs) : kitOne K (.ref (He.ga K x)) (.ref (He.ga K y)) = some (decide (x = y)) :=
  of_decide_eq_true (List.all_eq_true.mp (List.all_eq_true.mp c x hx) y hy)
theorem veT_ok {xs : List Str} {n : String} (c : (Fx.veT xs n).ok K = true) (hx : x ∈ xs) : kitOne K (.ref (He.ga K x)) (.type n) = some true := of_decide_eq_true (List.all_eq_true.mp c x hx)
theorem exA_ok {xs : List Str} {y : Str} (c : (Fx.exA xs y).ok K = true) (hx : x ∈ xs) : exmOne K (.ref (He.ga K x)) (.ref (He.ga K y)) = some true := of_decide_eq_true (List.all_eq_true.mp c x hx)
end
abbrev AlX : Type := He.AlD × Bool
def obsX (fa : List He.Fa) (fn : List He.DefD) (fx : List Fx) (K : Frag) : AlX := (He.obsD fa fn K, fx.all fun f => f.ok K)
def SaysX (fa : List He.Fa) (fn : List He.DefD) (fx : List Fx) (K : Frag) : Prop := obsX fa fn fx K = (He.valD fn, true)
def obsXG (n : Nat) (fa : List He.Fa) (fn : List He.DefD) (fx : List Fx) (g : Addr → Option Obj) : AlX := obsX fa fn fx (He.frG g (cStatics :: He.asD g n))
def hookX (n : Nat) (fa : List He.Fa) (fn : List He.DefD) (fx : List Fx) : Hook where
  α := AlX
  obs := fun s => obsXG n fa fn fx s.heap.get?
  val := fun _ => (He.valD fn, true)
  says := fun _ h => ∃ K : Frag, K.In h ∧ SaysX fa fn fx K
  of := fun _ _ e => ⟨_, He.frG_in, e⟩
  keeps := fun _ _ _ ⟨K, hK, c⟩ k => ⟨K, Frag.In.keeps hK k, c⟩
theorem obsXG_eq {n : Nat} {fa : List He.Fa} {fn : List He.DefD} {fx : List Fx} {g : Addr → Option Obj} {s : Shared} (h : ∀ a, g a = s.heap.get? a) : obsXG n fa fn fx g = (hookX n fa fn fx).obs s := by
  have e : g = s.heap.get? := funext h
  rw [e] <;> rfl
section
variable {fa : List He.Fa} {fn : List He.DefD} {fx : List Fx} {K : Frag}
theorem SaysX.d (c : SaysX fa fn fx K) : He.SaysD fa fn K := congrArg (fun z : AlX => z.1) c
theorem SaysX.fact (c : SaysX fa fn fx K) (i : Nat) {f : Fx} (h : fx[i]? = some f) : f.ok K = true := by
  have c1 : (fx.all fun f => f.ok K) = true := congrArg (fun z : AlX => z.2) c
  exact List.all_eq_true.mp c1 f (List.mem_of_getElem? h)
end
/-- a def of the head by its resolved body -/
theorem fn_DF {n : SN} {P : Program} {w : World} {K : PySem.W.Frag} {mg : Str → Option Value} {base : Heap} {hot : Bool} {k : Nat} {f : Addr} {fd : FuncData} {x qual : Str} {params : Arguments} {body : List Stmt} {scope : Scope} {dvs : List V} {kws : List (Str × V)} {ps : List Str} {T : TR} {b : RSs} {G : Option (Addr × Obj) → Gs} {g : Gd}
    (F : FunD K x qual params body scope dvs kws f fd) (S : FnScope n.N ps scope)
    (hck : chkSs n scope b body = true) (hG : ∀ m, (G m).m0 = m) (hg : ∀ m, (G m).toGd = g) (ok : ∀ m, GOk n P w K mg base (G m).toGm k) (xm : ∀ m j x kd, (G m).xk j = some kd → n.cls[j]? = some x → MkF P w K mg base k ((G m).cl j) kd)
    (hm : Meets n G ps.length hot T b) : FnG P w K mg base hot (k + 1) f fd ps (spD g T) := by
  obtain ⟨oc, od, dV, kV, doc, pm, an, cdv, ct, osl, rfl, lk, hcd, _, _⟩ := F.ex
  exact fn_D lk hcd S hck hG hg ok xm hm
theorem fn_initF {P : Program} {w : World} {K : PySem.W.Frag} {mg : Str → Option Value} {base : Heap} {k : Nat} {f : Addr} {fd : FuncData} {x qual : Str} {params : Arguments} {body : List Stmt} {scope : Scope} {dvs : List V} {kws : List (Str × V)} {N : List Str} {C B : Addr} {z fl : Str}
    (F : FunD K x qual params body scope dvs kws f fd) (S : FnScope N N scope) (hb : initB N scope fl body z = true) (hz : mg z = some (.ref B)) (bf : BasF K B) (T : OexC K C) (no : PySem.W.findIn K (.ref C) fl = some none) : FnG P w K mg base false (k + 1) f fd N (spI C fl) := by
  obtain ⟨oc, od, dV, kV, doc, pm, an, cdv, ct, osl, rfl, lk, hcd, _, _⟩ := F.ex
  exact fn_init lk hcd S hb hz bf T no
end Sv

/-! Sv16: a row's tables; all its defs, one after another. -/
namespace Sv
open PySem PySem.Spec PyProof.Rows L2
open L2H (RoomH)
structure Tb where
  fns : List Str
  cls : List Str
  gvs : List Str
  tc : List (Option TR)
  th : List (Option TR)
  gv : List D
  xk : List (Option XKd)
def Tb.sn (t : Tb) (N : List Str) : SN := ⟨N, t.fns, t.cls, t.gvs⟩
def Tb.T (t : Tb) (h : Bool) (j : Nat) : Option TR := (if h = true then t.th else t.tc)[j]?.join
def Tb.C (t : Tb) (K : PySem.W.Frag) (j : Nat) : Addr := He.ga K (t.cls.getD j "")
def Tb.G (t : Tb) (K : PySem.W.Frag) (i : Nat) (m : Option (Addr × Obj)) : Gs :=
  { K := K, m0 := m, fn := fun h j => if j < i then t.T h j else none, gv := fun j => t.gv.getD j .non, cl := fun j => t.C K j, xk := fun j => t.xk[j]?.join }
structure TbOk (t : Tb) (K : PySem.W.Frag) (mg : Str → Option Value) : Prop where
  cl : ∀ x, x ∈ t.cls → mg x = some (.ref (He.ga K x))
  gv : ∀ j x, t.gvs[j]? = some x → ∃ v u, mg x = some u ∧ RelV v u ∧ ∀ S H, Rep ⟨K⟩ S H (t.gv.getD j .non) v
  bt : ∀ x, x ∈ bnames → mg x = none
def AllOk (t : Tb) (P : Program) (w : World) (K : PySem.W.Frag) (mg : Str → Option Value) (base : Heap) (i : Nat) : Prop := ∀ h j T x, j < i → t.T h j = some T → t.fns[j]? = some x →
  ∃ f fd ps, mg x = some (.ref f) ∧ PySem.W.keepIn K (.ref f) = true ∧ L2.Binds K fd ps [] ∧ FnG P w K mg base h (i + 2) f fd ps (spD ⟨K⟩ T)
section
variable {t : Tb} {P : Program} {w : World} {K : PySem.W.Frag} {mg : Str → Option Value} {base : Heap} {i : Nat}
theorem AllOk.zero : AllOk t P w K mg base 0 := fun h j T x hj => absurd hj (Nat.not_lt_zero _)
theorem AllOk.step (A : AllOk t P w K mg base i) {x : Str} {f : Addr} {fd : FuncData} {ps : List Str} (hx : t.fns[i]? = some x) (g : mg x = some (.ref f)) (kp : PySem.W.keepIn K (.ref f) = true) (b : L2.Binds K fd ps [])
    (hc : ∀ T, t.T false i = some T → FnG P w K mg base false (i + 3) f fd ps (spD ⟨K⟩ T)) (hh : ∀ T, t.T true i = some T → FnG P w K mg base true (i + 3) f fd ps (spD ⟨K⟩ T)) : AllOk t P w K mg base (i + 1) := by
  intro h j T y hj hT hy
  by_cases e : j < i
  · obtain ⟨f, fd, ps, h1, h2, h3, F⟩ := A h j T y e hT hy
    exact ⟨f, fd, ps, h1, h2, h3, F.mono (by omega)⟩
  · have e : j = i := by omega
    subst e
    rw [hx] at hy
    cases hy
    refine ⟨f, fd, ps, g, kp, b, ?_⟩
    cases h with
    | false => exact hc T hT
    | true => exact hh T hT
theorem AllOk.gok (A : AllOk t P w K mg base i) (ok : TbOk t K mg) {N : List Str} (nd : N.Nodup) (m : Option (Addr × Obj)) : GOk (t.sn N) P w K mg base (t.G K i m).toGm (i + 2) where
  K := rfl
  nd := nd
  fn := fun h j T x hT hx => by
    have hT : (if j < i then t.T h j else none) = some T := hT
    split at hT
    · rename_i hj; exact A h j T x hj hT hx
    · cases hT
  gv := ok.gv
  cl := fun j x hx => by
    have hx : t.cls[j]? = some x := hx
    have e : t.cls.getD j "" = x := by rw [List.getD_eq_getElem?_getD, hx]; rfl
    show mg x = some (.ref (He.ga K (t.cls.getD j "")))
    rw [e]
    exact ok.cl x (List.mem_of_getElem? hx)
  bt := ok.bt
/-- the errors, by the row -/
def XOk (t : Tb) (P : Program) (w : World) (K : PySem.W.Frag) (mg : Str → Option Value) (base : Heap) : Prop := ∀ (j : Nat) (x : Str) (kd : XKd), t.xk[j]?.join = some kd → t.cls[j]? = some x → MkF P w K mg base 2 (He.ga K x) kd
theorem MkF.mono {C : Addr} {kd : XKd} {j k : Nat} (h : MkF P w K mg base j C kd) (hj : j ≤ k) : MkF P w K mg base k C kd := by
  cases h with
  | fld T iC tI F b hk => exact .fld T iC tI F b (Nat.le_trans hk hj)
  | bare Fb q kC e1 e2 => exact .bare Fb q kC e1 e2
/-- one def of the row -/
theorem fn_row {hot : Bool} {f : Addr} {fd : FuncData} {x qual : Str} {params : Arguments} {body : List Stmt} {scope : Scope} {dvs : List V} {kws : List (Str × V)} {N ps : List Str} {T : TR} {b : RSs}
    (A : AllOk t P w K mg base i) (ok : TbOk t K mg) (xo : XOk t P w K mg base) (F : FunD K x qual params body scope dvs kws f fd) (S : FnScope N ps scope) (hck : chkSs (t.sn N) scope b body = true) (hm : Meets (t.sn N) (t.G K i) ps.length hot T b) : FnG P w K mg base hot (i + 3) f fd ps (spD ⟨K⟩ T) := by
  refine fn_DF (n := t.sn N) (G := t.G K i) (k := i + 2) F S hck (fun _ => rfl) (fun _ => rfl) (fun m => A.gok ok S.nd m) (fun m j y kd h hy => ?_) hm
  have hy : t.cls[j]? = some y := hy
  have e : t.cls.getD j "" = y := by rw [List.getD_eq_getElem?_getD, hy]; rfl
  show MkF P w K mg base (i + 2) (He.ga K (t.cls.getD j "")) kd
  rw [e]
  exact (xo j y kd h hy).mono (by omega)
end
end Sv

/-! Sv17: the reading, step by step. -/
namespace Sv
open PySem PySem.Spec PyProof.Rows L2
section
variable {G : Gm} {δ : DS} {S : SS} {Y : XD'} {K : DK} {KT : Bool → SS → Prop} {KL : List D → SS → Prop} {a b c : RE} {es : RL} {d x y : D} {i j : Int} {p : Addr} {op : Operator}
theorem d_var {i : Nat} (h : δ[i]? = some (some d)) (k : K d S) : den G (.var i) δ S Y K := by rw [den]; dsimp only; rw [h]; exact k
theorem d_con {r : RC} (k : K r.d S) : den G (.con r) δ S Y K := by rw [den]; exact k
theorem d_bi {b : Bn} (hb : b.needs G.m0) (h : dens G es δ S Y fun ds S1 => b.den ds S1 K) : den G (.bi b es) δ S Y K := by rw [den]; exact ⟨hb, h⟩
theorem d_int {i : Int} (k : K (.int i) S) : den G (.con (.int i)) δ S Y K := d_con k
theorem d_str {i : Str} (k : K (.str i) S) : den G (.con (.str i)) δ S Y K := d_con k
theorem d_bl {i : Bool} (k : K (.bl i) S) : den G (.con (.bl i)) δ S Y K := d_con k
theorem d_non (k : K .non S) : den G (.con .non) δ S Y K := d_con k
theorem dq_len (h : dens G es δ S Y fun ds S1 => Bn.len.den ds S1 K) : den G (.bi .len es) δ S Y K := d_bi trivial h
theorem dq_abs (h : dens G es δ S Y fun ds S1 => Bn.abs.den ds S1 K) : den G (.bi .abs es) δ S Y K := d_bi trivial h
theorem d_glb {i : Nat} (k : K (G.gv i) S) : den G (.glb i) δ S Y K := by rw [den]; exact k
theorem d_bin (h : den G a δ S Y fun x S1 => den G b δ S1 Y fun y S2 => opD op x y S2 K) : den G (.bin op a b) δ S Y K := by rw [den]; exact h
theorem d_neg (h : den G a δ S Y fun x S1 => ∃ i, x = .int i ∧ K (.int (-i)) S1) : den G (.neg a) δ S Y K := by rw [den]; exact h
theorem d_nt (h : den G a δ S Y fun x S1 => truD x S1 fun b => K (.bl (!b)) S1) : den G (.nt a) δ S Y K := by rw [den]; exact h
theorem d_and (h : denAnd G es δ S Y K) : den G (.and es) δ S Y K := by rw [den]; exact h
theorem d_or (h : denOr G es δ S Y K) : den G (.or es) δ S Y K := by rw [den]; exact h
theorem d_and1 (h : den G a δ S Y K) : denAnd G (.cons a .nil) δ S Y K := by rw [denAnd]; exact h
theorem d_or1 (h : den G a δ S Y K) : denOr G (.cons a .nil) δ S Y K := by rw [denOr]; exact h
theorem d_and2 (h : den G a δ S Y fun x S1 => truD x S1 fun k => if k = true then denAnd G (.cons b es) δ S1 Y K else K x S1) : denAnd G (.cons a (.cons b es)) δ S Y K := by rw [denAnd]; exact h
theorem d_or2 (h : den G a δ S Y fun x S1 => truD x S1 fun k => if k = true then K x S1 else denOr G (.cons b es) δ S1 Y K) : denOr G (.cons a (.cons b es)) δ S Y K := by rw [denOr]; exact h
theorem d_ife (h : denT G c δ S Y fun k S1 => if k = true then den G a δ S1 Y K else den G b δ S1 Y K) : den G (.ife c a b) δ S Y K := by rw [den]; exact h
theorem d_cmp {op : CmpOp} (h : den G a δ S Y fun x S1 => den G b δ S1 Y fun y S2 => cmpE op x y S2 K) : den G (.cmp op a b) δ S Y K := by rw [den]; exact h
theorem d_chn {o1 o2 : CmpOp} (h : den G a δ S Y fun x S1 => den G b δ S1 Y fun y S2 => cmpE o1 x y S2 fun z S3 => ∃ k, z = .bl k ∧ if k = true then den G c δ S3 Y fun w S4 => cmpE o2 y w S4 K else K (.bl false) S3) : den G (.chn o1 o2 a b c) δ S Y K := by rw [den]; exact h
theorem d_lst (h : dens G es δ S Y fun ds S1 => ds.length ≤ sizeLine ∧ K (.lst ds) S1) : den G (.lst false es) δ S Y K := by
  rw [den]; simpa only [Bool.false_eq_true, if_false] using h
theorem d_lstC (h : dens G es δ S Y fun ds S1 => ds.length ≤ sizeLine ∧ ∀ p, S1 p = none → K (.obj p) (S1.set p (.lst ds))) : den G (.lst true es) δ S Y K := by
  rw [den]; simpa only [if_true] using h
theorem d_tup (h : dens G es δ S Y fun ds S1 => ds.length ≤ sizeLine ∧ K (.tup ds) S1) : den G (.tup es) δ S Y K := by rw [den]; exact h
theorem d_ix (h : den G a δ S Y fun x S1 => den G b δ S1 Y fun y S2 => ixD x y S2 K) : den G (.ix a b) δ S Y K := by rw [den]; exact h
theorem d_sl {lo hi : RO} (h : den G a δ S Y fun x S1 => denO G lo δ S1 Y fun l S2 => denO G hi δ S2 Y fun u S3 => slD x l u S3 K) : den G (.sl a lo hi) δ S Y K := by rw [den]; exact h
theorem d_nn {KO : Option Int → SS → Prop} (k : KO none S) : denO G .nn δ S Y KO := by rw [denO]; exact k
theorem d_ss {KO : Option Int → SS → Prop} (k : den G a δ S Y fun d S1 => ∃ i, d = .int i ∧ KO (some i) S1) : denO G (.ss a) δ S Y KO := by rw [denO]; exact k
theorem d_fld {f : Str} (h : den G a δ S Y fun x S1 => fldD G f x S1 K) : den G (.fld a f) δ S Y K := by rw [den]; exact h
theorem d_call {j : Nat} {T : TR} (hT : G.fn G.m0.isSome j = some T) (h : dens G es δ S Y fun ds S1 => T G.m0 ds S1 K fun C fs S' => Y C fs δ S') : den G (.call j es) δ S Y K := by rw [den]; exact ⟨T, hT, h⟩
theorem d_isi {cn : Cn} (h : den G a δ S Y fun x S1 => ∃ t b, tyD S1 x = some t ∧ tyOk G S1 x ∧ PySem.W.kitOne G.K t (cn.val G) = some b ∧ K (.bl b) S1) : den G (.isi a cn) δ S Y K := by rw [den]; exact h
theorem l_nil (k : KL [] S) : dens G .nil δ S Y KL := by rw [dens]; exact k
theorem l_cons (k : den G a δ S Y fun d S1 => dens G es δ S1 Y fun ds S2 => KL (d :: ds) S2) : dens G (.cons a es) δ S Y KL := by rw [dens]; exact k
theorem int_ex {Q : Int → Prop} (k : Q i) : ∃ j, D.int i = .int j ∧ Q j := ⟨i, rfl, k⟩
theorem bl_ex {b : Bool} {Q : Bool → Prop} (k : Q b) : ∃ j, D.bl b = .bl j ∧ Q j := ⟨b, rfl, k⟩
/-! tests -/
theorem t_nt (h : denT G a δ S Y fun b S1 => KT (!b) S1) : denT G (.nt a) δ S Y KT := by rw [denT]; exact h
theorem t_and (h : denTAnd G es δ S Y KT) : denT G (.and es) δ S Y KT := by rw [denT]; exact h
theorem t_or (h : denTOr G es δ S Y KT) : denT G (.or es) δ S Y KT := by rw [denT]; exact h
theorem t_and1 (h : denT G a δ S Y KT) : denTAnd G (.cons a .nil) δ S Y KT := by rw [denTAnd]; exact h
theorem t_or1 (h : denT G a δ S Y KT) : denTOr G (.cons a .nil) δ S Y KT := by rw [denTOr]; exact h
theorem t_and2 (h : denT G a δ S Y fun k S1 => if k = true then denTAnd G (.cons b es) δ S1 Y KT else KT false S1) : denTAnd G (.cons a (.cons b es)) δ S Y KT := by rw [denTAnd]; exact h
theorem t_or2 (h : denT G a δ S Y fun k S1 => if k = true then KT true S1 else denTOr G (.cons b es) δ S1 Y KT) : denTOr G (.cons a (.cons b es)) δ S Y KT := by rw [denTOr]; exact h
theorem t_cmp {op : CmpOp} (h : den G a δ S Y fun x S1 => den G b δ S1 Y fun y S2 => cmpE op x y S2 fun d S' => ∃ k, d = .bl k ∧ KT k S') : denT G (.cmp op a b) δ S Y KT := by rw [denT]; exact h
theorem t_chn {o1 o2 : CmpOp} (h : den G a δ S Y fun x S1 => den G b δ S1 Y fun y S2 => cmpE o1 x y S2 fun z S3 => ∃ k, z = .bl k ∧ if k = true then den G c δ S3 Y fun w S4 => cmpE o2 y w S4 fun d S' => ∃ k, d = .bl k ∧ KT k S' else ∃ k, D.bl false = .bl k ∧ KT k S3) : denT G (.chn o1 o2 a b c) δ S Y KT := by rw [denT]; exact h
theorem t_var {i : Nat} (h : δ[i]? = some (some d)) (k : truD d S fun b => KT b S) : denT G (.var i) δ S Y KT := by rw [denT]; dsimp only; rw [h]; exact k
theorem t_ix (h : den G a δ S Y fun x S1 => den G b δ S1 Y fun y S2 => ixD x y S2 fun d S3 => truD d S3 fun b => KT b S3) : denT G (.ix a b) δ S Y KT := by rw [denT]; exact h
theorem t_call {j : Nat} {T : TR} (hT : G.fn G.m0.isSome j = some T) (h : dens G es δ S Y fun ds S1 => T G.m0 ds S1 (fun d S3 => truD d S3 fun b => KT b S3) fun C fs S' => Y C fs δ S') : denT G (.call j es) δ S Y KT := by rw [denT]; exact ⟨T, hT, h⟩
theorem t_isi {cn : Cn} (h : den G a δ S Y fun x S1 => ∃ t b, tyD S1 x = some t ∧ tyOk G S1 x ∧ PySem.W.kitOne G.K t (cn.val G) = some b ∧ KT b S1) : denT G (.isi a cn) δ S Y KT := by rw [denT]; exact h
theorem t_fld {f : Str} (h : den G a δ S Y fun x S1 => fldD G f x S1 fun d S3 => truD d S3 fun b => KT b S3) : denT G (.fld a f) δ S Y KT := by rw [denT]; exact h
theorem tr_bl {b : Bool} {Q : Bool → Prop} (k : Q b) : truD (.bl b) S Q := k
theorem tr_int {Q : Bool → Prop} (k : Q (i != 0)) : truD (.int i) S Q := k
/-! operators -/
theorem o_add (k : K (.int (i + j)) S) : opD .Add (.int i) (.int j) S K := k
theorem o_sub (k : K (.int (i - j)) S) : opD .Sub (.int i) (.int j) S K := k
theorem o_mul (h : CMul i j ∨ CMulW i j) (k : K (.int (i * j)) S) : opD .Mult (.int i) (.int j) S K := ⟨h, k⟩
theorem o_div (h : CDivW i j) (k : K (.int (i / j)) S) : opD .FloorDiv (.int i) (.int j) S K := ⟨h, k⟩
theorem o_mod (h : 0 < j) (k : K (.int (i % j)) S) : opD .Mod (.int i) (.int j) S K := ⟨h, k⟩
theorem o_pow (h : CPow i j) (k : K (.int (i ^ j.toNat)) S) : opD .Pow (.int i) (.int j) S K := ⟨h, k⟩
theorem o_addL {l m : List D} (h : l.length + m.length ≤ sizeLine) (k : K (.lst (l ++ m)) S) : opD .Add (.lst l) (.lst m) S K := ⟨h, k⟩
theorem o_addT {l m : List D} (h : l.length + m.length ≤ sizeLine) (k : K (.tup (l ++ m)) S) : opD .Add (.tup l) (.tup m) S K := ⟨h, k⟩
theorem o_addS {l m : Str} (h : l.length + m.length ≤ sizeLine) (k : K (.str (l ++ m)) S) : opD .Add (.str l) (.str m) S K := ⟨h, k⟩
theorem eqvI : D.eqv (.int i) (.int j) = decide (i = j) := by
  simp only [D.eqv, D.py, PyData.eqv]
  rw [Bool.eq_iff_iff]; simp
theorem c_eqI (k : K (.bl (decide (i = j))) S) : cmpE .Eq (.int i) (.int j) S K := ⟨rfl, rfl, by rw [Bool.false_xor]; rw [← eqvI] at k; exact k⟩
theorem c_neI (k : K (.bl (!decide (i = j))) S) : cmpE .NotEq (.int i) (.int j) S K := ⟨rfl, rfl, by rw [Bool.true_xor]; rw [← eqvI] at k; exact k⟩
theorem c_ltI (k : K (.bl (decide (i < j))) S) : cmpE .Lt (.int i) (.int j) S K := k
theorem c_leI (k : K (.bl (decide (i ≤ j))) S) : cmpE .LtE (.int i) (.int j) S K := k
theorem c_gtI (k : K (.bl (decide (j < i))) S) : cmpE .Gt (.int i) (.int j) S K := k
theorem c_geI (k : K (.bl (decide (j ≤ i))) S) : cmpE .GtE (.int i) (.int j) S K := k
theorem c_eqV {x y : D} (hx : D.okd 60 (vw S x) = true) (hy : D.okd 60 (vw S y) = true) (k : K (.bl (D.eqv (vw S x) (vw S y))) S) : cmpE .Eq x y S K := ⟨hx, hy, by rw [Bool.false_xor]; exact k⟩
theorem c_neV {x y : D} (hx : D.okd 60 (vw S x) = true) (hy : D.okd 60 (vw S y) = true) (k : K (.bl (!D.eqv (vw S x) (vw S y))) S) : cmpE .NotEq x y S K := ⟨hx, hy, by rw [Bool.true_xor]; exact k⟩
theorem vw_l {b : Addr} {l : List D} (h : S b = some (.lst l)) : vw S (.obj b) = .lst l := by simp only [vw, h]
theorem vw_k {b : Addr} {l : List (Key × D)} (h : S b = some (.dic l)) : vw S (.obj b) = .dic l := by simp only [vw, h]
theorem ix_o {l : List D} (h : S p = some (.lst l)) (e : atI l i = some d) (k : K d S) : ixD (.obj p) (.int i) S K := by
  unfold ixD; rw [vw_l h]; exact ⟨d, e, k⟩
theorem ix_l {l : List D} (e : atI l i = some d) (k : K d S) : ixD (.lst l) (.int i) S K := ⟨d, e, k⟩
theorem ix_t {l : List D} (e : atI l i = some d) (k : K d S) : ixD (.tup l) (.int i) S K := ⟨d, e, k⟩
theorem ix_s {z : Str} {c : Nat} (hz : z.length ≤ sizeLine) (e : atI z.cps.toList i = some c) (k : K (.str ⟨#[c]⟩) S) : ixD (.str z) (.int i) S K := ⟨c, hz, e, k⟩
theorem sl_l {l : List D} {lo hi : Option Int} (k : K (.lst (cutD l lo hi)) S) : slD (.lst l) lo hi S K := k
theorem sl_s {z : Str} {lo hi : Option Int} (hz : z.length ≤ sizeLine) (k : K (.str (cutS z lo hi)) S) : slD (.str z) lo hi S K := ⟨hz, k⟩
theorem len_o {l : List D} (h : S p = some (.lst l)) (k : K (.int l.length) S) : Bn.len.den [.obj p] S K := by
  show lenD [.obj p] S K; unfold lenD; simp only [vw_l h]; exact k
theorem len_l {l : List D} (k : K (.int l.length) S) : Bn.len.den [.lst l] S K := k
theorem len_t {l : List D} (k : K (.int l.length) S) : Bn.len.den [.tup l] S K := k
theorem len_s {z : Str} (hz : z.length ≤ sizeLine) (k : K (.int z.length) S) : Bn.len.den [.str z] S K := ⟨hz, k⟩
theorem abs_i (k : K (.int (if i < 0 then -i else i)) S) : Bn.abs.den [.int i] S K := k
theorem fld_x {y C : Addr} {oe : Obj} {fs : List (Str × D)} {f : Str} (hm : G.m0 = some (y, oe)) (hF : ExcF G.K C) (hn : NoAttr G.K C f) (e : fs.lookup f = some d) (k : K d S) : fldD G f (.exc y oe C fs) S K := ⟨hm, hF, hn, d, e, k⟩
/-- a list of ints, a place -/
theorem atI_map {α : Type} {f : α → D} {l : List α} {k : Nat} {x : α} (h : l[k]? = some x) : atI (l.map f) (k : Int) = some (f x) := by
  have hk : k < l.length := by
    obtain ⟨z, _⟩ := List.getElem?_eq_some_iff.mp h
    exact z
  exact atI_nat (by rw [List.getElem?_map, h]; rfl)
end
section
variable {G : Gs} {δ : DS} {S : SS} {Y : XD'} {F : SE} {a b c e : RE} {r r2 : RSs} {s : RS} {d : D}
theorem ss_nil (h : F.nx δ S) : denSs G .nil δ S Y F := by rw [denSs]; exact h
theorem ss_cons (h : denS G s δ S Y { F with nx := fun δ1 S1 => denSs G r δ1 S1 Y F }) : denSs G (.cons s r) δ S Y F := by rw [denSs]; exact h
theorem ss_cut (J : DS → SS → Prop) (h : denS G s δ S Y { F with nx := J }) (h2 : ∀ δ1 S1, J δ1 S1 → denSs G r δ1 S1 Y F) : denSs G (.cut s r) δ S Y F := by rw [denSs]; exact ⟨J, h, h2⟩
theorem st_exp (h : den G.toGm e δ S Y fun _ S1 => F.nx δ S1) : denS G (.exp e) δ S Y F := by rw [denS]; exact h
theorem st_asg {i : Nat} (h : den G.toGm e δ S Y fun d S1 => F.nx (δ.set i (some d)) S1) : denS G (.asg [i] true e) δ S Y F := by
  rw [denS]; exact ⟨(fun z => nomatch z), h⟩
theorem st_asl {i : Nat} (h : den G.toGm e δ S Y fun d S1 => F.nx (δ.set i (some d)) S1) : denS G (.asl i e) δ S Y F := by rw [denS]; exact h
theorem st_sti (h : den G.toGm c δ S Y fun z S1 => den G.toGm a δ S1 Y fun x S2 => den G.toGm b δ S2 Y fun y S3 => setD x y z S3 fun S4 => F.nx δ S4) : denS G (.sti a b c) δ S Y F := by rw [denS]; exact h
theorem st_agv {i : Nat} {op : Operator} (hx : δ[i]? = some (some d)) (h : den G.toGm e δ S Y fun y S1 => augD op d y S1 fun z S2 => F.nx (δ.set i (some z)) S2) : denS G (.agv i op e) δ S Y F := by rw [denS]; exact ⟨d, hx, h⟩
theorem st_agi {op : Operator} (h : den G.toGm a δ S Y fun x S1 => den G.toGm b δ S1 Y fun y S2 => getD' x y S2 fun u S3 => den G.toGm e δ S3 Y fun w S4 => augD op u w S4 fun z S5 => setD x y z S5 fun S6 => F.nx δ S6) : denS G (.agi a b op e) δ S Y F := by rw [denS]; exact h
theorem st_ifs (h : denT G.toGm c δ S Y fun k S1 => if k = true then denSs G r δ S1 Y F else denSs G r2 δ S1 Y F) : denS G (.ifs c r r2) δ S Y F := by rw [denS]; exact h
theorem st_ret (h : den G.toGm e δ S Y F.rt) : denS G (.ret e) δ S Y F := by rw [denS]; exact h
theorem st_retN (h : F.rt .non S) : denS G .retN δ S Y F := by rw [denS]; exact h
theorem st_pas (h : F.nx δ S) : denS G .pas δ S Y F := by rw [denS]; exact h
theorem st_rai {j : Nat} {es : RL} {kd : XKd} (hm : G.m0 = none) (hk : G.xk j = some kd) (ha : es.len = kd.ar) (h : dens G.toGm es δ S Y fun ds S1 => ∃ fs, mkX kd ds = some fs ∧ Y (G.cl j) fs δ S1) : denS G (.rai j es) δ S Y F := by rw [denS]; exact ⟨hm, kd, hk, ha, h⟩
theorem set_o {p : Addr} {l : List D} {i : Int} {j : Nat} {z : D} {K : SS → Prop} (h : S p = some (.lst l)) (e : ixN l.length i = some j) (k : K (S.set p (.lst (l.set j z)))) : setD (.obj p) (.int i) z S K := by
  unfold setD; simp only [h]; exact ⟨i, j, rfl, e, k⟩
theorem get_o {p : Addr} {l : List D} {i : Int} {K : DK} (h : S p = some (.lst l)) (e : atI l i = some d) (k : K d S) : getD' (.obj p) (.int i) S K := by
  unfold getD'; simp only [h]; exact ⟨i, d, rfl, e, k⟩
theorem aug_i {i j : Int} {K : DK} (k : K (.int (i + j)) S) : augD .Add (.int i) (.int j) S K := k
theorem SS.set_set {p : Addr} {x y : Cell} : (S.set p x).set p y = S.set p y := by
  funext q
  unfold SS.set
  by_cases h : q = p
  · simp [h]
  · simp [h]
theorem SS.set_id {p : Addr} {x : Cell} (h : S p = some x) : S.set p x = S := by
  funext q
  unfold SS.set
  by_cases e : q = p
  · subst e; simp [h]
  · simp [e]
end
end Sv

/-! Sv18: comprehensions, isinstance of errors, loops: the forms one uses. -/
namespace Sv
open PySem PySem.Spec PyProof.Rows L2
theorem SS.set_comm {S : SS} {a b : Addr} {x y : Cell} (h : a ≠ b) : (S.set a x).set b y = (S.set b y).set a x := by
  funext q
  unfold SS.set
  by_cases h1 : q = b
  · by_cases h2 : q = a
    · exact absurd (h2.symm.trans h1) h
    · simp [h1, Ne.symm h]
  · simp [h1]
theorem SS.del_set {S : SS} {p : Addr} {x : Cell} (h : S p = none) : (S.set p x).del p = S := by
  funext q
  unfold SS.set SS.del
  by_cases e : q = p
  · simp [e, h]
  · simp [e]
theorem SS.ne_of {S : SS} {a b : Addr} {c : Cell} (h : S a = some c) (h2 : S b = none) : a ≠ b := fun e => by rw [e, h2] at h; cases h
section
variable {G : Gm} {δ : DS} {S : SS} {Y : XD'} {K : DK}
def LcK (G : Gm) (cell : Bool) (elt : RE) (tg : List Nat) (one : Bool) (c : RO) (own : List Nat) (δ : DS) (K : DK) (ds : List D) (ok : SS → Prop) (S1 : SS) : Prop :=
  ∀ p, S1 p = none → ∃ Iv : Nat → SS → Prop, Iv 0 (S1.set p (.lst [])) ∧ (∀ i S', Iv i S' → i ≤ ds.length → ok S') ∧
      (∀ i d S', ds[i]? = some d → Iv i S' → denTg tg one d (wipeD δ own) S' fun δ2 S2 => denC G c δ2 S2 noX fun b S3 =>
        if b = true then den G elt δ2 S3 noX fun y S4 => ∃ acc, S4 p = some (.lst acc) ∧ acc.length < sizeLine ∧ Iv (i + 1) (S4.set p (.lst (acc ++ [y]))) else Iv (i + 1) S3) ∧
      (∀ S', Iv ds.length S' → ∃ acc, S' p = some (.lst acc) ∧ if cell = true then K (.obj p) S' else K (.lst acc) (S'.del p))
theorem d_lc {cell : Bool} {elt : RE} {tg : List Nat} {one : Bool} {it : RI} {c : RO} {own : List (Str × Nat)} (hm : G.m0 = none) (h : denI G it δ S Y fun ds ok S1 => LcK G cell elt tg one c (own.map (·.2)) δ K ds ok S1) : den G (.lc cell elt tg one it c own) δ S Y K := by
  rw [den]; exact ⟨hm, h⟩
theorem i_l {e : RE} {KI : List D → (SS → Prop) → SS → Prop} (h : den G e δ S Y fun d S1 => ∃ ds, vw S1 d = .lst ds ∧ KI ds (fun S' => vw S' d = .lst ds) S1) : denI G (.lst e) δ S Y KI := by rw [denI]; exact h
theorem i_t {e : RE} {KI : List D → (SS → Prop) → SS → Prop} (h : den G e δ S Y fun d S1 => ∃ ds, vw S1 d = .tup ds ∧ KI ds (fun S' => True) S1) : denI G (.tup e) δ S Y KI := by rw [denI]; exact h
theorem i_r1 {e : RE} {KI : List D → (SS → Prop) → SS → Prop} (h : den G e δ S Y fun d S1 => ∃ j, d = .int j ∧ -(2 ^ 62) ≤ j ∧ j < 2 ^ 62 ∧ KI (rngD 0 j.toNat) (fun _ => True) S1) : denI G (.rng1 e) δ S Y KI := by rw [denI]; exact h
theorem lc_I {elt : RE} {tg : List Nat} {one : Bool} {c : RO} {own : List Nat} {ds : List D} {ok : SS → Prop} (hz : ds.length ≤ sizeLine) (Inv : Nat → List D → SS → Prop) (h0 : Inv 0 [] S) (hok : ∀ i acc S0 p, Inv i acc S0 → S0 p = none → ok (S0.set p (.lst acc)))
    (hs : ∀ p i acc S0 d, ds[i]? = some d → Inv i acc S0 → S0 p = none → denTg tg one d (wipeD δ own) (S0.set p (.lst acc)) fun δ2 S2 => denC G c δ2 S2 noX fun b S3 =>
        if b = true then den G elt δ2 S3 noX fun y S4 => ∃ acc', S4 p = some (.lst acc') ∧ acc'.length < sizeLine ∧ ∃ acc2 S0', acc2.length ≤ i + 1 ∧ S0' p = none ∧ Inv (i + 1) acc2 S0' ∧ S4.set p (.lst (acc' ++ [y])) = S0'.set p (.lst acc2)
        else ∃ acc2 S0', acc2.length ≤ i + 1 ∧ S0' p = none ∧ Inv (i + 1) acc2 S0' ∧ S3 = S0'.set p (.lst acc2))
    (hl : ∀ acc S0, Inv ds.length acc S0 → K (.lst acc) S0) : LcK G false elt tg one c own δ K ds ok S := by
  intro p hp
  refine ⟨fun i S' => ∃ acc S0, acc.length ≤ i ∧ S0 p = none ∧ Inv i acc S0 ∧ S' = S0.set p (.lst acc), ⟨[], S, Nat.le_refl _, hp, h0, rfl⟩, ?_, ?_, ?_⟩
  · rintro i S' ⟨acc, S0, _, hp0, hi, rfl⟩ _
    exact hok i acc S0 p hi hp0
  · rintro i d S' hd ⟨acc, S0, hacc, hp0, hi, rfl⟩
    exact hs p i acc S0 d hd hi hp0
  · rintro S' ⟨acc, S0, _, hp0, hi, rfl⟩
    refine ⟨acc, SS.set_same, ?_⟩
    rw [if_neg Bool.false_ne_true, SS.del_set hp0]
    exact hl acc S0 hi
/-- .. whose element and condition change nothing -/
theorem lc_fm {elt : RE} {tg : List Nat} {one : Bool} {c : RO} {own : List Nat} {ds : List D} {ok : SS → Prop} (f : D → D) (g : D → Bool) (hz : ds.length ≤ sizeLine) (hok : ∀ acc p, S p = none → ok (S.set p (.lst acc)))
    (hs : ∀ (p : Addr) (i : Nat) (acc : List D) (d : D) (KK : DK) (KN : SS → Prop), ds[i]? = some d → S p = none → (g d = true → KK (f d) (S.set p (.lst acc))) → (g d = false → KN (S.set p (.lst acc))) →
      denTg tg one d (wipeD δ own) (S.set p (.lst acc)) fun δ2 S2 => denC G c δ2 S2 noX fun b S3 => if b = true then den G elt δ2 S3 noX KK else KN S3)
    (hl : K (.lst ((ds.filter g).map f)) S) : LcK G false elt tg one c own δ K ds ok S := by
  intro p hp
  have hcl : ∀ i, i < ds.length → (((ds.take i).filter g).map f).length < sizeLine := fun i hi => by
    rw [List.length_map]
    have := List.length_filter_le g (ds.take i)
    rw [List.length_take] at this
    omega
  refine ⟨fun i S' => S' = S.set p (.lst (((ds.take i).filter g).map f)), rfl, ?_, ?_, ?_⟩
  · rintro i S' rfl _
    exact hok _ p hp
  · rintro i d S' hd rfl
    have hi : i < ds.length := by
      obtain ⟨z, _⟩ := List.getElem?_eq_some_iff.mp hd
      exact z
    have et : ds.take (i + 1) = ds.take i ++ [d] := by
      rw [List.take_add_one, hd]; rfl
    refine hs p i _ d _ _ hd hp (fun hg => ⟨_, SS.set_same, hcl i hi, ?_⟩) fun hg => ?_
    · rw [SS.set_set]
      show _ = S.set p (.lst (((ds.take (i + 1)).filter g).map f))
      rw [et, List.filter_append, List.map_append]
      simp [hg]
    · show _ = S.set p (.lst (((ds.take (i + 1)).filter g).map f))
      rw [et, List.filter_append, List.map_append]
      simp [hg]
  · rintro S' rfl
    refine ⟨_, SS.set_same, ?_⟩
    rw [if_neg Bool.false_ne_true, SS.del_set hp, List.take_length]
    exact hl
theorem c_nn {KT : Bool → SS → Prop} (k : KT true S) : denC G .nn δ S Y KT := by rw [denC]; exact k
theorem c_ss {KT : Bool → SS → Prop} {e : RE} (k : denT G e δ S Y KT) : denC G (.ss e) δ S Y KT := by rw [denC]; exact k
theorem tg_1 {i : Nat} {d : D} {Q : DS → SS → Prop} (k : Q (δ.set i (some d)) S) : denTg [i] true d δ S Q := k
/-- isinstance of the handled error -/
theorem isi_x {a C : Addr} {oe : Obj} {fs : List (Str × D)} {cn : Cn} {b : Bool} {Q : Bool → Prop} (hm : G.m0 = some (a, oe)) (hF : ExcF G.K C) (hk : PySem.W.kitOne G.K (.ref C) (cn.val G) = some b) (k : Q b) :
    ∃ t b, tyD S (.exc a oe C fs) = some t ∧ tyOk G S (.exc a oe C fs) ∧ PySem.W.kitOne G.K t (cn.val G) = some b ∧ Q b := ⟨_, b, rfl, ⟨hm, hF⟩, hk, k⟩
end
section
variable {G : Gs} {δ : DS} {S : SS} {Y : XD'} {F : SE}
/-- for: the invariant by the turn -/
theorem st_fr {tg : List Nat} {one : Bool} {it : RI} {b : RSs} (hm : G.m0 = none) (h : denI G.toGm it δ S Y fun ds ok S1 => ∃ Iv : Nat → DS → SS → Prop, Iv 0 δ S1 ∧ (∀ i δ' S', Iv i δ' S' → i ≤ ds.length → ok S') ∧
      (∀ i d δ' S', ds[i]? = some d → Iv i δ' S' → denTg tg one d δ' S' fun δ2 S2 => denSs G b δ2 S2 Y { F with nx := Iv (i + 1), ct := Iv (i + 1), bk := F.nx }) ∧ (∀ δ' S', Iv ds.length δ' S' → F.nx δ' S')) : denS G (.fr tg one it b) δ S Y F := by
  rw [denS]; exact ⟨hm, h⟩
theorem st_tra {b s : RSs} {j i : Nat} (hm : G.m0 = none) (h : denSs G b δ S (fun C fs δ' S' => ∃ k, PySem.W.exmOne G.K (.ref C) (.ref (G.cl j)) = some k ∧
      (k = true → ∀ a oe, denSs (G.suite a oe) s (δ'.set i (some (.exc a oe C fs))) S' noX { F with nx := fun δ2 S2 => F.nx (δ2.set i none) S2, bk := fun δ2 S2 => F.bk (δ2.set i none) S2, ct := fun δ2 S2 => F.ct (δ2.set i none) S2 }) ∧
      (k = false → Y C fs δ' S')) F) : denS G (.tra b j i s) δ S Y F := by
  rw [denS]; exact ⟨hm, h⟩
end
end Sv

namespace Cl
open PySem PySem.Spec PyProof.Rows L2 Sv
open L2H (RoomH)
def top (i : Nat) : Stmt := PySem.Challenge.pw_stillmain_k13_refusals_apart.main.body.getD i (.Pass ⟨0, 0, 0, 0⟩)
def fn : List He.DefD := [
  ⟨("_law_bag", none), "_law_bag", "_law_bag", defArgs (top 16), defBody (top 16), defScope (top 16), [], []⟩,
  ⟨("_law_flags", none), "_law_flags", "_law_flags", defArgs (top 20), defBody (top 20), defScope (top 20), [], []⟩,
  ⟨("_law_further", none), "_law_further", "_law_further", defArgs (top 19), defBody (top 19), defScope (top 19), [], []⟩,
  ⟨("_law_raised", none), "_law_raised", "_law_raised", defArgs (top 18), defBody (top 18), defScope (top 18), [], []⟩,
  ⟨("_law_caught", none), "_law_caught", "_law_caught", defArgs (top 21), defBody (top 21), defScope (top 21), [], []⟩,
  ⟨("_law_take", none), "_law_take", "_law_take", defArgs (top 17), defBody (top 17), defScope (top 17), [], []⟩,
  ⟨("law", none), "law", "law", defArgs (top 22), defBody (top 22), defScope (top 22), [], []⟩,
  ⟨("Wrong", some "__init__"), "__init__", "Wrong.__init__", defArgs (inClass (top 2) 0), defBody (inClass (top 2) 0), defScope (inClass (top 2) 0), [], []⟩,
  ⟨("There", some "__init__"), "__init__", "There.__init__", defArgs (inClass (top 3) 0), defBody (inClass (top 3) 0), defScope (inClass (top 3) 0), [], []⟩,
  ⟨("Lacks", some "__init__"), "__init__", "Lacks.__init__", defArgs (inClass (top 4) 0), defBody (inClass (top 4) 0), defScope (inClass (top 4) 0), [], []⟩,
  ⟨("TooMany", some "__init__"), "__init__", "TooMany.__init__", defArgs (inClass (top 5) 0), defBody (inClass (top 5) 0), defScope (inClass (top 5) 0), [], []⟩,
  ⟨("InUse", some "__init__"), "__init__", "InUse.__init__", defArgs (inClass (top 6) 0), defBody (inClass (top 6) 0), defScope (inClass (top 6) 0), [], []⟩,
  ⟨("Held", some "__init__"), "__init__", "Held.__init__", defArgs (inClass (top 7) 0), defBody (inClass (top 7) 0), defScope (inClass (top 7) 0), [], []⟩,
  ⟨("Stuck", some "__init__"), "__init__", "Stuck.__init__", defArgs (inClass (top 8) 0), defBody (inClass (top 8) 0), defScope (inClass (top 8) 0), [], []⟩,
  ⟨("NoPart", some "__init__"), "__init__", "NoPart.__init__", defArgs (inClass (top 9) 0), defBody (inClass (top 9) 0), defScope (inClass (top 9) 0), [], []⟩,
  ⟨("NotNow", some "__init__"), "__init__", "NotNow.__init__", defArgs (inClass (top 10) 0), defBody (inClass (top 10) 0), defScope (inClass (top 10) 0), [], []⟩,
  ⟨("NotDry", some "__init__"), "__init__", "NotDry.__init__", defArgs (inClass (top 11) 0), defBody (inClass (top 11) 0), defScope (inClass (top 11) 0), [], []⟩,
  ⟨("Known", some "__init__"), "__init__", "Known.__init__", defArgs (inClass (top 12) 0), defBody (inClass (top 12) 0), defScope (inClass (top 12) 0), [], []⟩]
def fa : List He.Fa := [
  .glo "_law_bag",
  .glo "_law_flags",
  .glo "_law_further",
  .glo "_law_raised",
  .glo "_law_caught",
  .glo "_law_take",
  .glo "law",
  .glo "MainsError",
  .glo "Wrong",
  .glo "There",
  .glo "Lacks",
  .glo "TooMany",
  .glo "InUse",
  .glo "Held",
  .glo "Stuck",
  .glo "NoPart",
  .glo "NotNow",
  .glo "NotDry",
  .glo "Known",
  .glo "NoText",
  .glo "NoRow",
  .free "len",
  .free "abs",
  .free "max",
  .free "min",
  .free "range",
  .free "isinstance",
  .free "repr",
  .free "list",
  .free "tuple",
  .free "dict",
  .free "sorted",
  .free "sum",
  .free "enumerate",
  .free "zip",
  .free "reversed",
  .free "str",
  .free "int",
  .free "bool",
  .free "set",
  .free "ValueError",
  .free "any",
  .free "all",
  .exc "NoText",
  .exc "NoRow"]
def fx : List Fx := [
  .oex "Wrong",
  .ini "Wrong",
  .nov "Wrong" "at",
  .oex "There",
  .ini "There",
  .nov "There" "name",
  .oex "Lacks",
  .ini "Lacks",
  .nov "Lacks" "name",
  .oex "TooMany",
  .ini "TooMany",
  .nov "TooMany" "most",
  .oex "InUse",
  .ini "InUse",
  .nov "InUse" "name",
  .oex "Held",
  .ini "Held",
  .nov "Held" "hands",
  .oex "Stuck",
  .ini "Stuck",
  .nov "Stuck" "name",
  .oex "NoPart",
  .ini "NoPart",
  .nov "NoPart" "way",
  .oex "NotNow",
  .ini "NotNow",
  .nov "NotNow" "job",
  .oex "NotDry",
  .ini "NotDry",
  .nov "NotDry" "damp",
  .oex "Known",
  .ini "Known",
  .nov "Known" "number",
  .bas "MainsError",
  .sib ["Wrong", "There", "Lacks", "TooMany", "InUse", "Held", "Stuck", "NoPart", "NotNow", "NotDry", "Known", "NoText", "NoRow"],
  .veT ["Wrong", "There", "Lacks", "TooMany", "InUse", "Held", "Stuck", "NoPart", "NotNow", "NotDry", "Known", "NoText", "NoRow"] "ValueError",
  .exA ["Wrong", "There", "Lacks", "TooMany", "InUse", "Held", "Stuck", "NoPart", "NotNow", "NotDry", "Known", "NoText", "NoRow"] "MainsError",
  .exfs ["Wrong", "There", "Lacks", "TooMany", "InUse", "Held", "Stuck", "NoPart", "NotNow", "NotDry", "Known", "NoText", "NoRow"]]
def nm0 : List Str := ["__name__", "MainsError", "Wrong", "There", "Lacks", "TooMany", "InUse", "Held", "Stuck", "NoPart", "NotNow", "NotDry", "Known", "NoText", "NoRow", "_law_bag", "_law_take", "_law_raised", "_law_further", "_law_flags", "_law_caught"]
def names : List Str := nm0
abbrev R : PySem.W.OpenRow := PySem.W.OpenLaw.row PySem.Challenge.rw_stillmain_k13_refusals_apart
abbrev hk : PySem.W.Hook := hookX 5 fa fn fx
def ob (s : PySem.W.SharedT) : AlX := obsXG 5 fa fn fx (HandSHeadRun.getT s)
theorem ob_eq (s : PySem.W.SharedT) : ob s = hk.obs s.abs := obsXG_eq (HandSHeadRun.getT_eq s)
theorem run (w : World) : HandSHeadRun.RunEq R (PySem.W.view R.prog [22]) hk ob 20000 names w := by
  intro os
  kernel_rfl

def fnsL : List Str := ["_law_bag", "_law_flags", "_law_further", "_law_raised", "_law_caught", "_law_take", "law"]
def clsL : List Str := ["MainsError", "Wrong", "There", "Lacks", "TooMany", "InUse", "Held", "Stuck", "NoPart", "NotNow", "NotDry", "Known", "NoText", "NoRow"]
def gvsL : List Str := []
abbrev sn (N : List Str) : SN := ⟨N, fnsL, clsL, gvsL⟩
def N0 : List Str := ["_law_script", "_law_cell"]
/-- _law_bag -/
def b0 : RSs := .cons (.ret (.lst true (.cons (.con (.int 0)) (.cons (.con (.int 1234567891)) (.cons (.con (.int 0)) (.cons (.lc false (.bi .abs (.cons (.var 1) .nil)) [1] true (.lst (.sl (.var 0) (.nn) (.ss (.con (.int 63))))) (.nn) [("_law_cell", 1)]) .nil)))))) .nil
theorem sc0 : FnScope N0 ["_law_script"] (defScope (top 16)) := ⟨rfl, rfl, rfl, by decide +kernel, rfl, by decide +kernel, by decide +kernel⟩
theorem ck0 : chkSs (sn N0) (defScope (top 16)) b0 (defBody (top 16)) = true := by decide +kernel
def N1 : List Str := ["_law_e", "_law_some"]
/-- _law_flags -/
def b1 : RSs := .cons (.asg [1] true (.lst false (.cons (.isi (.var 0) (.own 1)) (.cons (.isi (.var 0) (.own 2)) (.cons (.isi (.var 0) (.own 3)) (.cons (.isi (.var 0) (.own 4)) .nil)))))) (.cons (.asg [1] true (.bin .Add (.var 1) (.lst false (.cons (.isi (.var 0) (.own 5)) (.cons (.isi (.var 0) (.own 6)) (.cons (.isi (.var 0) (.own 7)) (.cons (.isi (.var 0) (.own 8)) .nil))))))) (.cons (.asg [1] true (.bin .Add (.var 1) (.lst false (.cons (.isi (.var 0) (.own 9)) (.cons (.isi (.var 0) (.own 10)) (.cons (.isi (.var 0) (.own 11)) (.cons (.isi (.var 0) (.own 12)) .nil))))))) (.cons (.ret (.bin .Add (.var 1) (.lst false (.cons (.isi (.var 0) (.own 13)) (.cons (.isi (.var 0) (.ty "ValueError")) .nil))))) .nil)))
theorem sc1 : FnScope N1 ["_law_e"] (defScope (top 20)) := ⟨rfl, rfl, rfl, by decide +kernel, rfl, by decide +kernel, by decide +kernel⟩
theorem ck1 : chkSs (sn N1) (defScope (top 20)) b1 (defBody (top 20)) = true := by decide +kernel
def N2 : List Str := ["_law_which", "_law_thing"]
/-- _law_further -/
def b2 : RSs := .cons (.ifs (.cmp .Eq (.var 0) (.con (.int 7))) (.cons (.rai 8 (.cons (.var 1) .nil)) .nil) (.nil)) (.cons (.ifs (.cmp .Eq (.var 0) (.con (.int 8))) (.cons (.rai 9 (.cons (.var 1) .nil)) .nil) (.nil)) (.cons (.ifs (.cmp .Eq (.var 0) (.con (.int 9))) (.cons (.rai 10 (.cons (.var 1) .nil)) .nil) (.nil)) (.cons (.ifs (.cmp .Eq (.var 0) (.con (.int 10))) (.cons (.rai 11 (.cons (.var 1) .nil)) .nil) (.nil)) (.cons (.ifs (.cmp .Eq (.var 0) (.con (.int 11))) (.cons (.rai 12 (.nil)) .nil) (.nil)) (.cons (.rai 13 (.nil)) .nil)))))
theorem sc2 : FnScope N2 ["_law_which", "_law_thing"] (defScope (top 19)) := ⟨rfl, rfl, rfl, by decide +kernel, rfl, by decide +kernel, by decide +kernel⟩
theorem ck2 : chkSs (sn N2) (defScope (top 19)) b2 (defBody (top 19)) = true := by decide +kernel
def N3 : List Str := ["_law_which", "_law_thing"]
/-- _law_raised -/
def b3 : RSs := .cons (.ifs (.cmp .Eq (.var 0) (.con (.int 0))) (.cons (.rai 1 (.cons (.var 1) .nil)) .nil) (.nil)) (.cons (.ifs (.cmp .Eq (.var 0) (.con (.int 1))) (.cons (.rai 2 (.cons (.var 1) .nil)) .nil) (.nil)) (.cons (.ifs (.cmp .Eq (.var 0) (.con (.int 2))) (.cons (.rai 3 (.cons (.var 1) .nil)) .nil) (.nil)) (.cons (.ifs (.cmp .Eq (.var 0) (.con (.int 3))) (.cons (.rai 4 (.cons (.var 1) .nil)) .nil) (.nil)) (.cons (.ifs (.cmp .Eq (.var 0) (.con (.int 4))) (.cons (.rai 5 (.cons (.var 1) .nil)) .nil) (.nil)) (.cons (.ifs (.cmp .Eq (.var 0) (.con (.int 5))) (.cons (.rai 6 (.cons (.var 1) .nil)) .nil) (.nil)) (.cons (.ifs (.cmp .Eq (.var 0) (.con (.int 6))) (.cons (.rai 7 (.cons (.var 1) .nil)) .nil) (.nil)) (.cons (.exp (.call 2 (.cons (.var 0) (.cons (.var 1) .nil)))) .nil)))))))
theorem sc3 : FnScope N3 ["_law_which", "_law_thing"] (defScope (top 18)) := ⟨rfl, rfl, rfl, by decide +kernel, rfl, by decide +kernel, by decide +kernel⟩
theorem ck3 : chkSs (sn N3) (defScope (top 18)) b3 (defBody (top 18)) = true := by decide +kernel
def N4 : List Str := ["_law_which", "_law_thing", "_law_e"]
/-- _law_caught -/
def b4 : RSs := .cut (.tra (.cons (.exp (.call 3 (.cons (.var 0) (.cons (.var 1) .nil)))) .nil) 0 2 (.cons (.ret (.call 1 (.cons (.var 2) .nil))) .nil)) (.cons (.ret (.con .non)) .nil)
theorem sc4 : FnScope N4 ["_law_which", "_law_thing"] (defScope (top 21)) := ⟨rfl, rfl, rfl, by decide +kernel, rfl, by decide +kernel, by decide +kernel⟩
theorem ck4 : chkSs (sn N4) (defScope (top 21)) b4 (defBody (top 21)) = true := by decide +kernel
def N5 : List Str := ["_law_bag_here", "_law_many", "_law_cell", "_law_value", "_law_first", "_law_second"]
/-- _law_take -/
def b5 : RSs := .cut (.ifs (.cmp .Eq (.ix (.var 0) (.con (.int 0))) (.con (.int 0))) (.cons (.asg [2] true (.con (.int 0))) (.cut (.ifs (.cmp .Lt (.ix (.var 0) (.con (.int 2))) (.bi .len (.cons (.ix (.var 0) (.con (.int 3))) .nil))) (.cons (.asg [2] true (.ix (.ix (.var 0) (.con (.int 3))) (.ix (.var 0) (.con (.int 2))))) .nil) (.nil)) (.cons (.agi (.var 0) (.con (.int 2)) .Add (.con (.int 1))) (.cut (.ifs (.cmp .GtE (.var 2) (.con (.int 1000000000000000000))) (.cons (.sti (.var 0) (.con (.int 0)) (.var 2)) .nil) (.nil)) (.cons (.sti (.var 0) (.con (.int 1)) (.bin .Mod (.bin .Add (.bin .Add (.bin .Mult (.ix (.var 0) (.con (.int 1))) (.con (.int 48271))) (.bin .Mod (.var 2) (.con (.int 2147483647)))) (.bin .Mult (.con (.int 7919)) (.ix (.var 0) (.con (.int 2))))) (.con (.int 2147483647)))) .nil))))) (.nil)) (.cons (.ifs (.cmp .Gt (.ix (.var 0) (.con (.int 0))) (.con (.int 0))) (.cons (.asg [3] true (.bin .Mod (.ix (.var 0) (.con (.int 0))) (.var 1))) (.cons (.sti (.var 0) (.con (.int 0)) (.bin .FloorDiv (.ix (.var 0) (.con (.int 0))) (.var 1))) (.cons (.ret (.var 3)) .nil))) (.nil)) (.cons (.asg [4] true (.bin .Mod (.bin .Mult (.bin .Add (.ix (.var 0) (.con (.int 1))) (.con (.int 1))) (.con (.int 39373))) (.con (.int 1000000007)))) (.cons (.asg [5] true (.bin .Mod (.bin .Mult (.bin .Mod (.bin .Mult (.var 4) (.var 4)) (.con (.int 998244353))) (.con (.int 30011))) (.con (.int 998244353)))) (.cons (.ifs (.cmp .Gt (.var 1) (.con (.int 1000000))) (.cons (.ret (.bin .Mod (.bin .Add (.bin .Mult (.var 5) (.con (.int 1000000007))) (.var 4)) (.var 1))) .nil) (.nil)) (.cons (.ret (.bin .Mod (.bin .FloorDiv (.var 5) (.con (.int 7))) (.var 1))) .nil)))))
theorem sc5 : FnScope N5 ["_law_bag_here", "_law_many"] (defScope (top 17)) := ⟨rfl, rfl, rfl, by decide +kernel, rfl, by decide +kernel, by decide +kernel⟩
theorem ck5 : chkSs (sn N5) (defScope (top 17)) b5 (defBody (top 17)) = true := by decide +kernel
def N6 : List Str := ["_law_script", "_law_bag_here", "_law_first", "_law_step", "_law_k", "_law_which", "_law_thing", "_law_j"]
/-- law -/
def b6 : RSs := .cons (.asg [1] true (.call 0 (.cons (.var 0) .nil))) (.cons (.asg [2] true (.call 5 (.cons (.var 1) (.cons (.con (.int 13)) .nil)))) (.cons (.asg [3] true (.bin .Add (.con (.int 1)) (.call 5 (.cons (.var 1) (.cons (.con (.int 12)) .nil))))) (.cons (.fr [4] true (.rng1 (.con (.int 26))) (.cons (.asg [5] true (.bin .Mod (.bin .Add (.var 2) (.bin .Mult (.var 3) (.var 4))) (.con (.int 13)))) (.cons (.asg [6] true (.ix (.lst false (.cons (.con (.str "jo")) (.cons (.con (.int 7)) (.cons (.lst false (.cons (.con (.str "ann")) (.cons (.con (.str "bob")) .nil))) (.cons (.con .non) (.cons (.tup (.cons (.con (.str "a")) (.cons (.con (.int 1)) .nil))) (.cons (.con (.str "")) .nil))))))) (.call 5 (.cons (.var 1) (.cons (.con (.int 6)) .nil))))) (.cons (.ifs (.cmp .NotEq (.call 4 (.cons (.var 5) (.cons (.var 6) .nil))) (.bin .Add (.lc false (.cmp .Eq (.var 7) (.var 5)) [7] true (.rng1 (.con (.int 13))) (.nn) [("_law_j", 7)]) (.lst false (.cons (.con (.bl true)) .nil)))) (.cons (.ret (.con (.bl false))) .nil) (.nil)) .nil)))) (.cons (.ret (.con (.bl true))) .nil))))
theorem sc6 : FnScope N6 ["_law_script"] (defScope (top 22)) := ⟨rfl, rfl, rfl, by decide +kernel, rfl, by decide +kernel, by decide +kernel⟩
theorem ck6 : chkSs (sn N6) (defScope (top 22)) b6 (defBody (top 22)) = true := by decide +kernel
end Cl

namespace Cl
open PySem PySem.Spec PyProof.Rows L2 Sv
def BagL (x y z : Int) (cells : List Int) : List D := [.int x, .int y, .int z, .lst (cells.map .int)]
def BagR (x y z : Int) (cells : List Int) : Prop := 0 ≤ x ∧ 0 ≤ y ∧ y < 2147483647 ∧ 0 ≤ z ∧ ∀ i ∈ cells, 0 ≤ i
def BagOk (c : Cell) : Prop := ∃ (x y z : Int) (cells : List Int), c = .lst (BagL x y z cells) ∧ BagR x y z cells
def TTake : TR := fun m ds S K Y => ∃ b n c, ds = [.obj b, .int n] ∧ 0 < n ∧ n.natAbs.log2 < 4000 ∧ S b = some c ∧ BagOk c ∧ ∀ v c', 0 ≤ v → v < n → BagOk c' → K (.int v) (S.set b c')
section
variable {x y z v : Int} {cells : List Int}
theorem at0 : atI (BagL x y z cells) 0 = some (.int x) := rfl
theorem at1 : atI (BagL x y z cells) 1 = some (.int y) := rfl
theorem at2 : atI (BagL x y z cells) 2 = some (.int z) := rfl
theorem at3 : atI (BagL x y z cells) 3 = some (.lst (cells.map .int)) := rfl
theorem se0 : (BagL x y z cells).set 0 (.int v) = BagL v y z cells := rfl
theorem se1 : (BagL x y z cells).set 1 (.int v) = BagL x v z cells := rfl
theorem se2 : (BagL x y z cells).set 2 (.int v) = BagL x y v cells := rfl
end
theorem me_take {hot : Bool} {G : Option (Addr × Obj) → Gs} {n : SN} (hN : n.N.length = 6) : Meets n G 2 hot TTake b5 := by
  intro m hm ds S K Y h
  obtain ⟨b, n0, c, rfl, hn, hn2, hb, ⟨x, y, z, cells, rfl, hx, hy, hy2, hz, hc⟩, hK⟩ := h
  refine ⟨rfl, ?_⟩
  rw [hN]
  show denSs (G m) b5 [some (.obj b), some (.int n0), none, none, none, none] S _ _
  unfold b5
  have hb0 := hb
  refine ss_cut (fun δ1 S1 => ∃ x y z c1, BagR x y z cells ∧ S1 = S.set b (.lst (BagL x y z cells)) ∧ δ1 = [some (.obj b), some (.int n0), c1, none, none, none]) ?_ ?_
  · (repeat (first | ((with_reducible apply d_var); focus exact rfl) | ((with_reducible apply t_var); focus exact rfl) | (with_reducible apply d_int) | (with_reducible apply d_str) | (with_reducible apply d_bl) | (with_reducible apply d_non) | (with_reducible apply d_bin) | (with_reducible apply d_cmp) | (with_reducible apply d_ix) | (with_reducible apply d_lst) | (with_reducible apply d_lstC) | (with_reducible apply d_tup) | (with_reducible apply d_sl) | (with_reducible apply d_nn) | (with_reducible apply d_ss) | (with_reducible apply d_nt) | (with_reducible apply d_and) | (with_reducible apply d_or) | (with_reducible apply d_and1) | (with_reducible apply d_or1) | (with_reducible apply d_and2) | (with_reducible apply d_or2) | (with_reducible apply d_ife) | (with_reducible apply d_neg) | (with_reducible apply d_isi) | (with_reducible apply d_fld) | (with_reducible apply d_glb) | (with_reducible apply l_cons) | (with_reducible apply l_nil) | (with_reducible apply int_ex) | (with_reducible apply bl_ex) | (with_reducible apply dq_len) | (with_reducible apply dq_abs) | (with_reducible apply t_nt) | (with_reducible apply t_and) | (with_reducible apply t_or) | (with_reducible apply t_and1) | (with_reducible apply t_or1) | (with_reducible apply t_and2) | (with_reducible apply t_or2) | (with_reducible apply t_cmp) | (with_reducible apply t_chn) | (with_reducible apply t_ix) | (with_reducible apply t_isi) | (with_reducible apply t_fld) | (with_reducible apply tr_bl) | (with_reducible apply o_add) | (with_reducible apply o_sub) | (with_reducible apply c_eqI) | (with_reducible apply c_neI) | (with_reducible apply c_ltI) | (with_reducible apply c_leI) | (with_reducible apply c_gtI) | (with_reducible apply c_geI) | (with_reducible apply ss_cons) | (with_reducible apply ss_nil) | (with_reducible apply st_exp) | (with_reducible apply st_asg) | (with_reducible apply st_asl) | (with_reducible apply st_sti) | (with_reducible apply st_agi) | (with_reducible apply st_ifs) | (with_reducible apply st_ret) | (with_reducible apply st_retN) | (with_reducible apply st_pas) | (with_reducible apply aug_i) | (with_reducible apply abs_i) | (with_reducible apply sl_l) | (with_reducible apply len_l) | (with_reducible apply len_t) | (with_reducible refine And.intro (a := _ ≤ sizeLine) (by rw [sizeLine_eq]; simp only [List.length_cons, List.length_nil, List.length_append, List.length_map]; omega) ?_) | (with_reducible refine o_addL (by rw [sizeLine_eq]; simp only [List.length_cons, List.length_nil, List.length_append, List.length_map]; omega) ?_) | (dsimp only)))
    refine ix_o hb at0 ?_
    (repeat (first | ((with_reducible apply d_var); focus exact rfl) | ((with_reducible apply t_var); focus exact rfl) | (with_reducible apply d_int) | (with_reducible apply d_str) | (with_reducible apply d_bl) | (with_reducible apply d_non) | (with_reducible apply d_bin) | (with_reducible apply d_cmp) | (with_reducible apply d_ix) | (with_reducible apply d_lst) | (with_reducible apply d_lstC) | (with_reducible apply d_tup) | (with_reducible apply d_sl) | (with_reducible apply d_nn) | (with_reducible apply d_ss) | (with_reducible apply d_nt) | (with_reducible apply d_and) | (with_reducible apply d_or) | (with_reducible apply d_and1) | (with_reducible apply d_or1) | (with_reducible apply d_and2) | (with_reducible apply d_or2) | (with_reducible apply d_ife) | (with_reducible apply d_neg) | (with_reducible apply d_isi) | (with_reducible apply d_fld) | (with_reducible apply d_glb) | (with_reducible apply l_cons) | (with_reducible apply l_nil) | (with_reducible apply int_ex) | (with_reducible apply bl_ex) | (with_reducible apply dq_len) | (with_reducible apply dq_abs) | (with_reducible apply t_nt) | (with_reducible apply t_and) | (with_reducible apply t_or) | (with_reducible apply t_and1) | (with_reducible apply t_or1) | (with_reducible apply t_and2) | (with_reducible apply t_or2) | (with_reducible apply t_cmp) | (with_reducible apply t_chn) | (with_reducible apply t_ix) | (with_reducible apply t_isi) | (with_reducible apply t_fld) | (with_reducible apply tr_bl) | (with_reducible apply o_add) | (with_reducible apply o_sub) | (with_reducible apply c_eqI) | (with_reducible apply c_neI) | (with_reducible apply c_ltI) | (with_reducible apply c_leI) | (with_reducible apply c_gtI) | (with_reducible apply c_geI) | (with_reducible apply ss_cons) | (with_reducible apply ss_nil) | (with_reducible apply st_exp) | (with_reducible apply st_asg) | (with_reducible apply st_asl) | (with_reducible apply st_sti) | (with_reducible apply st_agi) | (with_reducible apply st_ifs) | (with_reducible apply st_ret) | (with_reducible apply st_retN) | (with_reducible apply st_pas) | (with_reducible apply aug_i) | (with_reducible apply abs_i) | (with_reducible apply sl_l) | (with_reducible apply len_l) | (with_reducible apply len_t) | (with_reducible refine And.intro (a := _ ≤ sizeLine) (by rw [sizeLine_eq]; simp only [List.length_cons, List.length_nil, List.length_append, List.length_map]; omega) ?_) | (with_reducible refine o_addL (by rw [sizeLine_eq]; simp only [List.length_cons, List.length_nil, List.length_append, List.length_map]; omega) ?_) | (dsimp only)))
    split
    · (repeat (first | ((with_reducible apply d_var); focus exact rfl) | ((with_reducible apply t_var); focus exact rfl) | (with_reducible apply d_int) | (with_reducible apply d_str) | (with_reducible apply d_bl) | (with_reducible apply d_non) | (with_reducible apply d_bin) | (with_reducible apply d_cmp) | (with_reducible apply d_ix) | (with_reducible apply d_lst) | (with_reducible apply d_lstC) | (with_reducible apply d_tup) | (with_reducible apply d_sl) | (with_reducible apply d_nn) | (with_reducible apply d_ss) | (with_reducible apply d_nt) | (with_reducible apply d_and) | (with_reducible apply d_or) | (with_reducible apply d_and1) | (with_reducible apply d_or1) | (with_reducible apply d_and2) | (with_reducible apply d_or2) | (with_reducible apply d_ife) | (with_reducible apply d_neg) | (with_reducible apply d_isi) | (with_reducible apply d_fld) | (with_reducible apply d_glb) | (with_reducible apply l_cons) | (with_reducible apply l_nil) | (with_reducible apply int_ex) | (with_reducible apply bl_ex) | (with_reducible apply dq_len) | (with_reducible apply dq_abs) | (with_reducible apply t_nt) | (with_reducible apply t_and) | (with_reducible apply t_or) | (with_reducible apply t_and1) | (with_reducible apply t_or1) | (with_reducible apply t_and2) | (with_reducible apply t_or2) | (with_reducible apply t_cmp) | (with_reducible apply t_chn) | (with_reducible apply t_ix) | (with_reducible apply t_isi) | (with_reducible apply t_fld) | (with_reducible apply tr_bl) | (with_reducible apply o_add) | (with_reducible apply o_sub) | (with_reducible apply c_eqI) | (with_reducible apply c_neI) | (with_reducible apply c_ltI) | (with_reducible apply c_leI) | (with_reducible apply c_gtI) | (with_reducible apply c_geI) | (with_reducible apply ss_cons) | (with_reducible apply ss_nil) | (with_reducible apply st_exp) | (with_reducible apply st_asg) | (with_reducible apply st_asl) | (with_reducible apply st_sti) | (with_reducible apply st_agi) | (with_reducible apply st_ifs) | (with_reducible apply st_ret) | (with_reducible apply st_retN) | (with_reducible apply st_pas) | (with_reducible apply aug_i) | (with_reducible apply abs_i) | (with_reducible apply sl_l) | (with_reducible apply len_l) | (with_reducible apply len_t) | (with_reducible refine And.intro (a := _ ≤ sizeLine) (by rw [sizeLine_eq]; simp only [List.length_cons, List.length_nil, List.length_append, List.length_map]; omega) ?_) | (with_reducible refine o_addL (by rw [sizeLine_eq]; simp only [List.length_cons, List.length_nil, List.length_append, List.length_map]; omega) ?_) | (dsimp only)))
      refine ss_cut (fun δ1 S1 => ∃ w, 0 ≤ w ∧ S1 = S ∧ δ1 = [some (.obj b), some (.int n0), some (.int w), none, none, none]) ?_ ?_
      · (repeat (first | ((with_reducible apply d_var); focus exact rfl) | ((with_reducible apply t_var); focus exact rfl) | (with_reducible apply d_int) | (with_reducible apply d_str) | (with_reducible apply d_bl) | (with_reducible apply d_non) | (with_reducible apply d_bin) | (with_reducible apply d_cmp) | (with_reducible apply d_ix) | (with_reducible apply d_lst) | (with_reducible apply d_lstC) | (with_reducible apply d_tup) | (with_reducible apply d_sl) | (with_reducible apply d_nn) | (with_reducible apply d_ss) | (with_reducible apply d_nt) | (with_reducible apply d_and) | (with_reducible apply d_or) | (with_reducible apply d_and1) | (with_reducible apply d_or1) | (with_reducible apply d_and2) | (with_reducible apply d_or2) | (with_reducible apply d_ife) | (with_reducible apply d_neg) | (with_reducible apply d_isi) | (with_reducible apply d_fld) | (with_reducible apply d_glb) | (with_reducible apply l_cons) | (with_reducible apply l_nil) | (with_reducible apply int_ex) | (with_reducible apply bl_ex) | (with_reducible apply dq_len) | (with_reducible apply dq_abs) | (with_reducible apply t_nt) | (with_reducible apply t_and) | (with_reducible apply t_or) | (with_reducible apply t_and1) | (with_reducible apply t_or1) | (with_reducible apply t_and2) | (with_reducible apply t_or2) | (with_reducible apply t_cmp) | (with_reducible apply t_chn) | (with_reducible apply t_ix) | (with_reducible apply t_isi) | (with_reducible apply t_fld) | (with_reducible apply tr_bl) | (with_reducible apply o_add) | (with_reducible apply o_sub) | (with_reducible apply c_eqI) | (with_reducible apply c_neI) | (with_reducible apply c_ltI) | (with_reducible apply c_leI) | (with_reducible apply c_gtI) | (with_reducible apply c_geI) | (with_reducible apply ss_cons) | (with_reducible apply ss_nil) | (with_reducible apply st_exp) | (with_reducible apply st_asg) | (with_reducible apply st_asl) | (with_reducible apply st_sti) | (with_reducible apply st_agi) | (with_reducible apply st_ifs) | (with_reducible apply st_ret) | (with_reducible apply st_retN) | (with_reducible apply st_pas) | (with_reducible apply aug_i) | (with_reducible apply abs_i) | (with_reducible apply sl_l) | (with_reducible apply len_l) | (with_reducible apply len_t) | (with_reducible refine And.intro (a := _ ≤ sizeLine) (by rw [sizeLine_eq]; simp only [List.length_cons, List.length_nil, List.length_append, List.length_map]; omega) ?_) | (with_reducible refine o_addL (by rw [sizeLine_eq]; simp only [List.length_cons, List.length_nil, List.length_append, List.length_map]; omega) ?_) | (dsimp only)))
        refine ix_o hb at2 ?_
        (repeat (first | ((with_reducible apply d_var); focus exact rfl) | ((with_reducible apply t_var); focus exact rfl) | (with_reducible apply d_int) | (with_reducible apply d_str) | (with_reducible apply d_bl) | (with_reducible apply d_non) | (with_reducible apply d_bin) | (with_reducible apply d_cmp) | (with_reducible apply d_ix) | (with_reducible apply d_lst) | (with_reducible apply d_lstC) | (with_reducible apply d_tup) | (with_reducible apply d_sl) | (with_reducible apply d_nn) | (with_reducible apply d_ss) | (with_reducible apply d_nt) | (with_reducible apply d_and) | (with_reducible apply d_or) | (with_reducible apply d_and1) | (with_reducible apply d_or1) | (with_reducible apply d_and2) | (with_reducible apply d_or2) | (with_reducible apply d_ife) | (with_reducible apply d_neg) | (with_reducible apply d_isi) | (with_reducible apply d_fld) | (with_reducible apply d_glb) | (with_reducible apply l_cons) | (with_reducible apply l_nil) | (with_reducible apply int_ex) | (with_reducible apply bl_ex) | (with_reducible apply dq_len) | (with_reducible apply dq_abs) | (with_reducible apply t_nt) | (with_reducible apply t_and) | (with_reducible apply t_or) | (with_reducible apply t_and1) | (with_reducible apply t_or1) | (with_reducible apply t_and2) | (with_reducible apply t_or2) | (with_reducible apply t_cmp) | (with_reducible apply t_chn) | (with_reducible apply t_ix) | (with_reducible apply t_isi) | (with_reducible apply t_fld) | (with_reducible apply tr_bl) | (with_reducible apply o_add) | (with_reducible apply o_sub) | (with_reducible apply c_eqI) | (with_reducible apply c_neI) | (with_reducible apply c_ltI) | (with_reducible apply c_leI) | (with_reducible apply c_gtI) | (with_reducible apply c_geI) | (with_reducible apply ss_cons) | (with_reducible apply ss_nil) | (with_reducible apply st_exp) | (with_reducible apply st_asg) | (with_reducible apply st_asl) | (with_reducible apply st_sti) | (with_reducible apply st_agi) | (with_reducible apply st_ifs) | (with_reducible apply st_ret) | (with_reducible apply st_retN) | (with_reducible apply st_pas) | (with_reducible apply aug_i) | (with_reducible apply abs_i) | (with_reducible apply sl_l) | (with_reducible apply len_l) | (with_reducible apply len_t) | (with_reducible refine And.intro (a := _ ≤ sizeLine) (by rw [sizeLine_eq]; simp only [List.length_cons, List.length_nil, List.length_append, List.length_map]; omega) ?_) | (with_reducible refine o_addL (by rw [sizeLine_eq]; simp only [List.length_cons, List.length_nil, List.length_append, List.length_map]; omega) ?_) | (dsimp only)))
        refine ix_o hb at3 ?_
        (repeat (first | ((with_reducible apply d_var); focus exact rfl) | ((with_reducible apply t_var); focus exact rfl) | (with_reducible apply d_int) | (with_reducible apply d_str) | (with_reducible apply d_bl) | (with_reducible apply d_non) | (with_reducible apply d_bin) | (with_reducible apply d_cmp) | (with_reducible apply d_ix) | (with_reducible apply d_lst) | (with_reducible apply d_lstC) | (with_reducible apply d_tup) | (with_reducible apply d_sl) | (with_reducible apply d_nn) | (with_reducible apply d_ss) | (with_reducible apply d_nt) | (with_reducible apply d_and) | (with_reducible apply d_or) | (with_reducible apply d_and1) | (with_reducible apply d_or1) | (with_reducible apply d_and2) | (with_reducible apply d_or2) | (with_reducible apply d_ife) | (with_reducible apply d_neg) | (with_reducible apply d_isi) | (with_reducible apply d_fld) | (with_reducible apply d_glb) | (with_reducible apply l_cons) | (with_reducible apply l_nil) | (with_reducible apply int_ex) | (with_reducible apply bl_ex) | (with_reducible apply dq_len) | (with_reducible apply dq_abs) | (with_reducible apply t_nt) | (with_reducible apply t_and) | (with_reducible apply t_or) | (with_reducible apply t_and1) | (with_reducible apply t_or1) | (with_reducible apply t_and2) | (with_reducible apply t_or2) | (with_reducible apply t_cmp) | (with_reducible apply t_chn) | (with_reducible apply t_ix) | (with_reducible apply t_isi) | (with_reducible apply t_fld) | (with_reducible apply tr_bl) | (with_reducible apply o_add) | (with_reducible apply o_sub) | (with_reducible apply c_eqI) | (with_reducible apply c_neI) | (with_reducible apply c_ltI) | (with_reducible apply c_leI) | (with_reducible apply c_gtI) | (with_reducible apply c_geI) | (with_reducible apply ss_cons) | (with_reducible apply ss_nil) | (with_reducible apply st_exp) | (with_reducible apply st_asg) | (with_reducible apply st_asl) | (with_reducible apply st_sti) | (with_reducible apply st_agi) | (with_reducible apply st_ifs) | (with_reducible apply st_ret) | (with_reducible apply st_retN) | (with_reducible apply st_pas) | (with_reducible apply aug_i) | (with_reducible apply abs_i) | (with_reducible apply sl_l) | (with_reducible apply len_l) | (with_reducible apply len_t) | (with_reducible refine And.intro (a := _ ≤ sizeLine) (by rw [sizeLine_eq]; simp only [List.length_cons, List.length_nil, List.length_append, List.length_map]; omega) ?_) | (with_reducible refine o_addL (by rw [sizeLine_eq]; simp only [List.length_cons, List.length_nil, List.length_append, List.length_map]; omega) ?_) | (dsimp only)))
        split
        · rename_i e
          have e : z < (cells.length : Int) := by simpa using e
          (repeat (first | ((with_reducible apply d_var); focus exact rfl) | ((with_reducible apply t_var); focus exact rfl) | (with_reducible apply d_int) | (with_reducible apply d_str) | (with_reducible apply d_bl) | (with_reducible apply d_non) | (with_reducible apply d_bin) | (with_reducible apply d_cmp) | (with_reducible apply d_ix) | (with_reducible apply d_lst) | (with_reducible apply d_lstC) | (with_reducible apply d_tup) | (with_reducible apply d_sl) | (with_reducible apply d_nn) | (with_reducible apply d_ss) | (with_reducible apply d_nt) | (with_reducible apply d_and) | (with_reducible apply d_or) | (with_reducible apply d_and1) | (with_reducible apply d_or1) | (with_reducible apply d_and2) | (with_reducible apply d_or2) | (with_reducible apply d_ife) | (with_reducible apply d_neg) | (with_reducible apply d_isi) | (with_reducible apply d_fld) | (with_reducible apply d_glb) | (with_reducible apply l_cons) | (with_reducible apply l_nil) | (with_reducible apply int_ex) | (with_reducible apply bl_ex) | (with_reducible apply dq_len) | (with_reducible apply dq_abs) | (with_reducible apply t_nt) | (with_reducible apply t_and) | (with_reducible apply t_or) | (with_reducible apply t_and1) | (with_reducible apply t_or1) | (with_reducible apply t_and2) | (with_reducible apply t_or2) | (with_reducible apply t_cmp) | (with_reducible apply t_chn) | (with_reducible apply t_ix) | (with_reducible apply t_isi) | (with_reducible apply t_fld) | (with_reducible apply tr_bl) | (with_reducible apply o_add) | (with_reducible apply o_sub) | (with_reducible apply c_eqI) | (with_reducible apply c_neI) | (with_reducible apply c_ltI) | (with_reducible apply c_leI) | (with_reducible apply c_gtI) | (with_reducible apply c_geI) | (with_reducible apply ss_cons) | (with_reducible apply ss_nil) | (with_reducible apply st_exp) | (with_reducible apply st_asg) | (with_reducible apply st_asl) | (with_reducible apply st_sti) | (with_reducible apply st_agi) | (with_reducible apply st_ifs) | (with_reducible apply st_ret) | (with_reducible apply st_retN) | (with_reducible apply st_pas) | (with_reducible apply aug_i) | (with_reducible apply abs_i) | (with_reducible apply sl_l) | (with_reducible apply len_l) | (with_reducible apply len_t) | (with_reducible refine And.intro (a := _ ≤ sizeLine) (by rw [sizeLine_eq]; simp only [List.length_cons, List.length_nil, List.length_append, List.length_map]; omega) ?_) | (with_reducible refine o_addL (by rw [sizeLine_eq]; simp only [List.length_cons, List.length_nil, List.length_append, List.length_map]; omega) ?_) | (dsimp only)))
          refine ix_o hb at3 ?_
          (repeat (first | ((with_reducible apply d_var); focus exact rfl) | ((with_reducible apply t_var); focus exact rfl) | (with_reducible apply d_int) | (with_reducible apply d_str) | (with_reducible apply d_bl) | (with_reducible apply d_non) | (with_reducible apply d_bin) | (with_reducible apply d_cmp) | (with_reducible apply d_ix) | (with_reducible apply d_lst) | (with_reducible apply d_lstC) | (with_reducible apply d_tup) | (with_reducible apply d_sl) | (with_reducible apply d_nn) | (with_reducible apply d_ss) | (with_reducible apply d_nt) | (with_reducible apply d_and) | (with_reducible apply d_or) | (with_reducible apply d_and1) | (with_reducible apply d_or1) | (with_reducible apply d_and2) | (with_reducible apply d_or2) | (with_reducible apply d_ife) | (with_reducible apply d_neg) | (with_reducible apply d_isi) | (with_reducible apply d_fld) | (with_reducible apply d_glb) | (with_reducible apply l_cons) | (with_reducible apply l_nil) | (with_reducible apply int_ex) | (with_reducible apply bl_ex) | (with_reducible apply dq_len) | (with_reducible apply dq_abs) | (with_reducible apply t_nt) | (with_reducible apply t_and) | (with_reducible apply t_or) | (with_reducible apply t_and1) | (with_reducible apply t_or1) | (with_reducible apply t_and2) | (with_reducible apply t_or2) | (with_reducible apply t_cmp) | (with_reducible apply t_chn) | (with_reducible apply t_ix) | (with_reducible apply t_isi) | (with_reducible apply t_fld) | (with_reducible apply tr_bl) | (with_reducible apply o_add) | (with_reducible apply o_sub) | (with_reducible apply c_eqI) | (with_reducible apply c_neI) | (with_reducible apply c_ltI) | (with_reducible apply c_leI) | (with_reducible apply c_gtI) | (with_reducible apply c_geI) | (with_reducible apply ss_cons) | (with_reducible apply ss_nil) | (with_reducible apply st_exp) | (with_reducible apply st_asg) | (with_reducible apply st_asl) | (with_reducible apply st_sti) | (with_reducible apply st_agi) | (with_reducible apply st_ifs) | (with_reducible apply st_ret) | (with_reducible apply st_retN) | (with_reducible apply st_pas) | (with_reducible apply aug_i) | (with_reducible apply abs_i) | (with_reducible apply sl_l) | (with_reducible apply len_l) | (with_reducible apply len_t) | (with_reducible refine And.intro (a := _ ≤ sizeLine) (by rw [sizeLine_eq]; simp only [List.length_cons, List.length_nil, List.length_append, List.length_map]; omega) ?_) | (with_reducible refine o_addL (by rw [sizeLine_eq]; simp only [List.length_cons, List.length_nil, List.length_append, List.length_map]; omega) ?_) | (dsimp only)))
          refine ix_o hb at2 ?_
          obtain ⟨k, rfl⟩ := Int.eq_ofNat_of_zero_le hz
          have hk : k < cells.length := by omega
          refine ix_l (atI_map (List.getElem?_eq_getElem hk)) ?_
          (repeat (first | ((with_reducible apply d_var); focus exact rfl) | ((with_reducible apply t_var); focus exact rfl) | (with_reducible apply d_int) | (with_reducible apply d_str) | (with_reducible apply d_bl) | (with_reducible apply d_non) | (with_reducible apply d_bin) | (with_reducible apply d_cmp) | (with_reducible apply d_ix) | (with_reducible apply d_lst) | (with_reducible apply d_lstC) | (with_reducible apply d_tup) | (with_reducible apply d_sl) | (with_reducible apply d_nn) | (with_reducible apply d_ss) | (with_reducible apply d_nt) | (with_reducible apply d_and) | (with_reducible apply d_or) | (with_reducible apply d_and1) | (with_reducible apply d_or1) | (with_reducible apply d_and2) | (with_reducible apply d_or2) | (with_reducible apply d_ife) | (with_reducible apply d_neg) | (with_reducible apply d_isi) | (with_reducible apply d_fld) | (with_reducible apply d_glb) | (with_reducible apply l_cons) | (with_reducible apply l_nil) | (with_reducible apply int_ex) | (with_reducible apply bl_ex) | (with_reducible apply dq_len) | (with_reducible apply dq_abs) | (with_reducible apply t_nt) | (with_reducible apply t_and) | (with_reducible apply t_or) | (with_reducible apply t_and1) | (with_reducible apply t_or1) | (with_reducible apply t_and2) | (with_reducible apply t_or2) | (with_reducible apply t_cmp) | (with_reducible apply t_chn) | (with_reducible apply t_ix) | (with_reducible apply t_isi) | (with_reducible apply t_fld) | (with_reducible apply tr_bl) | (with_reducible apply o_add) | (with_reducible apply o_sub) | (with_reducible apply c_eqI) | (with_reducible apply c_neI) | (with_reducible apply c_ltI) | (with_reducible apply c_leI) | (with_reducible apply c_gtI) | (with_reducible apply c_geI) | (with_reducible apply ss_cons) | (with_reducible apply ss_nil) | (with_reducible apply st_exp) | (with_reducible apply st_asg) | (with_reducible apply st_asl) | (with_reducible apply st_sti) | (with_reducible apply st_agi) | (with_reducible apply st_ifs) | (with_reducible apply st_ret) | (with_reducible apply st_retN) | (with_reducible apply st_pas) | (with_reducible apply aug_i) | (with_reducible apply abs_i) | (with_reducible apply sl_l) | (with_reducible apply len_l) | (with_reducible apply len_t) | (with_reducible refine And.intro (a := _ ≤ sizeLine) (by rw [sizeLine_eq]; simp only [List.length_cons, List.length_nil, List.length_append, List.length_map]; omega) ?_) | (with_reducible refine o_addL (by rw [sizeLine_eq]; simp only [List.length_cons, List.length_nil, List.length_append, List.length_map]; omega) ?_) | (dsimp only)))
          exact ⟨cells[k], hc _ (List.getElem_mem hk), rfl, rfl⟩
        · (repeat (first | ((with_reducible apply d_var); focus exact rfl) | ((with_reducible apply t_var); focus exact rfl) | (with_reducible apply d_int) | (with_reducible apply d_str) | (with_reducible apply d_bl) | (with_reducible apply d_non) | (with_reducible apply d_bin) | (with_reducible apply d_cmp) | (with_reducible apply d_ix) | (with_reducible apply d_lst) | (with_reducible apply d_lstC) | (with_reducible apply d_tup) | (with_reducible apply d_sl) | (with_reducible apply d_nn) | (with_reducible apply d_ss) | (with_reducible apply d_nt) | (with_reducible apply d_and) | (with_reducible apply d_or) | (with_reducible apply d_and1) | (with_reducible apply d_or1) | (with_reducible apply d_and2) | (with_reducible apply d_or2) | (with_reducible apply d_ife) | (with_reducible apply d_neg) | (with_reducible apply d_isi) | (with_reducible apply d_fld) | (with_reducible apply d_glb) | (with_reducible apply l_cons) | (with_reducible apply l_nil) | (with_reducible apply int_ex) | (with_reducible apply bl_ex) | (with_reducible apply dq_len) | (with_reducible apply dq_abs) | (with_reducible apply t_nt) | (with_reducible apply t_and) | (with_reducible apply t_or) | (with_reducible apply t_and1) | (with_reducible apply t_or1) | (with_reducible apply t_and2) | (with_reducible apply t_or2) | (with_reducible apply t_cmp) | (with_reducible apply t_chn) | (with_reducible apply t_ix) | (with_reducible apply t_isi) | (with_reducible apply t_fld) | (with_reducible apply tr_bl) | (with_reducible apply o_add) | (with_reducible apply o_sub) | (with_reducible apply c_eqI) | (with_reducible apply c_neI) | (with_reducible apply c_ltI) | (with_reducible apply c_leI) | (with_reducible apply c_gtI) | (with_reducible apply c_geI) | (with_reducible apply ss_cons) | (with_reducible apply ss_nil) | (with_reducible apply st_exp) | (with_reducible apply st_asg) | (with_reducible apply st_asl) | (with_reducible apply st_sti) | (with_reducible apply st_agi) | (with_reducible apply st_ifs) | (with_reducible apply st_ret) | (with_reducible apply st_retN) | (with_reducible apply st_pas) | (with_reducible apply aug_i) | (with_reducible apply abs_i) | (with_reducible apply sl_l) | (with_reducible apply len_l) | (with_reducible apply len_t) | (with_reducible refine And.intro (a := _ ≤ sizeLine) (by rw [sizeLine_eq]; simp only [List.length_cons, List.length_nil, List.length_append, List.length_map]; omega) ?_) | (with_reducible refine o_addL (by rw [sizeLine_eq]; simp only [List.length_cons, List.length_nil, List.length_append, List.length_map]; omega) ?_) | (dsimp only)))
          exact ⟨0, by omega, rfl, rfl⟩
      · rintro δ1 S1 ⟨w, hw, hS, rfl⟩
        rw [hS]
        (repeat (first | ((with_reducible apply d_var); focus exact rfl) | ((with_reducible apply t_var); focus exact rfl) | (with_reducible apply d_int) | (with_reducible apply d_str) | (with_reducible apply d_bl) | (with_reducible apply d_non) | (with_reducible apply d_bin) | (with_reducible apply d_cmp) | (with_reducible apply d_ix) | (with_reducible apply d_lst) | (with_reducible apply d_lstC) | (with_reducible apply d_tup) | (with_reducible apply d_sl) | (with_reducible apply d_nn) | (with_reducible apply d_ss) | (with_reducible apply d_nt) | (with_reducible apply d_and) | (with_reducible apply d_or) | (with_reducible apply d_and1) | (with_reducible apply d_or1) | (with_reducible apply d_and2) | (with_reducible apply d_or2) | (with_reducible apply d_ife) | (with_reducible apply d_neg) | (with_reducible apply d_isi) | (with_reducible apply d_fld) | (with_reducible apply d_glb) | (with_reducible apply l_cons) | (with_reducible apply l_nil) | (with_reducible apply int_ex) | (with_reducible apply bl_ex) | (with_reducible apply dq_len) | (with_reducible apply dq_abs) | (with_reducible apply t_nt) | (with_reducible apply t_and) | (with_reducible apply t_or) | (with_reducible apply t_and1) | (with_reducible apply t_or1) | (with_reducible apply t_and2) | (with_reducible apply t_or2) | (with_reducible apply t_cmp) | (with_reducible apply t_chn) | (with_reducible apply t_ix) | (with_reducible apply t_isi) | (with_reducible apply t_fld) | (with_reducible apply tr_bl) | (with_reducible apply o_add) | (with_reducible apply o_sub) | (with_reducible apply c_eqI) | (with_reducible apply c_neI) | (with_reducible apply c_ltI) | (with_reducible apply c_leI) | (with_reducible apply c_gtI) | (with_reducible apply c_geI) | (with_reducible apply ss_cons) | (with_reducible apply ss_nil) | (with_reducible apply st_exp) | (with_reducible apply st_asg) | (with_reducible apply st_asl) | (with_reducible apply st_sti) | (with_reducible apply st_agi) | (with_reducible apply st_ifs) | (with_reducible apply st_ret) | (with_reducible apply st_retN) | (with_reducible apply st_pas) | (with_reducible apply aug_i) | (with_reducible apply abs_i) | (with_reducible apply sl_l) | (with_reducible apply len_l) | (with_reducible apply len_t) | (with_reducible refine And.intro (a := _ ≤ sizeLine) (by rw [sizeLine_eq]; simp only [List.length_cons, List.length_nil, List.length_append, List.length_map]; omega) ?_) | (with_reducible refine o_addL (by rw [sizeLine_eq]; simp only [List.length_cons, List.length_nil, List.length_append, List.length_map]; omega) ?_) | (dsimp only)))
        refine get_o hb at2 ?_
        (repeat (first | ((with_reducible apply d_var); focus exact rfl) | ((with_reducible apply t_var); focus exact rfl) | (with_reducible apply d_int) | (with_reducible apply d_str) | (with_reducible apply d_bl) | (with_reducible apply d_non) | (with_reducible apply d_bin) | (with_reducible apply d_cmp) | (with_reducible apply d_ix) | (with_reducible apply d_lst) | (with_reducible apply d_lstC) | (with_reducible apply d_tup) | (with_reducible apply d_sl) | (with_reducible apply d_nn) | (with_reducible apply d_ss) | (with_reducible apply d_nt) | (with_reducible apply d_and) | (with_reducible apply d_or) | (with_reducible apply d_and1) | (with_reducible apply d_or1) | (with_reducible apply d_and2) | (with_reducible apply d_or2) | (with_reducible apply d_ife) | (with_reducible apply d_neg) | (with_reducible apply d_isi) | (with_reducible apply d_fld) | (with_reducible apply d_glb) | (with_reducible apply l_cons) | (with_reducible apply l_nil) | (with_reducible apply int_ex) | (with_reducible apply bl_ex) | (with_reducible apply dq_len) | (with_reducible apply dq_abs) | (with_reducible apply t_nt) | (with_reducible apply t_and) | (with_reducible apply t_or) | (with_reducible apply t_and1) | (with_reducible apply t_or1) | (with_reducible apply t_and2) | (with_reducible apply t_or2) | (with_reducible apply t_cmp) | (with_reducible apply t_chn) | (with_reducible apply t_ix) | (with_reducible apply t_isi) | (with_reducible apply t_fld) | (with_reducible apply tr_bl) | (with_reducible apply o_add) | (with_reducible apply o_sub) | (with_reducible apply c_eqI) | (with_reducible apply c_neI) | (with_reducible apply c_ltI) | (with_reducible apply c_leI) | (with_reducible apply c_gtI) | (with_reducible apply c_geI) | (with_reducible apply ss_cons) | (with_reducible apply ss_nil) | (with_reducible apply st_exp) | (with_reducible apply st_asg) | (with_reducible apply st_asl) | (with_reducible apply st_sti) | (with_reducible apply st_agi) | (with_reducible apply st_ifs) | (with_reducible apply st_ret) | (with_reducible apply st_retN) | (with_reducible apply st_pas) | (with_reducible apply aug_i) | (with_reducible apply abs_i) | (with_reducible apply sl_l) | (with_reducible apply len_l) | (with_reducible apply len_t) | (with_reducible refine And.intro (a := _ ≤ sizeLine) (by rw [sizeLine_eq]; simp only [List.length_cons, List.length_nil, List.length_append, List.length_map]; omega) ?_) | (with_reducible refine o_addL (by rw [sizeLine_eq]; simp only [List.length_cons, List.length_nil, List.length_append, List.length_map]; omega) ?_) | (dsimp only)))
        refine set_o hb rfl ?_
        (repeat (first | ((with_reducible apply d_var); focus exact rfl) | ((with_reducible apply t_var); focus exact rfl) | (with_reducible apply d_int) | (with_reducible apply d_str) | (with_reducible apply d_bl) | (with_reducible apply d_non) | (with_reducible apply d_bin) | (with_reducible apply d_cmp) | (with_reducible apply d_ix) | (with_reducible apply d_lst) | (with_reducible apply d_lstC) | (with_reducible apply d_tup) | (with_reducible apply d_sl) | (with_reducible apply d_nn) | (with_reducible apply d_ss) | (with_reducible apply d_nt) | (with_reducible apply d_and) | (with_reducible apply d_or) | (with_reducible apply d_and1) | (with_reducible apply d_or1) | (with_reducible apply d_and2) | (with_reducible apply d_or2) | (with_reducible apply d_ife) | (with_reducible apply d_neg) | (with_reducible apply d_isi) | (with_reducible apply d_fld) | (with_reducible apply d_glb) | (with_reducible apply l_cons) | (with_reducible apply l_nil) | (with_reducible apply int_ex) | (with_reducible apply bl_ex) | (with_reducible apply dq_len) | (with_reducible apply dq_abs) | (with_reducible apply t_nt) | (with_reducible apply t_and) | (with_reducible apply t_or) | (with_reducible apply t_and1) | (with_reducible apply t_or1) | (with_reducible apply t_and2) | (with_reducible apply t_or2) | (with_reducible apply t_cmp) | (with_reducible apply t_chn) | (with_reducible apply t_ix) | (with_reducible apply t_isi) | (with_reducible apply t_fld) | (with_reducible apply tr_bl) | (with_reducible apply o_add) | (with_reducible apply o_sub) | (with_reducible apply c_eqI) | (with_reducible apply c_neI) | (with_reducible apply c_ltI) | (with_reducible apply c_leI) | (with_reducible apply c_gtI) | (with_reducible apply c_geI) | (with_reducible apply ss_cons) | (with_reducible apply ss_nil) | (with_reducible apply st_exp) | (with_reducible apply st_asg) | (with_reducible apply st_asl) | (with_reducible apply st_sti) | (with_reducible apply st_agi) | (with_reducible apply st_ifs) | (with_reducible apply st_ret) | (with_reducible apply st_retN) | (with_reducible apply st_pas) | (with_reducible apply aug_i) | (with_reducible apply abs_i) | (with_reducible apply sl_l) | (with_reducible apply len_l) | (with_reducible apply len_t) | (with_reducible refine And.intro (a := _ ≤ sizeLine) (by rw [sizeLine_eq]; simp only [List.length_cons, List.length_nil, List.length_append, List.length_map]; omega) ?_) | (with_reducible refine o_addL (by rw [sizeLine_eq]; simp only [List.length_cons, List.length_nil, List.length_append, List.length_map]; omega) ?_) | (dsimp only)))
        refine ss_cut (fun δ1 S1 => ∃ x1, 0 ≤ x1 ∧ S1 = S.set b (.lst (BagL x1 y (z + 1) cells)) ∧ δ1 = [some (.obj b), some (.int n0), some (.int w), none, none, none]) ?_ ?_
        · (repeat (first | ((with_reducible apply d_var); focus exact rfl) | ((with_reducible apply t_var); focus exact rfl) | (with_reducible apply d_int) | (with_reducible apply d_str) | (with_reducible apply d_bl) | (with_reducible apply d_non) | (with_reducible apply d_bin) | (with_reducible apply d_cmp) | (with_reducible apply d_ix) | (with_reducible apply d_lst) | (with_reducible apply d_lstC) | (with_reducible apply d_tup) | (with_reducible apply d_sl) | (with_reducible apply d_nn) | (with_reducible apply d_ss) | (with_reducible apply d_nt) | (with_reducible apply d_and) | (with_reducible apply d_or) | (with_reducible apply d_and1) | (with_reducible apply d_or1) | (with_reducible apply d_and2) | (with_reducible apply d_or2) | (with_reducible apply d_ife) | (with_reducible apply d_neg) | (with_reducible apply d_isi) | (with_reducible apply d_fld) | (with_reducible apply d_glb) | (with_reducible apply l_cons) | (with_reducible apply l_nil) | (with_reducible apply int_ex) | (with_reducible apply bl_ex) | (with_reducible apply dq_len) | (with_reducible apply dq_abs) | (with_reducible apply t_nt) | (with_reducible apply t_and) | (with_reducible apply t_or) | (with_reducible apply t_and1) | (with_reducible apply t_or1) | (with_reducible apply t_and2) | (with_reducible apply t_or2) | (with_reducible apply t_cmp) | (with_reducible apply t_chn) | (with_reducible apply t_ix) | (with_reducible apply t_isi) | (with_reducible apply t_fld) | (with_reducible apply tr_bl) | (with_reducible apply o_add) | (with_reducible apply o_sub) | (with_reducible apply c_eqI) | (with_reducible apply c_neI) | (with_reducible apply c_ltI) | (with_reducible apply c_leI) | (with_reducible apply c_gtI) | (with_reducible apply c_geI) | (with_reducible apply ss_cons) | (with_reducible apply ss_nil) | (with_reducible apply st_exp) | (with_reducible apply st_asg) | (with_reducible apply st_asl) | (with_reducible apply st_sti) | (with_reducible apply st_agi) | (with_reducible apply st_ifs) | (with_reducible apply st_ret) | (with_reducible apply st_retN) | (with_reducible apply st_pas) | (with_reducible apply aug_i) | (with_reducible apply abs_i) | (with_reducible apply sl_l) | (with_reducible apply len_l) | (with_reducible apply len_t) | (with_reducible refine And.intro (a := _ ≤ sizeLine) (by rw [sizeLine_eq]; simp only [List.length_cons, List.length_nil, List.length_append, List.length_map]; omega) ?_) | (with_reducible refine o_addL (by rw [sizeLine_eq]; simp only [List.length_cons, List.length_nil, List.length_append, List.length_map]; omega) ?_) | (dsimp only)))
          split
          · (repeat (first | ((with_reducible apply d_var); focus exact rfl) | ((with_reducible apply t_var); focus exact rfl) | (with_reducible apply d_int) | (with_reducible apply d_str) | (with_reducible apply d_bl) | (with_reducible apply d_non) | (with_reducible apply d_bin) | (with_reducible apply d_cmp) | (with_reducible apply d_ix) | (with_reducible apply d_lst) | (with_reducible apply d_lstC) | (with_reducible apply d_tup) | (with_reducible apply d_sl) | (with_reducible apply d_nn) | (with_reducible apply d_ss) | (with_reducible apply d_nt) | (with_reducible apply d_and) | (with_reducible apply d_or) | (with_reducible apply d_and1) | (with_reducible apply d_or1) | (with_reducible apply d_and2) | (with_reducible apply d_or2) | (with_reducible apply d_ife) | (with_reducible apply d_neg) | (with_reducible apply d_isi) | (with_reducible apply d_fld) | (with_reducible apply d_glb) | (with_reducible apply l_cons) | (with_reducible apply l_nil) | (with_reducible apply int_ex) | (with_reducible apply bl_ex) | (with_reducible apply dq_len) | (with_reducible apply dq_abs) | (with_reducible apply t_nt) | (with_reducible apply t_and) | (with_reducible apply t_or) | (with_reducible apply t_and1) | (with_reducible apply t_or1) | (with_reducible apply t_and2) | (with_reducible apply t_or2) | (with_reducible apply t_cmp) | (with_reducible apply t_chn) | (with_reducible apply t_ix) | (with_reducible apply t_isi) | (with_reducible apply t_fld) | (with_reducible apply tr_bl) | (with_reducible apply o_add) | (with_reducible apply o_sub) | (with_reducible apply c_eqI) | (with_reducible apply c_neI) | (with_reducible apply c_ltI) | (with_reducible apply c_leI) | (with_reducible apply c_gtI) | (with_reducible apply c_geI) | (with_reducible apply ss_cons) | (with_reducible apply ss_nil) | (with_reducible apply st_exp) | (with_reducible apply st_asg) | (with_reducible apply st_asl) | (with_reducible apply st_sti) | (with_reducible apply st_agi) | (with_reducible apply st_ifs) | (with_reducible apply st_ret) | (with_reducible apply st_retN) | (with_reducible apply st_pas) | (with_reducible apply aug_i) | (with_reducible apply abs_i) | (with_reducible apply sl_l) | (with_reducible apply len_l) | (with_reducible apply len_t) | (with_reducible refine And.intro (a := _ ≤ sizeLine) (by rw [sizeLine_eq]; simp only [List.length_cons, List.length_nil, List.length_append, List.length_map]; omega) ?_) | (with_reducible refine o_addL (by rw [sizeLine_eq]; simp only [List.length_cons, List.length_nil, List.length_append, List.length_map]; omega) ?_) | (dsimp only)))
            refine set_o SS.set_same rfl ?_
            (repeat (first | ((with_reducible apply d_var); focus exact rfl) | ((with_reducible apply t_var); focus exact rfl) | (with_reducible apply d_int) | (with_reducible apply d_str) | (with_reducible apply d_bl) | (with_reducible apply d_non) | (with_reducible apply d_bin) | (with_reducible apply d_cmp) | (with_reducible apply d_ix) | (with_reducible apply d_lst) | (with_reducible apply d_lstC) | (with_reducible apply d_tup) | (with_reducible apply d_sl) | (with_reducible apply d_nn) | (with_reducible apply d_ss) | (with_reducible apply d_nt) | (with_reducible apply d_and) | (with_reducible apply d_or) | (with_reducible apply d_and1) | (with_reducible apply d_or1) | (with_reducible apply d_and2) | (with_reducible apply d_or2) | (with_reducible apply d_ife) | (with_reducible apply d_neg) | (with_reducible apply d_isi) | (with_reducible apply d_fld) | (with_reducible apply d_glb) | (with_reducible apply l_cons) | (with_reducible apply l_nil) | (with_reducible apply int_ex) | (with_reducible apply bl_ex) | (with_reducible apply dq_len) | (with_reducible apply dq_abs) | (with_reducible apply t_nt) | (with_reducible apply t_and) | (with_reducible apply t_or) | (with_reducible apply t_and1) | (with_reducible apply t_or1) | (with_reducible apply t_and2) | (with_reducible apply t_or2) | (with_reducible apply t_cmp) | (with_reducible apply t_chn) | (with_reducible apply t_ix) | (with_reducible apply t_isi) | (with_reducible apply t_fld) | (with_reducible apply tr_bl) | (with_reducible apply o_add) | (with_reducible apply o_sub) | (with_reducible apply c_eqI) | (with_reducible apply c_neI) | (with_reducible apply c_ltI) | (with_reducible apply c_leI) | (with_reducible apply c_gtI) | (with_reducible apply c_geI) | (with_reducible apply ss_cons) | (with_reducible apply ss_nil) | (with_reducible apply st_exp) | (with_reducible apply st_asg) | (with_reducible apply st_asl) | (with_reducible apply st_sti) | (with_reducible apply st_agi) | (with_reducible apply st_ifs) | (with_reducible apply st_ret) | (with_reducible apply st_retN) | (with_reducible apply st_pas) | (with_reducible apply aug_i) | (with_reducible apply abs_i) | (with_reducible apply sl_l) | (with_reducible apply len_l) | (with_reducible apply len_t) | (with_reducible refine And.intro (a := _ ≤ sizeLine) (by rw [sizeLine_eq]; simp only [List.length_cons, List.length_nil, List.length_append, List.length_map]; omega) ?_) | (with_reducible refine o_addL (by rw [sizeLine_eq]; simp only [List.length_cons, List.length_nil, List.length_append, List.length_map]; omega) ?_) | (dsimp only)))
            exact ⟨w, hw, by rw [SS.set_set]; rfl, rfl⟩
          · (repeat (first | ((with_reducible apply d_var); focus exact rfl) | ((with_reducible apply t_var); focus exact rfl) | (with_reducible apply d_int) | (with_reducible apply d_str) | (with_reducible apply d_bl) | (with_reducible apply d_non) | (with_reducible apply d_bin) | (with_reducible apply d_cmp) | (with_reducible apply d_ix) | (with_reducible apply d_lst) | (with_reducible apply d_lstC) | (with_reducible apply d_tup) | (with_reducible apply d_sl) | (with_reducible apply d_nn) | (with_reducible apply d_ss) | (with_reducible apply d_nt) | (with_reducible apply d_and) | (with_reducible apply d_or) | (with_reducible apply d_and1) | (with_reducible apply d_or1) | (with_reducible apply d_and2) | (with_reducible apply d_or2) | (with_reducible apply d_ife) | (with_reducible apply d_neg) | (with_reducible apply d_isi) | (with_reducible apply d_fld) | (with_reducible apply d_glb) | (with_reducible apply l_cons) | (with_reducible apply l_nil) | (with_reducible apply int_ex) | (with_reducible apply bl_ex) | (with_reducible apply dq_len) | (with_reducible apply dq_abs) | (with_reducible apply t_nt) | (with_reducible apply t_and) | (with_reducible apply t_or) | (with_reducible apply t_and1) | (with_reducible apply t_or1) | (with_reducible apply t_and2) | (with_reducible apply t_or2) | (with_reducible apply t_cmp) | (with_reducible apply t_chn) | (with_reducible apply t_ix) | (with_reducible apply t_isi) | (with_reducible apply t_fld) | (with_reducible apply tr_bl) | (with_reducible apply o_add) | (with_reducible apply o_sub) | (with_reducible apply c_eqI) | (with_reducible apply c_neI) | (with_reducible apply c_ltI) | (with_reducible apply c_leI) | (with_reducible apply c_gtI) | (with_reducible apply c_geI) | (with_reducible apply ss_cons) | (with_reducible apply ss_nil) | (with_reducible apply st_exp) | (with_reducible apply st_asg) | (with_reducible apply st_asl) | (with_reducible apply st_sti) | (with_reducible apply st_agi) | (with_reducible apply st_ifs) | (with_reducible apply st_ret) | (with_reducible apply st_retN) | (with_reducible apply st_pas) | (with_reducible apply aug_i) | (with_reducible apply abs_i) | (with_reducible apply sl_l) | (with_reducible apply len_l) | (with_reducible apply len_t) | (with_reducible refine And.intro (a := _ ≤ sizeLine) (by rw [sizeLine_eq]; simp only [List.length_cons, List.length_nil, List.length_append, List.length_map]; omega) ?_) | (with_reducible refine o_addL (by rw [sizeLine_eq]; simp only [List.length_cons, List.length_nil, List.length_append, List.length_map]; omega) ?_) | (dsimp only)))
            exact ⟨x, hx, rfl, rfl⟩
        · rintro δ1 S1 ⟨x1, hx1, rfl, rfl⟩
          (repeat (first | ((with_reducible apply d_var); focus exact rfl) | ((with_reducible apply t_var); focus exact rfl) | (with_reducible apply d_int) | (with_reducible apply d_str) | (with_reducible apply d_bl) | (with_reducible apply d_non) | (with_reducible apply d_bin) | (with_reducible apply d_cmp) | (with_reducible apply d_ix) | (with_reducible apply d_lst) | (with_reducible apply d_lstC) | (with_reducible apply d_tup) | (with_reducible apply d_sl) | (with_reducible apply d_nn) | (with_reducible apply d_ss) | (with_reducible apply d_nt) | (with_reducible apply d_and) | (with_reducible apply d_or) | (with_reducible apply d_and1) | (with_reducible apply d_or1) | (with_reducible apply d_and2) | (with_reducible apply d_or2) | (with_reducible apply d_ife) | (with_reducible apply d_neg) | (with_reducible apply d_isi) | (with_reducible apply d_fld) | (with_reducible apply d_glb) | (with_reducible apply l_cons) | (with_reducible apply l_nil) | (with_reducible apply int_ex) | (with_reducible apply bl_ex) | (with_reducible apply dq_len) | (with_reducible apply dq_abs) | (with_reducible apply t_nt) | (with_reducible apply t_and) | (with_reducible apply t_or) | (with_reducible apply t_and1) | (with_reducible apply t_or1) | (with_reducible apply t_and2) | (with_reducible apply t_or2) | (with_reducible apply t_cmp) | (with_reducible apply t_chn) | (with_reducible apply t_ix) | (with_reducible apply t_isi) | (with_reducible apply t_fld) | (with_reducible apply tr_bl) | (with_reducible apply o_add) | (with_reducible apply o_sub) | (with_reducible apply c_eqI) | (with_reducible apply c_neI) | (with_reducible apply c_ltI) | (with_reducible apply c_leI) | (with_reducible apply c_gtI) | (with_reducible apply c_geI) | (with_reducible apply ss_cons) | (with_reducible apply ss_nil) | (with_reducible apply st_exp) | (with_reducible apply st_asg) | (with_reducible apply st_asl) | (with_reducible apply st_sti) | (with_reducible apply st_agi) | (with_reducible apply st_ifs) | (with_reducible apply st_ret) | (with_reducible apply st_retN) | (with_reducible apply st_pas) | (with_reducible apply aug_i) | (with_reducible apply abs_i) | (with_reducible apply sl_l) | (with_reducible apply len_l) | (with_reducible apply len_t) | (with_reducible refine And.intro (a := _ ≤ sizeLine) (by rw [sizeLine_eq]; simp only [List.length_cons, List.length_nil, List.length_append, List.length_map]; omega) ?_) | (with_reducible refine o_addL (by rw [sizeLine_eq]; simp only [List.length_cons, List.length_nil, List.length_append, List.length_map]; omega) ?_) | (dsimp only)))
          refine ix_o SS.set_same at1 ?_
          (repeat (first | ((with_reducible apply d_var); focus exact rfl) | ((with_reducible apply t_var); focus exact rfl) | (with_reducible apply d_int) | (with_reducible apply d_str) | (with_reducible apply d_bl) | (with_reducible apply d_non) | (with_reducible apply d_bin) | (with_reducible apply d_cmp) | (with_reducible apply d_ix) | (with_reducible apply d_lst) | (with_reducible apply d_lstC) | (with_reducible apply d_tup) | (with_reducible apply d_sl) | (with_reducible apply d_nn) | (with_reducible apply d_ss) | (with_reducible apply d_nt) | (with_reducible apply d_and) | (with_reducible apply d_or) | (with_reducible apply d_and1) | (with_reducible apply d_or1) | (with_reducible apply d_and2) | (with_reducible apply d_or2) | (with_reducible apply d_ife) | (with_reducible apply d_neg) | (with_reducible apply d_isi) | (with_reducible apply d_fld) | (with_reducible apply d_glb) | (with_reducible apply l_cons) | (with_reducible apply l_nil) | (with_reducible apply int_ex) | (with_reducible apply bl_ex) | (with_reducible apply dq_len) | (with_reducible apply dq_abs) | (with_reducible apply t_nt) | (with_reducible apply t_and) | (with_reducible apply t_or) | (with_reducible apply t_and1) | (with_reducible apply t_or1) | (with_reducible apply t_and2) | (with_reducible apply t_or2) | (with_reducible apply t_cmp) | (with_reducible apply t_chn) | (with_reducible apply t_ix) | (with_reducible apply t_isi) | (with_reducible apply t_fld) | (with_reducible apply tr_bl) | (with_reducible apply o_add) | (with_reducible apply o_sub) | (with_reducible apply c_eqI) | (with_reducible apply c_neI) | (with_reducible apply c_ltI) | (with_reducible apply c_leI) | (with_reducible apply c_gtI) | (with_reducible apply c_geI) | (with_reducible apply ss_cons) | (with_reducible apply ss_nil) | (with_reducible apply st_exp) | (with_reducible apply st_asg) | (with_reducible apply st_asl) | (with_reducible apply st_sti) | (with_reducible apply st_agi) | (with_reducible apply st_ifs) | (with_reducible apply st_ret) | (with_reducible apply st_retN) | (with_reducible apply st_pas) | (with_reducible apply aug_i) | (with_reducible apply abs_i) | (with_reducible apply sl_l) | (with_reducible apply len_l) | (with_reducible apply len_t) | (with_reducible refine And.intro (a := _ ≤ sizeLine) (by rw [sizeLine_eq]; simp only [List.length_cons, List.length_nil, List.length_append, List.length_map]; omega) ?_) | (with_reducible refine o_addL (by rw [sizeLine_eq]; simp only [List.length_cons, List.length_nil, List.length_append, List.length_map]; omega) ?_) | (dsimp only)))
          refine o_mul (.inl (.inr (by decide))) ?_
          (repeat (first | ((with_reducible apply d_var); focus exact rfl) | ((with_reducible apply t_var); focus exact rfl) | (with_reducible apply d_int) | (with_reducible apply d_str) | (with_reducible apply d_bl) | (with_reducible apply d_non) | (with_reducible apply d_bin) | (with_reducible apply d_cmp) | (with_reducible apply d_ix) | (with_reducible apply d_lst) | (with_reducible apply d_lstC) | (with_reducible apply d_tup) | (with_reducible apply d_sl) | (with_reducible apply d_nn) | (with_reducible apply d_ss) | (with_reducible apply d_nt) | (with_reducible apply d_and) | (with_reducible apply d_or) | (with_reducible apply d_and1) | (with_reducible apply d_or1) | (with_reducible apply d_and2) | (with_reducible apply d_or2) | (with_reducible apply d_ife) | (with_reducible apply d_neg) | (with_reducible apply d_isi) | (with_reducible apply d_fld) | (with_reducible apply d_glb) | (with_reducible apply l_cons) | (with_reducible apply l_nil) | (with_reducible apply int_ex) | (with_reducible apply bl_ex) | (with_reducible apply dq_len) | (with_reducible apply dq_abs) | (with_reducible apply t_nt) | (with_reducible apply t_and) | (with_reducible apply t_or) | (with_reducible apply t_and1) | (with_reducible apply t_or1) | (with_reducible apply t_and2) | (with_reducible apply t_or2) | (with_reducible apply t_cmp) | (with_reducible apply t_chn) | (with_reducible apply t_ix) | (with_reducible apply t_isi) | (with_reducible apply t_fld) | (with_reducible apply tr_bl) | (with_reducible apply o_add) | (with_reducible apply o_sub) | (with_reducible apply c_eqI) | (with_reducible apply c_neI) | (with_reducible apply c_ltI) | (with_reducible apply c_leI) | (with_reducible apply c_gtI) | (with_reducible apply c_geI) | (with_reducible apply ss_cons) | (with_reducible apply ss_nil) | (with_reducible apply st_exp) | (with_reducible apply st_asg) | (with_reducible apply st_asl) | (with_reducible apply st_sti) | (with_reducible apply st_agi) | (with_reducible apply st_ifs) | (with_reducible apply st_ret) | (with_reducible apply st_retN) | (with_reducible apply st_pas) | (with_reducible apply aug_i) | (with_reducible apply abs_i) | (with_reducible apply sl_l) | (with_reducible apply len_l) | (with_reducible apply len_t) | (with_reducible refine And.intro (a := _ ≤ sizeLine) (by rw [sizeLine_eq]; simp only [List.length_cons, List.length_nil, List.length_append, List.length_map]; omega) ?_) | (with_reducible refine o_addL (by rw [sizeLine_eq]; simp only [List.length_cons, List.length_nil, List.length_append, List.length_map]; omega) ?_) | (dsimp only)))
          refine o_mod (by decide) ?_
          (repeat (first | ((with_reducible apply d_var); focus exact rfl) | ((with_reducible apply t_var); focus exact rfl) | (with_reducible apply d_int) | (with_reducible apply d_str) | (with_reducible apply d_bl) | (with_reducible apply d_non) | (with_reducible apply d_bin) | (with_reducible apply d_cmp) | (with_reducible apply d_ix) | (with_reducible apply d_lst) | (with_reducible apply d_lstC) | (with_reducible apply d_tup) | (with_reducible apply d_sl) | (with_reducible apply d_nn) | (with_reducible apply d_ss) | (with_reducible apply d_nt) | (with_reducible apply d_and) | (with_reducible apply d_or) | (with_reducible apply d_and1) | (with_reducible apply d_or1) | (with_reducible apply d_and2) | (with_reducible apply d_or2) | (with_reducible apply d_ife) | (with_reducible apply d_neg) | (with_reducible apply d_isi) | (with_reducible apply d_fld) | (with_reducible apply d_glb) | (with_reducible apply l_cons) | (with_reducible apply l_nil) | (with_reducible apply int_ex) | (with_reducible apply bl_ex) | (with_reducible apply dq_len) | (with_reducible apply dq_abs) | (with_reducible apply t_nt) | (with_reducible apply t_and) | (with_reducible apply t_or) | (with_reducible apply t_and1) | (with_reducible apply t_or1) | (with_reducible apply t_and2) | (with_reducible apply t_or2) | (with_reducible apply t_cmp) | (with_reducible apply t_chn) | (with_reducible apply t_ix) | (with_reducible apply t_isi) | (with_reducible apply t_fld) | (with_reducible apply tr_bl) | (with_reducible apply o_add) | (with_reducible apply o_sub) | (with_reducible apply c_eqI) | (with_reducible apply c_neI) | (with_reducible apply c_ltI) | (with_reducible apply c_leI) | (with_reducible apply c_gtI) | (with_reducible apply c_geI) | (with_reducible apply ss_cons) | (with_reducible apply ss_nil) | (with_reducible apply st_exp) | (with_reducible apply st_asg) | (with_reducible apply st_asl) | (with_reducible apply st_sti) | (with_reducible apply st_agi) | (with_reducible apply st_ifs) | (with_reducible apply st_ret) | (with_reducible apply st_retN) | (with_reducible apply st_pas) | (with_reducible apply aug_i) | (with_reducible apply abs_i) | (with_reducible apply sl_l) | (with_reducible apply len_l) | (with_reducible apply len_t) | (with_reducible refine And.intro (a := _ ≤ sizeLine) (by rw [sizeLine_eq]; simp only [List.length_cons, List.length_nil, List.length_append, List.length_map]; omega) ?_) | (with_reducible refine o_addL (by rw [sizeLine_eq]; simp only [List.length_cons, List.length_nil, List.length_append, List.length_map]; omega) ?_) | (dsimp only)))
          refine ix_o SS.set_same at2 ?_
          (repeat (first | ((with_reducible apply d_var); focus exact rfl) | ((with_reducible apply t_var); focus exact rfl) | (with_reducible apply d_int) | (with_reducible apply d_str) | (with_reducible apply d_bl) | (with_reducible apply d_non) | (with_reducible apply d_bin) | (with_reducible apply d_cmp) | (with_reducible apply d_ix) | (with_reducible apply d_lst) | (with_reducible apply d_lstC) | (with_reducible apply d_tup) | (with_reducible apply d_sl) | (with_reducible apply d_nn) | (with_reducible apply d_ss) | (with_reducible apply d_nt) | (with_reducible apply d_and) | (with_reducible apply d_or) | (with_reducible apply d_and1) | (with_reducible apply d_or1) | (with_reducible apply d_and2) | (with_reducible apply d_or2) | (with_reducible apply d_ife) | (with_reducible apply d_neg) | (with_reducible apply d_isi) | (with_reducible apply d_fld) | (with_reducible apply d_glb) | (with_reducible apply l_cons) | (with_reducible apply l_nil) | (with_reducible apply int_ex) | (with_reducible apply bl_ex) | (with_reducible apply dq_len) | (with_reducible apply dq_abs) | (with_reducible apply t_nt) | (with_reducible apply t_and) | (with_reducible apply t_or) | (with_reducible apply t_and1) | (with_reducible apply t_or1) | (with_reducible apply t_and2) | (with_reducible apply t_or2) | (with_reducible apply t_cmp) | (with_reducible apply t_chn) | (with_reducible apply t_ix) | (with_reducible apply t_isi) | (with_reducible apply t_fld) | (with_reducible apply tr_bl) | (with_reducible apply o_add) | (with_reducible apply o_sub) | (with_reducible apply c_eqI) | (with_reducible apply c_neI) | (with_reducible apply c_ltI) | (with_reducible apply c_leI) | (with_reducible apply c_gtI) | (with_reducible apply c_geI) | (with_reducible apply ss_cons) | (with_reducible apply ss_nil) | (with_reducible apply st_exp) | (with_reducible apply st_asg) | (with_reducible apply st_asl) | (with_reducible apply st_sti) | (with_reducible apply st_agi) | (with_reducible apply st_ifs) | (with_reducible apply st_ret) | (with_reducible apply st_retN) | (with_reducible apply st_pas) | (with_reducible apply aug_i) | (with_reducible apply abs_i) | (with_reducible apply sl_l) | (with_reducible apply len_l) | (with_reducible apply len_t) | (with_reducible refine And.intro (a := _ ≤ sizeLine) (by rw [sizeLine_eq]; simp only [List.length_cons, List.length_nil, List.length_append, List.length_map]; omega) ?_) | (with_reducible refine o_addL (by rw [sizeLine_eq]; simp only [List.length_cons, List.length_nil, List.length_append, List.length_map]; omega) ?_) | (dsimp only)))
          refine o_mul (.inl (.inl (by decide))) ?_
          (repeat (first | ((with_reducible apply d_var); focus exact rfl) | ((with_reducible apply t_var); focus exact rfl) | (with_reducible apply d_int) | (with_reducible apply d_str) | (with_reducible apply d_bl) | (with_reducible apply d_non) | (with_reducible apply d_bin) | (with_reducible apply d_cmp) | (with_reducible apply d_ix) | (with_reducible apply d_lst) | (with_reducible apply d_lstC) | (with_reducible apply d_tup) | (with_reducible apply d_sl) | (with_reducible apply d_nn) | (with_reducible apply d_ss) | (with_reducible apply d_nt) | (with_reducible apply d_and) | (with_reducible apply d_or) | (with_reducible apply d_and1) | (with_reducible apply d_or1) | (with_reducible apply d_and2) | (with_reducible apply d_or2) | (with_reducible apply d_ife) | (with_reducible apply d_neg) | (with_reducible apply d_isi) | (with_reducible apply d_fld) | (with_reducible apply d_glb) | (with_reducible apply l_cons) | (with_reducible apply l_nil) | (with_reducible apply int_ex) | (with_reducible apply bl_ex) | (with_reducible apply dq_len) | (with_reducible apply dq_abs) | (with_reducible apply t_nt) | (with_reducible apply t_and) | (with_reducible apply t_or) | (with_reducible apply t_and1) | (with_reducible apply t_or1) | (with_reducible apply t_and2) | (with_reducible apply t_or2) | (with_reducible apply t_cmp) | (with_reducible apply t_chn) | (with_reducible apply t_ix) | (with_reducible apply t_isi) | (with_reducible apply t_fld) | (with_reducible apply tr_bl) | (with_reducible apply o_add) | (with_reducible apply o_sub) | (with_reducible apply c_eqI) | (with_reducible apply c_neI) | (with_reducible apply c_ltI) | (with_reducible apply c_leI) | (with_reducible apply c_gtI) | (with_reducible apply c_geI) | (with_reducible apply ss_cons) | (with_reducible apply ss_nil) | (with_reducible apply st_exp) | (with_reducible apply st_asg) | (with_reducible apply st_asl) | (with_reducible apply st_sti) | (with_reducible apply st_agi) | (with_reducible apply st_ifs) | (with_reducible apply st_ret) | (with_reducible apply st_retN) | (with_reducible apply st_pas) | (with_reducible apply aug_i) | (with_reducible apply abs_i) | (with_reducible apply sl_l) | (with_reducible apply len_l) | (with_reducible apply len_t) | (with_reducible refine And.intro (a := _ ≤ sizeLine) (by rw [sizeLine_eq]; simp only [List.length_cons, List.length_nil, List.length_append, List.length_map]; omega) ?_) | (with_reducible refine o_addL (by rw [sizeLine_eq]; simp only [List.length_cons, List.length_nil, List.length_append, List.length_map]; omega) ?_) | (dsimp only)))
          refine o_mod (by decide) ?_
          (repeat (first | ((with_reducible apply d_var); focus exact rfl) | ((with_reducible apply t_var); focus exact rfl) | (with_reducible apply d_int) | (with_reducible apply d_str) | (with_reducible apply d_bl) | (with_reducible apply d_non) | (with_reducible apply d_bin) | (with_reducible apply d_cmp) | (with_reducible apply d_ix) | (with_reducible apply d_lst) | (with_reducible apply d_lstC) | (with_reducible apply d_tup) | (with_reducible apply d_sl) | (with_reducible apply d_nn) | (with_reducible apply d_ss) | (with_reducible apply d_nt) | (with_reducible apply d_and) | (with_reducible apply d_or) | (with_reducible apply d_and1) | (with_reducible apply d_or1) | (with_reducible apply d_and2) | (with_reducible apply d_or2) | (with_reducible apply d_ife) | (with_reducible apply d_neg) | (with_reducible apply d_isi) | (with_reducible apply d_fld) | (with_reducible apply d_glb) | (with_reducible apply l_cons) | (with_reducible apply l_nil) | (with_reducible apply int_ex) | (with_reducible apply bl_ex) | (with_reducible apply dq_len) | (with_reducible apply dq_abs) | (with_reducible apply t_nt) | (with_reducible apply t_and) | (with_reducible apply t_or) | (with_reducible apply t_and1) | (with_reducible apply t_or1) | (with_reducible apply t_and2) | (with_reducible apply t_or2) | (with_reducible apply t_cmp) | (with_reducible apply t_chn) | (with_reducible apply t_ix) | (with_reducible apply t_isi) | (with_reducible apply t_fld) | (with_reducible apply tr_bl) | (with_reducible apply o_add) | (with_reducible apply o_sub) | (with_reducible apply c_eqI) | (with_reducible apply c_neI) | (with_reducible apply c_ltI) | (with_reducible apply c_leI) | (with_reducible apply c_gtI) | (with_reducible apply c_geI) | (with_reducible apply ss_cons) | (with_reducible apply ss_nil) | (with_reducible apply st_exp) | (with_reducible apply st_asg) | (with_reducible apply st_asl) | (with_reducible apply st_sti) | (with_reducible apply st_agi) | (with_reducible apply st_ifs) | (with_reducible apply st_ret) | (with_reducible apply st_retN) | (with_reducible apply st_pas) | (with_reducible apply aug_i) | (with_reducible apply abs_i) | (with_reducible apply sl_l) | (with_reducible apply len_l) | (with_reducible apply len_t) | (with_reducible refine And.intro (a := _ ≤ sizeLine) (by rw [sizeLine_eq]; simp only [List.length_cons, List.length_nil, List.length_append, List.length_map]; omega) ?_) | (with_reducible refine o_addL (by rw [sizeLine_eq]; simp only [List.length_cons, List.length_nil, List.length_append, List.length_map]; omega) ?_) | (dsimp only)))
          refine set_o SS.set_same rfl ?_
          (repeat (first | ((with_reducible apply d_var); focus exact rfl) | ((with_reducible apply t_var); focus exact rfl) | (with_reducible apply d_int) | (with_reducible apply d_str) | (with_reducible apply d_bl) | (with_reducible apply d_non) | (with_reducible apply d_bin) | (with_reducible apply d_cmp) | (with_reducible apply d_ix) | (with_reducible apply d_lst) | (with_reducible apply d_lstC) | (with_reducible apply d_tup) | (with_reducible apply d_sl) | (with_reducible apply d_nn) | (with_reducible apply d_ss) | (with_reducible apply d_nt) | (with_reducible apply d_and) | (with_reducible apply d_or) | (with_reducible apply d_and1) | (with_reducible apply d_or1) | (with_reducible apply d_and2) | (with_reducible apply d_or2) | (with_reducible apply d_ife) | (with_reducible apply d_neg) | (with_reducible apply d_isi) | (with_reducible apply d_fld) | (with_reducible apply d_glb) | (with_reducible apply l_cons) | (with_reducible apply l_nil) | (with_reducible apply int_ex) | (with_reducible apply bl_ex) | (with_reducible apply dq_len) | (with_reducible apply dq_abs) | (with_reducible apply t_nt) | (with_reducible apply t_and) | (with_reducible apply t_or) | (with_reducible apply t_and1) | (with_reducible apply t_or1) | (with_reducible apply t_and2) | (with_reducible apply t_or2) | (with_reducible apply t_cmp) | (with_reducible apply t_chn) | (with_reducible apply t_ix) | (with_reducible apply t_isi) | (with_reducible apply t_fld) | (with_reducible apply tr_bl) | (with_reducible apply o_add) | (with_reducible apply o_sub) | (with_reducible apply c_eqI) | (with_reducible apply c_neI) | (with_reducible apply c_ltI) | (with_reducible apply c_leI) | (with_reducible apply c_gtI) | (with_reducible apply c_geI) | (with_reducible apply ss_cons) | (with_reducible apply ss_nil) | (with_reducible apply st_exp) | (with_reducible apply st_asg) | (with_reducible apply st_asl) | (with_reducible apply st_sti) | (with_reducible apply st_agi) | (with_reducible apply st_ifs) | (with_reducible apply st_ret) | (with_reducible apply st_retN) | (with_reducible apply st_pas) | (with_reducible apply aug_i) | (with_reducible apply abs_i) | (with_reducible apply sl_l) | (with_reducible apply len_l) | (with_reducible apply len_t) | (with_reducible refine And.intro (a := _ ≤ sizeLine) (by rw [sizeLine_eq]; simp only [List.length_cons, List.length_nil, List.length_append, List.length_map]; omega) ?_) | (with_reducible refine o_addL (by rw [sizeLine_eq]; simp only [List.length_cons, List.length_nil, List.length_append, List.length_map]; omega) ?_) | (dsimp only)))
          exact ⟨x1, (y * 48271 + w % 2147483647 + 7919 * (z + 1)) % 2147483647, z + 1, _, ⟨hx1, Int.emod_nonneg _ (by decide), Int.emod_lt_of_pos _ (by decide), by omega, hc⟩, by rw [SS.set_set]; rfl, rfl⟩
    · (repeat (first | ((with_reducible apply d_var); focus exact rfl) | ((with_reducible apply t_var); focus exact rfl) | (with_reducible apply d_int) | (with_reducible apply d_str) | (with_reducible apply d_bl) | (with_reducible apply d_non) | (with_reducible apply d_bin) | (with_reducible apply d_cmp) | (with_reducible apply d_ix) | (with_reducible apply d_lst) | (with_reducible apply d_lstC) | (with_reducible apply d_tup) | (with_reducible apply d_sl) | (with_reducible apply d_nn) | (with_reducible apply d_ss) | (with_reducible apply d_nt) | (with_reducible apply d_and) | (with_reducible apply d_or) | (with_reducible apply d_and1) | (with_reducible apply d_or1) | (with_reducible apply d_and2) | (with_reducible apply d_or2) | (with_reducible apply d_ife) | (with_reducible apply d_neg) | (with_reducible apply d_isi) | (with_reducible apply d_fld) | (with_reducible apply d_glb) | (with_reducible apply l_cons) | (with_reducible apply l_nil) | (with_reducible apply int_ex) | (with_reducible apply bl_ex) | (with_reducible apply dq_len) | (with_reducible apply dq_abs) | (with_reducible apply t_nt) | (with_reducible apply t_and) | (with_reducible apply t_or) | (with_reducible apply t_and1) | (with_reducible apply t_or1) | (with_reducible apply t_and2) | (with_reducible apply t_or2) | (with_reducible apply t_cmp) | (with_reducible apply t_chn) | (with_reducible apply t_ix) | (with_reducible apply t_isi) | (with_reducible apply t_fld) | (with_reducible apply tr_bl) | (with_reducible apply o_add) | (with_reducible apply o_sub) | (with_reducible apply c_eqI) | (with_reducible apply c_neI) | (with_reducible apply c_ltI) | (with_reducible apply c_leI) | (with_reducible apply c_gtI) | (with_reducible apply c_geI) | (with_reducible apply ss_cons) | (with_reducible apply ss_nil) | (with_reducible apply st_exp) | (with_reducible apply st_asg) | (with_reducible apply st_asl) | (with_reducible apply st_sti) | (with_reducible apply st_agi) | (with_reducible apply st_ifs) | (with_reducible apply st_ret) | (with_reducible apply st_retN) | (with_reducible apply st_pas) | (with_reducible apply aug_i) | (with_reducible apply abs_i) | (with_reducible apply sl_l) | (with_reducible apply len_l) | (with_reducible apply len_t) | (with_reducible refine And.intro (a := _ ≤ sizeLine) (by rw [sizeLine_eq]; simp only [List.length_cons, List.length_nil, List.length_append, List.length_map]; omega) ?_) | (with_reducible refine o_addL (by rw [sizeLine_eq]; simp only [List.length_cons, List.length_nil, List.length_append, List.length_map]; omega) ?_) | (dsimp only)))
      exact ⟨x, y, z, none, ⟨hx, hy, hy2, hz, hc⟩, (SS.set_id hb).symm, rfl⟩
  · rintro δ1 S1 ⟨x, y, z, c1, ⟨hx, hy, hy2, hz, hc⟩, rfl, rfl⟩
    (repeat (first | ((with_reducible apply d_var); focus exact rfl) | ((with_reducible apply t_var); focus exact rfl) | (with_reducible apply d_int) | (with_reducible apply d_str) | (with_reducible apply d_bl) | (with_reducible apply d_non) | (with_reducible apply d_bin) | (with_reducible apply d_cmp) | (with_reducible apply d_ix) | (with_reducible apply d_lst) | (with_reducible apply d_lstC) | (with_reducible apply d_tup) | (with_reducible apply d_sl) | (with_reducible apply d_nn) | (with_reducible apply d_ss) | (with_reducible apply d_nt) | (with_reducible apply d_and) | (with_reducible apply d_or) | (with_reducible apply d_and1) | (with_reducible apply d_or1) | (with_reducible apply d_and2) | (with_reducible apply d_or2) | (with_reducible apply d_ife) | (with_reducible apply d_neg) | (with_reducible apply d_isi) | (with_reducible apply d_fld) | (with_reducible apply d_glb) | (with_reducible apply l_cons) | (with_reducible apply l_nil) | (with_reducible apply int_ex) | (with_reducible apply bl_ex) | (with_reducible apply dq_len) | (with_reducible apply dq_abs) | (with_reducible apply t_nt) | (with_reducible apply t_and) | (with_reducible apply t_or) | (with_reducible apply t_and1) | (with_reducible apply t_or1) | (with_reducible apply t_and2) | (with_reducible apply t_or2) | (with_reducible apply t_cmp) | (with_reducible apply t_chn) | (with_reducible apply t_ix) | (with_reducible apply t_isi) | (with_reducible apply t_fld) | (with_reducible apply tr_bl) | (with_reducible apply o_add) | (with_reducible apply o_sub) | (with_reducible apply c_eqI) | (with_reducible apply c_neI) | (with_reducible apply c_ltI) | (with_reducible apply c_leI) | (with_reducible apply c_gtI) | (with_reducible apply c_geI) | (with_reducible apply ss_cons) | (with_reducible apply ss_nil) | (with_reducible apply st_exp) | (with_reducible apply st_asg) | (with_reducible apply st_asl) | (with_reducible apply st_sti) | (with_reducible apply st_agi) | (with_reducible apply st_ifs) | (with_reducible apply st_ret) | (with_reducible apply st_retN) | (with_reducible apply st_pas) | (with_reducible apply aug_i) | (with_reducible apply abs_i) | (with_reducible apply sl_l) | (with_reducible apply len_l) | (with_reducible apply len_t) | (with_reducible refine And.intro (a := _ ≤ sizeLine) (by rw [sizeLine_eq]; simp only [List.length_cons, List.length_nil, List.length_append, List.length_map]; omega) ?_) | (with_reducible refine o_addL (by rw [sizeLine_eq]; simp only [List.length_cons, List.length_nil, List.length_append, List.length_map]; omega) ?_) | (dsimp only)))
    refine ix_o SS.set_same at0 ?_
    (repeat (first | ((with_reducible apply d_var); focus exact rfl) | ((with_reducible apply t_var); focus exact rfl) | (with_reducible apply d_int) | (with_reducible apply d_str) | (with_reducible apply d_bl) | (with_reducible apply d_non) | (with_reducible apply d_bin) | (with_reducible apply d_cmp) | (with_reducible apply d_ix) | (with_reducible apply d_lst) | (with_reducible apply d_lstC) | (with_reducible apply d_tup) | (with_reducible apply d_sl) | (with_reducible apply d_nn) | (with_reducible apply d_ss) | (with_reducible apply d_nt) | (with_reducible apply d_and) | (with_reducible apply d_or) | (with_reducible apply d_and1) | (with_reducible apply d_or1) | (with_reducible apply d_and2) | (with_reducible apply d_or2) | (with_reducible apply d_ife) | (with_reducible apply d_neg) | (with_reducible apply d_isi) | (with_reducible apply d_fld) | (with_reducible apply d_glb) | (with_reducible apply l_cons) | (with_reducible apply l_nil) | (with_reducible apply int_ex) | (with_reducible apply bl_ex) | (with_reducible apply dq_len) | (with_reducible apply dq_abs) | (with_reducible apply t_nt) | (with_reducible apply t_and) | (with_reducible apply t_or) | (with_reducible apply t_and1) | (with_reducible apply t_or1) | (with_reducible apply t_and2) | (with_reducible apply t_or2) | (with_reducible apply t_cmp) | (with_reducible apply t_chn) | (with_reducible apply t_ix) | (with_reducible apply t_isi) | (with_reducible apply t_fld) | (with_reducible apply tr_bl) | (with_reducible apply o_add) | (with_reducible apply o_sub) | (with_reducible apply c_eqI) | (with_reducible apply c_neI) | (with_reducible apply c_ltI) | (with_reducible apply c_leI) | (with_reducible apply c_gtI) | (with_reducible apply c_geI) | (with_reducible apply ss_cons) | (with_reducible apply ss_nil) | (with_reducible apply st_exp) | (with_reducible apply st_asg) | (with_reducible apply st_asl) | (with_reducible apply st_sti) | (with_reducible apply st_agi) | (with_reducible apply st_ifs) | (with_reducible apply st_ret) | (with_reducible apply st_retN) | (with_reducible apply st_pas) | (with_reducible apply aug_i) | (with_reducible apply abs_i) | (with_reducible apply sl_l) | (with_reducible apply len_l) | (with_reducible apply len_t) | (with_reducible refine And.intro (a := _ ≤ sizeLine) (by rw [sizeLine_eq]; simp only [List.length_cons, List.length_nil, List.length_append, List.length_map]; omega) ?_) | (with_reducible refine o_addL (by rw [sizeLine_eq]; simp only [List.length_cons, List.length_nil, List.length_append, List.length_map]; omega) ?_) | (dsimp only)))
    split
    · rename_i e
      have e : 0 < x := by simpa using e
      (repeat (first | ((with_reducible apply d_var); focus exact rfl) | ((with_reducible apply t_var); focus exact rfl) | (with_reducible apply d_int) | (with_reducible apply d_str) | (with_reducible apply d_bl) | (with_reducible apply d_non) | (with_reducible apply d_bin) | (with_reducible apply d_cmp) | (with_reducible apply d_ix) | (with_reducible apply d_lst) | (with_reducible apply d_lstC) | (with_reducible apply d_tup) | (with_reducible apply d_sl) | (with_reducible apply d_nn) | (with_reducible apply d_ss) | (with_reducible apply d_nt) | (with_reducible apply d_and) | (with_reducible apply d_or) | (with_reducible apply d_and1) | (with_reducible apply d_or1) | (with_reducible apply d_and2) | (with_reducible apply d_or2) | (with_reducible apply d_ife) | (with_reducible apply d_neg) | (with_reducible apply d_isi) | (with_reducible apply d_fld) | (with_reducible apply d_glb) | (with_reducible apply l_cons) | (with_reducible apply l_nil) | (with_reducible apply int_ex) | (with_reducible apply bl_ex) | (with_reducible apply dq_len) | (with_reducible apply dq_abs) | (with_reducible apply t_nt) | (with_reducible apply t_and) | (with_reducible apply t_or) | (with_reducible apply t_and1) | (with_reducible apply t_or1) | (with_reducible apply t_and2) | (with_reducible apply t_or2) | (with_reducible apply t_cmp) | (with_reducible apply t_chn) | (with_reducible apply t_ix) | (with_reducible apply t_isi) | (with_reducible apply t_fld) | (with_reducible apply tr_bl) | (with_reducible apply o_add) | (with_reducible apply o_sub) | (with_reducible apply c_eqI) | (with_reducible apply c_neI) | (with_reducible apply c_ltI) | (with_reducible apply c_leI) | (with_reducible apply c_gtI) | (with_reducible apply c_geI) | (with_reducible apply ss_cons) | (with_reducible apply ss_nil) | (with_reducible apply st_exp) | (with_reducible apply st_asg) | (with_reducible apply st_asl) | (with_reducible apply st_sti) | (with_reducible apply st_agi) | (with_reducible apply st_ifs) | (with_reducible apply st_ret) | (with_reducible apply st_retN) | (with_reducible apply st_pas) | (with_reducible apply aug_i) | (with_reducible apply abs_i) | (with_reducible apply sl_l) | (with_reducible apply len_l) | (with_reducible apply len_t) | (with_reducible refine And.intro (a := _ ≤ sizeLine) (by rw [sizeLine_eq]; simp only [List.length_cons, List.length_nil, List.length_append, List.length_map]; omega) ?_) | (with_reducible refine o_addL (by rw [sizeLine_eq]; simp only [List.length_cons, List.length_nil, List.length_append, List.length_map]; omega) ?_) | (dsimp only)))
      refine ix_o SS.set_same at0 ?_
      (repeat (first | ((with_reducible apply d_var); focus exact rfl) | ((with_reducible apply t_var); focus exact rfl) | (with_reducible apply d_int) | (with_reducible apply d_str) | (with_reducible apply d_bl) | (with_reducible apply d_non) | (with_reducible apply d_bin) | (with_reducible apply d_cmp) | (with_reducible apply d_ix) | (with_reducible apply d_lst) | (with_reducible apply d_lstC) | (with_reducible apply d_tup) | (with_reducible apply d_sl) | (with_reducible apply d_nn) | (with_reducible apply d_ss) | (with_reducible apply d_nt) | (with_reducible apply d_and) | (with_reducible apply d_or) | (with_reducible apply d_and1) | (with_reducible apply d_or1) | (with_reducible apply d_and2) | (with_reducible apply d_or2) | (with_reducible apply d_ife) | (with_reducible apply d_neg) | (with_reducible apply d_isi) | (with_reducible apply d_fld) | (with_reducible apply d_glb) | (with_reducible apply l_cons) | (with_reducible apply l_nil) | (with_reducible apply int_ex) | (with_reducible apply bl_ex) | (with_reducible apply dq_len) | (with_reducible apply dq_abs) | (with_reducible apply t_nt) | (with_reducible apply t_and) | (with_reducible apply t_or) | (with_reducible apply t_and1) | (with_reducible apply t_or1) | (with_reducible apply t_and2) | (with_reducible apply t_or2) | (with_reducible apply t_cmp) | (with_reducible apply t_chn) | (with_reducible apply t_ix) | (with_reducible apply t_isi) | (with_reducible apply t_fld) | (with_reducible apply tr_bl) | (with_reducible apply o_add) | (with_reducible apply o_sub) | (with_reducible apply c_eqI) | (with_reducible apply c_neI) | (with_reducible apply c_ltI) | (with_reducible apply c_leI) | (with_reducible apply c_gtI) | (with_reducible apply c_geI) | (with_reducible apply ss_cons) | (with_reducible apply ss_nil) | (with_reducible apply st_exp) | (with_reducible apply st_asg) | (with_reducible apply st_asl) | (with_reducible apply st_sti) | (with_reducible apply st_agi) | (with_reducible apply st_ifs) | (with_reducible apply st_ret) | (with_reducible apply st_retN) | (with_reducible apply st_pas) | (with_reducible apply aug_i) | (with_reducible apply abs_i) | (with_reducible apply sl_l) | (with_reducible apply len_l) | (with_reducible apply len_t) | (with_reducible refine And.intro (a := _ ≤ sizeLine) (by rw [sizeLine_eq]; simp only [List.length_cons, List.length_nil, List.length_append, List.length_map]; omega) ?_) | (with_reducible refine o_addL (by rw [sizeLine_eq]; simp only [List.length_cons, List.length_nil, List.length_append, List.length_map]; omega) ?_) | (dsimp only)))
      refine o_mod hn ?_
      (repeat (first | ((with_reducible apply d_var); focus exact rfl) | ((with_reducible apply t_var); focus exact rfl) | (with_reducible apply d_int) | (with_reducible apply d_str) | (with_reducible apply d_bl) | (with_reducible apply d_non) | (with_reducible apply d_bin) | (with_reducible apply d_cmp) | (with_reducible apply d_ix) | (with_reducible apply d_lst) | (with_reducible apply d_lstC) | (with_reducible apply d_tup) | (with_reducible apply d_sl) | (with_reducible apply d_nn) | (with_reducible apply d_ss) | (with_reducible apply d_nt) | (with_reducible apply d_and) | (with_reducible apply d_or) | (with_reducible apply d_and1) | (with_reducible apply d_or1) | (with_reducible apply d_and2) | (with_reducible apply d_or2) | (with_reducible apply d_ife) | (with_reducible apply d_neg) | (with_reducible apply d_isi) | (with_reducible apply d_fld) | (with_reducible apply d_glb) | (with_reducible apply l_cons) | (with_reducible apply l_nil) | (with_reducible apply int_ex) | (with_reducible apply bl_ex) | (with_reducible apply dq_len) | (with_reducible apply dq_abs) | (with_reducible apply t_nt) | (with_reducible apply t_and) | (with_reducible apply t_or) | (with_reducible apply t_and1) | (with_reducible apply t_or1) | (with_reducible apply t_and2) | (with_reducible apply t_or2) | (with_reducible apply t_cmp) | (with_reducible apply t_chn) | (with_reducible apply t_ix) | (with_reducible apply t_isi) | (with_reducible apply t_fld) | (with_reducible apply tr_bl) | (with_reducible apply o_add) | (with_reducible apply o_sub) | (with_reducible apply c_eqI) | (with_reducible apply c_neI) | (with_reducible apply c_ltI) | (with_reducible apply c_leI) | (with_reducible apply c_gtI) | (with_reducible apply c_geI) | (with_reducible apply ss_cons) | (with_reducible apply ss_nil) | (with_reducible apply st_exp) | (with_reducible apply st_asg) | (with_reducible apply st_asl) | (with_reducible apply st_sti) | (with_reducible apply st_agi) | (with_reducible apply st_ifs) | (with_reducible apply st_ret) | (with_reducible apply st_retN) | (with_reducible apply st_pas) | (with_reducible apply aug_i) | (with_reducible apply abs_i) | (with_reducible apply sl_l) | (with_reducible apply len_l) | (with_reducible apply len_t) | (with_reducible refine And.intro (a := _ ≤ sizeLine) (by rw [sizeLine_eq]; simp only [List.length_cons, List.length_nil, List.length_append, List.length_map]; omega) ?_) | (with_reducible refine o_addL (by rw [sizeLine_eq]; simp only [List.length_cons, List.length_nil, List.length_append, List.length_map]; omega) ?_) | (dsimp only)))
      refine ix_o SS.set_same at0 ?_
      (repeat (first | ((with_reducible apply d_var); focus exact rfl) | ((with_reducible apply t_var); focus exact rfl) | (with_reducible apply d_int) | (with_reducible apply d_str) | (with_reducible apply d_bl) | (with_reducible apply d_non) | (with_reducible apply d_bin) | (with_reducible apply d_cmp) | (with_reducible apply d_ix) | (with_reducible apply d_lst) | (with_reducible apply d_lstC) | (with_reducible apply d_tup) | (with_reducible apply d_sl) | (with_reducible apply d_nn) | (with_reducible apply d_ss) | (with_reducible apply d_nt) | (with_reducible apply d_and) | (with_reducible apply d_or) | (with_reducible apply d_and1) | (with_reducible apply d_or1) | (with_reducible apply d_and2) | (with_reducible apply d_or2) | (with_reducible apply d_ife) | (with_reducible apply d_neg) | (with_reducible apply d_isi) | (with_reducible apply d_fld) | (with_reducible apply d_glb) | (with_reducible apply l_cons) | (with_reducible apply l_nil) | (with_reducible apply int_ex) | (with_reducible apply bl_ex) | (with_reducible apply dq_len) | (with_reducible apply dq_abs) | (with_reducible apply t_nt) | (with_reducible apply t_and) | (with_reducible apply t_or) | (with_reducible apply t_and1) | (with_reducible apply t_or1) | (with_reducible apply t_and2) | (with_reducible apply t_or2) | (with_reducible apply t_cmp) | (with_reducible apply t_chn) | (with_reducible apply t_ix) | (with_reducible apply t_isi) | (with_reducible apply t_fld) | (with_reducible apply tr_bl) | (with_reducible apply o_add) | (with_reducible apply o_sub) | (with_reducible apply c_eqI) | (with_reducible apply c_neI) | (with_reducible apply c_ltI) | (with_reducible apply c_leI) | (with_reducible apply c_gtI) | (with_reducible apply c_geI) | (with_reducible apply ss_cons) | (with_reducible apply ss_nil) | (with_reducible apply st_exp) | (with_reducible apply st_asg) | (with_reducible apply st_asl) | (with_reducible apply st_sti) | (with_reducible apply st_agi) | (with_reducible apply st_ifs) | (with_reducible apply st_ret) | (with_reducible apply st_retN) | (with_reducible apply st_pas) | (with_reducible apply aug_i) | (with_reducible apply abs_i) | (with_reducible apply sl_l) | (with_reducible apply len_l) | (with_reducible apply len_t) | (with_reducible refine And.intro (a := _ ≤ sizeLine) (by rw [sizeLine_eq]; simp only [List.length_cons, List.length_nil, List.length_append, List.length_map]; omega) ?_) | (with_reducible refine o_addL (by rw [sizeLine_eq]; simp only [List.length_cons, List.length_nil, List.length_append, List.length_map]; omega) ?_) | (dsimp only)))
      refine o_div ⟨hn, by omega⟩ ?_
      (repeat (first | ((with_reducible apply d_var); focus exact rfl) | ((with_reducible apply t_var); focus exact rfl) | (with_reducible apply d_int) | (with_reducible apply d_str) | (with_reducible apply d_bl) | (with_reducible apply d_non) | (with_reducible apply d_bin) | (with_reducible apply d_cmp) | (with_reducible apply d_ix) | (with_reducible apply d_lst) | (with_reducible apply d_lstC) | (with_reducible apply d_tup) | (with_reducible apply d_sl) | (with_reducible apply d_nn) | (with_reducible apply d_ss) | (with_reducible apply d_nt) | (with_reducible apply d_and) | (with_reducible apply d_or) | (with_reducible apply d_and1) | (with_reducible apply d_or1) | (with_reducible apply d_and2) | (with_reducible apply d_or2) | (with_reducible apply d_ife) | (with_reducible apply d_neg) | (with_reducible apply d_isi) | (with_reducible apply d_fld) | (with_reducible apply d_glb) | (with_reducible apply l_cons) | (with_reducible apply l_nil) | (with_reducible apply int_ex) | (with_reducible apply bl_ex) | (with_reducible apply dq_len) | (with_reducible apply dq_abs) | (with_reducible apply t_nt) | (with_reducible apply t_and) | (with_reducible apply t_or) | (with_reducible apply t_and1) | (with_reducible apply t_or1) | (with_reducible apply t_and2) | (with_reducible apply t_or2) | (with_reducible apply t_cmp) | (with_reducible apply t_chn) | (with_reducible apply t_ix) | (with_reducible apply t_isi) | (with_reducible apply t_fld) | (with_reducible apply tr_bl) | (with_reducible apply o_add) | (with_reducible apply o_sub) | (with_reducible apply c_eqI) | (with_reducible apply c_neI) | (with_reducible apply c_ltI) | (with_reducible apply c_leI) | (with_reducible apply c_gtI) | (with_reducible apply c_geI) | (with_reducible apply ss_cons) | (with_reducible apply ss_nil) | (with_reducible apply st_exp) | (with_reducible apply st_asg) | (with_reducible apply st_asl) | (with_reducible apply st_sti) | (with_reducible apply st_agi) | (with_reducible apply st_ifs) | (with_reducible apply st_ret) | (with_reducible apply st_retN) | (with_reducible apply st_pas) | (with_reducible apply aug_i) | (with_reducible apply abs_i) | (with_reducible apply sl_l) | (with_reducible apply len_l) | (with_reducible apply len_t) | (with_reducible refine And.intro (a := _ ≤ sizeLine) (by rw [sizeLine_eq]; simp only [List.length_cons, List.length_nil, List.length_append, List.length_map]; omega) ?_) | (with_reducible refine o_addL (by rw [sizeLine_eq]; simp only [List.length_cons, List.length_nil, List.length_append, List.length_map]; omega) ?_) | (dsimp only)))
      refine set_o SS.set_same rfl ?_
      (repeat (first | ((with_reducible apply d_var); focus exact rfl) | ((with_reducible apply t_var); focus exact rfl) | (with_reducible apply d_int) | (with_reducible apply d_str) | (with_reducible apply d_bl) | (with_reducible apply d_non) | (with_reducible apply d_bin) | (with_reducible apply d_cmp) | (with_reducible apply d_ix) | (with_reducible apply d_lst) | (with_reducible apply d_lstC) | (with_reducible apply d_tup) | (with_reducible apply d_sl) | (with_reducible apply d_nn) | (with_reducible apply d_ss) | (with_reducible apply d_nt) | (with_reducible apply d_and) | (with_reducible apply d_or) | (with_reducible apply d_and1) | (with_reducible apply d_or1) | (with_reducible apply d_and2) | (with_reducible apply d_or2) | (with_reducible apply d_ife) | (with_reducible apply d_neg) | (with_reducible apply d_isi) | (with_reducible apply d_fld) | (with_reducible apply d_glb) | (with_reducible apply l_cons) | (with_reducible apply l_nil) | (with_reducible apply int_ex) | (with_reducible apply bl_ex) | (with_reducible apply dq_len) | (with_reducible apply dq_abs) | (with_reducible apply t_nt) | (with_reducible apply t_and) | (with_reducible apply t_or) | (with_reducible apply t_and1) | (with_reducible apply t_or1) | (with_reducible apply t_and2) | (with_reducible apply t_or2) | (with_reducible apply t_cmp) | (with_reducible apply t_chn) | (with_reducible apply t_ix) | (with_reducible apply t_isi) | (with_reducible apply t_fld) | (with_reducible apply tr_bl) | (with_reducible apply o_add) | (with_reducible apply o_sub) | (with_reducible apply c_eqI) | (with_reducible apply c_neI) | (with_reducible apply c_ltI) | (with_reducible apply c_leI) | (with_reducible apply c_gtI) | (with_reducible apply c_geI) | (with_reducible apply ss_cons) | (with_reducible apply ss_nil) | (with_reducible apply st_exp) | (with_reducible apply st_asg) | (with_reducible apply st_asl) | (with_reducible apply st_sti) | (with_reducible apply st_agi) | (with_reducible apply st_ifs) | (with_reducible apply st_ret) | (with_reducible apply st_retN) | (with_reducible apply st_pas) | (with_reducible apply aug_i) | (with_reducible apply abs_i) | (with_reducible apply sl_l) | (with_reducible apply len_l) | (with_reducible apply len_t) | (with_reducible refine And.intro (a := _ ≤ sizeLine) (by rw [sizeLine_eq]; simp only [List.length_cons, List.length_nil, List.length_append, List.length_map]; omega) ?_) | (with_reducible refine o_addL (by rw [sizeLine_eq]; simp only [List.length_cons, List.length_nil, List.length_append, List.length_map]; omega) ?_) | (dsimp only)))
      rw [SS.set_set]
      exact hK _ _ (Int.emod_nonneg _ (by omega)) (Int.emod_lt_of_pos _ hn) ⟨x / n0, y, z, cells, rfl, Int.ediv_nonneg hx (by omega), hy, hy2, hz, hc⟩
    · (repeat (first | ((with_reducible apply d_var); focus exact rfl) | ((with_reducible apply t_var); focus exact rfl) | (with_reducible apply d_int) | (with_reducible apply d_str) | (with_reducible apply d_bl) | (with_reducible apply d_non) | (with_reducible apply d_bin) | (with_reducible apply d_cmp) | (with_reducible apply d_ix) | (with_reducible apply d_lst) | (with_reducible apply d_lstC) | (with_reducible apply d_tup) | (with_reducible apply d_sl) | (with_reducible apply d_nn) | (with_reducible apply d_ss) | (with_reducible apply d_nt) | (with_reducible apply d_and) | (with_reducible apply d_or) | (with_reducible apply d_and1) | (with_reducible apply d_or1) | (with_reducible apply d_and2) | (with_reducible apply d_or2) | (with_reducible apply d_ife) | (with_reducible apply d_neg) | (with_reducible apply d_isi) | (with_reducible apply d_fld) | (with_reducible apply d_glb) | (with_reducible apply l_cons) | (with_reducible apply l_nil) | (with_reducible apply int_ex) | (with_reducible apply bl_ex) | (with_reducible apply dq_len) | (with_reducible apply dq_abs) | (with_reducible apply t_nt) | (with_reducible apply t_and) | (with_reducible apply t_or) | (with_reducible apply t_and1) | (with_reducible apply t_or1) | (with_reducible apply t_and2) | (with_reducible apply t_or2) | (with_reducible apply t_cmp) | (with_reducible apply t_chn) | (with_reducible apply t_ix) | (with_reducible apply t_isi) | (with_reducible apply t_fld) | (with_reducible apply tr_bl) | (with_reducible apply o_add) | (with_reducible apply o_sub) | (with_reducible apply c_eqI) | (with_reducible apply c_neI) | (with_reducible apply c_ltI) | (with_reducible apply c_leI) | (with_reducible apply c_gtI) | (with_reducible apply c_geI) | (with_reducible apply ss_cons) | (with_reducible apply ss_nil) | (with_reducible apply st_exp) | (with_reducible apply st_asg) | (with_reducible apply st_asl) | (with_reducible apply st_sti) | (with_reducible apply st_agi) | (with_reducible apply st_ifs) | (with_reducible apply st_ret) | (with_reducible apply st_retN) | (with_reducible apply st_pas) | (with_reducible apply aug_i) | (with_reducible apply abs_i) | (with_reducible apply sl_l) | (with_reducible apply len_l) | (with_reducible apply len_t) | (with_reducible refine And.intro (a := _ ≤ sizeLine) (by rw [sizeLine_eq]; simp only [List.length_cons, List.length_nil, List.length_append, List.length_map]; omega) ?_) | (with_reducible refine o_addL (by rw [sizeLine_eq]; simp only [List.length_cons, List.length_nil, List.length_append, List.length_map]; omega) ?_) | (dsimp only)))
      refine ix_o SS.set_same at1 ?_
      (repeat (first | ((with_reducible apply d_var); focus exact rfl) | ((with_reducible apply t_var); focus exact rfl) | (with_reducible apply d_int) | (with_reducible apply d_str) | (with_reducible apply d_bl) | (with_reducible apply d_non) | (with_reducible apply d_bin) | (with_reducible apply d_cmp) | (with_reducible apply d_ix) | (with_reducible apply d_lst) | (with_reducible apply d_lstC) | (with_reducible apply d_tup) | (with_reducible apply d_sl) | (with_reducible apply d_nn) | (with_reducible apply d_ss) | (with_reducible apply d_nt) | (with_reducible apply d_and) | (with_reducible apply d_or) | (with_reducible apply d_and1) | (with_reducible apply d_or1) | (with_reducible apply d_and2) | (with_reducible apply d_or2) | (with_reducible apply d_ife) | (with_reducible apply d_neg) | (with_reducible apply d_isi) | (with_reducible apply d_fld) | (with_reducible apply d_glb) | (with_reducible apply l_cons) | (with_reducible apply l_nil) | (with_reducible apply int_ex) | (with_reducible apply bl_ex) | (with_reducible apply dq_len) | (with_reducible apply dq_abs) | (with_reducible apply t_nt) | (with_reducible apply t_and) | (with_reducible apply t_or) | (with_reducible apply t_and1) | (with_reducible apply t_or1) | (with_reducible apply t_and2) | (with_reducible apply t_or2) | (with_reducible apply t_cmp) | (with_reducible apply t_chn) | (with_reducible apply t_ix) | (with_reducible apply t_isi) | (with_reducible apply t_fld) | (with_reducible apply tr_bl) | (with_reducible apply o_add) | (with_reducible apply o_sub) | (with_reducible apply c_eqI) | (with_reducible apply c_neI) | (with_reducible apply c_ltI) | (with_reducible apply c_leI) | (with_reducible apply c_gtI) | (with_reducible apply c_geI) | (with_reducible apply ss_cons) | (with_reducible apply ss_nil) | (with_reducible apply st_exp) | (with_reducible apply st_asg) | (with_reducible apply st_asl) | (with_reducible apply st_sti) | (with_reducible apply st_agi) | (with_reducible apply st_ifs) | (with_reducible apply st_ret) | (with_reducible apply st_retN) | (with_reducible apply st_pas) | (with_reducible apply aug_i) | (with_reducible apply abs_i) | (with_reducible apply sl_l) | (with_reducible apply len_l) | (with_reducible apply len_t) | (with_reducible refine And.intro (a := _ ≤ sizeLine) (by rw [sizeLine_eq]; simp only [List.length_cons, List.length_nil, List.length_append, List.length_map]; omega) ?_) | (with_reducible refine o_addL (by rw [sizeLine_eq]; simp only [List.length_cons, List.length_nil, List.length_append, List.length_map]; omega) ?_) | (dsimp only)))
      refine o_mul (.inl (.inr (by decide))) ?_
      (repeat (first | ((with_reducible apply d_var); focus exact rfl) | ((with_reducible apply t_var); focus exact rfl) | (with_reducible apply d_int) | (with_reducible apply d_str) | (with_reducible apply d_bl) | (with_reducible apply d_non) | (with_reducible apply d_bin) | (with_reducible apply d_cmp) | (with_reducible apply d_ix) | (with_reducible apply d_lst) | (with_reducible apply d_lstC) | (with_reducible apply d_tup) | (with_reducible apply d_sl) | (with_reducible apply d_nn) | (with_reducible apply d_ss) | (with_reducible apply d_nt) | (with_reducible apply d_and) | (with_reducible apply d_or) | (with_reducible apply d_and1) | (with_reducible apply d_or1) | (with_reducible apply d_and2) | (with_reducible apply d_or2) | (with_reducible apply d_ife) | (with_reducible apply d_neg) | (with_reducible apply d_isi) | (with_reducible apply d_fld) | (with_reducible apply d_glb) | (with_reducible apply l_cons) | (with_reducible apply l_nil) | (with_reducible apply int_ex) | (with_reducible apply bl_ex) | (with_reducible apply dq_len) | (with_reducible apply dq_abs) | (with_reducible apply t_nt) | (with_reducible apply t_and) | (with_reducible apply t_or) | (with_reducible apply t_and1) | (with_reducible apply t_or1) | (with_reducible apply t_and2) | (with_reducible apply t_or2) | (with_reducible apply t_cmp) | (with_reducible apply t_chn) | (with_reducible apply t_ix) | (with_reducible apply t_isi) | (with_reducible apply t_fld) | (with_reducible apply tr_bl) | (with_reducible apply o_add) | (with_reducible apply o_sub) | (with_reducible apply c_eqI) | (with_reducible apply c_neI) | (with_reducible apply c_ltI) | (with_reducible apply c_leI) | (with_reducible apply c_gtI) | (with_reducible apply c_geI) | (with_reducible apply ss_cons) | (with_reducible apply ss_nil) | (with_reducible apply st_exp) | (with_reducible apply st_asg) | (with_reducible apply st_asl) | (with_reducible apply st_sti) | (with_reducible apply st_agi) | (with_reducible apply st_ifs) | (with_reducible apply st_ret) | (with_reducible apply st_retN) | (with_reducible apply st_pas) | (with_reducible apply aug_i) | (with_reducible apply abs_i) | (with_reducible apply sl_l) | (with_reducible apply len_l) | (with_reducible apply len_t) | (with_reducible refine And.intro (a := _ ≤ sizeLine) (by rw [sizeLine_eq]; simp only [List.length_cons, List.length_nil, List.length_append, List.length_map]; omega) ?_) | (with_reducible refine o_addL (by rw [sizeLine_eq]; simp only [List.length_cons, List.length_nil, List.length_append, List.length_map]; omega) ?_) | (dsimp only)))
      refine o_mod (by decide) ?_
      have h1 := Int.emod_nonneg ((y + 1) * 39373) (by decide : (1000000007 : Int) ≠ 0)
      have h2 := Int.emod_lt_of_pos ((y + 1) * 39373) (by decide : (0 : Int) < 1000000007)
      generalize ((y + 1) * 39373) % 1000000007 = f1 at h1 h2 ⊢
      (repeat (first | ((with_reducible apply d_var); focus exact rfl) | ((with_reducible apply t_var); focus exact rfl) | (with_reducible apply d_int) | (with_reducible apply d_str) | (with_reducible apply d_bl) | (with_reducible apply d_non) | (with_reducible apply d_bin) | (with_reducible apply d_cmp) | (with_reducible apply d_ix) | (with_reducible apply d_lst) | (with_reducible apply d_lstC) | (with_reducible apply d_tup) | (with_reducible apply d_sl) | (with_reducible apply d_nn) | (with_reducible apply d_ss) | (with_reducible apply d_nt) | (with_reducible apply d_and) | (with_reducible apply d_or) | (with_reducible apply d_and1) | (with_reducible apply d_or1) | (with_reducible apply d_and2) | (with_reducible apply d_or2) | (with_reducible apply d_ife) | (with_reducible apply d_neg) | (with_reducible apply d_isi) | (with_reducible apply d_fld) | (with_reducible apply d_glb) | (with_reducible apply l_cons) | (with_reducible apply l_nil) | (with_reducible apply int_ex) | (with_reducible apply bl_ex) | (with_reducible apply dq_len) | (with_reducible apply dq_abs) | (with_reducible apply t_nt) | (with_reducible apply t_and) | (with_reducible apply t_or) | (with_reducible apply t_and1) | (with_reducible apply t_or1) | (with_reducible apply t_and2) | (with_reducible apply t_or2) | (with_reducible apply t_cmp) | (with_reducible apply t_chn) | (with_reducible apply t_ix) | (with_reducible apply t_isi) | (with_reducible apply t_fld) | (with_reducible apply tr_bl) | (with_reducible apply o_add) | (with_reducible apply o_sub) | (with_reducible apply c_eqI) | (with_reducible apply c_neI) | (with_reducible apply c_ltI) | (with_reducible apply c_leI) | (with_reducible apply c_gtI) | (with_reducible apply c_geI) | (with_reducible apply ss_cons) | (with_reducible apply ss_nil) | (with_reducible apply st_exp) | (with_reducible apply st_asg) | (with_reducible apply st_asl) | (with_reducible apply st_sti) | (with_reducible apply st_agi) | (with_reducible apply st_ifs) | (with_reducible apply st_ret) | (with_reducible apply st_retN) | (with_reducible apply st_pas) | (with_reducible apply aug_i) | (with_reducible apply abs_i) | (with_reducible apply sl_l) | (with_reducible apply len_l) | (with_reducible apply len_t) | (with_reducible refine And.intro (a := _ ≤ sizeLine) (by rw [sizeLine_eq]; simp only [List.length_cons, List.length_nil, List.length_append, List.length_map]; omega) ?_) | (with_reducible refine o_addL (by rw [sizeLine_eq]; simp only [List.length_cons, List.length_nil, List.length_append, List.length_map]; omega) ?_) | (dsimp only)))
      refine o_mul (.inl (.inl ⟨by omega, by omega⟩)) ?_
      (repeat (first | ((with_reducible apply d_var); focus exact rfl) | ((with_reducible apply t_var); focus exact rfl) | (with_reducible apply d_int) | (with_reducible apply d_str) | (with_reducible apply d_bl) | (with_reducible apply d_non) | (with_reducible apply d_bin) | (with_reducible apply d_cmp) | (with_reducible apply d_ix) | (with_reducible apply d_lst) | (with_reducible apply d_lstC) | (with_reducible apply d_tup) | (with_reducible apply d_sl) | (with_reducible apply d_nn) | (with_reducible apply d_ss) | (with_reducible apply d_nt) | (with_reducible apply d_and) | (with_reducible apply d_or) | (with_reducible apply d_and1) | (with_reducible apply d_or1) | (with_reducible apply d_and2) | (with_reducible apply d_or2) | (with_reducible apply d_ife) | (with_reducible apply d_neg) | (with_reducible apply d_isi) | (with_reducible apply d_fld) | (with_reducible apply d_glb) | (with_reducible apply l_cons) | (with_reducible apply l_nil) | (with_reducible apply int_ex) | (with_reducible apply bl_ex) | (with_reducible apply dq_len) | (with_reducible apply dq_abs) | (with_reducible apply t_nt) | (with_reducible apply t_and) | (with_reducible apply t_or) | (with_reducible apply t_and1) | (with_reducible apply t_or1) | (with_reducible apply t_and2) | (with_reducible apply t_or2) | (with_reducible apply t_cmp) | (with_reducible apply t_chn) | (with_reducible apply t_ix) | (with_reducible apply t_isi) | (with_reducible apply t_fld) | (with_reducible apply tr_bl) | (with_reducible apply o_add) | (with_reducible apply o_sub) | (with_reducible apply c_eqI) | (with_reducible apply c_neI) | (with_reducible apply c_ltI) | (with_reducible apply c_leI) | (with_reducible apply c_gtI) | (with_reducible apply c_geI) | (with_reducible apply ss_cons) | (with_reducible apply ss_nil) | (with_reducible apply st_exp) | (with_reducible apply st_asg) | (with_reducible apply st_asl) | (with_reducible apply st_sti) | (with_reducible apply st_agi) | (with_reducible apply st_ifs) | (with_reducible apply st_ret) | (with_reducible apply st_retN) | (with_reducible apply st_pas) | (with_reducible apply aug_i) | (with_reducible apply abs_i) | (with_reducible apply sl_l) | (with_reducible apply len_l) | (with_reducible apply len_t) | (with_reducible refine And.intro (a := _ ≤ sizeLine) (by rw [sizeLine_eq]; simp only [List.length_cons, List.length_nil, List.length_append, List.length_map]; omega) ?_) | (with_reducible refine o_addL (by rw [sizeLine_eq]; simp only [List.length_cons, List.length_nil, List.length_append, List.length_map]; omega) ?_) | (dsimp only)))
      refine o_mod (by decide) ?_
      (repeat (first | ((with_reducible apply d_var); focus exact rfl) | ((with_reducible apply t_var); focus exact rfl) | (with_reducible apply d_int) | (with_reducible apply d_str) | (with_reducible apply d_bl) | (with_reducible apply d_non) | (with_reducible apply d_bin) | (with_reducible apply d_cmp) | (with_reducible apply d_ix) | (with_reducible apply d_lst) | (with_reducible apply d_lstC) | (with_reducible apply d_tup) | (with_reducible apply d_sl) | (with_reducible apply d_nn) | (with_reducible apply d_ss) | (with_reducible apply d_nt) | (with_reducible apply d_and) | (with_reducible apply d_or) | (with_reducible apply d_and1) | (with_reducible apply d_or1) | (with_reducible apply d_and2) | (with_reducible apply d_or2) | (with_reducible apply d_ife) | (with_reducible apply d_neg) | (with_reducible apply d_isi) | (with_reducible apply d_fld) | (with_reducible apply d_glb) | (with_reducible apply l_cons) | (with_reducible apply l_nil) | (with_reducible apply int_ex) | (with_reducible apply bl_ex) | (with_reducible apply dq_len) | (with_reducible apply dq_abs) | (with_reducible apply t_nt) | (with_reducible apply t_and) | (with_reducible apply t_or) | (with_reducible apply t_and1) | (with_reducible apply t_or1) | (with_reducible apply t_and2) | (with_reducible apply t_or2) | (with_reducible apply t_cmp) | (with_reducible apply t_chn) | (with_reducible apply t_ix) | (with_reducible apply t_isi) | (with_reducible apply t_fld) | (with_reducible apply tr_bl) | (with_reducible apply o_add) | (with_reducible apply o_sub) | (with_reducible apply c_eqI) | (with_reducible apply c_neI) | (with_reducible apply c_ltI) | (with_reducible apply c_leI) | (with_reducible apply c_gtI) | (with_reducible apply c_geI) | (with_reducible apply ss_cons) | (with_reducible apply ss_nil) | (with_reducible apply st_exp) | (with_reducible apply st_asg) | (with_reducible apply st_asl) | (with_reducible apply st_sti) | (with_reducible apply st_agi) | (with_reducible apply st_ifs) | (with_reducible apply st_ret) | (with_reducible apply st_retN) | (with_reducible apply st_pas) | (with_reducible apply aug_i) | (with_reducible apply abs_i) | (with_reducible apply sl_l) | (with_reducible apply len_l) | (with_reducible apply len_t) | (with_reducible refine And.intro (a := _ ≤ sizeLine) (by rw [sizeLine_eq]; simp only [List.length_cons, List.length_nil, List.length_append, List.length_map]; omega) ?_) | (with_reducible refine o_addL (by rw [sizeLine_eq]; simp only [List.length_cons, List.length_nil, List.length_append, List.length_map]; omega) ?_) | (dsimp only)))
      refine o_mul (.inl (.inr (by decide))) ?_
      (repeat (first | ((with_reducible apply d_var); focus exact rfl) | ((with_reducible apply t_var); focus exact rfl) | (with_reducible apply d_int) | (with_reducible apply d_str) | (with_reducible apply d_bl) | (with_reducible apply d_non) | (with_reducible apply d_bin) | (with_reducible apply d_cmp) | (with_reducible apply d_ix) | (with_reducible apply d_lst) | (with_reducible apply d_lstC) | (with_reducible apply d_tup) | (with_reducible apply d_sl) | (with_reducible apply d_nn) | (with_reducible apply d_ss) | (with_reducible apply d_nt) | (with_reducible apply d_and) | (with_reducible apply d_or) | (with_reducible apply d_and1) | (with_reducible apply d_or1) | (with_reducible apply d_and2) | (with_reducible apply d_or2) | (with_reducible apply d_ife) | (with_reducible apply d_neg) | (with_reducible apply d_isi) | (with_reducible apply d_fld) | (with_reducible apply d_glb) | (with_reducible apply l_cons) | (with_reducible apply l_nil) | (with_reducible apply int_ex) | (with_reducible apply bl_ex) | (with_reducible apply dq_len) | (with_reducible apply dq_abs) | (with_reducible apply t_nt) | (with_reducible apply t_and) | (with_reducible apply t_or) | (with_reducible apply t_and1) | (with_reducible apply t_or1) | (with_reducible apply t_and2) | (with_reducible apply t_or2) | (with_reducible apply t_cmp) | (with_reducible apply t_chn) | (with_reducible apply t_ix) | (with_reducible apply t_isi) | (with_reducible apply t_fld) | (with_reducible apply tr_bl) | (with_reducible apply o_add) | (with_reducible apply o_sub) | (with_reducible apply c_eqI) | (with_reducible apply c_neI) | (with_reducible apply c_ltI) | (with_reducible apply c_leI) | (with_reducible apply c_gtI) | (with_reducible apply c_geI) | (with_reducible apply ss_cons) | (with_reducible apply ss_nil) | (with_reducible apply st_exp) | (with_reducible apply st_asg) | (with_reducible apply st_asl) | (with_reducible apply st_sti) | (with_reducible apply st_agi) | (with_reducible apply st_ifs) | (with_reducible apply st_ret) | (with_reducible apply st_retN) | (with_reducible apply st_pas) | (with_reducible apply aug_i) | (with_reducible apply abs_i) | (with_reducible apply sl_l) | (with_reducible apply len_l) | (with_reducible apply len_t) | (with_reducible refine And.intro (a := _ ≤ sizeLine) (by rw [sizeLine_eq]; simp only [List.length_cons, List.length_nil, List.length_append, List.length_map]; omega) ?_) | (with_reducible refine o_addL (by rw [sizeLine_eq]; simp only [List.length_cons, List.length_nil, List.length_append, List.length_map]; omega) ?_) | (dsimp only)))
      refine o_mod (by decide) ?_
      have h3 := Int.emod_nonneg (f1 * f1 % 998244353 * 30011) (by decide : (998244353 : Int) ≠ 0)
      have h4 := Int.emod_lt_of_pos (f1 * f1 % 998244353 * 30011) (by decide : (0 : Int) < 998244353)
      generalize (f1 * f1 % 998244353 * 30011) % 998244353 = f2 at h3 h4 ⊢
      (repeat (first | ((with_reducible apply d_var); focus exact rfl) | ((with_reducible apply t_var); focus exact rfl) | (with_reducible apply d_int) | (with_reducible apply d_str) | (with_reducible apply d_bl) | (with_reducible apply d_non) | (with_reducible apply d_bin) | (with_reducible apply d_cmp) | (with_reducible apply d_ix) | (with_reducible apply d_lst) | (with_reducible apply d_lstC) | (with_reducible apply d_tup) | (with_reducible apply d_sl) | (with_reducible apply d_nn) | (with_reducible apply d_ss) | (with_reducible apply d_nt) | (with_reducible apply d_and) | (with_reducible apply d_or) | (with_reducible apply d_and1) | (with_reducible apply d_or1) | (with_reducible apply d_and2) | (with_reducible apply d_or2) | (with_reducible apply d_ife) | (with_reducible apply d_neg) | (with_reducible apply d_isi) | (with_reducible apply d_fld) | (with_reducible apply d_glb) | (with_reducible apply l_cons) | (with_reducible apply l_nil) | (with_reducible apply int_ex) | (with_reducible apply bl_ex) | (with_reducible apply dq_len) | (with_reducible apply dq_abs) | (with_reducible apply t_nt) | (with_reducible apply t_and) | (with_reducible apply t_or) | (with_reducible apply t_and1) | (with_reducible apply t_or1) | (with_reducible apply t_and2) | (with_reducible apply t_or2) | (with_reducible apply t_cmp) | (with_reducible apply t_chn) | (with_reducible apply t_ix) | (with_reducible apply t_isi) | (with_reducible apply t_fld) | (with_reducible apply tr_bl) | (with_reducible apply o_add) | (with_reducible apply o_sub) | (with_reducible apply c_eqI) | (with_reducible apply c_neI) | (with_reducible apply c_ltI) | (with_reducible apply c_leI) | (with_reducible apply c_gtI) | (with_reducible apply c_geI) | (with_reducible apply ss_cons) | (with_reducible apply ss_nil) | (with_reducible apply st_exp) | (with_reducible apply st_asg) | (with_reducible apply st_asl) | (with_reducible apply st_sti) | (with_reducible apply st_agi) | (with_reducible apply st_ifs) | (with_reducible apply st_ret) | (with_reducible apply st_retN) | (with_reducible apply st_pas) | (with_reducible apply aug_i) | (with_reducible apply abs_i) | (with_reducible apply sl_l) | (with_reducible apply len_l) | (with_reducible apply len_t) | (with_reducible refine And.intro (a := _ ≤ sizeLine) (by rw [sizeLine_eq]; simp only [List.length_cons, List.length_nil, List.length_append, List.length_map]; omega) ?_) | (with_reducible refine o_addL (by rw [sizeLine_eq]; simp only [List.length_cons, List.length_nil, List.length_append, List.length_map]; omega) ?_) | (dsimp only)))
      split
      · (repeat (first | ((with_reducible apply d_var); focus exact rfl) | ((with_reducible apply t_var); focus exact rfl) | (with_reducible apply d_int) | (with_reducible apply d_str) | (with_reducible apply d_bl) | (with_reducible apply d_non) | (with_reducible apply d_bin) | (with_reducible apply d_cmp) | (with_reducible apply d_ix) | (with_reducible apply d_lst) | (with_reducible apply d_lstC) | (with_reducible apply d_tup) | (with_reducible apply d_sl) | (with_reducible apply d_nn) | (with_reducible apply d_ss) | (with_reducible apply d_nt) | (with_reducible apply d_and) | (with_reducible apply d_or) | (with_reducible apply d_and1) | (with_reducible apply d_or1) | (with_reducible apply d_and2) | (with_reducible apply d_or2) | (with_reducible apply d_ife) | (with_reducible apply d_neg) | (with_reducible apply d_isi) | (with_reducible apply d_fld) | (with_reducible apply d_glb) | (with_reducible apply l_cons) | (with_reducible apply l_nil) | (with_reducible apply int_ex) | (with_reducible apply bl_ex) | (with_reducible apply dq_len) | (with_reducible apply dq_abs) | (with_reducible apply t_nt) | (with_reducible apply t_and) | (with_reducible apply t_or) | (with_reducible apply t_and1) | (with_reducible apply t_or1) | (with_reducible apply t_and2) | (with_reducible apply t_or2) | (with_reducible apply t_cmp) | (with_reducible apply t_chn) | (with_reducible apply t_ix) | (with_reducible apply t_isi) | (with_reducible apply t_fld) | (with_reducible apply tr_bl) | (with_reducible apply o_add) | (with_reducible apply o_sub) | (with_reducible apply c_eqI) | (with_reducible apply c_neI) | (with_reducible apply c_ltI) | (with_reducible apply c_leI) | (with_reducible apply c_gtI) | (with_reducible apply c_geI) | (with_reducible apply ss_cons) | (with_reducible apply ss_nil) | (with_reducible apply st_exp) | (with_reducible apply st_asg) | (with_reducible apply st_asl) | (with_reducible apply st_sti) | (with_reducible apply st_agi) | (with_reducible apply st_ifs) | (with_reducible apply st_ret) | (with_reducible apply st_retN) | (with_reducible apply st_pas) | (with_reducible apply aug_i) | (with_reducible apply abs_i) | (with_reducible apply sl_l) | (with_reducible apply len_l) | (with_reducible apply len_t) | (with_reducible refine And.intro (a := _ ≤ sizeLine) (by rw [sizeLine_eq]; simp only [List.length_cons, List.length_nil, List.length_append, List.length_map]; omega) ?_) | (with_reducible refine o_addL (by rw [sizeLine_eq]; simp only [List.length_cons, List.length_nil, List.length_append, List.length_map]; omega) ?_) | (dsimp only)))
        refine o_mul (.inl (.inr (by decide))) ?_
        (repeat (first | ((with_reducible apply d_var); focus exact rfl) | ((with_reducible apply t_var); focus exact rfl) | (with_reducible apply d_int) | (with_reducible apply d_str) | (with_reducible apply d_bl) | (with_reducible apply d_non) | (with_reducible apply d_bin) | (with_reducible apply d_cmp) | (with_reducible apply d_ix) | (with_reducible apply d_lst) | (with_reducible apply d_lstC) | (with_reducible apply d_tup) | (with_reducible apply d_sl) | (with_reducible apply d_nn) | (with_reducible apply d_ss) | (with_reducible apply d_nt) | (with_reducible apply d_and) | (with_reducible apply d_or) | (with_reducible apply d_and1) | (with_reducible apply d_or1) | (with_reducible apply d_and2) | (with_reducible apply d_or2) | (with_reducible apply d_ife) | (with_reducible apply d_neg) | (with_reducible apply d_isi) | (with_reducible apply d_fld) | (with_reducible apply d_glb) | (with_reducible apply l_cons) | (with_reducible apply l_nil) | (with_reducible apply int_ex) | (with_reducible apply bl_ex) | (with_reducible apply dq_len) | (with_reducible apply dq_abs) | (with_reducible apply t_nt) | (with_reducible apply t_and) | (with_reducible apply t_or) | (with_reducible apply t_and1) | (with_reducible apply t_or1) | (with_reducible apply t_and2) | (with_reducible apply t_or2) | (with_reducible apply t_cmp) | (with_reducible apply t_chn) | (with_reducible apply t_ix) | (with_reducible apply t_isi) | (with_reducible apply t_fld) | (with_reducible apply tr_bl) | (with_reducible apply o_add) | (with_reducible apply o_sub) | (with_reducible apply c_eqI) | (with_reducible apply c_neI) | (with_reducible apply c_ltI) | (with_reducible apply c_leI) | (with_reducible apply c_gtI) | (with_reducible apply c_geI) | (with_reducible apply ss_cons) | (with_reducible apply ss_nil) | (with_reducible apply st_exp) | (with_reducible apply st_asg) | (with_reducible apply st_asl) | (with_reducible apply st_sti) | (with_reducible apply st_agi) | (with_reducible apply st_ifs) | (with_reducible apply st_ret) | (with_reducible apply st_retN) | (with_reducible apply st_pas) | (with_reducible apply aug_i) | (with_reducible apply abs_i) | (with_reducible apply sl_l) | (with_reducible apply len_l) | (with_reducible apply len_t) | (with_reducible refine And.intro (a := _ ≤ sizeLine) (by rw [sizeLine_eq]; simp only [List.length_cons, List.length_nil, List.length_append, List.length_map]; omega) ?_) | (with_reducible refine o_addL (by rw [sizeLine_eq]; simp only [List.length_cons, List.length_nil, List.length_append, List.length_map]; omega) ?_) | (dsimp only)))
        refine o_mod hn ?_
        exact hK _ _ (Int.emod_nonneg _ (by omega)) (Int.emod_lt_of_pos _ hn) ⟨x, y, z, cells, rfl, hx, hy, hy2, hz, hc⟩
      · (repeat (first | ((with_reducible apply d_var); focus exact rfl) | ((with_reducible apply t_var); focus exact rfl) | (with_reducible apply d_int) | (with_reducible apply d_str) | (with_reducible apply d_bl) | (with_reducible apply d_non) | (with_reducible apply d_bin) | (with_reducible apply d_cmp) | (with_reducible apply d_ix) | (with_reducible apply d_lst) | (with_reducible apply d_lstC) | (with_reducible apply d_tup) | (with_reducible apply d_sl) | (with_reducible apply d_nn) | (with_reducible apply d_ss) | (with_reducible apply d_nt) | (with_reducible apply d_and) | (with_reducible apply d_or) | (with_reducible apply d_and1) | (with_reducible apply d_or1) | (with_reducible apply d_and2) | (with_reducible apply d_or2) | (with_reducible apply d_ife) | (with_reducible apply d_neg) | (with_reducible apply d_isi) | (with_reducible apply d_fld) | (with_reducible apply d_glb) | (with_reducible apply l_cons) | (with_reducible apply l_nil) | (with_reducible apply int_ex) | (with_reducible apply bl_ex) | (with_reducible apply dq_len) | (with_reducible apply dq_abs) | (with_reducible apply t_nt) | (with_reducible apply t_and) | (with_reducible apply t_or) | (with_reducible apply t_and1) | (with_reducible apply t_or1) | (with_reducible apply t_and2) | (with_reducible apply t_or2) | (with_reducible apply t_cmp) | (with_reducible apply t_chn) | (with_reducible apply t_ix) | (with_reducible apply t_isi) | (with_reducible apply t_fld) | (with_reducible apply tr_bl) | (with_reducible apply o_add) | (with_reducible apply o_sub) | (with_reducible apply c_eqI) | (with_reducible apply c_neI) | (with_reducible apply c_ltI) | (with_reducible apply c_leI) | (with_reducible apply c_gtI) | (with_reducible apply c_geI) | (with_reducible apply ss_cons) | (with_reducible apply ss_nil) | (with_reducible apply st_exp) | (with_reducible apply st_asg) | (with_reducible apply st_asl) | (with_reducible apply st_sti) | (with_reducible apply st_agi) | (with_reducible apply st_ifs) | (with_reducible apply st_ret) | (with_reducible apply st_retN) | (with_reducible apply st_pas) | (with_reducible apply aug_i) | (with_reducible apply abs_i) | (with_reducible apply sl_l) | (with_reducible apply len_l) | (with_reducible apply len_t) | (with_reducible refine And.intro (a := _ ≤ sizeLine) (by rw [sizeLine_eq]; simp only [List.length_cons, List.length_nil, List.length_append, List.length_map]; omega) ?_) | (with_reducible refine o_addL (by rw [sizeLine_eq]; simp only [List.length_cons, List.length_nil, List.length_append, List.length_map]; omega) ?_) | (dsimp only)))
        refine o_div ⟨by decide, by decide⟩ ?_
        (repeat (first | ((with_reducible apply d_var); focus exact rfl) | ((with_reducible apply t_var); focus exact rfl) | (with_reducible apply d_int) | (with_reducible apply d_str) | (with_reducible apply d_bl) | (with_reducible apply d_non) | (with_reducible apply d_bin) | (with_reducible apply d_cmp) | (with_reducible apply d_ix) | (with_reducible apply d_lst) | (with_reducible apply d_lstC) | (with_reducible apply d_tup) | (with_reducible apply d_sl) | (with_reducible apply d_nn) | (with_reducible apply d_ss) | (with_reducible apply d_nt) | (with_reducible apply d_and) | (with_reducible apply d_or) | (with_reducible apply d_and1) | (with_reducible apply d_or1) | (with_reducible apply d_and2) | (with_reducible apply d_or2) | (with_reducible apply d_ife) | (with_reducible apply d_neg) | (with_reducible apply d_isi) | (with_reducible apply d_fld) | (with_reducible apply d_glb) | (with_reducible apply l_cons) | (with_reducible apply l_nil) | (with_reducible apply int_ex) | (with_reducible apply bl_ex) | (with_reducible apply dq_len) | (with_reducible apply dq_abs) | (with_reducible apply t_nt) | (with_reducible apply t_and) | (with_reducible apply t_or) | (with_reducible apply t_and1) | (with_reducible apply t_or1) | (with_reducible apply t_and2) | (with_reducible apply t_or2) | (with_reducible apply t_cmp) | (with_reducible apply t_chn) | (with_reducible apply t_ix) | (with_reducible apply t_isi) | (with_reducible apply t_fld) | (with_reducible apply tr_bl) | (with_reducible apply o_add) | (with_reducible apply o_sub) | (with_reducible apply c_eqI) | (with_reducible apply c_neI) | (with_reducible apply c_ltI) | (with_reducible apply c_leI) | (with_reducible apply c_gtI) | (with_reducible apply c_geI) | (with_reducible apply ss_cons) | (with_reducible apply ss_nil) | (with_reducible apply st_exp) | (with_reducible apply st_asg) | (with_reducible apply st_asl) | (with_reducible apply st_sti) | (with_reducible apply st_agi) | (with_reducible apply st_ifs) | (with_reducible apply st_ret) | (with_reducible apply st_retN) | (with_reducible apply st_pas) | (with_reducible apply aug_i) | (with_reducible apply abs_i) | (with_reducible apply sl_l) | (with_reducible apply len_l) | (with_reducible apply len_t) | (with_reducible refine And.intro (a := _ ≤ sizeLine) (by rw [sizeLine_eq]; simp only [List.length_cons, List.length_nil, List.length_append, List.length_map]; omega) ?_) | (with_reducible refine o_addL (by rw [sizeLine_eq]; simp only [List.length_cons, List.length_nil, List.length_append, List.length_map]; omega) ?_) | (dsimp only)))
        refine o_mod hn ?_
        exact hK _ _ (Int.emod_nonneg _ (by omega)) (Int.emod_lt_of_pos _ hn) ⟨x, y, z, cells, rfl, hx, hy, hy2, hz, hc⟩

/-! ### the row's other defs -/
def nm (w : Nat) : Str := clsL.getD (w + 1) ""
def TBag : TR := fun m ds S K Y => m = none ∧ ∃ ns : List Int, ds = [.lst (ns.map .int)] ∧ ∀ p c, S p = none → BagOk c → K (.obj p) (S.set p c)
def flagsD (w : Nat) : List D := (List.range 13).map (fun j => D.bl (decide (j = w))) ++ [.bl true]
def TFlags (K0 : PySem.W.Frag) : TR := fun m ds S K Y => ∃ a oe fs w, m = some (a, oe) ∧ w < 13 ∧ ds = [.exc a oe (He.ga K0 (nm w)) fs] ∧ K (.lst (flagsD w)) S
def TFurther (K0 : PySem.W.Frag) : TR := fun m ds S K Y => ∃ (w : Nat) (d : D), m = none ∧ 7 ≤ w ∧ w < 13 ∧ ds = [.int w, d] ∧ ∀ fs, Y (He.ga K0 (nm w)) fs S
def TRaised (K0 : PySem.W.Frag) : TR := fun m ds S K Y => ∃ (w : Nat) (d : D), m = none ∧ w < 13 ∧ ds = [.int w, d] ∧ ∀ fs, Y (He.ga K0 (nm w)) fs S
def TCaught : TR := fun m ds S K Y => ∃ (w : Nat) (d : D), m = none ∧ w < 13 ∧ ds = [.int w, d] ∧ K (.lst (flagsD w)) S
def tb (K : PySem.W.Frag) : Tb := ⟨fnsL, clsL, gvsL, [some TBag, none, some (TFurther K), some (TRaised K), some TCaught, some TTake, some (lawT 63)], [none, some (TFlags K), none, none, none, none, none], [], [none, some (.fld "at"), some (.fld "name"), some (.fld "name"), some (.fld "most"), some (.fld "name"), some (.fld "hands"), some (.fld "name"), some (.fld "way"), some (.fld "job"), some (.fld "damp"), some (.fld "number"), some .bare, some .bare]⟩
def EXCL : List Str := ["Wrong", "There", "Lacks", "TooMany", "InUse", "Held", "Stuck", "NoPart", "NotNow", "NotDry", "Known", "NoText", "NoRow"]
theorem exl (w : Nat) (h : w < 13) : nm w ∈ EXCL := by
  have : ∀ w : Fin 13, nm w.1 ∈ EXCL := by decide +kernel
  exact this ⟨w, h⟩
theorem nmi (w j : Nat) (h : w < 13) (hj : j < 13) : decide (nm w = nm j) = decide (j = w) := by
  have : ∀ w j : Fin 13, decide (nm w.1 = nm j.1) = decide (j.1 = w.1) := by decide +kernel
  exact this ⟨w, h⟩ ⟨j, hj⟩
section
variable {K : PySem.W.Frag}
theorem kit_w (c : SaysX fa fn fx K) {w : Nat} {m : Option (Addr × Obj)} (j : Nat) (h : w < 13) (hj : j < 13) : PySem.W.kitOne K (.ref (He.ga K (nm w))) ((Cn.own (j + 1)).val ((tb K).G K 1 m).toGm) = some (decide (j = w)) := by
  rw [← nmi w j h hj]
  exact sib_ok (c.fact 34 rfl) (exl w h) (exl j hj)
theorem me1h (c : SaysX fa fn fx K) : Meets ((tb K).sn N1) ((tb K).G K 1) 1 true (TFlags K) b1 := by
  rintro m hm ds S KK Y ⟨a, oe, fs, w, rfl, hw, rfl, hK⟩
  refine ⟨rfl, ?_⟩
  have hF : ExcF K (He.ga K (nm w)) := exfs_ok (c.fact 37 rfl) (exl w hw)
  have hv : PySem.W.kitOne K (.ref (He.ga K (nm w))) ((Cn.ty "ValueError").val ((tb K).G K 1 (some (a, oe))).toGm) = some true := veT_ok (c.fact 35 rfl) (exl w hw)
  show denSs _ b1 [some (.exc a oe (He.ga K (nm w)) fs), none] S _ _
  unfold b1
  (repeat (first | ((with_reducible apply d_var); focus exact rfl) | ((with_reducible apply t_var); focus exact rfl) | (with_reducible apply d_int) | (with_reducible apply d_str) | (with_reducible apply d_bl) | (with_reducible apply d_non) | (with_reducible apply d_bin) | (with_reducible apply d_cmp) | (with_reducible apply d_ix) | (with_reducible apply d_lst) | (with_reducible apply d_lstC) | (with_reducible apply d_tup) | (with_reducible apply d_sl) | (with_reducible apply d_nn) | (with_reducible apply d_ss) | (with_reducible apply d_nt) | (with_reducible apply d_and) | (with_reducible apply d_or) | (with_reducible apply d_and1) | (with_reducible apply d_or1) | (with_reducible apply d_and2) | (with_reducible apply d_or2) | (with_reducible apply d_ife) | (with_reducible apply d_neg) | (with_reducible apply d_isi) | (with_reducible apply d_fld) | (with_reducible apply d_glb) | (with_reducible apply l_cons) | (with_reducible apply l_nil) | (with_reducible apply int_ex) | (with_reducible apply bl_ex) | (with_reducible apply dq_len) | (with_reducible apply dq_abs) | (with_reducible apply t_nt) | (with_reducible apply t_and) | (with_reducible apply t_or) | (with_reducible apply t_and1) | (with_reducible apply t_or1) | (with_reducible apply t_and2) | (with_reducible apply t_or2) | (with_reducible apply t_cmp) | (with_reducible apply t_chn) | (with_reducible apply t_ix) | (with_reducible apply t_isi) | (with_reducible apply t_fld) | (with_reducible apply tr_bl) | (with_reducible apply o_add) | (with_reducible apply o_sub) | (with_reducible apply c_eqI) | (with_reducible apply c_neI) | (with_reducible apply c_ltI) | (with_reducible apply c_leI) | (with_reducible apply c_gtI) | (with_reducible apply c_geI) | (with_reducible apply ss_cons) | (with_reducible apply ss_nil) | (with_reducible apply st_exp) | (with_reducible apply st_asg) | (with_reducible apply st_asl) | (with_reducible apply st_sti) | (with_reducible apply st_agi) | (with_reducible apply st_ifs) | (with_reducible apply st_ret) | (with_reducible apply st_retN) | (with_reducible apply st_pas) | (with_reducible apply aug_i) | (with_reducible apply abs_i) | (with_reducible apply sl_l) | (with_reducible apply len_l) | (with_reducible apply len_t) | (with_reducible refine And.intro (a := _ ≤ sizeLine) (by rw [sizeLine_eq]; simp only [List.length_cons, List.length_nil, List.length_append, List.length_map]; omega) ?_) | (with_reducible refine o_addL (by rw [sizeLine_eq]; simp only [List.length_cons, List.length_nil, List.length_append, List.length_map]; omega) ?_) | (dsimp only)))
  refine isi_x rfl hF (kit_w c 0 hw (by decide)) ?_
  (repeat (first | ((with_reducible apply d_var); focus exact rfl) | ((with_reducible apply t_var); focus exact rfl) | (with_reducible apply d_int) | (with_reducible apply d_str) | (with_reducible apply d_bl) | (with_reducible apply d_non) | (with_reducible apply d_bin) | (with_reducible apply d_cmp) | (with_reducible apply d_ix) | (with_reducible apply d_lst) | (with_reducible apply d_lstC) | (with_reducible apply d_tup) | (with_reducible apply d_sl) | (with_reducible apply d_nn) | (with_reducible apply d_ss) | (with_reducible apply d_nt) | (with_reducible apply d_and) | (with_reducible apply d_or) | (with_reducible apply d_and1) | (with_reducible apply d_or1) | (with_reducible apply d_and2) | (with_reducible apply d_or2) | (with_reducible apply d_ife) | (with_reducible apply d_neg) | (with_reducible apply d_isi) | (with_reducible apply d_fld) | (with_reducible apply d_glb) | (with_reducible apply l_cons) | (with_reducible apply l_nil) | (with_reducible apply int_ex) | (with_reducible apply bl_ex) | (with_reducible apply dq_len) | (with_reducible apply dq_abs) | (with_reducible apply t_nt) | (with_reducible apply t_and) | (with_reducible apply t_or) | (with_reducible apply t_and1) | (with_reducible apply t_or1) | (with_reducible apply t_and2) | (with_reducible apply t_or2) | (with_reducible apply t_cmp) | (with_reducible apply t_chn) | (with_reducible apply t_ix) | (with_reducible apply t_isi) | (with_reducible apply t_fld) | (with_reducible apply tr_bl) | (with_reducible apply o_add) | (with_reducible apply o_sub) | (with_reducible apply c_eqI) | (with_reducible apply c_neI) | (with_reducible apply c_ltI) | (with_reducible apply c_leI) | (with_reducible apply c_gtI) | (with_reducible apply c_geI) | (with_reducible apply ss_cons) | (with_reducible apply ss_nil) | (with_reducible apply st_exp) | (with_reducible apply st_asg) | (with_reducible apply st_asl) | (with_reducible apply st_sti) | (with_reducible apply st_agi) | (with_reducible apply st_ifs) | (with_reducible apply st_ret) | (with_reducible apply st_retN) | (with_reducible apply st_pas) | (with_reducible apply aug_i) | (with_reducible apply abs_i) | (with_reducible apply sl_l) | (with_reducible apply len_l) | (with_reducible apply len_t) | (with_reducible refine And.intro (a := _ ≤ sizeLine) (by rw [sizeLine_eq]; simp only [List.length_cons, List.length_nil, List.length_append, List.length_map]; omega) ?_) | (with_reducible refine o_addL (by rw [sizeLine_eq]; simp only [List.length_cons, List.length_nil, List.length_append, List.length_map]; omega) ?_) | (dsimp only)))
  refine isi_x rfl hF (kit_w c 1 hw (by decide)) ?_
  (repeat (first | ((with_reducible apply d_var); focus exact rfl) | ((with_reducible apply t_var); focus exact rfl) | (with_reducible apply d_int) | (with_reducible apply d_str) | (with_reducible apply d_bl) | (with_reducible apply d_non) | (with_reducible apply d_bin) | (with_reducible apply d_cmp) | (with_reducible apply d_ix) | (with_reducible apply d_lst) | (with_reducible apply d_lstC) | (with_reducible apply d_tup) | (with_reducible apply d_sl) | (with_reducible apply d_nn) | (with_reducible apply d_ss) | (with_reducible apply d_nt) | (with_reducible apply d_and) | (with_reducible apply d_or) | (with_reducible apply d_and1) | (with_reducible apply d_or1) | (with_reducible apply d_and2) | (with_reducible apply d_or2) | (with_reducible apply d_ife) | (with_reducible apply d_neg) | (with_reducible apply d_isi) | (with_reducible apply d_fld) | (with_reducible apply d_glb) | (with_reducible apply l_cons) | (with_reducible apply l_nil) | (with_reducible apply int_ex) | (with_reducible apply bl_ex) | (with_reducible apply dq_len) | (with_reducible apply dq_abs) | (with_reducible apply t_nt) | (with_reducible apply t_and) | (with_reducible apply t_or) | (with_reducible apply t_and1) | (with_reducible apply t_or1) | (with_reducible apply t_and2) | (with_reducible apply t_or2) | (with_reducible apply t_cmp) | (with_reducible apply t_chn) | (with_reducible apply t_ix) | (with_reducible apply t_isi) | (with_reducible apply t_fld) | (with_reducible apply tr_bl) | (with_reducible apply o_add) | (with_reducible apply o_sub) | (with_reducible apply c_eqI) | (with_reducible apply c_neI) | (with_reducible apply c_ltI) | (with_reducible apply c_leI) | (with_reducible apply c_gtI) | (with_reducible apply c_geI) | (with_reducible apply ss_cons) | (with_reducible apply ss_nil) | (with_reducible apply st_exp) | (with_reducible apply st_asg) | (with_reducible apply st_asl) | (with_reducible apply st_sti) | (with_reducible apply st_agi) | (with_reducible apply st_ifs) | (with_reducible apply st_ret) | (with_reducible apply st_retN) | (with_reducible apply st_pas) | (with_reducible apply aug_i) | (with_reducible apply abs_i) | (with_reducible apply sl_l) | (with_reducible apply len_l) | (with_reducible apply len_t) | (with_reducible refine And.intro (a := _ ≤ sizeLine) (by rw [sizeLine_eq]; simp only [List.length_cons, List.length_nil, List.length_append, List.length_map]; omega) ?_) | (with_reducible refine o_addL (by rw [sizeLine_eq]; simp only [List.length_cons, List.length_nil, List.length_append, List.length_map]; omega) ?_) | (dsimp only)))
  refine isi_x rfl hF (kit_w c 2 hw (by decide)) ?_
  (repeat (first | ((with_reducible apply d_var); focus exact rfl) | ((with_reducible apply t_var); focus exact rfl) | (with_reducible apply d_int) | (with_reducible apply d_str) | (with_reducible apply d_bl) | (with_reducible apply d_non) | (with_reducible apply d_bin) | (with_reducible apply d_cmp) | (with_reducible apply d_ix) | (with_reducible apply d_lst) | (with_reducible apply d_lstC) | (with_reducible apply d_tup) | (with_reducible apply d_sl) | (with_reducible apply d_nn) | (with_reducible apply d_ss) | (with_reducible apply d_nt) | (with_reducible apply d_and) | (with_reducible apply d_or) | (with_reducible apply d_and1) | (with_reducible apply d_or1) | (with_reducible apply d_and2) | (with_reducible apply d_or2) | (with_reducible apply d_ife) | (with_reducible apply d_neg) | (with_reducible apply d_isi) | (with_reducible apply d_fld) | (with_reducible apply d_glb) | (with_reducible apply l_cons) | (with_reducible apply l_nil) | (with_reducible apply int_ex) | (with_reducible apply bl_ex) | (with_reducible apply dq_len) | (with_reducible apply dq_abs) | (with_reducible apply t_nt) | (with_reducible apply t_and) | (with_reducible apply t_or) | (with_reducible apply t_and1) | (with_reducible apply t_or1) | (with_reducible apply t_and2) | (with_reducible apply t_or2) | (with_reducible apply t_cmp) | (with_reducible apply t_chn) | (with_reducible apply t_ix) | (with_reducible apply t_isi) | (with_reducible apply t_fld) | (with_reducible apply tr_bl) | (with_reducible apply o_add) | (with_reducible apply o_sub) | (with_reducible apply c_eqI) | (with_reducible apply c_neI) | (with_reducible apply c_ltI) | (with_reducible apply c_leI) | (with_reducible apply c_gtI) | (with_reducible apply c_geI) | (with_reducible apply ss_cons) | (with_reducible apply ss_nil) | (with_reducible apply st_exp) | (with_reducible apply st_asg) | (with_reducible apply st_asl) | (with_reducible apply st_sti) | (with_reducible apply st_agi) | (with_reducible apply st_ifs) | (with_reducible apply st_ret) | (with_reducible apply st_retN) | (with_reducible apply st_pas) | (with_reducible apply aug_i) | (with_reducible apply abs_i) | (with_reducible apply sl_l) | (with_reducible apply len_l) | (with_reducible apply len_t) | (with_reducible refine And.intro (a := _ ≤ sizeLine) (by rw [sizeLine_eq]; simp only [List.length_cons, List.length_nil, List.length_append, List.length_map]; omega) ?_) | (with_reducible refine o_addL (by rw [sizeLine_eq]; simp only [List.length_cons, List.length_nil, List.length_append, List.length_map]; omega) ?_) | (dsimp only)))
  refine isi_x rfl hF (kit_w c 3 hw (by decide)) ?_
  (repeat (first | ((with_reducible apply d_var); focus exact rfl) | ((with_reducible apply t_var); focus exact rfl) | (with_reducible apply d_int) | (with_reducible apply d_str) | (with_reducible apply d_bl) | (with_reducible apply d_non) | (with_reducible apply d_bin) | (with_reducible apply d_cmp) | (with_reducible apply d_ix) | (with_reducible apply d_lst) | (with_reducible apply d_lstC) | (with_reducible apply d_tup) | (with_reducible apply d_sl) | (with_reducible apply d_nn) | (with_reducible apply d_ss) | (with_reducible apply d_nt) | (with_reducible apply d_and) | (with_reducible apply d_or) | (with_reducible apply d_and1) | (with_reducible apply d_or1) | (with_reducible apply d_and2) | (with_reducible apply d_or2) | (with_reducible apply d_ife) | (with_reducible apply d_neg) | (with_reducible apply d_isi) | (with_reducible apply d_fld) | (with_reducible apply d_glb) | (with_reducible apply l_cons) | (with_reducible apply l_nil) | (with_reducible apply int_ex) | (with_reducible apply bl_ex) | (with_reducible apply dq_len) | (with_reducible apply dq_abs) | (with_reducible apply t_nt) | (with_reducible apply t_and) | (with_reducible apply t_or) | (with_reducible apply t_and1) | (with_reducible apply t_or1) | (with_reducible apply t_and2) | (with_reducible apply t_or2) | (with_reducible apply t_cmp) | (with_reducible apply t_chn) | (with_reducible apply t_ix) | (with_reducible apply t_isi) | (with_reducible apply t_fld) | (with_reducible apply tr_bl) | (with_reducible apply o_add) | (with_reducible apply o_sub) | (with_reducible apply c_eqI) | (with_reducible apply c_neI) | (with_reducible apply c_ltI) | (with_reducible apply c_leI) | (with_reducible apply c_gtI) | (with_reducible apply c_geI) | (with_reducible apply ss_cons) | (with_reducible apply ss_nil) | (with_reducible apply st_exp) | (with_reducible apply st_asg) | (with_reducible apply st_asl) | (with_reducible apply st_sti) | (with_reducible apply st_agi) | (with_reducible apply st_ifs) | (with_reducible apply st_ret) | (with_reducible apply st_retN) | (with_reducible apply st_pas) | (with_reducible apply aug_i) | (with_reducible apply abs_i) | (with_reducible apply sl_l) | (with_reducible apply len_l) | (with_reducible apply len_t) | (with_reducible refine And.intro (a := _ ≤ sizeLine) (by rw [sizeLine_eq]; simp only [List.length_cons, List.length_nil, List.length_append, List.length_map]; omega) ?_) | (with_reducible refine o_addL (by rw [sizeLine_eq]; simp only [List.length_cons, List.length_nil, List.length_append, List.length_map]; omega) ?_) | (dsimp only)))
  (repeat (first | ((with_reducible apply d_var); focus exact rfl) | ((with_reducible apply t_var); focus exact rfl) | (with_reducible apply d_int) | (with_reducible apply d_str) | (with_reducible apply d_bl) | (with_reducible apply d_non) | (with_reducible apply d_bin) | (with_reducible apply d_cmp) | (with_reducible apply d_ix) | (with_reducible apply d_lst) | (with_reducible apply d_lstC) | (with_reducible apply d_tup) | (with_reducible apply d_sl) | (with_reducible apply d_nn) | (with_reducible apply d_ss) | (with_reducible apply d_nt) | (with_reducible apply d_and) | (with_reducible apply d_or) | (with_reducible apply d_and1) | (with_reducible apply d_or1) | (with_reducible apply d_and2) | (with_reducible apply d_or2) | (with_reducible apply d_ife) | (with_reducible apply d_neg) | (with_reducible apply d_isi) | (with_reducible apply d_fld) | (with_reducible apply d_glb) | (with_reducible apply l_cons) | (with_reducible apply l_nil) | (with_reducible apply int_ex) | (with_reducible apply bl_ex) | (with_reducible apply dq_len) | (with_reducible apply dq_abs) | (with_reducible apply t_nt) | (with_reducible apply t_and) | (with_reducible apply t_or) | (with_reducible apply t_and1) | (with_reducible apply t_or1) | (with_reducible apply t_and2) | (with_reducible apply t_or2) | (with_reducible apply t_cmp) | (with_reducible apply t_chn) | (with_reducible apply t_ix) | (with_reducible apply t_isi) | (with_reducible apply t_fld) | (with_reducible apply tr_bl) | (with_reducible apply o_add) | (with_reducible apply o_sub) | (with_reducible apply c_eqI) | (with_reducible apply c_neI) | (with_reducible apply c_ltI) | (with_reducible apply c_leI) | (with_reducible apply c_gtI) | (with_reducible apply c_geI) | (with_reducible apply ss_cons) | (with_reducible apply ss_nil) | (with_reducible apply st_exp) | (with_reducible apply st_asg) | (with_reducible apply st_asl) | (with_reducible apply st_sti) | (with_reducible apply st_agi) | (with_reducible apply st_ifs) | (with_reducible apply st_ret) | (with_reducible apply st_retN) | (with_reducible apply st_pas) | (with_reducible apply aug_i) | (with_reducible apply abs_i) | (with_reducible apply sl_l) | (with_reducible apply len_l) | (with_reducible apply len_t) | (with_reducible refine And.intro (a := _ ≤ sizeLine) (by rw [sizeLine_eq]; simp only [List.length_cons, List.length_nil, List.length_append, List.length_map]; omega) ?_) | (with_reducible refine o_addL (by rw [sizeLine_eq]; simp only [List.length_cons, List.length_nil, List.length_append, List.length_map]; omega) ?_) | (dsimp only)))
  refine isi_x rfl hF (kit_w c 4 hw (by decide)) ?_
  (repeat (first | ((with_reducible apply d_var); focus exact rfl) | ((with_reducible apply t_var); focus exact rfl) | (with_reducible apply d_int) | (with_reducible apply d_str) | (with_reducible apply d_bl) | (with_reducible apply d_non) | (with_reducible apply d_bin) | (with_reducible apply d_cmp) | (with_reducible apply d_ix) | (with_reducible apply d_lst) | (with_reducible apply d_lstC) | (with_reducible apply d_tup) | (with_reducible apply d_sl) | (with_reducible apply d_nn) | (with_reducible apply d_ss) | (with_reducible apply d_nt) | (with_reducible apply d_and) | (with_reducible apply d_or) | (with_reducible apply d_and1) | (with_reducible apply d_or1) | (with_reducible apply d_and2) | (with_reducible apply d_or2) | (with_reducible apply d_ife) | (with_reducible apply d_neg) | (with_reducible apply d_isi) | (with_reducible apply d_fld) | (with_reducible apply d_glb) | (with_reducible apply l_cons) | (with_reducible apply l_nil) | (with_reducible apply int_ex) | (with_reducible apply bl_ex) | (with_reducible apply dq_len) | (with_reducible apply dq_abs) | (with_reducible apply t_nt) | (with_reducible apply t_and) | (with_reducible apply t_or) | (with_reducible apply t_and1) | (with_reducible apply t_or1) | (with_reducible apply t_and2) | (with_reducible apply t_or2) | (with_reducible apply t_cmp) | (with_reducible apply t_chn) | (with_reducible apply t_ix) | (with_reducible apply t_isi) | (with_reducible apply t_fld) | (with_reducible apply tr_bl) | (with_reducible apply o_add) | (with_reducible apply o_sub) | (with_reducible apply c_eqI) | (with_reducible apply c_neI) | (with_reducible apply c_ltI) | (with_reducible apply c_leI) | (with_reducible apply c_gtI) | (with_reducible apply c_geI) | (with_reducible apply ss_cons) | (with_reducible apply ss_nil) | (with_reducible apply st_exp) | (with_reducible apply st_asg) | (with_reducible apply st_asl) | (with_reducible apply st_sti) | (with_reducible apply st_agi) | (with_reducible apply st_ifs) | (with_reducible apply st_ret) | (with_reducible apply st_retN) | (with_reducible apply st_pas) | (with_reducible apply aug_i) | (with_reducible apply abs_i) | (with_reducible apply sl_l) | (with_reducible apply len_l) | (with_reducible apply len_t) | (with_reducible refine And.intro (a := _ ≤ sizeLine) (by rw [sizeLine_eq]; simp only [List.length_cons, List.length_nil, List.length_append, List.length_map]; omega) ?_) | (with_reducible refine o_addL (by rw [sizeLine_eq]; simp only [List.length_cons, List.length_nil, List.length_append, List.length_map]; omega) ?_) | (dsimp only)))
  refine isi_x rfl hF (kit_w c 5 hw (by decide)) ?_
  (repeat (first | ((with_reducible apply d_var); focus exact rfl) | ((with_reducible apply t_var); focus exact rfl) | (with_reducible apply d_int) | (with_reducible apply d_str) | (with_reducible apply d_bl) | (with_reducible apply d_non) | (with_reducible apply d_bin) | (with_reducible apply d_cmp) | (with_reducible apply d_ix) | (with_reducible apply d_lst) | (with_reducible apply d_lstC) | (with_reducible apply d_tup) | (with_reducible apply d_sl) | (with_reducible apply d_nn) | (with_reducible apply d_ss) | (with_reducible apply d_nt) | (with_reducible apply d_and) | (with_reducible apply d_or) | (with_reducible apply d_and1) | (with_reducible apply d_or1) | (with_reducible apply d_and2) | (with_reducible apply d_or2) | (with_reducible apply d_ife) | (with_reducible apply d_neg) | (with_reducible apply d_isi) | (with_reducible apply d_fld) | (with_reducible apply d_glb) | (with_reducible apply l_cons) | (with_reducible apply l_nil) | (with_reducible apply int_ex) | (with_reducible apply bl_ex) | (with_reducible apply dq_len) | (with_reducible apply dq_abs) | (with_reducible apply t_nt) | (with_reducible apply t_and) | (with_reducible apply t_or) | (with_reducible apply t_and1) | (with_reducible apply t_or1) | (with_reducible apply t_and2) | (with_reducible apply t_or2) | (with_reducible apply t_cmp) | (with_reducible apply t_chn) | (with_reducible apply t_ix) | (with_reducible apply t_isi) | (with_reducible apply t_fld) | (with_reducible apply tr_bl) | (with_reducible apply o_add) | (with_reducible apply o_sub) | (with_reducible apply c_eqI) | (with_reducible apply c_neI) | (with_reducible apply c_ltI) | (with_reducible apply c_leI) | (with_reducible apply c_gtI) | (with_reducible apply c_geI) | (with_reducible apply ss_cons) | (with_reducible apply ss_nil) | (with_reducible apply st_exp) | (with_reducible apply st_asg) | (with_reducible apply st_asl) | (with_reducible apply st_sti) | (with_reducible apply st_agi) | (with_reducible apply st_ifs) | (with_reducible apply st_ret) | (with_reducible apply st_retN) | (with_reducible apply st_pas) | (with_reducible apply aug_i) | (with_reducible apply abs_i) | (with_reducible apply sl_l) | (with_reducible apply len_l) | (with_reducible apply len_t) | (with_reducible refine And.intro (a := _ ≤ sizeLine) (by rw [sizeLine_eq]; simp only [List.length_cons, List.length_nil, List.length_append, List.length_map]; omega) ?_) | (with_reducible refine o_addL (by rw [sizeLine_eq]; simp only [List.length_cons, List.length_nil, List.length_append, List.length_map]; omega) ?_) | (dsimp only)))
  refine isi_x rfl hF (kit_w c 6 hw (by decide)) ?_
  (repeat (first | ((with_reducible apply d_var); focus exact rfl) | ((with_reducible apply t_var); focus exact rfl) | (with_reducible apply d_int) | (with_reducible apply d_str) | (with_reducible apply d_bl) | (with_reducible apply d_non) | (with_reducible apply d_bin) | (with_reducible apply d_cmp) | (with_reducible apply d_ix) | (with_reducible apply d_lst) | (with_reducible apply d_lstC) | (with_reducible apply d_tup) | (with_reducible apply d_sl) | (with_reducible apply d_nn) | (with_reducible apply d_ss) | (with_reducible apply d_nt) | (with_reducible apply d_and) | (with_reducible apply d_or) | (with_reducible apply d_and1) | (with_reducible apply d_or1) | (with_reducible apply d_and2) | (with_reducible apply d_or2) | (with_reducible apply d_ife) | (with_reducible apply d_neg) | (with_reducible apply d_isi) | (with_reducible apply d_fld) | (with_reducible apply d_glb) | (with_reducible apply l_cons) | (with_reducible apply l_nil) | (with_reducible apply int_ex) | (with_reducible apply bl_ex) | (with_reducible apply dq_len) | (with_reducible apply dq_abs) | (with_reducible apply t_nt) | (with_reducible apply t_and) | (with_reducible apply t_or) | (with_reducible apply t_and1) | (with_reducible apply t_or1) | (with_reducible apply t_and2) | (with_reducible apply t_or2) | (with_reducible apply t_cmp) | (with_reducible apply t_chn) | (with_reducible apply t_ix) | (with_reducible apply t_isi) | (with_reducible apply t_fld) | (with_reducible apply tr_bl) | (with_reducible apply o_add) | (with_reducible apply o_sub) | (with_reducible apply c_eqI) | (with_reducible apply c_neI) | (with_reducible apply c_ltI) | (with_reducible apply c_leI) | (with_reducible apply c_gtI) | (with_reducible apply c_geI) | (with_reducible apply ss_cons) | (with_reducible apply ss_nil) | (with_reducible apply st_exp) | (with_reducible apply st_asg) | (with_reducible apply st_asl) | (with_reducible apply st_sti) | (with_reducible apply st_agi) | (with_reducible apply st_ifs) | (with_reducible apply st_ret) | (with_reducible apply st_retN) | (with_reducible apply st_pas) | (with_reducible apply aug_i) | (with_reducible apply abs_i) | (with_reducible apply sl_l) | (with_reducible apply len_l) | (with_reducible apply len_t) | (with_reducible refine And.intro (a := _ ≤ sizeLine) (by rw [sizeLine_eq]; simp only [List.length_cons, List.length_nil, List.length_append, List.length_map]; omega) ?_) | (with_reducible refine o_addL (by rw [sizeLine_eq]; simp only [List.length_cons, List.length_nil, List.length_append, List.length_map]; omega) ?_) | (dsimp only)))
  refine isi_x rfl hF (kit_w c 7 hw (by decide)) ?_
  (repeat (first | ((with_reducible apply d_var); focus exact rfl) | ((with_reducible apply t_var); focus exact rfl) | (with_reducible apply d_int) | (with_reducible apply d_str) | (with_reducible apply d_bl) | (with_reducible apply d_non) | (with_reducible apply d_bin) | (with_reducible apply d_cmp) | (with_reducible apply d_ix) | (with_reducible apply d_lst) | (with_reducible apply d_lstC) | (with_reducible apply d_tup) | (with_reducible apply d_sl) | (with_reducible apply d_nn) | (with_reducible apply d_ss) | (with_reducible apply d_nt) | (with_reducible apply d_and) | (with_reducible apply d_or) | (with_reducible apply d_and1) | (with_reducible apply d_or1) | (with_reducible apply d_and2) | (with_reducible apply d_or2) | (with_reducible apply d_ife) | (with_reducible apply d_neg) | (with_reducible apply d_isi) | (with_reducible apply d_fld) | (with_reducible apply d_glb) | (with_reducible apply l_cons) | (with_reducible apply l_nil) | (with_reducible apply int_ex) | (with_reducible apply bl_ex) | (with_reducible apply dq_len) | (with_reducible apply dq_abs) | (with_reducible apply t_nt) | (with_reducible apply t_and) | (with_reducible apply t_or) | (with_reducible apply t_and1) | (with_reducible apply t_or1) | (with_reducible apply t_and2) | (with_reducible apply t_or2) | (with_reducible apply t_cmp) | (with_reducible apply t_chn) | (with_reducible apply t_ix) | (with_reducible apply t_isi) | (with_reducible apply t_fld) | (with_reducible apply tr_bl) | (with_reducible apply o_add) | (with_reducible apply o_sub) | (with_reducible apply c_eqI) | (with_reducible apply c_neI) | (with_reducible apply c_ltI) | (with_reducible apply c_leI) | (with_reducible apply c_gtI) | (with_reducible apply c_geI) | (with_reducible apply ss_cons) | (with_reducible apply ss_nil) | (with_reducible apply st_exp) | (with_reducible apply st_asg) | (with_reducible apply st_asl) | (with_reducible apply st_sti) | (with_reducible apply st_agi) | (with_reducible apply st_ifs) | (with_reducible apply st_ret) | (with_reducible apply st_retN) | (with_reducible apply st_pas) | (with_reducible apply aug_i) | (with_reducible apply abs_i) | (with_reducible apply sl_l) | (with_reducible apply len_l) | (with_reducible apply len_t) | (with_reducible refine And.intro (a := _ ≤ sizeLine) (by rw [sizeLine_eq]; simp only [List.length_cons, List.length_nil, List.length_append, List.length_map]; omega) ?_) | (with_reducible refine o_addL (by rw [sizeLine_eq]; simp only [List.length_cons, List.length_nil, List.length_append, List.length_map]; omega) ?_) | (dsimp only)))
  (repeat (first | ((with_reducible apply d_var); focus exact rfl) | ((with_reducible apply t_var); focus exact rfl) | (with_reducible apply d_int) | (with_reducible apply d_str) | (with_reducible apply d_bl) | (with_reducible apply d_non) | (with_reducible apply d_bin) | (with_reducible apply d_cmp) | (with_reducible apply d_ix) | (with_reducible apply d_lst) | (with_reducible apply d_lstC) | (with_reducible apply d_tup) | (with_reducible apply d_sl) | (with_reducible apply d_nn) | (with_reducible apply d_ss) | (with_reducible apply d_nt) | (with_reducible apply d_and) | (with_reducible apply d_or) | (with_reducible apply d_and1) | (with_reducible apply d_or1) | (with_reducible apply d_and2) | (with_reducible apply d_or2) | (with_reducible apply d_ife) | (with_reducible apply d_neg) | (with_reducible apply d_isi) | (with_reducible apply d_fld) | (with_reducible apply d_glb) | (with_reducible apply l_cons) | (with_reducible apply l_nil) | (with_reducible apply int_ex) | (with_reducible apply bl_ex) | (with_reducible apply dq_len) | (with_reducible apply dq_abs) | (with_reducible apply t_nt) | (with_reducible apply t_and) | (with_reducible apply t_or) | (with_reducible apply t_and1) | (with_reducible apply t_or1) | (with_reducible apply t_and2) | (with_reducible apply t_or2) | (with_reducible apply t_cmp) | (with_reducible apply t_chn) | (with_reducible apply t_ix) | (with_reducible apply t_isi) | (with_reducible apply t_fld) | (with_reducible apply tr_bl) | (with_reducible apply o_add) | (with_reducible apply o_sub) | (with_reducible apply c_eqI) | (with_reducible apply c_neI) | (with_reducible apply c_ltI) | (with_reducible apply c_leI) | (with_reducible apply c_gtI) | (with_reducible apply c_geI) | (with_reducible apply ss_cons) | (with_reducible apply ss_nil) | (with_reducible apply st_exp) | (with_reducible apply st_asg) | (with_reducible apply st_asl) | (with_reducible apply st_sti) | (with_reducible apply st_agi) | (with_reducible apply st_ifs) | (with_reducible apply st_ret) | (with_reducible apply st_retN) | (with_reducible apply st_pas) | (with_reducible apply aug_i) | (with_reducible apply abs_i) | (with_reducible apply sl_l) | (with_reducible apply len_l) | (with_reducible apply len_t) | (with_reducible refine And.intro (a := _ ≤ sizeLine) (by rw [sizeLine_eq]; simp only [List.length_cons, List.length_nil, List.length_append, List.length_map]; omega) ?_) | (with_reducible refine o_addL (by rw [sizeLine_eq]; simp only [List.length_cons, List.length_nil, List.length_append, List.length_map]; omega) ?_) | (dsimp only)))
  refine isi_x rfl hF (kit_w c 8 hw (by decide)) ?_
  (repeat (first | ((with_reducible apply d_var); focus exact rfl) | ((with_reducible apply t_var); focus exact rfl) | (with_reducible apply d_int) | (with_reducible apply d_str) | (with_reducible apply d_bl) | (with_reducible apply d_non) | (with_reducible apply d_bin) | (with_reducible apply d_cmp) | (with_reducible apply d_ix) | (with_reducible apply d_lst) | (with_reducible apply d_lstC) | (with_reducible apply d_tup) | (with_reducible apply d_sl) | (with_reducible apply d_nn) | (with_reducible apply d_ss) | (with_reducible apply d_nt) | (with_reducible apply d_and) | (with_reducible apply d_or) | (with_reducible apply d_and1) | (with_reducible apply d_or1) | (with_reducible apply d_and2) | (with_reducible apply d_or2) | (with_reducible apply d_ife) | (with_reducible apply d_neg) | (with_reducible apply d_isi) | (with_reducible apply d_fld) | (with_reducible apply d_glb) | (with_reducible apply l_cons) | (with_reducible apply l_nil) | (with_reducible apply int_ex) | (with_reducible apply bl_ex) | (with_reducible apply dq_len) | (with_reducible apply dq_abs) | (with_reducible apply t_nt) | (with_reducible apply t_and) | (with_reducible apply t_or) | (with_reducible apply t_and1) | (with_reducible apply t_or1) | (with_reducible apply t_and2) | (with_reducible apply t_or2) | (with_reducible apply t_cmp) | (with_reducible apply t_chn) | (with_reducible apply t_ix) | (with_reducible apply t_isi) | (with_reducible apply t_fld) | (with_reducible apply tr_bl) | (with_reducible apply o_add) | (with_reducible apply o_sub) | (with_reducible apply c_eqI) | (with_reducible apply c_neI) | (with_reducible apply c_ltI) | (with_reducible apply c_leI) | (with_reducible apply c_gtI) | (with_reducible apply c_geI) | (with_reducible apply ss_cons) | (with_reducible apply ss_nil) | (with_reducible apply st_exp) | (with_reducible apply st_asg) | (with_reducible apply st_asl) | (with_reducible apply st_sti) | (with_reducible apply st_agi) | (with_reducible apply st_ifs) | (with_reducible apply st_ret) | (with_reducible apply st_retN) | (with_reducible apply st_pas) | (with_reducible apply aug_i) | (with_reducible apply abs_i) | (with_reducible apply sl_l) | (with_reducible apply len_l) | (with_reducible apply len_t) | (with_reducible refine And.intro (a := _ ≤ sizeLine) (by rw [sizeLine_eq]; simp only [List.length_cons, List.length_nil, List.length_append, List.length_map]; omega) ?_) | (with_reducible refine o_addL (by rw [sizeLine_eq]; simp only [List.length_cons, List.length_nil, List.length_append, List.length_map]; omega) ?_) | (dsimp only)))
  refine isi_x rfl hF (kit_w c 9 hw (by decide)) ?_
  (repeat (first | ((with_reducible apply d_var); focus exact rfl) | ((with_reducible apply t_var); focus exact rfl) | (with_reducible apply d_int) | (with_reducible apply d_str) | (with_reducible apply d_bl) | (with_reducible apply d_non) | (with_reducible apply d_bin) | (with_reducible apply d_cmp) | (with_reducible apply d_ix) | (with_reducible apply d_lst) | (with_reducible apply d_lstC) | (with_reducible apply d_tup) | (with_reducible apply d_sl) | (with_reducible apply d_nn) | (with_reducible apply d_ss) | (with_reducible apply d_nt) | (with_reducible apply d_and) | (with_reducible apply d_or) | (with_reducible apply d_and1) | (with_reducible apply d_or1) | (with_reducible apply d_and2) | (with_reducible apply d_or2) | (with_reducible apply d_ife) | (with_reducible apply d_neg) | (with_reducible apply d_isi) | (with_reducible apply d_fld) | (with_reducible apply d_glb) | (with_reducible apply l_cons) | (with_reducible apply l_nil) | (with_reducible apply int_ex) | (with_reducible apply bl_ex) | (with_reducible apply dq_len) | (with_reducible apply dq_abs) | (with_reducible apply t_nt) | (with_reducible apply t_and) | (with_reducible apply t_or) | (with_reducible apply t_and1) | (with_reducible apply t_or1) | (with_reducible apply t_and2) | (with_reducible apply t_or2) | (with_reducible apply t_cmp) | (with_reducible apply t_chn) | (with_reducible apply t_ix) | (with_reducible apply t_isi) | (with_reducible apply t_fld) | (with_reducible apply tr_bl) | (with_reducible apply o_add) | (with_reducible apply o_sub) | (with_reducible apply c_eqI) | (with_reducible apply c_neI) | (with_reducible apply c_ltI) | (with_reducible apply c_leI) | (with_reducible apply c_gtI) | (with_reducible apply c_geI) | (with_reducible apply ss_cons) | (with_reducible apply ss_nil) | (with_reducible apply st_exp) | (with_reducible apply st_asg) | (with_reducible apply st_asl) | (with_reducible apply st_sti) | (with_reducible apply st_agi) | (with_reducible apply st_ifs) | (with_reducible apply st_ret) | (with_reducible apply st_retN) | (with_reducible apply st_pas) | (with_reducible apply aug_i) | (with_reducible apply abs_i) | (with_reducible apply sl_l) | (with_reducible apply len_l) | (with_reducible apply len_t) | (with_reducible refine And.intro (a := _ ≤ sizeLine) (by rw [sizeLine_eq]; simp only [List.length_cons, List.length_nil, List.length_append, List.length_map]; omega) ?_) | (with_reducible refine o_addL (by rw [sizeLine_eq]; simp only [List.length_cons, List.length_nil, List.length_append, List.length_map]; omega) ?_) | (dsimp only)))
  refine isi_x rfl hF (kit_w c 10 hw (by decide)) ?_
  (repeat (first | ((with_reducible apply d_var); focus exact rfl) | ((with_reducible apply t_var); focus exact rfl) | (with_reducible apply d_int) | (with_reducible apply d_str) | (with_reducible apply d_bl) | (with_reducible apply d_non) | (with_reducible apply d_bin) | (with_reducible apply d_cmp) | (with_reducible apply d_ix) | (with_reducible apply d_lst) | (with_reducible apply d_lstC) | (with_reducible apply d_tup) | (with_reducible apply d_sl) | (with_reducible apply d_nn) | (with_reducible apply d_ss) | (with_reducible apply d_nt) | (with_reducible apply d_and) | (with_reducible apply d_or) | (with_reducible apply d_and1) | (with_reducible apply d_or1) | (with_reducible apply d_and2) | (with_reducible apply d_or2) | (with_reducible apply d_ife) | (with_reducible apply d_neg) | (with_reducible apply d_isi) | (with_reducible apply d_fld) | (with_reducible apply d_glb) | (with_reducible apply l_cons) | (with_reducible apply l_nil) | (with_reducible apply int_ex) | (with_reducible apply bl_ex) | (with_reducible apply dq_len) | (with_reducible apply dq_abs) | (with_reducible apply t_nt) | (with_reducible apply t_and) | (with_reducible apply t_or) | (with_reducible apply t_and1) | (with_reducible apply t_or1) | (with_reducible apply t_and2) | (with_reducible apply t_or2) | (with_reducible apply t_cmp) | (with_reducible apply t_chn) | (with_reducible apply t_ix) | (with_reducible apply t_isi) | (with_reducible apply t_fld) | (with_reducible apply tr_bl) | (with_reducible apply o_add) | (with_reducible apply o_sub) | (with_reducible apply c_eqI) | (with_reducible apply c_neI) | (with_reducible apply c_ltI) | (with_reducible apply c_leI) | (with_reducible apply c_gtI) | (with_reducible apply c_geI) | (with_reducible apply ss_cons) | (with_reducible apply ss_nil) | (with_reducible apply st_exp) | (with_reducible apply st_asg) | (with_reducible apply st_asl) | (with_reducible apply st_sti) | (with_reducible apply st_agi) | (with_reducible apply st_ifs) | (with_reducible apply st_ret) | (with_reducible apply st_retN) | (with_reducible apply st_pas) | (with_reducible apply aug_i) | (with_reducible apply abs_i) | (with_reducible apply sl_l) | (with_reducible apply len_l) | (with_reducible apply len_t) | (with_reducible refine And.intro (a := _ ≤ sizeLine) (by rw [sizeLine_eq]; simp only [List.length_cons, List.length_nil, List.length_append, List.length_map]; omega) ?_) | (with_reducible refine o_addL (by rw [sizeLine_eq]; simp only [List.length_cons, List.length_nil, List.length_append, List.length_map]; omega) ?_) | (dsimp only)))
  refine isi_x rfl hF (kit_w c 11 hw (by decide)) ?_
  (repeat (first | ((with_reducible apply d_var); focus exact rfl) | ((with_reducible apply t_var); focus exact rfl) | (with_reducible apply d_int) | (with_reducible apply d_str) | (with_reducible apply d_bl) | (with_reducible apply d_non) | (with_reducible apply d_bin) | (with_reducible apply d_cmp) | (with_reducible apply d_ix) | (with_reducible apply d_lst) | (with_reducible apply d_lstC) | (with_reducible apply d_tup) | (with_reducible apply d_sl) | (with_reducible apply d_nn) | (with_reducible apply d_ss) | (with_reducible apply d_nt) | (with_reducible apply d_and) | (with_reducible apply d_or) | (with_reducible apply d_and1) | (with_reducible apply d_or1) | (with_reducible apply d_and2) | (with_reducible apply d_or2) | (with_reducible apply d_ife) | (with_reducible apply d_neg) | (with_reducible apply d_isi) | (with_reducible apply d_fld) | (with_reducible apply d_glb) | (with_reducible apply l_cons) | (with_reducible apply l_nil) | (with_reducible apply int_ex) | (with_reducible apply bl_ex) | (with_reducible apply dq_len) | (with_reducible apply dq_abs) | (with_reducible apply t_nt) | (with_reducible apply t_and) | (with_reducible apply t_or) | (with_reducible apply t_and1) | (with_reducible apply t_or1) | (with_reducible apply t_and2) | (with_reducible apply t_or2) | (with_reducible apply t_cmp) | (with_reducible apply t_chn) | (with_reducible apply t_ix) | (with_reducible apply t_isi) | (with_reducible apply t_fld) | (with_reducible apply tr_bl) | (with_reducible apply o_add) | (with_reducible apply o_sub) | (with_reducible apply c_eqI) | (with_reducible apply c_neI) | (with_reducible apply c_ltI) | (with_reducible apply c_leI) | (with_reducible apply c_gtI) | (with_reducible apply c_geI) | (with_reducible apply ss_cons) | (with_reducible apply ss_nil) | (with_reducible apply st_exp) | (with_reducible apply st_asg) | (with_reducible apply st_asl) | (with_reducible apply st_sti) | (with_reducible apply st_agi) | (with_reducible apply st_ifs) | (with_reducible apply st_ret) | (with_reducible apply st_retN) | (with_reducible apply st_pas) | (with_reducible apply aug_i) | (with_reducible apply abs_i) | (with_reducible apply sl_l) | (with_reducible apply len_l) | (with_reducible apply len_t) | (with_reducible refine And.intro (a := _ ≤ sizeLine) (by rw [sizeLine_eq]; simp only [List.length_cons, List.length_nil, List.length_append, List.length_map]; omega) ?_) | (with_reducible refine o_addL (by rw [sizeLine_eq]; simp only [List.length_cons, List.length_nil, List.length_append, List.length_map]; omega) ?_) | (dsimp only)))
  refine isi_x rfl hF (kit_w c 12 hw (by decide)) ?_
  (repeat (first | ((with_reducible apply d_var); focus exact rfl) | ((with_reducible apply t_var); focus exact rfl) | (with_reducible apply d_int) | (with_reducible apply d_str) | (with_reducible apply d_bl) | (with_reducible apply d_non) | (with_reducible apply d_bin) | (with_reducible apply d_cmp) | (with_reducible apply d_ix) | (with_reducible apply d_lst) | (with_reducible apply d_lstC) | (with_reducible apply d_tup) | (with_reducible apply d_sl) | (with_reducible apply d_nn) | (with_reducible apply d_ss) | (with_reducible apply d_nt) | (with_reducible apply d_and) | (with_reducible apply d_or) | (with_reducible apply d_and1) | (with_reducible apply d_or1) | (with_reducible apply d_and2) | (with_reducible apply d_or2) | (with_reducible apply d_ife) | (with_reducible apply d_neg) | (with_reducible apply d_isi) | (with_reducible apply d_fld) | (with_reducible apply d_glb) | (with_reducible apply l_cons) | (with_reducible apply l_nil) | (with_reducible apply int_ex) | (with_reducible apply bl_ex) | (with_reducible apply dq_len) | (with_reducible apply dq_abs) | (with_reducible apply t_nt) | (with_reducible apply t_and) | (with_reducible apply t_or) | (with_reducible apply t_and1) | (with_reducible apply t_or1) | (with_reducible apply t_and2) | (with_reducible apply t_or2) | (with_reducible apply t_cmp) | (with_reducible apply t_chn) | (with_reducible apply t_ix) | (with_reducible apply t_isi) | (with_reducible apply t_fld) | (with_reducible apply tr_bl) | (with_reducible apply o_add) | (with_reducible apply o_sub) | (with_reducible apply c_eqI) | (with_reducible apply c_neI) | (with_reducible apply c_ltI) | (with_reducible apply c_leI) | (with_reducible apply c_gtI) | (with_reducible apply c_geI) | (with_reducible apply ss_cons) | (with_reducible apply ss_nil) | (with_reducible apply st_exp) | (with_reducible apply st_asg) | (with_reducible apply st_asl) | (with_reducible apply st_sti) | (with_reducible apply st_agi) | (with_reducible apply st_ifs) | (with_reducible apply st_ret) | (with_reducible apply st_retN) | (with_reducible apply st_pas) | (with_reducible apply aug_i) | (with_reducible apply abs_i) | (with_reducible apply sl_l) | (with_reducible apply len_l) | (with_reducible apply len_t) | (with_reducible refine And.intro (a := _ ≤ sizeLine) (by rw [sizeLine_eq]; simp only [List.length_cons, List.length_nil, List.length_append, List.length_map]; omega) ?_) | (with_reducible refine o_addL (by rw [sizeLine_eq]; simp only [List.length_cons, List.length_nil, List.length_append, List.length_map]; omega) ?_) | (dsimp only)))
  refine isi_x rfl hF hv ?_
  (repeat (first | ((with_reducible apply d_var); focus exact rfl) | ((with_reducible apply t_var); focus exact rfl) | (with_reducible apply d_int) | (with_reducible apply d_str) | (with_reducible apply d_bl) | (with_reducible apply d_non) | (with_reducible apply d_bin) | (with_reducible apply d_cmp) | (with_reducible apply d_ix) | (with_reducible apply d_lst) | (with_reducible apply d_lstC) | (with_reducible apply d_tup) | (with_reducible apply d_sl) | (with_reducible apply d_nn) | (with_reducible apply d_ss) | (with_reducible apply d_nt) | (with_reducible apply d_and) | (with_reducible apply d_or) | (with_reducible apply d_and1) | (with_reducible apply d_or1) | (with_reducible apply d_and2) | (with_reducible apply d_or2) | (with_reducible apply d_ife) | (with_reducible apply d_neg) | (with_reducible apply d_isi) | (with_reducible apply d_fld) | (with_reducible apply d_glb) | (with_reducible apply l_cons) | (with_reducible apply l_nil) | (with_reducible apply int_ex) | (with_reducible apply bl_ex) | (with_reducible apply dq_len) | (with_reducible apply dq_abs) | (with_reducible apply t_nt) | (with_reducible apply t_and) | (with_reducible apply t_or) | (with_reducible apply t_and1) | (with_reducible apply t_or1) | (with_reducible apply t_and2) | (with_reducible apply t_or2) | (with_reducible apply t_cmp) | (with_reducible apply t_chn) | (with_reducible apply t_ix) | (with_reducible apply t_isi) | (with_reducible apply t_fld) | (with_reducible apply tr_bl) | (with_reducible apply o_add) | (with_reducible apply o_sub) | (with_reducible apply c_eqI) | (with_reducible apply c_neI) | (with_reducible apply c_ltI) | (with_reducible apply c_leI) | (with_reducible apply c_gtI) | (with_reducible apply c_geI) | (with_reducible apply ss_cons) | (with_reducible apply ss_nil) | (with_reducible apply st_exp) | (with_reducible apply st_asg) | (with_reducible apply st_asl) | (with_reducible apply st_sti) | (with_reducible apply st_agi) | (with_reducible apply st_ifs) | (with_reducible apply st_ret) | (with_reducible apply st_retN) | (with_reducible apply st_pas) | (with_reducible apply aug_i) | (with_reducible apply abs_i) | (with_reducible apply sl_l) | (with_reducible apply len_l) | (with_reducible apply len_t) | (with_reducible refine And.intro (a := _ ≤ sizeLine) (by rw [sizeLine_eq]; simp only [List.length_cons, List.length_nil, List.length_append, List.length_map]; omega) ?_) | (with_reducible refine o_addL (by rw [sizeLine_eq]; simp only [List.length_cons, List.length_nil, List.length_append, List.length_map]; omega) ?_) | (dsimp only)))
  exact hK
theorem cw (w : Nat) (i : Nat) (m : Option (Addr × Obj)) : ((tb K).G K i m).cl (w + 1) = He.ga K (nm w) := rfl
theorem me2 (c : SaysX fa fn fx K) : Meets ((tb K).sn N2) ((tb K).G K 2) 2 false (TFurther K) b2 := by
  rintro m hm ds S KK Y ⟨w, d, rfl, h1, h2, rfl, hY⟩
  refine ⟨rfl, ?_⟩
  show denSs _ b2 [some (.int w), some d] S _ _
  unfold b2
  obtain rfl | rfl | rfl | rfl | rfl | rfl : w = 7 ∨ w = 8 ∨ w = 9 ∨ w = 10 ∨ w = 11 ∨ w = 12 := by omega
  all_goals
    (repeat (first | ((with_reducible apply d_var); focus exact rfl) | ((with_reducible apply t_var); focus exact rfl) | (with_reducible apply d_int) | (with_reducible apply d_str) | (with_reducible apply d_bl) | (with_reducible apply d_non) | (with_reducible apply d_bin) | (with_reducible apply d_cmp) | (with_reducible apply d_ix) | (with_reducible apply d_lst) | (with_reducible apply d_lstC) | (with_reducible apply d_tup) | (with_reducible apply d_sl) | (with_reducible apply d_nn) | (with_reducible apply d_ss) | (with_reducible apply d_nt) | (with_reducible apply d_and) | (with_reducible apply d_or) | (with_reducible apply d_and1) | (with_reducible apply d_or1) | (with_reducible apply d_and2) | (with_reducible apply d_or2) | (with_reducible apply d_ife) | (with_reducible apply d_neg) | (with_reducible apply d_isi) | (with_reducible apply d_fld) | (with_reducible apply d_glb) | (with_reducible apply l_cons) | (with_reducible apply l_nil) | (with_reducible apply int_ex) | (with_reducible apply bl_ex) | (with_reducible apply dq_len) | (with_reducible apply dq_abs) | (with_reducible apply t_nt) | (with_reducible apply t_and) | (with_reducible apply t_or) | (with_reducible apply t_and1) | (with_reducible apply t_or1) | (with_reducible apply t_and2) | (with_reducible apply t_or2) | (with_reducible apply t_cmp) | (with_reducible apply t_chn) | (with_reducible apply t_ix) | (with_reducible apply t_isi) | (with_reducible apply t_fld) | (with_reducible apply tr_bl) | (with_reducible apply o_add) | (with_reducible apply o_sub) | (with_reducible apply c_eqI) | (with_reducible apply c_neI) | (with_reducible apply c_ltI) | (with_reducible apply c_leI) | (with_reducible apply c_gtI) | (with_reducible apply c_geI) | (with_reducible apply ss_cons) | (with_reducible apply ss_nil) | (with_reducible apply st_exp) | (with_reducible apply st_asg) | (with_reducible apply st_asl) | (with_reducible apply st_sti) | (with_reducible apply st_agi) | (with_reducible apply st_ifs) | (with_reducible apply st_ret) | (with_reducible apply st_retN) | (with_reducible apply st_pas) | (with_reducible apply aug_i) | (with_reducible apply abs_i) | (with_reducible apply sl_l) | (with_reducible apply len_l) | (with_reducible apply len_t) | (with_reducible refine And.intro (a := _ ≤ sizeLine) (by rw [sizeLine_eq]; simp only [List.length_cons, List.length_nil, List.length_append, List.length_map]; omega) ?_) | (with_reducible refine o_addL (by rw [sizeLine_eq]; simp only [List.length_cons, List.length_nil, List.length_append, List.length_map]; omega) ?_) | (dsimp only)))
    repeat (first | (rw [if_pos (by decide)]; (repeat (first | ((with_reducible apply d_var); focus exact rfl) | ((with_reducible apply t_var); focus exact rfl) | (with_reducible apply d_int) | (with_reducible apply d_str) | (with_reducible apply d_bl) | (with_reducible apply d_non) | (with_reducible apply d_bin) | (with_reducible apply d_cmp) | (with_reducible apply d_ix) | (with_reducible apply d_lst) | (with_reducible apply d_lstC) | (with_reducible apply d_tup) | (with_reducible apply d_sl) | (with_reducible apply d_nn) | (with_reducible apply d_ss) | (with_reducible apply d_nt) | (with_reducible apply d_and) | (with_reducible apply d_or) | (with_reducible apply d_and1) | (with_reducible apply d_or1) | (with_reducible apply d_and2) | (with_reducible apply d_or2) | (with_reducible apply d_ife) | (with_reducible apply d_neg) | (with_reducible apply d_isi) | (with_reducible apply d_fld) | (with_reducible apply d_glb) | (with_reducible apply l_cons) | (with_reducible apply l_nil) | (with_reducible apply int_ex) | (with_reducible apply bl_ex) | (with_reducible apply dq_len) | (with_reducible apply dq_abs) | (with_reducible apply t_nt) | (with_reducible apply t_and) | (with_reducible apply t_or) | (with_reducible apply t_and1) | (with_reducible apply t_or1) | (with_reducible apply t_and2) | (with_reducible apply t_or2) | (with_reducible apply t_cmp) | (with_reducible apply t_chn) | (with_reducible apply t_ix) | (with_reducible apply t_isi) | (with_reducible apply t_fld) | (with_reducible apply tr_bl) | (with_reducible apply o_add) | (with_reducible apply o_sub) | (with_reducible apply c_eqI) | (with_reducible apply c_neI) | (with_reducible apply c_ltI) | (with_reducible apply c_leI) | (with_reducible apply c_gtI) | (with_reducible apply c_geI) | (with_reducible apply ss_cons) | (with_reducible apply ss_nil) | (with_reducible apply st_exp) | (with_reducible apply st_asg) | (with_reducible apply st_asl) | (with_reducible apply st_sti) | (with_reducible apply st_agi) | (with_reducible apply st_ifs) | (with_reducible apply st_ret) | (with_reducible apply st_retN) | (with_reducible apply st_pas) | (with_reducible apply aug_i) | (with_reducible apply abs_i) | (with_reducible apply sl_l) | (with_reducible apply len_l) | (with_reducible apply len_t) | (with_reducible refine And.intro (a := _ ≤ sizeLine) (by rw [sizeLine_eq]; simp only [List.length_cons, List.length_nil, List.length_append, List.length_map]; omega) ?_) | (with_reducible refine o_addL (by rw [sizeLine_eq]; simp only [List.length_cons, List.length_nil, List.length_append, List.length_map]; omega) ?_) | (dsimp only))); exact st_rai rfl rfl rfl (by (repeat (first | ((with_reducible apply d_var); focus exact rfl) | ((with_reducible apply t_var); focus exact rfl) | (with_reducible apply d_int) | (with_reducible apply d_str) | (with_reducible apply d_bl) | (with_reducible apply d_non) | (with_reducible apply d_bin) | (with_reducible apply d_cmp) | (with_reducible apply d_ix) | (with_reducible apply d_lst) | (with_reducible apply d_lstC) | (with_reducible apply d_tup) | (with_reducible apply d_sl) | (with_reducible apply d_nn) | (with_reducible apply d_ss) | (with_reducible apply d_nt) | (with_reducible apply d_and) | (with_reducible apply d_or) | (with_reducible apply d_and1) | (with_reducible apply d_or1) | (with_reducible apply d_and2) | (with_reducible apply d_or2) | (with_reducible apply d_ife) | (with_reducible apply d_neg) | (with_reducible apply d_isi) | (with_reducible apply d_fld) | (with_reducible apply d_glb) | (with_reducible apply l_cons) | (with_reducible apply l_nil) | (with_reducible apply int_ex) | (with_reducible apply bl_ex) | (with_reducible apply dq_len) | (with_reducible apply dq_abs) | (with_reducible apply t_nt) | (with_reducible apply t_and) | (with_reducible apply t_or) | (with_reducible apply t_and1) | (with_reducible apply t_or1) | (with_reducible apply t_and2) | (with_reducible apply t_or2) | (with_reducible apply t_cmp) | (with_reducible apply t_chn) | (with_reducible apply t_ix) | (with_reducible apply t_isi) | (with_reducible apply t_fld) | (with_reducible apply tr_bl) | (with_reducible apply o_add) | (with_reducible apply o_sub) | (with_reducible apply c_eqI) | (with_reducible apply c_neI) | (with_reducible apply c_ltI) | (with_reducible apply c_leI) | (with_reducible apply c_gtI) | (with_reducible apply c_geI) | (with_reducible apply ss_cons) | (with_reducible apply ss_nil) | (with_reducible apply st_exp) | (with_reducible apply st_asg) | (with_reducible apply st_asl) | (with_reducible apply st_sti) | (with_reducible apply st_agi) | (with_reducible apply st_ifs) | (with_reducible apply st_ret) | (with_reducible apply st_retN) | (with_reducible apply st_pas) | (with_reducible apply aug_i) | (with_reducible apply abs_i) | (with_reducible apply sl_l) | (with_reducible apply len_l) | (with_reducible apply len_t) | (with_reducible refine And.intro (a := _ ≤ sizeLine) (by rw [sizeLine_eq]; simp only [List.length_cons, List.length_nil, List.length_append, List.length_map]; omega) ?_) | (with_reducible refine o_addL (by rw [sizeLine_eq]; simp only [List.length_cons, List.length_nil, List.length_append, List.length_map]; omega) ?_) | (dsimp only))); exact ⟨_, rfl, hY _⟩)) | (rw [if_neg (by decide)]; (repeat (first | ((with_reducible apply d_var); focus exact rfl) | ((with_reducible apply t_var); focus exact rfl) | (with_reducible apply d_int) | (with_reducible apply d_str) | (with_reducible apply d_bl) | (with_reducible apply d_non) | (with_reducible apply d_bin) | (with_reducible apply d_cmp) | (with_reducible apply d_ix) | (with_reducible apply d_lst) | (with_reducible apply d_lstC) | (with_reducible apply d_tup) | (with_reducible apply d_sl) | (with_reducible apply d_nn) | (with_reducible apply d_ss) | (with_reducible apply d_nt) | (with_reducible apply d_and) | (with_reducible apply d_or) | (with_reducible apply d_and1) | (with_reducible apply d_or1) | (with_reducible apply d_and2) | (with_reducible apply d_or2) | (with_reducible apply d_ife) | (with_reducible apply d_neg) | (with_reducible apply d_isi) | (with_reducible apply d_fld) | (with_reducible apply d_glb) | (with_reducible apply l_cons) | (with_reducible apply l_nil) | (with_reducible apply int_ex) | (with_reducible apply bl_ex) | (with_reducible apply dq_len) | (with_reducible apply dq_abs) | (with_reducible apply t_nt) | (with_reducible apply t_and) | (with_reducible apply t_or) | (with_reducible apply t_and1) | (with_reducible apply t_or1) | (with_reducible apply t_and2) | (with_reducible apply t_or2) | (with_reducible apply t_cmp) | (with_reducible apply t_chn) | (with_reducible apply t_ix) | (with_reducible apply t_isi) | (with_reducible apply t_fld) | (with_reducible apply tr_bl) | (with_reducible apply o_add) | (with_reducible apply o_sub) | (with_reducible apply c_eqI) | (with_reducible apply c_neI) | (with_reducible apply c_ltI) | (with_reducible apply c_leI) | (with_reducible apply c_gtI) | (with_reducible apply c_geI) | (with_reducible apply ss_cons) | (with_reducible apply ss_nil) | (with_reducible apply st_exp) | (with_reducible apply st_asg) | (with_reducible apply st_asl) | (with_reducible apply st_sti) | (with_reducible apply st_agi) | (with_reducible apply st_ifs) | (with_reducible apply st_ret) | (with_reducible apply st_retN) | (with_reducible apply st_pas) | (with_reducible apply aug_i) | (with_reducible apply abs_i) | (with_reducible apply sl_l) | (with_reducible apply len_l) | (with_reducible apply len_t) | (with_reducible refine And.intro (a := _ ≤ sizeLine) (by rw [sizeLine_eq]; simp only [List.length_cons, List.length_nil, List.length_append, List.length_map]; omega) ?_) | (with_reducible refine o_addL (by rw [sizeLine_eq]; simp only [List.length_cons, List.length_nil, List.length_append, List.length_map]; omega) ?_) | (dsimp only)))))
    try exact st_rai rfl rfl rfl (by (repeat (first | ((with_reducible apply d_var); focus exact rfl) | ((with_reducible apply t_var); focus exact rfl) | (with_reducible apply d_int) | (with_reducible apply d_str) | (with_reducible apply d_bl) | (with_reducible apply d_non) | (with_reducible apply d_bin) | (with_reducible apply d_cmp) | (with_reducible apply d_ix) | (with_reducible apply d_lst) | (with_reducible apply d_lstC) | (with_reducible apply d_tup) | (with_reducible apply d_sl) | (with_reducible apply d_nn) | (with_reducible apply d_ss) | (with_reducible apply d_nt) | (with_reducible apply d_and) | (with_reducible apply d_or) | (with_reducible apply d_and1) | (with_reducible apply d_or1) | (with_reducible apply d_and2) | (with_reducible apply d_or2) | (with_reducible apply d_ife) | (with_reducible apply d_neg) | (with_reducible apply d_isi) | (with_reducible apply d_fld) | (with_reducible apply d_glb) | (with_reducible apply l_cons) | (with_reducible apply l_nil) | (with_reducible apply int_ex) | (with_reducible apply bl_ex) | (with_reducible apply dq_len) | (with_reducible apply dq_abs) | (with_reducible apply t_nt) | (with_reducible apply t_and) | (with_reducible apply t_or) | (with_reducible apply t_and1) | (with_reducible apply t_or1) | (with_reducible apply t_and2) | (with_reducible apply t_or2) | (with_reducible apply t_cmp) | (with_reducible apply t_chn) | (with_reducible apply t_ix) | (with_reducible apply t_isi) | (with_reducible apply t_fld) | (with_reducible apply tr_bl) | (with_reducible apply o_add) | (with_reducible apply o_sub) | (with_reducible apply c_eqI) | (with_reducible apply c_neI) | (with_reducible apply c_ltI) | (with_reducible apply c_leI) | (with_reducible apply c_gtI) | (with_reducible apply c_geI) | (with_reducible apply ss_cons) | (with_reducible apply ss_nil) | (with_reducible apply st_exp) | (with_reducible apply st_asg) | (with_reducible apply st_asl) | (with_reducible apply st_sti) | (with_reducible apply st_agi) | (with_reducible apply st_ifs) | (with_reducible apply st_ret) | (with_reducible apply st_retN) | (with_reducible apply st_pas) | (with_reducible apply aug_i) | (with_reducible apply abs_i) | (with_reducible apply sl_l) | (with_reducible apply len_l) | (with_reducible apply len_t) | (with_reducible refine And.intro (a := _ ≤ sizeLine) (by rw [sizeLine_eq]; simp only [List.length_cons, List.length_nil, List.length_append, List.length_map]; omega) ?_) | (with_reducible refine o_addL (by rw [sizeLine_eq]; simp only [List.length_cons, List.length_nil, List.length_append, List.length_map]; omega) ?_) | (dsimp only))); exact ⟨_, rfl, hY _⟩)
theorem me3 (c : SaysX fa fn fx K) : Meets ((tb K).sn N3) ((tb K).G K 3) 2 false (TRaised K) b3 := by
  rintro m hm ds S KK Y ⟨w, d, rfl, h2, rfl, hY⟩
  refine ⟨rfl, ?_⟩
  show denSs _ b3 [some (.int w), some d] S _ _
  unfold b3
  by_cases h7 : w < 7
  · obtain rfl | rfl | rfl | rfl | rfl | rfl | rfl : w = 0 ∨ w = 1 ∨ w = 2 ∨ w = 3 ∨ w = 4 ∨ w = 5 ∨ w = 6 := by omega
    all_goals
      (repeat (first | ((with_reducible apply d_var); focus exact rfl) | ((with_reducible apply t_var); focus exact rfl) | (with_reducible apply d_int) | (with_reducible apply d_str) | (with_reducible apply d_bl) | (with_reducible apply d_non) | (with_reducible apply d_bin) | (with_reducible apply d_cmp) | (with_reducible apply d_ix) | (with_reducible apply d_lst) | (with_reducible apply d_lstC) | (with_reducible apply d_tup) | (with_reducible apply d_sl) | (with_reducible apply d_nn) | (with_reducible apply d_ss) | (with_reducible apply d_nt) | (with_reducible apply d_and) | (with_reducible apply d_or) | (with_reducible apply d_and1) | (with_reducible apply d_or1) | (with_reducible apply d_and2) | (with_reducible apply d_or2) | (with_reducible apply d_ife) | (with_reducible apply d_neg) | (with_reducible apply d_isi) | (with_reducible apply d_fld) | (with_reducible apply d_glb) | (with_reducible apply l_cons) | (with_reducible apply l_nil) | (with_reducible apply int_ex) | (with_reducible apply bl_ex) | (with_reducible apply dq_len) | (with_reducible apply dq_abs) | (with_reducible apply t_nt) | (with_reducible apply t_and) | (with_reducible apply t_or) | (with_reducible apply t_and1) | (with_reducible apply t_or1) | (with_reducible apply t_and2) | (with_reducible apply t_or2) | (with_reducible apply t_cmp) | (with_reducible apply t_chn) | (with_reducible apply t_ix) | (with_reducible apply t_isi) | (with_reducible apply t_fld) | (with_reducible apply tr_bl) | (with_reducible apply o_add) | (with_reducible apply o_sub) | (with_reducible apply c_eqI) | (with_reducible apply c_neI) | (with_reducible apply c_ltI) | (with_reducible apply c_leI) | (with_reducible apply c_gtI) | (with_reducible apply c_geI) | (with_reducible apply ss_cons) | (with_reducible apply ss_nil) | (with_reducible apply st_exp) | (with_reducible apply st_asg) | (with_reducible apply st_asl) | (with_reducible apply st_sti) | (with_reducible apply st_agi) | (with_reducible apply st_ifs) | (with_reducible apply st_ret) | (with_reducible apply st_retN) | (with_reducible apply st_pas) | (with_reducible apply aug_i) | (with_reducible apply abs_i) | (with_reducible apply sl_l) | (with_reducible apply len_l) | (with_reducible apply len_t) | (with_reducible refine And.intro (a := _ ≤ sizeLine) (by rw [sizeLine_eq]; simp only [List.length_cons, List.length_nil, List.length_append, List.length_map]; omega) ?_) | (with_reducible refine o_addL (by rw [sizeLine_eq]; simp only [List.length_cons, List.length_nil, List.length_append, List.length_map]; omega) ?_) | (dsimp only)))
      repeat (first | (rw [if_pos (by decide)]; (repeat (first | ((with_reducible apply d_var); focus exact rfl) | ((with_reducible apply t_var); focus exact rfl) | (with_reducible apply d_int) | (with_reducible apply d_str) | (with_reducible apply d_bl) | (with_reducible apply d_non) | (with_reducible apply d_bin) | (with_reducible apply d_cmp) | (with_reducible apply d_ix) | (with_reducible apply d_lst) | (with_reducible apply d_lstC) | (with_reducible apply d_tup) | (with_reducible apply d_sl) | (with_reducible apply d_nn) | (with_reducible apply d_ss) | (with_reducible apply d_nt) | (with_reducible apply d_and) | (with_reducible apply d_or) | (with_reducible apply d_and1) | (with_reducible apply d_or1) | (with_reducible apply d_and2) | (with_reducible apply d_or2) | (with_reducible apply d_ife) | (with_reducible apply d_neg) | (with_reducible apply d_isi) | (with_reducible apply d_fld) | (with_reducible apply d_glb) | (with_reducible apply l_cons) | (with_reducible apply l_nil) | (with_reducible apply int_ex) | (with_reducible apply bl_ex) | (with_reducible apply dq_len) | (with_reducible apply dq_abs) | (with_reducible apply t_nt) | (with_reducible apply t_and) | (with_reducible apply t_or) | (with_reducible apply t_and1) | (with_reducible apply t_or1) | (with_reducible apply t_and2) | (with_reducible apply t_or2) | (with_reducible apply t_cmp) | (with_reducible apply t_chn) | (with_reducible apply t_ix) | (with_reducible apply t_isi) | (with_reducible apply t_fld) | (with_reducible apply tr_bl) | (with_reducible apply o_add) | (with_reducible apply o_sub) | (with_reducible apply c_eqI) | (with_reducible apply c_neI) | (with_reducible apply c_ltI) | (with_reducible apply c_leI) | (with_reducible apply c_gtI) | (with_reducible apply c_geI) | (with_reducible apply ss_cons) | (with_reducible apply ss_nil) | (with_reducible apply st_exp) | (with_reducible apply st_asg) | (with_reducible apply st_asl) | (with_reducible apply st_sti) | (with_reducible apply st_agi) | (with_reducible apply st_ifs) | (with_reducible apply st_ret) | (with_reducible apply st_retN) | (with_reducible apply st_pas) | (with_reducible apply aug_i) | (with_reducible apply abs_i) | (with_reducible apply sl_l) | (with_reducible apply len_l) | (with_reducible apply len_t) | (with_reducible refine And.intro (a := _ ≤ sizeLine) (by rw [sizeLine_eq]; simp only [List.length_cons, List.length_nil, List.length_append, List.length_map]; omega) ?_) | (with_reducible refine o_addL (by rw [sizeLine_eq]; simp only [List.length_cons, List.length_nil, List.length_append, List.length_map]; omega) ?_) | (dsimp only))); exact st_rai rfl rfl rfl (by (repeat (first | ((with_reducible apply d_var); focus exact rfl) | ((with_reducible apply t_var); focus exact rfl) | (with_reducible apply d_int) | (with_reducible apply d_str) | (with_reducible apply d_bl) | (with_reducible apply d_non) | (with_reducible apply d_bin) | (with_reducible apply d_cmp) | (with_reducible apply d_ix) | (with_reducible apply d_lst) | (with_reducible apply d_lstC) | (with_reducible apply d_tup) | (with_reducible apply d_sl) | (with_reducible apply d_nn) | (with_reducible apply d_ss) | (with_reducible apply d_nt) | (with_reducible apply d_and) | (with_reducible apply d_or) | (with_reducible apply d_and1) | (with_reducible apply d_or1) | (with_reducible apply d_and2) | (with_reducible apply d_or2) | (with_reducible apply d_ife) | (with_reducible apply d_neg) | (with_reducible apply d_isi) | (with_reducible apply d_fld) | (with_reducible apply d_glb) | (with_reducible apply l_cons) | (with_reducible apply l_nil) | (with_reducible apply int_ex) | (with_reducible apply bl_ex) | (with_reducible apply dq_len) | (with_reducible apply dq_abs) | (with_reducible apply t_nt) | (with_reducible apply t_and) | (with_reducible apply t_or) | (with_reducible apply t_and1) | (with_reducible apply t_or1) | (with_reducible apply t_and2) | (with_reducible apply t_or2) | (with_reducible apply t_cmp) | (with_reducible apply t_chn) | (with_reducible apply t_ix) | (with_reducible apply t_isi) | (with_reducible apply t_fld) | (with_reducible apply tr_bl) | (with_reducible apply o_add) | (with_reducible apply o_sub) | (with_reducible apply c_eqI) | (with_reducible apply c_neI) | (with_reducible apply c_ltI) | (with_reducible apply c_leI) | (with_reducible apply c_gtI) | (with_reducible apply c_geI) | (with_reducible apply ss_cons) | (with_reducible apply ss_nil) | (with_reducible apply st_exp) | (with_reducible apply st_asg) | (with_reducible apply st_asl) | (with_reducible apply st_sti) | (with_reducible apply st_agi) | (with_reducible apply st_ifs) | (with_reducible apply st_ret) | (with_reducible apply st_retN) | (with_reducible apply st_pas) | (with_reducible apply aug_i) | (with_reducible apply abs_i) | (with_reducible apply sl_l) | (with_reducible apply len_l) | (with_reducible apply len_t) | (with_reducible refine And.intro (a := _ ≤ sizeLine) (by rw [sizeLine_eq]; simp only [List.length_cons, List.length_nil, List.length_append, List.length_map]; omega) ?_) | (with_reducible refine o_addL (by rw [sizeLine_eq]; simp only [List.length_cons, List.length_nil, List.length_append, List.length_map]; omega) ?_) | (dsimp only))); exact ⟨_, rfl, hY _⟩)) | (rw [if_neg (by decide)]; (repeat (first | ((with_reducible apply d_var); focus exact rfl) | ((with_reducible apply t_var); focus exact rfl) | (with_reducible apply d_int) | (with_reducible apply d_str) | (with_reducible apply d_bl) | (with_reducible apply d_non) | (with_reducible apply d_bin) | (with_reducible apply d_cmp) | (with_reducible apply d_ix) | (with_reducible apply d_lst) | (with_reducible apply d_lstC) | (with_reducible apply d_tup) | (with_reducible apply d_sl) | (with_reducible apply d_nn) | (with_reducible apply d_ss) | (with_reducible apply d_nt) | (with_reducible apply d_and) | (with_reducible apply d_or) | (with_reducible apply d_and1) | (with_reducible apply d_or1) | (with_reducible apply d_and2) | (with_reducible apply d_or2) | (with_reducible apply d_ife) | (with_reducible apply d_neg) | (with_reducible apply d_isi) | (with_reducible apply d_fld) | (with_reducible apply d_glb) | (with_reducible apply l_cons) | (with_reducible apply l_nil) | (with_reducible apply int_ex) | (with_reducible apply bl_ex) | (with_reducible apply dq_len) | (with_reducible apply dq_abs) | (with_reducible apply t_nt) | (with_reducible apply t_and) | (with_reducible apply t_or) | (with_reducible apply t_and1) | (with_reducible apply t_or1) | (with_reducible apply t_and2) | (with_reducible apply t_or2) | (with_reducible apply t_cmp) | (with_reducible apply t_chn) | (with_reducible apply t_ix) | (with_reducible apply t_isi) | (with_reducible apply t_fld) | (with_reducible apply tr_bl) | (with_reducible apply o_add) | (with_reducible apply o_sub) | (with_reducible apply c_eqI) | (with_reducible apply c_neI) | (with_reducible apply c_ltI) | (with_reducible apply c_leI) | (with_reducible apply c_gtI) | (with_reducible apply c_geI) | (with_reducible apply ss_cons) | (with_reducible apply ss_nil) | (with_reducible apply st_exp) | (with_reducible apply st_asg) | (with_reducible apply st_asl) | (with_reducible apply st_sti) | (with_reducible apply st_agi) | (with_reducible apply st_ifs) | (with_reducible apply st_ret) | (with_reducible apply st_retN) | (with_reducible apply st_pas) | (with_reducible apply aug_i) | (with_reducible apply abs_i) | (with_reducible apply sl_l) | (with_reducible apply len_l) | (with_reducible apply len_t) | (with_reducible refine And.intro (a := _ ≤ sizeLine) (by rw [sizeLine_eq]; simp only [List.length_cons, List.length_nil, List.length_append, List.length_map]; omega) ?_) | (with_reducible refine o_addL (by rw [sizeLine_eq]; simp only [List.length_cons, List.length_nil, List.length_append, List.length_map]; omega) ?_) | (dsimp only)))))
  · (repeat (first | ((with_reducible apply d_var); focus exact rfl) | ((with_reducible apply t_var); focus exact rfl) | (with_reducible apply d_int) | (with_reducible apply d_str) | (with_reducible apply d_bl) | (with_reducible apply d_non) | (with_reducible apply d_bin) | (with_reducible apply d_cmp) | (with_reducible apply d_ix) | (with_reducible apply d_lst) | (with_reducible apply d_lstC) | (with_reducible apply d_tup) | (with_reducible apply d_sl) | (with_reducible apply d_nn) | (with_reducible apply d_ss) | (with_reducible apply d_nt) | (with_reducible apply d_and) | (with_reducible apply d_or) | (with_reducible apply d_and1) | (with_reducible apply d_or1) | (with_reducible apply d_and2) | (with_reducible apply d_or2) | (with_reducible apply d_ife) | (with_reducible apply d_neg) | (with_reducible apply d_isi) | (with_reducible apply d_fld) | (with_reducible apply d_glb) | (with_reducible apply l_cons) | (with_reducible apply l_nil) | (with_reducible apply int_ex) | (with_reducible apply bl_ex) | (with_reducible apply dq_len) | (with_reducible apply dq_abs) | (with_reducible apply t_nt) | (with_reducible apply t_and) | (with_reducible apply t_or) | (with_reducible apply t_and1) | (with_reducible apply t_or1) | (with_reducible apply t_and2) | (with_reducible apply t_or2) | (with_reducible apply t_cmp) | (with_reducible apply t_chn) | (with_reducible apply t_ix) | (with_reducible apply t_isi) | (with_reducible apply t_fld) | (with_reducible apply tr_bl) | (with_reducible apply o_add) | (with_reducible apply o_sub) | (with_reducible apply c_eqI) | (with_reducible apply c_neI) | (with_reducible apply c_ltI) | (with_reducible apply c_leI) | (with_reducible apply c_gtI) | (with_reducible apply c_geI) | (with_reducible apply ss_cons) | (with_reducible apply ss_nil) | (with_reducible apply st_exp) | (with_reducible apply st_asg) | (with_reducible apply st_asl) | (with_reducible apply st_sti) | (with_reducible apply st_agi) | (with_reducible apply st_ifs) | (with_reducible apply st_ret) | (with_reducible apply st_retN) | (with_reducible apply st_pas) | (with_reducible apply aug_i) | (with_reducible apply abs_i) | (with_reducible apply sl_l) | (with_reducible apply len_l) | (with_reducible apply len_t) | (with_reducible refine And.intro (a := _ ≤ sizeLine) (by rw [sizeLine_eq]; simp only [List.length_cons, List.length_nil, List.length_append, List.length_map]; omega) ?_) | (with_reducible refine o_addL (by rw [sizeLine_eq]; simp only [List.length_cons, List.length_nil, List.length_append, List.length_map]; omega) ?_) | (dsimp only)))
    repeat (rw [if_neg (by simp; omega)]; (repeat (first | ((with_reducible apply d_var); focus exact rfl) | ((with_reducible apply t_var); focus exact rfl) | (with_reducible apply d_int) | (with_reducible apply d_str) | (with_reducible apply d_bl) | (with_reducible apply d_non) | (with_reducible apply d_bin) | (with_reducible apply d_cmp) | (with_reducible apply d_ix) | (with_reducible apply d_lst) | (with_reducible apply d_lstC) | (with_reducible apply d_tup) | (with_reducible apply d_sl) | (with_reducible apply d_nn) | (with_reducible apply d_ss) | (with_reducible apply d_nt) | (with_reducible apply d_and) | (with_reducible apply d_or) | (with_reducible apply d_and1) | (with_reducible apply d_or1) | (with_reducible apply d_and2) | (with_reducible apply d_or2) | (with_reducible apply d_ife) | (with_reducible apply d_neg) | (with_reducible apply d_isi) | (with_reducible apply d_fld) | (with_reducible apply d_glb) | (with_reducible apply l_cons) | (with_reducible apply l_nil) | (with_reducible apply int_ex) | (with_reducible apply bl_ex) | (with_reducible apply dq_len) | (with_reducible apply dq_abs) | (with_reducible apply t_nt) | (with_reducible apply t_and) | (with_reducible apply t_or) | (with_reducible apply t_and1) | (with_reducible apply t_or1) | (with_reducible apply t_and2) | (with_reducible apply t_or2) | (with_reducible apply t_cmp) | (with_reducible apply t_chn) | (with_reducible apply t_ix) | (with_reducible apply t_isi) | (with_reducible apply t_fld) | (with_reducible apply tr_bl) | (with_reducible apply o_add) | (with_reducible apply o_sub) | (with_reducible apply c_eqI) | (with_reducible apply c_neI) | (with_reducible apply c_ltI) | (with_reducible apply c_leI) | (with_reducible apply c_gtI) | (with_reducible apply c_geI) | (with_reducible apply ss_cons) | (with_reducible apply ss_nil) | (with_reducible apply st_exp) | (with_reducible apply st_asg) | (with_reducible apply st_asl) | (with_reducible apply st_sti) | (with_reducible apply st_agi) | (with_reducible apply st_ifs) | (with_reducible apply st_ret) | (with_reducible apply st_retN) | (with_reducible apply st_pas) | (with_reducible apply aug_i) | (with_reducible apply abs_i) | (with_reducible apply sl_l) | (with_reducible apply len_l) | (with_reducible apply len_t) | (with_reducible refine And.intro (a := _ ≤ sizeLine) (by rw [sizeLine_eq]; simp only [List.length_cons, List.length_nil, List.length_append, List.length_map]; omega) ?_) | (with_reducible refine o_addL (by rw [sizeLine_eq]; simp only [List.length_cons, List.length_nil, List.length_append, List.length_map]; omega) ?_) | (dsimp only))))
    refine d_call (T := TFurther K) rfl ?_
    (repeat (first | ((with_reducible apply d_var); focus exact rfl) | ((with_reducible apply t_var); focus exact rfl) | (with_reducible apply d_int) | (with_reducible apply d_str) | (with_reducible apply d_bl) | (with_reducible apply d_non) | (with_reducible apply d_bin) | (with_reducible apply d_cmp) | (with_reducible apply d_ix) | (with_reducible apply d_lst) | (with_reducible apply d_lstC) | (with_reducible apply d_tup) | (with_reducible apply d_sl) | (with_reducible apply d_nn) | (with_reducible apply d_ss) | (with_reducible apply d_nt) | (with_reducible apply d_and) | (with_reducible apply d_or) | (with_reducible apply d_and1) | (with_reducible apply d_or1) | (with_reducible apply d_and2) | (with_reducible apply d_or2) | (with_reducible apply d_ife) | (with_reducible apply d_neg) | (with_reducible apply d_isi) | (with_reducible apply d_fld) | (with_reducible apply d_glb) | (with_reducible apply l_cons) | (with_reducible apply l_nil) | (with_reducible apply int_ex) | (with_reducible apply bl_ex) | (with_reducible apply dq_len) | (with_reducible apply dq_abs) | (with_reducible apply t_nt) | (with_reducible apply t_and) | (with_reducible apply t_or) | (with_reducible apply t_and1) | (with_reducible apply t_or1) | (with_reducible apply t_and2) | (with_reducible apply t_or2) | (with_reducible apply t_cmp) | (with_reducible apply t_chn) | (with_reducible apply t_ix) | (with_reducible apply t_isi) | (with_reducible apply t_fld) | (with_reducible apply tr_bl) | (with_reducible apply o_add) | (with_reducible apply o_sub) | (with_reducible apply c_eqI) | (with_reducible apply c_neI) | (with_reducible apply c_ltI) | (with_reducible apply c_leI) | (with_reducible apply c_gtI) | (with_reducible apply c_geI) | (with_reducible apply ss_cons) | (with_reducible apply ss_nil) | (with_reducible apply st_exp) | (with_reducible apply st_asg) | (with_reducible apply st_asl) | (with_reducible apply st_sti) | (with_reducible apply st_agi) | (with_reducible apply st_ifs) | (with_reducible apply st_ret) | (with_reducible apply st_retN) | (with_reducible apply st_pas) | (with_reducible apply aug_i) | (with_reducible apply abs_i) | (with_reducible apply sl_l) | (with_reducible apply len_l) | (with_reducible apply len_t) | (with_reducible refine And.intro (a := _ ≤ sizeLine) (by rw [sizeLine_eq]; simp only [List.length_cons, List.length_nil, List.length_append, List.length_map]; omega) ?_) | (with_reducible refine o_addL (by rw [sizeLine_eq]; simp only [List.length_cons, List.length_nil, List.length_append, List.length_map]; omega) ?_) | (dsimp only)))
    exact ⟨w, d, rfl, by omega, h2, rfl, hY⟩
theorem me4 (c : SaysX fa fn fx K) : Meets ((tb K).sn N4) ((tb K).G K 4) 2 false TCaught b4 := by
  rintro m hm ds S KK Y ⟨w, d, rfl, h2, rfl, hK⟩
  refine ⟨rfl, ?_⟩
  show denSs _ b4 [some (.int w), some d, none] S _ _
  unfold b4
  refine ss_cut (fun _ _ => False) ?_ (fun _ _ z => z.elim)
  refine st_tra rfl ?_
  (repeat (first | ((with_reducible apply d_var); focus exact rfl) | ((with_reducible apply t_var); focus exact rfl) | (with_reducible apply d_int) | (with_reducible apply d_str) | (with_reducible apply d_bl) | (with_reducible apply d_non) | (with_reducible apply d_bin) | (with_reducible apply d_cmp) | (with_reducible apply d_ix) | (with_reducible apply d_lst) | (with_reducible apply d_lstC) | (with_reducible apply d_tup) | (with_reducible apply d_sl) | (with_reducible apply d_nn) | (with_reducible apply d_ss) | (with_reducible apply d_nt) | (with_reducible apply d_and) | (with_reducible apply d_or) | (with_reducible apply d_and1) | (with_reducible apply d_or1) | (with_reducible apply d_and2) | (with_reducible apply d_or2) | (with_reducible apply d_ife) | (with_reducible apply d_neg) | (with_reducible apply d_isi) | (with_reducible apply d_fld) | (with_reducible apply d_glb) | (with_reducible apply l_cons) | (with_reducible apply l_nil) | (with_reducible apply int_ex) | (with_reducible apply bl_ex) | (with_reducible apply dq_len) | (with_reducible apply dq_abs) | (with_reducible apply t_nt) | (with_reducible apply t_and) | (with_reducible apply t_or) | (with_reducible apply t_and1) | (with_reducible apply t_or1) | (with_reducible apply t_and2) | (with_reducible apply t_or2) | (with_reducible apply t_cmp) | (with_reducible apply t_chn) | (with_reducible apply t_ix) | (with_reducible apply t_isi) | (with_reducible apply t_fld) | (with_reducible apply tr_bl) | (with_reducible apply o_add) | (with_reducible apply o_sub) | (with_reducible apply c_eqI) | (with_reducible apply c_neI) | (with_reducible apply c_ltI) | (with_reducible apply c_leI) | (with_reducible apply c_gtI) | (with_reducible apply c_geI) | (with_reducible apply ss_cons) | (with_reducible apply ss_nil) | (with_reducible apply st_exp) | (with_reducible apply st_asg) | (with_reducible apply st_asl) | (with_reducible apply st_sti) | (with_reducible apply st_agi) | (with_reducible apply st_ifs) | (with_reducible apply st_ret) | (with_reducible apply st_retN) | (with_reducible apply st_pas) | (with_reducible apply aug_i) | (with_reducible apply abs_i) | (with_reducible apply sl_l) | (with_reducible apply len_l) | (with_reducible apply len_t) | (with_reducible refine And.intro (a := _ ≤ sizeLine) (by rw [sizeLine_eq]; simp only [List.length_cons, List.length_nil, List.length_append, List.length_map]; omega) ?_) | (with_reducible refine o_addL (by rw [sizeLine_eq]; simp only [List.length_cons, List.length_nil, List.length_append, List.length_map]; omega) ?_) | (dsimp only)))
  refine d_call (T := TRaised K) rfl ?_
  (repeat (first | ((with_reducible apply d_var); focus exact rfl) | ((with_reducible apply t_var); focus exact rfl) | (with_reducible apply d_int) | (with_reducible apply d_str) | (with_reducible apply d_bl) | (with_reducible apply d_non) | (with_reducible apply d_bin) | (with_reducible apply d_cmp) | (with_reducible apply d_ix) | (with_reducible apply d_lst) | (with_reducible apply d_lstC) | (with_reducible apply d_tup) | (with_reducible apply d_sl) | (with_reducible apply d_nn) | (with_reducible apply d_ss) | (with_reducible apply d_nt) | (with_reducible apply d_and) | (with_reducible apply d_or) | (with_reducible apply d_and1) | (with_reducible apply d_or1) | (with_reducible apply d_and2) | (with_reducible apply d_or2) | (with_reducible apply d_ife) | (with_reducible apply d_neg) | (with_reducible apply d_isi) | (with_reducible apply d_fld) | (with_reducible apply d_glb) | (with_reducible apply l_cons) | (with_reducible apply l_nil) | (with_reducible apply int_ex) | (with_reducible apply bl_ex) | (with_reducible apply dq_len) | (with_reducible apply dq_abs) | (with_reducible apply t_nt) | (with_reducible apply t_and) | (with_reducible apply t_or) | (with_reducible apply t_and1) | (with_reducible apply t_or1) | (with_reducible apply t_and2) | (with_reducible apply t_or2) | (with_reducible apply t_cmp) | (with_reducible apply t_chn) | (with_reducible apply t_ix) | (with_reducible apply t_isi) | (with_reducible apply t_fld) | (with_reducible apply tr_bl) | (with_reducible apply o_add) | (with_reducible apply o_sub) | (with_reducible apply c_eqI) | (with_reducible apply c_neI) | (with_reducible apply c_ltI) | (with_reducible apply c_leI) | (with_reducible apply c_gtI) | (with_reducible apply c_geI) | (with_reducible apply ss_cons) | (with_reducible apply ss_nil) | (with_reducible apply st_exp) | (with_reducible apply st_asg) | (with_reducible apply st_asl) | (with_reducible apply st_sti) | (with_reducible apply st_agi) | (with_reducible apply st_ifs) | (with_reducible apply st_ret) | (with_reducible apply st_retN) | (with_reducible apply st_pas) | (with_reducible apply aug_i) | (with_reducible apply abs_i) | (with_reducible apply sl_l) | (with_reducible apply len_l) | (with_reducible apply len_t) | (with_reducible refine And.intro (a := _ ≤ sizeLine) (by rw [sizeLine_eq]; simp only [List.length_cons, List.length_nil, List.length_append, List.length_map]; omega) ?_) | (with_reducible refine o_addL (by rw [sizeLine_eq]; simp only [List.length_cons, List.length_nil, List.length_append, List.length_map]; omega) ?_) | (dsimp only)))
  refine ⟨w, d, rfl, h2, rfl, fun fs => ?_⟩
  refine ⟨true, exA_ok (c.fact 36 rfl) (exl w h2), fun _ a oe => ?_, fun z => nomatch z⟩
  (repeat (first | ((with_reducible apply d_var); focus exact rfl) | ((with_reducible apply t_var); focus exact rfl) | (with_reducible apply d_int) | (with_reducible apply d_str) | (with_reducible apply d_bl) | (with_reducible apply d_non) | (with_reducible apply d_bin) | (with_reducible apply d_cmp) | (with_reducible apply d_ix) | (with_reducible apply d_lst) | (with_reducible apply d_lstC) | (with_reducible apply d_tup) | (with_reducible apply d_sl) | (with_reducible apply d_nn) | (with_reducible apply d_ss) | (with_reducible apply d_nt) | (with_reducible apply d_and) | (with_reducible apply d_or) | (with_reducible apply d_and1) | (with_reducible apply d_or1) | (with_reducible apply d_and2) | (with_reducible apply d_or2) | (with_reducible apply d_ife) | (with_reducible apply d_neg) | (with_reducible apply d_isi) | (with_reducible apply d_fld) | (with_reducible apply d_glb) | (with_reducible apply l_cons) | (with_reducible apply l_nil) | (with_reducible apply int_ex) | (with_reducible apply bl_ex) | (with_reducible apply dq_len) | (with_reducible apply dq_abs) | (with_reducible apply t_nt) | (with_reducible apply t_and) | (with_reducible apply t_or) | (with_reducible apply t_and1) | (with_reducible apply t_or1) | (with_reducible apply t_and2) | (with_reducible apply t_or2) | (with_reducible apply t_cmp) | (with_reducible apply t_chn) | (with_reducible apply t_ix) | (with_reducible apply t_isi) | (with_reducible apply t_fld) | (with_reducible apply tr_bl) | (with_reducible apply o_add) | (with_reducible apply o_sub) | (with_reducible apply c_eqI) | (with_reducible apply c_neI) | (with_reducible apply c_ltI) | (with_reducible apply c_leI) | (with_reducible apply c_gtI) | (with_reducible apply c_geI) | (with_reducible apply ss_cons) | (with_reducible apply ss_nil) | (with_reducible apply st_exp) | (with_reducible apply st_asg) | (with_reducible apply st_asl) | (with_reducible apply st_sti) | (with_reducible apply st_agi) | (with_reducible apply st_ifs) | (with_reducible apply st_ret) | (with_reducible apply st_retN) | (with_reducible apply st_pas) | (with_reducible apply aug_i) | (with_reducible apply abs_i) | (with_reducible apply sl_l) | (with_reducible apply len_l) | (with_reducible apply len_t) | (with_reducible refine And.intro (a := _ ≤ sizeLine) (by rw [sizeLine_eq]; simp only [List.length_cons, List.length_nil, List.length_append, List.length_map]; omega) ?_) | (with_reducible refine o_addL (by rw [sizeLine_eq]; simp only [List.length_cons, List.length_nil, List.length_append, List.length_map]; omega) ?_) | (dsimp only)))
  refine d_call (T := TFlags K) rfl ?_
  (repeat (first | ((with_reducible apply d_var); focus exact rfl) | ((with_reducible apply t_var); focus exact rfl) | (with_reducible apply d_int) | (with_reducible apply d_str) | (with_reducible apply d_bl) | (with_reducible apply d_non) | (with_reducible apply d_bin) | (with_reducible apply d_cmp) | (with_reducible apply d_ix) | (with_reducible apply d_lst) | (with_reducible apply d_lstC) | (with_reducible apply d_tup) | (with_reducible apply d_sl) | (with_reducible apply d_nn) | (with_reducible apply d_ss) | (with_reducible apply d_nt) | (with_reducible apply d_and) | (with_reducible apply d_or) | (with_reducible apply d_and1) | (with_reducible apply d_or1) | (with_reducible apply d_and2) | (with_reducible apply d_or2) | (with_reducible apply d_ife) | (with_reducible apply d_neg) | (with_reducible apply d_isi) | (with_reducible apply d_fld) | (with_reducible apply d_glb) | (with_reducible apply l_cons) | (with_reducible apply l_nil) | (with_reducible apply int_ex) | (with_reducible apply bl_ex) | (with_reducible apply dq_len) | (with_reducible apply dq_abs) | (with_reducible apply t_nt) | (with_reducible apply t_and) | (with_reducible apply t_or) | (with_reducible apply t_and1) | (with_reducible apply t_or1) | (with_reducible apply t_and2) | (with_reducible apply t_or2) | (with_reducible apply t_cmp) | (with_reducible apply t_chn) | (with_reducible apply t_ix) | (with_reducible apply t_isi) | (with_reducible apply t_fld) | (with_reducible apply tr_bl) | (with_reducible apply o_add) | (with_reducible apply o_sub) | (with_reducible apply c_eqI) | (with_reducible apply c_neI) | (with_reducible apply c_ltI) | (with_reducible apply c_leI) | (with_reducible apply c_gtI) | (with_reducible apply c_geI) | (with_reducible apply ss_cons) | (with_reducible apply ss_nil) | (with_reducible apply st_exp) | (with_reducible apply st_asg) | (with_reducible apply st_asl) | (with_reducible apply st_sti) | (with_reducible apply st_agi) | (with_reducible apply st_ifs) | (with_reducible apply st_ret) | (with_reducible apply st_retN) | (with_reducible apply st_pas) | (with_reducible apply aug_i) | (with_reducible apply abs_i) | (with_reducible apply sl_l) | (with_reducible apply len_l) | (with_reducible apply len_t) | (with_reducible refine And.intro (a := _ ≤ sizeLine) (by rw [sizeLine_eq]; simp only [List.length_cons, List.length_nil, List.length_append, List.length_map]; omega) ?_) | (with_reducible refine o_addL (by rw [sizeLine_eq]; simp only [List.length_cons, List.length_nil, List.length_append, List.length_map]; omega) ?_) | (dsimp only)))
  exact ⟨a, oe, fs, w, rfl, h2, rfl, hK⟩
end
end Cl

namespace Cl
open PySem PySem.Spec PyProof.Rows L2 Sv
theorem cut_take {xs : List D} {k : Nat} : Sv.cutD xs none (some (k : Int)) = xs.take k := by
  unfold Sv.cutD
  rw [HT.sIx_none, HT.sIx_nat]
  simp only [List.drop_zero, Nat.sub_zero]
  by_cases h : k ≤ xs.length
  · rw [Nat.min_eq_left h]
  · rw [Nat.min_eq_right (by omega), List.take_length, List.take_of_length_le (by omega)]
theorem atI_ex {l : List D} {u : Int} (h0 : 0 ≤ u) (h1 : u < l.length) : ∃ d, atI l u = some d := by
  obtain ⟨k, rfl⟩ := Int.eq_ofNat_of_zero_le h0
  have hk : k < l.length := by omega
  exact ⟨_, atI_nat (List.getElem?_eq_getElem hk)⟩
theorem pys_bl : ∀ bs : List Bool, PyData.eqvAll (D.pys (bs.map D.bl)) (D.pys (bs.map D.bl)) = true
  | [] => rfl
  | b :: bs => by
    simp only [List.map_cons, D.pys, D.py, PyData.eqvAll, PyData.eqv, pys_bl bs]
    cases b <;> rfl
theorem eqv_bl (bs : List Bool) : D.eqv (.lst (bs.map D.bl)) (.lst (bs.map D.bl)) = true := by
  simp only [D.eqv, D.py, PyData.eqv, pys_bl]
variable {K : PySem.W.Frag}
def absD1 : D → D
  | .int i => .int (if i < 0 then -i else i)
  | d => d
theorem me0 (c : SaysX fa fn fx K) : Meets ((tb K).sn N0) ((tb K).G K 0) 1 false TBag b0 := by
  rintro m hm ds S KK Y ⟨rfl, ns, rfl, hK⟩
  refine ⟨rfl, ?_⟩
  show denSs _ b0 [some (.lst (ns.map .int)), none] S _ _
  unfold b0
  (repeat (first | ((with_reducible apply d_var); focus exact rfl) | ((with_reducible apply t_var); focus exact rfl) | (with_reducible apply d_int) | (with_reducible apply d_str) | (with_reducible apply d_bl) | (with_reducible apply d_non) | (with_reducible apply d_bin) | (with_reducible apply d_cmp) | (with_reducible apply d_ix) | (with_reducible apply d_lst) | (with_reducible apply d_lstC) | (with_reducible apply d_tup) | (with_reducible apply d_sl) | (with_reducible apply d_nn) | (with_reducible apply d_ss) | (with_reducible apply d_nt) | (with_reducible apply d_and) | (with_reducible apply d_or) | (with_reducible apply d_and1) | (with_reducible apply d_or1) | (with_reducible apply d_and2) | (with_reducible apply d_or2) | (with_reducible apply d_ife) | (with_reducible apply d_neg) | (with_reducible apply d_isi) | (with_reducible apply d_fld) | (with_reducible apply d_glb) | (with_reducible apply l_cons) | (with_reducible apply l_nil) | (with_reducible apply int_ex) | (with_reducible apply bl_ex) | (with_reducible apply dq_len) | (with_reducible apply dq_abs) | (with_reducible apply t_nt) | (with_reducible apply t_and) | (with_reducible apply t_or) | (with_reducible apply t_and1) | (with_reducible apply t_or1) | (with_reducible apply t_and2) | (with_reducible apply t_or2) | (with_reducible apply t_cmp) | (with_reducible apply t_chn) | (with_reducible apply t_ix) | (with_reducible apply t_isi) | (with_reducible apply t_fld) | (with_reducible apply tr_bl) | (with_reducible apply o_add) | (with_reducible apply o_sub) | (with_reducible apply c_eqI) | (with_reducible apply c_neI) | (with_reducible apply c_ltI) | (with_reducible apply c_leI) | (with_reducible apply c_gtI) | (with_reducible apply c_geI) | (with_reducible apply ss_cons) | (with_reducible apply ss_nil) | (with_reducible apply st_exp) | (with_reducible apply st_asg) | (with_reducible apply st_asl) | (with_reducible apply st_sti) | (with_reducible apply st_agi) | (with_reducible apply st_ifs) | (with_reducible apply st_ret) | (with_reducible apply st_retN) | (with_reducible apply st_pas) | (with_reducible apply aug_i) | (with_reducible apply abs_i) | (with_reducible apply sl_l) | (with_reducible apply len_l) | (with_reducible apply len_t) | (with_reducible refine And.intro (a := _ ≤ sizeLine) (by rw [sizeLine_eq]; simp only [List.length_cons, List.length_nil, List.length_append, List.length_map]; omega) ?_) | (with_reducible refine o_addL (by rw [sizeLine_eq]; simp only [List.length_cons, List.length_nil, List.length_append, List.length_map]; omega) ?_) | (dsimp only)))
  refine d_lc rfl ?_
  refine i_l ?_
  (repeat (first | ((with_reducible apply d_var); focus exact rfl) | ((with_reducible apply t_var); focus exact rfl) | (with_reducible apply d_int) | (with_reducible apply d_str) | (with_reducible apply d_bl) | (with_reducible apply d_non) | (with_reducible apply d_bin) | (with_reducible apply d_cmp) | (with_reducible apply d_ix) | (with_reducible apply d_lst) | (with_reducible apply d_lstC) | (with_reducible apply d_tup) | (with_reducible apply d_sl) | (with_reducible apply d_nn) | (with_reducible apply d_ss) | (with_reducible apply d_nt) | (with_reducible apply d_and) | (with_reducible apply d_or) | (with_reducible apply d_and1) | (with_reducible apply d_or1) | (with_reducible apply d_and2) | (with_reducible apply d_or2) | (with_reducible apply d_ife) | (with_reducible apply d_neg) | (with_reducible apply d_isi) | (with_reducible apply d_fld) | (with_reducible apply d_glb) | (with_reducible apply l_cons) | (with_reducible apply l_nil) | (with_reducible apply int_ex) | (with_reducible apply bl_ex) | (with_reducible apply dq_len) | (with_reducible apply dq_abs) | (with_reducible apply t_nt) | (with_reducible apply t_and) | (with_reducible apply t_or) | (with_reducible apply t_and1) | (with_reducible apply t_or1) | (with_reducible apply t_and2) | (with_reducible apply t_or2) | (with_reducible apply t_cmp) | (with_reducible apply t_chn) | (with_reducible apply t_ix) | (with_reducible apply t_isi) | (with_reducible apply t_fld) | (with_reducible apply tr_bl) | (with_reducible apply o_add) | (with_reducible apply o_sub) | (with_reducible apply c_eqI) | (with_reducible apply c_neI) | (with_reducible apply c_ltI) | (with_reducible apply c_leI) | (with_reducible apply c_gtI) | (with_reducible apply c_geI) | (with_reducible apply ss_cons) | (with_reducible apply ss_nil) | (with_reducible apply st_exp) | (with_reducible apply st_asg) | (with_reducible apply st_asl) | (with_reducible apply st_sti) | (with_reducible apply st_agi) | (with_reducible apply st_ifs) | (with_reducible apply st_ret) | (with_reducible apply st_retN) | (with_reducible apply st_pas) | (with_reducible apply aug_i) | (with_reducible apply abs_i) | (with_reducible apply sl_l) | (with_reducible apply len_l) | (with_reducible apply len_t) | (with_reducible refine And.intro (a := _ ≤ sizeLine) (by rw [sizeLine_eq]; simp only [List.length_cons, List.length_nil, List.length_append, List.length_map]; omega) ?_) | (with_reducible refine o_addL (by rw [sizeLine_eq]; simp only [List.length_cons, List.length_nil, List.length_append, List.length_map]; omega) ?_) | (dsimp only)))
  refine ⟨_, rfl, ?_⟩
  rw [show (63 : Int) = ((63 : Nat) : Int) from rfl, cut_take]
  have hl : ((ns.map D.int).take 63).length ≤ 63 := by rw [List.length_take]; omega
  refine lc_fm absD1 (fun _ => true) (by rw [sizeLine_eq]; omega) (fun _ _ _ => rfl) (fun p i acc d KK KN hd hp hk hn => ?_) ?_
  · refine tg_1 (c_nn ?_)
    rw [if_pos rfl]
    have hm : d ∈ ns.map D.int := List.mem_of_mem_take (List.mem_of_getElem? hd)
    obtain ⟨x, _, rfl⟩ := List.mem_map.mp hm
    (repeat (first | ((with_reducible apply d_var); focus exact rfl) | ((with_reducible apply t_var); focus exact rfl) | (with_reducible apply d_int) | (with_reducible apply d_str) | (with_reducible apply d_bl) | (with_reducible apply d_non) | (with_reducible apply d_bin) | (with_reducible apply d_cmp) | (with_reducible apply d_ix) | (with_reducible apply d_lst) | (with_reducible apply d_lstC) | (with_reducible apply d_tup) | (with_reducible apply d_sl) | (with_reducible apply d_nn) | (with_reducible apply d_ss) | (with_reducible apply d_nt) | (with_reducible apply d_and) | (with_reducible apply d_or) | (with_reducible apply d_and1) | (with_reducible apply d_or1) | (with_reducible apply d_and2) | (with_reducible apply d_or2) | (with_reducible apply d_ife) | (with_reducible apply d_neg) | (with_reducible apply d_isi) | (with_reducible apply d_fld) | (with_reducible apply d_glb) | (with_reducible apply l_cons) | (with_reducible apply l_nil) | (with_reducible apply int_ex) | (with_reducible apply bl_ex) | (with_reducible apply dq_len) | (with_reducible apply dq_abs) | (with_reducible apply t_nt) | (with_reducible apply t_and) | (with_reducible apply t_or) | (with_reducible apply t_and1) | (with_reducible apply t_or1) | (with_reducible apply t_and2) | (with_reducible apply t_or2) | (with_reducible apply t_cmp) | (with_reducible apply t_chn) | (with_reducible apply t_ix) | (with_reducible apply t_isi) | (with_reducible apply t_fld) | (with_reducible apply tr_bl) | (with_reducible apply o_add) | (with_reducible apply o_sub) | (with_reducible apply c_eqI) | (with_reducible apply c_neI) | (with_reducible apply c_ltI) | (with_reducible apply c_leI) | (with_reducible apply c_gtI) | (with_reducible apply c_geI) | (with_reducible apply ss_cons) | (with_reducible apply ss_nil) | (with_reducible apply st_exp) | (with_reducible apply st_asg) | (with_reducible apply st_asl) | (with_reducible apply st_sti) | (with_reducible apply st_agi) | (with_reducible apply st_ifs) | (with_reducible apply st_ret) | (with_reducible apply st_retN) | (with_reducible apply st_pas) | (with_reducible apply aug_i) | (with_reducible apply abs_i) | (with_reducible apply sl_l) | (with_reducible apply len_l) | (with_reducible apply len_t) | (with_reducible refine And.intro (a := _ ≤ sizeLine) (by rw [sizeLine_eq]; simp only [List.length_cons, List.length_nil, List.length_append, List.length_map]; omega) ?_) | (with_reducible refine o_addL (by rw [sizeLine_eq]; simp only [List.length_cons, List.length_nil, List.length_append, List.length_map]; omega) ?_) | (dsimp only)))
    exact hk rfl
  · have e : (((ns.map D.int).take 63).filter fun _ => true).map absD1 = ((ns.take 63).map fun i => if i < 0 then -i else i).map D.int := by
      rw [List.filter_eq_self.mpr (fun _ _ => rfl), ← List.map_take, List.map_map, List.map_map]
      rfl
    rw [e]
    (repeat (first | ((with_reducible apply d_var); focus exact rfl) | ((with_reducible apply t_var); focus exact rfl) | (with_reducible apply d_int) | (with_reducible apply d_str) | (with_reducible apply d_bl) | (with_reducible apply d_non) | (with_reducible apply d_bin) | (with_reducible apply d_cmp) | (with_reducible apply d_ix) | (with_reducible apply d_lst) | (with_reducible apply d_lstC) | (with_reducible apply d_tup) | (with_reducible apply d_sl) | (with_reducible apply d_nn) | (with_reducible apply d_ss) | (with_reducible apply d_nt) | (with_reducible apply d_and) | (with_reducible apply d_or) | (with_reducible apply d_and1) | (with_reducible apply d_or1) | (with_reducible apply d_and2) | (with_reducible apply d_or2) | (with_reducible apply d_ife) | (with_reducible apply d_neg) | (with_reducible apply d_isi) | (with_reducible apply d_fld) | (with_reducible apply d_glb) | (with_reducible apply l_cons) | (with_reducible apply l_nil) | (with_reducible apply int_ex) | (with_reducible apply bl_ex) | (with_reducible apply dq_len) | (with_reducible apply dq_abs) | (with_reducible apply t_nt) | (with_reducible apply t_and) | (with_reducible apply t_or) | (with_reducible apply t_and1) | (with_reducible apply t_or1) | (with_reducible apply t_and2) | (with_reducible apply t_or2) | (with_reducible apply t_cmp) | (with_reducible apply t_chn) | (with_reducible apply t_ix) | (with_reducible apply t_isi) | (with_reducible apply t_fld) | (with_reducible apply tr_bl) | (with_reducible apply o_add) | (with_reducible apply o_sub) | (with_reducible apply c_eqI) | (with_reducible apply c_neI) | (with_reducible apply c_ltI) | (with_reducible apply c_leI) | (with_reducible apply c_gtI) | (with_reducible apply c_geI) | (with_reducible apply ss_cons) | (with_reducible apply ss_nil) | (with_reducible apply st_exp) | (with_reducible apply st_asg) | (with_reducible apply st_asl) | (with_reducible apply st_sti) | (with_reducible apply st_agi) | (with_reducible apply st_ifs) | (with_reducible apply st_ret) | (with_reducible apply st_retN) | (with_reducible apply st_pas) | (with_reducible apply aug_i) | (with_reducible apply abs_i) | (with_reducible apply sl_l) | (with_reducible apply len_l) | (with_reducible apply len_t) | (with_reducible refine And.intro (a := _ ≤ sizeLine) (by rw [sizeLine_eq]; simp only [List.length_cons, List.length_nil, List.length_append, List.length_map]; omega) ?_) | (with_reducible refine o_addL (by rw [sizeLine_eq]; simp only [List.length_cons, List.length_nil, List.length_append, List.length_map]; omega) ?_) | (dsimp only)))
    intro p hp
    refine hK p _ hp ⟨0, 1234567891, 0, _, rfl, by decide, by decide, by decide, by decide, fun i hi => ?_⟩
    obtain ⟨x, _, rfl⟩ := List.mem_map.mp hi
    split <;> omega

def flD (w : Nat) : D → D
  | .int j => .bl (decide (j = (w : Int)))
  | d => d
theorem flags_eq (w : Nat) : (((rngD 0 (Int.toNat 13)).filter fun _ => true).map (flD w)) ++ [.bl true] = flagsD w := by
  unfold rngD flagsD
  rw [List.filter_eq_self.mpr (fun _ _ => rfl), List.map_map]
  congr 1
  apply List.map_congr_left
  intro j _
  show D.bl (decide ((0 : Int) + (j : Int) = (w : Int))) = D.bl (decide (j = w))
  congr 1
  apply decide_eq_decide.mpr
  omega
theorem flags_self (w : Nat) : D.eqv (.lst (flagsD w)) (.lst (flagsD w)) = true := by
  have e : flagsD w = ((List.range 13).map (fun j => decide (j = w)) ++ [true]).map D.bl := by
    unfold flagsD
    rw [List.map_append, List.map_map]
    rfl
  rw [e]
  exact eqv_bl _
theorem me6 (c : SaysX fa fn fx K) : Meets ((tb K).sn N6) ((tb K).G K 6) 1 false (lawT 63) b6 := by
  rintro m hm ds S KK Y ⟨ns, hn, rfl, hS, hK⟩
  have hm0 : m = none := by cases m with | none => rfl | some _ => cases hm
  subst hm0
  refine ⟨rfl, ?_⟩
  show denSs _ b6 [some (.lst (ns.map .int)), none, none, none, none, none, none, none] S _ _
  unfold b6
  (repeat (first | ((with_reducible apply d_var); focus exact rfl) | ((with_reducible apply t_var); focus exact rfl) | (with_reducible apply d_int) | (with_reducible apply d_str) | (with_reducible apply d_bl) | (with_reducible apply d_non) | (with_reducible apply d_bin) | (with_reducible apply d_cmp) | (with_reducible apply d_ix) | (with_reducible apply d_lst) | (with_reducible apply d_lstC) | (with_reducible apply d_tup) | (with_reducible apply d_sl) | (with_reducible apply d_nn) | (with_reducible apply d_ss) | (with_reducible apply d_nt) | (with_reducible apply d_and) | (with_reducible apply d_or) | (with_reducible apply d_and1) | (with_reducible apply d_or1) | (with_reducible apply d_and2) | (with_reducible apply d_or2) | (with_reducible apply d_ife) | (with_reducible apply d_neg) | (with_reducible apply d_isi) | (with_reducible apply d_fld) | (with_reducible apply d_glb) | (with_reducible apply l_cons) | (with_reducible apply l_nil) | (with_reducible apply int_ex) | (with_reducible apply bl_ex) | (with_reducible apply dq_len) | (with_reducible apply dq_abs) | (with_reducible apply t_nt) | (with_reducible apply t_and) | (with_reducible apply t_or) | (with_reducible apply t_and1) | (with_reducible apply t_or1) | (with_reducible apply t_and2) | (with_reducible apply t_or2) | (with_reducible apply t_cmp) | (with_reducible apply t_chn) | (with_reducible apply t_ix) | (with_reducible apply t_isi) | (with_reducible apply t_fld) | (with_reducible apply tr_bl) | (with_reducible apply o_add) | (with_reducible apply o_sub) | (with_reducible apply c_eqI) | (with_reducible apply c_neI) | (with_reducible apply c_ltI) | (with_reducible apply c_leI) | (with_reducible apply c_gtI) | (with_reducible apply c_geI) | (with_reducible apply ss_cons) | (with_reducible apply ss_nil) | (with_reducible apply st_exp) | (with_reducible apply st_asg) | (with_reducible apply st_asl) | (with_reducible apply st_sti) | (with_reducible apply st_agi) | (with_reducible apply st_ifs) | (with_reducible apply st_ret) | (with_reducible apply st_retN) | (with_reducible apply st_pas) | (with_reducible apply aug_i) | (with_reducible apply abs_i) | (with_reducible apply sl_l) | (with_reducible apply len_l) | (with_reducible apply len_t) | (with_reducible refine And.intro (a := _ ≤ sizeLine) (by rw [sizeLine_eq]; simp only [List.length_cons, List.length_nil, List.length_append, List.length_map]; omega) ?_) | (with_reducible refine o_addL (by rw [sizeLine_eq]; simp only [List.length_cons, List.length_nil, List.length_append, List.length_map]; omega) ?_) | (dsimp only)))
  refine d_call (T := TBag) rfl ?_
  (repeat (first | ((with_reducible apply d_var); focus exact rfl) | ((with_reducible apply t_var); focus exact rfl) | (with_reducible apply d_int) | (with_reducible apply d_str) | (with_reducible apply d_bl) | (with_reducible apply d_non) | (with_reducible apply d_bin) | (with_reducible apply d_cmp) | (with_reducible apply d_ix) | (with_reducible apply d_lst) | (with_reducible apply d_lstC) | (with_reducible apply d_tup) | (with_reducible apply d_sl) | (with_reducible apply d_nn) | (with_reducible apply d_ss) | (with_reducible apply d_nt) | (with_reducible apply d_and) | (with_reducible apply d_or) | (with_reducible apply d_and1) | (with_reducible apply d_or1) | (with_reducible apply d_and2) | (with_reducible apply d_or2) | (with_reducible apply d_ife) | (with_reducible apply d_neg) | (with_reducible apply d_isi) | (with_reducible apply d_fld) | (with_reducible apply d_glb) | (with_reducible apply l_cons) | (with_reducible apply l_nil) | (with_reducible apply int_ex) | (with_reducible apply bl_ex) | (with_reducible apply dq_len) | (with_reducible apply dq_abs) | (with_reducible apply t_nt) | (with_reducible apply t_and) | (with_reducible apply t_or) | (with_reducible apply t_and1) | (with_reducible apply t_or1) | (with_reducible apply t_and2) | (with_reducible apply t_or2) | (with_reducible apply t_cmp) | (with_reducible apply t_chn) | (with_reducible apply t_ix) | (with_reducible apply t_isi) | (with_reducible apply t_fld) | (with_reducible apply tr_bl) | (with_reducible apply o_add) | (with_reducible apply o_sub) | (with_reducible apply c_eqI) | (with_reducible apply c_neI) | (with_reducible apply c_ltI) | (with_reducible apply c_leI) | (with_reducible apply c_gtI) | (with_reducible apply c_geI) | (with_reducible apply ss_cons) | (with_reducible apply ss_nil) | (with_reducible apply st_exp) | (with_reducible apply st_asg) | (with_reducible apply st_asl) | (with_reducible apply st_sti) | (with_reducible apply st_agi) | (with_reducible apply st_ifs) | (with_reducible apply st_ret) | (with_reducible apply st_retN) | (with_reducible apply st_pas) | (with_reducible apply aug_i) | (with_reducible apply abs_i) | (with_reducible apply sl_l) | (with_reducible apply len_l) | (with_reducible apply len_t) | (with_reducible refine And.intro (a := _ ≤ sizeLine) (by rw [sizeLine_eq]; simp only [List.length_cons, List.length_nil, List.length_append, List.length_map]; omega) ?_) | (with_reducible refine o_addL (by rw [sizeLine_eq]; simp only [List.length_cons, List.length_nil, List.length_append, List.length_map]; omega) ?_) | (dsimp only)))
  refine ⟨rfl, ns, rfl, fun p c0 hp hc0 => ?_⟩
  (repeat (first | ((with_reducible apply d_var); focus exact rfl) | ((with_reducible apply t_var); focus exact rfl) | (with_reducible apply d_int) | (with_reducible apply d_str) | (with_reducible apply d_bl) | (with_reducible apply d_non) | (with_reducible apply d_bin) | (with_reducible apply d_cmp) | (with_reducible apply d_ix) | (with_reducible apply d_lst) | (with_reducible apply d_lstC) | (with_reducible apply d_tup) | (with_reducible apply d_sl) | (with_reducible apply d_nn) | (with_reducible apply d_ss) | (with_reducible apply d_nt) | (with_reducible apply d_and) | (with_reducible apply d_or) | (with_reducible apply d_and1) | (with_reducible apply d_or1) | (with_reducible apply d_and2) | (with_reducible apply d_or2) | (with_reducible apply d_ife) | (with_reducible apply d_neg) | (with_reducible apply d_isi) | (with_reducible apply d_fld) | (with_reducible apply d_glb) | (with_reducible apply l_cons) | (with_reducible apply l_nil) | (with_reducible apply int_ex) | (with_reducible apply bl_ex) | (with_reducible apply dq_len) | (with_reducible apply dq_abs) | (with_reducible apply t_nt) | (with_reducible apply t_and) | (with_reducible apply t_or) | (with_reducible apply t_and1) | (with_reducible apply t_or1) | (with_reducible apply t_and2) | (with_reducible apply t_or2) | (with_reducible apply t_cmp) | (with_reducible apply t_chn) | (with_reducible apply t_ix) | (with_reducible apply t_isi) | (with_reducible apply t_fld) | (with_reducible apply tr_bl) | (with_reducible apply o_add) | (with_reducible apply o_sub) | (with_reducible apply c_eqI) | (with_reducible apply c_neI) | (with_reducible apply c_ltI) | (with_reducible apply c_leI) | (with_reducible apply c_gtI) | (with_reducible apply c_geI) | (with_reducible apply ss_cons) | (with_reducible apply ss_nil) | (with_reducible apply st_exp) | (with_reducible apply st_asg) | (with_reducible apply st_asl) | (with_reducible apply st_sti) | (with_reducible apply st_agi) | (with_reducible apply st_ifs) | (with_reducible apply st_ret) | (with_reducible apply st_retN) | (with_reducible apply st_pas) | (with_reducible apply aug_i) | (with_reducible apply abs_i) | (with_reducible apply sl_l) | (with_reducible apply len_l) | (with_reducible apply len_t) | (with_reducible refine And.intro (a := _ ≤ sizeLine) (by rw [sizeLine_eq]; simp only [List.length_cons, List.length_nil, List.length_append, List.length_map]; omega) ?_) | (with_reducible refine o_addL (by rw [sizeLine_eq]; simp only [List.length_cons, List.length_nil, List.length_append, List.length_map]; omega) ?_) | (dsimp only)))
  refine d_call (T := TTake) rfl ?_
  (repeat (first | ((with_reducible apply d_var); focus exact rfl) | ((with_reducible apply t_var); focus exact rfl) | (with_reducible apply d_int) | (with_reducible apply d_str) | (with_reducible apply d_bl) | (with_reducible apply d_non) | (with_reducible apply d_bin) | (with_reducible apply d_cmp) | (with_reducible apply d_ix) | (with_reducible apply d_lst) | (with_reducible apply d_lstC) | (with_reducible apply d_tup) | (with_reducible apply d_sl) | (with_reducible apply d_nn) | (with_reducible apply d_ss) | (with_reducible apply d_nt) | (with_reducible apply d_and) | (with_reducible apply d_or) | (with_reducible apply d_and1) | (with_reducible apply d_or1) | (with_reducible apply d_and2) | (with_reducible apply d_or2) | (with_reducible apply d_ife) | (with_reducible apply d_neg) | (with_reducible apply d_isi) | (with_reducible apply d_fld) | (with_reducible apply d_glb) | (with_reducible apply l_cons) | (with_reducible apply l_nil) | (with_reducible apply int_ex) | (with_reducible apply bl_ex) | (with_reducible apply dq_len) | (with_reducible apply dq_abs) | (with_reducible apply t_nt) | (with_reducible apply t_and) | (with_reducible apply t_or) | (with_reducible apply t_and1) | (with_reducible apply t_or1) | (with_reducible apply t_and2) | (with_reducible apply t_or2) | (with_reducible apply t_cmp) | (with_reducible apply t_chn) | (with_reducible apply t_ix) | (with_reducible apply t_isi) | (with_reducible apply t_fld) | (with_reducible apply tr_bl) | (with_reducible apply o_add) | (with_reducible apply o_sub) | (with_reducible apply c_eqI) | (with_reducible apply c_neI) | (with_reducible apply c_ltI) | (with_reducible apply c_leI) | (with_reducible apply c_gtI) | (with_reducible apply c_geI) | (with_reducible apply ss_cons) | (with_reducible apply ss_nil) | (with_reducible apply st_exp) | (with_reducible apply st_asg) | (with_reducible apply st_asl) | (with_reducible apply st_sti) | (with_reducible apply st_agi) | (with_reducible apply st_ifs) | (with_reducible apply st_ret) | (with_reducible apply st_retN) | (with_reducible apply st_pas) | (with_reducible apply aug_i) | (with_reducible apply abs_i) | (with_reducible apply sl_l) | (with_reducible apply len_l) | (with_reducible apply len_t) | (with_reducible refine And.intro (a := _ ≤ sizeLine) (by rw [sizeLine_eq]; simp only [List.length_cons, List.length_nil, List.length_append, List.length_map]; omega) ?_) | (with_reducible refine o_addL (by rw [sizeLine_eq]; simp only [List.length_cons, List.length_nil, List.length_append, List.length_map]; omega) ?_) | (dsimp only)))
  refine ⟨p, 13, c0, rfl, by decide, by decide, SS.set_same, hc0, fun v c1 h0 h1 hc1 => ?_⟩
  rw [SS.set_set]
  (repeat (first | ((with_reducible apply d_var); focus exact rfl) | ((with_reducible apply t_var); focus exact rfl) | (with_reducible apply d_int) | (with_reducible apply d_str) | (with_reducible apply d_bl) | (with_reducible apply d_non) | (with_reducible apply d_bin) | (with_reducible apply d_cmp) | (with_reducible apply d_ix) | (with_reducible apply d_lst) | (with_reducible apply d_lstC) | (with_reducible apply d_tup) | (with_reducible apply d_sl) | (with_reducible apply d_nn) | (with_reducible apply d_ss) | (with_reducible apply d_nt) | (with_reducible apply d_and) | (with_reducible apply d_or) | (with_reducible apply d_and1) | (with_reducible apply d_or1) | (with_reducible apply d_and2) | (with_reducible apply d_or2) | (with_reducible apply d_ife) | (with_reducible apply d_neg) | (with_reducible apply d_isi) | (with_reducible apply d_fld) | (with_reducible apply d_glb) | (with_reducible apply l_cons) | (with_reducible apply l_nil) | (with_reducible apply int_ex) | (with_reducible apply bl_ex) | (with_reducible apply dq_len) | (with_reducible apply dq_abs) | (with_reducible apply t_nt) | (with_reducible apply t_and) | (with_reducible apply t_or) | (with_reducible apply t_and1) | (with_reducible apply t_or1) | (with_reducible apply t_and2) | (with_reducible apply t_or2) | (with_reducible apply t_cmp) | (with_reducible apply t_chn) | (with_reducible apply t_ix) | (with_reducible apply t_isi) | (with_reducible apply t_fld) | (with_reducible apply tr_bl) | (with_reducible apply o_add) | (with_reducible apply o_sub) | (with_reducible apply c_eqI) | (with_reducible apply c_neI) | (with_reducible apply c_ltI) | (with_reducible apply c_leI) | (with_reducible apply c_gtI) | (with_reducible apply c_geI) | (with_reducible apply ss_cons) | (with_reducible apply ss_nil) | (with_reducible apply st_exp) | (with_reducible apply st_asg) | (with_reducible apply st_asl) | (with_reducible apply st_sti) | (with_reducible apply st_agi) | (with_reducible apply st_ifs) | (with_reducible apply st_ret) | (with_reducible apply st_retN) | (with_reducible apply st_pas) | (with_reducible apply aug_i) | (with_reducible apply abs_i) | (with_reducible apply sl_l) | (with_reducible apply len_l) | (with_reducible apply len_t) | (with_reducible refine And.intro (a := _ ≤ sizeLine) (by rw [sizeLine_eq]; simp only [List.length_cons, List.length_nil, List.length_append, List.length_map]; omega) ?_) | (with_reducible refine o_addL (by rw [sizeLine_eq]; simp only [List.length_cons, List.length_nil, List.length_append, List.length_map]; omega) ?_) | (dsimp only)))
  refine d_call (T := TTake) rfl ?_
  (repeat (first | ((with_reducible apply d_var); focus exact rfl) | ((with_reducible apply t_var); focus exact rfl) | (with_reducible apply d_int) | (with_reducible apply d_str) | (with_reducible apply d_bl) | (with_reducible apply d_non) | (with_reducible apply d_bin) | (with_reducible apply d_cmp) | (with_reducible apply d_ix) | (with_reducible apply d_lst) | (with_reducible apply d_lstC) | (with_reducible apply d_tup) | (with_reducible apply d_sl) | (with_reducible apply d_nn) | (with_reducible apply d_ss) | (with_reducible apply d_nt) | (with_reducible apply d_and) | (with_reducible apply d_or) | (with_reducible apply d_and1) | (with_reducible apply d_or1) | (with_reducible apply d_and2) | (with_reducible apply d_or2) | (with_reducible apply d_ife) | (with_reducible apply d_neg) | (with_reducible apply d_isi) | (with_reducible apply d_fld) | (with_reducible apply d_glb) | (with_reducible apply l_cons) | (with_reducible apply l_nil) | (with_reducible apply int_ex) | (with_reducible apply bl_ex) | (with_reducible apply dq_len) | (with_reducible apply dq_abs) | (with_reducible apply t_nt) | (with_reducible apply t_and) | (with_reducible apply t_or) | (with_reducible apply t_and1) | (with_reducible apply t_or1) | (with_reducible apply t_and2) | (with_reducible apply t_or2) | (with_reducible apply t_cmp) | (with_reducible apply t_chn) | (with_reducible apply t_ix) | (with_reducible apply t_isi) | (with_reducible apply t_fld) | (with_reducible apply tr_bl) | (with_reducible apply o_add) | (with_reducible apply o_sub) | (with_reducible apply c_eqI) | (with_reducible apply c_neI) | (with_reducible apply c_ltI) | (with_reducible apply c_leI) | (with_reducible apply c_gtI) | (with_reducible apply c_geI) | (with_reducible apply ss_cons) | (with_reducible apply ss_nil) | (with_reducible apply st_exp) | (with_reducible apply st_asg) | (with_reducible apply st_asl) | (with_reducible apply st_sti) | (with_reducible apply st_agi) | (with_reducible apply st_ifs) | (with_reducible apply st_ret) | (with_reducible apply st_retN) | (with_reducible apply st_pas) | (with_reducible apply aug_i) | (with_reducible apply abs_i) | (with_reducible apply sl_l) | (with_reducible apply len_l) | (with_reducible apply len_t) | (with_reducible refine And.intro (a := _ ≤ sizeLine) (by rw [sizeLine_eq]; simp only [List.length_cons, List.length_nil, List.length_append, List.length_map]; omega) ?_) | (with_reducible refine o_addL (by rw [sizeLine_eq]; simp only [List.length_cons, List.length_nil, List.length_append, List.length_map]; omega) ?_) | (dsimp only)))
  refine ⟨p, 12, c1, rfl, by decide, by decide, SS.set_same, hc1, fun v2 c2 g0 g1 hc2 => ?_⟩
  rw [SS.set_set]
  (repeat (first | ((with_reducible apply d_var); focus exact rfl) | ((with_reducible apply t_var); focus exact rfl) | (with_reducible apply d_int) | (with_reducible apply d_str) | (with_reducible apply d_bl) | (with_reducible apply d_non) | (with_reducible apply d_bin) | (with_reducible apply d_cmp) | (with_reducible apply d_ix) | (with_reducible apply d_lst) | (with_reducible apply d_lstC) | (with_reducible apply d_tup) | (with_reducible apply d_sl) | (with_reducible apply d_nn) | (with_reducible apply d_ss) | (with_reducible apply d_nt) | (with_reducible apply d_and) | (with_reducible apply d_or) | (with_reducible apply d_and1) | (with_reducible apply d_or1) | (with_reducible apply d_and2) | (with_reducible apply d_or2) | (with_reducible apply d_ife) | (with_reducible apply d_neg) | (with_reducible apply d_isi) | (with_reducible apply d_fld) | (with_reducible apply d_glb) | (with_reducible apply l_cons) | (with_reducible apply l_nil) | (with_reducible apply int_ex) | (with_reducible apply bl_ex) | (with_reducible apply dq_len) | (with_reducible apply dq_abs) | (with_reducible apply t_nt) | (with_reducible apply t_and) | (with_reducible apply t_or) | (with_reducible apply t_and1) | (with_reducible apply t_or1) | (with_reducible apply t_and2) | (with_reducible apply t_or2) | (with_reducible apply t_cmp) | (with_reducible apply t_chn) | (with_reducible apply t_ix) | (with_reducible apply t_isi) | (with_reducible apply t_fld) | (with_reducible apply tr_bl) | (with_reducible apply o_add) | (with_reducible apply o_sub) | (with_reducible apply c_eqI) | (with_reducible apply c_neI) | (with_reducible apply c_ltI) | (with_reducible apply c_leI) | (with_reducible apply c_gtI) | (with_reducible apply c_geI) | (with_reducible apply ss_cons) | (with_reducible apply ss_nil) | (with_reducible apply st_exp) | (with_reducible apply st_asg) | (with_reducible apply st_asl) | (with_reducible apply st_sti) | (with_reducible apply st_agi) | (with_reducible apply st_ifs) | (with_reducible apply st_ret) | (with_reducible apply st_retN) | (with_reducible apply st_pas) | (with_reducible apply aug_i) | (with_reducible apply abs_i) | (with_reducible apply sl_l) | (with_reducible apply len_l) | (with_reducible apply len_t) | (with_reducible refine And.intro (a := _ ≤ sizeLine) (by rw [sizeLine_eq]; simp only [List.length_cons, List.length_nil, List.length_append, List.length_map]; omega) ?_) | (with_reducible refine o_addL (by rw [sizeLine_eq]; simp only [List.length_cons, List.length_nil, List.length_append, List.length_map]; omega) ?_) | (dsimp only)))
  refine st_fr rfl (i_r1 ?_)
  (repeat (first | ((with_reducible apply d_var); focus exact rfl) | ((with_reducible apply t_var); focus exact rfl) | (with_reducible apply d_int) | (with_reducible apply d_str) | (with_reducible apply d_bl) | (with_reducible apply d_non) | (with_reducible apply d_bin) | (with_reducible apply d_cmp) | (with_reducible apply d_ix) | (with_reducible apply d_lst) | (with_reducible apply d_lstC) | (with_reducible apply d_tup) | (with_reducible apply d_sl) | (with_reducible apply d_nn) | (with_reducible apply d_ss) | (with_reducible apply d_nt) | (with_reducible apply d_and) | (with_reducible apply d_or) | (with_reducible apply d_and1) | (with_reducible apply d_or1) | (with_reducible apply d_and2) | (with_reducible apply d_or2) | (with_reducible apply d_ife) | (with_reducible apply d_neg) | (with_reducible apply d_isi) | (with_reducible apply d_fld) | (with_reducible apply d_glb) | (with_reducible apply l_cons) | (with_reducible apply l_nil) | (with_reducible apply int_ex) | (with_reducible apply bl_ex) | (with_reducible apply dq_len) | (with_reducible apply dq_abs) | (with_reducible apply t_nt) | (with_reducible apply t_and) | (with_reducible apply t_or) | (with_reducible apply t_and1) | (with_reducible apply t_or1) | (with_reducible apply t_and2) | (with_reducible apply t_or2) | (with_reducible apply t_cmp) | (with_reducible apply t_chn) | (with_reducible apply t_ix) | (with_reducible apply t_isi) | (with_reducible apply t_fld) | (with_reducible apply tr_bl) | (with_reducible apply o_add) | (with_reducible apply o_sub) | (with_reducible apply c_eqI) | (with_reducible apply c_neI) | (with_reducible apply c_ltI) | (with_reducible apply c_leI) | (with_reducible apply c_gtI) | (with_reducible apply c_geI) | (with_reducible apply ss_cons) | (with_reducible apply ss_nil) | (with_reducible apply st_exp) | (with_reducible apply st_asg) | (with_reducible apply st_asl) | (with_reducible apply st_sti) | (with_reducible apply st_agi) | (with_reducible apply st_ifs) | (with_reducible apply st_ret) | (with_reducible apply st_retN) | (with_reducible apply st_pas) | (with_reducible apply aug_i) | (with_reducible apply abs_i) | (with_reducible apply sl_l) | (with_reducible apply len_l) | (with_reducible apply len_t) | (with_reducible refine And.intro (a := _ ≤ sizeLine) (by rw [sizeLine_eq]; simp only [List.length_cons, List.length_nil, List.length_append, List.length_map]; omega) ?_) | (with_reducible refine o_addL (by rw [sizeLine_eq]; simp only [List.length_cons, List.length_nil, List.length_append, List.length_map]; omega) ?_) | (dsimp only)))
  refine ⟨by decide, by decide, ?_⟩
  refine ⟨fun i δ' S' => ∃ c a4 a5 a6, BagOk c ∧ S' = S.set p c ∧ δ' = [some (.lst (ns.map .int)), some (.obj p), some (.int v), some (.int (1 + v2)), a4, a5, a6, none], ⟨c2, none, none, none, hc2, rfl, rfl⟩, fun _ _ _ _ _ => trivial, ?_, ?_⟩
  · rintro i d δ' S' hd ⟨c3, a4, a5, a6, hc3, rfl, rfl⟩
    obtain ⟨hi, rfl⟩ := rngD_at hd
    refine tg_1 ?_
    (repeat (first | ((with_reducible apply d_var); focus exact rfl) | ((with_reducible apply t_var); focus exact rfl) | (with_reducible apply d_int) | (with_reducible apply d_str) | (with_reducible apply d_bl) | (with_reducible apply d_non) | (with_reducible apply d_bin) | (with_reducible apply d_cmp) | (with_reducible apply d_ix) | (with_reducible apply d_lst) | (with_reducible apply d_lstC) | (with_reducible apply d_tup) | (with_reducible apply d_sl) | (with_reducible apply d_nn) | (with_reducible apply d_ss) | (with_reducible apply d_nt) | (with_reducible apply d_and) | (with_reducible apply d_or) | (with_reducible apply d_and1) | (with_reducible apply d_or1) | (with_reducible apply d_and2) | (with_reducible apply d_or2) | (with_reducible apply d_ife) | (with_reducible apply d_neg) | (with_reducible apply d_isi) | (with_reducible apply d_fld) | (with_reducible apply d_glb) | (with_reducible apply l_cons) | (with_reducible apply l_nil) | (with_reducible apply int_ex) | (with_reducible apply bl_ex) | (with_reducible apply dq_len) | (with_reducible apply dq_abs) | (with_reducible apply t_nt) | (with_reducible apply t_and) | (with_reducible apply t_or) | (with_reducible apply t_and1) | (with_reducible apply t_or1) | (with_reducible apply t_and2) | (with_reducible apply t_or2) | (with_reducible apply t_cmp) | (with_reducible apply t_chn) | (with_reducible apply t_ix) | (with_reducible apply t_isi) | (with_reducible apply t_fld) | (with_reducible apply tr_bl) | (with_reducible apply o_add) | (with_reducible apply o_sub) | (with_reducible apply c_eqI) | (with_reducible apply c_neI) | (with_reducible apply c_ltI) | (with_reducible apply c_leI) | (with_reducible apply c_gtI) | (with_reducible apply c_geI) | (with_reducible apply ss_cons) | (with_reducible apply ss_nil) | (with_reducible apply st_exp) | (with_reducible apply st_asg) | (with_reducible apply st_asl) | (with_reducible apply st_sti) | (with_reducible apply st_agi) | (with_reducible apply st_ifs) | (with_reducible apply st_ret) | (with_reducible apply st_retN) | (with_reducible apply st_pas) | (with_reducible apply aug_i) | (with_reducible apply abs_i) | (with_reducible apply sl_l) | (with_reducible apply len_l) | (with_reducible apply len_t) | (with_reducible refine And.intro (a := _ ≤ sizeLine) (by rw [sizeLine_eq]; simp only [List.length_cons, List.length_nil, List.length_append, List.length_map]; omega) ?_) | (with_reducible refine o_addL (by rw [sizeLine_eq]; simp only [List.length_cons, List.length_nil, List.length_append, List.length_map]; omega) ?_) | (dsimp only)))
    refine o_mul (.inl (.inl ⟨by omega, by omega⟩)) ?_
    (repeat (first | ((with_reducible apply d_var); focus exact rfl) | ((with_reducible apply t_var); focus exact rfl) | (with_reducible apply d_int) | (with_reducible apply d_str) | (with_reducible apply d_bl) | (with_reducible apply d_non) | (with_reducible apply d_bin) | (with_reducible apply d_cmp) | (with_reducible apply d_ix) | (with_reducible apply d_lst) | (with_reducible apply d_lstC) | (with_reducible apply d_tup) | (with_reducible apply d_sl) | (with_reducible apply d_nn) | (with_reducible apply d_ss) | (with_reducible apply d_nt) | (with_reducible apply d_and) | (with_reducible apply d_or) | (with_reducible apply d_and1) | (with_reducible apply d_or1) | (with_reducible apply d_and2) | (with_reducible apply d_or2) | (with_reducible apply d_ife) | (with_reducible apply d_neg) | (with_reducible apply d_isi) | (with_reducible apply d_fld) | (with_reducible apply d_glb) | (with_reducible apply l_cons) | (with_reducible apply l_nil) | (with_reducible apply int_ex) | (with_reducible apply bl_ex) | (with_reducible apply dq_len) | (with_reducible apply dq_abs) | (with_reducible apply t_nt) | (with_reducible apply t_and) | (with_reducible apply t_or) | (with_reducible apply t_and1) | (with_reducible apply t_or1) | (with_reducible apply t_and2) | (with_reducible apply t_or2) | (with_reducible apply t_cmp) | (with_reducible apply t_chn) | (with_reducible apply t_ix) | (with_reducible apply t_isi) | (with_reducible apply t_fld) | (with_reducible apply tr_bl) | (with_reducible apply o_add) | (with_reducible apply o_sub) | (with_reducible apply c_eqI) | (with_reducible apply c_neI) | (with_reducible apply c_ltI) | (with_reducible apply c_leI) | (with_reducible apply c_gtI) | (with_reducible apply c_geI) | (with_reducible apply ss_cons) | (with_reducible apply ss_nil) | (with_reducible apply st_exp) | (with_reducible apply st_asg) | (with_reducible apply st_asl) | (with_reducible apply st_sti) | (with_reducible apply st_agi) | (with_reducible apply st_ifs) | (with_reducible apply st_ret) | (with_reducible apply st_retN) | (with_reducible apply st_pas) | (with_reducible apply aug_i) | (with_reducible apply abs_i) | (with_reducible apply sl_l) | (with_reducible apply len_l) | (with_reducible apply len_t) | (with_reducible refine And.intro (a := _ ≤ sizeLine) (by rw [sizeLine_eq]; simp only [List.length_cons, List.length_nil, List.length_append, List.length_map]; omega) ?_) | (with_reducible refine o_addL (by rw [sizeLine_eq]; simp only [List.length_cons, List.length_nil, List.length_append, List.length_map]; omega) ?_) | (dsimp only)))
    refine o_mod (by decide) ?_
    obtain ⟨w, ew, hw⟩ : ∃ w : Nat, (v + (1 + v2) * (0 + (i : Int))) % 13 = (w : Int) ∧ w < 13 := by
      have e1 := Int.emod_nonneg (v + (1 + v2) * (0 + (i : Int))) (by decide : (13 : Int) ≠ 0)
      have e2 := Int.emod_lt_of_pos (v + (1 + v2) * (0 + (i : Int))) (by decide : (0 : Int) < 13)
      exact ⟨((v + (1 + v2) * (0 + (i : Int))) % 13).toNat, by omega, by omega⟩
    rw [ew]
    (repeat (first | ((with_reducible apply d_var); focus exact rfl) | ((with_reducible apply t_var); focus exact rfl) | (with_reducible apply d_int) | (with_reducible apply d_str) | (with_reducible apply d_bl) | (with_reducible apply d_non) | (with_reducible apply d_bin) | (with_reducible apply d_cmp) | (with_reducible apply d_ix) | (with_reducible apply d_lst) | (with_reducible apply d_lstC) | (with_reducible apply d_tup) | (with_reducible apply d_sl) | (with_reducible apply d_nn) | (with_reducible apply d_ss) | (with_reducible apply d_nt) | (with_reducible apply d_and) | (with_reducible apply d_or) | (with_reducible apply d_and1) | (with_reducible apply d_or1) | (with_reducible apply d_and2) | (with_reducible apply d_or2) | (with_reducible apply d_ife) | (with_reducible apply d_neg) | (with_reducible apply d_isi) | (with_reducible apply d_fld) | (with_reducible apply d_glb) | (with_reducible apply l_cons) | (with_reducible apply l_nil) | (with_reducible apply int_ex) | (with_reducible apply bl_ex) | (with_reducible apply dq_len) | (with_reducible apply dq_abs) | (with_reducible apply t_nt) | (with_reducible apply t_and) | (with_reducible apply t_or) | (with_reducible apply t_and1) | (with_reducible apply t_or1) | (with_reducible apply t_and2) | (with_reducible apply t_or2) | (with_reducible apply t_cmp) | (with_reducible apply t_chn) | (with_reducible apply t_ix) | (with_reducible apply t_isi) | (with_reducible apply t_fld) | (with_reducible apply tr_bl) | (with_reducible apply o_add) | (with_reducible apply o_sub) | (with_reducible apply c_eqI) | (with_reducible apply c_neI) | (with_reducible apply c_ltI) | (with_reducible apply c_leI) | (with_reducible apply c_gtI) | (with_reducible apply c_geI) | (with_reducible apply ss_cons) | (with_reducible apply ss_nil) | (with_reducible apply st_exp) | (with_reducible apply st_asg) | (with_reducible apply st_asl) | (with_reducible apply st_sti) | (with_reducible apply st_agi) | (with_reducible apply st_ifs) | (with_reducible apply st_ret) | (with_reducible apply st_retN) | (with_reducible apply st_pas) | (with_reducible apply aug_i) | (with_reducible apply abs_i) | (with_reducible apply sl_l) | (with_reducible apply len_l) | (with_reducible apply len_t) | (with_reducible refine And.intro (a := _ ≤ sizeLine) (by rw [sizeLine_eq]; simp only [List.length_cons, List.length_nil, List.length_append, List.length_map]; omega) ?_) | (with_reducible refine o_addL (by rw [sizeLine_eq]; simp only [List.length_cons, List.length_nil, List.length_append, List.length_map]; omega) ?_) | (dsimp only)))
    refine d_call (T := TTake) rfl ?_
    (repeat (first | ((with_reducible apply d_var); focus exact rfl) | ((with_reducible apply t_var); focus exact rfl) | (with_reducible apply d_int) | (with_reducible apply d_str) | (with_reducible apply d_bl) | (with_reducible apply d_non) | (with_reducible apply d_bin) | (with_reducible apply d_cmp) | (with_reducible apply d_ix) | (with_reducible apply d_lst) | (with_reducible apply d_lstC) | (with_reducible apply d_tup) | (with_reducible apply d_sl) | (with_reducible apply d_nn) | (with_reducible apply d_ss) | (with_reducible apply d_nt) | (with_reducible apply d_and) | (with_reducible apply d_or) | (with_reducible apply d_and1) | (with_reducible apply d_or1) | (with_reducible apply d_and2) | (with_reducible apply d_or2) | (with_reducible apply d_ife) | (with_reducible apply d_neg) | (with_reducible apply d_isi) | (with_reducible apply d_fld) | (with_reducible apply d_glb) | (with_reducible apply l_cons) | (with_reducible apply l_nil) | (with_reducible apply int_ex) | (with_reducible apply bl_ex) | (with_reducible apply dq_len) | (with_reducible apply dq_abs) | (with_reducible apply t_nt) | (with_reducible apply t_and) | (with_reducible apply t_or) | (with_reducible apply t_and1) | (with_reducible apply t_or1) | (with_reducible apply t_and2) | (with_reducible apply t_or2) | (with_reducible apply t_cmp) | (with_reducible apply t_chn) | (with_reducible apply t_ix) | (with_reducible apply t_isi) | (with_reducible apply t_fld) | (with_reducible apply tr_bl) | (with_reducible apply o_add) | (with_reducible apply o_sub) | (with_reducible apply c_eqI) | (with_reducible apply c_neI) | (with_reducible apply c_ltI) | (with_reducible apply c_leI) | (with_reducible apply c_gtI) | (with_reducible apply c_geI) | (with_reducible apply ss_cons) | (with_reducible apply ss_nil) | (with_reducible apply st_exp) | (with_reducible apply st_asg) | (with_reducible apply st_asl) | (with_reducible apply st_sti) | (with_reducible apply st_agi) | (with_reducible apply st_ifs) | (with_reducible apply st_ret) | (with_reducible apply st_retN) | (with_reducible apply st_pas) | (with_reducible apply aug_i) | (with_reducible apply abs_i) | (with_reducible apply sl_l) | (with_reducible apply len_l) | (with_reducible apply len_t) | (with_reducible refine And.intro (a := _ ≤ sizeLine) (by rw [sizeLine_eq]; simp only [List.length_cons, List.length_nil, List.length_append, List.length_map]; omega) ?_) | (with_reducible refine o_addL (by rw [sizeLine_eq]; simp only [List.length_cons, List.length_nil, List.length_append, List.length_map]; omega) ?_) | (dsimp only)))
    refine ⟨p, 6, c3, rfl, by decide, by decide, SS.set_same, hc3, fun u c4 u0 u1 hc4 => ?_⟩
    rw [SS.set_set]
    obtain ⟨th, eth⟩ := atI_ex (l := [D.str "jo", D.int 7, D.lst [D.str "ann", D.str "bob"], D.non, D.tup [D.str "a", D.int 1], D.str ""]) u0 (by simpa using u1)
    refine ix_l eth ?_
    (repeat (first | ((with_reducible apply d_var); focus exact rfl) | ((with_reducible apply t_var); focus exact rfl) | (with_reducible apply d_int) | (with_reducible apply d_str) | (with_reducible apply d_bl) | (with_reducible apply d_non) | (with_reducible apply d_bin) | (with_reducible apply d_cmp) | (with_reducible apply d_ix) | (with_reducible apply d_lst) | (with_reducible apply d_lstC) | (with_reducible apply d_tup) | (with_reducible apply d_sl) | (with_reducible apply d_nn) | (with_reducible apply d_ss) | (with_reducible apply d_nt) | (with_reducible apply d_and) | (with_reducible apply d_or) | (with_reducible apply d_and1) | (with_reducible apply d_or1) | (with_reducible apply d_and2) | (with_reducible apply d_or2) | (with_reducible apply d_ife) | (with_reducible apply d_neg) | (with_reducible apply d_isi) | (with_reducible apply d_fld) | (with_reducible apply d_glb) | (with_reducible apply l_cons) | (with_reducible apply l_nil) | (with_reducible apply int_ex) | (with_reducible apply bl_ex) | (with_reducible apply dq_len) | (with_reducible apply dq_abs) | (with_reducible apply t_nt) | (with_reducible apply t_and) | (with_reducible apply t_or) | (with_reducible apply t_and1) | (with_reducible apply t_or1) | (with_reducible apply t_and2) | (with_reducible apply t_or2) | (with_reducible apply t_cmp) | (with_reducible apply t_chn) | (with_reducible apply t_ix) | (with_reducible apply t_isi) | (with_reducible apply t_fld) | (with_reducible apply tr_bl) | (with_reducible apply o_add) | (with_reducible apply o_sub) | (with_reducible apply c_eqI) | (with_reducible apply c_neI) | (with_reducible apply c_ltI) | (with_reducible apply c_leI) | (with_reducible apply c_gtI) | (with_reducible apply c_geI) | (with_reducible apply ss_cons) | (with_reducible apply ss_nil) | (with_reducible apply st_exp) | (with_reducible apply st_asg) | (with_reducible apply st_asl) | (with_reducible apply st_sti) | (with_reducible apply st_agi) | (with_reducible apply st_ifs) | (with_reducible apply st_ret) | (with_reducible apply st_retN) | (with_reducible apply st_pas) | (with_reducible apply aug_i) | (with_reducible apply abs_i) | (with_reducible apply sl_l) | (with_reducible apply len_l) | (with_reducible apply len_t) | (with_reducible refine And.intro (a := _ ≤ sizeLine) (by rw [sizeLine_eq]; simp only [List.length_cons, List.length_nil, List.length_append, List.length_map]; omega) ?_) | (with_reducible refine o_addL (by rw [sizeLine_eq]; simp only [List.length_cons, List.length_nil, List.length_append, List.length_map]; omega) ?_) | (dsimp only)))
    refine d_call (T := TCaught) rfl ?_
    (repeat (first | ((with_reducible apply d_var); focus exact rfl) | ((with_reducible apply t_var); focus exact rfl) | (with_reducible apply d_int) | (with_reducible apply d_str) | (with_reducible apply d_bl) | (with_reducible apply d_non) | (with_reducible apply d_bin) | (with_reducible apply d_cmp) | (with_reducible apply d_ix) | (with_reducible apply d_lst) | (with_reducible apply d_lstC) | (with_reducible apply d_tup) | (with_reducible apply d_sl) | (with_reducible apply d_nn) | (with_reducible apply d_ss) | (with_reducible apply d_nt) | (with_reducible apply d_and) | (with_reducible apply d_or) | (with_reducible apply d_and1) | (with_reducible apply d_or1) | (with_reducible apply d_and2) | (with_reducible apply d_or2) | (with_reducible apply d_ife) | (with_reducible apply d_neg) | (with_reducible apply d_isi) | (with_reducible apply d_fld) | (with_reducible apply d_glb) | (with_reducible apply l_cons) | (with_reducible apply l_nil) | (with_reducible apply int_ex) | (with_reducible apply bl_ex) | (with_reducible apply dq_len) | (with_reducible apply dq_abs) | (with_reducible apply t_nt) | (with_reducible apply t_and) | (with_reducible apply t_or) | (with_reducible apply t_and1) | (with_reducible apply t_or1) | (with_reducible apply t_and2) | (with_reducible apply t_or2) | (with_reducible apply t_cmp) | (with_reducible apply t_chn) | (with_reducible apply t_ix) | (with_reducible apply t_isi) | (with_reducible apply t_fld) | (with_reducible apply tr_bl) | (with_reducible apply o_add) | (with_reducible apply o_sub) | (with_reducible apply c_eqI) | (with_reducible apply c_neI) | (with_reducible apply c_ltI) | (with_reducible apply c_leI) | (with_reducible apply c_gtI) | (with_reducible apply c_geI) | (with_reducible apply ss_cons) | (with_reducible apply ss_nil) | (with_reducible apply st_exp) | (with_reducible apply st_asg) | (with_reducible apply st_asl) | (with_reducible apply st_sti) | (with_reducible apply st_agi) | (with_reducible apply st_ifs) | (with_reducible apply st_ret) | (with_reducible apply st_retN) | (with_reducible apply st_pas) | (with_reducible apply aug_i) | (with_reducible apply abs_i) | (with_reducible apply sl_l) | (with_reducible apply len_l) | (with_reducible apply len_t) | (with_reducible refine And.intro (a := _ ≤ sizeLine) (by rw [sizeLine_eq]; simp only [List.length_cons, List.length_nil, List.length_append, List.length_map]; omega) ?_) | (with_reducible refine o_addL (by rw [sizeLine_eq]; simp only [List.length_cons, List.length_nil, List.length_append, List.length_map]; omega) ?_) | (dsimp only)))
    refine ⟨w, th, rfl, hw, rfl, ?_⟩
    (repeat (first | ((with_reducible apply d_var); focus exact rfl) | ((with_reducible apply t_var); focus exact rfl) | (with_reducible apply d_int) | (with_reducible apply d_str) | (with_reducible apply d_bl) | (with_reducible apply d_non) | (with_reducible apply d_bin) | (with_reducible apply d_cmp) | (with_reducible apply d_ix) | (with_reducible apply d_lst) | (with_reducible apply d_lstC) | (with_reducible apply d_tup) | (with_reducible apply d_sl) | (with_reducible apply d_nn) | (with_reducible apply d_ss) | (with_reducible apply d_nt) | (with_reducible apply d_and) | (with_reducible apply d_or) | (with_reducible apply d_and1) | (with_reducible apply d_or1) | (with_reducible apply d_and2) | (with_reducible apply d_or2) | (with_reducible apply d_ife) | (with_reducible apply d_neg) | (with_reducible apply d_isi) | (with_reducible apply d_fld) | (with_reducible apply d_glb) | (with_reducible apply l_cons) | (with_reducible apply l_nil) | (with_reducible apply int_ex) | (with_reducible apply bl_ex) | (with_reducible apply dq_len) | (with_reducible apply dq_abs) | (with_reducible apply t_nt) | (with_reducible apply t_and) | (with_reducible apply t_or) | (with_reducible apply t_and1) | (with_reducible apply t_or1) | (with_reducible apply t_and2) | (with_reducible apply t_or2) | (with_reducible apply t_cmp) | (with_reducible apply t_chn) | (with_reducible apply t_ix) | (with_reducible apply t_isi) | (with_reducible apply t_fld) | (with_reducible apply tr_bl) | (with_reducible apply o_add) | (with_reducible apply o_sub) | (with_reducible apply c_eqI) | (with_reducible apply c_neI) | (with_reducible apply c_ltI) | (with_reducible apply c_leI) | (with_reducible apply c_gtI) | (with_reducible apply c_geI) | (with_reducible apply ss_cons) | (with_reducible apply ss_nil) | (with_reducible apply st_exp) | (with_reducible apply st_asg) | (with_reducible apply st_asl) | (with_reducible apply st_sti) | (with_reducible apply st_agi) | (with_reducible apply st_ifs) | (with_reducible apply st_ret) | (with_reducible apply st_retN) | (with_reducible apply st_pas) | (with_reducible apply aug_i) | (with_reducible apply abs_i) | (with_reducible apply sl_l) | (with_reducible apply len_l) | (with_reducible apply len_t) | (with_reducible refine And.intro (a := _ ≤ sizeLine) (by rw [sizeLine_eq]; simp only [List.length_cons, List.length_nil, List.length_append, List.length_map]; omega) ?_) | (with_reducible refine o_addL (by rw [sizeLine_eq]; simp only [List.length_cons, List.length_nil, List.length_append, List.length_map]; omega) ?_) | (dsimp only)))
    refine d_lc rfl (i_r1 ?_)
    (repeat (first | ((with_reducible apply d_var); focus exact rfl) | ((with_reducible apply t_var); focus exact rfl) | (with_reducible apply d_int) | (with_reducible apply d_str) | (with_reducible apply d_bl) | (with_reducible apply d_non) | (with_reducible apply d_bin) | (with_reducible apply d_cmp) | (with_reducible apply d_ix) | (with_reducible apply d_lst) | (with_reducible apply d_lstC) | (with_reducible apply d_tup) | (with_reducible apply d_sl) | (with_reducible apply d_nn) | (with_reducible apply d_ss) | (with_reducible apply d_nt) | (with_reducible apply d_and) | (with_reducible apply d_or) | (with_reducible apply d_and1) | (with_reducible apply d_or1) | (with_reducible apply d_and2) | (with_reducible apply d_or2) | (with_reducible apply d_ife) | (with_reducible apply d_neg) | (with_reducible apply d_isi) | (with_reducible apply d_fld) | (with_reducible apply d_glb) | (with_reducible apply l_cons) | (with_reducible apply l_nil) | (with_reducible apply int_ex) | (with_reducible apply bl_ex) | (with_reducible apply dq_len) | (with_reducible apply dq_abs) | (with_reducible apply t_nt) | (with_reducible apply t_and) | (with_reducible apply t_or) | (with_reducible apply t_and1) | (with_reducible apply t_or1) | (with_reducible apply t_and2) | (with_reducible apply t_or2) | (with_reducible apply t_cmp) | (with_reducible apply t_chn) | (with_reducible apply t_ix) | (with_reducible apply t_isi) | (with_reducible apply t_fld) | (with_reducible apply tr_bl) | (with_reducible apply o_add) | (with_reducible apply o_sub) | (with_reducible apply c_eqI) | (with_reducible apply c_neI) | (with_reducible apply c_ltI) | (with_reducible apply c_leI) | (with_reducible apply c_gtI) | (with_reducible apply c_geI) | (with_reducible apply ss_cons) | (with_reducible apply ss_nil) | (with_reducible apply st_exp) | (with_reducible apply st_asg) | (with_reducible apply st_asl) | (with_reducible apply st_sti) | (with_reducible apply st_agi) | (with_reducible apply st_ifs) | (with_reducible apply st_ret) | (with_reducible apply st_retN) | (with_reducible apply st_pas) | (with_reducible apply aug_i) | (with_reducible apply abs_i) | (with_reducible apply sl_l) | (with_reducible apply len_l) | (with_reducible apply len_t) | (with_reducible refine And.intro (a := _ ≤ sizeLine) (by rw [sizeLine_eq]; simp only [List.length_cons, List.length_nil, List.length_append, List.length_map]; omega) ?_) | (with_reducible refine o_addL (by rw [sizeLine_eq]; simp only [List.length_cons, List.length_nil, List.length_append, List.length_map]; omega) ?_) | (dsimp only)))
    refine ⟨by decide, by decide, ?_⟩
    refine lc_fm (flD w) (fun _ => true) (by rw [rngD_len, sizeLine_eq]; decide) (fun _ _ _ => trivial) (fun p2 i2 acc d2 KK2 KN hd2 hp2 hk hn2 => ?_) ?_
    · obtain ⟨_, rfl⟩ := rngD_at hd2
      refine tg_1 (c_nn ?_)
      rw [if_pos rfl]
      (repeat (first | ((with_reducible apply d_var); focus exact rfl) | ((with_reducible apply t_var); focus exact rfl) | (with_reducible apply d_int) | (with_reducible apply d_str) | (with_reducible apply d_bl) | (with_reducible apply d_non) | (with_reducible apply d_bin) | (with_reducible apply d_cmp) | (with_reducible apply d_ix) | (with_reducible apply d_lst) | (with_reducible apply d_lstC) | (with_reducible apply d_tup) | (with_reducible apply d_sl) | (with_reducible apply d_nn) | (with_reducible apply d_ss) | (with_reducible apply d_nt) | (with_reducible apply d_and) | (with_reducible apply d_or) | (with_reducible apply d_and1) | (with_reducible apply d_or1) | (with_reducible apply d_and2) | (with_reducible apply d_or2) | (with_reducible apply d_ife) | (with_reducible apply d_neg) | (with_reducible apply d_isi) | (with_reducible apply d_fld) | (with_reducible apply d_glb) | (with_reducible apply l_cons) | (with_reducible apply l_nil) | (with_reducible apply int_ex) | (with_reducible apply bl_ex) | (with_reducible apply dq_len) | (with_reducible apply dq_abs) | (with_reducible apply t_nt) | (with_reducible apply t_and) | (with_reducible apply t_or) | (with_reducible apply t_and1) | (with_reducible apply t_or1) | (with_reducible apply t_and2) | (with_reducible apply t_or2) | (with_reducible apply t_cmp) | (with_reducible apply t_chn) | (with_reducible apply t_ix) | (with_reducible apply t_isi) | (with_reducible apply t_fld) | (with_reducible apply tr_bl) | (with_reducible apply o_add) | (with_reducible apply o_sub) | (with_reducible apply c_eqI) | (with_reducible apply c_neI) | (with_reducible apply c_ltI) | (with_reducible apply c_leI) | (with_reducible apply c_gtI) | (with_reducible apply c_geI) | (with_reducible apply ss_cons) | (with_reducible apply ss_nil) | (with_reducible apply st_exp) | (with_reducible apply st_asg) | (with_reducible apply st_asl) | (with_reducible apply st_sti) | (with_reducible apply st_agi) | (with_reducible apply st_ifs) | (with_reducible apply st_ret) | (with_reducible apply st_retN) | (with_reducible apply st_pas) | (with_reducible apply aug_i) | (with_reducible apply abs_i) | (with_reducible apply sl_l) | (with_reducible apply len_l) | (with_reducible apply len_t) | (with_reducible refine And.intro (a := _ ≤ sizeLine) (by rw [sizeLine_eq]; simp only [List.length_cons, List.length_nil, List.length_append, List.length_map]; omega) ?_) | (with_reducible refine o_addL (by rw [sizeLine_eq]; simp only [List.length_cons, List.length_nil, List.length_append, List.length_map]; omega) ?_) | (dsimp only)))
      exact hk rfl
    · (repeat (first | ((with_reducible apply d_var); focus exact rfl) | ((with_reducible apply t_var); focus exact rfl) | (with_reducible apply d_int) | (with_reducible apply d_str) | (with_reducible apply d_bl) | (with_reducible apply d_non) | (with_reducible apply d_bin) | (with_reducible apply d_cmp) | (with_reducible apply d_ix) | (with_reducible apply d_lst) | (with_reducible apply d_lstC) | (with_reducible apply d_tup) | (with_reducible apply d_sl) | (with_reducible apply d_nn) | (with_reducible apply d_ss) | (with_reducible apply d_nt) | (with_reducible apply d_and) | (with_reducible apply d_or) | (with_reducible apply d_and1) | (with_reducible apply d_or1) | (with_reducible apply d_and2) | (with_reducible apply d_or2) | (with_reducible apply d_ife) | (with_reducible apply d_neg) | (with_reducible apply d_isi) | (with_reducible apply d_fld) | (with_reducible apply d_glb) | (with_reducible apply l_cons) | (with_reducible apply l_nil) | (with_reducible apply int_ex) | (with_reducible apply bl_ex) | (with_reducible apply dq_len) | (with_reducible apply dq_abs) | (with_reducible apply t_nt) | (with_reducible apply t_and) | (with_reducible apply t_or) | (with_reducible apply t_and1) | (with_reducible apply t_or1) | (with_reducible apply t_and2) | (with_reducible apply t_or2) | (with_reducible apply t_cmp) | (with_reducible apply t_chn) | (with_reducible apply t_ix) | (with_reducible apply t_isi) | (with_reducible apply t_fld) | (with_reducible apply tr_bl) | (with_reducible apply o_add) | (with_reducible apply o_sub) | (with_reducible apply c_eqI) | (with_reducible apply c_neI) | (with_reducible apply c_ltI) | (with_reducible apply c_leI) | (with_reducible apply c_gtI) | (with_reducible apply c_geI) | (with_reducible apply ss_cons) | (with_reducible apply ss_nil) | (with_reducible apply st_exp) | (with_reducible apply st_asg) | (with_reducible apply st_asl) | (with_reducible apply st_sti) | (with_reducible apply st_agi) | (with_reducible apply st_ifs) | (with_reducible apply st_ret) | (with_reducible apply st_retN) | (with_reducible apply st_pas) | (with_reducible apply aug_i) | (with_reducible apply abs_i) | (with_reducible apply sl_l) | (with_reducible apply len_l) | (with_reducible apply len_t) | (with_reducible refine And.intro (a := _ ≤ sizeLine) (by rw [sizeLine_eq]; simp only [List.length_cons, List.length_nil, List.length_append, List.length_map]; omega) ?_) | (with_reducible refine o_addL (by rw [sizeLine_eq]; simp only [List.length_cons, List.length_nil, List.length_append, List.length_map]; omega) ?_) | (dsimp only)))
      refine o_addL (by rw [sizeLine_eq, List.length_map, List.filter_eq_self.mpr (fun _ _ => rfl), rngD_len]; decide) ?_
      rw [flags_eq]
      refine c_neV rfl rfl ?_
      rw [show vw (S.set p c4) (.lst (flagsD w)) = .lst (flagsD w) from rfl, flags_self]
      (repeat (first | ((with_reducible apply d_var); focus exact rfl) | ((with_reducible apply t_var); focus exact rfl) | (with_reducible apply d_int) | (with_reducible apply d_str) | (with_reducible apply d_bl) | (with_reducible apply d_non) | (with_reducible apply d_bin) | (with_reducible apply d_cmp) | (with_reducible apply d_ix) | (with_reducible apply d_lst) | (with_reducible apply d_lstC) | (with_reducible apply d_tup) | (with_reducible apply d_sl) | (with_reducible apply d_nn) | (with_reducible apply d_ss) | (with_reducible apply d_nt) | (with_reducible apply d_and) | (with_reducible apply d_or) | (with_reducible apply d_and1) | (with_reducible apply d_or1) | (with_reducible apply d_and2) | (with_reducible apply d_or2) | (with_reducible apply d_ife) | (with_reducible apply d_neg) | (with_reducible apply d_isi) | (with_reducible apply d_fld) | (with_reducible apply d_glb) | (with_reducible apply l_cons) | (with_reducible apply l_nil) | (with_reducible apply int_ex) | (with_reducible apply bl_ex) | (with_reducible apply dq_len) | (with_reducible apply dq_abs) | (with_reducible apply t_nt) | (with_reducible apply t_and) | (with_reducible apply t_or) | (with_reducible apply t_and1) | (with_reducible apply t_or1) | (with_reducible apply t_and2) | (with_reducible apply t_or2) | (with_reducible apply t_cmp) | (with_reducible apply t_chn) | (with_reducible apply t_ix) | (with_reducible apply t_isi) | (with_reducible apply t_fld) | (with_reducible apply tr_bl) | (with_reducible apply o_add) | (with_reducible apply o_sub) | (with_reducible apply c_eqI) | (with_reducible apply c_neI) | (with_reducible apply c_ltI) | (with_reducible apply c_leI) | (with_reducible apply c_gtI) | (with_reducible apply c_geI) | (with_reducible apply ss_cons) | (with_reducible apply ss_nil) | (with_reducible apply st_exp) | (with_reducible apply st_asg) | (with_reducible apply st_asl) | (with_reducible apply st_sti) | (with_reducible apply st_agi) | (with_reducible apply st_ifs) | (with_reducible apply st_ret) | (with_reducible apply st_retN) | (with_reducible apply st_pas) | (with_reducible apply aug_i) | (with_reducible apply abs_i) | (with_reducible apply sl_l) | (with_reducible apply len_l) | (with_reducible apply len_t) | (with_reducible refine And.intro (a := _ ≤ sizeLine) (by rw [sizeLine_eq]; simp only [List.length_cons, List.length_nil, List.length_append, List.length_map]; omega) ?_) | (with_reducible refine o_addL (by rw [sizeLine_eq]; simp only [List.length_cons, List.length_nil, List.length_append, List.length_map]; omega) ?_) | (dsimp only)))
      rw [if_neg (by decide)]
      (repeat (first | ((with_reducible apply d_var); focus exact rfl) | ((with_reducible apply t_var); focus exact rfl) | (with_reducible apply d_int) | (with_reducible apply d_str) | (with_reducible apply d_bl) | (with_reducible apply d_non) | (with_reducible apply d_bin) | (with_reducible apply d_cmp) | (with_reducible apply d_ix) | (with_reducible apply d_lst) | (with_reducible apply d_lstC) | (with_reducible apply d_tup) | (with_reducible apply d_sl) | (with_reducible apply d_nn) | (with_reducible apply d_ss) | (with_reducible apply d_nt) | (with_reducible apply d_and) | (with_reducible apply d_or) | (with_reducible apply d_and1) | (with_reducible apply d_or1) | (with_reducible apply d_and2) | (with_reducible apply d_or2) | (with_reducible apply d_ife) | (with_reducible apply d_neg) | (with_reducible apply d_isi) | (with_reducible apply d_fld) | (with_reducible apply d_glb) | (with_reducible apply l_cons) | (with_reducible apply l_nil) | (with_reducible apply int_ex) | (with_reducible apply bl_ex) | (with_reducible apply dq_len) | (with_reducible apply dq_abs) | (with_reducible apply t_nt) | (with_reducible apply t_and) | (with_reducible apply t_or) | (with_reducible apply t_and1) | (with_reducible apply t_or1) | (with_reducible apply t_and2) | (with_reducible apply t_or2) | (with_reducible apply t_cmp) | (with_reducible apply t_chn) | (with_reducible apply t_ix) | (with_reducible apply t_isi) | (with_reducible apply t_fld) | (with_reducible apply tr_bl) | (with_reducible apply o_add) | (with_reducible apply o_sub) | (with_reducible apply c_eqI) | (with_reducible apply c_neI) | (with_reducible apply c_ltI) | (with_reducible apply c_leI) | (with_reducible apply c_gtI) | (with_reducible apply c_geI) | (with_reducible apply ss_cons) | (with_reducible apply ss_nil) | (with_reducible apply st_exp) | (with_reducible apply st_asg) | (with_reducible apply st_asl) | (with_reducible apply st_sti) | (with_reducible apply st_agi) | (with_reducible apply st_ifs) | (with_reducible apply st_ret) | (with_reducible apply st_retN) | (with_reducible apply st_pas) | (with_reducible apply aug_i) | (with_reducible apply abs_i) | (with_reducible apply sl_l) | (with_reducible apply len_l) | (with_reducible apply len_t) | (with_reducible refine And.intro (a := _ ≤ sizeLine) (by rw [sizeLine_eq]; simp only [List.length_cons, List.length_nil, List.length_append, List.length_map]; omega) ?_) | (with_reducible refine o_addL (by rw [sizeLine_eq]; simp only [List.length_cons, List.length_nil, List.length_append, List.length_map]; omega) ?_) | (dsimp only)))
      exact ⟨c4, _, _, _, hc4, rfl, rfl⟩
  · rintro δ' S' ⟨c3, a4, a5, a6, hc3, rfl, rfl⟩
    (repeat (first | ((with_reducible apply d_var); focus exact rfl) | ((with_reducible apply t_var); focus exact rfl) | (with_reducible apply d_int) | (with_reducible apply d_str) | (with_reducible apply d_bl) | (with_reducible apply d_non) | (with_reducible apply d_bin) | (with_reducible apply d_cmp) | (with_reducible apply d_ix) | (with_reducible apply d_lst) | (with_reducible apply d_lstC) | (with_reducible apply d_tup) | (with_reducible apply d_sl) | (with_reducible apply d_nn) | (with_reducible apply d_ss) | (with_reducible apply d_nt) | (with_reducible apply d_and) | (with_reducible apply d_or) | (with_reducible apply d_and1) | (with_reducible apply d_or1) | (with_reducible apply d_and2) | (with_reducible apply d_or2) | (with_reducible apply d_ife) | (with_reducible apply d_neg) | (with_reducible apply d_isi) | (with_reducible apply d_fld) | (with_reducible apply d_glb) | (with_reducible apply l_cons) | (with_reducible apply l_nil) | (with_reducible apply int_ex) | (with_reducible apply bl_ex) | (with_reducible apply dq_len) | (with_reducible apply dq_abs) | (with_reducible apply t_nt) | (with_reducible apply t_and) | (with_reducible apply t_or) | (with_reducible apply t_and1) | (with_reducible apply t_or1) | (with_reducible apply t_and2) | (with_reducible apply t_or2) | (with_reducible apply t_cmp) | (with_reducible apply t_chn) | (with_reducible apply t_ix) | (with_reducible apply t_isi) | (with_reducible apply t_fld) | (with_reducible apply tr_bl) | (with_reducible apply o_add) | (with_reducible apply o_sub) | (with_reducible apply c_eqI) | (with_reducible apply c_neI) | (with_reducible apply c_ltI) | (with_reducible apply c_leI) | (with_reducible apply c_gtI) | (with_reducible apply c_geI) | (with_reducible apply ss_cons) | (with_reducible apply ss_nil) | (with_reducible apply st_exp) | (with_reducible apply st_asg) | (with_reducible apply st_asl) | (with_reducible apply st_sti) | (with_reducible apply st_agi) | (with_reducible apply st_ifs) | (with_reducible apply st_ret) | (with_reducible apply st_retN) | (with_reducible apply st_pas) | (with_reducible apply aug_i) | (with_reducible apply abs_i) | (with_reducible apply sl_l) | (with_reducible apply len_l) | (with_reducible apply len_t) | (with_reducible refine And.intro (a := _ ≤ sizeLine) (by rw [sizeLine_eq]; simp only [List.length_cons, List.length_nil, List.length_append, List.length_map]; omega) ?_) | (with_reducible refine o_addL (by rw [sizeLine_eq]; simp only [List.length_cons, List.length_nil, List.length_append, List.length_map]; omega) ?_) | (dsimp only)))
    exact hK _
end Cl

namespace Cl
open PySem PySem.Spec PyProof.Rows L2 Sv
open L2H (RoomH)
theorem me5 {K : PySem.W.Frag} (c : SaysX fa fn fx K) : Meets ((tb K).sn N5) ((tb K).G K 5) 2 false TTake b5 := me_take rfl
section
variable {P : Program} {w : World} {K : PySem.W.Frag} {h : Heap} {mg : Str → Option Value} {base : Heap}
theorem tbok (X : K.In h) (G : h.Ns mainGlobals mg) (c : SaysX fa fn fx K) : TbOk (tb K) K mg where
  cl := fun x hx => by
    have hx : x ∈ clsL := hx
    simp only [clsL, List.mem_cons, List.not_mem_nil, or_false] at hx
    rcases hx with rfl | rfl | rfl | rfl | rfl | rfl | rfl | rfl | rfl | rfl | rfl | rfl | rfl | rfl
    · exact He.glo_ok X G (c.d.fact 7 (f := .glo "MainsError") rfl)
    · exact He.glo_ok X G (c.d.fact 8 (f := .glo "Wrong") rfl)
    · exact He.glo_ok X G (c.d.fact 9 (f := .glo "There") rfl)
    · exact He.glo_ok X G (c.d.fact 10 (f := .glo "Lacks") rfl)
    · exact He.glo_ok X G (c.d.fact 11 (f := .glo "TooMany") rfl)
    · exact He.glo_ok X G (c.d.fact 12 (f := .glo "InUse") rfl)
    · exact He.glo_ok X G (c.d.fact 13 (f := .glo "Held") rfl)
    · exact He.glo_ok X G (c.d.fact 14 (f := .glo "Stuck") rfl)
    · exact He.glo_ok X G (c.d.fact 15 (f := .glo "NoPart") rfl)
    · exact He.glo_ok X G (c.d.fact 16 (f := .glo "NotNow") rfl)
    · exact He.glo_ok X G (c.d.fact 17 (f := .glo "NotDry") rfl)
    · exact He.glo_ok X G (c.d.fact 18 (f := .glo "Known") rfl)
    · exact He.glo_ok X G (c.d.fact 19 (f := .glo "NoText") rfl)
    · exact He.glo_ok X G (c.d.fact 20 (f := .glo "NoRow") rfl)
  gv := fun j x hx => by
    have hx : gvsL[j]? = some x := hx
    cases hx
  bt := fun x hx => by
    simp only [bnames, List.mem_cons, List.not_mem_nil, or_false] at hx
    rcases hx with rfl | rfl | rfl | rfl | rfl | rfl | rfl | rfl | rfl | rfl | rfl | rfl | rfl | rfl | rfl | rfl | rfl | rfl | rfl | rfl | rfl | rfl
    · exact He.free_ok X G (c.d.fact 21 (f := .free "len") rfl)
    · exact He.free_ok X G (c.d.fact 22 (f := .free "abs") rfl)
    · exact He.free_ok X G (c.d.fact 23 (f := .free "max") rfl)
    · exact He.free_ok X G (c.d.fact 24 (f := .free "min") rfl)
    · exact He.free_ok X G (c.d.fact 25 (f := .free "range") rfl)
    · exact He.free_ok X G (c.d.fact 26 (f := .free "isinstance") rfl)
    · exact He.free_ok X G (c.d.fact 27 (f := .free "repr") rfl)
    · exact He.free_ok X G (c.d.fact 28 (f := .free "list") rfl)
    · exact He.free_ok X G (c.d.fact 29 (f := .free "tuple") rfl)
    · exact He.free_ok X G (c.d.fact 30 (f := .free "dict") rfl)
    · exact He.free_ok X G (c.d.fact 31 (f := .free "sorted") rfl)
    · exact He.free_ok X G (c.d.fact 32 (f := .free "sum") rfl)
    · exact He.free_ok X G (c.d.fact 33 (f := .free "enumerate") rfl)
    · exact He.free_ok X G (c.d.fact 34 (f := .free "zip") rfl)
    · exact He.free_ok X G (c.d.fact 35 (f := .free "reversed") rfl)
    · exact He.free_ok X G (c.d.fact 36 (f := .free "str") rfl)
    · exact He.free_ok X G (c.d.fact 37 (f := .free "int") rfl)
    · exact He.free_ok X G (c.d.fact 38 (f := .free "bool") rfl)
    · exact He.free_ok X G (c.d.fact 39 (f := .free "set") rfl)
    · exact He.free_ok X G (c.d.fact 40 (f := .free "ValueError") rfl)
    · exact He.free_ok X G (c.d.fact 41 (f := .free "any") rfl)
    · exact He.free_ok X G (c.d.fact 42 (f := .free "all") rfl)
theorem xok (X : K.In h) (G : h.Ns mainGlobals mg) (c : SaysX fa fn fx K) : XOk (tb K) P w K mg base := by
  intro j x kd h1 h2
  have h1 : ([none, some (.fld "at"), some (.fld "name"), some (.fld "name"), some (.fld "most"), some (.fld "name"), some (.fld "hands"), some (.fld "name"), some (.fld "way"), some (.fld "job"), some (.fld "damp"), some (.fld "number"), some .bare, some .bare] : List (Option XKd))[j]?.join = some kd := h1
  have h2 : clsL[j]? = some x := h2
  match j, h1, h2 with
  | 0, h1, _ => cases h1
  | 1, h1, h2 =>
    cases h1; cases h2
    obtain ⟨fd, F⟩ := c.d.def_ 7 rfl
    have z := ini_ok (c.fact 1 (f := .ini "Wrong") rfl)
    exact .fld (oex_ok (c.fact 0 (f := .oex "Wrong") rfl)) z.1 z.2 (fn_initF (k := 0) (N := ["self", "at"]) (B := He.ga K "MainsError") (z := "MainsError") F ⟨rfl, rfl, rfl, by decide +kernel, rfl, by decide +kernel, by decide +kernel⟩ (by decide +kernel) (He.glo_ok X G (c.d.fact 7 (f := .glo "MainsError") rfl)) (bas_ok (c.fact 33 (f := .bas "MainsError") rfl)) (oex_ok (c.fact 0 (f := .oex "Wrong") rfl)) (nov_ok (c.fact 2 (f := .nov "Wrong" "at") rfl))) (FunD.bindsN (ps := ["self", "at"]) F fun _ _ _ _ _ _ us hl => match us, hl with | [_, _], _ => rfl) (by omega)
  | 2, h1, h2 =>
    cases h1; cases h2
    obtain ⟨fd, F⟩ := c.d.def_ 8 rfl
    have z := ini_ok (c.fact 4 (f := .ini "There") rfl)
    exact .fld (oex_ok (c.fact 3 (f := .oex "There") rfl)) z.1 z.2 (fn_initF (k := 0) (N := ["self", "name"]) (B := He.ga K "MainsError") (z := "MainsError") F ⟨rfl, rfl, rfl, by decide +kernel, rfl, by decide +kernel, by decide +kernel⟩ (by decide +kernel) (He.glo_ok X G (c.d.fact 7 (f := .glo "MainsError") rfl)) (bas_ok (c.fact 33 (f := .bas "MainsError") rfl)) (oex_ok (c.fact 3 (f := .oex "There") rfl)) (nov_ok (c.fact 5 (f := .nov "There" "name") rfl))) (FunD.bindsN (ps := ["self", "name"]) F fun _ _ _ _ _ _ us hl => match us, hl with | [_, _], _ => rfl) (by omega)
  | 3, h1, h2 =>
    cases h1; cases h2
    obtain ⟨fd, F⟩ := c.d.def_ 9 rfl
    have z := ini_ok (c.fact 7 (f := .ini "Lacks") rfl)
    exact .fld (oex_ok (c.fact 6 (f := .oex "Lacks") rfl)) z.1 z.2 (fn_initF (k := 0) (N := ["self", "name"]) (B := He.ga K "MainsError") (z := "MainsError") F ⟨rfl, rfl, rfl, by decide +kernel, rfl, by decide +kernel, by decide +kernel⟩ (by decide +kernel) (He.glo_ok X G (c.d.fact 7 (f := .glo "MainsError") rfl)) (bas_ok (c.fact 33 (f := .bas "MainsError") rfl)) (oex_ok (c.fact 6 (f := .oex "Lacks") rfl)) (nov_ok (c.fact 8 (f := .nov "Lacks" "name") rfl))) (FunD.bindsN (ps := ["self", "name"]) F fun _ _ _ _ _ _ us hl => match us, hl with | [_, _], _ => rfl) (by omega)
  | 4, h1, h2 =>
    cases h1; cases h2
    obtain ⟨fd, F⟩ := c.d.def_ 10 rfl
    have z := ini_ok (c.fact 10 (f := .ini "TooMany") rfl)
    exact .fld (oex_ok (c.fact 9 (f := .oex "TooMany") rfl)) z.1 z.2 (fn_initF (k := 0) (N := ["self", "most"]) (B := He.ga K "MainsError") (z := "MainsError") F ⟨rfl, rfl, rfl, by decide +kernel, rfl, by decide +kernel, by decide +kernel⟩ (by decide +kernel) (He.glo_ok X G (c.d.fact 7 (f := .glo "MainsError") rfl)) (bas_ok (c.fact 33 (f := .bas "MainsError") rfl)) (oex_ok (c.fact 9 (f := .oex "TooMany") rfl)) (nov_ok (c.fact 11 (f := .nov "TooMany" "most") rfl))) (FunD.bindsN (ps := ["self", "most"]) F fun _ _ _ _ _ _ us hl => match us, hl with | [_, _], _ => rfl) (by omega)
  | 5, h1, h2 =>
    cases h1; cases h2
    obtain ⟨fd, F⟩ := c.d.def_ 11 rfl
    have z := ini_ok (c.fact 13 (f := .ini "InUse") rfl)
    exact .fld (oex_ok (c.fact 12 (f := .oex "InUse") rfl)) z.1 z.2 (fn_initF (k := 0) (N := ["self", "name"]) (B := He.ga K "MainsError") (z := "MainsError") F ⟨rfl, rfl, rfl, by decide +kernel, rfl, by decide +kernel, by decide +kernel⟩ (by decide +kernel) (He.glo_ok X G (c.d.fact 7 (f := .glo "MainsError") rfl)) (bas_ok (c.fact 33 (f := .bas "MainsError") rfl)) (oex_ok (c.fact 12 (f := .oex "InUse") rfl)) (nov_ok (c.fact 14 (f := .nov "InUse" "name") rfl))) (FunD.bindsN (ps := ["self", "name"]) F fun _ _ _ _ _ _ us hl => match us, hl with | [_, _], _ => rfl) (by omega)
  | 6, h1, h2 =>
    cases h1; cases h2
    obtain ⟨fd, F⟩ := c.d.def_ 12 rfl
    have z := ini_ok (c.fact 16 (f := .ini "Held") rfl)
    exact .fld (oex_ok (c.fact 15 (f := .oex "Held") rfl)) z.1 z.2 (fn_initF (k := 0) (N := ["self", "hands"]) (B := He.ga K "MainsError") (z := "MainsError") F ⟨rfl, rfl, rfl, by decide +kernel, rfl, by decide +kernel, by decide +kernel⟩ (by decide +kernel) (He.glo_ok X G (c.d.fact 7 (f := .glo "MainsError") rfl)) (bas_ok (c.fact 33 (f := .bas "MainsError") rfl)) (oex_ok (c.fact 15 (f := .oex "Held") rfl)) (nov_ok (c.fact 17 (f := .nov "Held" "hands") rfl))) (FunD.bindsN (ps := ["self", "hands"]) F fun _ _ _ _ _ _ us hl => match us, hl with | [_, _], _ => rfl) (by omega)
  | 7, h1, h2 =>
    cases h1; cases h2
    obtain ⟨fd, F⟩ := c.d.def_ 13 rfl
    have z := ini_ok (c.fact 19 (f := .ini "Stuck") rfl)
    exact .fld (oex_ok (c.fact 18 (f := .oex "Stuck") rfl)) z.1 z.2 (fn_initF (k := 0) (N := ["self", "name"]) (B := He.ga K "MainsError") (z := "MainsError") F ⟨rfl, rfl, rfl, by decide +kernel, rfl, by decide +kernel, by decide +kernel⟩ (by decide +kernel) (He.glo_ok X G (c.d.fact 7 (f := .glo "MainsError") rfl)) (bas_ok (c.fact 33 (f := .bas "MainsError") rfl)) (oex_ok (c.fact 18 (f := .oex "Stuck") rfl)) (nov_ok (c.fact 20 (f := .nov "Stuck" "name") rfl))) (FunD.bindsN (ps := ["self", "name"]) F fun _ _ _ _ _ _ us hl => match us, hl with | [_, _], _ => rfl) (by omega)
  | 8, h1, h2 =>
    cases h1; cases h2
    obtain ⟨fd, F⟩ := c.d.def_ 14 rfl
    have z := ini_ok (c.fact 22 (f := .ini "NoPart") rfl)
    exact .fld (oex_ok (c.fact 21 (f := .oex "NoPart") rfl)) z.1 z.2 (fn_initF (k := 0) (N := ["self", "way"]) (B := He.ga K "MainsError") (z := "MainsError") F ⟨rfl, rfl, rfl, by decide +kernel, rfl, by decide +kernel, by decide +kernel⟩ (by decide +kernel) (He.glo_ok X G (c.d.fact 7 (f := .glo "MainsError") rfl)) (bas_ok (c.fact 33 (f := .bas "MainsError") rfl)) (oex_ok (c.fact 21 (f := .oex "NoPart") rfl)) (nov_ok (c.fact 23 (f := .nov "NoPart" "way") rfl))) (FunD.bindsN (ps := ["self", "way"]) F fun _ _ _ _ _ _ us hl => match us, hl with | [_, _], _ => rfl) (by omega)
  | 9, h1, h2 =>
    cases h1; cases h2
    obtain ⟨fd, F⟩ := c.d.def_ 15 rfl
    have z := ini_ok (c.fact 25 (f := .ini "NotNow") rfl)
    exact .fld (oex_ok (c.fact 24 (f := .oex "NotNow") rfl)) z.1 z.2 (fn_initF (k := 0) (N := ["self", "job"]) (B := He.ga K "MainsError") (z := "MainsError") F ⟨rfl, rfl, rfl, by decide +kernel, rfl, by decide +kernel, by decide +kernel⟩ (by decide +kernel) (He.glo_ok X G (c.d.fact 7 (f := .glo "MainsError") rfl)) (bas_ok (c.fact 33 (f := .bas "MainsError") rfl)) (oex_ok (c.fact 24 (f := .oex "NotNow") rfl)) (nov_ok (c.fact 26 (f := .nov "NotNow" "job") rfl))) (FunD.bindsN (ps := ["self", "job"]) F fun _ _ _ _ _ _ us hl => match us, hl with | [_, _], _ => rfl) (by omega)
  | 10, h1, h2 =>
    cases h1; cases h2
    obtain ⟨fd, F⟩ := c.d.def_ 16 rfl
    have z := ini_ok (c.fact 28 (f := .ini "NotDry") rfl)
    exact .fld (oex_ok (c.fact 27 (f := .oex "NotDry") rfl)) z.1 z.2 (fn_initF (k := 0) (N := ["self", "damp"]) (B := He.ga K "MainsError") (z := "MainsError") F ⟨rfl, rfl, rfl, by decide +kernel, rfl, by decide +kernel, by decide +kernel⟩ (by decide +kernel) (He.glo_ok X G (c.d.fact 7 (f := .glo "MainsError") rfl)) (bas_ok (c.fact 33 (f := .bas "MainsError") rfl)) (oex_ok (c.fact 27 (f := .oex "NotDry") rfl)) (nov_ok (c.fact 29 (f := .nov "NotDry" "damp") rfl))) (FunD.bindsN (ps := ["self", "damp"]) F fun _ _ _ _ _ _ us hl => match us, hl with | [_, _], _ => rfl) (by omega)
  | 11, h1, h2 =>
    cases h1; cases h2
    obtain ⟨fd, F⟩ := c.d.def_ 17 rfl
    have z := ini_ok (c.fact 31 (f := .ini "Known") rfl)
    exact .fld (oex_ok (c.fact 30 (f := .oex "Known") rfl)) z.1 z.2 (fn_initF (k := 0) (N := ["self", "number"]) (B := He.ga K "MainsError") (z := "MainsError") F ⟨rfl, rfl, rfl, by decide +kernel, rfl, by decide +kernel, by decide +kernel⟩ (by decide +kernel) (He.glo_ok X G (c.d.fact 7 (f := .glo "MainsError") rfl)) (bas_ok (c.fact 33 (f := .bas "MainsError") rfl)) (oex_ok (c.fact 30 (f := .oex "Known") rfl)) (nov_ok (c.fact 32 (f := .nov "Known" "number") rfl))) (FunD.bindsN (ps := ["self", "number"]) F fun _ _ _ _ _ _ us hl => match us, hl with | [_, _], _ => rfl) (by omega)
  | 12, h1, h2 =>
    cases h1; cases h2
    obtain ⟨e1, e2, e3, e4⟩ := He.exc_ok (c.d.fact 43 (f := .exc "NoText") rfl)
    exact .bare F.excBase_ValueError e1 e2 e3 e4
  | 13, h1, h2 =>
    cases h1; cases h2
    obtain ⟨e1, e2, e3, e4⟩ := He.exc_ok (c.d.fact 44 (f := .exc "NoRow") rfl)
    exact .bare F.excBase_ValueError e1 e2 e3 e4
  | n + 14, h1, _ => cases h1
theorem all0 : AllOk (tb K) P w K mg base 0 := AllOk.zero
theorem all1 (X : K.In h) (G : h.Ns mainGlobals mg) (c : SaysX fa fn fx K) : AllOk (tb K) P w K mg base 1 := by
  have A : AllOk (tb K) P w K mg base 0 := all0
  obtain ⟨fd, F⟩ := c.d.def_ 0 rfl
  exact A.step (x := "_law_bag") rfl (He.glo_ok X G (c.d.fact 0 (f := .glo "_law_bag") rfl)) F.kp (FunD.bindsN (ps := ["_law_script"]) F fun _ _ _ _ _ _ us hl => match us, hl with | [_], _ => rfl) (fun T h => by have h : some TBag = some T := h; cases h; exact fn_row A (tbok X G c) (xok X G c) F sc0 ck0 (me0 c)) (fun T h => by have h : (none : Option TR) = some T := h; cases h)
theorem all2 (X : K.In h) (G : h.Ns mainGlobals mg) (c : SaysX fa fn fx K) : AllOk (tb K) P w K mg base 2 := by
  have A : AllOk (tb K) P w K mg base 1 := all1 X G c
  obtain ⟨fd, F⟩ := c.d.def_ 1 rfl
  exact A.step (x := "_law_flags") rfl (He.glo_ok X G (c.d.fact 1 (f := .glo "_law_flags") rfl)) F.kp (FunD.bindsN (ps := ["_law_e"]) F fun _ _ _ _ _ _ us hl => match us, hl with | [_], _ => rfl) (fun T h => by have h : (none : Option TR) = some T := h; cases h) (fun T h => by have h : some (TFlags K) = some T := h; cases h; exact fn_row A (tbok X G c) (xok X G c) F sc1 ck1 (me1h c))
theorem all3 (X : K.In h) (G : h.Ns mainGlobals mg) (c : SaysX fa fn fx K) : AllOk (tb K) P w K mg base 3 := by
  have A : AllOk (tb K) P w K mg base 2 := all2 X G c
  obtain ⟨fd, F⟩ := c.d.def_ 2 rfl
  exact A.step (x := "_law_further") rfl (He.glo_ok X G (c.d.fact 2 (f := .glo "_law_further") rfl)) F.kp (FunD.bindsN (ps := ["_law_which", "_law_thing"]) F fun _ _ _ _ _ _ us hl => match us, hl with | [_, _], _ => rfl) (fun T h => by have h : some (TFurther K) = some T := h; cases h; exact fn_row A (tbok X G c) (xok X G c) F sc2 ck2 (me2 c)) (fun T h => by have h : (none : Option TR) = some T := h; cases h)
theorem all4 (X : K.In h) (G : h.Ns mainGlobals mg) (c : SaysX fa fn fx K) : AllOk (tb K) P w K mg base 4 := by
  have A : AllOk (tb K) P w K mg base 3 := all3 X G c
  obtain ⟨fd, F⟩ := c.d.def_ 3 rfl
  exact A.step (x := "_law_raised") rfl (He.glo_ok X G (c.d.fact 3 (f := .glo "_law_raised") rfl)) F.kp (FunD.bindsN (ps := ["_law_which", "_law_thing"]) F fun _ _ _ _ _ _ us hl => match us, hl with | [_, _], _ => rfl) (fun T h => by have h : some (TRaised K) = some T := h; cases h; exact fn_row A (tbok X G c) (xok X G c) F sc3 ck3 (me3 c)) (fun T h => by have h : (none : Option TR) = some T := h; cases h)
theorem all5 (X : K.In h) (G : h.Ns mainGlobals mg) (c : SaysX fa fn fx K) : AllOk (tb K) P w K mg base 5 := by
  have A : AllOk (tb K) P w K mg base 4 := all4 X G c
  obtain ⟨fd, F⟩ := c.d.def_ 4 rfl
  exact A.step (x := "_law_caught") rfl (He.glo_ok X G (c.d.fact 4 (f := .glo "_law_caught") rfl)) F.kp (FunD.bindsN (ps := ["_law_which", "_law_thing"]) F fun _ _ _ _ _ _ us hl => match us, hl with | [_, _], _ => rfl) (fun T h => by have h : some TCaught = some T := h; cases h; exact fn_row A (tbok X G c) (xok X G c) F sc4 ck4 (me4 c)) (fun T h => by have h : (none : Option TR) = some T := h; cases h)
theorem all6 (X : K.In h) (G : h.Ns mainGlobals mg) (c : SaysX fa fn fx K) : AllOk (tb K) P w K mg base 6 := by
  have A : AllOk (tb K) P w K mg base 5 := all5 X G c
  obtain ⟨fd, F⟩ := c.d.def_ 5 rfl
  exact A.step (x := "_law_take") rfl (He.glo_ok X G (c.d.fact 5 (f := .glo "_law_take") rfl)) F.kp (FunD.bindsN (ps := ["_law_bag_here", "_law_many"]) F fun _ _ _ _ _ _ us hl => match us, hl with | [_, _], _ => rfl) (fun T h => by have h : some TTake = some T := h; cases h; exact fn_row A (tbok X G c) (xok X G c) F sc5 ck5 (me5 c)) (fun T h => by have h : (none : Option TR) = some T := h; cases h)
theorem all7 (X : K.In h) (G : h.Ns mainGlobals mg) (c : SaysX fa fn fx K) : AllOk (tb K) P w K mg base 7 := by
  have A : AllOk (tb K) P w K mg base 6 := all6 X G c
  obtain ⟨fd, F⟩ := c.d.def_ 6 rfl
  exact A.step (x := "law") rfl (He.glo_ok X G (c.d.fact 6 (f := .glo "law") rfl)) F.kp (FunD.bindsN (ps := ["_law_script"]) F fun _ _ _ _ _ _ us hl => match us, hl with | [_], _ => rfl) (fun T h => by have h : some (lawT 63) = some T := h; cases h; exact fn_row A (tbok X G c) (xok X G c) F sc6 ck6 (me6 c)) (fun T h => by have h : (none : Option TR) = some T := h; cases h)
theorem facts {f : Addr} (X : K.In h) (G : h.Ns mainGlobals mg) (hfa : mg ("law" : Str) = some (.ref f)) (c : SaysX fa fn fx K) :
    ∃ fd : FuncData, (∀ (s : Shared) (v : Value), BindsTo s fd ⟨[v], []⟩ [("_law_script", v)]) ∧ ∀ base : Heap, K.In base → base.Ns mainGlobals mg → FnG P w K mg base false 9 f fd ["_law_script"] (spD ⟨K⟩ (lawT 63)) := by
  obtain ⟨fd, F⟩ := c.d.def_ 6 rfl
  have e := hfa.symm.trans (He.glo_ok X G (c.d.fact 6 (f := .glo "law") rfl))
  cases e
  have b := FunD.bindsA (ps := ["_law_script"]) F fun _ _ _ _ _ _ us hl => match us, hl with | [_], _ => rfl
  refine ⟨fd, fun s v => b s [v] rfl, fun base _ _ => ?_⟩
  exact fn_row (t := tb K) (i := 6) (all6 X G c) (tbok X G c) (xok X G c) F sc6 ck6 (me6 c)
end
end Cl
open PySem PySem.W PySem.Calls PyProof.Rows
theorem PySem.Challenge.cw_stillmain_k13_refusals_apart_holds : PySem.Challenge.rw_stillmain_k13_refusals_apart.Holds := by
  w_on; o_law
  refine HandSHeadRun.head_any (r := OpenLaw.row PySem.Challenge.rw_stillmain_k13_refusals_apart) (q := view (OpenLaw.row PySem.Challenge.rw_stillmain_k13_refusals_apart).prog [22]) (H := Cl.hk) (ob := Cl.ob) (M := 20000) (loose := Cl.names) (d := HandSHeadRun.topDef (OpenLaw.row PySem.Challenge.rw_stillmain_k13_refusals_apart).prog 22) (kwd := []) Cl.ob_eq
    (by kernel_rfl) (fun s => by kernel_rfl) Cl.run (by kernel_rfl) (by kernel_rfl) (by kernel_rfl) (by rfl) (by first | assumption | decide +kernel) (by decide +kernel) ⟨rfl, rfl, rfl, rfl, rfl, by decide +kernel⟩ ?hw ?hc
  case hw => w_witness2
  case hc =>
    refine Sv.walk_ofG (l := PySem.Challenge.rw_stillmain_k13_refusals_apart) (n := 63) (k := 9) (x := "_law_script") rfl (by decide) (by kernel_rfl) ⟨rfl, by decide, by decide⟩ ?F
    intro w mg fa h Y G hmg0
    obtain ⟨K, KX, c⟩ := Y
    have hmg : mg ("law" : PySem.Str) = some (.ref fa) := by
      have e : (HandSHeadRun.topDef (OpenLaw.row PySem.Challenge.rw_stillmain_k13_refusals_apart).prog 22).name = ("law" : PySem.Str) := by kernel_rfl
      rw [← e]
      exact hmg0
    obtain ⟨fd, hb, hF⟩ := Cl.facts (P := (PySem.Challenge.rw_stillmain_k13_refusals_apart).prog) (w := w) KX G hmg c
    exact ⟨K, fd, Sv.spD ⟨K⟩ (Sv.lawT 63), KX, hb, fun H a ns hl _ hS => Sv.law_sp hl hS, hF⟩

