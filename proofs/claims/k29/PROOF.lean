import PyProof.Rows.All
import Wide.All
import OpenK.AllK
import Wide.FinOn
import HandS.ForMost
import HandS.Exc
import HandS.ExcOwn
import HandS.HotCalls
import HandS.Wide
import HandS.Flow
import HandS.Deep
import HandS.TupAny
import HandS.IsInst
import HandS.Text
import HandS.WordsDict
import PyProof.ReprRoads
import PyProof.ReprBulk
import HandS.Conv
import HandS.More
import HandS.ListItems
import HandS.ExcInit
import HandS.ExcInitHot
import KE.KDictList
import HandS.SetKeys
import HandS.SetTxt0
import HandS.Set
import HandS.SetFor
import HandS.Strs
import KE.DataMinMax
import KE.SortData
import HandS.Codes
import HandS.Comp
import HandS.Iter
import HandS.ForList
import HandS.ExcIs
import HandS.ExcField
import KE.KIsAll
import HandS.Style
import HandS.Small
import HandS.Head0
import HandS.Head1
import HandS.Head2
import HandS.HeadEnd
import HandS.HeadHook1
import HandS.HeadHook2
import HandS.Defaults
import HandS.Ends
import PyProof.FitsInt
import PyProof.ReprRoom
import KE.KStateDown
import Lean
import PySem.Challenge.RW_stillmain_k29_again_two_layouts
set_option Elab.async false
set_option linter.all false
set_option maxRecDepth 100000
set_option maxHeartbeats 0
namespace Qt
def Put (p : Prop) : Prop := p
theorem put_in {p : Prop} (h : Put p) : p := h
theorem keep {p : Prop} (h : p) : p := h
theorem put_off {p : Prop} (h : p) : Put p = True := eq_true h
end Qt
/-! Sv0: data as values, mutable objects as cells, how they lie in the abstract heap. -/
namespace Sv
open PySem PySem.Spec PyProof.Rows L2
inductive D where
 | non | bl (b : Bool) | int (i : Int) | str (x : Str)
 | lst (xs : List D) | tup (xs : List D) | dic (kvs : List (Key × D))
 | obj (a : Addr) | exc (a : Addr) (oe : Obj) (C : Addr) (fs : List (Str × D))
 | err (a C : Addr) (fs : List (Str × D)) (bare : Bool)
inductive Cell where
 | lst (xs : List D) | dic (kvs : List (Key × D)) | loc (kvs : List (Key × D)) | ins (C : Addr) (fs : List (Str × D))
abbrev SS := Addr → Option Cell
def SS.set (S : SS) (a : Addr) (c : Cell) : SS := fun b => if b = a then some c else S b
def SS.del (S : SS) (a : Addr) : SS := fun b => if b = a then none else S b
theorem SS.set_same {S : SS} {a : Addr} {c : Cell} : S.set a c a = some c := if_pos rfl
theorem SS.set_ne {S : SS} {a b : Addr} {c : Cell} (h : b ≠ a) : S.set a c b = S b := if_neg h
theorem SS.del_same {S : SS} {a : Addr} : S.del a a = none := if_pos rfl
theorem SS.del_ne {S : SS} {a b : Addr} (h : b ≠ a) : S.del a b = S b := if_neg h
theorem SS.set_set {S : SS} {p : Addr} {x y : Cell} : (S.set p x).set p y = S.set p y := by
 funext q
 unfold SS.set
 by_cases h : q = p
 ·rw [if_pos h, if_pos h]
 ·rw [if_neg h, if_neg h, if_neg h]
theorem SS.set_id {S : SS} {p : Addr} {x : Cell} (h : S p = some x) : S.set p x = S := by
 funext q
 unfold SS.set
 by_cases e : q = p
 ·rw [if_pos e, e, h]
 ·rw [if_neg e]
theorem SS.set_comm {S : SS} {a b : Addr} {x y : Cell} (h : a ≠ b) : (S.set a x).set b y = (S.set b y).set a x := by
 funext q
 unfold SS.set
 by_cases h1 : q = b
 ·have h2 : q ≠ a := fun e => h (e.symm.trans h1)
  rw [if_pos h1, if_neg h2, if_pos h1]
 ·rw [if_neg h1]
  by_cases h2 : q = a
  ·rw [if_pos h2, if_pos h2]
  ·rw [if_neg h2, if_neg h2, if_neg h1]
theorem SS.del_set {S : SS} {p : Addr} {x : Cell} (h : S p = none) : (S.set p x).del p = S := by
 funext q
 unfold SS.set SS.del
 by_cases e : q = p
 ·simp [e, h]
 ·simp [e]
theorem SS.set_del {S : SS} {p : Addr} {x : Cell} : (S.set p x).del p = S.del p := by
 funext q
 unfold SS.set SS.del
 by_cases e : q = p
 ·simp [e]
 ·simp [e]
theorem SS.ne_of {S : SS} {a b : Addr} {c : Cell} (h : S a = some c) (h2 : S b = none) : a ≠ b := fun e => by rw [e, h2] at h; cases h
/-- the ground of a context: the written part -/
structure Gd where
 K : PySem.W.Frag
abbrev noH : Hp := fun _ => none
def LstAt (g : Gd) (S : SS) (H : Hp) (p : Addr) (vs : List V) : Prop := (S p = none ∧ Rd H p (.lst vs)) ∨ SqL g.K noH p vs
def TupAt (g : Gd) (S : SS) (H : Hp) (p : Addr) (vs : List V) : Prop := (S p = none ∧ H p = some (.tup vs)) ∨ SqT g.K noH p vs
/-- an error that is held as a value: its object is tracked; a bare one was made of nothing -/
def ErrAt (H : Hp) (a C : Addr) (d : Option Addr) (bare : Bool) : Prop := ∃ φ : Heap → Prop, H a = some (.ext φ) ∧ ∀ h, φ h → ∃ oe, h.get? a = some oe ∧ Zc (.ref C) d oe ∧ ∃ vs, oe.data = .fields vs ∧ (bare = true → d = none ∧ ∃ t0, vs[0]? = some (.ref t0) ∧ h.TupAt t0 [])
mutual
def Rep (g : Gd) (S : SS) (H : Hp) : D → V → Prop
 | .non, v => v = .non
 | .bl b, v => v = .bl b
 | .int i, v => v = .int i
 | .str x, v => v = .str x
 | .lst ds, v => ∃ p vs, v = .ref p ∧ LstAt g S H p vs ∧ Reps g S H ds vs
 | .tup ds, v => ∃ p vs, v = .ref p ∧ TupAt g S H p vs ∧ Reps g S H ds vs
 | .dic kvs, v => ∃ p ws, v = .ref p ∧ S p = none ∧ H p = some (.dK ws) ∧ RepK g S H kvs ws
 | .obj a, v => v = .ref a
 | .exc a oe C fs, v => ∃ d, v = .ref a ∧ (Zc (.ref C) d oe ∧ ∃ vs, oe.data = .fields vs) ∧ ((d = none ∧ fs = []) ∨ ∃ dd ws, d = some dd ∧ S dd = none ∧ H dd = some (.xd ws) ∧ RepF g S H fs ws)
 | .err a C fs bare, v => ∃ d, v = .ref a ∧ S a = none ∧ ErrAt H a C d bare ∧ ((d = none ∧ fs = []) ∨ ∃ dd ws, d = some dd ∧ S dd = none ∧ H dd = some (.xd ws) ∧ RepF g S H fs ws)
def Reps (g : Gd) (S : SS) (H : Hp) : List D → List V → Prop
 | [], vs => vs = []
 | d :: ds, vs => ∃ v r, vs = v :: r ∧ Rep g S H d v ∧ Reps g S H ds r
def RepK (g : Gd) (S : SS) (H : Hp) : List (Key × D) → List (Key × V) → Prop
 | [], ws => ws = []
 | (k, d) :: r, ws => ∃ v q, ws = (k, v) :: q ∧ Rep g S H d v ∧ RepK g S H r q
def RepF (g : Gd) (S : SS) (H : Hp) : List (Str × D) → List (Str × V) → Prop
 | [], ws => ws = []
 | (k, d) :: r, ws => ∃ v q, ws = (k, v) :: q ∧ Rep g S H d v ∧ RepF g S H r q
end
/-- what is no cell stays; what becomes a cell is new -/
structure PostW (S : SS) (H : Hp) (S' : SS) (H' : Hp) : Prop where
 kp : ∀ p o, S p = none → H p = some o → H' p = some o
 fr : ∀ a, S' a ≠ none → S a ≠ none ∨ H a = none
/-- from one state to a later one: a locked dict stays, too -/
structure Post (S : SS) (H : Hp) (S' : SS) (H' : Hp) : Prop extends PostW S H S' H' where
 lk : ∀ p k o, S p = some (.loc k) → H p = some o → S' p = some (.loc k) ∧ H' p = some o
/-- a cell that may be written -/
def Cell.free : Cell → Bool
 | .loc _ => false | _ => true
theorem Post.refl (S : SS) (H : Hp) : Post S H S H := ⟨⟨fun _ _ _ h => h, fun _ h => .inl h⟩, fun _ _ _ h q => ⟨h, q⟩⟩
theorem PostW.none_of {S : SS} {H : Hp} {S' : SS} {H' : Hp} (P : PostW S H S' H') {p : Addr} {o : HO} (h : S p = none) (e : H p = some o) : S' p = none := by
 cases q : S' p with
 | none => rfl
 | some c =>
  rcases P.fr p (by rw [q]; exact fun z => nomatch z) with z | z
  ·exact absurd h z
  ·rw [e] at z; cases z
theorem PostW.trans {S : SS} {H : Hp} {S1 : SS} {H1 : Hp} {S2 : SS} {H2 : Hp} (a : PostW S H S1 H1) (b : PostW S1 H1 S2 H2) : PostW S H S2 H2 := by
 refine ⟨fun p o h e => b.kp p o (a.none_of h e) (a.kp p o h e), fun x h => ?_⟩
 rcases b.fr x h with z | z
 ·exact a.fr x z
 ·cases q : S x with
  | some c => exact .inl (fun z => nomatch z)
  | none =>
   cases r : H x with
   | none => exact .inr rfl
   | some o =>
    rw [a.kp x o q r] at z
    cases z
theorem Post.trans {S : SS} {H : Hp} {S1 : SS} {H1 : Hp} {S2 : SS} {H2 : Hp} (a : Post S H S1 H1) (b : Post S1 H1 S2 H2) : Post S H S2 H2 :=
 ⟨a.toPostW.trans b.toPostW, fun p k o h e => have ⟨h1, e1⟩ := a.lk p k o h e; b.lk p k o h1 e1⟩
section
variable {g : Gd} {S S' : SS} {H H' : Hp}
theorem Rd.kpW {p : Addr} {u : HO} (P : PostW S H S' H') (h : S p = none) (r : Rd H p u) : Rd H' p u := by
 rcases r with r | ⟨o, r⟩
 ·exact .inl (P.kp _ _ h r)
 ·exact .inr ⟨o, P.kp _ _ h r⟩
theorem Rd.none'W {p : Addr} {u : HO} (P : PostW S H S' H') (h : S p = none) (r : Rd H p u) : S' p = none := by
 rcases r with r | ⟨o, r⟩
 ·exact P.none_of h r
 ·exact P.none_of h r
theorem LstAt.monoW {p : Addr} {vs : List V} (P : PostW S H S' H') (h : LstAt g S H p vs) : LstAt g S' H' p vs := by
 rcases h with ⟨h, r⟩ | h
 ·exact .inl ⟨Rd.none'W P h r, Rd.kpW P h r⟩
 ·exact .inr h
theorem TupAt.monoW {p : Addr} {vs : List V} (P : PostW S H S' H') (h : TupAt g S H p vs) : TupAt g S' H' p vs := by
 rcases h with ⟨h, r⟩ | h
 ·exact .inl ⟨P.none_of h r, P.kp _ _ h r⟩
 ·exact .inr h
theorem sqL_noH {p : Addr} {vs : List V} (h : SqL g.K noH p vs) : SqL g.K H p vs := by
 rcases h with h | h
 ·rcases h with h | ⟨o, h⟩ <;> cases h
 ·exact .inr h
theorem sqT_noH {p : Addr} {vs : List V} (h : SqT g.K noH p vs) : SqT g.K H p vs := by
 rcases h with h | h
 ·rcases h with h | ⟨o, h⟩ <;> cases h
 ·exact .inr h
theorem LstAt.sq {p : Addr} {vs : List V} (h : LstAt g S H p vs) : SqL g.K H p vs := by
 rcases h with ⟨h, r⟩ | h
 ·exact .inl r
 ·exact sqL_noH h
theorem TupAt.sq {p : Addr} {vs : List V} (h : TupAt g S H p vs) : SqT g.K H p vs := by
 rcases h with ⟨h, r⟩ | h
 ·exact .inl (.inl r)
 ·exact sqT_noH h
mutual
theorem Rep.monoW (P : PostW S H S' H') : ∀ {d : D} {v : V}, Rep g S H d v → Rep g S' H' d v
 | .non, _, h => by simp only [Rep] at h ⊢; exact h
 | .bl _, _, h => by simp only [Rep] at h ⊢; exact h
 | .int _, _, h => by simp only [Rep] at h ⊢; exact h
 | .str _, _, h => by simp only [Rep] at h ⊢; exact h
 | .lst ds, _, h => by
  simp only [Rep] at h ⊢
  obtain ⟨p, vs, e, a, r⟩ := h
  exact ⟨p, vs, e, a.monoW P, Reps.monoW P r⟩
 | .tup ds, _, h => by
  simp only [Rep] at h ⊢
  obtain ⟨p, vs, e, a, r⟩ := h
  exact ⟨p, vs, e, a.monoW P, Reps.monoW P r⟩
 | .dic kvs, _, h => by
  simp only [Rep] at h ⊢
  obtain ⟨p, ws, e, a, b, r⟩ := h
  exact ⟨p, ws, e, P.none_of a b, P.kp _ _ a b, RepK.monoW P r⟩
 | .obj _, _, h => by simp only [Rep] at h ⊢; exact h
 | .exc a oe C fs, _, h => by
  simp only [Rep] at h ⊢
  obtain ⟨d, e, x, r⟩ := h
  refine ⟨d, e, x, ?_⟩
  rcases r with r | ⟨dd, ws, e1, n, q, r⟩
  ·exact .inl r
  ·exact .inr ⟨dd, ws, e1, P.none_of n q, P.kp _ _ n q, RepF.monoW P r⟩
 | .err a C fs bare, _, h => by
  simp only [Rep] at h ⊢
  obtain ⟨d, e, n, ⟨φ, here, says⟩, r⟩ := h
  refine ⟨d, e, P.none_of n here, ⟨φ, P.kp _ _ n here, says⟩, ?_⟩
  rcases r with r | ⟨dd, ws, e1, n, q, r⟩
  ·exact .inl r
  ·exact .inr ⟨dd, ws, e1, P.none_of n q, P.kp _ _ n q, RepF.monoW P r⟩
theorem Reps.monoW (P : PostW S H S' H') : ∀ {ds : List D} {vs : List V}, Reps g S H ds vs → Reps g S' H' ds vs
 | [], _, h => by simp only [Reps] at h ⊢; exact h
 | d :: ds, _, h => by
  simp only [Reps] at h ⊢
  obtain ⟨v, r, e, a, b⟩ := h
  exact ⟨v, r, e, Rep.monoW P a, Reps.monoW P b⟩
theorem RepK.monoW (P : PostW S H S' H') : ∀ {ds : List (Key × D)} {vs : List (Key × V)}, RepK g S H ds vs → RepK g S' H' ds vs
 | [], _, h => by simp only [RepK] at h ⊢; exact h
 | (k, d) :: ds, _, h => by
  simp only [RepK] at h ⊢
  obtain ⟨v, r, e, a, b⟩ := h
  exact ⟨v, r, e, Rep.monoW P a, RepK.monoW P b⟩
theorem RepF.monoW (P : PostW S H S' H') : ∀ {ds : List (Str × D)} {vs : List (Str × V)}, RepF g S H ds vs → RepF g S' H' ds vs
 | [], _, h => by simp only [RepF] at h ⊢; exact h
 | (k, d) :: ds, _, h => by
  simp only [RepF] at h ⊢
  obtain ⟨v, r, e, a, b⟩ := h
  exact ⟨v, r, e, Rep.monoW P a, RepF.monoW P b⟩
end
theorem LstAt.mono {p : Addr} {vs : List V} (P : Post S H S' H') (h : LstAt g S H p vs) : LstAt g S' H' p vs := h.monoW P.toPostW
theorem Rep.mono (P : Post S H S' H') {d : D} {v : V} (h : Rep g S H d v) : Rep g S' H' d v := h.monoW P.toPostW
theorem Reps.mono (P : Post S H S' H') {ds : List D} {vs : List V} (h : Reps g S H ds vs) : Reps g S' H' ds vs := h.monoW P.toPostW
theorem RepK.mono (P : Post S H S' H') {ds : List (Key × D)} {vs : List (Key × V)} (h : RepK g S H ds vs) : RepK g S' H' ds vs := h.monoW P.toPostW
theorem RepF.mono (P : Post S H S' H') {ds : List (Str × D)} {vs : List (Str × V)} (h : RepF g S H ds vs) : RepF g S' H' ds vs := h.monoW P.toPostW
/-- a mutable object as it lies -/
def CellOk (g : Gd) (S : SS) (H : Hp) (a : Addr) : Cell → Prop
 | .lst ds => ∃ vs, H a = some (.lst vs) ∧ Reps g S H ds vs
 | .dic kvs => ∃ ws, H a = some (.dK ws) ∧ RepK g S H kvs ws
 | .loc kvs => ∃ ws o, H a = some (.frz o (.dK ws)) ∧ RepK g S H kvs ws
 | .ins C fs => ∃ dx ws, H a = some (.ins C dx ws) ∧ RepF g S H fs ws
def CellsOk (g : Gd) (S : SS) (H : Hp) : Prop := ∀ a c, S a = some c → CellOk g S H a c
theorem CellOk.there {a : Addr} {c : Cell} (h : CellOk g S H a c) : ∃ o, H a = some o := by
 cases c with
 | lst _ => obtain ⟨_, e, _⟩ := h; exact ⟨_, e⟩
 | dic _ => obtain ⟨_, e, _⟩ := h; exact ⟨_, e⟩
 | loc _ => obtain ⟨_, _, e, _⟩ := h; exact ⟨_, e⟩
 | ins _ _ => obtain ⟨_, _, e, _⟩ := h; exact ⟨_, e⟩
theorem CellOk.monoW {a : Addr} {c : Cell} (P : PostW S H S' H') (e : H' a = H a) (h : CellOk g S H a c) : CellOk g S' H' a c := by
 cases c with
 | lst _ => obtain ⟨x, q, r⟩ := h; exact ⟨x, by rw [e]; exact q, r.monoW P⟩
 | dic _ => obtain ⟨x, q, r⟩ := h; exact ⟨x, by rw [e]; exact q, r.monoW P⟩
 | loc _ => obtain ⟨x, y, q, r⟩ := h; exact ⟨x, y, by rw [e]; exact q, r.monoW P⟩
 | ins _ _ => obtain ⟨x, y, q, r⟩ := h; exact ⟨x, y, by rw [e]; exact q, r.monoW P⟩
theorem CellOk.mono {a : Addr} {c : Cell} (P : Post S H S' H') (e : H' a = H a) (h : CellOk g S H a c) : CellOk g S' H' a c := h.monoW P.toPostW e
theorem CellsOk.free (h : CellsOk g S H) {p : Addr} (e : H p = none) : S p = none := by
 cases q : S p with
 | none => rfl
 | some c =>
  obtain ⟨o, z⟩ := (h p c q).there
  rw [e] at z; cases z
/-- a new object that is no cell -/
theorem Post.new {p : Addr} {o : HO} (e : H p = none) : Post S H S (upd H p o) :=
 ⟨⟨fun q u _ z => by rw [upd_ne (ne_of_none z e)]; exact z, fun _ h => .inl h⟩, fun q k u h z => ⟨h, by rw [upd_ne (ne_of_none z e)]; exact z⟩⟩
theorem CellsOk.new {p : Addr} {o : HO} (h : CellsOk g S H) (e : H p = none) : CellsOk g S (upd H p o) := fun a c q => by
 obtain ⟨u, z⟩ := (h a c q).there
 exact (h a c q).mono (Post.new e) (upd_ne (ne_of_none z e))
/-- a new cell -/
theorem Post.newC {p : Addr} {o : HO} {c : Cell} (e : H p = none) : Post S H (S.set p c) (upd H p o) :=
 ⟨⟨fun q u _ z => by rw [upd_ne (ne_of_none z e)]; exact z, fun a h => by
  by_cases q : a = p
  ·exact .inr (q ▸ e)
  ·rw [SS.set_ne q] at h; exact .inl h⟩, fun q k u h z => ⟨by rw [SS.set_ne (ne_of_none z e)]; exact h, by rw [upd_ne (ne_of_none z e)]; exact z⟩⟩
theorem CellsOk.newC {p : Addr} {o : HO} {c : Cell} (h : CellsOk g S H) (e : H p = none) (hc : CellOk g (S.set p c) (upd H p o) p c) : CellsOk g (S.set p c) (upd H p o) := fun a d q => by
 by_cases z : a = p
 ·subst z; rw [SS.set_same] at q; cases q; exact hc
 ·rw [SS.set_ne z] at q
  exact (h a d q).mono (Post.newC e) (upd_ne z)
/-- a cell is written -/
theorem PostW.write {a : Addr} {o : HO} {c c0 : Cell} (e : S a = some c0) : PostW S H (S.set a c) (upd H a o) :=
 ⟨fun q u n z => by rw [upd_ne (fun y => by rw [y, e] at n; cases n)]; exact z, fun b h => by
  by_cases q : b = a
  ·exact .inl (by rw [q, e]; exact fun z => nomatch z)
  ·rw [SS.set_ne q] at h; exact .inl h⟩
theorem Post.write {a : Addr} {o : HO} {c c0 : Cell} (e : S a = some c0) (fr : c0.free = true := by rfl) : Post S H (S.set a c) (upd H a o) :=
 ⟨.write e, fun q k u h z => by
  have apart : q ≠ a := fun y => by rw [y, e] at h; cases h; cases fr
  exact ⟨by rw [SS.set_ne apart]; exact h, by rw [upd_ne apart]; exact z⟩⟩
theorem CellsOk.writeW {a : Addr} {o : HO} {c c0 : Cell} (h : CellsOk g S H) (e : S a = some c0) (hc : CellOk g (S.set a c) (upd H a o) a c) : CellsOk g (S.set a c) (upd H a o) := fun b d q => by
 by_cases z : b = a
 ·subst z; rw [SS.set_same] at q; cases q; exact hc
 ·rw [SS.set_ne z] at q
  exact (h b d q).monoW (.write e) (upd_ne z)
theorem CellsOk.write {a : Addr} {o : HO} {c c0 : Cell} (h : CellsOk g S H) (e : S a = some c0) (hc : CellOk g (S.set a c) (upd H a o) a c) : CellsOk g (S.set a c) (upd H a o) := h.writeW e hc
/-- a list that is changed no more -/
theorem Post.freeze {a : Addr} {c : Cell} (e : S a = some c) (fr : c.free = true := by rfl) : Post S H (S.del a) H :=
 ⟨⟨fun _ _ _ z => z, fun b h => by
  by_cases q : b = a
  ·rw [q, SS.del_same] at h; exact absurd rfl h
  ·rw [SS.del_ne q] at h; exact .inl h⟩, fun q k u h z => ⟨by rw [SS.del_ne (fun y => by rw [y, e] at h; cases h; cases fr)]; exact h, z⟩⟩
theorem CellsOk.freeze {a : Addr} {c : Cell} (h : CellsOk g S H) (e : S a = some c) (fr : c.free = true := by rfl) : CellsOk g (S.del a) H := fun b d q => by
 by_cases z : b = a
 ·rw [z, SS.del_same] at q; cases q
 ·rw [SS.del_ne z] at q
  exact (h b d q).mono (Post.freeze e fr) rfl
theorem Rep.freeze {a : Addr} {ds : List D} (h : CellsOk g S H) (e : S a = some (.lst ds)) : Rep g (S.del a) H (.lst ds) (.ref a) := by
 obtain ⟨vs, q, r⟩ := h a _ e
 simp only [Rep]
 exact ⟨a, vs, rfl, .inl ⟨SS.del_same, .inl q⟩, r.mono (Post.freeze e)⟩
theorem Rep.freezeK {a : Addr} {ds : List (Key × D)} (h : CellsOk g S H) (e : S a = some (.dic ds)) : Rep g (S.del a) H (.dic ds) (.ref a) := by
 obtain ⟨vs, q, r⟩ := h a _ e
 simp only [Rep]
 exact ⟨a, vs, rfl, SS.del_same, q, r.mono (Post.freeze e)⟩
/-- a dict is locked, for a walk; then let go -/
theorem CellsOk.lock {a : Addr} {kvs : List (Key × D)} {ws : List (Key × V)} {o : Obj} (h : CellsOk g S H) (e : S a = some (.dic kvs)) (at_a : H a = some (.dK ws)) (r : RepK g S H kvs ws) : CellsOk g (S.set a (.loc kvs)) (upd H a (.frz o (.dK ws))) :=
 h.writeW e ⟨ws, o, upd_same, r.mono (Post.write e)⟩
theorem PostW.unlock {a : Addr} {kvs : List (Key × D)} {ws : List (Key × V)} {o : Obj} (e : S a = some (.dic kvs)) (P : Post (S.set a (.loc kvs)) (upd H a (.frz o (.dK ws))) S' H') : S' a = some (.loc kvs) ∧ H' a = some (.frz o (.dK ws)) :=
 P.lk a kvs _ SS.set_same upd_same
theorem Post.unlock {a : Addr} {kvs : List (Key × D)} {ws : List (Key × V)} {o : Obj} (e : S a = some (.dic kvs)) (P : Post (S.set a (.loc kvs)) (upd H a (.frz o (.dK ws))) S' H') : Post S H (S'.set a (.dic kvs)) (upd H' a (.dK ws)) :=
 ⟨(PostW.write e).trans (P.toPostW.trans (.write (PostW.unlock e P).1)), fun q k u h z => by
  have apart : q ≠ a := fun y => by rw [y, e] at h; cases h
  have := P.lk q k u (by rw [SS.set_ne apart]; exact h) (by rw [upd_ne apart]; exact z)
  exact ⟨by rw [SS.set_ne apart]; exact this.1, by rw [upd_ne apart]; exact this.2⟩⟩
theorem CellsOk.unlock {a : Addr} {kvs : List (Key × D)} {ws : List (Key × V)} {o : Obj} (e : S a = some (.dic kvs)) (r : RepK g S H kvs ws) (P : Post (S.set a (.loc kvs)) (upd H a (.frz o (.dK ws))) S' H') (h : CellsOk g S' H') : CellsOk g (S'.set a (.dic kvs)) (upd H' a (.dK ws)) :=
 h.writeW (PostW.unlock e P).1 ⟨ws, upd_same, r.mono (Post.unlock e P)⟩
/-! ### slots -/
abbrev DS := List (Option D)
structure RelS (g : Gd) (S : SS) (H : Hp) (δ : DS) (σ : L2.St) : Prop where
 len : δ.length = σ.length
 at_ : ∀ (i : Nat) d, δ[i]? = some (some d) → ∃ v, σ[i]? = some (some v) ∧ Rep g S H d v
theorem RelS.mono {δ : DS} {σ : L2.St} (P : Post S H S' H') (h : RelS g S H δ σ) : RelS g S' H' δ σ := ⟨h.len, fun i d e =>
 let ⟨v, e1, r⟩ := h.at_ i d e
 ⟨v, e1, r.mono P⟩⟩
theorem RelS.set {δ : DS} {σ : L2.St} {i : Nat} {d : D} {v : V} (h : RelS g S H δ σ) (r : Rep g S H d v) : RelS g S H (δ.set i (some d)) (σ.set i (some v)) := by
 refine ⟨by rw [List.length_set, List.length_set, h.len], fun j e q => ?_⟩
 by_cases hj : i = j
 ·subst hj
  by_cases hi : i < δ.length
  ·rw [List.getElem?_set_self hi] at q
   cases q
   exact ⟨v, List.getElem?_set_self (by rw [← h.len]; exact hi), r⟩
  ·rw [List.getElem?_eq_none (by simpa using hi)] at q; cases q
 ·rw [List.getElem?_set_ne hj] at q
  obtain ⟨w, e1, r1⟩ := h.at_ j e q
  exact ⟨w, by rw [List.getElem?_set_ne hj]; exact e1, r1⟩
theorem RelS.setN {δ : DS} {σ : L2.St} {i : Nat} {x : Option V} (h : RelS g S H δ σ) : RelS g S H (δ.set i none) (σ.set i x) := by
 refine ⟨by rw [List.length_set, List.length_set, h.len], fun j e q => ?_⟩
 by_cases hj : i = j
 ·subst hj
  by_cases hi : i < δ.length
  ·rw [List.getElem?_set_self hi] at q; cases q
  ·rw [List.getElem?_eq_none (by simpa using hi)] at q; cases q
 ·rw [List.getElem?_set_ne hj] at q
  obtain ⟨w, e1, r1⟩ := h.at_ j e q
  exact ⟨w, by rw [List.getElem?_set_ne hj]; exact e1, r1⟩
theorem RelS.start {N : List Str} : ∀ {ds : List D} {vs : List V}, Reps g S H ds vs → RelS g S H (ds.map some ++ List.replicate (N.length - ds.length) none) (L2.start N vs) := by
 have key : ∀ (n : Nat) (ds : List D) (vs : List V), Reps g S H ds vs → RelS g S H (ds.map some ++ List.replicate n none) (vs.map some ++ List.replicate n none) := by
  intro n ds
  induction ds with
  | nil =>
   intro vs h
   simp only [Reps] at h
   subst h
   refine ⟨by simp, fun i d e => ?_⟩
   simp only [List.map_nil, List.nil_append, List.getElem?_replicate] at e
   split at e <;> cases e
  | cons d ds ih =>
   intro vs h
   simp only [Reps] at h
   obtain ⟨v, r, e, a, b⟩ := h
   subst e
   have q := ih r b
   refine ⟨by simpa using q.len, fun i x e => ?_⟩
   cases i with
   | zero => cases e; exact ⟨v, rfl, a⟩
   | succ i => exact q.at_ i x e
 intro ds vs h
 have hl : ds.length = vs.length := by
  induction ds generalizing vs with
  | nil => simp only [Reps] at h; subst h; rfl
  | cons d ds ih =>
   simp only [Reps] at h
   obtain ⟨v, r, e, a, b⟩ := h
   subst e
   rw [List.length_cons, List.length_cons, ih b]
 unfold L2.start
 rw [← hl]
 exact key _ _ _ h
/-- the whole relation of a state -/
structure Rel (g : Gd) (S : SS) (H : Hp) (δ : DS) (σ : L2.St) : Prop where
 sl : RelS g S H δ σ
 ce : CellsOk g S H
end
end Sv
/-! Sv1: what a def promises, in a calm state and within an except suite, with no repr running. -/
namespace Sv
open PySem PySem.Spec PyProof.Rows L2
open L2H (RoomH Hot1 PinOk)
/-- calm, or p is handled -/
def Mood (A : Around) (outer : List Env) (H : Hp) (s : Shared) : Option (Addr × Obj) → Prop
 | none => A.handled = none
 | some p => Hot1 A p ∧ PinOk outer H s p
/-- no repr is running, and: calm, or p is handled -/
def Mode (A : Around) (outer : List Env) (H : Hp) (s : Shared) (m : Option (Addr × Obj)) : Prop := A.guards = some [] ∧ Mood A outer H s m
abbrev SpM := Option (Addr × Obj) → Sp
structure FnG (P : Program) (w : World) (K : PySem.W.Frag) (mg : Str → Option Value) (base : Heap) (hot : Bool) (k : Nat) (f : Addr) (fd : FuncData) (ps : List Str) (sp : SpM) : Prop where
 len : ∀ m vs H Q E, m.isSome = hot → sp m vs H Q E → vs.length = ps.length
 run : ∀ (A : Around) (outer : List Env) (s : Shared) (H : Hp) (args : Args) (us : List Value) (vs : List V) (Q : VK) (E : XK) (m : Option (Addr × Obj)), m.isSome = hot → RoomH k A → Mode A outer H s m → Env0 P w K mg base A outer s H →
  BindsTo s fd args (ps.zip us) → Vals vs us → sp m vs H Q E → codeAny (model P w) A (.call (.ref f) args) (CR (L2N.CX P w) outer P w H s Q E) s
theorem FnG.mono {P : Program} {w : World} {K : PySem.W.Frag} {mg : Str → Option Value} {base : Heap} {hot : Bool} {j k : Nat} {f : Addr} {fd : FuncData} {ps : List Str} {sp : SpM} (F : FnG P w K mg base hot j f fd ps sp) (h : j ≤ k) :
  FnG P w K mg base hot k f fd ps sp := ⟨F.len, fun A outer s H args us vs Q E m hm hr => F.run A outer s H args us vs Q E m hm (hr.mono h)⟩
theorem FnG.imp {P : Program} {w : World} {K : PySem.W.Frag} {mg : Str → Option Value} {base : Heap} {hot : Bool} {k : Nat} {f : Addr} {fd : FuncData} {ps : List Str} {sp sp' : SpM} (F : FnG P w K mg base hot k f fd ps sp)
  (h : ∀ m vs H Q E, sp' m vs H Q E → sp m vs H Q E) : FnG P w K mg base hot k f fd ps sp' :=
 ⟨fun m vs H Q E z q => F.len m vs H Q E z (h _ _ _ _ _ q), fun A outer s H args us vs Q E m hm hr hM he hb hv hs => F.run A outer s H args us vs Q E m hm hr hM he hb hv (h _ _ _ _ _ hs)⟩
/-- the context of a def's body -/
def cxM (P : Program) (w : World) (K : PySem.W.Frag) (mg : Str → Option Value) (base : Heap) (N : List Str) (qual : Str) (scope : Scope) (f : Addr) (cd : Value) (A : Around) (outer : List Env) (s : Shared) (H : Hp) (E : XK) (m : Option (Addr × Obj)) : Cx :=
 { cxOf (L2N.CX P w) P w K mg base N qual scope f cd A outer s H E with calm := m.isNone, pn := m.toList }
theorem inv_startM {P : Program} {w : World} {K : PySem.W.Frag} {mg : Str → Option Value} {base : Heap} {N ps : List Str} {qual : Str} {scope : Scope} {f : Addr} {cd : Value} {A : Around} {outer : List Env} {s s1 : Shared} {H : Hp} {E : XK} {us : List Value} {vs : List V}
  (S : FnScope N ps scope) {m : Option (Addr × Obj)} (hM : Mode A outer H s m) (e0 : Env0 P w K mg base A outer s H) (hl : vs.length = ps.length) (r : Vals vs us)
  (x : InCallC s s.heap.objs.size (bindL (envOfC qual scope s.heap.objs.size f cd).kindOf (ps.zip us) (fun _ => none)) (cellsFrom (s.heap.objs.size + 1) scope.names []) (bindC (envOfC qual scope s.heap.objs.size f cd).kindOf (ps.zip us) (fun _ => none)) s1) :
  Inv (cxM P w K mg base N qual scope f cd A outer s H E m) [] (L2.start N vs) H s1 := by
 cases m with
 | none => exact L2.inv_start S hM.2 e0 hl r x
 | some p => exact L2H.inv_startH S hM.2.2 e0 hl r x
/-! ### a def by its body -/
/-- each parameter is a local or a cell that is laid -/
theorem par_kinds {N ps : List Str} {scope : Scope} {us : List Value} {n : Nat} (S : FnScope N ps scope) (y : Str × Value) (hy : y ∈ ps.zip us) :
  scope.names.lookup y.1 = some .local ∨ (scope.names.lookup y.1 = some .cell ∧ ((cellsFrom n scope.names []).lookup y.1).isSome = true) :=
 (S.par y.1 (List.of_mem_zip (show (y.1, y.2) ∈ ps.zip us from hy)).1).imp id fun c => ⟨c, PySem.W.cellsFrom_some _ _ _ (.inl c)⟩
/-- how a body ends is how the call ends -/
theorem flow_tells {P : Program} {w : World} {K : PySem.W.Frag} {mg : Str → Option Value} {base : Heap} {N : List Str} {qual : Str} {scope : Scope} {f : Addr} {cd : Value} {A : Around} {outer : List Env} {s : Shared} {H : Hp} {Q : VK} {E : XK} {m : Option (Addr × Obj)} :
  ∀ (fl : Flow) (t : Shared), SP (cxM P w K mg base N qual scope f cd A outer s H E m) [] { nx := fun _ H1 => Q .non H1, rt := Q } fl t →
   match fl with
   | .ret u => CE outer P w H s Q u t
   | .next => CE outer P w H s Q .none t
   | _ => False
 | .ret _, _, ⟨v, _, H1, I, rv, q⟩ => ⟨v, H1, I.os, I.bare, I.base, I.hok, rv, q⟩
 | .next, _, ⟨_, H1, I, q⟩ => ⟨.non, H1, I.os, I.bare, I.base, I.hok, rfl, q⟩
 | .brk, _, ⟨_, _, _, q⟩ => q
 | .cont, _, ⟨_, _, _, q⟩ => q
theorem fn_ofM {P : Program} {w : World} {K : PySem.W.Frag} {mg : Str → Option Value} {base : Heap} {hot : Bool} {k : Nat} {f : Addr} {name qual : Str} {params : Arguments} {body : List Stmt} {scope : Scope} {dV kV doc pm cdv ct oc : Value} {an od : Option Addr}
  {osl : Array (Option Value)} {N ps : List Str} {sp : SpM} (at_f : K.lookup f = some ⟨oc, od, .func (PySem.W.fnOf name qual params body scope dV kV doc pm an cdv ct), osl⟩) (at_cd : PySem.W.codeIn K cdv qual = true) (S : FnScope N ps scope)
  (len : ∀ m vs H Q E, m.isSome = hot → sp m vs H Q E → vs.length = ps.length)
  (hbody : ∀ (A : Around) (outer : List Env) (s : Shared) (H : Hp) (vs : List V) (Q : VK) (E : XK) (m : Option (Addr × Obj)), m.isSome = hot → Mode A outer H s m → RoomH k (A.deeper (envOfC qual scope s.heap.objs.size f cdv)) → sp m vs H Q E →
   ∃ t, PSs (cxM P w K mg base N qual scope f cdv A outer s H E m) body t ∧ t { nx := fun _ H' => Q .non H', rt := Q } (L2.start N vs) H) :
  FnG P w K mg base hot (k + 1) f (PySem.W.fnOf name qual params body scope dV kV doc pm an cdv ct) ps sp where
 len := len
 run A outer s H args us vs Q E m hm hr hM e0 hb r hsp := by
  have grown : ∀ {b o}, base.get? b = some o → s.heap.get? b = some o := fun {b o} e => (e0.bs b o e).1
  have inK : K.In s.heap := e0.mod.kin.keeps fun _ _ => grown
  apply codeAny_call_function hr.depth (inK _ _ at_f) rfl S.co S.gen rfl (PySem.W.codeRec_of inK at_cd)
  apply hb
  apply wpAny_newFunctionEnv_cells S.kind (par_kinds S)
  rintro _ rfl s1 laid
  obtain ⟨t, walks, wants⟩ := hbody A outer s H vs Q E m hm hM (hr.deeper _) hsp
  have I0 := inv_startM (E := E) S hM e0 (len _ _ _ _ _ hm hsp) r laid
  refine ⟨(e0.mod.nolimit.keeps fun _ _ => grown).keeps laid.toInCall.keep, codeAny_func (wpAny_mono (walks.run _ _ _ _ _ I0 wants) (fun fl t ended => ?_) fun _ _ x => x)⟩
  have told := flow_tells fl t ended
  cases fl <;> first | exact told | exact told.elim
/-! ### calls -/
/-- the context bears its mode -/
def MoodC (X : Cx) : Option (Addr × Obj) → Prop
 | none => X.calm = true
 | some p => Hot1 X.A p ∧ p ∈ X.pn
def ModeC (X : Cx) (m : Option (Addr × Obj)) : Prop := X.A.guards = some [] ∧ MoodC X m
theorem MoodC.at {X : Cx} {m0 : Option (Addr × Obj)} {pins : List (Addr × Obj)} {σ : L2.St} {H : Hp} {s : Shared} (c : MoodC X m0) (I : Inv X pins σ H s) : Mood X.A X.stack H s m0 := by
 match m0, c with
 | none, c => exact I.ok.hd c
 | some p, ⟨h, hp⟩ =>
  have ⟨get, free, noLoc, noFs, noCell⟩ := I.pin p (List.mem_append_left pins hp)
  refine ⟨h, get, free, fun z => ?_, noCell⟩
  rcases List.mem_cons.mp (I.stkSub _ z) with z | z
  ·exact noLoc z
  ·exact noFs z
theorem ModeC.at {X : Cx} {m0 : Option (Addr × Obj)} {pins : List (Addr × Obj)} {σ : L2.St} {H : Hp} {s : Shared} (c : ModeC X m0) (I : Inv X pins σ H s) : Mode X.A X.stack H s m0 := ⟨c.1, c.2.at I⟩
section
variable {X : Cx} {hot : Bool} {m0 : Option (Addr × Obj)} {k : Nat} {f : Addr} {fd : FuncData} {ps : List Str} {sp : SpM} {dvs : List V} {ds : List Value} {E : L2.St → XK} {x : Str} {q pos : Pos} {e : Expr} {es : List Expr} {t : TA}
/-- the def at f, called with values -/
theorem run_fnG {pins : List (Addr × Obj)} {σ : L2.St} {H : Hp} {s : Shared} {Q : VK} {us : List Value} {vs : List V} (F : FnG X.prog X.w X.K X.mg X.base hot k f fd ps sp) (hh : m0.isSome = hot) (room : RoomH k X.A) (mode : ModeC X m0) (binds : L2.Binds X.K fd ps ds) (hd : Vals dvs ds)
  (out : PassesAt (L2N.CX X.prog X.w) X σ (E σ)) (I : Inv X pins σ H s) (rv : Vals vs us) (want : sp m0 (vs ++ dvs) H Q (E σ)) : wpAny (model X.prog X.w) X.A (call (.ref f) us) (EP X pins σ Q) X.xe s := by
 have all := rv.append hd
 have whole := F.run X.A X.stack s H ⟨us, []⟩ (us ++ ds) _ Q (E σ) m0 hh room (mode.at I) I.env0 (binds s us I.kIn (all.length ▸ F.len _ _ _ _ _ hh want)) all want
 apply wpAny_call
 refine codeAny_mono whole ?_
 rintro (err | (_ | u | _ | _)) s' told
 ·exact out _ _ _ _ _ I told
 all_goals first | exact I.after told | exact told.elim
def tCallG (m0 : Option (Addr × Obj)) (sp : SpM) (dvs : List V) (E : L2.St → XK) (t : TA) : TE := fun σ H Q => t σ H fun vs H1 => sp m0 (vs ++ dvs) H1 Q (E σ)
/-- the name x is the def at f -/
structure Named (X : Cx) (x : Str) (f : Addr) : Prop where
 gl : Gl X x
 mg : X.mg x = some (.ref f)
 kp : PySem.W.keepIn X.K (.ref f) = true
 db : (x == ("__debug__" : Str)) = false
theorem pe_callG (F : FnG X.prog X.w X.K X.mg X.base hot k f fd ps sp) (hh : m0.isSome = hot) (room : RoomH k X.A) (mode : ModeC X m0) (nm : Named X x f) (binds : L2.Binds X.K fd ps ds) (hd : Vals dvs ds)
  (out : ∀ σ, PassesAt (L2N.CX X.prog X.w) X σ (E σ)) (args : PA X (e :: es) t) (plain : starEach (e :: es) X.env = (false, eval e X.env) :: starEach es X.env) (rest : (backTo pos (starEach es X.env)).any (·.1) = false) :
  PE X (.Call (.Name x q) (e :: es) [] pos) (tCallG m0 sp dvs E t) where
 run pins s σ H Q I want := wpAny_Call_Name_kw (ld_glob I nm.gl nm.mg (PySem.W.callWith_K (h₀ := X.base) I.ok.mod.kin nm.kp
  (thn (args.run pos pins s σ H _ I want) fun _ _ ⟨_, _, J, rv, go⟩ => ⟨J.kIn, run_fnG F hh room mode binds hd (out σ) J rv go⟩) plain rest) nm.db)
theorem pe_callG0 (F : FnG X.prog X.w X.K X.mg X.base hot k f fd ps sp) (hh : m0.isSome = hot) (room : RoomH k X.A) (mode : ModeC X m0) (nm : Named X x f) (binds : L2.Binds X.K fd ps ds) (hd : Vals dvs ds) (out : ∀ σ, PassesAt (L2N.CX X.prog X.w) X σ (E σ)) :
  PE X (.Call (.Name x q) [] [] pos) (tCallG m0 sp dvs E tNil) where
 run pins s σ H Q I want := wpAny_Call_Name_kw (ld_glob I nm.gl nm.mg (PySem.W.callWith_K0 I.kIn nm.kp (run_fnG F hh room mode binds hd (out σ) I .nil want)) nm.db)
end
end Sv
/-! Sv2: operators on values. -/
namespace Sv
open PySem PySem.Spec PyProof.Rows L2
abbrev DK := D → SS → Prop
/-! ### lists side by side -/
section
variable {α β : Type} {F : α → β → Prop}
/-- two lists lie side by side when one list of related pairs shows both -/
theorem pz_zip {xs : List α} {us : List β} (h : Paired F xs us) : ∃ ps : List {p : α × β // F p.1 p.2}, ps.map (fun p => p.1.1) = xs ∧ ps.map (fun p => p.1.2) = us := by
 induction h with
 | nil => exact ⟨[], rfl, rfl⟩
 | cons r _ more =>
  obtain ⟨ps, rfl, rfl⟩ := more
  exact ⟨⟨(_, _), r⟩ :: ps, rfl, rfl⟩
theorem pz_of (ps : List {p : α × β // F p.1 p.2}) : Paired F (ps.map fun p => p.1.1) (ps.map fun p => p.1.2) := by
 induction ps with
 | nil => exact .nil
 | cons p ps more => exact .cons p.2 more
/-- what is done alike to both lists is done to the pairs -/
theorem pz_same (f : ∀ {γ : Type}, List γ → List γ) (nat : ∀ {γ δ : Type} (h : γ → δ) (l : List γ), f (l.map h) = (f l).map h) {xs : List α} {us : List β} (r : Paired F xs us) : Paired F (f xs) (f us) := by
 obtain ⟨ps, rfl, rfl⟩ := pz_zip r
 rw [nat, nat]
 exact pz_of _
theorem pz_get {xs : List α} {us : List β} {i : Nat} {x : α} (r : Paired F xs us) (e : xs[i]? = some x) : ∃ u, us[i]? = some u ∧ F x u := by
 obtain ⟨ps, rfl, rfl⟩ := pz_zip r
 rw [List.getElem?_map] at e
 rw [List.getElem?_map]
 cases at_i : ps[i]? with
 | none => rw [at_i] at e; exact nomatch e
 | some p =>
  rw [at_i] at e
  cases e
  exact ⟨p.1.2, rfl, p.2⟩
theorem pz_set {x : α} {u : β} (r : F x u) {xs : List α} {us : List β} (i : Nat) (rs : Paired F xs us) : Paired F (xs.set i x) (us.set i u) := by
 obtain ⟨ps, rfl, rfl⟩ := pz_zip rs
 have put := pz_of (ps.set i ⟨(x, u), r⟩)
 rwa [List.map_set, List.map_set] at put
theorem pz_append {xs ys : List α} {us ws : List β} (r : Paired F xs us) (q : Paired F ys ws) : Paired F (xs ++ ys) (us ++ ws) := by
 obtain ⟨ps, rfl, rfl⟩ := pz_zip r
 obtain ⟨qs, rfl, rfl⟩ := pz_zip q
 rw [← List.map_append, ← List.map_append]
 exact pz_of _
theorem pz_take {xs : List α} {us : List β} (n : Nat) : Paired F xs us → Paired F (xs.take n) (us.take n) := pz_same (fun l => l.take n) fun h l => List.map_take.symm
theorem pz_drop {xs : List α} {us : List β} (n : Nat) : Paired F xs us → Paired F (xs.drop n) (us.drop n) := pz_same (fun l => l.drop n) fun h l => List.map_drop.symm
theorem pz_reverse {xs : List α} {us : List β} : Paired F xs us → Paired F xs.reverse us.reverse := pz_same List.reverse fun h l => List.map_reverse.symm
theorem pz_dropLast {xs : List α} {us : List β} : Paired F xs us → Paired F xs.dropLast us.dropLast := pz_same List.dropLast fun h l => List.map_dropLast.symm
end
section
variable {g : Gd} {S S' : SS} {H H' : Hp}
abbrev RP (g : Gd) (S : SS) (H : Hp) : List D → List V → Prop := Paired fun d v => Rep g S H d v
theorem rp_of : ∀ {ds : List D} {vs : List V}, Reps g S H ds vs → RP g S H ds vs
 | [], _, h => by simp only [Reps] at h; subst h; exact .nil
 | d :: ds, _, h => by
  simp only [Reps] at h
  obtain ⟨v, r, e, a, b⟩ := h
  subst e
  exact .cons a (rp_of b)
theorem of_rp : ∀ {ds : List D} {vs : List V}, RP g S H ds vs → Reps g S H ds vs
 | _, _, .nil => by simp only [Reps]
 | _, _, .cons a b => by simp only [Reps]; exact ⟨_, _, rfl, a, of_rp b⟩
abbrev RPK (g : Gd) (S : SS) (H : Hp) : List (Key × D) → List (Key × V) → Prop := Paired fun d v => d.1 = v.1 ∧ Rep g S H d.2 v.2
theorem rpk_of : ∀ {ds : List (Key × D)} {vs : List (Key × V)}, RepK g S H ds vs → RPK g S H ds vs
 | [], _, h => by simp only [RepK] at h; subst h; exact .nil
 | (k, d) :: ds, _, h => by
  simp only [RepK] at h
  obtain ⟨v, r, e, a, b⟩ := h
  subst e
  exact .cons ⟨rfl, a⟩ (rpk_of b)
theorem of_rpk : ∀ {ds : List (Key × D)} {vs : List (Key × V)}, RPK g S H ds vs → RepK g S H ds vs
 | _, _, .nil => by simp only [RepK]
 | (k, d) :: _, (k', v) :: _, .cons a b => by
  obtain ⟨e, a⟩ := a
  cases e
  simp only [RepK]
  exact ⟨v, _, rfl, a, of_rpk b⟩
theorem Reps.length {ds : List D} {vs : List V} (h : Reps g S H ds vs) : ds.length = vs.length := Paired.length (rp_of h)
theorem Reps.get {ds : List D} {vs : List V} (h : Reps g S H ds vs) {i : Nat} {d : D} (e : ds[i]? = some d) : ∃ v, vs[i]? = some v ∧ Rep g S H d v := pz_get (rp_of h) e
theorem Reps.append {ds es : List D} {vs us : List V} (h : Reps g S H ds vs) (h' : Reps g S H es us) : Reps g S H (ds ++ es) (vs ++ us) := of_rp (pz_append (rp_of h) (rp_of h'))
theorem Reps.take {ds : List D} {vs : List V} (h : Reps g S H ds vs) (n : Nat) : Reps g S H (ds.take n) (vs.take n) := of_rp (pz_take n (rp_of h))
theorem Reps.drop {ds : List D} {vs : List V} (h : Reps g S H ds vs) (n : Nat) : Reps g S H (ds.drop n) (vs.drop n) := of_rp (pz_drop n (rp_of h))
theorem Reps.set {ds : List D} {vs : List V} (h : Reps g S H ds vs) {i : Nat} {d : D} {v : V} (r : Rep g S H d v) : Reps g S H (ds.set i d) (vs.set i v) := of_rp (pz_set r i (rp_of h))
theorem Reps.reverse {ds : List D} {vs : List V} (h : Reps g S H ds vs) : Reps g S H ds.reverse vs.reverse := of_rp (pz_reverse (rp_of h))
theorem Reps.at {ds : List D} {vs : List V} (h : Reps g S H ds vs) {i : Int} {d : D} (e : atI ds i = some d) : ∃ v, atI vs i = some v ∧ Rep g S H d v := by
 unfold atI at e ⊢
 rw [← h.length]
 cases q : ixN ds.length i with
 | none => rw [q] at e; cases e
 | some j =>
  rw [q] at e
  exact h.get e
/-! ### what a value shows: a cell's content for a cell -/
def vw (S : SS) : D → D
 | .obj a => match S a with
  | some (.lst ds) => .lst ds
  | some (.dic k) => .dic k
  | some (.loc k) => .dic k
  | _ => .obj a
 | d => d
/-- a value with what its cells show, n deep -/
def dv (S : SS) : Nat → D → D
 | 0, d => d
 | n + 1, d => match vw S d with
  | .lst ds => .lst (ds.map (dv S n))
  | .tup ds => .tup (ds.map (dv S n))
  | d => d
theorem vw_lst {d : D} {ds : List D} {v : V} (hc : CellsOk g S H) (r : Rep g S H d v) (e : vw S d = .lst ds) : ∃ p vs, v = .ref p ∧ SqL g.K H p vs ∧ Reps g S H ds vs := by
 cases d with
 | lst xs =>
  have e' : D.lst xs = .lst ds := e
  cases e'
  simp only [Rep] at r
  obtain ⟨p, vs, e1, a, b⟩ := r
  exact ⟨p, vs, e1, a.sq, b⟩
 | obj a =>
  simp only [Rep] at r
  have e' : (match S a with | some (.lst ds) => D.lst ds | some (.dic k) => .dic k | some (.loc k) => .dic k | _ => .obj a) = .lst ds := e
  cases q : S a with
  | none => rw [q] at e'; cases e'
  | some c =>
   rw [q] at e'
   cases c with
   | lst xs =>
    cases e'
    obtain ⟨vs, h1, h2⟩ := hc a _ q
    exact ⟨a, vs, r, .inl (.inl h1), h2⟩
   | _ => cases e'
 | _ => cases e
theorem vw_tup {d : D} {ds : List D} {v : V} (r : Rep g S H d v) (e : vw S d = .tup ds) : ∃ p vs, v = .ref p ∧ SqT g.K H p vs ∧ Reps g S H ds vs := by
 cases d with
 | tup xs =>
  have e' : D.tup xs = .tup ds := e
  cases e'
  simp only [Rep] at r
  obtain ⟨p, vs, e1, a, b⟩ := r
  exact ⟨p, vs, e1, a.sq, b⟩
 | obj a =>
  have e' : (match S a with | some (.lst ds) => D.lst ds | some (.dic k) => .dic k | some (.loc k) => .dic k | _ => .obj a) = .tup ds := e
  cases q : S a with
  | none => rw [q] at e'; cases e'
  | some c =>
   rw [q] at e'
   cases c <;> cases e'
 | _ => cases e
theorem vw_dic {d : D} {ds : List (Key × D)} {v : V} (hc : CellsOk g S H) (r : Rep g S H d v) (e : vw S d = .dic ds) : ∃ p vs, v = .ref p ∧ Rd H p (.dK vs) ∧ RepK g S H ds vs := by
 cases d with
 | dic xs =>
  have e' : D.dic xs = .dic ds := e
  cases e'
  simp only [Rep] at r
  obtain ⟨p, vs, e1, _, a, b⟩ := r
  exact ⟨p, vs, e1, .inl a, b⟩
 | obj a =>
  simp only [Rep] at r
  have e' : (match S a with | some (.lst ds) => D.lst ds | some (.dic k) => .dic k | some (.loc k) => .dic k | _ => .obj a) = .dic ds := e
  cases q : S a with
  | none => rw [q] at e'; cases e'
  | some c =>
   rw [q] at e'
   cases c with
   | dic xs =>
    cases e'
    obtain ⟨vs, h1, h2⟩ := hc a _ q
    exact ⟨a, vs, r, .inl h1, h2⟩
   | loc xs =>
    cases e'
    obtain ⟨vs, o, h1, h2⟩ := hc a _ q
    exact ⟨a, vs, r, .inr ⟨o, h1⟩, h2⟩
   | _ => cases e'
 | _ => cases e
theorem vw_sc {d x : D} {v : V} (r : Rep g S H d v) (e : vw S d = x) (h : ∀ ds, x ≠ .lst ds) (h2 : ∀ ds, x ≠ .dic ds) : Rep g S H x v := by
 cases d with
 | obj a =>
  have e' : (match S a with | some (.lst ds) => D.lst ds | some (.dic k) => .dic k | some (.loc k) => .dic k | _ => .obj a) = x := e
  cases q : S a with
  | none => rw [q] at e'; subst e'; exact r
  | some c =>
   rw [q] at e'
   cases c with
   | lst xs => subst e'; exact absurd rfl (h _)
   | dic xs => subst e'; exact absurd rfl (h2 _)
   | loc xs => subst e'; exact absurd rfl (h2 _)
   | ins _ _ => subst e'; exact r
 | _ => subst e; exact r
/-- what is to follow, told of values -/
def Res (g : Gd) (S : SS) (H : Hp) (K : DK) (Q : VK) : Prop := ∀ d S' v H', K d S' → Post S H S' H' → CellsOk g S' H' → Rep g S' H' d v → Q v H'
theorem Res.val {K : DK} {Q : VK} {d : D} {v : V} (r : Res g S H K Q) (k : K d S) (hc : CellsOk g S H) (h : Rep g S H d v) : Q v H := r d S v H k (Post.refl _ _) hc h
theorem Res.int {K : DK} {Q : VK} {i : Int} (r : Res g S H K Q) (k : K (.int i) S) (hc : CellsOk g S H) : Q (.int i) H := r.val k hc (by simp only [Rep])
theorem Res.bl {K : DK} {Q : VK} {i : Bool} (r : Res g S H K Q) (k : K (.bl i) S) (hc : CellsOk g S H) : Q (.bl i) H := r.val k hc (by simp only [Rep])
theorem Res.str {K : DK} {Q : VK} {i : Str} (r : Res g S H K Q) (k : K (.str i) S) (hc : CellsOk g S H) : Q (.str i) H := r.val k hc (by simp only [Rep])
theorem Res.non {K : DK} {Q : VK} (r : Res g S H K Q) (k : K .non S) (hc : CellsOk g S H) : Q .non H := r.val k hc (by simp only [Rep])
theorem Res.lst {K : DK} {Q : VK} {ds : List D} {vs : List V} {p : Addr} (r : Res g S H K Q) (k : K (.lst ds) S) (hc : CellsOk g S H) (h : Reps g S H ds vs) (e : H p = none) : Q (.ref p) (upd H p (.lst vs)) :=
 r _ S _ _ k (Post.new e) (hc.new e) (by simp only [Rep]; exact ⟨p, vs, rfl, .inl ⟨hc.free e, .inl upd_same⟩, h.mono (Post.new e)⟩)
theorem Res.tup {K : DK} {Q : VK} {ds : List D} {vs : List V} {p : Addr} (r : Res g S H K Q) (k : K (.tup ds) S) (hc : CellsOk g S H) (h : Reps g S H ds vs) (e : H p = none) : Q (.ref p) (upd H p (.tup vs)) :=
 r _ S _ _ k (Post.new e) (hc.new e) (by simp only [Rep]; exact ⟨p, vs, rfl, .inl ⟨hc.free e, upd_same⟩, h.mono (Post.new e)⟩)
theorem Res.dic {K : DK} {Q : VK} {ds : List (Key × D)} {vs : List (Key × V)} {p : Addr} (r : Res g S H K Q) (k : K (.dic ds) S) (hc : CellsOk g S H) (h : RepK g S H ds vs) (e : H p = none) : Q (.ref p) (upd H p (.dK vs)) :=
 r _ S _ _ k (Post.new e) (hc.new e) (by simp only [Rep]; exact ⟨p, vs, rfl, hc.free e, upd_same, h.mono (Post.new e)⟩)
theorem Res.lstC {K : DK} {Q : VK} {ds : List D} {vs : List V} {p : Addr} (r : Res g S H K Q) (k : ∀ p, S p = none → K (.obj p) (S.set p (.lst ds))) (hc : CellsOk g S H) (h : Reps g S H ds vs) (e : H p = none) : Q (.ref p) (upd H p (.lst vs)) :=
 r _ _ _ _ (k p (hc.free e)) (Post.newC e) (hc.newC e ⟨vs, upd_same, h.mono (Post.newC e)⟩) (by simp only [Rep])
theorem Res.dicC {K : DK} {Q : VK} {ds : List (Key × D)} {vs : List (Key × V)} {p : Addr} (r : Res g S H K Q) (k : ∀ p, S p = none → K (.obj p) (S.set p (.dic ds))) (hc : CellsOk g S H) (h : RepK g S H ds vs) (e : H p = none) : Q (.ref p) (upd H p (.dK vs)) :=
 r _ _ _ _ (k p (hc.free e)) (Post.newC e) (hc.newC e ⟨vs, upd_same, h.mono (Post.newC e)⟩) (by simp only [Rep])
/-- the operators' readings -/
def rD2 (g : Gd) (t : D → D → SS → DK → Prop) : R2 := fun v u H Q => ∃ x y S K, CellsOk g S H ∧ Rep g S H x v ∧ Rep g S H y u ∧ t x y S K ∧ Res g S H K Q
def rDc (g : Gd) (t : List D → SS → DK → Prop) : List V → Hp → VK → Prop := fun vs H Q => ∃ xs S K, CellsOk g S H ∧ Reps g S H xs vs ∧ t xs S K ∧ Res g S H K Q
def rDm (g : Gd) (t : D → List D → SS → DK → Prop) : V → List V → Hp → VK → Prop := fun v vs H Q => ∃ x xs S K, CellsOk g S H ∧ Rep g S H x v ∧ Reps g S H xs vs ∧ t x xs S K ∧ Res g S H K Q
end
/-! ### + - * // % ** -/
def opAdd (x y : D) (S : SS) (Q : DK) : Prop := match vw S x, vw S y with
 | .int i, .int j => Q (.int (i + j)) S
 | .str a, .str b => a.length + b.length ≤ sizeLine ∧ Q (.str (a ++ b)) S
 | .lst a, .lst b => a.length + b.length ≤ sizeLine ∧ Q (.lst (a ++ b)) S
 | .tup a, .tup b => a.length + b.length ≤ sizeLine ∧ Q (.tup (a ++ b)) S
 | _, _ => False
def opSub (x y : D) (S : SS) (Q : DK) : Prop := match x, y with
 | .int i, .int j => Q (.int (i - j)) S
 | _, _ => False
def opMul (x y : D) (S : SS) (Q : DK) : Prop := match x, y with
 | .int i, .int j => (CMul i j ∨ CMulW i j) ∧ Q (.int (i * j)) S
 | .lst xs, .int k => -(2 ^ 63) ≤ k ∧ k < 2 ^ 63 ∧ xs.length * k.toNat ≤ sizeLine ∧ Q (.lst (List.replicate k.toNat xs).flatten) S
 | _, _ => False
def opDiv (x y : D) (S : SS) (Q : DK) : Prop := match x, y with
 | .int i, .int j => CDivW i j ∧ Q (.int (i / j)) S
 | _, _ => False
def opMod (x y : D) (S : SS) (Q : DK) : Prop := match x, y with
 | .int i, .int j => 0 < j ∧ Q (.int (i % j)) S
 | _, _ => False
def opPow (x y : D) (S : SS) (Q : DK) : Prop := match x, y with
 | .int i, .int j => CPow i j ∧ Q (.int (i ^ j.toNat)) S
 | _, _ => False
def opD : Operator → D → D → SS → DK → Prop
 | .Add => opAdd | .Sub => opSub | .Mult => opMul | .FloorDiv => opDiv | .Mod => opMod | .Pow => opPow | _ => fun _ _ _ _ => False
section
variable {X : Cx} {g : Gd}
theorem op_catS : OpR X (binaryOp .Add) (fun x y H Q => ∃ l b xs zs, x = .ref l ∧ y = .ref b ∧ SqL X.K H l xs ∧ SqL X.K H b zs ∧ xs.length + zs.length ≤ sizeLine ∧ ∀ p, H p = none → Q (.ref p) (upd H p (.lst (xs ++ zs)))) := by
 intro pins s σ H x y v u Q I rx ry h
 obtain ⟨l, b, xs, zs, rfl, rfl, hl, hb, hz, q⟩ := h
 cases rx
 cases ry
 obtain ⟨its, r1, p1, z1⟩ := I.list hl
 obtain ⟨its2, r2, p2, z2⟩ := I.list hb
 obtain ⟨⟨cls, dd, data, sl⟩, n, ho, hc, hdd, hd⟩ := p1
 obtain ⟨⟨cls2, dd2, data2, sl2⟩, n2, ho2, hc2, hdd2, hd2⟩ := p2
 simp only at hc hd hc2 hd2
 subst hc hd hc2 hd2
 have e1 := r1.length
 have e2 := r2.length
 have e : its.toArray ++ its2.toArray = (its ++ its2).toArray := by simp
 refine PySem.concat_meets ⟨_, ho, rfl⟩ ⟨_, ho2, rfl⟩ PySem.noFill_list_add PySem.seq_list_add PySem.F.slot_list_add PySem.F.entry_list_add (PySem.F.args_list_add_2 _ _) (list_addW l b its.toArray its2.toArray n n2 dd dd2 sl sl2 (by simpa [← e1, ← e2] using hz)) ⟨ho, ho2, ?_⟩
 rw [e]
 exact ⟨.ref _, _, I.lnew (t' := s.toks) (r1.append r2) (by rw [List.length_append]; omega), rfl, q _ I.fresh⟩
/-- a list times an int, the list written or made -/
theorem op_mulL : OpR X (binaryOp .Mult) (fun x y H Q => ∃ l k xs, x = .ref l ∧ y = .int k ∧ SqL X.K H l xs ∧ -(2 ^ 63) ≤ k ∧ k < 2 ^ 63 ∧ xs.length * k.toNat ≤ sizeLine ∧ ∀ p, H p = none → Q (.ref p) (upd H p (.lst (List.replicate k.toNat xs).flatten))) := by
 intro pins s σ H x y v u Q I rx ry h
 obtain ⟨l, k, xs, rfl, rfl, hl, lo, hi, few, q⟩ := h
 cases rx
 obtain ⟨t, rfl⟩ := ry
 obtain ⟨its, rv, pl, z⟩ := I.list hl
 obtain ⟨⟨cls, dd, data, sl⟩, n, ho, hc, hdd, hd⟩ := pl
 simp only at hc hd
 subst hc hd
 have len := rv.length
 have few' : its.toArray.size * k.toNat ≤ sizeLine := by rw [List.size_toArray, ← len]; exact few
 have cap : (sizeLine : Nat) ≤ (2 ^ 63 - 1) / 8 := by decide
 have flat : List.foldl (fun x1 x2 => x1 ++ x2) #[] (List.replicate (if its.toArray.isEmpty = true then 0 else k.toNat) its.toArray) = (List.replicate k.toNat its).flatten.toArray := by
  have go : ∀ m : Nat, List.foldl (fun x1 x2 => x1 ++ x2) #[] (List.replicate m its.toArray) = (List.replicate m its).flatten.toArray := fun m => by
   have := foldl_rep its m []
   rwa [List.nil_append] at this
  rw [go]
  cases its with
  | nil => simp
  | cons a r => rw [if_neg (by simp)]
 refine wpAny_binaryOp_repeat_ref (T := "list") (U := "int") (by decide) ⟨_, ho, rfl⟩ (fun s' => typeIs_int s' k t) noFill_list_mul F.fills_int_mul F.slot_int_rmul repeat_list F.slot_int_index.lookup
  (call_meets F.slot_int_rmul (typeIs_int s k t) F.entry_int_rmul (F.args_int_rmul_2 _ _) (lm_int_rmul_list_any k t l its.toArray n dd sl)
   ⟨ho, rfl, ⟨_, ho, rfl⟩, call_meets F.slot_list_mul ⟨_, ho, rfl⟩ F.entry_list_mul (F.args_list_mul_2 _ _) (lm_list_mul_any l its.toArray n dd sl k t (by rw [fitsIndex_both lo hi]; exact Bool.false_ne_true) (by omega) (by rw [notLongL few']; exact Bool.false_ne_true)) ⟨ho, ?_⟩⟩)
 rw [flat]
 exact ⟨.ref _, _, I.lnew (t' := s.toks) (rv.rep k.toNat) (by rw [PyProof.Rows.lm_len_rep_flat, Nat.mul_comm]; exact few), rfl, q _ I.fresh⟩
theorem Reps.rep {g : Gd} {S : SS} {H : Hp} {ds : List D} {vs : List V} (h : Reps g S H ds vs) : ∀ k : Nat, Reps g S H (List.replicate k ds).flatten (List.replicate k vs).flatten
 | 0 => by simp only [List.replicate_zero, List.flatten_nil, Reps]
 | k + 1 => by
  rw [List.replicate_succ, List.replicate_succ, List.flatten_cons, List.flatten_cons]
  exact h.append (Reps.rep h k)
theorem rep_int {S : SS} {H : Hp} {i : Int} {v : V} (h : Rep g S H (.int i) v) : v = .int i := by simpa only [Rep] using h
theorem rep_bl {S : SS} {H : Hp} {i : Bool} {v : V} (h : Rep g S H (.bl i) v) : v = .bl i := by simpa only [Rep] using h
theorem rep_str {S : SS} {H : Hp} {i : Str} {v : V} (h : Rep g S H (.str i) v) : v = .str i := by simpa only [Rep] using h
theorem rep_non {S : SS} {H : Hp} {v : V} (h : Rep g S H .non v) : v = .non := by simpa only [Rep] using h
theorem rep_obj {S : SS} {H : Hp} {a : Addr} {v : V} (h : Rep g S H (.obj a) v) : v = .ref a := by simpa only [Rep] using h
theorem vw_int {S : SS} {H : Hp} {d : D} {i : Int} {v : V} (r : Rep g S H d v) (e : vw S d = .int i) : v = .int i := rep_int (vw_sc r e (fun _ z => nomatch z) (fun _ z => nomatch z))
theorem vw_bl {S : SS} {H : Hp} {d : D} {i : Bool} {v : V} (r : Rep g S H d v) (e : vw S d = .bl i) : v = .bl i := rep_bl (vw_sc r e (fun _ z => nomatch z) (fun _ z => nomatch z))
theorem vw_str {S : SS} {H : Hp} {d : D} {i : Str} {v : V} (r : Rep g S H d v) (e : vw S d = .str i) : v = .str i := rep_str (vw_sc r e (fun _ z => nomatch z) (fun _ z => nomatch z))
theorem vw_non {S : SS} {H : Hp} {d : D} {v : V} (r : Rep g S H d v) (e : vw S d = .non) : v = .non := rep_non (vw_sc r e (fun _ z => nomatch z) (fun _ z => nomatch z))
theorem opD_ok (hK : g.K = X.K) : ∀ op : Operator, OpR X (binaryOp op) (rD2 g (opD op)) := by
 intro op pins s σ H v1 v2 u1 u2 Q I r1 r2 h
 obtain ⟨x, y, S, K, hc, p1, p2, ht, res⟩ := h
 cases op with
 | Add =>
  change opAdd x y S K at ht
  unfold opAdd at ht
  split at ht
  ·rename_i i j e1 e2
   cases vw_int p1 e1
   cases vw_int p2 e2
   exact op_add pins s σ H _ _ _ _ Q I r1 r2 ⟨i, j, rfl, rfl, res.int ht hc⟩
  ·rename_i i j e1 e2
   cases vw_str p1 e1
   cases vw_str p2 e2
   exact op_add_str pins s σ H _ _ _ _ Q I r1 r2 ⟨i, j, rfl, rfl, ht.1, res.str ht.2 hc⟩
  ·rename_i i j e1 e2
   obtain ⟨p, vs, rfl, hl, hr⟩ := vw_lst hc p1 e1
   obtain ⟨q, us, rfl, hl2, hr2⟩ := vw_lst hc p2 e2
   rw [hK] at hl hl2
   exact op_catS pins s σ H _ _ _ _ Q I r1 r2 ⟨p, q, vs, us, rfl, rfl, hl, hl2, by rw [← hr.length, ← hr2.length]; exact ht.1, fun z hz => res.lst ht.2 hc (hr.append hr2) hz⟩
  ·rename_i i j e1 e2
   obtain ⟨p, vs, rfl, hl, hr⟩ := vw_tup p1 e1
   obtain ⟨q, us, rfl, hl2, hr2⟩ := vw_tup p2 e2
   have hl' := hl
   have hl2' := hl2
   rw [hK] at hl hl2
   have f1 : vw S x = x := by
    cases x with
    | tup _ => rfl
    | obj a =>
     have e' : (match S a with | some (.lst ds) => D.lst ds | some (.dic k) => .dic k | some (.loc k) => .dic k | _ => .obj a) = .tup i := e1
     cases q : S a with
     | none => rw [q] at e'; cases e'
     | some c => rw [q] at e'; cases c <;> cases e'
    | _ => cases e1
   have f2 : vw S y = y := by
    cases y with
    | tup _ => rfl
    | obj a =>
     have e' : (match S a with | some (.lst ds) => D.lst ds | some (.dic k) => .dic k | some (.loc k) => .dic k | _ => .obj a) = .tup j := e2
     cases q : S a with
     | none => rw [q] at e'; cases e'
     | some c => rw [q] at e'; cases c <;> cases e'
    | _ => cases e2
   have g1 : x = .tup i := f1.symm.trans e1
   have g2 : y = .tup j := f2.symm.trans e2
   subst g1 g2
   refine op_catA pins s σ H _ _ _ _ Q I r1 r2 ⟨p, q, vs, us, rfl, rfl, hl, hl2, by rw [← hr.length, ← hr2.length]; exact ht.1, fun z => ?_, fun _ z => ?_, fun _ _ a ha => res.tup ht.2 hc (hr.append hr2) ha⟩
   ·have hi : i = [] := by
     have e := hr.length
     rw [z] at e
     exact List.eq_nil_of_length_eq_zero e
    refine res.val (d := .tup (i ++ j)) ht.2 hc ?_
    rw [hi]
    exact p2
   ·have hi : j = [] := by
     have e := hr2.length
     rw [z] at e
     exact List.eq_nil_of_length_eq_zero e
    refine res.val (d := .tup (i ++ j)) ht.2 hc ?_
    rw [hi, List.append_nil]
    exact p1
  ·exact ht.elim
 | Sub =>
  change opSub x y S K at ht
  unfold opSub at ht
  split at ht
  ·rename_i i j
   cases rep_int p1
   cases rep_int p2
   exact op_sub pins s σ H _ _ _ _ Q I r1 r2 ⟨i, j, rfl, rfl, res.int ht hc⟩
  ·exact ht.elim
 | Mult =>
  change opMul x y S K at ht
  unfold opMul at ht
  split at ht
  ·rename_i i j
   cases rep_int p1
   cases rep_int p2
   rcases ht.1 with hm | hm
   ·exact op_mul pins s σ H _ _ _ _ Q I r1 r2 ⟨i, j, rfl, rfl, hm, res.int ht.2 hc⟩
   ·exact op_mulW pins s σ H _ _ _ _ Q I r1 r2 ⟨i, j, rfl, rfl, hm, res.int ht.2 hc⟩
  ·rename_i xs j
   cases rep_int p2
   obtain ⟨p, vs, rfl, hl, hr⟩ := vw_lst hc p1 rfl
   rw [hK] at hl
   exact op_mulL pins s σ H _ _ _ _ Q I r1 r2 ⟨p, j, vs, rfl, rfl, hl, ht.1, ht.2.1, by rw [← hr.length]; exact ht.2.2.1, fun z hz => res.lst ht.2.2.2 hc (hr.rep _) hz⟩
  ·exact ht.elim
 | FloorDiv =>
  change opDiv x y S K at ht
  unfold opDiv at ht
  split at ht
  ·rename_i i j
   cases rep_int p1
   cases rep_int p2
   exact op_fdivW pins s σ H _ _ _ _ Q I r1 r2 ⟨i, j, rfl, rfl, ht.1, res.int ht.2 hc⟩
  ·exact ht.elim
 | Mod =>
  change opMod x y S K at ht
  unfold opMod at ht
  split at ht
  ·rename_i i j
   cases rep_int p1
   cases rep_int p2
   exact op_mod pins s σ H _ _ _ _ Q I r1 r2 ⟨i, j, rfl, rfl, ht.1, res.int ht.2 hc⟩
  ·exact ht.elim
 | Pow =>
  change opPow x y S K at ht
  unfold opPow at ht
  split at ht
  ·rename_i i j
   cases rep_int p1
   cases rep_int p2
   exact op_pow pins s σ H _ _ _ _ Q I r1 r2 ⟨i, j, rfl, rfl, ht.1, res.int ht.2 hc⟩
  ·exact ht.elim
 | _ => exact False.elim ht
end
/-! ### == -/
mutual
def D.py : D → PyData
 | .non => .none | .bl b => .bool b | .int i => .int i | .str x => .str x
 | .lst xs => .list (D.pys xs) | .tup xs => .tuple (D.pys xs)
 | _ => .none
def D.pys : List D → List PyData
 | [] => [] | d :: ds => D.py d :: D.pys ds
end
/-! data that == tells apart, at most n deep -/
mutual
def D.okd : Nat → D → Bool
 | _, .non => true | _, .bl _ => true | _, .int _ => true | _, .str x => PyData.strOk x
 | n, .lst xs => decide (0 < n) && D.okds (n - 1) xs
 | n, .tup xs => decide (0 < n) && D.okds (n - 1) xs
 | _, _ => false
def D.okds : Nat → List D → Bool
 | _, [] => true | n, d :: ds => D.okd n d && D.okds n ds
end
mutual
theorem okd_lay : ∀ (d : D) (n : Nat), D.okd n d = true → d.py.canLay0 = true ∧ d.py.depth ≤ n
 | .non, n, _ => by simp [D.py, PyData.canLay0, PyData.depth]
 | .bl _, n, _ => by simp [D.py, PyData.canLay0, PyData.depth]
 | .int _, n, _ => by simp [D.py, PyData.canLay0, PyData.depth]
 | .str _, n, h => by simpa [D.py, PyData.canLay0, PyData.depth, D.okd] using h
 | .lst xs, n, h => by
  simp only [D.okd, Bool.and_eq_true, decide_eq_true_eq] at h
  have q := okds_lay xs (n - 1) h.2
  simp only [D.py, PyData.canLay0, PyData.depth]
  exact ⟨q.1, by omega⟩
 | .tup xs, n, h => by
  simp only [D.okd, Bool.and_eq_true, decide_eq_true_eq] at h
  have q := okds_lay xs (n - 1) h.2
  simp only [D.py, PyData.canLay0, PyData.depth]
  exact ⟨q.1, by omega⟩
 | .dic _, n, h => by simp [D.okd] at h
 | .obj _, n, h => by simp [D.okd] at h
 | .exc _ _ _ _, n, h => by simp [D.okd] at h
 | .err _ _ _ _, n, h => by simp [D.okd] at h
theorem okds_lay : ∀ (ds : List D) (n : Nat), D.okds n ds = true → PyData.canLayAll0 (D.pys ds) = true ∧ PyData.depthAll (D.pys ds) ≤ n
 | [], n, _ => by simp [D.pys, PyData.canLayAll0, PyData.depthAll]
 | d :: ds, n, h => by
  simp only [D.okds, Bool.and_eq_true] at h
  have q := okd_lay d n h.1
  have q2 := okds_lay ds n h.2
  simp only [D.pys, PyData.canLayAll0, PyData.depthAll, Bool.and_eq_true]
  exact ⟨⟨q.1, q2.1⟩, by omega⟩
end
section
variable {X : Cx} {g : Gd} {S : SS} {H : Hp}
mutual
theorem dp_of : ∀ {d : D} {v : V} (n : Nat), D.okd n d = true → Rep g S H d v → Dp g.K H v d.py
 | .non, _, n, _, r => by simp only [Rep] at r; subst r; exact .non
 | .bl _, _, n, _, r => by simp only [Rep] at r; subst r; exact .bl _
 | .int _, _, n, _, r => by simp only [Rep] at r; subst r; exact .int _
 | .str _, _, n, _, r => by simp only [Rep] at r; subst r; exact .str _
 | .lst xs, _, n, h, r => by
  simp only [D.okd, Bool.and_eq_true] at h
  simp only [Rep] at r
  obtain ⟨p, vs, rfl, a, b⟩ := r
  exact .lst a.sq (dps_of (n - 1) h.2 b)
 | .tup xs, _, n, h, r => by
  simp only [D.okd, Bool.and_eq_true] at h
  simp only [Rep] at r
  obtain ⟨p, vs, rfl, a, b⟩ := r
  exact .tup a.sq (dps_of (n - 1) h.2 b)
 | .dic _, _, n, h, _ => by simp [D.okd] at h
 | .obj _, _, n, h, _ => by simp [D.okd] at h
 | .exc _ _ _ _, _, n, h, _ => by simp [D.okd] at h
 | .err _ _ _ _, _, n, h, _ => by simp [D.okd] at h
theorem dps_of : ∀ {ds : List D} {vs : List V} (n : Nat), D.okds n ds = true → Reps g S H ds vs → DpAll g.K H vs (D.pys ds)
 | [], _, n, _, r => by simp only [Reps] at r; subst r; exact .nil
 | d :: ds, _, n, h, r => by
  simp only [D.okds, Bool.and_eq_true] at h
  simp only [Reps] at r
  obtain ⟨v, q, rfl, a, b⟩ := r
  exact .cons (dp_of n h.1 a) (dps_of n h.2 b)
end
theorem dp_vw {d x : D} {v : V} (hc : CellsOk g S H) (r : Rep g S H d v) (e : vw S d = x) (h : D.okd 60 x = true) : Dp g.K H v x.py := by
 cases x with
 | lst ds =>
  obtain ⟨p, vs, rfl, hl, hr⟩ := vw_lst hc r e
  simp only [D.okd, Bool.and_eq_true] at h
  exact .lst hl (dps_of _ h.2 hr)
 | tup ds =>
  obtain ⟨p, vs, rfl, hl, hr⟩ := vw_tup r e
  simp only [D.okd, Bool.and_eq_true] at h
  exact .tup hl (dps_of _ h.2 hr)
 | dic ds => simp [D.okd] at h
 | obj a => simp [D.okd] at h
 | exc _ _ _ _ => simp [D.okd] at h
 | err _ _ _ _ => simp [D.okd] at h
 | non => exact dp_of 60 h (vw_sc r e (fun _ z => nomatch z) (fun _ z => nomatch z))
 | bl _ => exact dp_of 60 h (vw_sc r e (fun _ z => nomatch z) (fun _ z => nomatch z))
 | int _ => exact dp_of 60 h (vw_sc r e (fun _ z => nomatch z) (fun _ z => nomatch z))
 | str _ => exact dp_of 60 h (vw_sc r e (fun _ z => nomatch z) (fun _ z => nomatch z))
theorem dp_dv (hc : CellsOk g S H) : ∀ (n : Nat) {d : D} {v : V} (m : Nat), D.okd m (dv S n d) = true → Rep g S H d v → Dp g.K H v (dv S n d).py
  | 0, d, v, m, h, r => dp_of m h r
  | n + 1, d, v, m, h, r => by
    have all : ∀ (ds : List D) {vs : List V} (m : Nat), D.okds m (ds.map (dv S n)) = true → Reps g S H ds vs → DpAll g.K H vs (D.pys (ds.map (dv S n))) := by
      intro ds
      induction ds with
      | nil =>
        intro vs m _ r
        simp only [Reps] at r
        subst r
        exact .nil
      | cons d ds ih =>
        intro vs m h r
        simp only [List.map_cons, D.okds, Bool.and_eq_true] at h
        simp only [Reps] at r
        obtain ⟨v, q, rfl, a, b⟩ := r
        exact .cons (dp_dv hc n m h.1 a) (ih m h.2 b)
    cases e : vw S d with
    | lst ds =>
      have ed : dv S (n + 1) d = .lst (ds.map (dv S n)) := by simp only [dv, e]
      rw [ed] at h ⊢
      obtain ⟨p, vs, rfl, hl, hr⟩ := vw_lst hc r e
      simp only [D.okd, Bool.and_eq_true] at h
      exact .lst hl (all ds _ h.2 hr)
    | tup ds =>
      have ed : dv S (n + 1) d = .tup (ds.map (dv S n)) := by simp only [dv, e]
      rw [ed] at h ⊢
      obtain ⟨p, vs, rfl, hl, hr⟩ := vw_tup r e
      simp only [D.okd, Bool.and_eq_true] at h
      exact .tup hl (all ds _ h.2 hr)
    | dic ds => have ed : dv S (n + 1) d = .dic ds := by simp only [dv, e]
                rw [ed] at h; simp [D.okd] at h
    | obj a => have ed : dv S (n + 1) d = .obj a := by simp only [dv, e]
               rw [ed] at h; simp [D.okd] at h
    | exc a b c x => have ed : dv S (n + 1) d = .exc a b c x := by simp only [dv, e]
                     rw [ed] at h; simp [D.okd] at h
    | err a b c x => have ed : dv S (n + 1) d = .err a b c x := by simp only [dv, e]
                     rw [ed] at h; simp [D.okd] at h
    | non => have ed : dv S (n + 1) d = .non := by simp only [dv, e]
             rw [ed] at h ⊢; exact dp_of m h (vw_sc r e (fun _ z => nomatch z) (fun _ z => nomatch z))
    | bl x => have ed : dv S (n + 1) d = .bl x := by simp only [dv, e]
              rw [ed] at h ⊢; exact dp_of m h (vw_sc r e (fun _ z => nomatch z) (fun _ z => nomatch z))
    | int x => have ed : dv S (n + 1) d = .int x := by simp only [dv, e]
               rw [ed] at h ⊢; exact dp_of m h (vw_sc r e (fun _ z => nomatch z) (fun _ z => nomatch z))
    | str x => have ed : dv S (n + 1) d = .str x := by simp only [dv, e]
               rw [ed] at h ⊢; exact dp_of m h (vw_sc r e (fun _ z => nomatch z) (fun _ z => nomatch z))
theorem shaped_of {d : D} (h : D.okd 60 d = true) : SeqAt.shaped d.py = true := by
 have q := okd_lay d 60 h
 unfold SeqAt.shaped
 rw [q.1, decide_eq_true (by omega : d.py.depth ≤ 64)]
 rfl
end
def D.eqv (x y : D) : Bool := PyData.eqv x.py y.py
/-! ### comparisons -/
def cEq (neg : Bool) (x y : D) (S : SS) (Q : DK) : Prop := (D.okd 60 (vw S x) = true ∧ D.okd 60 (vw S y) = true ∧ Q (.bl (neg ^^ D.eqv (vw S x) (vw S y))) S) ∨ (∃ a b, x = .str a ∧ y = .str b ∧ Q (.bl (neg ^^ decide (a = b))) S) ∨ (D.okd 60 (dv S 60 x) = true ∧ D.okd 60 (dv S 60 y) = true ∧ Q (.bl (neg ^^ D.eqv (dv S 60 x) (dv S 60 y))) S) ∨ (∃ p kvs, x = .obj p ∧ S p = some (.dic kvs) ∧ y = .dic [] ∧ Q (.bl (neg ^^ kvs.isEmpty)) S)
def cLt (f : Int → Int → Bool) (h : List Nat → List Nat → Bool) (x y : D) (S : SS) (Q : DK) : Prop := match x, y with
 | .int i, .int j => Q (.bl (f i j)) S
 | .str a, .str b => Q (.bl (h a.cps.toList b.cps.toList)) S
 | _, _ => False
def keyD : D → Option Key
 | .int i => some (.inl i) | .str x => some (.inr x) | _ => none
def valD (kvs : List (Key × D)) (k : Key) : Option D := (kvs.find? fun kv => decide (kv.1 = k)).map (·.2)
def putD (kvs : List (Key × D)) (k : Key) (v : D) : List (Key × D) :=
 if (kvs.any fun kv => decide (kv.1 = k)) = true then kvs.map fun kv => if kv.1 = k then (kv.1, v) else kv else kvs ++ [(k, v)]
def dropD (kvs : List (Key × D)) (k : Key) : List (Key × D) := kvs.filter fun kv => decide (kv.1 ≠ k)
def cIn (neg : Bool) (x y : D) (S : SS) (Q : DK) : Prop := match vw S y with
 | .lst ds => D.okd 60 (vw S x) = true ∧ D.okds 59 ds = true ∧ Q (.bl (neg ^^ ds.any fun z => D.eqv z (vw S x))) S
 | .tup ds => (∃ z, x = .str z ∧ ∃ zs : List Str, ds = zs.map D.str ∧ Q (.bl (neg ^^ zs.any fun y => y == z)) S) ∨ (∃ z, x = .int z ∧ ∃ zs : List Int, ds = zs.map D.int ∧ Q (.bl (neg ^^ zs.any fun y => y == z)) S)
 | .str b => match x with
  | .str a => a.length = 1 ∧ Q (.bl (neg ^^ decide (a.cps.getD 0 0 ∈ b.cps.toList))) S
  | _ => False
 | .dic kvs => ∃ k, keyD x = some k ∧ Q (.bl (neg ^^ (valD kvs k).isSome)) S
 | _ => False
def isNon : D → Bool
 | .non => true | _ => false
def cIs (neg : Bool) (x y : D) (S : SS) (Q : DK) : Prop := match y with
 | .non => Q (.bl (neg ^^ isNon x)) S
 | _ => False
def cmpD : CmpOp → D → D → SS → DK → Prop
 | .Eq => cEq false | .NotEq => cEq true
 | .Lt => cLt (fun i j => decide (i < j)) (fun a b => decide (a < b)) | .LtE => cLt (fun i j => decide (i ≤ j)) (fun a b => !decide (b < a))
 | .Gt => cLt (fun i j => decide (j < i)) (fun a b => decide (b < a)) | .GtE => cLt (fun i j => decide (j ≤ i)) (fun a b => !decide (a < b))
 | .In => cIn false | .NotIn => cIn true | .Is => cIs false | .IsNot => cIs true
section
variable {X : Cx} {g : Gd} {S : SS} {H : Hp}
theorem valK_of {ds : List (Key × D)} {vs : List (Key × V)} (h : RepK g S H ds vs) (k : Key) : (valD ds k = none ∧ valV vs k = none) ∨ ∃ d v, valD ds k = some d ∧ valV vs k = some v ∧ Rep g S H d v := by
 have q := rpk_of h
 clear h
 induction q with
 | nil => exact .inl ⟨rfl, rfl⟩
 | @cons x y l l2 r _ ih =>
  obtain ⟨k1, d1⟩ := x
  obtain ⟨k2, v2⟩ := y
  obtain ⟨e, r⟩ := r
  cases e
  by_cases z : k1 = k
  ·refine .inr ⟨d1, v2, ?_, valV_pos z, r⟩
   simp [valD, List.find?_cons, z]
  ·have e1 : valD ((k1, d1) :: l) k = valD l k := by simp [valD, List.find?_cons, z]
   rw [e1, valV_neg z]
   exact ih
theorem valK_some {ds : List (Key × D)} {vs : List (Key × V)} (h : RepK g S H ds vs) (k : Key) : (valV vs k).isSome = (valD ds k).isSome := by
 rcases valK_of h k with ⟨a, b⟩ | ⟨d, v, a, b, _⟩ <;> rw [a, b] <;> rfl
theorem putK_of {ds : List (Key × D)} {vs : List (Key × V)} (h : RepK g S H ds vs) (k : Key) {d : D} {v : V} (r : Rep g S H d v) : RepK g S H (putD ds k d) (putK vs k v) := by
 have q := rpk_of h
 refine of_rpk ?_
 have ea : (ds.any fun kv => decide (kv.1 = k)) = (vs.any fun kv => decide (kv.1 = k)) := by
  clear h
  induction q with
  | nil => rfl
  | cons r _ ih => rw [List.any_cons, List.any_cons, ih, r.1]
 unfold putD putK
 rw [ea]
 split
 ·rename_i hz
  clear h ea hz
  induction q with
  | nil => exact .nil
  | @cons x y l l2 r1 _ ih =>
   rw [List.map_cons, List.map_cons]
   refine .cons ?_ ih
   obtain ⟨k1, d1⟩ := x
   obtain ⟨k2, v2⟩ := y
   obtain ⟨e, r1⟩ := r1
   cases e
   dsimp only
   split <;> rename_i z
   ·exact ⟨rfl, r⟩
   ·exact ⟨rfl, r1⟩
 ·exact pz_append q (.cons ⟨rfl, r⟩ .nil)
end
end Sv
/-! Sv3: comparisons, subscripts, len on values. -/
namespace Sv
open PySem PySem.Spec PyProof.Rows L2
def flatD : D → Bool
 | .non => true | .bl _ => true | .int _ => true | .str _ => true | _ => false
section
variable {X : Cx} {g : Gd} {S : SS} {H : Hp}
theorem rep_flat {d : D} {v : V} (h : flatD d = true) (r : Rep g S H d v) : flatV v = true := by
 cases d <;> simp only [Rep] at r <;> first | (subst r; rfl) | cases h
theorem rep_flats : ∀ {ds : List D} {vs : List V}, ds.all flatD = true → Reps g S H ds vs → vs.all flatV = true
 | [], _, _, r => by simp only [Reps] at r; subst r; rfl
 | d :: ds, _, h, r => by
  simp only [Reps] at r
  obtain ⟨v, q, rfl, a, b⟩ := r
  rw [List.all_cons, Bool.and_eq_true] at h
  rw [List.all_cons, rep_flat h.1 a, rep_flats h.2 b]; rfl
theorem eqV_rep {d e : D} {v u : V} (h : flatD d = true) (h2 : flatD e = true) (r : Rep g S H d v) (r2 : Rep g S H e u) : eqV v u = D.eqv d e := by
 cases d <;> (first | (cases h; done) | skip) <;> cases e <;> (first | (cases h2; done) | skip) <;> simp only [Rep] at r r2 <;> subst r r2 <;> simp [eqV, D.eqv, D.py, PyData.eqv]
theorem inV_rep {x : D} {u : V} (h : flatD x = true) (rx : Rep g S H x u) : ∀ {ds : List D} {vs : List V}, ds.all flatD = true → Reps g S H ds vs → inV u vs = ds.any fun z => D.eqv z x
 | [], _, _, r => by simp only [Reps] at r; subst r; rfl
 | d :: ds, _, hd, r => by
  simp only [Reps] at r
  obtain ⟨v, q, rfl, a, b⟩ := r
  rw [List.all_cons, Bool.and_eq_true] at hd
  have ih := inV_rep h rx hd.2 b
  unfold inV at ih ⊢
  rw [List.any_cons, List.any_cons, ih, eqV_rep hd.1 h a rx]
theorem isNon_rep {d : D} {v : V} (r : Rep g S H d v) : decide (v = .non) = isNon d := by
 cases d with
 | non => simp only [Rep] at r; subst r; rfl
 | bl _ => simp only [Rep] at r; subst r; rfl
 | int _ => simp only [Rep] at r; subst r; rfl
 | str _ => simp only [Rep] at r; subst r; rfl
 | obj _ => simp only [Rep] at r; subst r; rfl
 | lst _ => simp only [Rep] at r; obtain ⟨_, _, rfl, _⟩ := r; rfl
 | tup _ => simp only [Rep] at r; obtain ⟨_, _, rfl, _⟩ := r; rfl
 | dic _ => simp only [Rep] at r; obtain ⟨_, _, rfl, _⟩ := r; rfl
 | exc _ _ _ _ => simp only [Rep] at r; obtain ⟨_, rfl, _⟩ := r; rfl
 | err _ _ _ _ => simp only [Rep] at r; obtain ⟨_, rfl, _⟩ := r; rfl
theorem rep_key {d : D} {k : Key} {v : V} (e : keyD d = some k) (r : Rep g S H d v) : v = kV k := by
 cases d <;> first | (cases e; done) | skip
 ·simp only [Rep] at r; cases e; exact r
 ·simp only [Rep] at r; cases e; exact r
theorem vw_tupE {d : D} {ds : List D} (e : vw S d = .tup ds) : d = .tup ds := by
 cases d with
 | tup _ => exact e
 | obj a =>
  have e' : (match S a with | some (.lst ds) => D.lst ds | some (.dic k) => .dic k | some (.loc k) => .dic k | _ => .obj a) = .tup ds := e
  cases q : S a with
  | none => rw [q] at e'; cases e'
  | some c => rw [q] at e'; cases c <;> cases e'
 | _ => cases e
end
def cIn2 (neg : Bool) (x y : D) (S : SS) (Q : DK) : Prop := match vw S y with
 | .lst ds => D.okd 60 (vw S x) = true ∧ D.okds 59 ds = true ∧ Q (.bl (neg ^^ ds.any fun z => D.eqv z (vw S x))) S
 | .tup ds => (flatD x = true ∧ ds.all flatD = true ∧ Q (.bl (neg ^^ ds.any fun z => D.eqv z x)) S) ∨ (D.okd 60 (vw S x) = true ∧ D.okds 59 ds = true ∧ Q (.bl (neg ^^ ds.any fun z => D.eqv z (vw S x))) S)
 | .str b => match x with
  | .str a => ∃ c, a = ⟨#[c]⟩ ∧ Q (.bl (neg ^^ decide (c ∈ b.cps.toList))) S
  | _ => False
 | .dic kvs => ∃ k, keyD x = some k ∧ Q (.bl (neg ^^ (valD kvs k).isSome)) S
 | _ => False
/-- tuples of numbers, place by place -/
def cLtT (x y : D) (S : SS) (Q : DK) : Prop := ∃ ns ms : List Int, x = .tup (ns.map D.int) ∧ y = .tup (ms.map D.int) ∧ Q (.bl (HT.lexLt ns ms)) S
def cmpE : CmpOp → D → D → SS → DK → Prop
 | .In => cIn2 false | .NotIn => cIn2 true | .Lt => fun x y S Q => cmpD .Lt x y S Q ∨ cLtT x y S Q | o => cmpD o
section
variable {X : Cx} {g : Gd}
theorem cLt_ok {op : CmpOp} {f : Int → Int → Bool} {h : List Nat → List Nat → Bool} (hi : OpR X (compareOp op) (rI0 fun i j => .bl (f i j)))
  (hs : OpR X (compareOp op) (fun x y H Q => ∃ i j, x = .str i ∧ y = .str j ∧ Q (.bl (h i.cps.toList j.cps.toList)) H)) : OpR X (compareOp op) (rD2 g (cLt f h)) := by
 intro pins s σ H v1 v2 u1 u2 Q I r1 r2 hh
 obtain ⟨x, y, S, K, hc, p1, p2, ht, res⟩ := hh
 unfold cLt at ht
 split at ht
 ·cases rep_int p1
  cases rep_int p2
  exact hi pins s σ H _ _ _ _ Q I r1 r2 ⟨_, _, rfl, rfl, res.bl ht hc⟩
 ·cases rep_str p1
  cases rep_str p2
  exact hs pins s σ H _ _ _ _ Q I r1 r2 ⟨_, _, rfl, rfl, res.bl ht hc⟩
 ·exact ht.elim
theorem reps_nums {S : SS} {H : Hp} : ∀ (ns : List Int) {vs : List V}, Reps g S H (ns.map D.int) vs → vs = ns.map V.int
 | [], _, r => by simp only [List.map_nil, Reps] at r; exact r
 | n :: ns, _, r => by
  simp only [List.map_cons, Reps] at r
  obtain ⟨v, q, rfl, one, more⟩ := r
  rw [rep_int one, reps_nums ns more, List.map_cons]
/-- a dict beside an empty one -/
theorem hits_nil {X : Cx} {A : Around} {s : Shared} {ks : List (Key × V)} {va vb : List (Key × Value)} (ra : KV ks va) (rb : KV [] vb) (e : va.length = vb.length) : PySem.W.KeqHits A s vb va true := by
 cases rb
 cases ra with
 | nil => exact .nil
 | cons _ _ => cases e
theorem vw_c0 {S : SS} {b : Addr} {l : List (Key × D)} (h : S b = some (.dic l)) : vw S (.obj b) = .dic l := by simp only [vw, h]
theorem op_eq_nil {X : Cx} (hu : X.A.units < cLine) : OpR X (compareOp .Eq) (fun x y H Q => ∃ a b ks, x = .ref a ∧ y = .ref b ∧ Rd H a (.dK ks) ∧ Rd H b (.dK []) ∧ Q (.bl (ks : List (Key × V)).isEmpty) H) := by
 intro pins s σ H x y v u Q I rx ry h
 obtain ⟨a, b, ks, rfl, rfl, ea, eb, q⟩ := h
 obtain rfl : v = Value.ref a := rx
 obtain rfl : u = Value.ref b := ry
 obtain ⟨_, ya, va, ra, da⟩ := dk_rd I.hok ea
 obtain ⟨_, yb, vb, rb, db⟩ := dk_rd I.hok eb
 have e1 : ks.length = va.length := ra.length
 have e2 : 0 = vb.length := rb.length
 exact PySem.W.keq_eq (knd := mixKind X.prog X.w) (r := true) ya yb da db hu (fun e => hits_nil (X := X) ra rb e) (fin_bl I q (by rw [← e1, ← e2]; cases ks <;> simp))
theorem op_ne_nil {X : Cx} (hu : X.A.units < cLine) : OpR X (compareOp .NotEq) (fun x y H Q => ∃ a b ks, x = .ref a ∧ y = .ref b ∧ Rd H a (.dK ks) ∧ Rd H b (.dK []) ∧ Q (.bl (!(ks : List (Key × V)).isEmpty)) H) := by
 intro pins s σ H x y v u Q I rx ry h
 obtain ⟨a, b, ks, rfl, rfl, ea, eb, q⟩ := h
 obtain rfl : v = Value.ref a := rx
 obtain rfl : u = Value.ref b := ry
 obtain ⟨_, ya, va, ra, da⟩ := dk_rd I.hok ea
 obtain ⟨_, yb, vb, rb, db⟩ := dk_rd I.hok eb
 have e1 : ks.length = va.length := ra.length
 have e2 : 0 = vb.length := rb.length
 exact PySem.W.keq_ne (knd := mixKind X.prog X.w) (r := true) ya yb da db hu (fun e => hits_nil (X := X) ra rb e) (fin_bl I q (by rw [← e1, ← e2]; cases ks <;> simp))
theorem op_inT (hu : X.A.units + 65 < cLine) : OpR X (compareOp .In) (fun x y H Q => ∃ d ds, Dp X.K H x d ∧ Dp X.K H y (.tuple ds) ∧ SeqAt.shaped d = true ∧ SeqAt.shaped (.tuple ds) = true ∧ Q (.bl ((ds.any fun z => PyData.eqv z d))) H) := by
 intro pins s σ H x y v u Q I rx ry h
 obtain ⟨d, ds, hd, he, sd, se, q⟩ := h
 obtain ⟨as, r1⟩ := Dp.reads I d x v hd rx
 obtain ⟨bs, r2⟩ := Dp.reads I (.tuple ds) y u he ry
 exact SeqAt.in_tuple_reads r2 r1 (SeqAt.canLay_of_shaped se) (SeqAt.canLay_of_shaped sd) (room_in_shaped sd hu) ⟨.bl _, H, I, rfl, q⟩
theorem op_notInT (hu : X.A.units + 65 < cLine) : OpR X (compareOp .NotIn) (fun x y H Q => ∃ d ds, Dp X.K H x d ∧ Dp X.K H y (.tuple ds) ∧ SeqAt.shaped d = true ∧ SeqAt.shaped (.tuple ds) = true ∧ Q (.bl (!(ds.any fun z => PyData.eqv z d))) H) := by
 intro pins s σ H x y v u Q I rx ry h
 obtain ⟨d, ds, hd, he, sd, se, q⟩ := h
 obtain ⟨as, r1⟩ := Dp.reads I d x v hd rx
 obtain ⟨bs, r2⟩ := Dp.reads I (.tuple ds) y u he ry
 exact SeqAt.notIn_tuple_reads r2 r1 (SeqAt.canLay_of_shaped se) (SeqAt.canLay_of_shaped sd) (room_in_shaped sd hu) ⟨.bl _, H, I, rfl, q⟩
theorem cmpE_ok (hK : g.K = X.K) (hu : X.A.units + 65 < cLine) : ∀ op : CmpOp, OpR X (compareOp op) (rD2 g (cmpE op)) := by
 intro op
 cases op with
 | Eq =>
  intro pins s σ H v1 v2 u1 u2 Q I r1 r2 ⟨x, y, S, K, hc, p1, p2, ht, res⟩
  rcases ht with ⟨o1, o2, k⟩ | ⟨a, b, rfl, rfl, k⟩ | ⟨o1, o2, k⟩ | ⟨p, kvs, rfl, hp, rfl, k⟩
  case inr.inr.inr =>
   obtain ⟨p', vs, rfl, hl, hr⟩ := vw_dic hc p1 (vw_c0 hp)
   obtain ⟨b', ws, rfl, hl2, hr2⟩ := vw_dic hc p2 rfl
   have ew : ws = [] := by simpa only [RepK] using hr2
   subst ew
   have es : vs.isEmpty = kvs.isEmpty := by cases rpk_of hr <;> rfl
   rw [Bool.false_xor, ← es] at k
   exact op_eq_nil (by omega) pins s σ H _ _ _ _ Q I r1 r2 ⟨p', b', vs, rfl, rfl, hl, hl2, res.bl k hc⟩
  case inr.inr.inl =>
   rw [Bool.false_xor] at k
   exact op_eqD (by omega) pins s σ H _ _ _ _ Q I r1 r2 ⟨_, _, hK ▸ dp_dv hc 60 60 o1 p1, hK ▸ dp_dv hc 60 60 o2 p2, shaped_of o1, shaped_of o2, res.bl k hc⟩
  case inr.inl =>
   cases rep_str p1
   cases rep_str p2
   rw [Bool.false_xor] at k
   exact op_eq pins s σ H _ _ _ _ Q I r1 r2 ⟨rfl, by rw [show decide (V.str a = V.str b) = decide (a = b) from decide_eq_decide.mpr ⟨fun h => by cases h; rfl, fun h => by rw [h]⟩]; exact res.bl k hc⟩
  rw [Bool.false_xor] at k
  exact op_eqD (by omega) pins s σ H _ _ _ _ Q I r1 r2 ⟨_, _, hK ▸ dp_vw hc p1 rfl o1, hK ▸ dp_vw hc p2 rfl o2, shaped_of o1, shaped_of o2, res.bl k hc⟩
 | NotEq =>
  intro pins s σ H v1 v2 u1 u2 Q I r1 r2 ⟨x, y, S, K, hc, p1, p2, ht, res⟩
  rcases ht with ⟨o1, o2, k⟩ | ⟨a, b, rfl, rfl, k⟩ | ⟨o1, o2, k⟩ | ⟨p, kvs, rfl, hp, rfl, k⟩
  case inr.inr.inr =>
   obtain ⟨p', vs, rfl, hl, hr⟩ := vw_dic hc p1 (vw_c0 hp)
   obtain ⟨b', ws, rfl, hl2, hr2⟩ := vw_dic hc p2 rfl
   have ew : ws = [] := by simpa only [RepK] using hr2
   subst ew
   have es : vs.isEmpty = kvs.isEmpty := by cases rpk_of hr <;> rfl
   rw [Bool.true_xor, ← es] at k
   exact op_ne_nil (by omega) pins s σ H _ _ _ _ Q I r1 r2 ⟨p', b', vs, rfl, rfl, hl, hl2, res.bl k hc⟩
  case inr.inr.inl =>
   rw [Bool.true_xor] at k
   exact op_neD (by omega) pins s σ H _ _ _ _ Q I r1 r2 ⟨_, _, hK ▸ dp_dv hc 60 60 o1 p1, hK ▸ dp_dv hc 60 60 o2 p2, shaped_of o1, shaped_of o2, res.bl k hc⟩
  case inr.inl =>
   cases rep_str p1
   cases rep_str p2
   rw [Bool.true_xor] at k
   exact op_ne pins s σ H _ _ _ _ Q I r1 r2 ⟨rfl, by rw [show decide (V.str a = V.str b) = decide (a = b) from decide_eq_decide.mpr ⟨fun h => by cases h; rfl, fun h => by rw [h]⟩]; exact res.bl k hc⟩
  rw [Bool.true_xor] at k
  exact op_neD (by omega) pins s σ H _ _ _ _ Q I r1 r2 ⟨_, _, hK ▸ dp_vw hc p1 rfl o1, hK ▸ dp_vw hc p2 rfl o2, shaped_of o1, shaped_of o2, res.bl k hc⟩
 | Lt =>
  intro pins s σ H v1 v2 u1 u2 Q I r1 r2 ⟨x, y, S, K, hc, p1, p2, ht, res⟩
  rcases ht with ht | ⟨ns, ms, rfl, rfl, k⟩
  ·exact cLt_ok (f := fun i j => decide (i < j)) (h := fun a b => decide (a < b)) op_lt op_lt_str pins s σ H v1 v2 u1 u2 Q I r1 r2 ⟨x, y, S, K, hc, p1, p2, ht, res⟩
  ·obtain ⟨a, vs, rfl, hl, hr⟩ := vw_tup p1 rfl
   obtain ⟨b, ws, rfl, hl2, hr2⟩ := vw_tup p2 rfl
   have e1 := reps_nums ns hr
   have e2 := reps_nums ms hr2
   subst e1 e2
   exact op_ltT (by omega) pins s σ H _ _ _ _ Q I r1 r2 ⟨a, b, ns, ms, rfl, rfl, hK ▸ hl, hK ▸ hl2, res.bl k hc⟩
 | LtE => exact cLt_ok (f := fun i j => decide (i ≤ j)) (h := fun a b => !decide (b < a)) op_le op_le_str
 | Gt => exact cLt_ok (f := fun i j => decide (j < i)) (h := fun a b => decide (b < a)) op_gt op_gt_str
 | GtE => exact cLt_ok (f := fun i j => decide (j ≤ i)) (h := fun a b => !decide (a < b)) op_ge op_ge_str
 | Is =>
  intro pins s σ H v1 v2 u1 u2 Q I r1 r2 ⟨x, y, S, K, hc, p1, p2, ht, res⟩
  change cIs false x y S K at ht
  unfold cIs at ht
  split at ht
  ·cases rep_non p2
   rw [Bool.false_xor] at ht
   exact op_isN pins s σ H _ _ _ _ Q I r1 r2 ⟨rfl, by rw [isNon_rep p1]; exact res.bl ht hc⟩
  ·exact ht.elim
 | IsNot =>
  intro pins s σ H v1 v2 u1 u2 Q I r1 r2 ⟨x, y, S, K, hc, p1, p2, ht, res⟩
  change cIs true x y S K at ht
  unfold cIs at ht
  split at ht
  ·cases rep_non p2
   rw [Bool.true_xor] at ht
   exact op_notN pins s σ H _ _ _ _ Q I r1 r2 ⟨rfl, by rw [isNon_rep p1]; exact res.bl ht hc⟩
  ·exact ht.elim
 | In =>
  intro pins s σ H v1 v2 u1 u2 Q I r1 r2 ⟨x, y, S, K, hc, p1, p2, ht, res⟩
  change cIn2 false x y S K at ht
  unfold cIn2 at ht
  split at ht
  ·rename_i ds e
   obtain ⟨o1, o2, k⟩ := ht
   rw [Bool.false_xor] at k
   have o3 : D.okd 60 (.lst ds) = true := by simp only [D.okd, Bool.and_eq_true]; exact ⟨rfl, o2⟩
   have w : ((D.pys ds).any fun z => PyData.eqv z (vw S x).py) = ds.any fun z => D.eqv z (vw S x) := by
    clear e o2 k o3
    induction ds with
    | nil => rfl
    | cons a l ih => rw [D.pys, List.any_cons, List.any_cons, ih]; rfl
   exact op_inD hu pins s σ H _ _ _ _ Q I r1 r2 ⟨(vw S x).py, D.pys ds, hK ▸ dp_vw hc p1 rfl o1, hK ▸ dp_vw hc p2 e o3, shaped_of o1, shaped_of o3, by rw [w]; exact res.bl k hc⟩
  ·rename_i ds e
   rcases ht with ⟨f1, f2, k⟩ | ⟨o1, o2, k⟩
   case inr =>
    rw [Bool.false_xor] at k
    have o3 : D.okd 60 (.tup ds) = true := by simp only [D.okd, Bool.and_eq_true]; exact ⟨rfl, o2⟩
    have w : ((D.pys ds).any fun z => PyData.eqv z (vw S x).py) = ds.any fun z => D.eqv z (vw S x) := by
     clear e o2 k o3
     induction ds with
     | nil => rfl
     | cons a l ih => rw [D.pys, List.any_cons, List.any_cons, ih]; rfl
    exact op_inT hu pins s σ H _ _ _ _ Q I r1 r2 ⟨(vw S x).py, D.pys ds, hK ▸ dp_vw hc p1 rfl o1, hK ▸ dp_vw hc p2 e o3, shaped_of o1, shaped_of o3, by rw [w]; exact res.bl k hc⟩
   obtain ⟨p, vs, rfl, hl, hr⟩ := vw_tup p2 e
   rw [hK] at hl
   rw [Bool.false_xor] at k
   exact op_in_seq pins s σ H _ _ _ _ Q I r1 r2 ⟨p, vs, rfl, .inr hl, rep_flat f1 p1, rep_flats f2 hr, by rw [inV_rep f1 p1 f2 hr]; exact res.bl k hc⟩
  ·rename_i b e
   cases vw_str p2 e
   split at ht
   ·obtain ⟨c, rfl, k⟩ := ht
    cases rep_str p1
    rw [Bool.false_xor] at k
    exact op_in_sign pins s σ H _ _ _ _ Q I r1 r2 ⟨c, b, rfl, rfl, res.bl k hc⟩
   ·exact ht.elim
  ·rename_i kvs e
   obtain ⟨k, ek, q⟩ := ht
   obtain ⟨p, vs, rfl, hl, hr⟩ := vw_dic hc p2 e
   cases rep_key ek p1
   cases (show u2 = Value.ref p from r2)
   rw [Bool.false_xor] at q
   exact d_in (by omega) I (.inl ⟨vs, k, hl, rfl, rfl⟩) r1 fun s' I' => ⟨.bl _, H, I', rfl, by rw [valK_some hr]; exact res.bl q hc⟩
  ·exact ht.elim
 | NotIn =>
  intro pins s σ H v1 v2 u1 u2 Q I r1 r2 ⟨x, y, S, K, hc, p1, p2, ht, res⟩
  change cIn2 true x y S K at ht
  unfold cIn2 at ht
  split at ht
  ·rename_i ds e
   obtain ⟨o1, o2, k⟩ := ht
   rw [Bool.true_xor] at k
   have o3 : D.okd 60 (.lst ds) = true := by simp only [D.okd, Bool.and_eq_true]; exact ⟨rfl, o2⟩
   have w : ((D.pys ds).any fun z => PyData.eqv z (vw S x).py) = ds.any fun z => D.eqv z (vw S x) := by
    clear e o2 k o3
    induction ds with
    | nil => rfl
    | cons a l ih => rw [D.pys, List.any_cons, List.any_cons, ih]; rfl
   exact op_notInD hu pins s σ H _ _ _ _ Q I r1 r2 ⟨(vw S x).py, D.pys ds, hK ▸ dp_vw hc p1 rfl o1, hK ▸ dp_vw hc p2 e o3, shaped_of o1, shaped_of o3, by rw [w]; exact res.bl k hc⟩
  ·rename_i ds e
   rcases ht with ⟨f1, f2, k⟩ | ⟨o1, o2, k⟩
   case inr =>
    rw [Bool.true_xor] at k
    have o3 : D.okd 60 (.tup ds) = true := by simp only [D.okd, Bool.and_eq_true]; exact ⟨rfl, o2⟩
    have w : ((D.pys ds).any fun z => PyData.eqv z (vw S x).py) = ds.any fun z => D.eqv z (vw S x) := by
     clear e o2 k o3
     induction ds with
     | nil => rfl
     | cons a l ih => rw [D.pys, List.any_cons, List.any_cons, ih]; rfl
    exact op_notInT hu pins s σ H _ _ _ _ Q I r1 r2 ⟨(vw S x).py, D.pys ds, hK ▸ dp_vw hc p1 rfl o1, hK ▸ dp_vw hc p2 e o3, shaped_of o1, shaped_of o3, by rw [w]; exact res.bl k hc⟩
   obtain ⟨p, vs, rfl, hl, hr⟩ := vw_tup p2 e
   rw [hK] at hl
   rw [Bool.true_xor] at k
   exact op_notIn_seq pins s σ H _ _ _ _ Q I r1 r2 ⟨p, vs, rfl, .inr hl, rep_flat f1 p1, rep_flats f2 hr, by rw [inV_rep f1 p1 f2 hr]; exact res.bl k hc⟩
  ·rename_i b e
   cases vw_str p2 e
   split at ht
   ·obtain ⟨c, rfl, k⟩ := ht
    cases rep_str p1
    rw [Bool.true_xor] at k
    exact op_notIn_sign pins s σ H _ _ _ _ Q I r1 r2 ⟨c, b, rfl, rfl, res.bl k hc⟩
   ·exact ht.elim
  ·rename_i kvs e
   obtain ⟨k, ek, q⟩ := ht
   obtain ⟨p, vs, rfl, hl, hr⟩ := vw_dic hc p2 e
   cases rep_key ek p1
   cases (show u2 = Value.ref p from r2)
   rw [Bool.true_xor] at q
   exact d_notIn (by omega) I (.inl ⟨vs, k, hl, rfl, rfl⟩) r1 fun s' I' => ⟨.bl _, H, I', rfl, by rw [valK_some hr]; exact res.bl q hc⟩
  ·exact ht.elim
end
/-! ### subscripts -/
def ixD (x y : D) (S : SS) (Q : DK) : Prop := match vw S x with
 | .lst ds => match y with
  | .int i => ∃ d, atI ds i = some d ∧ Q d S
  | _ => False
 | .tup ds => match y with
  | .int i => ∃ d, atI ds i = some d ∧ Q d S
  | _ => False
 | .str z => match y with
  | .int i => ∃ c, z.length ≤ sizeLine ∧ atI z.cps.toList i = some c ∧ Q (.str ⟨#[c]⟩) S
  | _ => False
 | .dic kvs => ∃ k d, keyD y = some k ∧ valD kvs k = some d ∧ Q d S
 | _ => False
section
variable {X : Cx} {g : Gd}
theorem ix_dict (hu : X.A.units + 1 < cLine) : IxR X (fun x y H Q => ∃ a v, x = .ref a ∧ DGet H a y (some v) ∧ Q v H) := by
 intro value slice pins s σ H x y v u Q I rx ry h hs
 obtain ⟨a, w, rfl, g, q⟩ := h
 cases (show v = Value.ref a from rx)
 exact tail_any (dict_typeIs I g) PySem.F.slot_dict_getitem.lookup (d_getItem hu I g ry fun w' s3 I3 rw' => ⟨w, H, I3, rw', q⟩) hs
theorem ixD_ok (hK : g.K = X.K) (hu : X.A.units + 65 < cLine) : IxR X (rD2 g ixD) := by
 intro value slice pins s σ H v1 v2 u1 u2 Q I r1 r2 h hs
 obtain ⟨x, y, S, K, hc, p1, p2, ht, res⟩ := h
 unfold ixD at ht
 split at ht
 ·rename_i ds e
  obtain ⟨p, vs, rfl, hl, hr⟩ := vw_lst hc p1 e
  rw [hK] at hl
  split at ht
  ·obtain ⟨d, ed, k⟩ := ht
   obtain ⟨w, ew, rw'⟩ := hr.at ed
   cases rep_int p2
   exact ix_list value slice pins s σ H _ _ _ _ Q I r1 r2 ⟨p, vs, _, w, rfl, rfl, hl, ew, res.val k hc rw'⟩ hs
  ·exact ht.elim
 ·rename_i ds e
  obtain ⟨p, vs, rfl, hl, hr⟩ := vw_tup p1 e
  rw [hK] at hl
  split at ht
  ·obtain ⟨d, ed, k⟩ := ht
   obtain ⟨w, ew, rw'⟩ := hr.at ed
   cases rep_int p2
   exact ix_tup value slice pins s σ H _ _ _ _ Q I r1 r2 ⟨p, vs, _, w, rfl, rfl, hl, ew, res.val k hc rw'⟩ hs
  ·exact ht.elim
 ·rename_i z e
  cases vw_str p1 e
  split at ht
  ·obtain ⟨c, hz, ec, k⟩ := ht
   cases rep_int p2
   exact ix_str value slice pins s σ H _ _ _ _ Q I r1 r2 ⟨z, _, c, rfl, rfl, hz, ec, res.str k hc⟩ hs
  ·exact ht.elim
 ·rename_i kvs e
  obtain ⟨k, d, ek, ed, q⟩ := ht
  obtain ⟨p, vs, rfl, hl, hr⟩ := vw_dic hc p1 e
  cases rep_key ek p2
  rcases valK_of hr k with ⟨z, _⟩ | ⟨d2, w, z1, z2, rw'⟩
  ·rw [ed] at z; cases z
  ·rw [ed] at z1
   cases z1
   exact ix_dict (by omega) value slice pins s σ H _ _ _ _ Q I r1 r2 ⟨p, w, rfl, .inl ⟨vs, k, hl, rfl, z2.symm⟩, res.val q hc rw'⟩ hs
 ·exact ht.elim
end
/-! ### slices -/
def cutD (xs : List D) (lo hi : Option Int) : List D := (xs.drop (HT.sIx xs.length 0 lo)).take (HT.sIx xs.length xs.length hi - HT.sIx xs.length 0 lo)
def slD (x : D) (lo hi : Option Int) (S : SS) (Q : DK) : Prop := match vw S x with
 | .lst ds => Q (.lst (cutD ds lo hi)) S
 | .tup ds => Q (.tup (cutD ds lo hi)) S
 | .str z => z.length ≤ sizeLine ∧ Q (.str (cutS z lo hi)) S
 | _ => False
section
variable {X : Cx} {g : Gd}
def rDs (g : Gd) (t : D → Option Int → Option Int → SS → DK → Prop) : V → Option Int → Option Int → Hp → VK → Prop := fun v lo hi H Q => ∃ x S K, CellsOk g S H ∧ Rep g S H x v ∧ t x lo hi S K ∧ Res g S H K Q
theorem slD_ok (hK : g.K = X.K) : SlR X (rDs g slD) := by
 intro pins s σ H v1 u1 vl vu lo hi sl Q I r1 hs pl pu h
 obtain ⟨x, S, K, hc, p1, ht, res⟩ := h
 unfold slD at ht
 split at ht
 ·rename_i ds e
  obtain ⟨p, vs, rfl, hl, hr⟩ := vw_lst hc p1 e
  rw [hK] at hl
  refine sl_list pins s σ H _ _ vl vu lo hi sl Q I r1 hs pl pu ⟨p, vs, rfl, hl, fun q hq => res.lst ht hc ?_ hq⟩
  unfold cutD cutV
  rw [hr.length]
  exact (hr.drop _).take _
 ·rename_i ds e
  cases vw_tupE e
  obtain ⟨p, vs, rfl, hl, hr⟩ := vw_tup p1 e
  rw [hK] at hl
  refine sl_tupA pins s σ H _ _ vl vu lo hi sl Q I r1 hs pl pu ⟨p, vs, rfl, hl, fun whole => ?_, fun part q hq => res.tup ht hc ?_ hq⟩
  ·refine res.val (d := .tup (cutD ds lo hi)) ht hc ?_
   have all : cutD ds lo hi = ds := by
    unfold cutD
    rw [hr.length, whole.1, whole.2, List.drop_zero, Nat.sub_zero, ← hr.length, List.take_length]
   rw [all]
   exact p1
  ·unfold cutD cutV
   rw [hr.length]
   exact (hr.drop _).take _
 ·rename_i z e
  cases vw_str p1 e
  exact sl_str pins s σ H _ _ vl vu lo hi sl Q I r1 hs pl pu ⟨z, rfl, ht.1, res.str ht.2 hc⟩
 ·exact ht.elim
end
/-! ### len -/
def lenD (xs : List D) (S : SS) (Q : DK) : Prop := match xs with
 | [x] => match vw S x with
  | .lst ds => Q (.int ds.length) S
  | .tup ds => Q (.int ds.length) S
  | .str z => z.length ≤ sizeLine ∧ Q (.int z.length) S
  | .dic kvs => Q (.int kvs.length) S
  | _ => False
 | _ => False
def absD (xs : List D) (S : SS) (Q : DK) : Prop := match xs with
 | [.int i] => Q (.int (if i < 0 then -i else i)) S
 | _ => False
def maxD (xs : List D) (S : SS) (Q : DK) : Prop := match xs with
 | [.int i, .int j] => Q (.int (if j > i then j else i)) S
 | _ => False
def minD (xs : List D) (S : SS) (Q : DK) : Prop := match xs with
 | [.int i, .int j] => Q (.int (if j < i then j else i)) S
 | _ => False
section
variable {X : Cx} {g : Gd} {S : SS} {H : Hp}
theorem reps_one {d : D} {vs : List V} (r : Reps g S H [d] vs) : ∃ v, vs = [v] ∧ Rep g S H d v := by
 simp only [Reps] at r
 obtain ⟨v, q, rfl, a, rfl⟩ := r
 exact ⟨v, rfl, a⟩
theorem reps_two {d e : D} {vs : List V} (r : Reps g S H [d, e] vs) : ∃ v u, vs = [v, u] ∧ Rep g S H d v ∧ Rep g S H e u := by
 simp only [Reps] at r
 obtain ⟨v, q, rfl, a, u, q2, rfl, b, rfl⟩ := r
 exact ⟨v, u, rfl, a, b⟩
theorem len_ok (hK : g.K = X.K) : CallR X (.builtin "len") (rDc g lenD) := by
 intro pins s σ H vs us Q I r h
 obtain ⟨xs, S, K, hc, p1, ht, res⟩ := h
 unfold lenD at ht
 split at ht
 ·rename_i x
  obtain ⟨v, rfl, p2⟩ := reps_one p1
  split at ht
  ·rename_i ds e
   obtain ⟨p, ws, rfl, hl, hr⟩ := vw_lst hc p2 e
   rw [hK] at hl
   exact call_len_seq pins s σ H _ _ Q I r ⟨p, ws, rfl, .inl hl, by rw [← hr.length]; exact res.int ht hc⟩
  ·rename_i ds e
   obtain ⟨p, ws, rfl, hl, hr⟩ := vw_tup p2 e
   rw [hK] at hl
   exact call_len_seq pins s σ H _ _ Q I r ⟨p, ws, rfl, .inr hl, by rw [← hr.length]; exact res.int ht hc⟩
  ·rename_i z e
   cases vw_str p2 e
   exact call_len_str pins s σ H _ _ Q I r ⟨z, rfl, ht.1, res.int ht.2 hc⟩
  ·rename_i kvs e
   obtain ⟨p, ws, rfl, hl, hr⟩ := vw_dic hc p2 e
   obtain ⟨u1, rfl, r1⟩ := Vals.one r
   cases (show u1 = Value.ref p from r1)
   exact d_len I hl fun t s' I' => ⟨.int ws.length, H, I', ⟨t, rfl⟩, by rw [← Paired.length (rpk_of hr)]; exact res.int ht hc⟩
  ·exact ht.elim
 ·exact ht.elim
theorem abs_ok : CallR X (.builtin "abs") (rDc g absD) := by
 intro pins s σ H vs us Q I r h
 obtain ⟨xs, S, K, hc, p1, ht, res⟩ := h
 unfold absD at ht
 split at ht
 ·obtain ⟨v, rfl, p2⟩ := reps_one p1
  cases rep_int p2
  exact call_abs pins s σ H _ _ Q I r ⟨_, rfl, res.int ht hc⟩
 ·exact ht.elim
theorem max_ok (hc : X.calm = true) : CallR X (.builtin "max") (rDc g maxD) := by
 intro pins s σ H vs us Q I r h
 obtain ⟨xs, S, K, hce, p1, ht, res⟩ := h
 unfold maxD at ht
 split at ht
 ·obtain ⟨v, u, rfl, p3, p4⟩ := reps_two p1
  cases rep_int p3
  cases rep_int p4
  exact call_max2 hc pins s σ H _ _ Q I r ⟨_, _, rfl, res.int ht hce⟩
 ·exact ht.elim
theorem min_ok (hc : X.calm = true) : CallR X (.builtin "min") (rDc g minD) := by
 intro pins s σ H vs us Q I r h
 obtain ⟨xs, S, K, hce, p1, ht, res⟩ := h
 unfold minD at ht
 split at ht
 ·obtain ⟨v, u, rfl, p3, p4⟩ := reps_two p1
  cases rep_int p3
  cases rep_int p4
  exact call_min2 hc pins s σ H _ _ Q I r ⟨_, _, rfl, res.int ht hce⟩
 ·exact ht.elim
/-! ### truth -/
def truD (x : D) (S : SS) (Q : Bool → Prop) : Prop := match vw S x with
 | .non => Q false
 | .bl b => Q b
 | .int i => Q (i != 0)
 | .str z => z.length ≤ sizeLine ∧ Q ((z.length : Int) != 0)
 | .lst ds => Q (!ds.isEmpty)
 | .tup ds => Q (!ds.isEmpty)
 | _ => False
theorem isEmpty_reps {ds : List D} {vs : List V} (r : Reps g S H ds vs) : vs.isEmpty = ds.isEmpty := by
 cases rp_of r <;> rfl
theorem truD_ok (hK : g.K = X.K) {x : D} {v : V} {Q : Bool → Prop} (hc : CellsOk g S H) (r : Rep g S H x v) (h : truD x S Q) : ∃ k, TruV X.K v H k ∧ Q k := by
 unfold truD at h
 split at h
 ·rename_i e; cases vw_non r e; exact ⟨false, rfl, h⟩
 ·rename_i b e; cases vw_bl r e; exact ⟨b, rfl, h⟩
 ·rename_i b e; cases vw_int r e; exact ⟨_, rfl, h⟩
 ·rename_i b e; cases vw_str r e; exact ⟨_, ⟨h.1, rfl⟩, h.2⟩
 ·rename_i ds e
  obtain ⟨p, vs, rfl, hl, hr⟩ := vw_lst hc r e
  rw [hK] at hl
  exact ⟨_, .inl ⟨vs, hl, rfl⟩, by rw [isEmpty_reps hr]; exact h⟩
 ·rename_i ds e
  obtain ⟨p, vs, rfl, hl, hr⟩ := vw_tup r e
  rw [hK] at hl
  exact ⟨_, .inr (.inl ⟨vs, hl, rfl⟩), by rw [isEmpty_reps hr]; exact h⟩
 ·exact h.elim
end
end Sv
/-! SvR: repr by values. -/
namespace Sv
open PySem PySem.Spec PyProof.Rows L2
mutual
/-- a value as plain data -/
def pdD : D → Option PyData
 | .non => some .none
 | .bl b => some (.bool b)
 | .int i => some (.int i)
 | .str x => some (.str x)
 | .lst ds => (pdDs ds).map .list
 | .tup ds => (pdDs ds).map .tuple
 | .dic _ | .obj _ | .exc _ _ _ _ | .err _ _ _ _ => none
def pdDs : List D → Option (List PyData)
 | [] => some []
 | d :: ds => match pdD d, pdDs ds with
  | some p, some ps => some (p :: ps)
  | _, _ => none
end
section
variable {X : Cx} {g : Gd} {S : SS} {pins : List (Addr × Obj)} {σ : L2.St} {H : Hp} {s : Shared}
mutual
theorem reads_of (hK : g.K = X.K) (I : Inv X pins σ H s) : ∀ (d : D) {v : V} {u : Value} {p : PyData}, Rep g S H d v → RelV v u → pdD d = some p → ∃ as, Reads s.heap u p as
 | .non, _, _, _, r, q, e => by
  simp only [Rep] at r; subst r; cases e; cases (show _ = Value.none from q); exact ⟨_, .none⟩
 | .bl b, _, _, _, r, q, e => by
  simp only [Rep] at r; subst r; cases e; cases (show _ = Value.bool b from q); exact ⟨_, .bool b⟩
 | .int i, _, _, _, r, q, e => by
  simp only [Rep] at r; subst r; cases e
  obtain ⟨t, rfl⟩ := (show ∃ t, _ = Value.int i t from q)
  exact ⟨_, .int i t⟩
 | .str x, _, _, _, r, q, e => by
  simp only [Rep] at r; subst r; cases e
  obtain ⟨t, rfl⟩ := (show ∃ t, _ = Value.str x t from q)
  exact ⟨_, .str x t⟩
 | .lst ds, _, _, _, r, q, e => by
  simp only [Rep] at r
  obtain ⟨a, vs, rfl, at_a, rs⟩ := r
  have seq := at_a.sq
  rw [hK] at seq
  obtain ⟨its, rel, ⟨o, n, here, cls, _, data⟩, _⟩ := I.list seq
  cases (show _ = Value.ref a from q)
  simp only [pdD, Option.map_eq_some_iff] at e
  obtain ⟨ps, all, rfl⟩ := e
  have ⟨as, each⟩ := readsAll_of hK I ds rs rel all
  exact ⟨_, .list here cls data (by simpa using each)⟩
 | .tup ds, _, _, _, r, q, e => by
  simp only [Rep] at r
  obtain ⟨a, vs, rfl, at_a, rs⟩ := r
  have seq := at_a.sq
  rw [hK] at seq
  obtain ⟨its, rel, ⟨o, here, cls, n, data⟩, _⟩ := I.tuple seq
  cases (show _ = Value.ref a from q)
  simp only [pdD, Option.map_eq_some_iff] at e
  obtain ⟨ps, all, rfl⟩ := e
  have ⟨as, each⟩ := readsAll_of hK I ds rs rel all
  exact ⟨_, .tuple here cls data (by simpa using each)⟩
 | .dic _, _, _, _, _, _, e => nomatch e
 | .obj _, _, _, _, _, _, e => nomatch e
 | .exc _ _ _ _, _, _, _, _, _, e => nomatch e
 | .err _ _ _ _, _, _, _, _, _, e => nomatch e
theorem readsAll_of (hK : g.K = X.K) (I : Inv X pins σ H s) : ∀ (ds : List D) {vs : List V} {us : List Value} {ps : List PyData}, Reps g S H ds vs → Vals vs us → pdDs ds = some ps → ∃ as, ReadsAll s.heap us ps as
 | [], _, _, _, r, q, e => by
  simp only [Reps] at r; subst r; cases q; cases e; exact ⟨_, .nil⟩
 | d :: ds, _, _, _, r, q, e => by
  simp only [Reps] at r
  obtain ⟨v, vs, rfl, r1, r2⟩ := r
  cases q with
  | cons q1 q2 =>
   simp only [pdDs] at e
   split at e
   ·rename_i p ps e1 e2
    cases e
    have ⟨_, x⟩ := reads_of hK I d r1 q1 e1
    have ⟨_, y⟩ := readsAll_of hK I ds r2 q2 e2
    exact ⟨_, .cons x y⟩
   ·cases e
end
end
/-- plain data that repr writes whole -/
structure Shows (p : PyData) : Prop where
 can : p.showable = true
 noDict : p.hasDict = false
 fits : p.shown.length ≤ sizeLine
 flat : p.depth ≤ 20
/-- a value or a list cell as plain data -/
def pdS (S : SS) : D → Option PyData
 | .obj a => match S a with
  | some (.lst ds) => (pdDs ds).map .list
  | _ => none
 | d => pdD d
theorem readsS_of {X : Cx} {g : Gd} {S : SS} {pins : List (Addr × Obj)} {σ : L2.St} {H : Hp} {s : Shared} (hK : g.K = X.K) (I : Inv X pins σ H s) (cells : CellsOk g S H) {d : D} {v : V} {u : Value} {p : PyData} (r : Rep g S H d v) (q : RelV v u) (e : pdS S d = some p) : ∃ as, Reads s.heap u p as := by
 unfold pdS at e
 split at e
 ·rename_i a
  simp only [Rep] at r
  subst r
  split at e
  ·rename_i ds at_a
   obtain ⟨vs, tracked, rs⟩ := cells a _ at_a
   simp only [Option.map_eq_some_iff] at e
   obtain ⟨ps, all, rfl⟩ := e
   obtain ⟨its, rel, ⟨o, n, here, cls, _, data⟩, _⟩ := I.list (.inl (.inl tracked))
   cases (show u = Value.ref a from q)
   have ⟨as, each⟩ := readsAll_of hK I ds rs rel all
   exact ⟨_, .list here cls data (by simpa using each)⟩
  ·cases e
 ·exact reads_of hK I d r q e
/-- repr(x): the text of the data -/
def reprD (xs : List D) (S : SS) (K : DK) : Prop := match xs with
 | [d] => ∃ p, (pdS S d = some p ∨ (D.okd 60 (dv S 60 d) = true ∧ p = (dv S 60 d).py)) ∧ Shows p ∧ K (.str p.shown) S
 | _ => False
theorem call_repr {X : Cx} {g : Gd} (hK : g.K = X.K) (guards : X.A.guards = some []) (units : X.A.units + 21 < cLine) : CallR X (.builtin "repr") (rDc g reprD) := by
 rintro pins s σ H _ _ Q I given ⟨xs, S, K, cells, reps, told, res⟩
 unfold reprD at told
 split at told
 case h_2 => exact told.elim
 rename_i d
 obtain ⟨p, plain, shows, k⟩ := told
 simp only [Reps] at reps
 obtain ⟨v, _, rfl, rep, rfl⟩ := reps
 have want : Q (.str p.shown) H := res.val k cells (by simp only [Rep])
 cases given with
 | cons one rest =>
  cases rest
  obtain ⟨as, reads⟩ : ∃ as, Reads s.heap _ p as := by
   rcases plain with plain | ⟨okd, rfl⟩
   ·exact readsS_of hK I cells rep one plain
   ·exact Dp.reads I _ _ _ (hK ▸ dp_dv cells 60 60 okd rep) one
  have big := fun (a : Addr) (reads : Reads s.heap (.ref a) p as) => repr_of_reads' (prog := X.prog) (w := X.w) (A := X.A) (E := X.xe) (s := s) (Q := EP X pins σ Q) reads shows.can (PyData.noDict_hsm shows.noDict) guards (by have := shows.flat; omega) (fun _ _ e => e)
   (fun h' u tk keeps => ⟨.str p.shown, H, I.kept keeps, ⟨u, rfl⟩, want⟩) shows.fits
  cases reads with
  | none => exact PySem.P.repr_of_none ⟨.str _, H, I.tok _, ⟨_, rfl⟩, want⟩
  | bool b => exact PySem.P.repr_of_bool ⟨.str _, H, I.tok _, ⟨_, rfl⟩, by cases b <;> exact want⟩
  | int i t => exact PySem.P.repr_of_int (by simpa [PyData.showable] using shows.can) ⟨.str _, H, I.tok _, ⟨_, rfl⟩, want⟩
  | str x t => exact PySem.P.repr_of_str ⟨.str _, H, I.tok _, ⟨_, rfl⟩, want⟩ shows.fits
  | list e1 e2 e3 e4 => exact big _ (.list e1 e2 e3 e4)
  | tuple e1 e2 e3 e4 => exact big _ (.tuple e1 e2 e3 e4)
  | dict e1 e2 e3 e4 e5 => exact big _ (.dict e1 e2 e3 e4 e5)
end Sv
/-! SvT: int(x), tuple(x), list(x) by values. -/
namespace Sv
open PySem PySem.Spec PyProof.Rows L2
def intD (xs : List D) (S : SS) (K : DK) : Prop := match xs with
 | [.int i] => K (.int i) S
 | [.bl b] => K (.int (if b then 1 else 0)) S
 | _ => False
def tupleD (xs : List D) (S : SS) (K : DK) : Prop := match xs with
 | [d] => match vw S d with
  | .lst ds => K (.tup ds) S
  | .tup ds => K (.tup ds) S
  | _ => False
 | _ => False
def listD (cell : Bool) (xs : List D) (S : SS) (K : DK) : Prop := match xs with
 | [d] => ∃ ds, (vw S d = .lst ds ∨ vw S d = .tup ds) ∧ if cell = true then ∀ p, S p = none → K (.obj p) (S.set p (.lst ds)) else K (.lst ds) S
 | _ => False
section
variable {X : Cx} {g : Gd}
theorem one_of {S : SS} {H : Hp} {d : D} {vs : List V} (r : Reps g S H [d] vs) : ∃ v, vs = [v] ∧ Rep g S H d v := by
 simp only [Reps] at r
 obtain ⟨v, _, rfl, rep, rfl⟩ := r
 exact ⟨v, rfl, rep⟩
theorem int_ok : CallR X (.type "int") (rDc g intD) := by
 rintro pins s σ H vs us Q I given ⟨xs, S, K, cells, reps, told, res⟩
 unfold intD at told
 split at told
 ·obtain ⟨v, rfl, rep⟩ := one_of reps
  cases rep_int rep
  exact call_int1 _ _ _ _ _ _ _ I given (.inl ⟨_, rfl, res.int told cells⟩)
 ·obtain ⟨v, rfl, rep⟩ := one_of reps
  simp only [Rep] at rep
  subst rep
  exact call_int1 _ _ _ _ _ _ _ I given (.inr ⟨_, rfl, res.int told cells⟩)
 ·exact told.elim
theorem tuple_ok (hK : g.K = X.K) : CallR X (.type "tuple") (rDc g tupleD) := by
 rintro pins s σ H vs us Q I given ⟨xs, S, K, cells, reps, told, res⟩
 unfold tupleD at told
 split at told
 ·obtain ⟨v, rfl, rep⟩ := one_of reps
  split at told
  ·rename_i ds seen
   obtain ⟨p, ws, rfl, seq, all⟩ := vw_lst cells rep seen
   rw [hK] at seq
   exact call_tuple_of _ _ _ _ _ _ _ I given ⟨_, _, rfl, .inl ⟨seq, fun l free => res.tup told cells all free⟩⟩
  ·rename_i ds seen
   have is := vw_tupE seen
   subst is
   obtain ⟨p, ws, rfl, seq, all⟩ := vw_tup rep seen
   rw [hK] at seq
   exact call_tuple_of _ _ _ _ _ _ _ I given ⟨_, _, rfl, .inr ⟨seq, res.val told cells rep⟩⟩
  ·exact told.elim
 ·exact told.elim
theorem list_ok (hK : g.K = X.K) (cell : Bool) : CallR X (.type "list") (rDc g (listD cell)) := by
 rintro pins s σ H vs us Q I given ⟨xs, S, K, cells, reps, told, res⟩
 unfold listD at told
 split at told
 ·obtain ⟨v, rfl, rep⟩ := one_of reps
  obtain ⟨ds, seen, told⟩ := told
  have laid : ∃ p ws, v = .ref p ∧ (SqL X.K H p ws ∨ SqT X.K H p ws) ∧ Reps g S H ds ws := by
   rw [← hK]
   rcases seen with seen | seen
   ·exact (vw_lst cells rep seen).imp fun _ z => z.imp fun _ z => ⟨z.1, .inl z.2.1, z.2.2⟩
   ·exact (vw_tup rep seen).imp fun _ z => z.imp fun _ z => ⟨z.1, .inr z.2.1, z.2.2⟩
  obtain ⟨p, ws, rfl, seq, all⟩ := laid
  refine call_list_of _ _ _ _ _ _ _ I given ⟨_, _, rfl, seq, fun l free => ?_⟩
  cases cell with
  | true => exact res.lstC told cells all free
  | false => exact res.lst told cells all free
 ·exact told.elim
end
end Sv
/-! SvU: methods of the built-in types, sorted, dict(d), by values. -/
namespace Sv
open PySem PySem.Spec PyProof.Rows L2
/-! ### texts in order -/
def leS (a b : Str) : Bool := !decide (b.cps.toList < a.cps.toList)
/-- sorted, of texts -/
def sortS (zs : List Str) : List Str := zs.mergeSort leS
theorem leS_total (a b : Str) : leS a b = true ∨ leS b a = true := by
 unfold leS
 simp only [Bool.not_eq_true', decide_eq_false_iff_not]
 by_cases h : b.cps.toList < a.cps.toList
 ·exact .inr fun z => List.lt_irrefl _ (List.lt_trans h z)
 ·exact .inl h
theorem leS_trans (a b c : Str) (h : leS a b = true) (k : leS b c = true) : leS a c = true := by
 unfold leS at h k ⊢
 simp only [Bool.not_eq_true', decide_eq_false_iff_not] at h k ⊢
 exact List.le_trans (List.not_lt.mp h) (List.not_lt.mp k)
theorem leS_anti {a b : Str} (h : leS a b = true) (k : leS b a = true) : a = b := by
 unfold leS at h k
 simp only [Bool.not_eq_true', decide_eq_false_iff_not] at h k
 have same := List.le_antisymm (List.not_lt.mp h) (List.not_lt.mp k)
 cases a; cases b
 congr 1
 exact Array.toList_inj.mp same
theorem rising_pw : ∀ (zs : List Str) (p : Str), risingS p zs = true → (p :: zs).Pairwise fun a b => leS a b = true
 | [], _, _ => List.pairwise_singleton _ _
 | x :: r, p, h => by
  simp only [risingS, Bool.and_eq_true] at h
  have rest := rising_pw r x h.2
  have first : leS p x = true := by
   unfold leS
   rw [← ltCps_eq]
   exact h.1
  refine List.pairwise_cons.mpr ⟨fun y hy => ?_, rest⟩
  rcases List.mem_cons.mp hy with rfl | hy
  ·exact first
  ·exact leS_trans _ _ _ first ((List.pairwise_cons.mp rest).1 y hy)
theorem sorted_is {ys zs : List Str} (perm : ys.Perm zs) (up : sortedS ys = true) : ys = sortS zs := by
 have rises : ys.Pairwise fun a b => leS a b = true := by
  cases ys with
  | nil => exact .nil
  | cons x r => exact rising_pw r x up
 have rises2 : (sortS zs).Pairwise fun a b => leS a b = true := List.pairwise_mergeSort leS_trans (fun a b => by
  have := leS_total a b
  simpa using this) zs
 exact List.Perm.eq_of_pairwise (fun a b _ _ h k => leS_anti h k) rises rises2 (perm.trans (List.mergeSort_perm zs leS).symm)
/-! ### sorted, dict -/
def outL (cell : Bool) (ds : List D) (S : SS) (K : DK) : Prop := if cell = true then ∀ p, S p = none → K (.obj p) (S.set p (.lst ds)) else K (.lst ds) S
def outK (cell : Bool) (kvs : List (Key × D)) (S : SS) (K : DK) : Prop := if cell = true then ∀ p, S p = none → K (.obj p) (S.set p (.dic kvs)) else K (.dic kvs) S
theorem Res.outL {g : Gd} {S : SS} {H : Hp} {K : DK} {Q : VK} {cell : Bool} {ds : List D} {vs : List V} {p : Addr} (res : Res g S H K Q) (k : outL cell ds S K) (cells : CellsOk g S H) (all : Reps g S H ds vs) (free : H p = none) : Q (.ref p) (upd H p (.lst vs)) := by
 cases cell with
 | true => exact res.lstC k cells all free
 | false => exact res.lst k cells all free
theorem Res.outK {g : Gd} {S : SS} {H : Hp} {K : DK} {Q : VK} {cell : Bool} {kvs : List (Key × D)} {ws : List (Key × V)} {p : Addr} (res : Res g S H K Q) (k : outK cell kvs S K) (cells : CellsOk g S H) (all : RepK g S H kvs ws) (free : H p = none) : Q (.ref p) (upd H p (.dK ws)) := by
 cases cell with
 | true => exact res.dicC k cells all free
 | false => exact res.dic k cells all free
theorem reps_strs {g : Gd} {S : SS} {H : Hp} : ∀ (zs : List Str) {vs : List V}, Reps g S H (zs.map D.str) vs → vs = zs.map V.str
 | [], _, r => by simp only [List.map_nil, Reps] at r; exact r
 | z :: zs, _, r => by
  simp only [List.map_cons, Reps] at r
  obtain ⟨v, q, rfl, one, more⟩ := r
  rw [rep_str one, reps_strs zs more, List.map_cons]
theorem strs_reps {g : Gd} {S : SS} {H : Hp} : ∀ (zs : List Str), Reps g S H (zs.map D.str) (zs.map V.str)
 | [] => by simp only [List.map_nil, Reps]
 | z :: zs => by
  simp only [List.map_cons, Reps]
  exact ⟨_, _, rfl, by simp only [Rep], strs_reps zs⟩
theorem repK_keys {g : Gd} {S : SS} {H : Hp} {kvs : List (Key × D)} {ws : List (Key × V)} (r : RepK g S H kvs ws) : ws.map (·.1) = kvs.map (·.1) := by
 have q := rpk_of r
 clear r
 induction q with
 | nil => rfl
 | cons h _ ih => rw [List.map_cons, List.map_cons, ih, h.1]
theorem repK_vals {g : Gd} {S : SS} {H : Hp} {kvs : List (Key × D)} {ws : List (Key × V)} (r : RepK g S H kvs ws) : Reps g S H (kvs.map (·.2)) (ws.map (·.2)) := by
 have q := rpk_of r
 clear r
 refine of_rp ?_
 induction q with
 | nil => exact .nil
 | cons h _ ih => exact .cons h.2 ih
/-- sorted(x): texts, or a dict's keys that are texts -/
def sortedD (cell : Bool) (xs : List D) (S : SS) (K : DK) : Prop := match xs with
 | [d] => ∃ zs : List Str, (vw S d = .lst (zs.map D.str) ∨ ∃ kvs, vw S d = .dic kvs ∧ kvs.map (·.1) = zs.map Sum.inr) ∧ zs.length < 64 ∧ outL cell ((sortS zs).map D.str) S K
 | _ => False
/-- dict(x) of a dict -/
def dictD (cell : Bool) (xs : List D) (S : SS) (K : DK) : Prop := match xs with
 | [d] => ∃ kvs, vw S d = .dic kvs ∧ outK cell kvs S K
 | _ => False
section
variable {X : Cx} {g : Gd}
theorem sorted_ok (calm : X.calm = true) (hK : g.K = X.K) (cell : Bool) : CallR X (.builtin "sorted") (rDc g (sortedD cell)) := by
 rintro pins s σ H vs us Q I given ⟨xs, S, K, cells, reps, told, res⟩
 unfold sortedD at told
 split at told
 ·obtain ⟨v, rfl, rep⟩ := one_of reps
  obtain ⟨zs, seen | ⟨kvs, seen, keys⟩, few, k⟩ := told
  ·obtain ⟨p, ws, rfl, seq, all⟩ := vw_lst cells rep seen
   rw [hK] at seq
   cases reps_strs zs all
   exact cr_sortedS _ _ _ _ _ _ _ I given ⟨p, zs, rfl, seq, few, fun ys q perm up free => by
    rw [sorted_is perm up]
    exact res.outL k cells (strs_reps _) free⟩
  ·obtain ⟨p, ws, rfl, at_p, all⟩ := vw_dic cells rep seen
   exact call_sortedD calm _ _ _ _ _ _ _ I given ⟨p, ws, zs, rfl, at_p, (repK_keys all).trans keys, few, fun ys q perm up free => by
    rw [sorted_is perm up]
    exact res.outL k cells (strs_reps _) free⟩
 ·exact told.elim
theorem dict_ok (cell : Bool) : CallR X (.type "dict") (rDc g (dictD cell)) := by
 rintro pins s σ H vs us Q I given ⟨xs, S, K, cells, reps, told, res⟩
 unfold dictD at told
 split at told
 ·obtain ⟨v, rfl, rep⟩ := one_of reps
  obtain ⟨kvs, seen, k⟩ := told
  obtain ⟨p, ws, rfl, at_p, all⟩ := vw_dic cells rep seen
  exact call_dictD _ _ _ _ _ _ _ I given ⟨p, ws, rfl, at_p, fun q free => res.outK k cells all free⟩
 ·exact told.elim
/-! ### methods -/
def joinD (x : D) (xs : List D) (S : SS) (K : DK) : Prop := match x, xs with
 | .str a, [d] => ∃ zs : List Str, (vw S d = .lst (zs.map D.str) ∨ vw S d = .tup (zs.map D.str)) ∧ (zs.map (·.length)).sum + zs.length * a.length ≤ 16777216 ∧ K (.str (Txt.join a zs)) S
 | _, _ => False
def upperD (x : D) (xs : List D) (S : SS) (K : DK) : Prop := match x, xs with
 | .str a, [] => a.length ≤ 5592405 ∧ K (.str (Txt.upper a)) S
 | _, _ => False
def appD (x : D) (xs : List D) (S : SS) (K : DK) : Prop := match x, xs with
 | .obj p, [d] => ∃ ds, S p = some (.lst ds) ∧ ds.length < sizeLine ∧ K .non (S.set p (.lst (ds ++ [d])))
 | _, _ => False
def insD (x : D) (xs : List D) (S : SS) (K : DK) : Prop := match x, xs with
 | .obj p, [.int i, d] => ∃ ds, S p = some (.lst ds) ∧ ds.length < sizeLine ∧ 0 ≤ i ∧ i < 2 ^ 63 ∧ K .non (S.set p (.lst (ds.take i.toNat ++ [d] ++ ds.drop i.toNat)))
 | _, _ => False
def popD (x : D) (xs : List D) (S : SS) (K : DK) : Prop := match x, xs with
 | .obj p, [] => ∃ ds d, S p = some (.lst ds) ∧ ds[ds.length - 1]? = some d ∧ K d (S.set p (.lst ds.dropLast))
 | .obj p, [.int i] => ∃ (ds : List D) (d : D) (k : Nat), S p = some (.lst ds) ∧ i = (k : Int) ∧ ds[k]? = some d ∧ i < 2 ^ 63 ∧ K d (S.set p (.lst (ds.eraseIdx k)))
 | _, _ => False
def clearD (x : D) (xs : List D) (S : SS) (K : DK) : Prop := match x, xs with
 | .obj p, [] => ∃ ds, S p = some (.lst ds) ∧ K .non (S.set p (.lst []))
 | _, _ => False
def cntD (x : D) (xs : List D) (S : SS) (K : DK) : Prop := match xs with
 | [d] => ∃ ds, vw S x = .lst ds ∧ D.okds 59 ds = true ∧ D.okd 60 (vw S d) = true ∧ K (.int (ds.countP fun z => D.eqv z (vw S d) : Nat)) S
 | _ => False
def dpopD (x : D) (xs : List D) (S : SS) (K : DK) : Prop := match x, xs with
 | .obj p, [k] => ∃ kvs key d, S p = some (.dic kvs) ∧ keyD k = some key ∧ valD kvs key = some d ∧ K d (S.set p (.dic (dropD kvs key)))
 | _, _ => False
theorem join_ok (hK : g.K = X.K) : MtR X "str.join" (rDm g joinD) := by
 rintro pins s σ H v vs u us Q I rv given ⟨x, xs, S, K, cells, rep, reps, told, res⟩
 unfold joinD at told
 split at told
 ·obtain ⟨w, rfl, rep2⟩ := one_of reps
  cases rep_str rep
  obtain ⟨zs, seen, few, k⟩ := told
  have laid : ∃ p, w = .ref p ∧ (SqL X.K H p (zs.map V.str) ∨ SqT X.K H p (zs.map V.str)) := by
   rw [← hK]
   rcases seen with seen | seen
   ·obtain ⟨p, ws, e, seq, all⟩ := vw_lst cells rep2 seen
    rw [reps_strs zs all] at seq
    exact ⟨p, e, .inl seq⟩
   ·obtain ⟨p, ws, e, seq, all⟩ := vw_tup rep2 seen
    rw [reps_strs zs all] at seq
    exact ⟨p, e, .inr seq⟩
  obtain ⟨p, rfl, seq⟩ := laid
  exact mt_join _ _ _ _ _ _ _ _ _ I rv given ⟨_, p, zs, rfl, rfl, seq, few, res.str k cells⟩
 ·exact told.elim
theorem upper_ok : MtR X "str.upper" (rDm g upperD) := by
 rintro pins s σ H v vs u us Q I rv given ⟨x, xs, S, K, cells, rep, reps, told, res⟩
 unfold upperD at told
 split at told
 ·simp only [Reps] at reps
  subst reps
  cases rep_str rep
  exact mt_upper _ _ _ _ _ _ _ _ _ I rv given ⟨_, rfl, rfl, told.1, res.str told.2 cells⟩
 ·exact told.elim
theorem app_ok : MtR X "list.append" (rDm g appD) := by
 rintro pins s σ H v vs u us Q I rv given ⟨x, xs, S, K, cells, rep, reps, told, res⟩
 unfold appD at told
 split at told
 ·rename_i p d
  obtain ⟨w, rfl, rep2⟩ := one_of reps
  cases rep_obj rep
  obtain ⟨ds, at_p, few, k⟩ := told
  obtain ⟨ws, here, all⟩ := cells p _ at_p
  have P := Post.write (H := H) (o := .lst (ws ++ [w])) (c := .lst (ds ++ [d])) at_p
  exact mt_append _ _ _ _ _ _ _ _ _ I rv given ⟨p, ws, w, rfl, rfl, here, by rw [← all.length]; exact few, res _ _ _ _ k P (cells.write at_p ⟨_, upd_same, (all.append reps).mono P⟩) (by simp only [Rep])⟩
 ·exact told.elim
theorem ins_ok : MtR X "list.insert" (rDm g insD) := by
 rintro pins s σ H v vs u us Q I rv given ⟨x, xs, S, K, cells, rep, reps, told, res⟩
 unfold insD at told
 split at told
 ·rename_i p i d
  obtain ⟨wi, w, rfl, repi, rep2⟩ := reps_two reps
  cases rep_obj rep
  cases rep_int repi
  obtain ⟨ds, at_p, few, lo, hi, k⟩ := told
  obtain ⟨ws, here, all⟩ := cells p _ at_p
  have P := Post.write (H := H) (o := .lst (ws.take i.toNat ++ [w] ++ ws.drop i.toNat)) (c := .lst (ds.take i.toNat ++ [d] ++ ds.drop i.toNat)) at_p
  have one : Reps g S H [d] [w] := by simp only [Reps]; exact ⟨w, [], rfl, rep2, rfl⟩
  exact mt_insert _ _ _ _ _ _ _ _ _ I rv given ⟨p, ws, i, w, rfl, rfl, here, by rw [← all.length]; exact few, lo, hi, res _ _ _ _ k P (cells.write at_p ⟨_, upd_same, (((all.take _).append one).append (all.drop _)).mono P⟩) (by simp only [Rep])⟩
 ·exact told.elim
theorem Reps.dropLast {S : SS} {H : Hp} {ds : List D} {vs : List V} (h : Reps g S H ds vs) : Reps g S H ds.dropLast vs.dropLast := of_rp (pz_dropLast (rp_of h))
theorem pop_ok : MtR X "list.pop" (rDm g popD) := by
 rintro pins s σ H v vs u us Q I rv given ⟨x, xs, S, K, cells, rep, reps, told, res⟩
 unfold popD at told
 split at told
 ·rename_i p
  simp only [Reps] at reps
  subst reps
  cases rep_obj rep
  obtain ⟨ds, d, at_p, last, k⟩ := told
  obtain ⟨ws, here, all⟩ := cells p _ at_p
  obtain ⟨w, at_last, like⟩ := all.get last
  have P := Post.write (H := H) (o := .lst ws.dropLast) (c := .lst ds.dropLast) at_p
  exact mt_pop _ _ _ _ _ _ _ _ _ I rv given ⟨p, ws, w, rfl, rfl, here, by rw [← all.length]; exact at_last, res _ _ _ _ k P (cells.write at_p ⟨_, upd_same, all.dropLast.mono P⟩) (like.mono P)⟩
 ·rename_i p i
  obtain ⟨w0, rfl, repi⟩ := one_of reps
  cases rep_obj rep
  cases rep_int repi
  obtain ⟨ds, d, k, at_p, rfl, at_k, small, kk⟩ := told
  obtain ⟨ws, here, all⟩ := cells p _ at_p
  obtain ⟨w, at_w, like⟩ := all.get at_k
  have lt : k < ws.length := (List.getElem?_eq_some_iff.mp at_w).1
  have six := (ixN_seq (n := ws.length) (i := (k : Int)) (j := k) (by unfold ixN; rw [if_pos (by omega), if_pos (by omega)]; simp)).1
  have P := Post.write (H := H) (o := .lst (ws.eraseIdx k)) (c := .lst (ds.eraseIdx k)) at_p
  have er : Reps g S H (ds.eraseIdx k) (ws.eraseIdx k) := by
   rw [List.eraseIdx_eq_take_drop_succ, List.eraseIdx_eq_take_drop_succ]
   exact (all.take k).append (all.drop (k + 1))
  exact mt_popAt _ _ _ _ _ _ _ _ _ I rv given ⟨p, ws, k, k, w, rfl, rfl, here, by omega, small, six, at_w, res _ _ _ _ kk P (cells.write at_p ⟨_, upd_same, er.mono P⟩) (like.mono P)⟩
 ·exact told.elim
theorem clear_ok : MtR X "list.clear" (rDm g clearD) := by
 rintro pins s σ H v vs u us Q I rv given ⟨x, xs, S, K, cells, rep, reps, told, res⟩
 unfold clearD at told
 split at told
 ·rename_i p
  simp only [Reps] at reps
  subst reps
  cases rep_obj rep
  obtain ⟨ds, at_p, k⟩ := told
  obtain ⟨ws, here, all⟩ := cells p _ at_p
  exact mt_clear _ _ _ _ _ _ _ _ _ I rv given ⟨p, ws, rfl, rfl, here, res _ _ _ _ k (Post.write at_p) (cells.write at_p ⟨[], upd_same, by simp only [Reps]⟩) (by simp only [Rep])⟩
 ·exact told.elim
theorem dropK_of {S : SS} {H : Hp} {kvs : List (Key × D)} {ws : List (Key × V)} (k : Key) (h : RepK g S H kvs ws) : RepK g S H (dropD kvs k) (dropK ws k) := by
 have q := rpk_of h
 refine of_rpk ?_
 clear h
 unfold dropD dropK
 induction q with
 | nil => exact .nil
 | @cons x y l m r _ ih =>
  have same : decide (x.1 ≠ k) = decide (y.1 ≠ k) := by rw [r.1]
  rw [List.filter_cons, List.filter_cons]
  by_cases z : y.1 ≠ k
  ·rw [same, decide_eq_true z, if_pos rfl, if_pos rfl]
   exact .cons r ih
  ·rw [same, decide_eq_false z, if_neg Bool.false_ne_true, if_neg Bool.false_ne_true]
   exact ih
theorem dpop_ok : MtR X "dict.pop" (rDm g dpopD) := by
 rintro pins s σ H v vs u us Q I rv given ⟨x, xs, S, K, cells, rep, reps, told, res⟩
 unfold dpopD at told
 split at told
 ·rename_i p k0
  obtain ⟨w, rfl, rep2⟩ := one_of reps
  cases rep_obj rep
  cases (show u = Value.ref p from rv)
  obtain ⟨kvs, key, d, at_p, is, found, k⟩ := told
  obtain ⟨ws, here, all⟩ := cells p _ at_p
  cases rep_key is rep2
  obtain ⟨uk, rfl, rk⟩ := Vals.one given
  rcases valK_of all key with ⟨z, _⟩ | ⟨d2, w2, z1, z2, like⟩
  ·rw [found] at z; cases z
  ·rw [found] at z1
   cases z1
   have P := Post.write (H := H) (o := .dK (dropK ws key)) (c := .dic (dropD kvs key)) at_p
   exact d_pop I here rk z2 (.inl rfl) fun w' s' I' rw' => ⟨w2, _, I', rw', res _ _ _ _ k P (cells.write at_p ⟨_, upd_same, (dropK_of key all).mono P⟩) (like.mono P)⟩
 ·exact told.elim
/-- d.update({..}) -/
def mergeD (kvs more : List (Key × D)) : List (Key × D) := more.foldl (fun acc kv => putD acc kv.1 kv.2) kvs
def updD (x : D) (xs : List D) (S : SS) (K : DK) : Prop := match x, xs with
 | .obj p, [.dic more] => ∃ kvs, S p = some (.dic kvs) ∧ kvs.length + more.length ≤ sizeLine ∧ K .non (S.set p (.dic (mergeD kvs more)))
 | _, _ => False
theorem merge_rep {g : Gd} {S : SS} {H : Hp} {more : List (Key × D)} : ∀ {ws : List (Key × V)} {kvs : List (Key × D)} {us : List (Key × V)}, RepK g S H more ws → RepK g S H kvs us → RepK g S H (mergeD kvs more) (mergeK us ws) := by
 induction more with
 | nil =>
  intro ws kvs us h q
  simp only [RepK] at h
  subst h
  exact q
 | cons p more ih =>
  intro ws kvs us h q
  obtain ⟨k, d⟩ := p
  simp only [RepK] at h
  obtain ⟨v, ws, rfl, r, h⟩ := h
  show RepK g S H (mergeD (putD kvs k d) more) (mergeK (putK us k v) ws)
  exact ih h (putK_of q k r)
theorem upd_ok : MtR X "dict.update" (rDm g updD) := by
 rintro pins s σ H v vs u us Q I rv given ⟨x, xs, S, K, cells, rep, reps, told, res⟩
 unfold updD at told
 split at told
 ·rename_i p more
  obtain ⟨w, rfl, rep2⟩ := one_of reps
  cases rep_obj rep
  cases (show u = Value.ref p from rv)
  obtain ⟨kvs, at_p, few, k⟩ := told
  obtain ⟨ws, here, all⟩ := cells p _ at_p
  simp only [Rep] at rep2
  obtain ⟨q, vs2, rfl, own, rd, all2⟩ := rep2
  obtain ⟨uk, rfl, rk⟩ := Vals.one given
  cases (show uk = Value.ref q from rk)
  have ne : p ≠ q := fun e => by rw [e, own] at at_p; cases at_p
  obtain ⟨z, hd, vals, rel, dd⟩ := dk_of I.hok here
  obtain ⟨z2, hd2, vals2, rel2, dd2⟩ := dk_rd I.hok (.inl rd)
  have l1 : kvs.length = ws.length := (rpk_of all).length
  have l2 : more.length = vs2.length := (rpk_of all2).length
  have room : (mergeK ws vs2).length ≤ sizeLine := Nat.le_trans (length_mergeK vs2 ws) (by rw [← l1, ← l2]; exact few)
  refine call_meetsIn PySem.F.slot_dict_update dd.typeIs PySem.F.entry_dict_update (PySem.F.args_dict_update_2 _ _) (meets_dict_update (mixKind X.prog X.w) p q ne hd2) ⟨vals, vals2, dd, dd2, by rw [← rel.length, ← rel2.length, ← l1, ← l2]; exact few, fun h' dd' _ hs => ?_⟩
  have he : ∃ o, h'.get? p = some o := let ⟨o, _, _, ho, _⟩ := dd'; ⟨o, ho⟩
  have P := Post.write (H := H) (o := .dK (mergeK ws vs2)) (c := .dic (mergeD kvs more)) at_p
  exact ⟨.non, _, d_write I (by rw [here]; exact True.intro) hs he (dk_new room hd (rel2.merge rel) dd'), rfl, res _ _ _ _ k P (cells.write at_p ⟨_, upd_same, (merge_rep all2 all).mono P⟩) (by simp only [Rep])⟩
 ·exact told.elim
theorem eqvC {its : List Value} {h : Heap} {ds : List PyData} {d : PyData} (is : its.map (SeqAt.readOf h) = ds) : its.countP (fun u => PyData.eqv (SeqAt.readOf h u) d) = ds.countP fun z => PyData.eqv z d := by
 rw [← is, List.countP_map]
 rfl
theorem pys_map : ∀ ds : List D, D.pys ds = ds.map D.py
 | [] => rfl
 | d :: ds => by rw [D.pys, pys_map ds, List.map_cons]
/-- xs.count(x): how many are equal to it -/
theorem cnt_ok (hK : g.K = X.K) (units : X.A.units + 65 < cLine) : MtR X "list.count" (rDm g cntD) := by
 rintro pins s σ H v vs u us Q I rv given ⟨x, xs, S, K, cells, rep, reps, told, res⟩
 unfold cntD at told
 split at told
 ·rename_i d
  obtain ⟨w, rfl, rep2⟩ := one_of reps
  obtain ⟨ds, seen, flat, fine, k⟩ := told
  have fine2 : D.okd 60 (.lst ds) = true := by simp only [D.okd, Bool.and_eq_true]; exact ⟨rfl, flat⟩
  have lay : Dp X.K H w (vw S d).py := hK ▸ dp_vw cells rep2 rfl fine
  obtain ⟨p, ws, rfl, seq, all⟩ := vw_lst cells rep seen
  have lays : DpAll X.K H ws (D.pys ds) := hK ▸ dps_of 59 flat all
  rw [hK] at seq
  cases (show u = Value.ref p from rv)
  obtain ⟨uw, rfl, rw2⟩ := Vals.one given
  obtain ⟨bs, r1⟩ := Dp.reads I _ _ _ lay rw2
  obtain ⟨its, rel, ⟨⟨cls, dd, data, sls⟩, n, here, isL, _, dt⟩, _⟩ := I.list seq
  simp only at isL dt
  subst isL dt
  obtain ⟨as, r2⟩ := Dp.readsAll I _ _ its lays rel
  have can : PyData.canLayAll0 (D.pys ds) = true := SeqAt.canLay_of_shaped (d := .list (D.pys ds)) (shaped_of fine2)
  have room : X.A.units + 1 + min (PyData.depthAll (D.pys ds)) (vw S d).py.depth < cLine := room_in_shaped (shaped_of fine) units
  have is : its.map (SeqAt.readOf s.heap) = D.pys ds := SeqAt.readsAll_map _ its as can r2
  refine call_meets PySem.F.slot_list_count ⟨_, here, rfl⟩ PySem.F.entry_list_count (PySem.F.args_list_count_2 _ _) (SeqAt.list_countAt p its.toArray n dd sls uw fun u => PyData.eqv (SeqAt.readOf s.heap u) (vw S d).py) ⟨here, SeqAt.items_eqAt (vs := its.toArray) (show ReadsAll s.heap its.toArray.toList _ as from r2) r1 can (SeqAt.canLay_of_shaped (shaped_of fine)) room, ?_⟩
  refine ⟨.int (ds.countP fun z => D.eqv z (vw S d) : Nat), H, I.tok _, ⟨s.toks, ?_⟩, res.int k cells⟩
  show Value.int ((its.toArray.toList.countP fun u => PyData.eqv (SeqAt.readOf s.heap u) (vw S d).py : Nat) : Int) s.toks = _
  rw [List.toList_toArray, eqvC is, pys_map, List.countP_map]
  rfl
 ·exact told.elim
end
end Sv
/-! SvO: own methods called, own objects made; list(d.values()). -/
namespace Sv
open PySem PySem.Spec PyProof.Rows L2
open L2H (RoomH)
/-- o.m(..) of an own class: the def gets the object ahead of the arguments -/
def tOm (C : Addr) (m : Str) (m0 : Option (Addr × Obj)) (sp : SpM) (E : L2.St → XK) (to : TE) (t : TA) : TE := fun σ H Q => to σ H fun x H1 => ∃ a dx fs, x = .ref a ∧ H1 a = some (.ins C dx fs) ∧ fs.lookup m = none ∧ t σ H1 fun vs H2 => sp m0 (x :: vs) H2 Q (E σ)
/-- C(..): a bare object and its dict, then the class's __init__ -/
def tMkO' (C : Addr) (sp : SpM) (E : L2.St → XK) (t : TA) : TE := fun σ H Q => t σ H fun vs H1 => ∀ x dx, H1 x = none → H1 dx = none → dx ≠ x →
 sp none (.ref x :: vs) (upd (upd H1 dx (.own x)) x (.ins C dx [])) (fun v H2 => v = .non ∧ Q (.ref x) H2) (E σ)
section
variable {X : Cx} {hot : Bool} {m0 : Option (Addr × Obj)} {k : Nat} {f C : Addr} {fd : FuncData} {ps : List Str} {sp : SpM} {E : L2.St → XK} {x m : Str} {q apos pos : Pos} {o e : Expr} {es : List Expr} {to : TE} {t : TA}
/-- how a method's call is written -/
def MForm (X : Cx) (o : Expr) (m : Str) (apos : Pos) (es : List Expr) (pos : Pos) (pl : Sem Bool) : Prop := eval (.Call (.Attribute o m apos) es [] pos) X.env = (do
 let ov ← eval o X.env
 standAt apos.atName
 let (f, first) ← holding [ov] (getMethod ov m pl)
 callWith pos f first (backTo pos (starEach es X.env)) (backToKw pos (keywordEach [] X.env)))
theorem run_self {pins : List (Addr × Obj)} {σ : L2.St} {H : Hp} {s : Shared} {Q : VK} {us : List Value} {vs : List V} {a : Addr} (F : FnG X.prog X.w X.K X.mg X.base hot k f fd ps sp) (hh : m0.isSome = hot) (room : RoomH k X.A) (mode : ModeC X m0) (binds : L2.Binds X.K fd ps [])
  (out : PassesAt (L2N.CX X.prog X.w) X σ (E σ)) (I : Inv X pins σ H s) (rv : Vals vs us) (want : sp m0 (.ref a :: vs) H Q (E σ)) : wpAny (model X.prog X.w) X.A (call (.ref f) (.ref a :: us)) (EP X pins σ Q) X.xe s :=
 run_fnG (dvs := []) (vs := .ref a :: vs) F hh room mode binds .nil out I (.cons rfl rv) (by rw [List.append_nil]; exact want)
theorem pe_om {pl : Sem Bool} (F : FnG X.prog X.w X.K X.mg X.base hot k f fd ps sp) (hh : m0.isSome = hot) (room : RoomH k X.A) (mode : ModeC X m0) (cls : Cls X.K C) (is : Meth X.K C m f) (binds : L2.Binds X.K fd ps [])
  (out : ∀ σ, PassesAt (L2N.CX X.prog X.w) X σ (E σ)) (recv : PE X o to) (args : PA X (e :: es) t) (form : MForm X o m apos (e :: es) pos pl) (plain : starEach (e :: es) X.env = (false, eval e X.env) :: starEach es X.env) (rest : (backTo pos (starEach es X.env)).any (·.1) = false) :
  PE X (.Call (.Attribute o m apos) (e :: es) [] pos) (tOm C m m0 sp E to t) where
 run pins s σ H Q I want := PySem.W.methodCall_KW (thn (recv.run pins s σ H _ I want) fun u s1 ⟨x, H1, J, rx, a, dx, fs, isRef, at_a, free, go⟩ => by
  subst isRef
  cases (show u = Value.ref a from rx)
  exact getmeth_ok J at_a cls is free (PySem.W.callWith_K (first := [.ref a]) (h₀ := X.base) J.ok.mod.kin is.kp
   (thn (args.run pos pins s1 σ H1 _ J go) fun us s2 ⟨vs, H2, J2, rv, want2⟩ => ⟨J2.kIn, run_self F hh room mode binds (out σ) J2 rv want2⟩) plain rest)) form
theorem pe_om0 {pl : Sem Bool} (F : FnG X.prog X.w X.K X.mg X.base hot k f fd ps sp) (hh : m0.isSome = hot) (room : RoomH k X.A) (mode : ModeC X m0) (cls : Cls X.K C) (is : Meth X.K C m f) (binds : L2.Binds X.K fd ps [])
  (out : ∀ σ, PassesAt (L2N.CX X.prog X.w) X σ (E σ)) (recv : PE X o to) (form : MForm X o m apos [] pos pl) : PE X (.Call (.Attribute o m apos) [] [] pos) (tOm C m m0 sp E to tNil) where
 run pins s σ H Q I want := PySem.W.methodCall_KW (thn (recv.run pins s σ H _ I want) fun u s1 ⟨x, H1, J, rx, a, dx, fs, isRef, at_a, free, go⟩ => by
  subst isRef
  cases (show u = Value.ref a from rx)
  exact getmeth_ok J at_a cls is free (PySem.W.callWith_K0 (first := [.ref a]) J.kIn is.kp (run_self F hh room mode binds (out σ) J .nil go))) form
/-- an object is made -/
theorem run_mk {pins : List (Addr × Obj)} {σ : L2.St} {H : Hp} {s : Shared} {Q : VK} {us : List Value} {vs : List V} (M : Mk X.K C f) (F : FnG X.prog X.w X.K X.mg X.base false k f fd ps sp) (room : RoomH (k + 1) X.A) (mode : ModeC X none) (binds : L2.Binds X.K fd ps [])
  (out : PassesAt (L2N.CX X.prog X.w) X σ (E σ)) (I : Inv X pins σ H s) (rv : Vals vs us)
  (want : ∀ x dx, H x = none → H dx = none → dx ≠ x → sp none (.ref x :: vs) (upd (upd H dx (.own x)) x (.ins C dx [])) (fun v H2 => v = .non ∧ Q (.ref x) H2) (E σ)) : wpAny (model X.prog X.w) X.A (call (.ref C) us) (EP X pins σ Q) X.xe s := by
 have young := fun n (h : s.heap.objs.size ≤ n) => I.hok.fresh h
 have asked := want (s.heap.objs.size + 1) _ (young _ (Nat.le_add_right _ 1)) (young _ (Nat.le_refl _)) (Nat.ne_of_lt (Nat.lt_succ_self _))
 have J := Inv.made (C := C) I
 have given : Vals (V.ref (s.heap.objs.size + 1) :: vs) (Value.ref (s.heap.objs.size + 1) :: us) := .cons rfl rv
 have bound := binds _ (Value.ref (s.heap.objs.size + 1) :: us) J.kIn (by rw [List.append_nil, ← given.length]; exact F.len _ _ _ _ _ rfl asked)
 rw [List.append_nil] at bound
 have inner := F.run _ X.stack _ _ ⟨Value.ref (s.heap.objs.size + 1) :: us, []⟩ _ _ _ (E σ) none rfl (room.make C us []) ⟨mode.1, show (X.A.under _).handled = none from J.ok.hd mode.2⟩ (J.env0.make C us []) bound given asked
 apply wpAny_call
 apply make_map (f := f) I.kIn M.makes M.init (beq_iff_eq.mp M.fn)
 apply codeAny_mono inner
 rintro (err | (_ | u | _ | _)) s2 told
 ·exact out _ _ _ _ _ J told
 all_goals first | exact told.elim | skip
 obtain ⟨v, H2, J2, like, rfl, done⟩ := J.after told
 exact ⟨like, .ref _, H2, J2, rfl, done⟩
theorem pe_mk (M : Mk X.K C f) (F : FnG X.prog X.w X.K X.mg X.base false k f fd ps sp) (room : RoomH (k + 1) X.A) (mode : ModeC X none) (gl : Gl X x) (at_x : X.mg x = some (.ref C)) (db : (x == ("__debug__" : Str)) = false) (binds : L2.Binds X.K fd ps [])
  (out : ∀ σ, PassesAt (L2N.CX X.prog X.w) X σ (E σ)) (args : PA X (e :: es) t) (plain : starEach (e :: es) X.env = (false, eval e X.env) :: starEach es X.env) (rest : (backTo pos (starEach es X.env)).any (·.1) = false) :
  PE X (.Call (.Name x q) (e :: es) [] pos) (tMkO' C sp E t) where
 run pins s σ H Q I want := wpAny_Call_Name_kw (ld_glob I gl at_x (PySem.W.callWith_K (h₀ := X.base) I.ok.mod.kin M.kp
  (thn (args.run pos pins s σ H _ I want) fun us s1 ⟨vs, H1, J, rv, go⟩ => ⟨J.kIn, run_mk M F room mode binds (out σ) J rv go⟩) plain rest) db)
theorem pe_mk0 (M : Mk X.K C f) (F : FnG X.prog X.w X.K X.mg X.base false k f fd ps sp) (room : RoomH (k + 1) X.A) (mode : ModeC X none) (gl : Gl X x) (at_x : X.mg x = some (.ref C)) (db : (x == ("__debug__" : Str)) = false) (binds : L2.Binds X.K fd ps [])
  (out : ∀ σ, PassesAt (L2N.CX X.prog X.w) X σ (E σ)) : PE X (.Call (.Name x q) [] [] pos) (tMkO' C sp E tNil) where
 run pins s σ H Q I want := wpAny_Call_Name_kw (ld_glob I gl at_x (PySem.W.callWith_K0 I.kIn M.kp (run_mk M F room mode binds (out σ) I .nil want)) db)
end
/-! ### list(d.values()) -/
def tVals (te : TE) : TE := fun σ H Q => te σ H fun x H1 => ∃ (d : Addr) (kvs : List (Key × V)), x = .ref d ∧ H1 d = some (.dK kvs) ∧ ∀ p, H1 p = none → Q (.ref p) (upd H1 p (.lst (kvs.map (·.2))))
section
variable {X : Cx} {e : Expr} {te : TE} {p apos cpos pos : Pos}
theorem pe_vals (calm : X.calm = true) (he : PE X e te) (gl : Gl X "list") (free : X.mg "list" = none) (base : attributeBase e "values" X.env (eval e X.env) = eval e X.env) (line : (apos.endLine == cpos.line) = true) :
  PE X (.Call (.Name "list" p) [.Call (.Attribute e "values" apos) [] [] cpos] [] pos) (tVals te) where
 run pins s σ H Q I want := by
  refine wpAny_Call_Name_kw (ld_blt I gl free (u := .type "list") (by decide +kernel) (PyProof.Rows.callWith_type1 (Calls.spliced_cons ?_) rfl rfl))
  refine wpAny_Call_method (T := "dict") (id := "dict.values") base rfl line PySem.F.plainAttrs_dict PySem.F.slot_dict_values PySem.F.type_dict_values (thn (he.run pins s σ H _ I want) ?_)
  rintro u s1 ⟨x, H1, J, rx, d, kvs, rfl, at_d, go⟩
  cases (show u = Value.ref d from rx)
  obtain ⟨few, notSys, vs, kv, isD⟩ := J.hok d _ at_d
  obtain ⟨ep, lies⟩ := isD.dictAt
  have same : kvs.length = vs.length := Paired.length kv
  have J2 : Inv X pins σ H1 { s1 with heap := s1.heap.push { cls := .type "dict_values", data := .fields #[.ref d] } } := J.kept (t' := s1.toks) fun b ob z => Heap.get?_push_of_some _ z
  refine ⟨isD.typeIs, isD.mapOf.noDict, ?_⟩
  refine method_meetsIn PySem.F.slot_dict_values PySem.F.entry_dict_values rfl (PySem.evalArgs_none ⟨rfl, isD.typeIs, PySem.F.args_dict_values_1 _, _, meets_dict_values (mixKind X.prog X.w) d notSys, ⟨vs, isD⟩, ?_⟩)
  refine Calls.spliced_nil ?_
  refine PySem.W.kdl_call (PySem.W.kdl_values (knd := mixKind X.prog X.w) (kvs := vs) (ep := ep)) (J.ok.hd calm) ⟨⟨_, Heap.get?_push_size _ rfl, rfl, rfl⟩, lies.push _⟩ (by rw [← same]; exact few) fun h' tk acc c keep made told => ?_
  have like : Vals (kvs.map (·.2)) acc.toList := vals_of_at (by rw [List.length_map, same]; simpa using told.1.symm) fun j x w h1 h2 => by
   obtain ⟨k, at_j⟩ := told.2 j w (by rw [← Array.getElem?_toList]; exact h2)
   rw [List.getElem?_map, Option.map_eq_some_iff] at h1
   obtain ⟨y, at_y, rfl⟩ := h1
   obtain ⟨z, at_z, _, rel⟩ := LiI.paired_get kv at_y
   rw [at_j] at at_z
   cases at_z
   exact rel
  exact ⟨.ref _, _, J2.laid (t' := tk) (o := .lst (kvs.map (·.2))) keep (Nat.le_refl _) ⟨by rw [List.length_map]; exact few, acc.toList, c, like, by rw [Array.toArray_toList]; exact made⟩, rfl, go _ (J2.hok.fresh (Nat.le_refl _))⟩
end
end Sv
/-! SvX: dict of pairs, all, sum, str; get, setdefault, pop with a default, index, by values. -/
namespace Sv
open PySem PySem.Spec PyProof.Rows L2
def pairsD : List D → Option (List (Key × D))
 | [] => some []
 | .tup [k, v] :: r => match keyD k, pairsD r with
  | some key, some q => some ((key, v) :: q)
  | _, _ => none
 | _ => none
/-- dict([(k, v), ..]) -/
def dictPD (cell : Bool) (xs : List D) (S : SS) (K : DK) : Prop := match xs with
 | [d] => ∃ ps kvs, vw S d = .lst ps ∧ pairsD ps = some kvs ∧ outK cell (mergeD [] kvs) S K
 | _ => False
def allD (xs : List D) (S : SS) (K : DK) : Prop := match xs with
 | [d] => ∃ bs : List Bool, vw S d = .lst (bs.map D.bl) ∧ K (.bl (bs.all id)) S
 | _ => False
def sumD (xs : List D) (S : SS) (K : DK) : Prop := match xs with
 | [d] => ∃ ns : List Int, vw S d = .lst (ns.map D.int) ∧ K (.int ns.sum) S
 | _ => False
def strD (xs : List D) (S : SS) (K : DK) : Prop := match xs with
 | [.int i] => i.natAbs.log2 < 1920 ∧ K (.str (toString i)) S
 | _ => False
def keyV : Key → D
 | .inl i => .int i | .inr x => .str x
/-- list(d): the keys -/
def listKD (cell : Bool) (xs : List D) (S : SS) (K : DK) : Prop := match xs with
 | [d] => ∃ kvs, vw S d = .dic kvs ∧ outL cell (kvs.map fun kv => keyV kv.1) S K
 | _ => False
def isDicV (x : D) (S : SS) : Prop := (∃ kvs, x = .dic kvs) ∨ ∃ p kvs, x = .obj p ∧ S p = some (.dic kvs)
def dgetD (x : D) (xs : List D) (S : SS) (K : DK) : Prop := match xs with
 | [k] => ∃ kvs key, vw S x = .dic kvs ∧ keyD k = some key ∧ K ((valD kvs key).getD .non) S
 | [k, z] => ∃ kvs key, vw S x = .dic kvs ∧ keyD k = some key ∧ K ((valD kvs key).getD z) S
 | _ => False
def dsetD (x : D) (xs : List D) (S : SS) (K : DK) : Prop := match x, xs with
 | .obj p, [k, z] => ∃ kvs key, S p = some (.dic kvs) ∧ keyD k = some key ∧ kvs.length < sizeLine ∧ (∀ d, valD kvs key = some d → K d S) ∧ (valD kvs key = none → K z (S.set p (.dic (putD kvs key z))))
 | _, _ => False
def dpop2D (x : D) (xs : List D) (S : SS) (K : DK) : Prop := match x, xs with
 | .obj p, [k, z] => ∃ kvs key, S p = some (.dic kvs) ∧ keyD k = some key ∧ (∀ d, valD kvs key = some d → K d (S.set p (.dic (dropD kvs key)))) ∧ (valD kvs key = none → K z S)
 | _, _ => False
/-- xs.index(x): the first place at which x stands; flat values -/
def idxD (x : D) (xs : List D) (S : SS) (K : DK) : Prop := match xs with
 | [d] => ∃ ds j z, vw S x = .lst ds ∧ flatD d = true ∧ ds.all flatD = true ∧ ds[j]? = some z ∧ D.eqv z d = true ∧ (∀ m z', m < j → ds[m]? = some z' → D.eqv z' d = false) ∧ K (.int (j : Nat)) S
 | _ => False
section
variable {X : Cx} {g : Gd} {S : SS} {H : Hp}
theorem reps_bls : ∀ (bs : List Bool) {vs : List V}, Reps g S H (bs.map D.bl) vs → vs = bs.map V.bl
 | [], _, r => by simp only [List.map_nil, Reps] at r; exact r
 | z :: zs, _, r => by
  simp only [List.map_cons, Reps] at r
  obtain ⟨v, q, rfl, one, more⟩ := r
  rw [rep_bl one, reps_bls zs more, List.map_cons]
theorem reps_ints : ∀ (bs : List Int) {vs : List V}, Reps g S H (bs.map D.int) vs → vs = bs.map V.int
 | [], _, r => by simp only [List.map_nil, Reps] at r; exact r
 | z :: zs, _, r => by
  simp only [List.map_cons, Reps] at r
  obtain ⟨v, q, rfl, one, more⟩ := r
  rw [rep_int one, reps_ints zs more, List.map_cons]
/-- pairs as they lie -/
theorem pairs_at (hK : g.K = X.K) : ∀ {ps : List D} {kvs : List (Key × D)} {vs : List V}, pairsD ps = some kvs → Reps g S H ps vs → ∃ as ws, vs = as.map V.ref ∧ Paired (fun p kv => SqT X.K H p [kV kv.1, kv.2]) as ws ∧ RepK g S H kvs ws
 | [], kvs, vs, e, r => by
  cases e
  simp only [Reps] at r
  subst r
  exact ⟨[], [], rfl, .nil, by simp only [RepK]⟩
 | d :: r0, kvs, vs, e, r => by
  simp only [Reps] at r
  obtain ⟨v, q, rfl, one, more⟩ := r
  unfold pairsD at e
  split at e
  ·rename_i e0
   cases e0
  ·rename_i k z r1 e0
   obtain ⟨rfl, rfl⟩ := List.cons.inj e0
   split at e
   ·rename_i key kv ek er
    cases e
    obtain ⟨as, ws, rfl, pw, rk⟩ := pairs_at hK er more
    simp only [Rep] at one
    obtain ⟨p, us, rfl, at_p, all⟩ := one
    obtain ⟨w1, w2, rfl, r1, r2⟩ := reps_two all
    cases rep_key ek r1
    refine ⟨p :: as, (key, w2) :: ws, rfl, .cons ?_ pw, by simp only [RepK]; exact ⟨w2, ws, rfl, r2, rk⟩⟩
    rw [← hK]
    exact at_p.sq
   ·cases e
  ·cases e
theorem dictP_ok (calm : X.calm = true) (hK : g.K = X.K) (cell : Bool) : CallR X (.type "dict") (rDc g (dictPD cell)) := by
 rintro pins s σ H vs us Q I given ⟨xs, S, K, cells, reps, told, res⟩
 unfold dictPD at told
 split at told
 ·obtain ⟨v, rfl, rep⟩ := one_of reps
  obtain ⟨ps, kvs, seen, is, k⟩ := told
  obtain ⟨p, ws, rfl, seq, all⟩ := vw_lst cells rep seen
  rw [hK] at seq
  obtain ⟨as, us2, rfl, pw, rk⟩ := pairs_at hK is all
  exact call_dictP calm _ _ _ _ _ _ _ I given ⟨p, as, us2, rfl, seq, pw, fun q free => res.outK k cells (merge_rep rk (by simp only [RepK])) free⟩
 ·exact told.elim
theorem keys_rep {kvs : List (Key × D)} {ws : List (Key × V)} (h : RepK g S H kvs ws) : Reps g S H (kvs.map fun kv => keyV kv.1) (ws.map fun kv => kV kv.1) := by
 have q := rpk_of h
 clear h
 refine of_rp ?_
 induction q with
 | nil => exact .nil
 | @cons x y l m r _ ih =>
  refine .cons ?_ ih
  show Rep g S H (keyV x.1) (kV y.1)
  rw [r.1]
  cases y.1 <;> (show Rep g S H _ _; unfold keyV; simp only [Rep]; rfl)
theorem listK_ok (calm : X.calm = true) (cell : Bool) : CallR X (.type "list") (rDc g (listKD cell)) := by
 rintro pins s σ H vs us Q I given ⟨xs, S, K, cells, reps, told, res⟩
 unfold listKD at told
 split at told
 ·obtain ⟨v, rfl, rep⟩ := one_of reps
  obtain ⟨kvs, seen, k⟩ := told
  obtain ⟨p, ws, rfl, rd, all⟩ := vw_dic cells rep seen
  exact call_listD calm _ _ _ _ _ _ _ I given ⟨p, ws, rfl, rd, fun q free => res.outL k cells (keys_rep all) free⟩
 ·exact told.elim
theorem all_ok (calm : X.calm = true) (hK : g.K = X.K) : CallR X (.builtin "all") (rDc g allD) := by
 rintro pins s σ H vs us Q I given ⟨xs, S, K, cells, reps, told, res⟩
 unfold allD at told
 split at told
 ·obtain ⟨v, rfl, rep⟩ := one_of reps
  obtain ⟨bs, seen, k⟩ := told
  obtain ⟨p, ws, rfl, seq, all⟩ := vw_lst cells rep seen
  rw [hK] at seq
  cases reps_bls bs all
  exact cr_all calm _ _ _ _ _ _ _ I given ⟨p, bs, rfl, seq, res.bl k cells⟩
 ·exact told.elim
theorem sum_ok (calm : X.calm = true) (hK : g.K = X.K) : CallR X (.builtin "sum") (rDc g sumD) := by
 rintro pins s σ H vs us Q I given ⟨xs, S, K, cells, reps, told, res⟩
 unfold sumD at told
 split at told
 ·obtain ⟨v, rfl, rep⟩ := one_of reps
  obtain ⟨bs, seen, k⟩ := told
  obtain ⟨p, ws, rfl, seq, all⟩ := vw_lst cells rep seen
  rw [hK] at seq
  cases reps_ints bs all
  exact cr_sum calm _ _ _ _ _ _ _ I given ⟨p, bs, rfl, seq, res.int k cells⟩
 ·exact told.elim
theorem str_ok : CallR X (.type "str") (rDc g strD) := by
 rintro pins s σ H vs us Q I given ⟨xs, S, K, cells, reps, told, res⟩
 unfold strD at told
 split at told
 ·obtain ⟨v, rfl, rep⟩ := one_of reps
  cases rep_int rep
  exact call_str_int _ _ _ _ _ _ _ I given ⟨_, rfl, told.1, res.str told.2 cells⟩
 ·exact told.elim
theorem tyV_dicV {x : D} {v : V} {K : PySem.W.Frag} (cells : CellsOk g S H) (rep : Rep g S H x v) (h : isDicV x S) : tyV K "dict" v H := by
 rcases h with ⟨kvs, rfl⟩ | ⟨p, kvs, rfl, at_p⟩
 ·simp only [Rep] at rep
  obtain ⟨p, ws, rfl, _, here, _⟩ := rep
  exact .inr (.inr (.inl ⟨rfl, .inl ⟨ws, here⟩⟩))
 ·cases rep_obj rep
  obtain ⟨ws, here, _⟩ := cells p _ at_p
  exact .inr (.inr (.inl ⟨rfl, .inl ⟨ws, here⟩⟩))
theorem dget_ok (hu : X.A.units + 1 < cLine) : MtR X "dict.get" (rDm g dgetD) := by
 rintro pins s σ H v vs u us Q I rv given ⟨x, xs, S, K, cells, rep, reps, told, res⟩
 unfold dgetD at told
 split at told
 ·obtain ⟨w, rfl, rep2⟩ := one_of reps
  obtain ⟨kvs, key, seen, is, k⟩ := told
  obtain ⟨p, ws, rfl, rd, all⟩ := vw_dic cells rep seen
  cases rep_key is rep2
  cases (show u = Value.ref p from rv)
  obtain ⟨uk, rfl, rk⟩ := Vals.one given
  refine d_get1 hu I (.inl ⟨ws, key, rd, rfl, rfl⟩) rk fun w' s' I' rw' => ?_
  rcases valK_of all key with ⟨z1, z2⟩ | ⟨d2, w2, z1, z2, like⟩
  ·rw [z2] at rw'
   rw [z1] at k
   exact ⟨_, H, I', rw', res.non k cells⟩
  ·rw [z2] at rw'
   rw [z1] at k
   exact ⟨_, H, I', rw', res.val k cells like⟩
 ·obtain ⟨w, w2, rfl, rep2, rep3⟩ := reps_two reps
  obtain ⟨kvs, key, seen, is, k⟩ := told
  obtain ⟨p, ws, rfl, rd, all⟩ := vw_dic cells rep seen
  cases rep_key is rep2
  cases (show u = Value.ref p from rv)
  obtain ⟨uk, ud, rfl, rk, rd2⟩ := Vals.two given
  refine d_get2 hu I (.inl ⟨ws, key, rd, rfl, rfl⟩) rk rd2 fun w' s' I' rw' => ?_
  rcases valK_of all key with ⟨z1, z2⟩ | ⟨d2, w3, z1, z2, like⟩
  ·rw [z2] at rw'
   rw [z1] at k
   exact ⟨_, H, I', rw', res.val k cells rep3⟩
  ·rw [z2] at rw'
   rw [z1] at k
   exact ⟨_, H, I', rw', res.val k cells like⟩
 ·exact told.elim
theorem dset_ok : MtR X "dict.setdefault" (rDm g dsetD) := by
 rintro pins s σ H v vs u us Q I rv given ⟨x, xs, S, K, cells, rep, reps, told, res⟩
 unfold dsetD at told
 split at told
 ·rename_i p k0 z0
  obtain ⟨w, w2, rfl, rep2, rep3⟩ := reps_two reps
  cases rep_obj rep
  cases (show u = Value.ref p from rv)
  obtain ⟨kvs, key, at_p, is, few, k1, k2⟩ := told
  obtain ⟨ws, here, all⟩ := cells p _ at_p
  cases rep_key is rep2
  obtain ⟨uk, ud, rfl, rk, rd2⟩ := Vals.two given
  refine d_setd I here rk rd2 (by rw [← (rpk_of all).length]; exact few) (fun v hv w' s' I' rw' => ?_) (fun hn w' s' I' rw' => ?_)
  ·rcases valK_of all key with ⟨z1, z2⟩ | ⟨d2, w3, z1, z2, like⟩
   ·rw [hv] at z2; cases z2
   ·rw [hv] at z2
    cases z2
    exact ⟨_, H, I', rw', res.val (k1 _ z1) cells like⟩
  ·rcases valK_of all key with ⟨z1, z2⟩ | ⟨d2, w3, z1, z2, like⟩
   ·have P := Post.write (H := H) (o := .dK (putK ws key w2)) (c := .dic (putD kvs key z0)) at_p
    exact ⟨_, _, I', rw', res _ _ _ _ (k2 z1) P (cells.write at_p ⟨_, upd_same, (putK_of all key rep3).mono P⟩) (rep3.mono P)⟩
   ·rw [hn] at z2; cases z2
 ·exact told.elim
theorem dpop2_ok : MtR X "dict.pop" (rDm g dpop2D) := by
 rintro pins s σ H v vs u us Q I rv given ⟨x, xs, S, K, cells, rep, reps, told, res⟩
 unfold dpop2D at told
 split at told
 ·rename_i p k0 z0
  obtain ⟨w, w2, rfl, rep2, rep3⟩ := reps_two reps
  cases rep_obj rep
  cases (show u = Value.ref p from rv)
  obtain ⟨kvs, key, at_p, is, k1, k2⟩ := told
  obtain ⟨ws, here, all⟩ := cells p _ at_p
  cases rep_key is rep2
  obtain ⟨uk, ud, rfl, rk, rd2⟩ := Vals.two given
  rcases valK_of all key with ⟨z1, z2⟩ | ⟨d2, w3, z1, z2, like⟩
  ·exact d_popD I here rk z2 fun s' I' => ⟨_, H, I', rd2, res.val (k2 z1) cells rep3⟩
  ·have P := Post.write (H := H) (o := .dK (dropK ws key)) (c := .dic (dropD kvs key)) at_p
   exact d_pop I here rk z2 (.inr ⟨_, rfl⟩) fun w' s' I' rw' => ⟨w3, _, I', rw', res _ _ _ _ (k1 _ z1) P (cells.write at_p ⟨_, upd_same, (dropK_of key all).mono P⟩) (like.mono P)⟩
 ·exact told.elim
theorem idx_ok (hK : g.K = X.K) : MtR X "list.index" (rDm g idxD) := by
 rintro pins s σ H v vs u us Q I rv given ⟨x, xs, S, K, cells, rep, reps, told, res⟩
 unfold idxD at told
 split at told
 ·rename_i d
  obtain ⟨w, rfl, rep2⟩ := one_of reps
  obtain ⟨ds, j, z, seen, fd, fds, at_j, same, other, k⟩ := told
  obtain ⟨p, ws, rfl, seq, all⟩ := vw_lst cells rep seen
  rw [hK] at seq
  obtain ⟨wz, at_w, rz⟩ := all.get at_j
  have fz : flatD z = true := List.all_eq_true.mp fds z (List.mem_of_getElem? at_j)
  refine mt_index _ _ _ _ _ _ _ _ _ I rv given ⟨p, ws, w, j, wz, rfl, rfl, seq, rep_flat fd rep2, rep_flats fds all, at_w, (eqV_rep fz fd rz rep2).trans same, fun m z' hm hz' => ?_, res.int k cells⟩
  have hlt : m < ds.length := by rw [all.length]; exact (List.getElem?_eq_some_iff.mp hz').1
  have at_m : ds[m]? = some ds[m] := List.getElem?_eq_getElem hlt
  obtain ⟨w', at_w', r'⟩ := all.get at_m
  rw [hz'] at at_w'
  cases at_w'
  have fm : flatD ds[m] = true := List.all_eq_true.mp fds _ (List.getElem_mem hlt)
  exact (eqV_rep fm fd r' rep2).trans (other m _ hm at_m)
 ·exact told.elim
end
end Sv
/-! SvS: len(set(x)), sorted(set(x)) for a list x of texts. -/
namespace Sv
open PySem PySem.Spec PyProof.Rows L2 PySem.Froz
/-- a set of texts lies at a, and it can be walked -/
def TxAt (P : Program) (w : World) (h : Heap) (a : Addr) (l : List Str) : Prop :=
 ∃ D : SD, h.get? a = some (sObj "set" D) ∧ TxOk P w D l ∧ Ris D.2.2.place.toList ∧ (w.params.followText "set-order" = true ∨ D.2.2.led = true)
theorem TxAt.keep {P : Program} {w : World} {h h' : Heap} {a : Addr} {l : List Str} (t : TxAt P w h a l) (k : ∀ o, h.get? a = some o → h'.get? a = some o) : TxAt P w h' a l := by
 obtain ⟨D, at_a, r⟩ := t
 exact ⟨D, k _ at_a, r⟩
theorem addTx_ris {h : Int} {v : Value} {D : SD} (r : Ris D.2.2.place.toList) : Ris (addTx h v D).2.2.place.toList ∧ (addTx h v D).2.2.led = D.2.2.led := by
 have r1 := layNew_ris D.2.2 D.1 h v r
 have l1 := layNew_led D.2.2 D.1 h v
 have key : ∀ t2 : SetTable, Ris t2.place.toList → t2.led = D.2.2.led → Ris (tailTx D.2.1 (layNew D.2.2 D.1 h v).1 t2 (layNew D.2.2 D.1 h v).2.2.1).2.2.place.toList ∧ (tailTx D.2.1 (layNew D.2.2 D.1 h v).1 t2 (layNew D.2.2 D.1 h v).2.2.1).2.2.led = D.2.2.led := fun t2 a b => by
  unfold tailTx
  split
  ·exact ⟨relayAll_ris _ _ _, (relayAll_led _ _ _).trans b⟩
  ·exact ⟨a, b⟩
 unfold addTx
 split
 ·exact key _ r1 l1
 ·exact key _ r1 l1
def addOne (l : List Str) (k : Str) : List Str := if k ∈ l then l else k :: l
section
variable {P : Program} {w : World} {A : Around} {E : Value → Shared → Prop} {s : Shared}
/-- a text that is there already -/
theorem old_x {a : Addr} {D : SD} {l : List Str} {k : Str} {u : Tok} {Q : Bool → Shared → Prop} (ho : s.heap.get? a = some (sObj "set" D)) (F : TxOk P w D l) (hk : k ∈ l) (hb : l.length < scanBound) (h : Q false s) :
  wpAny (model P w) A (setAddHashed a (.str k u) (hashStr w k)) Q E s := by
 obtain ⟨es, ep, t⟩ := D
 have few : es.size < scanBound := by rw [show es.size = l.length from F.sz]; exact hb
 obtain ⟨e, me, se⟩ := (F.mem k).mp hk
 unfold setAddHashed setAddHashedIn
 refine wpAny_holding (wpAny_bind (wpAny_setState_of ho rfl F.fit ?_))
 dsimp only
 rw [byScan_of rfl few F.el]
 simp only [↓reduceIte]
 unfold setAddByScan
 refine wpAny_bind ?_
 refine wpAny_bind (wpAny_rule ?_)
 refine wpAny_bind (wpAny_setScan_of (knd := strKind P w) (is_str k u) ho rfl F.fit F.el ?_)
 cases hf : List.findIdx? (fun e => (strKind P w).is k e.2) es.toList with
 | none => exact absurd se (by have := List.findIdx?_eq_none_iff.mp hf e me; simpa using this)
 | some j =>
  dsimp only
  exact wpAny_pure (wpAny_pure h)
theorem put_x {a : Addr} {l : List Str} {k : Str} {u : Tok} {Q : Bool → Shared → Prop} (t : TxAt P w s.heap a l) (few : l.length + 1 < scanBound)
  (h : ∀ b h', TxAt P w h' a (addOne l k) → (∀ b o, b ≠ a → s.heap.get? b = some o → h'.get? b = some o) → Q b { s with heap := h', toks := s.toks + 1 }) : wpAny (model P w) A (setAdd a (.str k u)) Q E s := by
 obtain ⟨D, at_a, F, r, led⟩ := t
 unfold setAdd
 refine wpAny_holding (wpAny_bind ((strKind P w).pyHash (k := k) (is_str k u) ?_))
 unfold addOne at h
 by_cases hk : k ∈ l
 ·rw [if_pos hk] at h
  exact old_x (s := { s with toks := s.toks + 1 }) at_a F hk (by omega) (h _ _ ⟨D, at_a, F, r, led⟩ fun _ _ _ e => e)
 ·rw [if_neg hk] at h
  obtain ⟨r2, l2⟩ := addTx_ris (h := hashStr w k) (v := .str k u) r
  refine add_x (s := { s with toks := s.toks + 1 }) at_a F hk few (h _ _ ⟨_, get_upd _ at_a rfl, add_ok u F, r2, led.imp id fun q => l2.trans q⟩ fun b o hb e => Heap.get?_update_of_ne _ (Ne.symm hb) e)
/-- every item of a walk goes into the set -/
theorem fill_x {a I : Addr} {fp wr : List Addr} {n : Nat} {Pv : Nat → Value → Prop} {St : Nat → Heap → Prop} {R : Result → Shared → Prop} (W : Walks P w A.in1 I fp wr n Pv St) (off : a ∉ fp) {zs : List Str} (len : zs.length = n) (few : n + 1 < scanBound)
  (val : ∀ i v, Pv i v → ∃ z u, zs[i]? = some z ∧ v = .str z u) : ∀ (rest : List Str) (i : Nat) (l : List Str) (s : Shared), zs.drop i = rest → i ≤ n → l.length ≤ i → St i s.heap → TxAt P w s.heap a l →
   (∀ h' tk, TxAt P w h' a (rest.foldl addOne l) → (∀ b o, b ∉ a :: wr → s.heap.get? b = some o → h'.get? b = some o) → R (.ok (.ret .none)) { s with heap := h', toks := tk }) →
   codeAny (model P w) A (.builtin "set.update.loop" ⟨[.ref a, .ref I], []⟩) R s := by
 have off2 : a ∉ wr := fun h => off (W.sub _ h)
 intro rest
 induction rest with
 | nil =>
  intro i l s hd hi hl st t h
  have e : i = n := by
   have := congrArg List.length hd
   rw [List.length_drop, List.length_nil] at this
   omega
  subst e
  refine codeAny_builtin PyProof.Rows.F.entry_set_update_loop ?_
  rw [Around.under_plainId PyProof.Rows.F.plain_set_update_loop _]
  show wpAny _ A.in1 (pyNext (.ref I) >>= _) _ _ s
  refine wpAny_bind (W.done s _ _ st fun h' tk k => ?_)
  exact wpAny_pure (h h' tk (t.keep fun o e => k _ o off2 e) fun b o hb e => k b o (fun z => hb (List.mem_cons_of_mem _ z)) e)
 | cons z rest ih =>
  intro i l s hd hi hl st t h
  have at_i : zs[i]? = some z := by
   have := congrArg (fun q : List Str => q[0]?) hd
   rw [List.getElem?_drop] at this
   exact this
  have lt : i < n := by rw [← len]; exact (List.getElem?_eq_some_iff.mp at_i).1
  have hd2 : zs.drop (i + 1) = rest := by
   have := congrArg (List.drop 1) hd
   rw [List.drop_drop] at this
   exact this
  refine codeAny_builtin PyProof.Rows.F.entry_set_update_loop ?_
  rw [Around.under_plainId PyProof.Rows.F.plain_set_update_loop _]
  show wpAny _ A.in1 (pyNext (.ref I) >>= _) _ _ s
  refine wpAny_bind (W.item i s _ _ lt st fun v h1 tk hv st1 k1 => ?_)
  obtain ⟨z', u, ez, rfl⟩ := val i v hv
  rw [at_i] at ez
  cases ez
  show wpAny _ A.in1 (holding [Value.str z u] (setAdd a (.str z u)) >>= _) _ _ _
  refine wpAny_bind (wpAny_holding ?_)
  refine put_x (s := { s with heap := h1, toks := tk }) (t.keep fun o e => k1 _ o off2 e) (by omega) fun b h2 t2 k2 => ?_
  refine wpAny_pure ⟨plainId_quiet PyProof.Rows.F.plain_set_update_loop _, ih (i + 1) (addOne l z) _ hd2 lt (by unfold addOne; split; omega; show l.length + 1 ≤ _; omega) (W.frame _ h1 h2 st1 fun b hb o e => k2 b o (fun q => off (q ▸ hb)) e) t2 fun h3 tk3 t3 k3 => ?_⟩
  refine h h3 tk3 t3 fun b o hb e => k3 b o hb ?_
  refine k2 b o (fun q => hb (q ▸ List.mem_cons_self)) ?_
  exact k1 b o (fun q => hb (List.mem_cons_of_mem _ q)) e
theorem strs_get : ∀ {us : List Value} {zs : List Str}, StrsAre us zs → ∀ {i : Nat} {v : Value}, us[i]? = some v → ∃ z u, zs[i]? = some z ∧ v = .str z u
 | _, _, .nil, i, v, h => by simp at h
 | _, _, .cons z t r, 0, v, h => ⟨z, t, rfl, (Option.some.inj h).symm⟩
 | _, _, .cons z t r, i + 1, v, h => strs_get r (i := i) h
/-- set(x) of a list of texts -/
theorem make_x {l : Addr} {us : List Value} {zs : List Str} {Q : Value → Shared → Prop} (hh : A.handled = none) (at_l : s.heap.IsList l us.toArray) (all : StrsAre us zs) (few : zs.length + 1 < scanBound)
  (h : ∀ h' tk, TxAt P w h' s.heap.objs.size (zs.foldl addOne []) → (∀ b o, s.heap.get? b = some o → h'.get? b = some o) → Q (.ref s.heap.objs.size) { s with heap := h', toks := tk }) :
  wpAny (model P w) A (call (.type "set") [.ref l]) Q E s := by
 have len : us.length = zs.length := all.length
 obtain ⟨mro, tail, of_mro⟩ := F.called_set.mro
 have made := F.called_set.made
 have sub := F.called_set.sub
 have proper := F.called_set.notType
 have can := F.called_set.canCreate
 have told := F.typeCall_set_1 (.ref l)
 let o0 : Obj := { cls := .type "set", dict := none, data := .set #[] 0 (.fresh 0 0 (!w.params.followText "set-order")) }
 have fills : ∀ (A' : Around) (R : Result → Shared → Prop), A'.handled = none → (∀ h' tk, TxAt P w h' s.heap.objs.size (zs.foldl addOne []) → (∀ b o, s.heap.get? b = some o → h'.get? b = some o) → R (.ok (.ret .none)) { s with heap := h', toks := tk }) →
   codeAny (model P w) A' (.builtin "set.update.loop" ⟨[.ref s.heap.objs.size, .ref (s.heap.push o0).objs.size], []⟩) R { s with heap := (s.heap.push o0).push { cls := .type "list_iterator", data := .fields #[.ref l, .int 0 0] } } := fun A' R hA' k => by
  obtain ⟨ol, hol, _⟩ := id at_l
  have lt := Heap.lt_size hol
  have sz : (s.heap.push o0).objs.size = s.heap.objs.size + 1 := size_push' _ _
  have ne : l ≠ (s.heap.push o0).objs.size := by rw [sz]; exact Nat.ne_of_lt (Nat.lt_succ_of_lt lt)
  have off : s.heap.objs.size ∉ [(s.heap.push o0).objs.size, l] := fun hm => by
   rw [sz] at hm
   rcases List.mem_cons.mp hm with q | q
   ·exact Nat.ne_of_lt (Nat.lt_succ_self _) q
   ·exact Nat.ne_of_gt lt (List.mem_singleton.mp q)
  have here : ((s.heap.push o0).push { cls := .type "list_iterator", data := .fields #[.ref l, .int 0 0] }).get? s.heap.objs.size = some o0 := Heap.get?_push_of_some _ (Heap.get?_push_size _ rfl)
  refine fill_x (Walks.list (by exact hA') _ l ne us.toArray) off (zs := zs) (by rw [List.size_toArray, len]) (by rw [List.size_toArray, len]; exact few) (fun i v hv => strs_get all (by rw [← List.getElem?_toArray]; exact hv)) zs 0 [] _ rfl (Nat.zero_le _) (Nat.zero_le _)
   ⟨⟨_, Heap.get?_push_size _ rfl, rfl, rfl⟩, (at_l.push _).push _⟩ ⟨(#[], 0, .fresh 0 0 (!w.params.followText "set-order")), here, .nil rfl, List.Pairwise.nil, ?_⟩ fun h' tk t k2 => k h' tk t fun b o e => ?_
  ·cases q : w.params.followText "set-order"
   ·exact .inr rfl
   ·exact .inl rfl
  ·have hb := Heap.lt_size e
   refine k2 b o (fun hm => ?_) (Heap.get?_push_of_some _ (Heap.get?_push_of_some _ e))
   rw [sz] at hm
   rcases List.mem_cons.mp hm with q | q
   ·exact Nat.ne_of_lt hb q
   ·exact Nat.ne_of_lt (Nat.lt_succ_of_lt hb) (List.mem_singleton.mp q)
 have init : ∀ (A' : Around) (R : Result → Shared → Prop), A'.handled = none → (∀ h' tk, TxAt P w h' s.heap.objs.size (zs.foldl addOne []) → (∀ b o, s.heap.get? b = some o → h'.get? b = some o) → R (.ok (.ret .none)) { s with heap := h', toks := tk }) →
   codeAny (model P w) A' (.call (.builtin "set.__init__") ⟨[.ref s.heap.objs.size, .ref l], []⟩) R { s with heap := s.heap.push o0 } := fun A' R hA' k => by
  have ty : Shared.TypeIs { s with heap := s.heap.push o0 } (.ref s.heap.objs.size) "set" := ⟨_, Heap.get?_push_size _ rfl, rfl⟩
  obtain ⟨ol, hol, cls, n, dat⟩ := id at_l
  obtain ⟨c0, d0, p0, x0⟩ := ol
  cases (show c0 = _ from cls)
  cases (show p0 = _ from dat)
  have here : (s.heap.push o0).get? l = some _ := Heap.get?_push_of_some o0 hol
  have noSet := F.sub_list_set
  have noFroz := F.sub_list_frozenset
  have noDict : (Value.type "list" == Value.type "dict") = false := by decide
  refine codeAny_call_builtin F.called_set.init.plain F.entry_set_init (check_set_init_1 ty ?_)
  unfold Builtin.«set.__init__» noKeywords Builtin.Frozenset.updateFrom
  generalize eI : pyIter = PI
  wp_walk
  subst eI
  refine wpAny_pyIter_list (at_l.push _) ?_
  refine wpAny_bind (wpAny_runValue (fills _ _ (by simp [hA']) fun h' tk t k2 => ?_))
  exact wpAny_pure (wpAny_pure (k h' tk t k2))
 refine wpAny_call (codeAny_of_tree ?_)
 show wpAny _ _ (callAny (.type "set") _) _ _ _
 refine wpAny_pure ⟨Code.quiet_builtin _ (by decide +kernel), codeAny_builtin F.entry_type_call ?_⟩
 rw [Around.under_plain (weight_type_call_type "set" [.ref l] []) rfl]
 repeat (any_goals (first | assumption | wp_step))
 refine codeAny_mono (code_set_led1 (.ref l) (E := E) (Q₁ := fun v s1 => v = .ref s.heap.objs.size ∧ s1 = { s with heap := s.heap.push o0 }) ⟨rfl, rfl⟩) fun r s1 hr => ?_
 match r, hr with
 | .error _, hr => exact hr
 | .ok (.ret _), ⟨e1, e2⟩ =>
  subst e1 e2
  have here : (s.heap.push o0).get? s.heap.objs.size = some o0 := Heap.get?_push_size _ rfl
  have ty : Shared.TypeIs { s with heap := s.heap.push o0 } (.ref s.heap.objs.size) "set" := ⟨_, here, rfl⟩
  have look := F.called_set.init.lookup
  have bound := F.called_set.init.bind (.ref s.heap.objs.size)
  repeat (any_goals (first | assumption | wp_step))
  refine codeAny_mono (init _ (fun r s2 => r = .ok (.ret .none) ∧ ∃ h' tk, s2 = { s with heap := h', toks := tk } ∧ TxAt P w h' s.heap.objs.size (zs.foldl addOne []) ∧ ∀ b o, s.heap.get? b = some o → h'.get? b = some o) (by simp [hh]) fun h' tk t k => ⟨rfl, h', tk, rfl, t, k⟩) fun r2 s2 hr2 => ?_
  obtain ⟨rfl, h', tk, rfl, t, k⟩ := hr2
  repeat (any_goals (first | assumption | wp_step))
  exact h h' tk t k
 | .ok .next, hr => exact hr.elim
 | .ok .brk, hr => exact hr.elim
 | .ok .cont, hr => exact hr.elim
end
/-- each text once -/
def uniq (zs : List Str) : List Str := zs.foldl addOne []
theorem addOne_up {l : List Str} {k : Str} (u : l.Nodup) : (addOne l k).Nodup := by
 unfold addOne
 split
 ·exact u
 ·rename_i h
  exact List.nodup_cons.mpr ⟨h, u⟩
theorem fold_up : ∀ {zs l : List Str}, l.Nodup → (zs.foldl addOne l).Nodup
 | [], _, u => u
 | _ :: zs, _, u => fold_up (zs := zs) (addOne_up u)
theorem uniq_up {zs : List Str} : (uniq zs).Nodup := fold_up List.nodup_nil
theorem fold_few : ∀ {zs l : List Str}, (zs.foldl addOne l).length ≤ l.length + zs.length
 | [], _ => Nat.le_refl _
 | y :: zs, l => by
  refine Nat.le_trans (fold_few (zs := zs)) ?_
  rw [List.length_cons]
  unfold addOne
  split
  ·omega
  ·rw [List.length_cons]; omega
theorem uniq_few {zs : List Str} : (uniq zs).length ≤ zs.length := by
 have := fold_few (zs := zs) (l := [])
 rw [List.length_nil, Nat.zero_add] at this
 exact this
/-- as many, all there, each once: the same in some order -/
theorem perm_of : ∀ {l m : List Str}, l.Nodup → (∀ z ∈ l, z ∈ m) → m.length ≤ l.length → m.Perm l
 | [], m, _, _, few => by
  cases m with
  | nil => exact .nil
  | cons _ _ => exact absurd few (by simp)
 | z :: l, m, u, sub, few => by
  obtain ⟨nz, u⟩ := List.nodup_cons.mp u
  have mz := sub z List.mem_cons_self
  refine (List.perm_cons_erase mz).trans (.cons z (perm_of u (fun y hy => (List.mem_erase_of_ne fun e => nz (by rw [← e]; exact hy)).mpr (sub y (List.mem_cons_of_mem _ hy))) ?_))
  rw [List.length_erase_of_mem mz]
  rw [List.length_cons] at few
  omega
section
variable {X : Cx} {pins : List (Addr × Obj)} {σ : L2.St} {H : Hp} {s : Shared} {a : Addr} {l : List Str}
theorem texts_of {P : Program} {w : World} {es : List (Int × Value)} (el : ElemsOf (PySem.strKind P w) es) : ∃ zs, StrsAre (es.map (·.2)) zs := by
 induction es with
 | nil => exact ⟨[], .nil⟩
 | cons e es ih =>
  obtain ⟨zs, h⟩ := ih fun e he => el e (List.mem_cons_of_mem _ he)
  obtain ⟨⟨k, is, _⟩, _⟩ := el e List.mem_cons_self
  obtain ⟨t, et⟩ := Value.isStrOf_shape (x := k) (v := e.2) is
  refine ⟨k :: zs, ?_⟩
  rw [List.map_cons, et]
  exact .cons k t h
theorem strs_mem : ∀ {us : List Value} {zs : List Str}, StrsAre us zs → ∀ {z : Str}, z ∈ zs ↔ ∃ t, Value.str z t ∈ us
 | _, _, .nil, z => ⟨fun h => absurd h List.not_mem_nil, fun ⟨_, h⟩ => absurd h List.not_mem_nil⟩
 | _, _, .cons y t r, z => by
  rw [List.mem_cons, strs_mem r]
  constructor
  ·rintro (rfl | ⟨u, h⟩)
   ·exact ⟨t, List.mem_cons_self⟩
   ·exact ⟨u, List.mem_cons_of_mem _ h⟩
  ·rintro ⟨u, h⟩
   rcases List.mem_cons.mp h with h | h
   ·injection h with h1 _
    exact .inl h1
   ·exact .inr ⟨u, h⟩
theorem strs_out : ∀ {us vs : List Value}, us.Perm vs → ∀ {zs : List Str}, StrsAre vs zs → ∃ ys, StrsAre us ys ∧ ys.Perm zs := by
 intro us vs p zs h
 have all : ∀ v ∈ us, ∃ z t, v = .str z t := fun v hv => by
  obtain ⟨i, hi⟩ := List.mem_iff_getElem?.mp (p.mem_iff.mp hv)
  obtain ⟨z, t, _, e⟩ := strs_get h hi
  exact ⟨z, t, e⟩
 let f : Value → Str := fun v => match v with
  | .str z _ => z
  | _ => ⟨#[]⟩
 have back : ∀ {us : List Value}, (∀ v ∈ us, ∃ z t, v = .str z t) → StrsAre us (us.map f) := fun {us} => by
  induction us with
  | nil => exact fun _ => .nil
  | cons v us ih =>
   intro h
   obtain ⟨z, t, rfl⟩ := h v List.mem_cons_self
   exact .cons z t (ih fun v hv => h v (List.mem_cons_of_mem _ hv))
 have of : ∀ {us : List Value} {zs : List Str}, StrsAre us zs → us.map f = zs := fun {us zs} h => by
  induction h with
  | nil => rfl
  | cons z t _ ih => rw [List.map_cons, ih]
 exact ⟨us.map f, back all, by rw [← of h]; exact p.map f⟩
/-- sorted of a set of texts -/
theorem srt_x (calm : X.calm = true) (I : Inv X pins σ H s) (t : TxAt X.prog X.w s.heap a l) (few : l.length < 64) (u : l.Nodup) {Q : VK} (q : ∀ p, H p = none → Q (.ref p) (upd H p (.lst ((sortS l).map V.str)))) :
  wpAny (model X.prog X.w) X.A (call (.builtin "sorted") [.ref a]) (EP X pins σ Q) X.xe s := by
 obtain ⟨⟨es, ep, tb⟩, at_a, F, r, led⟩ := t
 have sz : es.size = l.length := F.sz
 have el : ElemsOf (PySem.strKind X.prog X.w) es.toList := F.el
 have mem : ∀ k : Str, k ∈ l ↔ ∃ e ∈ es.toList, (PySem.strKind X.prog X.w).is k e.2 = true := F.mem
 obtain ⟨zs, hz⟩ := texts_of el
 have zl : zs.length = es.toList.length := by rw [← hz.length, List.length_map]
 have pz : zs.Perm l := perm_of u (fun k hk => by
  obtain ⟨e, he, is⟩ := (mem k).mp hk
  obtain ⟨t, et⟩ := Value.isStrOf_shape (x := k) (v := e.2) is
  exact (strs_mem hz).mpr ⟨t, List.mem_map.mpr ⟨e, he, et⟩⟩) (by rw [zl, Array.length_toList, sz]; exact Nat.le_refl _)
 refine Calls.call_function_entry PyProof.Rows.kind_sorted PyProof.Rows.plain_sorted PyProof.Rows.entry_sorted (PyProof.Rows.args_sorted1 _) ?_
 unfold Builtin.«sorted»
 refine wpAny_bind (m := checkCount "sorted" 1 1 _) (wpAny_pure ?_)
 refine wpAny_bind (collect_set (A := X.A.in1) (es := es) (ep := ep) (t := tb) (I.ok.hd calm) ⟨_, at_a, rfl, rfl⟩ F.fit (by rw [sz]; unfold scanBound; omega) r led fun s1 out k1 le1 g_1 o1 po => ?_)
 obtain ⟨ys, hy, py⟩ := strs_out po hz
 have yl : out.length = l.length := by rw [po.length_eq, List.length_map, Array.length_toList, sz]
 have e1 : s1 = { s with heap := s1.heap, gens := s1.gens, drawn := s1.drawn, toks := s1.toks } := by
  cases s1
  cases s
  cases o1
  rfl
 rw [e1]
 refine wpAny_bind (wpAny_newList ?_ (by rw [yl, sizeLine_eq]; omega))
 have at_p : (s1.heap.push (seqObj "list" out.toArray 0)).get? s1.heap.objs.size = some (seqObj "list" out.toArray 0) := Heap.get?_push_size _ rfl
 show wpAny _ _ _ _ _ { s with heap := s1.heap.push (seqObj "list" out.toArray 0), gens := s1.gens, drawn := s1.drawn, toks := s1.toks }
 refine wpAny_bind (wpAny_holding (wpAny_call_entry PyProof.Rows.slot_list_sort ⟨_, at_p, rfl⟩ PyProof.Rows.entry_list_sort
  (list_sort_treeK strKind_oneLt (s := { s with heap := s1.heap.push (seqObj "list" out.toArray 0), gens := s1.gens, drawn := s1.drawn, toks := s1.toks }) at_p hy.keysOf (fun v₁ v₂ rest e => keyKind_strs (by rw [← e]; exact hy)) (by rw [yl]; exact few) fun st hp hs => ⟨_, rfl, ?_⟩)
  (PyProof.Rows.args_list_sort _)))
 obtain ⟨qs, g1, g2, g3⟩ := sorted_out_str hy hp hs
 obtain ⟨e', at_q⟩ := PyProof.Rows.sortedHeap_at (vs := out) (out := (arrOf st).map (·.2)) at_p
 have eq : qs = sortS l := sorted_is (g2.trans (py.trans pz)) g3
 subst eq
 have ql : ((sortS l).map V.str).length ≤ sizeLine := by rw [List.length_map, show (sortS l).length = l.length from (List.mergeSort_perm l leS).length_eq, sizeLine_eq]; omega
 have k3 : ∀ b o, s.heap.get? b = some o → (sortedHeap (s1.heap.push (seqObj "list" out.toArray 0)) s1.heap.objs.size out ((arrOf st).map (·.2))).get? b = some o := fun b o e => by
  have e := k1 b o e
  have lt := Heap.lt_size e
  rw [PyProof.Rows.sortedHeap_old (Nat.ne_of_lt lt) (by rw [size_push']; exact Nat.lt_succ_of_lt lt)]
  exact Heap.get?_push_of_some _ e
 have free : H s1.heap.objs.size = none := I.hok.fresh le1
 have J : Inv X pins σ (upd H s1.heap.objs.size (.lst ((sortS l).map V.str))) { s with heap := sortedHeap (s1.heap.push (seqObj "list" out.toArray 0)) s1.heap.objs.size out ((arrOf st).map (·.2)), gens := s1.gens, drawn := s1.drawn, toks := s1.toks } :=
  I.call (ch := []) (Un.laid k3 le1 free) (I.hok.laid k3 le1 ⟨ql, ((arrOf st).map (·.2)).toList, e', vals_of_strs g1, by rw [Array.toArray_toList]; exact at_q⟩) (by rw [g_1]; exact I.bare) (fun _ z => nomatch z)
 exact wpAny_pure ⟨_, rfl, .ref s1.heap.objs.size, _, J, rfl, q _ free⟩
/-- len of a set of texts -/
theorem len_x (I : Inv X pins σ H s) (t : TxAt X.prog X.w s.heap a l) (few : l.length < 64) {Q : VK} (q : Q (.int (l.length : Nat)) H) :
  wpAny (model X.prog X.w) X.A (call (.builtin "len") [.ref a]) (EP X pins σ Q) X.xe s := by
 obtain ⟨⟨es, ep, tb⟩, at_a, F, r, led⟩ := t
 have sz : es.size = l.length := F.sz
 refine call_len_set (o := sObj "set" (es, ep, tb)) at_a ⟨rfl, rfl, rfl⟩ rfl F.fit (by rw [sz]; omega) ⟨.int (l.length : Nat), H, I.tok _, ⟨_, by rw [sz]⟩, q⟩
/-- sorted(set(x)), len(set(x)) -/
def tOfs (K : PySem.W.Frag) (srt : Bool) (ta : TE) : TE := fun σ H Q => ta σ H fun x H1 => ∃ p ks, x = .ref p ∧ SqL K H1 p (ks.map V.str) ∧ (ks.length < 64 ∨ ((uniq ks).length < 64 ∧ ks.length < 1000)) ∧
 if srt = true then ∀ q, H1 q = none → Q (.ref q) (upd H1 q (.lst ((sortS (uniq ks)).map V.str))) else Q (.int ((uniq ks).length : Nat)) H1
def ofsN (srt : Bool) : Str := if srt = true then "sorted" else "len"
end
section
variable {X : Cx}
theorem pe_ofs {srt : Bool} {a : Expr} {ta : TE} {p p2 q pos : Pos} (calm : X.calm = true) (hg : Gl X (ofsN srt)) (hm : X.mg (ofsN srt) = none) (hg2 : Gl X "set") (hm2 : X.mg "set" = none) (ha : PE X a ta)
  (na : starEach [a] X.env = (false, eval a X.env) :: starEach [] X.env) : PE X (.Call (.Name (ofsN srt) p) [.Call (.Name "set" p2) [a] [] q] [] pos) (tOfs X.K srt ta) := by
 refine ⟨fun pins s σ H Q I h => ?_⟩
 cases srt with
 | true =>
  refine Call_ (ld_blt I hg hm PyProof.Rows.boot_sorted ?_)
  refine PyProof.Rows.callWith_builtin1 (PyProof.Rows.args_cons ?_ rfl) rfl rfl
  refine Call_ (ld_blt I hg2 hm2 boot_set ?_)
  refine PyProof.Rows.callWith_type1 (PyProof.Rows.args_cons (thn (ha.run pins s σ H _ I h) fun v s1 ⟨x, H1, I1, r1, q1⟩ => PyProof.Rows.args_nil ?_) na) na rfl
  obtain ⟨l, ks, rfl, seq, few, q1⟩ := q1
  cases r1
  obtain ⟨its, rv, hl, _⟩ := I1.list seq
  refine make_x (us := its) (I1.ok.hd calm) hl.isList rv.strs (by unfold scanBound; rcases few with few | few <;> omega) fun h' tk t k => PyProof.Rows.args_nil ?_
  have I2 : Inv X pins σ H1 { s1 with heap := h', toks := tk } := I1.kept k
  have fu : (uniq ks).length < 64 := few.elim (fun few => Nat.lt_of_le_of_lt uniq_few few) (·.1)
  exact srt_x calm I2 t fu uniq_up q1
 | false =>
  refine Call_ (ld_blt I hg hm boot_len ?_)
  refine PyProof.Rows.callWith_builtin1 (PyProof.Rows.args_cons ?_ rfl) rfl rfl
  refine Call_ (ld_blt I hg2 hm2 boot_set ?_)
  refine PyProof.Rows.callWith_type1 (PyProof.Rows.args_cons (thn (ha.run pins s σ H _ I h) fun v s1 ⟨x, H1, I1, r1, q1⟩ => PyProof.Rows.args_nil ?_) na) na rfl
  obtain ⟨l, ks, rfl, seq, few, q1⟩ := q1
  cases r1
  obtain ⟨its, rv, hl, _⟩ := I1.list seq
  refine make_x (us := its) (I1.ok.hd calm) hl.isList rv.strs (by unfold scanBound; rcases few with few | few <;> omega) fun h' tk t k => PyProof.Rows.args_nil ?_
  have I2 : Inv X pins σ H1 { s1 with heap := h', toks := tk } := I1.kept k
  have fu : (uniq ks).length < 64 := few.elim (fun few => Nat.lt_of_le_of_lt uniq_few few) (·.1)
  exact len_x I2 t fu q1
end
end Sv
/-! SvV: every second one of a list, split, min and sorted of lists of data. -/
namespace Sv
open PySem PySem.Spec PyProof.Rows L2
/-- every second one from the k-th on (k 0 or 1) -/
def ev2 {α : Type} (k : Nat) (xs : List α) : List α := ((List.range ((xs.length + 1 - k) / 2)).map fun i => k + 2 * i).filterMap (xs[·]?)
theorem ev2_map {α β : Type} (f : α → β) (k : Nat) (xs : List α) : ev2 k (xs.map f) = (ev2 k xs).map f := by
 unfold ev2
 rw [List.length_map, List.map_filterMap]
 exact congrArg (fun f => List.filterMap f _) (funext fun i => List.getElem?_map)
theorem ev2_len {α : Type} (k : Nat) (xs : List α) : (ev2 k xs).length ≤ xs.length := by
 unfold ev2
 refine Nat.le_trans (List.length_filterMap_le _ _) ?_
 rw [List.length_map, List.length_range]
 omega
theorem pick_two (its : Array Value) : slicePick its none none (some 2) = (ev2 0 its.toList).toArray := by
 unfold slicePick ev2
 have b : sliceBounds none none (some 2) its.size = (0, (its.size : Int), 2) := rfl
 rw [b]
 have r : sliceRange 0 (its.size : Int) 2 = (List.range ((its.toList.length + 1 - 0) / 2)).map fun i => 0 + 2 * i := by
  unfold sliceRange
  rw [Array.length_toList]
  have e : (if (2 : Int) > 0 then (if (0 : Int) < (its.size : Int) then ((its.size : Int) - 0 + 2 - 1) / 2 else 0) else (if (0 : Int) > (its.size : Int) then (0 - (its.size : Int) - 2 - 1) / (-2) else 0)).toNat = (its.size + 1 - 0) / 2 := by
   rw [if_pos (by decide)]
   split <;> omega
  dsimp only
  rw [e]
  exact List.map_congr_left fun i _ => by omega
 rw [r]
 exact congrArg List.toArray (congrArg (fun f => List.filterMap f _) (funext fun i => Array.getElem?_toList.symm))
theorem pick_two1 (its : Array Value) : slicePick its (some 1) none (some 2) = (ev2 1 its.toList).toArray := by
 unfold slicePick ev2
 have b : sliceBounds (some 1) none (some 2) its.size = (max 0 (min 1 (its.size : Int)), (its.size : Int), 2) := rfl
 rw [b]
 have r : sliceRange (max 0 (min 1 (its.size : Int))) (its.size : Int) 2 = (List.range ((its.toList.length + 1 - 1) / 2)).map fun i => 1 + 2 * i := by
  rw [Array.length_toList]
  by_cases h0 : its.size = 0
  ·rw [h0]; rfl
  ·have e1 : max 0 (min 1 (its.size : Int)) = 1 := by omega
   rw [e1]
   unfold sliceRange
   have e : (if (2 : Int) > 0 then (if (1 : Int) < (its.size : Int) then ((its.size : Int) - 1 + 2 - 1) / 2 else 0) else (if (1 : Int) > (its.size : Int) then (1 - (its.size : Int) - 2 - 1) / (-2) else 0)).toNat = (its.size + 1 - 1) / 2 := by
    rw [if_pos (by decide)]
    split <;> omega
   dsimp only
   rw [e]
   exact List.map_congr_left fun i _ => by omega
 rw [r]
 exact congrArg List.toArray (congrArg (fun f => List.filterMap f _) (funext fun i => Array.getElem?_toList.symm))
theorem vals_at : ∀ {xs : List V} {us : List Value}, Vals xs us → ∀ i : Nat, (xs[i]? = none ∧ us[i]? = none) ∨ ∃ x u, xs[i]? = some x ∧ us[i]? = some u ∧ RelV x u
 | _, _, .nil, i => .inl ⟨rfl, rfl⟩
 | _, _, .cons r rs, 0 => .inr ⟨_, _, rfl, rfl, r⟩
 | _, _, .cons r rs, i + 1 => vals_at rs i
theorem vals_pick {xs : List V} {us : List Value} (r : Vals xs us) : ∀ is : List Nat, Vals (is.filterMap (xs[·]?)) (is.filterMap (us[·]?))
 | [] => .nil
 | i :: is => by
  rcases vals_at r i with ⟨e1, e2⟩ | ⟨x, u, e1, e2, q⟩
  ·rw [List.filterMap_cons_none e1, List.filterMap_cons_none e2]; exact vals_pick r is
  ·rw [List.filterMap_cons_some e1, List.filterMap_cons_some e2]; exact .cons q (vals_pick r is)
theorem vals_ev2 {xs : List V} {us : List Value} (r : Vals xs us) (k : Nat) : Vals (ev2 k xs) (ev2 k us) := by
 unfold ev2
 rw [r.length]
 exact vals_pick r _
section
variable {X : Cx} {e : Expr} {te : TE}
/-- the part ahead of the colons: none, or 1 -/
def loE (k : Nat) : Option Expr → Bool
 | none => k == 0
 | some (.Constant (.int 1) _ _) => k == 1
 | _ => false
theorem pe_ev2 {k kk : Nat} {lo : Option Expr} {p2 p3 pos : Pos} (he : PE X e te) (hlo : loE k lo = true) : PE X (.Subscript e (.Slice lo none (some (.Constant (.int 2) kk p2)) p3) pos) (fun σ H Q => te σ H fun x H1 => ∃ a xs, x = .ref a ∧ SqL X.K H1 a xs ∧ ∀ p, H1 p = none → Q (.ref p) (upd H1 p (.lst (ev2 k xs)))) := by
 obtain ⟨o, to, hp, hto, pick⟩ : ∃ (o : Option Int) (to : TO), PO X lo to ∧ (∀ σ H Q, Q o H → to σ H Q) ∧ ∀ its : Array Value, slicePick its o none (some 2) = (ev2 k its.toList).toArray := by
  unfold loE at hlo
  split at hlo
  ·rw [beq_iff_eq] at hlo; subst hlo
   exact ⟨none, _, po_none, fun _ _ _ q => q, pick_two⟩
  ·rw [beq_iff_eq] at hlo; subst hlo
   exact ⟨some 1, _, po_some pe_int, fun _ _ _ q => ⟨1, rfl, q⟩, pick_two1⟩
  ·cases hlo
 constructor
 intro pins s σ H Q inv asked
 apply Subscript_
 refine thn (he.run pins s σ H _ inv asked) ?_
 rintro v s1 ⟨x, H1, i1, r1, a, xs, rfl, at_a, q⟩
 cases r1
 apply wpAny_Slice
 refine thn (hp.run pins s1 σ H1 (fun z H2 => z = o ∧ H2 = H1) i1 (hto _ _ _ ⟨rfl, rfl⟩)) ?_
 rintro vl s2 ⟨z, H2, i2, part, rfl, rfl⟩
 refine thn (po_none.run pins s2 σ H2 (fun z H3 => z = none ∧ H3 = H2) i2 ⟨rfl, rfl⟩) ?_
 rintro vu s3 ⟨z2, H3, i3, part2, rfl, rfl⟩
 refine thn ((po_some pe_int).run pins s3 σ H3 (fun z H4 => z = some 2 ∧ H4 = H3) i3 ⟨2, rfl, rfl, rfl⟩) ?_
 rintro vs s4 ⟨z3, H4, i4, part3, rfl, rfl⟩
 have laid := i4.kept (t' := s4.toks) (h' := s4.heap.push { cls := .type "slice", data := .fields #[vl, vu, vs] }) fun b ob there => Heap.get?_push_of_some _ there
 obtain ⟨its, rel, at_its, fits⟩ := laid.list at_a
 have same : its.length = xs.length := rel.length.symm
 refine tail_any (ops := [.ref a, .ref s4.heap.objs.size]) at_its.isList.typeIs (PySem.slot_list_getitem.lookup) ?_ (by with_unfolding_all rfl)
 refine wpAny_getItem_list_slice at_its.isList (Heap.IsSliceOf.new _ vl vu vs) part part2 part3 (by decide) ?_ (by rw [List.size_toArray, same]; exact fits)
 rw [pick]
 refine ⟨.ref _, _, laid.laid (t' := s4.toks) (o := .lst (ev2 k xs)) (fun b ob there => Heap.get?_push_of_some _ there) (Nat.le_refl _) ?_, rfl, q _ (laid.hok.fresh (Nat.le_refl _))⟩
 exact ⟨Nat.le_trans (ev2_len k xs) fits, _, 0, vals_ev2 rel k, Heap.get?_push_size _ rfl⟩
end
section
variable {X : Cx} {g : Gd} {S : SS} {H : Hp}
theorem reps_ev2 {ds : List D} {vs : List V} (h : Reps g S H ds vs) (k : Nat) : Reps g S H (ev2 k ds) (ev2 k vs) := of_rp (pz_same (fun l => ev2 k l) (fun h l => ev2_map h k l) (rp_of h))
/-! split -/
def splitD (x : D) (xs : List D) (S : SS) (K : DK) : Prop := match x, xs with
 | .str z, [.str b] => (b.length == 0) = false ∧ z.length + 2 ≤ sizeLine ∧ K (.lst ((Txt.split z b).map D.str)) S
 | _, _ => False
theorem reps_strs' : ∀ (zs : List Str), Reps g S H (zs.map D.str) (zs.map V.str)
 | [] => by simp only [List.map_nil, Reps]
 | z :: zs => by
  simp only [List.map_cons, Reps]
  exact ⟨_, _, rfl, by simp only [Rep], reps_strs' zs⟩
theorem split_ok : MtR X "str.split" (rDm g splitD) := by
 rintro pins s σ H v vs u us Q inv rv given ⟨x, xs, S, K, cells, rep, reps, told, res⟩
 unfold splitD at told
 split at told
 ·rename_i z b
  obtain ⟨w, rfl, rep2⟩ := one_of reps
  cases rep_str rep
  cases rep_str rep2
  obtain ⟨h1, h2, k⟩ := told
  exact mt_split _ _ _ _ _ _ _ _ _ inv rv given ⟨z, b, rfl, rfl, h1, h2, fun p free => res.lst k cells (reps_strs' _) free⟩
 ·exact told.elim
/-! min and sorted of data -/
/-- the least of a list of data, the first of such -/
def minLD (xs : List D) (S : SS) (K : DK) : Prop := match xs with
 | [d] => ∃ x rest, vw S d = .lst (x :: rest) ∧ D.okd 60 (.lst (x :: rest)) = true ∧ PySem.W.AlikeAll (D.pys (x :: rest)) ∧ ∀ y, y ∈ x :: rest → y.py = PySem.W.minD x.py (D.pys rest) → K y S
 | [x, y] => D.okd 60 (.lst [x, y]) = true ∧ PySem.W.AlikeAll (D.pys [x, y]) ∧ ∀ z, z ∈ [x, y] → z.py = PySem.W.minD x.py [y.py] → K z S
 | _ => False
section
open PySem.W
variable {prog : Program} {w : World} {A : Around} {E : Value → Shared → Prop} {s : Shared}
/-- min of two, compared where a heap stands -/
theorem call_min_twoH {a b : Value} {Q : Value → Shared → Prop}
  (h : wpAny (model prog w) A.in1 (pyIter (.ref s.heap.objs.size)) (fun it s₂ => ∃ I fp wr G n P St H bt, it = .ref I ∧ WalksS prog w A.in1 I fp wr G n P St ∧ St 0 s₂ ∧ (∀ b ∈ fp, b < s₂.heap.objs.size) ∧ 0 < n ∧
   (∀ b o, H.get? b = some o → b ∉ wr) ∧ (∀ b o, H.get? b = some o → s₂.heap.get? b = some o) ∧ CmpIn prog w A.in1 .Lt H P bt ∧ ∀ v s', P (argBest bt (n - 1)) v → Moved wr G s₂ s' → Q v s') E { s with heap := s.heap.push { cls := .type "tuple", data := .seq #[a, b] } }) :
  wpAny (model prog w) A (call (.builtin "min") [a, b]) Q E s := by
 have hname : (toString "min" ++ toString ".loop" : String) = "min.loop" := by decide
 refine call_function_tree F.kind_min F.plain_min F.entry_min (F.args_min2 _ _) ?_
 show wpAny _ A.in1 (Builtin.Builtins.bindParams "min" ["key", "default"] 0 ⟨[], []⟩ >>= _) _ _ s
 refine wpAny_bind (wpAny_of_eq (show Builtin.Builtins.bindParams "min" ["key", "default"] 0 ⟨[], []⟩ = pure [none, none] from rfl) ?_)
 show wpAny _ A.in1 (newTuple [a, b] >>= _) _ _ s
 refine wpAny_bind (wpAny_newObj_type ?_)
 refine wpAny_bind (wpAny_mono h (fun it s₂ h₂ => ?_) fun _ _ e => e)
 obtain ⟨I, fp, wr, G, n, P, St, H, bt, rfl, W, hst, hfp, hn, hw, hkeep, hcmp, hQ⟩ := h₂
 refine wpAny_bind (wpAny_newObj_type ?_)
 have hSf : s₂.heap.objs.size ∉ fp := fun hm => Nat.lt_irrefl _ (hfp _ hm)
 rw [hname]
 refine wpAny_pure ⟨plainId_quiet F.plain_min_loop _, codeAny_min_loop_firstH W H hw bt hcmp s₂.heap.objs.size hSf (fresh_in hkeep) _ hn (fun b o e => Heap.get?_push_of_some _ (hkeep b o e)) (W.frame 0 s₂ _ s₂.toks hst (Nat.le_refl _) fun b _ o e => Heap.get?_push_of_some _ e) (Heap.get?_push_size _ rfl) fun v s' hP hm => ?_⟩
 exact hQ v s' hP (Moved.drop_new (tk := s₂.toks) hm (Nat.le_refl _))
theorem readsAll_up {h h' : Heap} (k : ∀ b o, h.get? b = some o → h'.get? b = some o) : ∀ {vs : List Value} {xs : List PyData} {as : List Addr}, ReadsAll h vs xs as → ReadsAll h' vs xs as
 | _, _, _, .nil => .nil
 | _, _, _, .cons r rs => .cons (reads_keeps k r) (readsAll_up k rs)
theorem min_two_data {a b : Value} {x y : PyData} {as : List Addr} {Q : Value → Shared → Prop} (hh : A.handled = none) (hr : ReadsAll s.heap [a, b] [x, y] as) (ha : AlikeAll [x, y]) (hu : A.units + 1 + PyData.depthAll [x, y] < cLine)
  (h : ∀ (i : Nat) v h' tk bs, [a, b][i]? = some v → Reads h' v (PySem.W.minD x [y]) bs → (∀ b o, s.heap.get? b = some o → h'.get? b = some o) → Q v { s with heap := h', toks := tk }) :
  wpAny (model prog w) A (call (.builtin "min") [a, b]) Q E s := by
 have hT : (s.heap.push { cls := .type "tuple", data := .seq #[a, b] }).IsTuple s.heap.objs.size #[a, b] := ⟨_, Heap.get?_push_size _ rfl, rfl, 0, rfl⟩
 have hr2 : ReadsAll (s.heap.push { cls := .type "tuple", data := .seq #[a, b] }) (#[a, b] : Array Value).toList [x, y] as := readsAll_up (fun c o e => Heap.get?_push_of_some _ e) hr
 refine call_min_twoH (iter_tupleW (A := A.in1) (s := { s with heap := s.heap.push { cls := .type "tuple", data := .seq #[a, b] } }) hh hT fun s₂ e W st hfp hw hk => ?_)
 refine ⟨_, _, _, _, _, _, _, s.heap.push { cls := .type "tuple", data := .seq #[a, b] }, _, rfl, W, st, hfp, Nat.zero_lt_succ 1, hw, hk, cmpIn_lt (A := A.in1) (s := { s with heap := s.heap.push { cls := .type "tuple", data := .seq #[a, b] } }) hr2 ha (by show A.units + 1 + _ < _; exact hu), fun v s' hP m => ?_⟩
 obtain ⟨h', tk, rfl, hk'⟩ := moved_old e rfl m
 obtain ⟨bs, r, _, _, _⟩ := readsAll_atA hr2 _ v hP
 have e2 := (argBest_fold dataLt PyData.none x [y] 1 (Nat.le_refl _)).2
 refine h _ v h' tk bs (by have := hP; rw [← Array.getElem?_toList] at this; exact this) (reads_keeps hk' (by unfold PySem.W.minD; have e3 : [y].take 1 = [y] := rfl; rw [e3] at e2; rw [← e2]; exact r)) fun c o e => hk' c o (Heap.get?_push_of_some _ e)
end
theorem depth_lst {ds : List D} (h : D.okd 60 (.lst ds) = true) : PyData.depthAll (D.pys ds) ≤ 59 := by
 have := (okd_lay (.lst ds) 60 h).2
 simp only [D.py, PyData.depth] at this
 omega
theorem pys_at : ∀ {ds : List D} {i : Nat}, (D.pys ds)[i]? = (ds[i]?).map D.py
 | [], _ => by simp [D.pys]
 | d :: ds, 0 => by simp [D.pys]
 | d :: ds, i + 1 => by simp [D.pys, pys_at (ds := ds) (i := i)]
theorem dps_ok {ds : List D} {vs : List V} (ok : D.okd 60 (.lst ds) = true) (all : Reps g S H ds vs) : DpAll g.K H vs (D.pys ds) := by
 simp only [D.okd, Bool.and_eq_true] at ok
 exact dps_of 59 ok.2 all
theorem lay_at {ds : List D} (ok : D.okd 60 (.lst ds) = true) {d : D} (h : d ∈ ds) : d.py.canLay0 = true := by
 simp only [D.okd, Bool.and_eq_true] at ok
 obtain ⟨_, ok⟩ := ok
 have all : ∀ (es : List D), D.okds 59 es = true → ∀ e ∈ es, D.okd 59 e = true := by
  intro es
  induction es with
  | nil => exact fun _ _ h => nomatch h
  | cons x es ih =>
   intro h e he
   simp only [D.okds, Bool.and_eq_true] at h
   rcases List.mem_cons.mp he with rfl | he
   ·exact h.1
   ·exact ih h.2 e he
 exact (okd_lay d 59 (all ds ok d h)).1
theorem minL_ok (calm : X.calm = true) (hK : g.K = X.K) (room : X.A.units + 65 < cLine) : CallR X (.builtin "min") (rDc g minLD) := by
 rintro pins s σ H vs us Q inv given ⟨xs, S, K, cells, reps, told, res⟩
 unfold minLD at told
 split at told
 ·rename_i d
  obtain ⟨v, rfl, rep⟩ := one_of reps
  obtain ⟨x, rest, seen, okd, al, k⟩ := told
  obtain ⟨a, ws, rfl, seq, all⟩ := vw_lst cells rep seen
  have dp := dps_ok okd all
  rw [hK] at seq dp
  obtain ⟨its, rel, at_its, fits⟩ := inv.list seq
  obtain ⟨as, reads⟩ := Dp.readsAll inv _ ws its dp rel
  have deep := depth_lst okd
  rw [Vals.ref1 given]
  refine PySem.W.min_list_data (inv.ok.hd calm) at_its.isList reads al (by show _ + 1 + PyData.depthAll (D.pys (x :: rest)) < _; omega) fun i u h' tk bs at_u least keep => ?_
  have at_u : its[i]? = some u := by rw [← at_u]; simp
  obtain ⟨w, u', e1, e2, rw'⟩ := (vals_at rel i).resolve_left fun h => by rw [h.2] at at_u; cases at_u
  rw [at_u] at e2
  cases e2
  have hlt : i < (x :: rest).length := by rw [all.length]; exact (List.getElem?_eq_some_iff.mp e1).1
  have e3 : (x :: rest)[i]? = some (x :: rest)[i] := List.getElem?_eq_getElem hlt
  obtain ⟨w2, e4, one⟩ := all.get e3
  rw [e1] at e4
  cases e4
  have mem := List.getElem_mem hlt
  obtain ⟨bs2, r2, _⟩ := PySem.W.readsAll_at reads i u at_u
  have e5 : (D.pys (x :: rest)).getD i .none = ((x :: rest)[i]).py := by rw [List.getD_eq_getElem?_getD, pys_at, e3]; rfl
  rw [e5] at r2
  have same := PySem.SeqAt.Reads.unique _ _ _ _ _ (lay_at okd mem) (PyProof.Rows.Reads.keeps keep r2) least
  exact ⟨w, H, inv.kept (t' := tk) keep, rw', res.val (k _ mem same) cells one⟩
 ·rename_i x y
  obtain ⟨okd, al, k⟩ := told
  have dp := dps_ok okd reps
  rw [hK] at dp
  obtain ⟨v1, v2, rfl, p3, p4⟩ := reps_two reps
  obtain ⟨as, reads⟩ := Dp.readsAll inv _ _ us dp given
  obtain ⟨u1, u2, rfl, r1, r2⟩ := vals2 given
  have deep := depth_lst okd
  refine min_two_data (inv.ok.hd calm) (x := x.py) (y := y.py) (as := as) (by simpa only [D.pys] using reads) (by simpa only [D.pys] using al) (by simp only [D.pys] at deep; omega) fun i u h' tk bs at_u least keep => ?_
  have reads : ReadsAll s.heap [u1, u2] [x.py, y.py] as := by simpa only [D.pys] using reads
  obtain ⟨bs2, rd, _⟩ := PySem.W.readsAll_at reads i u at_u
  match i, at_u with
  | 0, at_u =>
   cases at_u
   have same := PySem.SeqAt.Reads.unique _ _ _ _ _ (lay_at okd (List.mem_cons_self)) (PyProof.Rows.Reads.keeps keep rd) least
   exact ⟨v1, H, inv.kept (t' := tk) keep, r1, res.val (k x List.mem_cons_self same) cells p3⟩
  | 1, at_u =>
   cases at_u
   have same := PySem.SeqAt.Reads.unique _ _ _ _ _ (lay_at okd (List.mem_cons_of_mem _ List.mem_cons_self)) (PyProof.Rows.Reads.keeps keep rd) least
   exact ⟨v2, H, inv.kept (t' := tk) keep, r2, res.val (k y (List.mem_cons_of_mem _ List.mem_cons_self) same) cells p4⟩
  | n + 2, at_u => simp at at_u
 ·exact told.elim
def sortedLD (cell : Bool) (xs : List D) (S : SS) (K : DK) : Prop := match xs with
 | [d] => ∃ ds, vw S d = .lst ds ∧ D.okd 60 (.lst ds) = true ∧ PySem.W.AllAlike (ds.map D.py) ∧ PySem.W.Sortable (ds.map D.py) ∧ outL cell (ds.mergeSort (PySem.W.dataLe false D.py)) S K
 | _ => False
/-- values that are what some things by values are -/
theorem each_vals : ∀ {us : List Value} {ds : List D}, PySem.W.EachIs (fun u d => ∃ v, RelV v u ∧ Rep g S H d v) us ds → ∃ vs, Vals vs us ∧ Reps g S H ds vs
 | _, _, .nil => ⟨[], .nil, by simp only [Reps]⟩
 | _, _, .cons ⟨v, r, q⟩ more => by
  obtain ⟨vs, a, b⟩ := each_vals more
  exact ⟨v :: vs, .cons r a, by simp only [Reps]; exact ⟨_, _, rfl, q, b⟩⟩
theorem vals_each : ∀ {us : List Value} {ds : List D} {vs : List V}, Vals vs us → Reps g S H ds vs → PySem.W.EachIs (fun u d => ∃ v, RelV v u ∧ Rep g S H d v) us ds
 | _, [], _, r, all => by
  simp only [Reps] at all
  subst all
  cases r
  exact .nil
 | _, d :: ds, _, r, all => by
  simp only [Reps] at all
  obtain ⟨v, q, rfl, one, more⟩ := all
  cases r with
  | cons r1 r2 => exact .cons ⟨v, r1, one⟩ (vals_each r2 more)
theorem reads_each {h : Heap} : ∀ {us : List Value} {ds : List D} {as : List Addr}, ReadsAll h us (D.pys ds) as → PySem.W.EachIs (fun u (d : D) => ∃ as, Reads h u d.py as) us ds
 | _, [], _, r => by
  simp only [D.pys] at r
  cases r
  exact .nil
 | _, d :: ds, _, r => by
  simp only [D.pys] at r
  cases r with
  | cons r1 r2 => exact .cons ⟨_, r1⟩ (reads_each r2)
theorem sortedL_ok (calm : X.calm = true) (hK : g.K = X.K) (room : X.A.units + 65 < cLine) (cell : Bool) : CallR X (.builtin "sorted") (rDc g (sortedLD cell)) := by
 rintro pins s σ H vs us Q inv given ⟨xs, S, K, cells, reps, told, res⟩
 unfold sortedLD at told
 split at told
 ·rename_i d
  obtain ⟨v, rfl, rep⟩ := one_of reps
  obtain ⟨ds, seen, okd, al, so, k⟩ := told
  obtain ⟨a, ws, rfl, seq, all⟩ := vw_lst cells rep seen
  have dp := dps_ok okd all
  rw [hK] at seq dp
  obtain ⟨its, rel, at_its, fits⟩ := inv.list seq
  obtain ⟨as, reads⟩ := Dp.readsAll inv _ ws its dp rel
  have deep := depth_lst okd
  have each : ∀ d ∈ ds, d.py.depth ≤ 59 := by
   have gen : ∀ es : List D, PyData.depthAll (D.pys es) ≤ 59 → ∀ d ∈ es, d.py.depth ≤ 59 := by
    intro es
    induction es with
    | nil => exact fun _ _ h => nomatch h
    | cons x es ih =>
     intro h d hd
     simp only [D.pys, PyData.depthAll] at h
     rcases List.mem_cons.mp hd with rfl | hd
     ·omega
     ·exact ih (by omega) d hd
   exact gen ds deep
  rw [Vals.ref1 given]
  refine PySem.W.sorted_data (bs := ds) (enc := D.py) (R := fun u d => ∃ v, RelV v u ∧ Rep g S H d v) at_its.isList (vals_each rel all) (reads_each reads) al so (by rw [all.length]; exact fits) (fun b hb => by have := each b hb; omega) fun out len is => ?_
  obtain ⟨vs2, r1, r2⟩ := each_vals is
  obtain ⟨ep, here⟩ := PyProof.Rows.sortedAll_at s.heap its out.toArray
  have few : vs2.length ≤ sizeLine := by rw [r1.length, len, all.length]; exact fits
  refine ⟨.ref _, upd H (s.heap.objs.size + 1) (.lst vs2), inv.laid (t' := s.toks) (fun _ _ => PyProof.Rows.sortedAll_old) (Nat.le_succ _) ⟨few, out, ep, r1, here⟩, rfl, res.outL k cells r2 (inv.hok.fresh (Nat.le_succ _))⟩
 ·exact told.elim
end
end Sv
/-! Sv4: the resolved text, its reading on values, its check against the row's text. -/
namespace Sv
open PySem PySem.Spec PyProof.Rows L2
open L2H (RoomH)
/-! ### readings by values -/
abbrev XK' := Addr → List (Str × D) → SS → Prop
abbrev XD' := Addr → List (Str × D) → DS → SS → Prop
abbrev TR := Option (Addr × Obj) → List D → SS → DK → XK' → Prop
structure SE where
 nx : DS → SS → Prop
 rt : DK
 bk : DS → SS → Prop
 ct : DS → SS → Prop
def XDk (g : Gd) (S : SS) (H : Hp) (d : Option Addr) (fs : List (Str × D)) : Prop := (d = none ∧ fs = []) ∨ ∃ dd ws, d = some dd ∧ S dd = none ∧ H dd = some (.xd ws) ∧ RepF g S H fs ws
def ResX (g : Gd) (S : SS) (H : Hp) (Y : XK') (E : XK) : Prop := ∀ C fs S' d H', Y C fs S' → Post S H S' H' → CellsOk g S' H' → XDk g S' H' d fs → E (.ref C) d H'
def spD (g : Gd) (T : TR) : SpM := fun m vs H Q E => ∃ ds S K Y, CellsOk g S H ∧ Reps g S H ds vs ∧ T m ds S K Y ∧ Res g S H K Q ∧ ResX g S H Y E
def ResW (g : Gd) (S : SS) (H : Hp) (Y : XD') (W : WX) : Prop := ∀ C fs δ' S' d σ' H', Y C fs δ' S' → Post S H S' H' → Rel g S' H' δ' σ' → XDk g S' H' d fs → W (.ref C) d σ' H'
structure ResS (g : Gd) (S : SS) (H : Hp) (F : SE) (D : Ends) : Prop where
 nx : ∀ δ' S' σ' H', F.nx δ' S' → Post S H S' H' → Rel g S' H' δ' σ' → D.nx σ' H'
 rt : Res g S H F.rt D.rt
 bk : ∀ δ' S' σ' H', F.bk δ' S' → Post S H S' H' → Rel g S' H' δ' σ' → D.bk σ' H'
 ct : ∀ δ' S' σ' H', F.ct δ' S' → Post S H S' H' → Rel g S' H' δ' σ' → D.ct σ' H'
/-- an iterator's turns by values -/
structure ItOk (g : Gd) (S1 : SS) (H1 : Hp) (J : It) (ds : List D) (ok : SS → Prop) : Prop where
 go : ∀ i S H, i < ds.length → Post S1 H1 S H → CellsOk g S H → ok S → J.go i H
 yl : ∀ i S H x H' d, ds[i]? = some d → Post S1 H1 S H → CellsOk g S H → ok S → J.yld i H x H' → Post S H S H' ∧ CellsOk g S H' ∧ Rep g S H' d x
 st : ∀ i S H, ds.length ≤ i → Post S1 H1 S H → CellsOk g S H → ok S → J.stop i H
abbrev RdE := DS → SS → XD' → DK → Prop
abbrev RdT := DS → SS → XD' → (Bool → SS → Prop) → Prop
abbrev RdL := DS → SS → XD' → (List D → SS → Prop) → Prop
abbrev RdI := DS → SS → XD' → (List D → (SS → Prop) → SS → Prop) → Prop
abbrev RdS := DS → SS → XD' → SE → Prop
section
variable (g : Gd) (W : WX)
def LE (t : RdE) : TE := fun σ H Q => ∃ δ S Y K, Rel g S H δ σ ∧ t δ S Y K ∧ Res g S H K Q ∧ ResW g S H Y W
def LT (t : RdT) : TT := fun σ H Q => ∃ δ S Y K, Rel g S H δ σ ∧ t δ S Y K ∧ (∀ b S' H', K b S' → Post S H S' H' → CellsOk g S' H' → Q b H') ∧ ResW g S H Y W
def LA (t : RdL) : TA := fun σ H Q => ∃ δ S Y K, Rel g S H δ σ ∧ t δ S Y K ∧ (∀ ds S' vs H', K ds S' → Post S H S' H' → CellsOk g S' H' → Reps g S' H' ds vs → Q vs H') ∧ ResW g S H Y W
def LI (t : RdI) : TI := fun σ H R => ∃ δ S Y K, Rel g S H δ σ ∧ t δ S Y K ∧ (∀ ds ok S' H' J, K ds ok S' → Post S H S' H' → CellsOk g S' H' → ItOk g S' H' J ds ok → R J H') ∧ ResW g S H Y W
def LS (t : RdS) : TS := fun D σ H => ∃ δ S Y F, Rel g S H δ σ ∧ t δ S Y F ∧ ResS g S H F D ∧ ResW g S H Y W
end
section
variable {g : Gd} {W : WX} {S S1 S' : SS} {H H1 H' : Hp} {δ : DS} {σ : L2.St}
theorem Rel.mono (P : Post S H S' H') (c : CellsOk g S' H') (h : Rel g S H δ σ) : Rel g S' H' δ σ := ⟨h.sl.mono P, c⟩
theorem XDk.mono {d : Option Addr} {fs : List (Str × D)} (P : Post S H S' H') (h : XDk g S H d fs) : XDk g S' H' d fs := by
 rcases h with h | ⟨dd, ws, e, n, q, r⟩
 ·exact .inl h
 ·exact .inr ⟨dd, ws, e, P.none_of n q, P.kp _ _ n q, r.mono P⟩
theorem Res.mono {K : DK} {Q : VK} (P : Post S H S1 H1) (h : Res g S H K Q) : Res g S1 H1 K Q := fun d S' v H' k p c r => h d S' v H' k (P.trans p) c r
theorem ResX.mono {Y : XK'} {E : XK} (P : Post S H S1 H1) (h : ResX g S H Y E) : ResX g S1 H1 Y E := fun C fs S' d H' y p c x => h C fs S' d H' y (P.trans p) c x
theorem ResW.mono {Y : XD'} (P : Post S H S1 H1) (h : ResW g S H Y W) : ResW g S1 H1 Y W := fun C fs δ' S' d σ' H' y p c x => h C fs δ' S' d σ' H' y (P.trans p) c x
theorem ResS.mono {F : SE} {D : Ends} (P : Post S H S1 H1) (h : ResS g S H F D) : ResS g S1 H1 F D :=
 ⟨fun δ' S' σ' H' y p c => h.nx δ' S' σ' H' y (P.trans p) c, h.rt.mono P, fun δ' S' σ' H' y p c => h.bk δ' S' σ' H' y (P.trans p) c, fun δ' S' σ' H' y p c => h.ct δ' S' σ' H' y (P.trans p) c⟩
end
section
variable {X : Cx} {e : Expr}
theorem PE.imp {t t' : TE} (h : PE X e t) (w : ∀ σ H Q, t' σ H Q → t σ H Q) : PE X e t' := ⟨fun pins s σ H Q I q => h.run pins s σ H Q I (w σ H Q q)⟩
theorem PT.imp {t t' : TT} (h : PT X e t) (w : ∀ σ H Q, t' σ H Q → t σ H Q) : PT X e t' := ⟨fun pins s σ H Q I q => h.run pins s σ H Q I (w σ H Q q)⟩
theorem PW.imp {t t' : TT} (h : PW X e t) (w : ∀ σ H Q, t' σ H Q → t σ H Q) : PW X e t' := ⟨fun whole pins s σ H Q I q => h.run whole pins s σ H Q I (w σ H Q q)⟩
theorem PA.imp {es : List Expr} {t t' : TA} (h : PA X es t) (w : ∀ σ H Q, t' σ H Q → t σ H Q) : PA X es t' := ⟨fun pos pins s σ H Q I q => h.run pos pins s σ H Q I (w σ H Q q)⟩
theorem PI.imp {tg : Expr} {t t' : TI} (h : PI X tg e t) (w : ∀ σ H Q, t' σ H Q → t σ H Q) : PI X tg e t' := ⟨fun pins s σ H Q I q => h.run pins s σ H Q I (w σ H Q q)⟩
theorem PS.imp {st : Stmt} {t t' : TS} (h : PS X st t) (w : ∀ D σ H, t' D σ H → t D σ H) : PS X st t' := ⟨fun pins s σ H D I q => h.run pins s σ H D I (w D σ H q)⟩
theorem PSs.imp {st : List Stmt} {t t' : TS} (h : PSs X st t) (w : ∀ D σ H, t' D σ H → t D σ H) : PSs X st t' := ⟨fun pins s σ H D I q => h.run pins s σ H D I (w D σ H q)⟩
end
/-! ### the resolved text -/
inductive RC where
 | non | bl (b : Bool) | int (i : Int) | str (x : Str)
def RC.d : RC → D
 | .non => .non | .bl b => .bl b | .int i => .int i | .str x => .str x
/-- builtins that are called -/
inductive Bn where
 | len | abs | max | min | rpr | int | tup | lst (cell : Bool) | srt (cell : Bool) | dic (cell : Bool) | dcp (cell : Bool) | all | sum | str | lsk (cell : Bool) | mnl | srl (cell : Bool)
def Bn.nm : Bn → Str
 | .len => "len" | .abs => "abs" | .max => "max" | .min => "min" | .rpr => "repr" | .int => "int" | .tup => "tuple" | .lst _ => "list" | .srt _ => "sorted" | .dic _ => "dict" | .dcp _ => "dict" | .all => "all" | .sum => "sum" | .str => "str" | .lsk _ => "list" | .mnl => "min" | .srl _ => "sorted"
def Bn.den : Bn → List D → SS → DK → Prop
 | .len => lenD | .abs => absD | .max => maxD | .min => minD | .rpr => reprD | .int => intD | .tup => tupleD | .lst cell => listD cell | .srt cell => sortedD cell | .dic cell => dictD cell | .dcp cell => dictPD cell | .all => allD | .sum => sumD | .str => strD | .lsk cell => listKD cell | .mnl => minLD | .srl cell => sortedLD cell
def Bn.needs (m0 : Option (Addr × Obj)) : Bn → Prop
 | .len => True | .abs => True | .max => m0 = none | .min => m0 = none | .rpr => True | .int => True | .tup => True | .lst _ => True | .srt _ => m0 = none | .dic _ => True | .dcp _ => m0 = none | .all => m0 = none | .sum => m0 = none | .str => True | .lsk _ => m0 = none | .mnl => m0 = none | .srl _ => m0 = none
/-- methods of the built-in types -/
inductive Mn where
 | join | upper | app | ins | pop | clr | cnt | dpop | upd | dget | dset | dpop2 | idx | spl
def Mn.nm : Mn → Str
 | .join => "join" | .upper => "upper" | .app => "append" | .ins => "insert" | .pop => "pop" | .clr => "clear" | .cnt => "count" | .dpop => "pop" | .upd => "update" | .dget => "get" | .dset => "setdefault" | .dpop2 => "pop" | .idx => "index" | .spl => "split"
def Mn.den : Mn → D → List D → SS → DK → Prop
 | .join => joinD | .upper => upperD | .app => appD | .ins => insD | .pop => popD | .clr => clearD | .cnt => cntD | .dpop => dpopD | .upd => updD | .dget => dgetD | .dset => dsetD | .dpop2 => dpop2D | .idx => idxD | .spl => splitD
/-- what is called must be, ahead of the arguments -/
def isStrD (x : D) : Prop := ∃ z, x = .str z
def isLstD (x : D) (S : SS) : Prop := ∃ ds, vw S x = .lst ds
def isDicD (x : D) (S : SS) : Prop := ∃ p kvs, x = .obj p ∧ S p = some (.dic kvs)
def Mn.rc : Mn → D → SS → Prop
 | .join => fun x _ => isStrD x | .upper => fun x _ => isStrD x
 | .app => isLstD | .ins => isLstD | .pop => isLstD | .clr => isLstD | .cnt => isLstD | .dpop => isDicD | .upd => isDicD | .dget => isDicV | .dset => isDicD | .dpop2 => isDicD | .idx => isLstD | .spl => fun x _ => isStrD x
/-- a def of the row: a function, or a method of a class -/
inductive En where
 | fn (x : Str) | mt (C m : Str)
 deriving DecidableEq
/-- a class that isinstance is asked for -/
inductive Cn where
 | ty (n : String) | own (j : Nat)
mutual
inductive RE where
 | var (i : Nat) | con (c : RC) | glb (j : Nat)
 | bin (op : Operator) (a b : RE) | neg (a : RE) | nt (a : RE)
 | and (es : RL) | or (es : RL) | ife (c a b : RE)
 | cmp (op : CmpOp) (a b : RE) | chn (o1 o2 : CmpOp) (a b c : RE)
 | lst (cell : Bool) (es : RL) | tup (es : RL)
 | ix (a b : RE) | sl (a : RE) (lo hi : RO) | fld (a : RE) (f : Str)
 | call (j : Nat) (es : RL) | bi (b : Bn) (es : RL) | isi (a : RE) (c : Cn)
 | lc (cell : Bool) (elt : RE) (tg : List Nat) (one : Bool) (it : RI) (c : RO) (own : List (Str × Nat))
 | dct (cell : Bool) (ps : RQ) | mth (b : Mn) (a : RE) (es : RL) | om (j : Nat) (m : Str) (a : RE) (es : RL) | mk (j : Nat) (es : RL)
 | lck (e : RE) | fz (e : RE) | vls (cell : Bool) (a : RE) | ofs (srt : Bool) (a : RE) | rev (cell : Bool) (a : RE) | sl2 (k : Nat) (a : RE) | nev
inductive RO where
 | nn | ss (e : RE)
inductive RL where
 | nil | cons (e : RE) (es : RL)
inductive RQ where
 | nil | cons (k v : RE) (r : RQ)
inductive RI where
 | lst (e : RE) | tup (e : RE) | rng1 (a : RE) | rng2 (a b : RE) | str (e : RE) | keys (e : RE) | enum (e : RE) | items (e : RE)
end
/-- its turns are pairs: the target is a tuple -/
def RI.two : RI → Bool
 | .enum _ => true | .items _ => true | _ => false
structure SN where
 N : List Str
 fns : List En
 cls : List Str
 gvs : List Str
structure Gm extends Gd where
 m0 : Option (Addr × Obj)
 fn : Bool → Nat → Option TR
 gv : Nat → D
 cl : Nat → Addr
 mc : Nat → Addr
def Cn.val (G : Gm) : Cn → Value
 | .ty n => .type n | .own j => .ref (G.cl j)
/-- a value's type -/
def tyD (S : SS) : D → Option Value
 | .non => some (.type "NoneType") | .bl _ => some (.type "bool") | .int _ => some (.type "int") | .str _ => some (.type "str")
 | .lst _ => some (.type "list") | .tup _ => some (.type "tuple") | .dic _ => some (.type "dict")
 | .obj a => match S a with
  | some (.lst _) => some (.type "list") | some (.dic _) => some (.type "dict") | some (.loc _) => some (.type "dict") | some (.ins C _) => some (.ref C) | none => none
 | .exc _ _ C _ => some (.ref C)
 | .err _ C _ _ => some (.ref C)
def signsD (z : Str) : List D := z.cps.toList.map fun c => .str ⟨#[c]⟩
def enumD (ds : List D) : List D := ds.zipIdx.map fun p => .tup [.int (p.2 : Nat), p.1]
def keysD : List (D × D) → Option (List (Key × D))
 | [] => some []
 | (k, v) :: r => match keyD k, keysD r with
  | some key, some q => some ((key, v) :: q)
  | _, _ => none
def rngD (lo : Int) (n : Nat) : List D := (List.range n).map fun (i : Nat) => .int (lo + (i : Int))
/-- what the written part must say of a class: the library's own kits -/
abbrev InsF : PySem.W.Frag → Addr → Prop := C8.InsC
abbrev ExcF : PySem.W.Frag → Addr → Prop := ExcC
def tyOk (G : Gm) (S : SS) : D → Prop
 | .obj a => ∀ C fs, S a = some (.ins C fs) → InsF G.K C
 | .exc y oe C _ => G.m0 = some (y, oe) ∧ ExcF G.K C
 | .err _ C _ _ => ExcF G.K C
 | _ => True
def fldD (G : Gm) (f : Str) (x : D) (S : SS) (K : DK) : Prop := match x with
 | .obj a => ∃ C fs d, S a = some (.ins C fs) ∧ Cls G.K C ∧ NoAttr G.K C f ∧ fs.lookup f = some d ∧ K d S
 | .exc y oe C fs => G.m0 = some (y, oe) ∧ ExcF G.K C ∧ NoAttr G.K C f ∧ ∃ d, fs.lookup f = some d ∧ K d S
 | .err _ C fs _ => ExcF G.K C ∧ NoAttr G.K C f ∧ ∃ d, fs.lookup f = some d ∧ K d S
 | _ => False
def omD (G : Gm) (j : Nat) (m : Str) (x : D) (S : SS) (p : Addr) : Prop := x = .obj p ∧ ∃ fs, S p = some (.ins (G.mc j) fs) ∧ fs.lookup m = none
def noX : XD' := fun _ _ _ _ => False
def setAll : DS → List Nat → List D → DS
 | δ, i :: is, d :: ds => setAll (δ.set i (some d)) is ds
 | δ, _, _ => δ
def denTg (tg : List Nat) (one : Bool) (d : D) (δ : DS) (S : SS) (Q : DS → SS → Prop) : Prop :=
 if one = true then (match tg with
  | [i] => Q (δ.set i (some d)) S
  | _ => False)
 else ∃ ds, vw S d = .tup ds ∧ ds.length = tg.length ∧ Q (setAll δ tg ds) S
def wipeD (δ : DS) : List Nat → DS
 | [] => δ
 | v :: vs => (wipeD δ vs).set v none
mutual
def den (G : Gm) : RE → RdE
 | .var i => fun δ S _ K => match δ[i]? with
  | some (some d) => K d S
  | _ => False
 | .con c => fun _ S _ K => K c.d S
 | .glb j => fun _ S _ K => K (G.gv j) S
 | .bin op a b => fun δ S Y K => den G a δ S Y fun x S1 => den G b δ S1 Y fun y S2 => opD op x y S2 K
 | .neg a => fun δ S Y K => den G a δ S Y fun x S1 => ∃ i, x = .int i ∧ K (.int (-i)) S1
 | .nt a => fun δ S Y K => den G a δ S Y fun x S1 => truD x S1 fun b => K (.bl (!b)) S1
 | .and es => denAnd G es
 | .or es => denOr G es
 | .ife c a b => fun δ S Y K => denT G c δ S Y fun k S1 => if k = true then den G a δ S1 Y K else den G b δ S1 Y K
 | .cmp op a b => fun δ S Y K => den G a δ S Y fun x S1 => den G b δ S1 Y fun y S2 => cmpE op x y S2 K
 | .chn o1 o2 a b c => fun δ S Y K => den G a δ S Y fun x S1 => den G b δ S1 Y fun y S2 => cmpE o1 x y S2 fun z S3 => ∃ k, z = .bl k ∧
   if k = true then den G c δ S3 Y fun w S4 => cmpE o2 y w S4 K else K (.bl false) S3
 | .lst cell es => fun δ S Y K => dens G es δ S Y fun ds S1 => ds.length ≤ sizeLine ∧ if cell = true then ∀ p, S1 p = none → K (.obj p) (S1.set p (.lst ds)) else K (.lst ds) S1
 | .tup es => fun δ S Y K => dens G es δ S Y fun ds S1 => ds.length ≤ sizeLine ∧ K (.tup ds) S1
 | .ix a b => fun δ S Y K => den G a δ S Y fun x S1 => den G b δ S1 Y fun y S2 => ixD x y S2 K
 | .sl a lo hi => fun δ S Y K => den G a δ S Y fun x S1 => denO G lo δ S1 Y fun l S2 => denO G hi δ S2 Y fun u S3 => slD x l u S3 K
 | .fld a f => fun δ S Y K => den G a δ S Y fun x S1 => fldD G f x S1 K
 | .call j es => fun δ S Y K => ∃ T, G.fn G.m0.isSome j = some T ∧ dens G es δ S Y fun ds S1 => T G.m0 ds S1 K fun C fs S' => Y C fs δ S'
 | .bi b es => fun δ S Y K => b.needs G.m0 ∧ dens G es δ S Y fun ds S1 => b.den ds S1 K
 | .isi a c => fun δ S Y K => den G a δ S Y fun x S1 => ∃ t b, tyD S1 x = some t ∧ tyOk G S1 x ∧ PySem.W.kitOne G.K t (c.val G) = some b ∧ K (.bl b) S1
 | .lc cell elt tg one it c own => fun δ S Y K => G.m0 = none ∧ denI G it δ S Y fun ds ok S1 => ∀ p, S1 p = none → ∃ Iv : Nat → SS → Prop, Iv 0 (S1.set p (.lst [])) ∧ (∀ i S', Iv i S' → i ≤ ds.length → ok S') ∧
   (∀ i d S', ds[i]? = some d → Iv i S' → denTg tg one d (wipeD δ (own.map (·.2))) S' fun δ2 S2 => denC G c δ2 S2 noX fun b S3 =>
    if b = true then den G elt δ2 S3 noX fun y S4 => ∃ acc, S4 p = some (.lst acc) ∧ acc.length < sizeLine ∧ Iv (i + 1) (S4.set p (.lst (acc ++ [y]))) else Iv (i + 1) S3) ∧
   (∀ S', Iv ds.length S' → ∃ acc, S' p = some (.lst acc) ∧ if cell = true then K (.obj p) S' else K (.lst acc) (S'.del p))
 | .dct cell ps => fun δ S Y K => ∀ p, S p = none → denP G ps δ (S.set p (.dic [])) Y fun ks S2 => S2 p = some (.dic []) ∧ ∃ kvs, keysD ks = some kvs ∧ kvs.length ≤ 15 ∧ if cell = true then K (.obj p) (S2.set p (.dic (mergeD [] kvs))) else K (.dic (mergeD [] kvs)) (S2.del p)
 | .mth b a es => fun δ S Y K => den G a δ S Y fun x S1 => b.rc x S1 ∧ dens G es δ S1 Y fun ds S2 => b.den x ds S2 K
 | .om j m a es => fun δ S Y K => ∃ T, G.fn G.m0.isSome j = some T ∧ den G a δ S Y fun x S1 => ∃ p, omD G j m x S1 p ∧ dens G es δ S1 Y fun ds S2 => T G.m0 (.obj p :: ds) S2 K fun C fs S' => Y C fs δ S'
 | .mk j es => fun δ S Y K => G.m0 = none ∧ ∃ T, G.fn false j = some T ∧ dens G es δ S Y fun ds S1 => ∀ p, S1 p = none → T none (.obj p :: ds) (S1.set p (.ins (G.mc j) [])) (fun d S' => d = .non ∧ K (.obj p) S') fun C fs S' => Y C fs δ S'
 | .lck e => fun δ S Y K => ∃ a kvs, S a = some (.dic kvs) ∧ den G e δ (S.set a (.loc kvs)) Y fun d S' => K d (S'.set a (.dic kvs))
 | .fz e => fun δ S Y K => den G e δ S Y fun d S1 => ∃ a, d = .obj a ∧ ((∃ ds, S1 a = some (.lst ds) ∧ K (.lst ds) (S1.del a)) ∨ ∃ kvs, S1 a = some (.dic kvs) ∧ K (.dic kvs) (S1.del a))
 | .ofs srt a => fun δ S Y K => G.m0 = none ∧ den G a δ S Y fun x S1 => ∃ zs : List Str, vw S1 x = .lst (zs.map D.str) ∧ (zs.length < 64 ∨ ((uniq zs).length < 64 ∧ zs.length < 1000)) ∧ if srt = true then K (.lst ((sortS (uniq zs)).map D.str)) S1 else K (.int ((uniq zs).length : Nat)) S1
 | .vls cell a => fun δ S Y K => G.m0 = none ∧ den G a δ S Y fun x S1 => ∃ p kvs, x = .obj p ∧ S1 p = some (.dic kvs) ∧ outL cell (kvs.map (·.2)) S1 K
 | .rev cell a => fun δ S Y K => den G a δ S Y fun x S1 => ∃ ds, vw S1 x = .lst ds ∧ outL cell ds.reverse S1 K
 | .sl2 k a => fun δ S Y K => den G a δ S Y fun x S1 => ∃ ds, vw S1 x = .lst ds ∧ K (.lst (ev2 k ds)) S1
 | .nev => fun _ _ _ _ => False
def denP (G : Gm) : RQ → DS → SS → XD' → (List (D × D) → SS → Prop) → Prop
 | .nil => fun _ S _ K => K [] S
 | .cons k v r => fun δ S Y K => den G k δ S Y fun x S1 => den G v δ S1 Y fun y S2 => denP G r δ S2 Y fun ps S3 => K ((x, y) :: ps) S3
def dens (G : Gm) : RL → RdL
 | .nil => fun _ S _ K => K [] S
 | .cons e es => fun δ S Y K => den G e δ S Y fun d S1 => dens G es δ S1 Y fun ds S2 => K (d :: ds) S2
def denAnd (G : Gm) : RL → RdE
 | .nil => fun _ _ _ _ => False
 | .cons e .nil => den G e
 | .cons e (.cons f r) => fun δ S Y K => den G e δ S Y fun x S1 => truD x S1 fun k => if k = true then denAnd G (.cons f r) δ S1 Y K else K x S1
def denOr (G : Gm) : RL → RdE
 | .nil => fun _ _ _ _ => False
 | .cons e .nil => den G e
 | .cons e (.cons f r) => fun δ S Y K => den G e δ S Y fun x S1 => truD x S1 fun k => if k = true then K x S1 else denOr G (.cons f r) δ S1 Y K
def denT (G : Gm) : RE → RdT
 | .nt a => fun δ S Y K => denT G a δ S Y fun b S1 => K (!b) S1
 | .and es => denTAnd G es
 | .or es => denTOr G es
 | .ife _ _ _ => fun _ _ _ _ => False
 | .cmp op a b => fun δ S Y K => den G a δ S Y fun x S1 => den G b δ S1 Y fun y S2 => cmpE op x y S2 fun d S' => ∃ k, d = .bl k ∧ K k S'
 | .chn o1 o2 a b c => fun δ S Y K => den G a δ S Y fun x S1 => den G b δ S1 Y fun y S2 => cmpE o1 x y S2 fun z S3 => ∃ k, z = .bl k ∧
   if k = true then den G c δ S3 Y fun w S4 => cmpE o2 y w S4 fun d S' => ∃ k, d = .bl k ∧ K k S' else ∃ k, D.bl false = .bl k ∧ K k S3
 | .var i => fun δ S _ K => match δ[i]? with
  | some (some d) => truD d S fun b => K b S
  | _ => False
 | .con c => fun _ S _ K => truD c.d S fun b => K b S
 | .glb j => fun _ S _ K => truD (G.gv j) S fun b => K b S
 | .ix a b => fun δ S Y K => den G a δ S Y fun x S1 => den G b δ S1 Y fun y S2 => ixD x y S2 fun d S3 => truD d S3 fun b => K b S3
 | .fld a f => fun δ S Y K => den G a δ S Y fun x S1 => fldD G f x S1 fun d S3 => truD d S3 fun b => K b S3
 | .call j es => fun δ S Y K => ∃ T, G.fn G.m0.isSome j = some T ∧ dens G es δ S Y fun ds S1 => T G.m0 ds S1 (fun d S3 => truD d S3 fun b => K b S3) fun C fs S' => Y C fs δ S'
 | .isi a c => fun δ S Y K => den G a δ S Y fun x S1 => ∃ t b, tyD S1 x = some t ∧ tyOk G S1 x ∧ PySem.W.kitOne G.K t (c.val G) = some b ∧ K b S1
 | .om j m a es => fun δ S Y K => ∃ T, G.fn G.m0.isSome j = some T ∧ den G a δ S Y fun x S1 => ∃ p, omD G j m x S1 p ∧ dens G es δ S1 Y fun ds S2 => T G.m0 (.obj p :: ds) S2 (fun d S3 => truD d S3 fun b => K b S3) fun C fs S' => Y C fs δ S'
 | .mth b a es => fun δ S Y K => den G a δ S Y fun x S1 => b.rc x S1 ∧ dens G es δ S1 Y fun ds S2 => b.den x ds S2 fun d S3 => truD d S3 fun b => K b S3
 | .bi b es => fun δ S Y K => b.needs G.m0 ∧ dens G es δ S Y fun ds S1 => b.den ds S1 fun d S3 => truD d S3 fun b => K b S3
 | _ => fun _ _ _ _ => False
def denTAnd (G : Gm) : RL → RdT
 | .nil => fun _ _ _ _ => False
 | .cons e .nil => denT G e
 | .cons e (.cons f r) => fun δ S Y K => denT G e δ S Y fun k S1 => if k = true then denTAnd G (.cons f r) δ S1 Y K else K false S1
def denTOr (G : Gm) : RL → RdT
 | .nil => fun _ _ _ _ => False
 | .cons e .nil => denT G e
 | .cons e (.cons f r) => fun δ S Y K => denT G e δ S Y fun k S1 => if k = true then K true S1 else denTOr G (.cons f r) δ S1 Y K
def denC (G : Gm) : RO → RdT
 | .nn => fun _ S _ K => K true S
 | .ss e => denT G e
def denO (G : Gm) : RO → DS → SS → XD' → (Option Int → SS → Prop) → Prop
 | .nn => fun _ S _ K => K none S
 | .ss e => fun δ S Y K => den G e δ S Y fun d S1 => ∃ i, d = .int i ∧ K (some i) S1
def denI (G : Gm) : RI → RdI
 | .lst e => fun δ S Y K => den G e δ S Y fun d S1 => ∃ ds, vw S1 d = .lst ds ∧ K ds (fun S' => vw S' d = .lst ds) S1
 | .tup e => fun δ S Y K => den G e δ S Y fun d S1 => ∃ ds, vw S1 d = .tup ds ∧ K ds (fun S' => True) S1
 | .rng1 a => fun δ S Y K => den G a δ S Y fun d S1 => ∃ j, d = .int j ∧ -(2 ^ 62) ≤ j ∧ j < 2 ^ 62 ∧ K (rngD 0 j.toNat) (fun _ => True) S1
 | .rng2 a b => fun δ S Y K => den G a δ S Y fun d S1 => den G b δ S1 Y fun d2 S2 => ∃ i j, d = .int i ∧ d2 = .int j ∧ (-(2 ^ 62) ≤ i ∧ i < 2 ^ 62 ∧ -(2 ^ 62) ≤ j ∧ j < 2 ^ 62) ∧ K (rngD i (j - i).toNat) (fun _ => True) S2
 | .str e => fun δ S Y K => den G e δ S Y fun d S1 => ∃ z, d = .str z ∧ K (signsD z) (fun _ => True) S1
 | .keys e => fun δ S Y K => den G e δ S Y fun d S1 => ∃ a kvs, d = .obj a ∧ S1 a = some (.loc kvs) ∧ K (kvs.map fun kv => keyV kv.1) (fun _ => True) S1
 | .enum e => fun δ S Y K => den G e δ S Y fun d S1 => ∃ ds, vw S1 d = .lst ds ∧ K (enumD ds) (fun S' => vw S' d = .lst ds) S1
 | .items e => fun δ S Y K => den G e δ S Y fun d S1 => ∃ a kvs, d = .obj a ∧ S1 a = some (.loc kvs) ∧ K (kvs.map fun kv => .tup [keyV kv.1, kv.2]) (fun _ => True) S1
end
/-! ### the check -/
def nmB (l : List Str) (i : Nat) (x : Str) : Bool := decide (l[i]? = some x) && decide ((x == ("__debug__" : Str)) = false ∧ (x == ("__classdict__" : Str)) = false)
/-- the builtins' names that the readings use: no row stores them -/
def enB (l : List En) (i : Nat) (e : En) : Bool := decide (l[i]? = some e)
def fnB (l : List En) (i : Nat) (x : Str) : Bool := enB l i (.fn x) && decide ((x == ("__debug__" : Str)) = false)
theorem fnB_ok {l : List En} {i : Nat} {x : Str} (h : fnB l i x = true) : l[i]? = some (.fn x) ∧ (x == ("__debug__" : Str)) = false := by
 unfold fnB enB at h
 rw [Bool.and_eq_true, decide_eq_true_eq, decide_eq_true_eq] at h
 exact h
def bnames : List Str := ["len", "abs", "max", "min", "range", "isinstance", "repr", "list", "tuple", "dict", "sorted", "sum", "enumerate", "zip", "reversed", "str", "int", "bool", "set", "ValueError", "any", "all"]
def visB (sc : Scope) (x : Str) : Bool := match sc.names.lookup x with
 | some .local => true | some .cell => true | some .free => true | _ => false
def locB (sc : Scope) (x : Str) : Bool := match sc.names.lookup x with
 | some .local => true | some .cell => true | _ => false
def glB (sc : Scope) (x : Str) : Bool := match sc.names.lookup x with
 | some .globalImplicit => true | _ => false
theorem nmB_ok {l : List Str} {i : Nat} {x : Str} (h : nmB l i x = true) : l[i]? = some x ∧ (x == ("__debug__" : Str)) = false ∧ (x == ("__classdict__" : Str)) = false := by
 unfold nmB at h
 rw [Bool.and_eq_true, decide_eq_true_eq, decide_eq_true_eq] at h
 exact h
theorem visB_ok {sc : Scope} {x : Str} (h : visB sc x = true) : Vis sc x := by
 unfold visB at h
 split at h <;> first | exact .inl (by assumption) | exact .inr (.inl (by assumption)) | exact .inr (.inr (by assumption)) | cases h
theorem locB_ok {sc : Scope} {x : Str} (h : locB sc x = true) : Loc sc x := by
 unfold locB at h
 split at h <;> first | exact .inl (by assumption) | exact .inr (by assumption) | cases h
theorem glB_ok {sc : Scope} {x : Str} (h : glB sc x = true) : sc.names.lookup x = some .globalImplicit := by
 unfold glB at h
 split at h <;> first | assumption | cases h
def nstar : Expr → Bool
 | .Starred _ _ => false | _ => true
def nsup : Expr → Bool
 | .Call (.Name x _) [] [] _ => decide (x ≠ ("super" : Str)) | _ => true
def nslice : Expr → Bool
 | .Slice _ _ _ _ => false | _ => true
def nsetd : Expr → Bool
 | .Set _ _ _ => false | _ => true
/-- a test is the value's truth -/
def plainT : Expr → Bool
 | .UnaryOp .Not _ _ => false | .BoolOp _ _ _ => false | .IfExp _ _ _ _ => false | .Compare _ _ _ _ => false | _ => true
theorem nstar_ok {e : Expr} {es : List Expr} {env : Env} (h : nstar e = true) : starEach (e :: es) env = (false, eval e env) :: starEach es env := by
 cases e <;> first | rfl | cases h
theorem nslice_ok {e : Expr} (h : nslice e = true) (o i : Value) : subscripted e false o i = operate [o, i] (getItem o i) := by
 cases e <;> first | rfl | cases h
theorem nsetd_ok {e : Expr} (h : nsetd e = true) (op : CmpOp) : behindInMarks op e = false := by
 cases e <;> first | rfl | cases h
theorem plainT_ok {e : Expr} {env : Env} (h : plainT e = true) (whole : Sem Value) : isTrue e env whole = (do let v ← whole; standAt e.pos; holding [v] (truthy v)) := by
 cases e <;> first | rfl | (cases h; done) | (rename_i op _ _; cases op <;> first | rfl | cases h)
theorem nsetf_ok {e : Expr} {env : Env} (h : nsetd e = true) (x : Value) : foldedSetIterable e env x = pure x := by
 cases e <;> first | rfl | cases h
theorem nsup_ok {e : Expr} {f : Str} {env : Env} {whole : Sem Value} (h : nsup e = true) : attributeBase e f env whole = whole := by
 unfold attributeBase
 split
 ·rename_i id _ _
  have q : (id != ("super" : Str)) = true := by
   have h' : decide (id ≠ ("super" : Str)) = true := h
   simpa using h'
  rw [q]
  simp
 ·rfl
theorem stars_any : ∀ {es : List Expr} {env : Env} {pos : Pos}, es.all nstar = true → (backTo pos (starEach es env)).any (·.1) = false
 | [], _, _, _ => rfl
 | e :: es, env, pos, h => by
  rw [List.all_cons, Bool.and_eq_true] at h
  rw [nstar_ok h.1]
  have q := stars_any (env := env) (pos := pos) h.2
  simpa [backTo] using q
def chkNs (n : SN) (sc : Scope) : List Nat → List Expr → Bool
 | [], xs => xs.isEmpty
 | i :: is, xs => match xs with
  | .Name y _ :: xs => nmB n.N i y && locB sc y && chkNs n sc is xs
  | _ => false
def chkTg (n : SN) (sc : Scope) (tg : List Nat) (one : Bool) (x : Expr) : Bool :=
 if one = true then (match tg, x with
  | [i], .Name y _ => nmB n.N i y && locB sc y
  | _, _ => false)
 else (match x with
  | .Tuple xs _ _ => chkNs n sc tg xs
  | _ => false)
def mtB (l : List En) (j : Nat) (m : Str) : Bool := match l[j]? with
 | some (.mt _ m') => decide (m' = m)
 | _ => false
theorem mtB_ok {l : List En} {j : Nat} {m : Str} (h : mtB l j m = true) : ∃ C, l[j]? = some (.mt C m) := by
 unfold mtB at h
 split at h
 ·rename_i C m' e
  cases of_decide_eq_true h
  exact ⟨C, e⟩
 ·cases h
mutual
def chk (n : SN) (sc : Scope) : RE → Expr → Bool
 | .var i, x => match x with
  | .Name y _ => nmB n.N i y && visB sc y
  | _ => false
 | .con c, x => match c, x with
  | .non, .Constant .none _ _ => true
  | .bl b, .Constant (.bool b') _ _ => b == b'
  | .int i, .Constant (.int i') _ _ => decide (i = i')
  | .str s, .Constant (.str s') _ _ => decide (s = s')
  | _, _ => false
 | .glb j, x => match x with
  | .Name y _ => nmB n.gvs j y && glB sc y
  | _ => false
 | .bin op a b, x => match x with
  | .BinOp l o r _ => decide (o = op) && (chk n sc a l && chk n sc b r)
  | _ => false
 | .neg a, x => match x with
  | .UnaryOp .USub l _ => chk n sc a l
  | _ => false
 | .nt a, x => match x with
  | .UnaryOp .Not l _ => chk n sc a l
  | _ => false
 | .and es, x => match x with
  | .BoolOp .And xs _ => chks n sc es xs
  | _ => false
 | .or es, x => match x with
  | .BoolOp .Or xs _ => chks n sc es xs
  | _ => false
 | .ife c a b, x => match x with
  | .IfExp t l r _ => chk n sc c t && (chk n sc a l && chk n sc b r)
  | _ => false
 | .cmp op a b, x => match x with
  | .Compare l [o] [r] _ => decide (o = op) && nsetd r && (chk n sc a l && chk n sc b r)
  | _ => false
 | .chn o1 o2 a b c, x => match x with
  | .Compare l [o, o'] [r, t] _ => decide (o = o1) && decide (o' = o2) && nsetd t && (chk n sc a l && (chk n sc b r && chk n sc c t))
  | _ => false
 | .lst _ es, x => match x with
  | .List xs _ => chks n sc es xs
  | _ => false
 | .tup es, x => match x with
  | .Tuple xs _ _ => chks n sc es xs
  | _ => false
 | .ix a b, x => match x with
  | .Subscript l r _ => nslice r && (chk n sc a l && chk n sc b r)
  | _ => false
 | .sl a lo hi, x => match x with
  | .Subscript l (.Slice p q none _) _ => chk n sc a l && (chkO n sc lo p && chkO n sc hi q)
  | _ => false
 | .fld a f, x => match x with
  | .Attribute l f' _ => decide (f' = f) && nsup l && chk n sc a l
  | _ => false
 | .call j es, x => match x with
  | .Call (.Name y _) xs [] _ => fnB n.fns j y && glB sc y && chks n sc es xs
  | _ => false
 | .mth b a es, x => match x with
  | .Call (.Attribute l m ap) xs [] p => decide (m = b.nm) && nsup l && (ap.endLine == p.line) && decide (xs.length < 30) && chk n sc a l && chks n sc es xs
  | _ => false
 | .om j m a es, x => match x with
  | .Call (.Attribute l m' ap) xs [] p => decide (m' = m) && nsup l && (ap.endLine == p.line) && decide (xs.length < 30) && mtB n.fns j m && chk n sc a l && chks n sc es xs
  | _ => false
 | .mk j es, x => match x with
  | .Call (.Name y _) xs [] _ => enB n.fns j (.mt y "__init__") && decide ((y == ("__debug__" : Str)) = false) && glB sc y && chks n sc es xs
  | _ => false
 | .lck e, x => chk n sc e x
 | .fz e, x => chk n sc e x
 | .ofs srt a, x => match x with
  | .Call (.Name y _) [.Call (.Name z _) [l] [] _] [] _ => decide (y = ofsN srt) && glB sc y && decide (z = ("set" : Str)) && glB sc z && nstar l && chk n sc a l
  | _ => false
 | .vls _ a, x => match x with
  | .Call (.Name y _) [.Call (.Attribute l m ap) [] [] p] [] _ => decide (y = ("list" : Str)) && glB sc y && decide (m = ("values" : Str)) && nsup l && (ap.endLine == p.line) && chk n sc a l
  | _ => false
 | .rev _ a, x => match x with
  | .Subscript l (.Slice none none (some (.UnaryOp .USub (.Constant (.int 1) _ _) _)) _) _ => chk n sc a l
  | _ => false
 | .sl2 k a, x => match x with
  | .Subscript l (.Slice lo none (some (.Constant (.int 2) _ _)) _) _ => loE k lo && chk n sc a l
  | _ => false
 | .dct _ ps, x => match x with
  | .Dict ks vs _ => decide (ks.length ≤ 15) && chkP n sc ps ks vs
  | _ => false
 | .nev, _ => true
 | .bi b es, x => match x with
  | .Call (.Name y _) xs [] _ => decide (y = b.nm) && glB sc y && !xs.isEmpty && chks n sc es xs
  | _ => false
 | .isi a c, x => match x with
  | .Call (.Name y _) [l, .Name z _] [] _ => decide (y = ("isinstance" : Str)) && glB sc y && glB sc z && nstar l && chk n sc a l && (match c with
   | .ty t => decide (bootBuiltins z = some (.type t)) && decide (z ≠ ("__name__" : Str)) && decide ((z == ("__debug__" : Str)) = false) && decide (z ∈ bnames)
   | .own j => nmB n.cls j z)
  | _ => false
 | .lc _ elt tg one it c own, x => match x with
  | .ListComp xe [⟨xt, xi, ifs, 0⟩] scope _ => blkC n.N sc scope own && nsetd xi && chkI n sc it xi && (tg.all fun i => decide (i ∈ own.map (·.2))) && chkTg n scope tg one xt && chkC n scope c ifs && chk n scope elt xe && (!it.two || !one)
  | _ => false
def chkP (n : SN) (sc : Scope) : RQ → List (Option Expr) → List Expr → Bool
 | .nil, ks, vs => ks.isEmpty && vs.isEmpty
 | .cons k v r, ks, vs => match ks, vs with
  | some x :: ks, y :: vs => chk n sc k x && chk n sc v y && chkP n sc r ks vs
  | _, _ => false
def chks (n : SN) (sc : Scope) : RL → List Expr → Bool
 | .nil, xs => xs.isEmpty
 | .cons e es, xs => match xs with
  | x :: xs => nstar x && (chk n sc e x && chks n sc es xs)
  | [] => false
def chkO (n : SN) (sc : Scope) : RO → Option Expr → Bool
 | .nn, x => x.isNone
 | .ss e, x => match x with
  | some x => chk n sc e x
  | none => false
def chkC (n : SN) (sc : Scope) : RO → List Expr → Bool
 | .nn, x => x.isEmpty
 | .ss e, x => match x with
  | [x] => chk n sc e x
  | _ => false
def chkI (n : SN) (sc : Scope) : RI → Expr → Bool
 | .lst e, x => chk n sc e x
 | .tup e, x => chk n sc e x
 | .rng1 a, x => match x with
  | .Call (.Name y _) [l] [] _ => decide (y = ("range" : Str)) && glB sc y && nstar l && chk n sc a l
  | _ => false
 | .rng2 a b, x => match x with
  | .Call (.Name y _) [l, r] [] _ => decide (y = ("range" : Str)) && glB sc y && nstar l && nstar r && (chk n sc a l && chk n sc b r)
  | _ => false
 | .str e, x => chk n sc e x
 | .keys e, x => chk n sc e x
 | .enum e, x => match x with
  | .Call (.Name y _) [l] [] _ => decide (y = ("enumerate" : Str)) && glB sc y && nstar l && chk n sc e l
  | _ => false
 | .items e, x => match x with
  | .Call (.Attribute l m ap) [] [] p => decide (m = ("items" : Str)) && nsup l && (ap.endLine == p.line) && chk n sc e l
  | _ => false
end
end Sv
/-! Sv5: errors as values: isinstance, fields; types of values. -/
namespace PySem.W
open PySem PySem.Spec PySem.Calls PyProof.Rows
section
variable {prog : Program} {w : World} {A : Around} {E : Value → Shared → Prop} {s : Shared} {K : Frag} {x D : Addr} {ox : Obj} {od : Option Obj}
/-- an error's class, asked of the error: its getter is data of the class, so the error's own dict is not looked at -/
theorem err_found (hd : hasDictIn K D = true) (ha : findIn K (.ref D) "__class__" = some (some (.builtin "object.__class__"))) (gt : specialIn K (.builtin "object.__class__") "__get__" = some (some (.builtin "getset_descriptor.__get__"))) (tk : takesIn K (.builtin "object.__class__") = some true) :
  findObj K D od "__class__" = some (.bind (.builtin "getset_descriptor.__get__") (.builtin "object.__class__")) := by
 have known : (clsIn K D).isSome = true := by
  have ⟨_, e, _⟩ := any_some hd
  simp [e]
 match od with
 | none => exact findObj_dataN known ha gt tk
 | some _ => exact findObj_data known ha gt tk
theorem err_class (own : findIn K (.ref D) "__getattribute__" = some (some (.builtin "BaseException.__getattribute__"))) (noHook : findIn K (.ref D) "__getattr__" = some none) (err : subIn K (.ref D) (.type "BaseException") = some true) (obj : mroIn K D (.type "object") = some true)
  (fnd : findObj K D od "__class__" = some (.bind (.builtin "getset_descriptor.__get__") (.builtin "object.__class__"))) (inK : K.In s.heap) (I : InstAt s.heap x ox D od) {Q : Option Value → Shared → Prop} (want : Q (some (.ref D)) { s with toks := s.toks + 1 }) : wpAny (model prog w) A (getAttr? (.ref x) "__class__") Q E s := by
 rcases s with ⟨hp, gs, dr, tk, os⟩
 have ty {M : Model} := I.type (M := M)
 have own' {M : Model} := looks_findIn (M := M) inK own
 have hook' {M : Model} := looks_findIn (M := M) inK noHook
 have fnd' {M : Model} := looks_find (M := M) inK I fnd
 have isErr {M : Model} : Looks M hp (isInstance (.ref x) (.type "BaseException")) true := ty.andThen (looks_subIn inK err)
 simp only [getAttr?, getAttrBy?, getAttrBy, getAttrByItsOwn, hookBefore, callGetattribute, boundAndCalled]
 repeat (first | with_reducible refine ty.at ?_ | with_reducible refine own'.at ?_ | with_reducible refine hook'.at ?_ | wp_step)
 refine wpAny_of_eq (PySem.F.excAttr_ValueError.ga.bind (.ref x)) ?_
 apply wpAny_call
 refine codeAny_call_builtin PySem.F.excAttr_ValueError.ga.plain PySem.F.entry_bexc_ga ?_
 have kind : builtinKind "BaseException.__getattribute__" = some .slot := by decide +kernel
 have split : splitId "BaseException.__getattribute__" = some ("BaseException", "__getattribute__") := by decide +kernel
 refine check_slot (i := "BaseException.__getattribute__") (self := .ref x) (rest := [.str "__class__" tk]) (kw := []) kind split isErr (PySem.F.args_bexc_ga _ _) ?_
 unfold Builtin.«object.__getattribute__»
 refine wpAny_bind (wpAny_of_eq (a := ((Value.ref x : Value), [Value.str "__class__" tk])) (by first | rfl | (simp only [slotArgs]; rfl)) ?_)
 dsimp only
 repeat (first | with_reducible refine ty.at ?_ | with_reducible refine fnd'.at ?_ | wp_step)
 refine class_get (s := ⟨hp, gs, dr, tk + 1, os⟩) inK I obj (wpAny_pure ?_)
 dsimp only
 rw [handedOut_of (v := .ref D) rfl]
 exact wpAny_pure (wpAny_pure want)
/-- so isinstance asks an error rightly, with a dict of its own or without -/
theorem err_kit (f : L2.ExcC K D) : KitX K (.ref x) (.ref D) fun h => InstAt h x ox D od where
 ty _ _ _ I := I.type
 ca inK I want := err_class f.hg f.hk f.hs f.hm (err_found f.hd f.ha f.hn f.ht) inK I want
 it := by
  intro M h inK _
  have ⟨_, known, _⟩ := any_some f.hd
  revert known
  unfold clsIn
  split
  ·rename_i at_D
   intro _ A Q E t k q
   unfold isType loadHead
   exact wpAny_bind (wpAny_loadPart (k _ _ (inK _ _ at_D)) (wpAny_pure q))
  ·exact nofun
 ne := by
  intro h tp dd its n sl inK at_tp
  have ⟨_, known, _⟩ := any_some f.hd
  cases same : (Value.ref D == Value.ref tp) with
  | false => rfl
  | true =>
   cases beq_iff_eq.mp same
   revert known
   unfold clsIn
   split
   ·rename_i at_D
    cases (inK _ _ at_D).symm.trans at_tp
   ·exact nofun
end
end PySem.W
namespace Sv
open PySem PySem.Spec PyProof.Rows L2
open L2H (RoomH)
/-- an error that is pinned -/
structure ExcAt (X : Cx) (H : Hp) (a C : Addr) (oe : Obj) (d : Option Addr) : Prop where
 pin : (a, oe) ∈ X.pn
 z : Zc (.ref C) d oe
 f : ∃ vs, oe.data = .fields vs
 d : d = none ∨ ∃ dd ws, d = some dd ∧ H dd = some (.xd ws)
section
variable {X : Cx} {pins : List (Addr × Obj)} {σ : L2.St} {H : Hp} {s : Shared}
/-- the dict of an error in the heap: under each name it keeps what the fields say -/
theorem err_dict (I : Inv X pins σ H s) {d : Addr} {ws : List (Str × V)} (at_d : H d = some (.xd ws)) : ∃ od, s.heap.get? d = some od ∧ ∀ (f : Str) (w : V), ws.lookup f = some w → ∃ u, PySem.W.lookIn f od = some (some u) ∧ RelV w u := by
 have laid : ObjOk X.prog X.w H s.heap d (.xd ws) := I.hok d _ at_d
 have ⟨keeps, named, alike⟩ := laid
 have ⟨od, there, tells⟩ := lookIn_ns named
 refine ⟨od, there, fun f w is => ?_⟩
 have like := alike f
 rw [is] at like
 have told := tells f
 cases found : keeps f with
 | none => rw [found] at like; exact like.elim
 | some u => rw [found] at like told; exact ⟨u, told, like⟩
/-- an error in the heap, beside its dict -/
theorem err_inst {a C : Addr} {oe : Obj} {d : Option Addr} {od : Option Obj} (dict : match d, od with | some p, some o => s.heap.get? p = some o | none, none => True | _, _ => False)
  (zc : Zc (.ref C) d oe) (fields : ∃ vs, oe.data = .fields vs) (here : s.heap.get? a = some oe) : PySem.W.InstAt s.heap a oe C od where
 at_ := here
 cls := zc.1
 no := by
  have ⟨_, e⟩ := fields
  simp only [PySem.W.notCls, e]
 dict := by rw [zc.2]; exact dict
theorem ExcAt.inst {a C : Addr} {oe : Obj} {d : Option Addr} (x : ExcAt X H a C oe d) (I : Inv X pins σ H s) : ∃ od, PySem.W.InstAt s.heap a oe C od := by
 have here := (I.pin (a, oe) (List.mem_append_left _ x.pin)).1
 rcases x.d with rfl | ⟨p, ws, rfl, at_p⟩
 ·exact ⟨none, err_inst trivial x.z x.f here⟩
 ·have ⟨od, there, _⟩ := err_dict I at_p
  exact ⟨some od, err_inst there x.z x.f here⟩
end
/-- an error held as a value, in the heap -/
theorem held_inst {X : Cx} {pins : List (Addr × Obj)} {σ : L2.St} {H : Hp} {s : Shared} {a C : Addr} {d : Option Addr} {bare : Bool} (I : Inv X pins σ H s) (x : ErrAt H a C d bare) (dict : d = none ∨ ∃ dd ws, d = some dd ∧ H dd = some (.xd ws)) :
  ∃ oe od, PySem.W.InstAt s.heap a oe C od := by
 obtain ⟨φ, at_a, says⟩ := x
 have laid : ObjOk X.prog X.w H s.heap a (.ext φ) := I.hok a _ at_a
 obtain ⟨oe, here, zc, vs, fields, _⟩ := says _ laid.1
 rcases dict with rfl | ⟨p, ws, rfl, at_p⟩
 ·exact ⟨oe, none, err_inst trivial zc ⟨vs, fields⟩ here⟩
 ·have ⟨od, there, _⟩ := err_dict I at_p
  exact ⟨oe, some od, err_inst there zc ⟨vs, fields⟩ here⟩
inductive TyP (X : Cx) (H : Hp) : V → Value → Prop where
 | held {a C : Addr} {d : Option Addr} {bare : Bool} (h : ErrAt H a C d bare) (dict : d = none ∨ ∃ dd ws, d = some dd ∧ H dd = some (.xd ws)) (c : ExcC X.K C) : TyP X H (.ref a) (.ref C)
 | base {v : V} {t : Value} (h : TyX X.K H v t) : TyP X H v t
 | exc {a C : Addr} {oe : Obj} {d : Option Addr} (h : ExcAt X H a C oe d) (c : ExcC X.K C) : TyP X H (.ref a) (.ref C)
def rIsP (X : Cx) : List V → Hp → VK → Prop := fun xs H Q => ∃ (x c : V) (t u : Value) (b : Bool), xs = [x, c] ∧ ClsV c u ∧ TyP X H x t ∧ PySem.W.kitOne X.K t u = some b ∧ Q (.bl b) H
theorem call_isP {X : Cx} : CallR X (.builtin "isinstance") (rIsP X) := by
 rintro pins s σ H _ us Q I given ⟨_, _, _, _, b, rfl, names, kind, asks, want⟩
 cases kind with
 | base plain => exact call_isi _ _ _ _ _ _ _ I given ⟨_, _, _, _, b, rfl, names, plain, asks, want⟩
 | held at_a dict cls =>
  obtain ⟨_, rfl, one⟩ : ∃ u, us = [.ref _, u] ∧ RelV _ u := by
   cases given with
   | cons one rest =>
    cases rest with
    | cons two none_left =>
     cases none_left
     cases one
     exact ⟨_, rfl, two⟩
  cases names.eq one
  have ⟨_, _, J⟩ := held_inst I at_a dict
  exact PySem.W.kia_one (PySem.W.err_kit cls) I.kIn J asks nofun fun t => ⟨.bl b, _, I.tok t, rfl, want⟩
 | exc at_a cls =>
  cases given with
  | cons one rest =>
   cases rest with
   | cons two none_left =>
    cases none_left
    cases one
    cases names.eq two
    have ⟨_, J⟩ := at_a.inst I
    exact PySem.W.kia_one (PySem.W.err_kit cls) I.kIn J asks nofun fun t => ⟨.bl b, _, I.tok t, rfl, want⟩
/-- the mode's error -/
def ModeP (X : Cx) (m0 : Option (Addr × Obj)) : Prop := ∀ p, m0 = some p → p ∈ X.pn
theorem ModeC.p {X : Cx} {m0 : Option (Addr × Obj)} (h : ModeC X m0) : ModeP X m0 := fun p e => by
 subst e
 exact h.2.2
section
variable {X : Cx} {G : Gm} {S : SS} {H : Hp}
theorem tyP_of (hK : G.K = X.K) (hm : ModeP X G.m0) (hc : CellsOk G.toGd S H) {d : D} {v : V} {t : Value} (r : Rep G.toGd S H d v) (e : tyD S d = some t) (ok : tyOk G S d) : TyP X H v t := by
 cases d with
 | non => simp only [Rep] at r; subst r; cases e; exact .base (.base .non)
 | bl _ => simp only [Rep] at r; subst r; cases e; exact .base (.base (.bl _))
 | int _ => simp only [Rep] at r; subst r; cases e; exact .base (.base (.int _))
 | str _ => simp only [Rep] at r; subst r; cases e; exact .base (.base (.str _))
 | lst ds =>
  simp only [Rep] at r
  obtain ⟨p, vs, rfl, a, b⟩ := r
  cases e
  rcases a.sq with (a | ⟨o, a⟩) | ⟨o, its, n, a, c, _⟩
  ·exact .base (.base (.lst a))
  ·exact .base (.base (.frz a))
  ·rw [hK] at a
   exact .base (.kList a c)
 | tup ds =>
  simp only [Rep] at r
  obtain ⟨p, vs, rfl, a, b⟩ := r
  cases e
  rcases a.sq with (a | ⟨o, a⟩) | ⟨o, its, n, a, c, _⟩
  ·exact .base (.base (.tup a))
  ·exact .base (.fTuple a)
  ·rw [hK] at a
   exact .base (.kTuple a c)
 | dic ds =>
  simp only [Rep] at r
  obtain ⟨p, vs, rfl, _, a, b⟩ := r
  cases e
  exact .base (.base (.dK a))
 | obj a =>
  simp only [Rep] at r
  subst r
  have e' : (match S a with | some (.lst _) => some (Value.type "list") | some (.dic _) => some (.type "dict") | some (.loc _) => some (.type "dict") | some (.ins C _) => some (.ref C) | none => none) = some t := e
  cases q : S a with
  | none => rw [q] at e'; cases e'
  | some c =>
   rw [q] at e'
   have k := hc a c q
   cases c with
   | lst _ => cases e'; obtain ⟨_, h, _⟩ := k; exact .base (.base (.lst h))
   | dic _ => cases e'; obtain ⟨_, h, _⟩ := k; exact .base (.base (.dK h))
   | loc _ => cases e'; obtain ⟨_, _, h, _⟩ := k; exact .base (.fDict h)
   | ins C fs =>
    cases e'
    obtain ⟨dx, ws, h, _⟩ := k
    have F := ok C fs q
    rw [hK] at F
    exact .base (.base (.ins h F.cl F.ha F.hn F.htk F.hm))
 | exc y oe C fs =>
  simp only [Rep] at r
  obtain ⟨d, rfl, ⟨z, f⟩, x⟩ := r
  cases e
  have F := ok.2
  rw [hK] at F
  refine .exc (oe := oe) (d := d) ⟨hm _ ok.1, z, f, ?_⟩ F
  rcases x with ⟨x, _⟩ | ⟨dd, ws, x, _, y, _⟩
  ·exact .inl x
  ·exact .inr ⟨dd, ws, x, y⟩
 | err y C fs bare =>
  simp only [Rep] at r
  obtain ⟨d, rfl, _, held, x⟩ := r
  cases e
  have F : ExcF G.K C := ok
  rw [hK] at F
  refine .held held ?_ F
  rcases x with ⟨x, _⟩ | ⟨dd, ws, x, _, y, _⟩
  ·exact .inl x
  ·exact .inr ⟨dd, ws, x, y⟩
theorem repF_get {g : Gd} {fs : List (Str × D)} : ∀ {ws : List (Str × V)}, RepF g S H fs ws → ∀ {f : Str} {d : D}, fs.lookup f = some d → ∃ v, ws.lookup f = some v ∧ Rep g S H d v := by
 induction fs with
 | nil => intro ws _ f d e; cases e
 | cons p fs ih =>
  intro ws r f d e
  obtain ⟨k, x⟩ := p
  simp only [RepF] at r
  obtain ⟨v, q, rfl, a, b⟩ := r
  rw [List.lookup_cons] at e ⊢
  cases h : f == k with
  | true => rw [h] at e; cases e; exact ⟨v, rfl, a⟩
  | false => rw [h] at e; exact ih b e
theorem repF_none {g : Gd} {fs : List (Str × D)} : ∀ {ws : List (Str × V)}, RepF g S H fs ws → ∀ {f : Str}, fs.lookup f = none → ws.lookup f = none := by
 induction fs with
 | nil => intro ws r f _; simp only [RepF] at r; subst r; rfl
 | cons p fs ih =>
  intro ws r f e
  obtain ⟨k, x⟩ := p
  simp only [RepF] at r
  obtain ⟨v, q, rfl, a, b⟩ := r
  rw [List.lookup_cons] at e ⊢
  cases h : f == k with
  | true => rw [h] at e; cases e
  | false => rw [h] at e; exact ih b e
/-- o.f -/
theorem pe_fldD {W : WX} {e : Expr} {f : Str} {pos : Pos} {t : RdE} (hK : G.K = X.K) (hm : ModeP X G.m0) (he : PE X e (LE G.toGd W t)) (hb : attributeBase e f X.env (eval e X.env) = eval e X.env) :
  PE X (.Attribute e f pos) (LE G.toGd W fun δ S Y K => t δ S Y fun x S1 => fldD G f x S1 K) := by
 refine ⟨fun pins s σ H Q I h => ?_⟩
 obtain ⟨δ, S, Y, K, R, ht, res, rw'⟩ := h
 refine attr_of hb (thn (he.run pins s σ H (fun v H1 => ∃ d S1, fldD G f d S1 K ∧ Post S H S1 H1 ∧ CellsOk G.toGd S1 H1 ∧ Rep G.toGd S1 H1 d v) I ⟨δ, S, Y, _, R, ht, fun d S1 v H1 k P c r => ⟨d, S1, k, P, c, r⟩, rw'⟩) fun u s1 hh => ?_)
 obtain ⟨v, H1, I1, rv, d, S1, k, P, c, r⟩ := hh
 unfold fldD at k
 split at k
 ·rename_i a
  cases rep_obj r
  cases rv
  obtain ⟨C, fs, x, e1, cl, na, l, q⟩ := k
  obtain ⟨dx, ws, ha, hf⟩ := c _ _ e1
  obtain ⟨w, lw, rw2⟩ := repF_get hf l
  rw [hK] at cl na
  exact getattr_ok I1 ha cl na lw fun u s' I' ru => ⟨w, H1, I', ru, res _ S1 _ _ q P c rw2⟩
 ·rename_i y oe C fs
  obtain ⟨mine, cls, apart, x, has, q⟩ := k
  simp only [Rep] at r
  obtain ⟨d, rfl, ⟨zc, fields⟩, bare | ⟨p, ws, hasD, _, at_p, same⟩⟩ := r
  ·rw [bare.2] at has
   exact nomatch has
  ·cases rv
   rw [hK] at cls apart
   have ⟨w, is, like⟩ := repF_get same has
   have ⟨od, there, keeps⟩ := err_dict I1 at_p
   have ⟨u, kept, ru⟩ := keeps f w is
   have here := (I1.pin (y, oe) (List.mem_append_left _ (hm _ mine))).1
   exact HandSPX.exc_get I1.kIn (err_inst (by rw [hasD]; exact there) zc fields here) cls.hg cls.hk cls.hs (PySem.W.findObj_own cls.hd apart rfl kept) (handed_of ru) ⟨w, H1, I1.tok _, ru, res _ S1 _ _ q P c like⟩
 ·rename_i y C fs bare
  obtain ⟨cls, apart, x, has, q⟩ := k
  simp only [Rep] at r
  obtain ⟨d, rfl, _, ⟨φ, at_y, says⟩, none_ | ⟨p, ws, hasD, _, at_p, same⟩⟩ := r
  ·rw [none_.2] at has
   exact nomatch has
  ·cases rv
   rw [hK] at cls apart
   have laid : ObjOk X.prog X.w H1 s1.heap y (.ext φ) := I1.hok y _ at_y
   obtain ⟨oe, here, zc, vs, fields, _⟩ := says _ laid.1
   have ⟨w, is, like⟩ := repF_get same has
   have ⟨od, there, keeps⟩ := err_dict I1 at_p
   have ⟨u, kept, ru⟩ := keeps f w is
   exact HandSPX.exc_get I1.kIn (err_inst (by rw [hasD]; exact there) zc ⟨vs, fields⟩ here) cls.hg cls.hk cls.hs (PySem.W.findObj_own cls.hd apart rfl kept) (handed_of ru) ⟨w, H1, I1.tok _, ru, res _ S1 _ _ q P c like⟩
 ·exact k.elim
end
end Sv
/-! Sv6: the check is sound: expressions. -/
namespace Sv
open PySem PySem.Spec PyProof.Rows L2
open L2H (RoomH)
/-- what the row's names mean -/
structure GOk (n : SN) (P : Program) (w : World) (KK : PySem.W.Frag) (mg : Str → Option Value) (base : Heap) (G : Gm) (k : Nat) : Prop where
 K : G.K = KK
 nd : n.N.Nodup
 fn : ∀ h j T x, G.fn h j = some T → n.fns[j]? = some (.fn x) → ∃ f fd ps, mg x = some (.ref f) ∧ PySem.W.keepIn KK (.ref f) = true ∧ L2.Binds KK fd ps [] ∧ FnG P w KK mg base h k f fd ps (spD G.toGd T)
 meth : ∀ h j T C m, G.fn h j = some T → n.fns[j]? = some (.mt C m) → ∃ f fd ps, Cls KK (G.mc j) ∧ Meth KK (G.mc j) m f ∧ L2.Binds KK fd ps [] ∧ FnG P w KK mg base h k f fd ps (spD G.toGd T)
 made : ∀ j T C, G.fn false j = some T → n.fns[j]? = some (.mt C "__init__") → mg C = some (.ref (G.mc j)) ∧ ∃ f fd ps kI, Mk KK (G.mc j) f ∧ L2.Binds KK fd ps [] ∧ kI + 1 ≤ k ∧ FnG P w KK mg base false kI f fd ps (spD G.toGd T)
 gv : ∀ j x, n.gvs[j]? = some x → ∃ v u, mg x = some u ∧ RelV v u ∧ ∀ S H, Rep G.toGd S H (G.gv j) v
 cl : ∀ j x, n.cls[j]? = some x → mg x = some (.ref (G.cl j))
 bt : ∀ x, x ∈ bnames → mg x = none
structure ScOk (X : Cx) (sc : Scope) : Prop where
 vis : ∀ x, visB sc x = true → Vis X.env.scope x
 loc : ∀ x, locB sc x = true → Loc X.env.scope x ∧ (X.fn x = true ∨ X.env.scope.names.lookup x = some .local)
 gl : ∀ x, glB sc x = true → Gl X x
 fr : ∀ x, sc.names.lookup x = some .cell ∨ sc.names.lookup x = some .free → X.env.scope.names.lookup x = some .cell ∨ X.env.scope.names.lookup x = some .free
structure XC (n : SN) (X : Cx) (G : Gm) (W : WX) (k : Nat) (sc : Scope) : Prop where
 ok : GOk n X.prog X.w X.K X.mg X.base G k
 N : X.N = n.N
 sc : ScOk X sc
 rm : RoomH k X.A
 md : ModeC X G.m0
 tk : L2N.Takes X W
 ps : PassesOwn (model X.prog X.w) X.A X.env X.xe
abbrev noW : WX := fun _ _ _ _ => False
theorem relabel_at {env : Env} : ∀ {names : List (Str × NameKind)} {x : Str} {k : NameKind}, names.lookup x = some k →
  (names.map fun (n, k) => if (k == NameKind.free && env.scope.kind == .function && env.kindOf n == some .cell) then (n, NameKind.cell) else (n, k)).lookup x = some k ∨
  (k = .free ∧ (names.map fun (n, k) => if (k == NameKind.free && env.scope.kind == .function && env.kindOf n == some .cell) then (n, NameKind.cell) else (n, k)).lookup x = some .cell)
 | [], _, _, h => by simp at h
 | (m, j) :: r, x, k, h => by
  have ih := @relabel_at env r x k
  rw [List.map_cons]
  cases hx : x == m with
  | true =>
   rw [List.lookup_cons, hx] at h
   cases h
   by_cases q : (j == NameKind.free && env.scope.kind == .function && env.kindOf m == some .cell) = true
   ·right
    refine ⟨?_, ?_⟩
    ·simp only [Bool.and_eq_true, beq_iff_eq] at q
     cases j <;> first | rfl | (have := q.1.1; simp at this; done) | (exact absurd q.1.1 (by decide))
    ·simp only [q, if_true]; rw [List.lookup_cons, hx]
   ·left
    simp only [q, if_false, Bool.false_eq_true]; rw [List.lookup_cons, hx]
  | false =>
   rw [List.lookup_cons, hx] at h
   have e : ∀ z : NameKind, List.lookup x ((m, z) :: r.map fun (n, k) => if (k == NameKind.free && env.scope.kind == .function && env.kindOf n == some .cell) then (n, NameKind.cell) else (n, k)) =
     List.lookup x (r.map fun (n, k) => if (k == NameKind.free && env.scope.kind == .function && env.kindOf n == some .cell) then (n, NameKind.cell) else (n, k)) := fun z => by rw [List.lookup_cons, hx]
   dsimp only
   split
   ·rw [e]; exact ih h
   ·rw [e]; exact ih h
section
variable {n : SN} {X : Cx} {G : Gm} {W : WX} {k : Nat} {sc : Scope}
theorem ScOk.self (hf : ∀ x, X.fn x = true) : ScOk X X.env.scope :=
 ⟨fun _ h => visB_ok h, fun x h => ⟨locB_ok h, .inl (hf x)⟩, fun _ h => glB_ok h, fun _ h => h⟩
theorem XC.nd (c : XC n X G W k sc) : X.N.Nodup := c.N ▸ c.ok.nd
theorem XC.un (c : XC n X G W k sc) : X.A.units + 65 < cLine := by have := c.rm.un; omega
theorem XC.at (c : XC n X G W k sc) {i : Nat} {x : Str} (h : nmB n.N i x = true) : X.N[i]? = some x := c.N ▸ (nmB_ok h).1
theorem ScOk.blk {s : Shared} {H : Hp} {scope : Scope} {C : Addr} {cl : List (Str × Addr)} {fp : List Addr} : ScOk (X.blk s H scope (compEnvC scope cl C X.env) fp) scope := by
 have key : ∀ {x k}, scope.names.lookup x = some k → (X.blk s H scope (compEnvC scope cl C X.env) fp).env.scope.names.lookup x = some k ∨ (k = .free ∧ (X.blk s H scope (compEnvC scope cl C X.env) fp).env.scope.names.lookup x = some .cell) := fun {x k} h => relabel_at (env := X.env) h
 refine ⟨fun x h => ?_, fun x h => ?_, fun x h => ?_, fun x h => ?_⟩
 ·rcases visB_ok h with h | h | h <;> rcases key h with q | ⟨_, q⟩
  ·exact .inl q
  ·exact .inr (.inl q)
  ·exact .inr (.inl q)
  ·exact .inr (.inl q)
  ·exact .inr (.inr q)
  ·exact .inr (.inl q)
 ·rcases locB_ok h with h | h <;> rcases key h with q | ⟨e, q⟩
  ·exact ⟨.inl q, .inr q⟩
  ·cases e
  ·refine ⟨.inr q, .inl ?_⟩
   show (scope.names.lookup x == some .cell) = true
   rw [h]; rfl
  ·cases e
 ·rcases key (glB_ok h) with q | ⟨e, _⟩
  ·exact q
  ·cases e
 ·rcases h with h | h <;> rcases key h with q | ⟨_, q⟩
  ·exact .inl q
  ·exact .inl q
  ·exact .inr q
  ·exact .inl q
theorem XC.blk (c : XC n X G W k sc) (hm : G.m0 = none) {s : Shared} {H : Hp} {scope : Scope} {C : Addr} {cl : List (Str × Addr)} {fp : List Addr} : XC n (X.blk s H scope (compEnvC scope cl C X.env) fp) G noW k scope :=
 ⟨c.ok, c.N, ScOk.blk, c.rm, by have := c.md; rw [hm] at this ⊢; exact this, fun u s' ⟨_, _, _, _, _, _, _, _, _, _, _, _, _, _, _, _, z⟩ => z.elim, PassesOwn.never⟩
theorem XC.vis (c : XC n X G W k sc) {x : Str} (h : visB sc x = true) : Vis X.env.scope x := c.sc.vis x h
theorem XC.loc (c : XC n X G W k sc) {x : Str} (h : locB sc x = true) : Loc X.env.scope x := (c.sc.loc x h).1
theorem XC.sto (c : XC n X G W k sc) {x : Str} (h : locB sc x = true) : X.fn x = true ∨ X.env.scope.names.lookup x = some .local := (c.sc.loc x h).2
theorem XC.gl (c : XC n X G W k sc) {x : Str} (h : glB sc x = true) : Gl X x := c.sc.gl x h
end
/-! ### targets -/
section
variable {n : SN} {X : Cx} {G : Gm} {W : WX} {k : Nat} {sc : Scope}
theorem PG.imp {e : Expr} {t t' : TG} (h : PG X e t) (w : ∀ v σ H Q, t' v σ H Q → t v σ H Q) : PG X e t' := ⟨fun pins s σ H v u Q I r q => h.run pins s σ H v u Q I r (w v σ H Q q)⟩
def gNames : List Nat → TGs
 | [] => gNil
 | i :: is => gCons (gName i) (gNames is)
theorem pgs_names (c : XC n X G W k sc) : ∀ (is : List Nat) (xs : List Expr), chkNs n sc is xs = true → PGs X xs (gNames is) ∧ (assignEach xs X.env).length = is.length ∧ (assignEach xs X.env).findIdx? (·.1) = none
 | [], xs, h => by
  unfold chkNs at h
  cases xs with
  | nil => exact ⟨pgs_nil, rfl, rfl⟩
  | cons _ _ => cases h
 | i :: is, xs, h => by
  unfold chkNs at h
  split at h
  ·rename_i y p ys
   simp only [Bool.and_eq_true] at h
   obtain ⟨h1, h2, h3⟩ := pgs_names c is ys h.2
   refine ⟨pgs_cons (pg_name c.nd (c.at h.1.1) (c.loc h.1.2) (c.sto h.1.2)) h1, ?_, ?_⟩
   ·show (assignEach (Expr.Name y p :: ys) X.env).length = _
    unfold assignEach
    rw [List.length_cons, List.length_cons, h2]
   ·show (assignEach (Expr.Name y p :: ys) X.env).findIdx? _ = none
    unfold assignEach
    rw [List.findIdx?_cons, h3]; rfl
  ·cases h
end
/-! ### the pieces of the reading -/
section
variable {g : Gd} {W : WX}
/-- behind one value -/
def LE1 (g : Gd) (W : WX) (t : D → RdE) (v : V) : TE := fun σ H Q => ∃ x δ S Y K, Rel g S H δ σ ∧ Rep g S H x v ∧ t x δ S Y K ∧ Res g S H K Q ∧ ResW g S H Y W
theorem le_bind {t1 : RdE} {t2 : D → RdE} {σ : L2.St} {H : Hp} {Q : VK} (h : LE g W (fun δ S Y K => t1 δ S Y fun x S1 => t2 x δ S1 Y K) σ H Q) : LE g W t1 σ H fun v H1 => LE1 g W t2 v σ H1 Q := by
 obtain ⟨δ, S, Y, K, R, ht, res, rw'⟩ := h
 exact ⟨δ, S, Y, _, R, ht, fun d S1 v H1 k P c r => ⟨d, δ, S1, Y, K, R.mono P c, r, k, res.mono P, rw'.mono P⟩, rw'⟩
def LE2 (g : Gd) (W : WX) (t : D → D → RdE) (v u : V) : TE := fun σ H Q => ∃ x y δ S Y K, Rel g S H δ σ ∧ Rep g S H x v ∧ Rep g S H y u ∧ t x y δ S Y K ∧ Res g S H K Q ∧ ResW g S H Y W
theorem le_bind1 {t1 : RdE} {t2 : D → D → RdE} {σ : L2.St} {H : Hp} {Q : VK} {v : V} (h : LE1 g W (fun x δ S Y K => t1 δ S Y fun y S1 => t2 x y δ S1 Y K) v σ H Q) : LE g W t1 σ H fun u H1 => LE2 g W t2 v u σ H1 Q := by
 obtain ⟨x, δ, S, Y, K, R, r0, ht, res, rw'⟩ := h
 exact ⟨δ, S, Y, _, R, ht, fun d S1 u H1 k P c r => ⟨x, d, δ, S1, Y, K, R.mono P c, r0.mono P, r, k, res.mono P, rw'.mono P⟩, rw'⟩
theorem le2_r2 {t : D → D → SS → DK → Prop} {σ : L2.St} {H : Hp} {Q : VK} {v u : V} (h : LE2 g W (fun x y _ S _ K => t x y S K) v u σ H Q) : rD2 g t v u H Q := by
 obtain ⟨x, y, δ, S, Y, K, R, r1, r2, ht, res, _⟩ := h
 exact ⟨x, y, S, K, R.ce, r1, r2, ht, res⟩
/-- a test's reading over K, from the value's -/
theorem lt_le {t : RdE} {σ : L2.St} {H : Hp} {Q : Bool → Hp → Prop} (h : LT g W (fun δ S Y K => t δ S Y fun d S' => ∃ k, d = .bl k ∧ K k S') σ H Q) : LE g W t σ H fun v H' => ∃ k, v = .bl k ∧ Q k H' := by
 obtain ⟨δ, S, Y, K, R, ht, res, rw'⟩ := h
 refine ⟨δ, S, Y, _, R, ht, fun d S1 v H1 k P c r => ?_, rw'⟩
 obtain ⟨b, rfl, k⟩ := k
 exact ⟨b, rep_bl r, res b S1 H1 k P c⟩
theorem lt_tru {K : PySem.W.Frag} (hK : g.K = K) {t : RdE} {σ : L2.St} {H : Hp} {Q : Bool → Hp → Prop} (h : LT g W (fun δ S Y K => t δ S Y fun d S' => truD d S' fun b => K b S') σ H Q) : LE g W t σ H fun v H' => ∃ k, TruV K v H' k ∧ Q k H' := by
 obtain ⟨δ, S, Y, K', R, ht, res, rw'⟩ := h
 refine ⟨δ, S, Y, _, R, ht, fun d S1 v H1 k P c r => ?_, rw'⟩
 subst hK
 have X0 : ∃ k, TruV g.K v H1 k ∧ K' k S1 := by
  have k : truD d S1 fun b => K' b S1 := k
  unfold truD at k
  split at k
  ·rename_i e; cases vw_non r e; exact ⟨false, rfl, k⟩
  ·rename_i b e; cases vw_bl r e; exact ⟨b, rfl, k⟩
  ·rename_i b e; cases vw_int r e; exact ⟨_, rfl, k⟩
  ·rename_i b e; cases vw_str r e; exact ⟨_, ⟨k.1, rfl⟩, k.2⟩
  ·rename_i ds e
   obtain ⟨p, vs, rfl, hl, hr⟩ := vw_lst c r e
   exact ⟨_, .inl ⟨vs, hl, rfl⟩, by rw [isEmpty_reps hr]; exact k⟩
  ·rename_i ds e
   obtain ⟨p, vs, rfl, hl, hr⟩ := vw_tup r e
   exact ⟨_, .inr (.inl ⟨vs, hl, rfl⟩), by rw [isEmpty_reps hr]; exact k⟩
  ·exact k.elim
 obtain ⟨b, tv, k⟩ := X0
 exact ⟨b, tv, res b S1 H1 k P c⟩
end
section
variable {n : SN} {X : Cx} {G : Gm} {W : WX} {k : Nat} {sc : Scope}
theorem pe_false {x : Expr} {t : RdE} (h : ∀ δ S Y K, ¬ t δ S Y K) : PE X x (LE G.toGd W t) := ⟨fun _ _ _ _ _ _ ⟨_, _, _, _, _, q, _⟩ => (h _ _ _ _ q).elim⟩
theorem pt_false {x : Expr} {t : RdT} (h : ∀ δ S Y K, ¬ t δ S Y K) : PT X x (LT G.toGd W t) := ⟨fun _ _ _ _ _ _ ⟨_, _, _, _, _, q, _⟩ => (h _ _ _ _ q).elim⟩
theorem pw_false {x : Expr} {t : RdT} (h : ∀ δ S Y K, ¬ t δ S Y K) : PW X x (LT G.toGd W t) := ⟨fun _ _ _ _ _ _ _ ⟨_, _, _, _, _, q, _⟩ => (h _ _ _ _ q).elim⟩
/-- a test that is the value's truth -/
theorem pt_of {x : Expr} {t : RdE} (c : XC n X G W k sc) (h : PE X x (LE G.toGd W t)) (hp : plainT x = true) : PT X x (LT G.toGd W fun δ S Y K => t δ S Y fun d S' => truD d S' fun b => K b S') :=
 PT.imp (pt_truth h fun whole => plainT_ok hp whole) fun σ H Q q => lt_tru c.ok.K q
end
end Sv
/-! SvM: method calls' form. -/
namespace Sv
open PySem PySem.Spec PyProof.Rows L2
open L2H (RoomH)
theorem stars_all : ∀ {es : List Expr} {env : Env} {pos : Pos}, es.all nstar = true → (backTo pos (starEach es env)).all (fun x => !x.1) = true
 | [], _, _, _ => rfl
 | e :: es, env, pos, h => by
  rw [List.all_cons, Bool.and_eq_true] at h
  rw [nstar_ok h.1]
  have q := stars_all (env := env) (pos := pos) h.2
  simpa [backTo] using q
theorem meth_eq {o : Expr} {args : List Expr} {name : Str} {apos pos : Pos} {env : Env} (h1 : nsup o = true) (h2 : args.all nstar = true) (h3 : args.length < 30) (h4 : (apos.endLine == pos.line) = true) :
  eval (.Call (.Attribute o name apos) args [] pos) env = (do
   let ov ← eval o env
   standAt apos.atName
   let (f, first) ← holding [ov] (getMethod ov name (do return (← importBound o env).getD true))
   callWith pos f first (backTo pos (starEach args env)) (backToKw pos (keywordEach [] env))) := by
 show (do
  let ov ← attributeBase o name env (eval o env)
  standAt apos.atName
  methodCall o name apos pos env ov (args.length + ([] : List Keyword).length) (backTo pos (starEach args env)) (backToKw pos (keywordEach [] env))) = _
 rw [nsup_ok h1]
 have hform : methodCallForm (args.length + ([] : List Keyword).length) (backTo pos (starEach args env)) (backToKw pos (keywordEach [] env)) = true := by
  unfold methodCallForm
  rw [stars_all h2]
  show (true && true && decide (args.length + 0 + (if true = true then 0 else 1) < 30)) = true
  simpa using h3
 have hpos : methodCallPos true o env apos pos = pure pos := by unfold methodCallPos; simp [h4]
 congr 1
 funext ov
 congr 1
 funext _
 unfold methodCall
 rw [hform, hpos]
 unfold calleeOf
 simp
end Sv
/-! Sv7: the check is sound: expressions. -/
namespace Sv
open PySem PySem.Spec PyProof.Rows L2
open L2H (RoomH)
def RL.len : RL → Nat
 | .nil => 0 | .cons _ r => r.len + 1
/-- what is shown of an expression, of a list of them -/
structure SndE (n : SN) (sc : Scope) (e : RE) (x : Expr) : Prop where
 v : ∀ X G W k, XC n X G W k sc → PE X x (LE G.toGd W (den G e))
 t : ∀ X G W k, XC n X G W k sc → PT X x (LT G.toGd W (denT G e))
structure SndL (n : SN) (sc : Scope) (es : RL) (xs : List Expr) : Prop where
 a : ∀ X G W k, XC n X G W k sc → PA X xs (LA G.toGd W (dens G es))
 and : ∀ X G W k pos, XC n X G W k sc → PE X (.BoolOp .And xs pos) (LE G.toGd W (denAnd G es))
 or : ∀ X G W k pos, XC n X G W k sc → PE X (.BoolOp .Or xs pos) (LE G.toGd W (denOr G es))
 tand : ∀ X G W k pos, XC n X G W k sc → PW X (.BoolOp .And xs pos) (LT G.toGd W (denTAnd G es))
 tor : ∀ X G W k pos, XC n X G W k sc → PW X (.BoolOp .Or xs pos) (LT G.toGd W (denTOr G es))
 st : xs.all nstar = true
 nl : xs = [] → es = .nil
 ne : es.len = xs.length
def SndI (n : SN) (sc : Scope) (i : RI) (x : Expr) : Prop := ∀ X G W k tg, XC n X G W k sc → G.m0 = none → (i.two = true → ∃ elts kk tpos, tg = .Tuple elts kk tpos) → PI X tg x (LI G.toGd W (denI G i))
theorem LE.then {g : Gd} {W : WX} {t : RdE} {σ : L2.St} {H : Hp} {Q Q' : VK} (h : LE g W t σ H Q) (w : ∀ v H', Q v H' → Q' v H') : LE g W t σ H Q' := by
 obtain ⟨δ, S, Y, K, R, ht, res, rw'⟩ := h
 exact ⟨δ, S, Y, K, R, ht, fun d S1 v H1 k P c r => w _ _ (res d S1 v H1 k P c r), rw'⟩
theorem LT.then {g : Gd} {W : WX} {t : RdT} {σ : L2.St} {H : Hp} {Q Q' : Bool → Hp → Prop} (h : LT g W t σ H Q) (w : ∀ v H', Q v H' → Q' v H') : LT g W t σ H Q' := by
 obtain ⟨δ, S, Y, K, R, ht, res, rw'⟩ := h
 exact ⟨δ, S, Y, K, R, ht, fun d S1 v k P c => w _ _ (res d S1 v k P c), rw'⟩
theorem LA.then {g : Gd} {W : WX} {t : RdL} {σ : L2.St} {H : Hp} {Q Q' : List V → Hp → Prop} (h : LA g W t σ H Q) (w : ∀ v H', Q v H' → Q' v H') : LA g W t σ H Q' := by
 obtain ⟨δ, S, Y, K, R, ht, res, rw'⟩ := h
 exact ⟨δ, S, Y, K, R, ht, fun d S1 v H1 k P c r => w _ _ (res d S1 v H1 k P c r), rw'⟩
/-- a reading that is another's -/
theorem LE.re {g : Gd} {W : WX} {t t' : RdE} {σ : L2.St} {H : Hp} {Q : VK} (h : LE g W t σ H Q) (w : ∀ δ S Y K, t δ S Y K → t' δ S Y K) : LE g W t' σ H Q := by
 obtain ⟨δ, S, Y, K, R, ht, res, rw'⟩ := h
 exact ⟨δ, S, Y, K, R, w _ _ _ _ ht, res, rw'⟩
theorem LT.re {g : Gd} {W : WX} {t t' : RdT} {σ : L2.St} {H : Hp} {Q : Bool → Hp → Prop} (h : LT g W t σ H Q) (w : ∀ δ S Y K, t δ S Y K → t' δ S Y K) : LT g W t' σ H Q := by
 obtain ⟨δ, S, Y, K, R, ht, res, rw'⟩ := h
 exact ⟨δ, S, Y, K, R, w _ _ _ _ ht, res, rw'⟩
section
variable {n : SN} {X : Cx} {G : Gm} {W : WX} {k : Nat} {sc : Scope} {a b c' : RE} {l r t : Expr} {pos : Pos} {es : RL} {xs : List Expr}
/-- behind a list of values -/
theorem la_bind {g : Gd} {t1 : RdL} {t2 : List D → RdE} {σ : L2.St} {H : Hp} {Q : VK} (h : LE g W (fun δ S Y K => t1 δ S Y fun x S1 => t2 x δ S1 Y K) σ H Q) :
  LA g W t1 σ H fun vs H1 => ∃ xs δ S Y K, Rel g S H1 δ σ ∧ Reps g S H1 xs vs ∧ t2 xs δ S Y K ∧ Res g S H1 K Q ∧ ResW g S H1 Y W := by
 obtain ⟨δ, S, Y, K, R, ht, res, rw'⟩ := h
 exact ⟨δ, S, Y, _, R, ht, fun d S1 v H1 k P c r => ⟨d, δ, S1, Y, K, R.mono P c, r, k, res.mono P, rw'.mono P⟩, rw'⟩
theorem s_bin {op : Operator} (c : XC n X G W k sc) (ha : PE X l (LE G.toGd W (den G a))) (hb : PE X r (LE G.toGd W (den G b))) : PE X (.BinOp l op r pos) (LE G.toGd W (den G (.bin op a b))) :=
 PE.imp (pe_op (opD_ok c.ok.K op) ha hb) fun σ H Q h => by
  rw [den] at h
  exact (le_bind (t1 := den G a) (t2 := fun x δ S1 Y K => den G b δ S1 Y fun y S2 => opD op x y S2 K) h).then fun v H1 q =>
   (le_bind1 (t1 := den G b) (t2 := fun x y δ S2 Y K => opD op x y S2 K) q).then fun u H2 q => le2_r2 q
theorem s_neg (ha : PE X l (LE G.toGd W (den G a))) : PE X (.UnaryOp .USub l pos) (LE G.toGd W (den G (.neg a))) :=
 PE.imp (pe_un un_neg ha) fun σ H Q h => by
  rw [den] at h
  refine (le_bind (t1 := den G a) (t2 := fun x δ S1 Y K => ∃ i, x = .int i ∧ K (.int (-i)) S1) h).then fun v H1 q => ?_
  obtain ⟨x, δ, S, Y, K, R, r, ⟨i, rfl, q⟩, res, _⟩ := q
  exact ⟨i, rep_int r, res.int q R.ce⟩
theorem s_nt (c : XC n X G W k sc) (ha : PE X l (LE G.toGd W (den G a))) : PE X (.UnaryOp .Not l pos) (LE G.toGd W (den G (.nt a))) :=
 PE.imp (pe_notT ha) fun σ H Q h => by
  rw [den] at h
  refine (le_bind (t1 := den G a) (t2 := fun x δ S1 Y K => truD x S1 fun b => K (.bl (!b)) S1) h).then fun v H1 q => ?_
  obtain ⟨x, δ, S, Y, K, R, r, q, res, _⟩ := q
  obtain ⟨b, tv, q⟩ := truD_ok c.ok.K R.ce r q
  exact ⟨b, tv, res.bl q R.ce⟩
theorem s_ntT (ha : PT X l (LT G.toGd W (denT G a))) : PT X (.UnaryOp .Not l pos) (LT G.toGd W (denT G (.nt a))) :=
 PT.imp (pt_not ha) fun σ H Q h => by
  rw [denT] at h
  obtain ⟨δ, S, Y, K, R, ht, res, rw'⟩ := h
  exact ⟨δ, S, Y, _, R, ht, fun b S' H' k P c => res _ S' H' k P c, rw'⟩
theorem s_ife (hc : PT X t (LT G.toGd W (denT G c'))) (ha : PE X l (LE G.toGd W (den G a))) (hb : PE X r (LE G.toGd W (den G b))) : PE X (.IfExp t l r pos) (LE G.toGd W (den G (.ife c' a b))) :=
 PE.imp (pe_ifExp hc ha hb) fun σ H Q h => by
  rw [den] at h
  obtain ⟨δ, S, Y, K, R, ht, res, rw'⟩ := h
  refine ⟨δ, S, Y, _, R, ht, fun b S' H' k P c => ?_, rw'⟩
  cases b with
  | true => exact ⟨δ, S', Y, K, R.mono P c, k, res.mono P, rw'.mono P⟩
  | false => exact ⟨δ, S', Y, K, R.mono P c, k, res.mono P, rw'.mono P⟩
theorem s_cmp {op : CmpOp} (c : XC n X G W k sc) (hs : nsetd r = true) (ha : PE X l (LE G.toGd W (den G a))) (hb : PE X r (LE G.toGd W (den G b))) : PE X (.Compare l [op] [r] pos) (LE G.toGd W (den G (.cmp op a b))) :=
 PE.imp (pe_cmpR (cmpE_ok c.ok.K c.un op) ha hb (nsetd_ok hs op)) fun σ H Q h => by
  rw [den] at h
  exact (le_bind (t1 := den G a) (t2 := fun x δ S1 Y K => den G b δ S1 Y fun y S2 => cmpE op x y S2 K) h).then fun v H1 q =>
   (le_bind1 (t1 := den G b) (t2 := fun x y δ S2 Y K => cmpE op x y S2 K) q).then fun u H2 q => le2_r2 q
theorem s_cmpT {op : CmpOp} (c : XC n X G W k sc) (hs : nsetd r = true) (ha : PE X l (LE G.toGd W (den G a))) (hb : PE X r (LE G.toGd W (den G b))) : PT X (.Compare l [op] [r] pos) (LT G.toGd W (denT G (.cmp op a b))) :=
 PT.imp (pt_cmpR (cmpE_ok c.ok.K c.un op) ha hb (nsetd_ok hs op)) fun σ H Q h => by
  rw [denT] at h
  have h := lt_le (t := fun δ S Y K => den G a δ S Y fun x S1 => den G b δ S1 Y fun y S2 => cmpE op x y S2 K) h
  exact (le_bind (t1 := den G a) (t2 := fun x δ S1 Y K => den G b δ S1 Y fun y S2 => cmpE op x y S2 K) h).then fun v H1 q =>
   (le_bind1 (t1 := den G b) (t2 := fun x y δ S2 Y K => cmpE op x y S2 K) q).then fun u H2 q => le2_r2 q
/-- the chain's reading -/
theorem chain_rd {o1 o2 : CmpOp} {σ : L2.St} {H : Hp} {Q : VK} (h : LE G.toGd W (den G (.chn o1 o2 a b c')) σ H Q) : tChain (rD2 G.toGd (cmpE o1)) (rD2 G.toGd (cmpE o2)) (LE G.toGd W (den G a)) (LE G.toGd W (den G b)) (LE G.toGd W (den G c')) σ H Q := by
 rw [den] at h
 refine (le_bind (t1 := den G a) (t2 := fun x δ S1 Y K => den G b δ S1 Y fun y S2 => cmpE o1 x y S2 fun z S3 => ∃ k, z = .bl k ∧ if k = true then den G c' δ S3 Y fun w S4 => cmpE o2 y w S4 K else K (.bl false) S3) h).then fun v H1 q => ?_
 refine (le_bind1 (t1 := den G b) (t2 := fun x y δ S2 Y K => cmpE o1 x y S2 fun z S3 => ∃ k, z = .bl k ∧ if k = true then den G c' δ S3 Y fun w S4 => cmpE o2 y w S4 K else K (.bl false) S3) q).then fun u H2 q => ?_
 obtain ⟨x, y, δ, S, Y, K, R, r1, r2, ht, res, rw'⟩ := q
 refine ⟨x, y, S, _, R.ce, r1, r2, ht, fun z S3 zv H3 k P c r => ?_⟩
 obtain ⟨b0, rfl, k⟩ := k
 refine ⟨b0, rep_bl r, ?_⟩
 cases b0 with
 | false => exact (res.mono P).bl k c
 | true => exact ⟨δ, S3, Y, _, R.mono P c, k, fun w S4 wv H4 k P2 c2 r' => ⟨y, w, S4, K, c2, (r2.mono P).mono P2, r', k, (res.mono P).mono P2⟩, rw'.mono P⟩
theorem s_chn {o1 o2 : CmpOp} (c : XC n X G W k sc) (hs : nsetd t = true) (ha : PE X l (LE G.toGd W (den G a))) (hb : PE X r (LE G.toGd W (den G b))) (hc : PE X t (LE G.toGd W (den G c'))) : PE X (.Compare l [o1, o2] [r, t] pos) (LE G.toGd W (den G (.chn o1 o2 a b c'))) :=
 PE.imp (pe_chain (cmpE_ok c.ok.K c.un o1) (cmpE_ok c.ok.K c.un o2) ha hb hc (by show lastMarks [o2] [t] = false; exact nsetd_ok hs o2)) fun σ H Q h => chain_rd h
theorem s_chnT {o1 o2 : CmpOp} (c : XC n X G W k sc) (hs : nsetd t = true) (ha : PE X l (LE G.toGd W (den G a))) (hb : PE X r (LE G.toGd W (den G b))) (hc : PE X t (LE G.toGd W (den G c'))) : PT X (.Compare l [o1, o2] [r, t] pos) (LT G.toGd W (denT G (.chn o1 o2 a b c'))) :=
 PT.imp (pt_chain (cmpE_ok c.ok.K c.un o1) (cmpE_ok c.ok.K c.un o2) ha hb hc (by show lastMarks [o2] [t] = false; exact nsetd_ok hs o2)) fun σ H Q h => by
  refine chain_rd (lt_le (t := den G (.chn o1 o2 a b c')) ?_)
  refine h.re fun δ S Y K q => ?_
  rw [denT] at q
  rw [den]
  refine q
theorem s_lst {cell : Bool} (ha : PA X xs (LA G.toGd W (dens G es))) : PE X (.List xs pos) (LE G.toGd W (den G (.lst cell es))) :=
 PE.imp (pe_lst ha) fun σ H Q h => by
  rw [den] at h
  refine (la_bind (t1 := dens G es) (t2 := fun ds δ S1 Y K => ds.length ≤ sizeLine ∧ if cell = true then ∀ p, S1 p = none → K (.obj p) (S1.set p (.lst ds)) else K (.lst ds) S1) h).then fun vs H1 q => ?_
  obtain ⟨ds, δ, S, Y, K, R, r, ⟨hz, q⟩, res, _⟩ := q
  refine ⟨by rw [← r.length]; exact hz, fun p hp => ?_⟩
  cases cell with
  | true => exact res.lstC q R.ce r hp
  | false => exact res.lst q R.ce r hp
theorem s_tup {kk : Nat} (ha : PA X xs (LA G.toGd W (dens G es))) : PE X (.Tuple xs kk pos) (LE G.toGd W (den G (.tup es))) :=
 PE.imp (pe_tup ha) fun σ H Q h => by
  rw [den] at h
  refine (la_bind (t1 := dens G es) (t2 := fun ds δ S1 Y K => ds.length ≤ sizeLine ∧ K (.tup ds) S1) h).then fun vs H1 q => ?_
  obtain ⟨ds, δ, S, Y, K, R, r, ⟨hz, q⟩, res, _⟩ := q
  exact ⟨by rw [← r.length]; exact hz, fun p hp => res.tup q R.ce r hp⟩
theorem s_ix (c : XC n X G W k sc) (hs : nslice r = true) (ha : PE X l (LE G.toGd W (den G a))) (hb : PE X r (LE G.toGd W (den G b))) : PE X (.Subscript l r pos) (LE G.toGd W (den G (.ix a b))) :=
 PE.imp (pe_ix (ixD_ok c.ok.K c.un) ha hb (nslice_ok hs)) fun σ H Q h => by
  rw [den] at h
  exact (le_bind (t1 := den G a) (t2 := fun x δ S1 Y K => den G b δ S1 Y fun y S2 => ixD x y S2 K) h).then fun v H1 q =>
   (le_bind1 (t1 := den G b) (t2 := fun x y δ S2 Y K => ixD x y S2 K) q).then fun u H2 q => le2_r2 q
/-- a slice's part -/
def LO (g : Gd) (W : WX) (t : DS → SS → XD' → (Option Int → SS → Prop) → Prop) : TO := fun σ H Q => ∃ δ S Y K, Rel g S H δ σ ∧ t δ S Y K ∧ (∀ o S' H', K o S' → Post S H S' H' → CellsOk g S' H' → Q o H') ∧ ResW g S H Y W
theorem PO.imp {e : Option Expr} {t t' : TO} (h : PO X e t) (w : ∀ σ H Q, t' σ H Q → t σ H Q) : PO X e t' := ⟨fun pins s σ H Q I q => h.run pins s σ H Q I (w σ H Q q)⟩
theorem s_sl {lo hi : RO} {p q : Option Expr} {p2 : Pos} (c : XC n X G W k sc) (ha : PE X l (LE G.toGd W (den G a))) (hl : PO X p (LO G.toGd W (denO G lo))) (hh : PO X q (LO G.toGd W (denO G hi))) : PE X (.Subscript l (.Slice p q none p2) pos) (LE G.toGd W (den G (.sl a lo hi))) :=
 PE.imp (pe_slice (slD_ok c.ok.K) ha hl hh) fun σ H Q h => by
  rw [den] at h
  refine (le_bind (t1 := den G a) (t2 := fun x δ S1 Y K => denO G lo δ S1 Y fun l S2 => denO G hi δ S2 Y fun u S3 => slD x l u S3 K) h).then fun v H1 q => ?_
  obtain ⟨x, δ, S, Y, K, R, r, q, res, rw'⟩ := q
  refine ⟨δ, S, Y, _, R, q, fun o S1 H1 k P c => ⟨δ, S1, Y, _, R.mono P c, k, fun o2 S2 H2 k P2 c2 => ⟨x, S2, K, c2, (r.mono P).mono P2, k, (res.mono P).mono P2⟩, rw'.mono P⟩, rw'⟩
theorem s_call {j : Nat} {x : Str} {p : Pos} (c : XC n X G W k sc) (hn : fnB n.fns j x = true) (hg : glB sc x = true) (hL : SndL n sc es xs) : PE X (.Call (.Name x p) xs [] pos) (LE G.toGd W (den G (.call j es))) := by
 cases hT : G.fn G.m0.isSome j with
 | none =>
  refine pe_false fun δ S Y K h => ?_
  rw [den] at h
  obtain ⟨T, e, _⟩ := h
  rw [hT] at e; cases e
 | some T =>
  obtain ⟨f, fd, ps, h1, h2, h3, F⟩ := c.ok.fn _ j T x hT (fnB_ok hn).1
  have hs := hL.st
  have ha := hL.a X G W k c
  have fin : ∀ {σ : L2.St} {H : Hp} {Q : VK}, LE G.toGd W (den G (.call j es)) σ H Q → tCallG G.m0 (spD G.toGd T) [] (WE W) (LA G.toGd W (dens G es)) σ H Q := by
   intro σ H Q h
   have h := h.re (t' := fun δ S Y K => dens G es δ S Y fun ds S1 => T G.m0 ds S1 K fun C fs S' => Y C fs δ S') fun δ S Y K q => by
    rw [den] at q
    obtain ⟨T', e, q⟩ := q
    rw [hT] at e; cases e
    exact q
   refine (la_bind (t1 := dens G es) (t2 := fun ds δ S1 Y K => T G.m0 ds S1 K fun C fs S' => Y C fs δ S') h).then fun vs H1 q => ?_
   obtain ⟨ds, δ, S, Y, K, R, r, q, res, rw'⟩ := q
   rw [List.append_nil]
   exact ⟨ds, S, K, _, R.ce, r, q, res, fun C fs S' d H' y P cc x => rw' C fs δ S' d σ H' y P (R.mono P cc) x⟩
  cases xs with
  | nil =>
   refine PE.imp (pe_callG0 F rfl c.rm c.md ⟨c.gl hg, h1, h2, (fnB_ok hn).2⟩ h3 .nil (fun σ => L2N.passAt c.tk σ)) fun σ H Q h => ?_
   have hes := hL.nl rfl
   obtain ⟨δ, S, Y, K, R, ht, res, rw'⟩ := fin h
   rw [hes, dens] at ht
   exact res [] S [] H ht (Post.refl _ _) R.ce (by simp only [Reps])
  | cons y ys =>
   rw [List.all_cons, Bool.and_eq_true] at hs
   exact PE.imp (pe_callG F rfl c.rm c.md ⟨c.gl hg, h1, h2, (fnB_ok hn).2⟩ h3 .nil (fun σ => L2N.passAt c.tk σ) ha (nstar_ok hs.1) (stars_any hs.2)) fun σ H Q h => fin h
theorem bn_ok (c : XC n X G W k sc) (b : Bn) (hb : b.needs G.m0) : ∃ f, ((∃ id, f = .builtin id) ∨ ∃ T, f = .type T) ∧ CallR X f (rDc G.toGd b.den) ∧ bootBuiltins b.nm = some f ∧ b.nm ∈ bnames ∧ b.nm ≠ "__name__" ∧ (b.nm == ("__debug__" : Str)) = false := by
 have calm : G.m0 = none → X.calm = true := fun e => by have := c.md; rw [e] at this; exact this.2
 cases b with
 | len => exact ⟨_, .inl ⟨"len", rfl⟩, len_ok c.ok.K, by decide +kernel, by decide +kernel, by decide +kernel, by decide +kernel⟩
 | abs => exact ⟨_, .inl ⟨"abs", rfl⟩, abs_ok, by decide +kernel, by decide +kernel, by decide +kernel, by decide +kernel⟩
 | max => exact ⟨_, .inl ⟨"max", rfl⟩, max_ok (calm hb), by decide +kernel, by decide +kernel, by decide +kernel, by decide +kernel⟩
 | min => exact ⟨_, .inl ⟨"min", rfl⟩, min_ok (calm hb), by decide +kernel, by decide +kernel, by decide +kernel, by decide +kernel⟩
 | rpr => exact ⟨_, .inl ⟨"repr", rfl⟩, call_repr c.ok.K c.md.1 (by have := c.rm.un; omega), by decide +kernel, by decide +kernel, by decide +kernel, by decide +kernel⟩
 | int => exact ⟨_, .inr ⟨"int", rfl⟩, int_ok, by decide +kernel, by decide +kernel, by decide +kernel, by decide +kernel⟩
 | tup => exact ⟨_, .inr ⟨"tuple", rfl⟩, tuple_ok c.ok.K, by decide +kernel, by decide +kernel, by decide +kernel, by decide +kernel⟩
 | lst cell => cases cell <;> exact ⟨_, .inr ⟨"list", rfl⟩, list_ok c.ok.K _, by decide +kernel, by decide +kernel, by decide +kernel, by decide +kernel⟩
 | srt cell => cases cell <;> exact ⟨_, .inl ⟨"sorted", rfl⟩, sorted_ok (calm hb) c.ok.K _, by decide +kernel, by decide +kernel, by decide +kernel, by decide +kernel⟩
 | dic cell => cases cell <;> exact ⟨_, .inr ⟨"dict", rfl⟩, dict_ok _, by decide +kernel, by decide +kernel, by decide +kernel, by decide +kernel⟩
 | dcp cell => cases cell <;> exact ⟨_, .inr ⟨"dict", rfl⟩, dictP_ok (calm hb) c.ok.K _, by decide +kernel, by decide +kernel, by decide +kernel, by decide +kernel⟩
 | all => exact ⟨_, .inl ⟨"all", rfl⟩, all_ok (calm hb) c.ok.K, by decide +kernel, by decide +kernel, by decide +kernel, by decide +kernel⟩
 | sum => exact ⟨_, .inl ⟨"sum", rfl⟩, sum_ok (calm hb) c.ok.K, by decide +kernel, by decide +kernel, by decide +kernel, by decide +kernel⟩
 | lsk cell => cases cell <;> exact ⟨_, .inr ⟨"list", rfl⟩, listK_ok (calm hb) _, by decide +kernel, by decide +kernel, by decide +kernel, by decide +kernel⟩
 | str => exact ⟨_, .inr ⟨"str", rfl⟩, str_ok, by decide +kernel, by decide +kernel, by decide +kernel, by decide +kernel⟩
 | mnl => exact ⟨_, .inl ⟨"min", rfl⟩, minL_ok (calm hb) c.ok.K c.un, by decide +kernel, by decide +kernel, by decide +kernel, by decide +kernel⟩
 | srl cell => cases cell <;> exact ⟨_, .inl ⟨"sorted", rfl⟩, sortedL_ok (calm hb) c.ok.K c.un _, by decide +kernel, by decide +kernel, by decide +kernel, by decide +kernel⟩
theorem s_bi {b : Bn} {p : Pos} (c : XC n X G W k sc) (hg : glB sc b.nm = true) (hne : xs.isEmpty = false) (hL : SndL n sc es xs) : PE X (.Call (.Name b.nm p) xs [] pos) (LE G.toGd W (den G (.bi b es))) := by
 by_cases hb : b.needs G.m0
 ·obtain ⟨f, hf, hc, hv, hm, hn, hd⟩ := bn_ok c b hb
  have hs := hL.st
  cases xs with
  | nil => cases hne
  | cons y ys =>
   rw [List.all_cons, Bool.and_eq_true] at hs
   have rule : PE X (.Call (.Name b.nm p) (y :: ys) [] pos) (tCB (rDc G.toGd b.den) (LA G.toGd W (dens G es))) := by
    rcases hf with ⟨id, rfl⟩ | ⟨T, rfl⟩
    ·exact pe_callB hc (c.gl hg) (c.ok.bt _ hm) hv (hL.a X G W k c) hn hd (nstar_ok hs.1) (stars_any hs.2)
    ·exact pe_callTy hc (c.gl hg) (c.ok.bt _ hm) hv (hL.a X G W k c) hn hd (nstar_ok hs.1) (stars_any hs.2)
   refine PE.imp rule fun σ H Q h => ?_
   have h := h.re (t' := fun δ S Y K => dens G es δ S Y fun ds S1 => b.den ds S1 K) fun δ S Y K q => by
    rw [den] at q
    exact q.2
   refine (la_bind (t1 := dens G es) (t2 := fun ds δ S1 Y K => b.den ds S1 K) h).then fun vs H1 q => ?_
   obtain ⟨ds, δ, S, Y, K, R, r, q, res, _⟩ := q
   exact ⟨ds, S, K, R.ce, r, q, res⟩
 ·refine pe_false fun δ S Y K h => ?_
  rw [den] at h
  exact hb h.1
theorem s_isi {cn : Cn} {x z : Str} {p p2 : Pos} (c : XC n X G W k sc) (ex : x = ("isinstance" : Str)) (hg : glB sc x = true) (hz : glB sc z = true) (hst : nstar l = true) (ha : PE X l (LE G.toGd W (den G a)))
  (hc : (match cn with
   | .ty t => decide (bootBuiltins z = some (.type t)) && decide (z ≠ ("__name__" : Str)) && decide ((z == ("__debug__" : Str)) = false) && decide (z ∈ bnames)
   | .own j => nmB n.cls j z) = true) : PE X (.Call (.Name x p) [l, .Name z p2] [] pos) (LE G.toGd W (den G (.isi a cn))) := by
 subst ex
 have hcl : ∃ cv, PE X (.Name z p2) (tC cv) ∧ ClsV cv (cn.val G) := by
  cases cn with
  | ty t =>
   simp only [Bool.and_eq_true, decide_eq_true_eq] at hc
   obtain ⟨⟨⟨h1, h2⟩, h3⟩, h4⟩ := hc
   exact ⟨.ty t, pe_bltn (c.gl hz) (c.ok.bt _ h4) h1 rfl h2 h3, .ty t⟩
  | own j =>
   have h := c.ok.cl j z (nmB_ok hc).1
   exact ⟨.ref (G.cl j), pe_glob (c.gl hz) h rfl (nmB_ok hc).2.1, .own _⟩
 obtain ⟨cv, pz, cz⟩ := hcl
 refine PE.imp (pe_callB call_isP (c.gl hg) (c.ok.bt _ (by decide +kernel)) (by decide +kernel) (pa_cons ha (pa_cons pz pa_nil rfl) (nstar_ok hst)) (by decide +kernel) (by decide +kernel) (nstar_ok hst) rfl) fun σ H Q h => ?_
 rw [den] at h
 refine (le_bind (t1 := den G a) (t2 := fun x δ S1 Y K => ∃ t b, tyD S1 x = some t ∧ tyOk G S1 x ∧ PySem.W.kitOne G.K t (cn.val G) = some b ∧ K (.bl b) S1) h).then fun v H1 q => ?_
 obtain ⟨x, δ, S, Y, K, R, r, ⟨t, b, e1, e2, e3, q⟩, res, _⟩ := q
 rw [c.ok.K] at e3
 exact ⟨v, cv, t, _, b, rfl, cz, tyP_of c.ok.K c.md.p R.ce r e1 e2, e3, res.bl q R.ce⟩
/-! ### methods -/
theorem tyV_lst {x : D} {v : V} {S : SS} {H : Hp} (hK : G.K = X.K) (cells : CellsOk G.toGd S H) (rep : Rep G.toGd S H x v) (h : isLstD x S) : tyV X.K "list" v H := by
 obtain ⟨ds, seen⟩ := h
 obtain ⟨p, vs, rfl, seq, _⟩ := vw_lst cells rep seen
 rw [hK] at seq
 exact .inl ⟨rfl, vs, seq⟩
theorem tyV_str {x : D} {v : V} {S : SS} {H : Hp} (rep : Rep G.toGd S H x v) (h : isStrD x) : tyV X.K "str" v H := by
 obtain ⟨z, rfl⟩ := h
 cases rep_str rep
 exact rfl
theorem tyV_dic {x : D} {v : V} {S : SS} {H : Hp} (cells : CellsOk G.toGd S H) (rep : Rep G.toGd S H x v) (h : isDicD x S) : tyV X.K "dict" v H := by
 obtain ⟨p, kvs, rfl, at_p⟩ := h
 cases rep_obj rep
 obtain ⟨ws, here, _⟩ := cells p _ at_p
 exact .inr (.inr (.inl ⟨rfl, .inl ⟨ws, here⟩⟩))
theorem mn_ok (c : XC n X G W k sc) (b : Mn) : ∃ T id, PlainAttrs T ∧ Slot T b.nm id ∧ typeOf (.builtin id) = pure (.type "method_descriptor") ∧ MtR X id (rDm G.toGd b.den) ∧ ∀ x v S H, CellsOk G.toGd S H → Rep G.toGd S H x v → b.rc x S → tyV X.K T v H := by
 have un := c.un
 cases b with
 | join => exact ⟨_, _, PySem.F.plainAttrs_str, PySem.F.slot_str_join, PySem.F.type_str_join, join_ok c.ok.K, fun _ _ _ _ _ r h => tyV_str r h⟩
 | upper => exact ⟨_, _, PySem.F.plainAttrs_str, PySem.F.slot_str_upper, PySem.F.type_str_upper, upper_ok, fun _ _ _ _ _ r h => tyV_str r h⟩
 | app => exact ⟨_, _, PySem.F.plainAttrs_list, PySem.F.slot_list_append, PySem.F.type_list_append, app_ok, fun _ _ _ _ q r h => tyV_lst c.ok.K q r h⟩
 | ins => exact ⟨_, _, PySem.F.plainAttrs_list, PySem.F.slot_list_insert, PySem.F.type_list_insert, ins_ok, fun _ _ _ _ q r h => tyV_lst c.ok.K q r h⟩
 | pop => exact ⟨_, _, PySem.F.plainAttrs_list, PySem.F.slot_list_pop, PySem.F.type_list_pop, pop_ok, fun _ _ _ _ q r h => tyV_lst c.ok.K q r h⟩
 | clr => exact ⟨_, _, PySem.F.plainAttrs_list, PySem.F.slot_list_clear, PySem.F.type_list_clear, clear_ok, fun _ _ _ _ q r h => tyV_lst c.ok.K q r h⟩
 | cnt => exact ⟨_, _, PySem.F.plainAttrs_list, PySem.F.slot_list_count, PySem.F.type_list_count, cnt_ok c.ok.K un, fun _ _ _ _ q r h => tyV_lst c.ok.K q r h⟩
 | dpop => exact ⟨_, _, PySem.F.plainAttrs_dict, PySem.F.slot_dict_pop, PySem.F.type_dict_pop, dpop_ok, fun _ _ _ _ q r h => tyV_dic q r h⟩
 | upd => exact ⟨_, _, PySem.F.plainAttrs_dict, PySem.F.slot_dict_update, PySem.F.type_dict_update, upd_ok, fun _ _ _ _ q r h => tyV_dic q r h⟩
 | dget => exact ⟨_, _, PySem.F.plainAttrs_dict, PySem.F.slot_dict_get, PySem.F.type_dict_get, dget_ok (by omega), fun _ _ _ _ q r h => tyV_dicV q r h⟩
 | dset => exact ⟨_, _, PySem.F.plainAttrs_dict, PySem.F.slot_dict_setdefault, PySem.F.type_dict_setdefault, dset_ok, fun _ _ _ _ q r h => tyV_dic q r h⟩
 | dpop2 => exact ⟨_, _, PySem.F.plainAttrs_dict, PySem.F.slot_dict_pop, PySem.F.type_dict_pop, dpop2_ok, fun _ _ _ _ q r h => tyV_dic q r h⟩
 | idx => exact ⟨_, _, PySem.F.plainAttrs_list, PySem.F.slot_list_index, PySem.F.type_list_index, idx_ok c.ok.K, fun _ _ _ _ q r h => tyV_lst c.ok.K q r h⟩
 | spl => exact ⟨_, _, PySem.F.plainAttrs_str, PySem.F.slot_str_split, PySem.F.type_str_split, split_ok, fun _ _ _ _ _ r h => tyV_str r h⟩
theorem few_ok {es : List Expr} {env : Env} {p : Pos} (st : es.all nstar = true) (few : es.length < 30) : ((backTo p (starEach es env)).all (fun x => !x.1) && (backToKw p (keywordEach [] env)).all (fun x => x.1.isSome) && decide (es.length + ([] : List Keyword).length + (if ([] : List Keyword).isEmpty then 0 else 1) < 30)) = true := by
 rw [stars_all st]
 show (true && true && decide (es.length + 0 + 0 < 30)) = true
 simpa using few
/-- behind one value, a list of values -/
theorem la_bind1 {g : Gd} {t1 : RdL} {t2 : D → List D → RdE} {σ : L2.St} {H : Hp} {Q : VK} {v : V} (h : LE1 g W (fun x δ S Y K => t1 δ S Y fun ds S1 => t2 x ds δ S1 Y K) v σ H Q) :
  LA g W t1 σ H fun vs H1 => ∃ x ds δ S Y K, Rel g S H1 δ σ ∧ Rep g S H1 x v ∧ Reps g S H1 ds vs ∧ t2 x ds δ S Y K ∧ Res g S H1 K Q ∧ ResW g S H1 Y W := by
 obtain ⟨x, δ, S, Y, K, R, r0, ht, res, rw'⟩ := h
 exact ⟨δ, S, Y, _, R, ht, fun d S1 u H1 k P c r => ⟨x, d, δ, S1, Y, K, R.mono P c, r0.mono P, r, k, res.mono P, rw'.mono P⟩, rw'⟩
theorem s_mth {b : Mn} {ap : Pos} (c : XC n X G W k sc) (hs : nsup l = true) (hl : (ap.endLine == pos.line) = true) (few : xs.length < 30) (ha : PE X l (LE G.toGd W (den G a))) (hL : SndL n sc es xs) : PE X (.Call (.Attribute l b.nm ap) xs [] pos) (LE G.toGd W (den G (.mth b a es))) := by
 obtain ⟨T, id, pa, slot, ty, rule, typed⟩ := mn_ok c b
 have st := hL.st
 have split : ∀ {σ H Q}, LE G.toGd W (den G (.mth b a es)) σ H Q → LE G.toGd W (den G a) σ H fun v H1 => tyV X.K T v H1 ∧ LA G.toGd W (dens G es) σ H1 fun vs H2 => rDm G.toGd b.den v vs H2 Q := fun {σ H Q} h => by
  rw [den] at h
  refine (le_bind (t1 := den G a) (t2 := fun x δ S1 Y K => b.rc x S1 ∧ dens G es δ S1 Y fun ds S2 => b.den x ds S2 K) h).then fun v H1 q => ?_
  obtain ⟨x, δ, S, Y, K, R, r, ⟨rc, q⟩, res, rw'⟩ := q
  refine ⟨typed x v S H1 R.ce r rc, ?_⟩
  refine (la_bind1 (t1 := dens G es) (t2 := fun x ds δ S2 Y K => b.den x ds S2 K) ⟨x, δ, S, Y, K, R, r, q, res, rw'⟩).then fun vs H2 q => ?_
  obtain ⟨x, ds, δ, S, Y, K, R, r0, r1, q, res, _⟩ := q
  exact ⟨x, ds, S, K, R.ce, r0, r1, q, res⟩
 cases xs with
 | nil =>
  have hes := hL.nl rfl
  refine PE.imp (pe_bm0 pa slot ty rule ha (nsup_ok hs) hl) fun σ H Q h => (split h).then fun v H1 q => ⟨q.1, ?_⟩
  obtain ⟨δ, S, Y, K, R, ht, res, _⟩ := q.2
  rw [hes, dens] at ht
  exact res [] S [] H1 ht (Post.refl _ _) R.ce (by simp only [Reps])
 | cons y ys =>
  have st2 := st
  rw [List.all_cons, Bool.and_eq_true] at st2
  exact PE.imp (pe_bm pa slot ty rule ha (hL.a X G W k c) (nsup_ok hs) (few_ok st few) hl (nstar_ok st2.1) (stars_any st2.2)) fun σ H Q h => split h
theorem s_om {j : Nat} {m : Str} {ap : Pos} (c : XC n X G W k sc) (hs : nsup l = true) (hl : (ap.endLine == pos.line) = true) (few : xs.length < 30) (hm : mtB n.fns j m = true) (ha : PE X l (LE G.toGd W (den G a))) (hL : SndL n sc es xs) :
  PE X (.Call (.Attribute l m ap) xs [] pos) (LE G.toGd W (den G (.om j m a es))) := by
 cases hT : G.fn G.m0.isSome j with
 | none =>
  refine pe_false fun δ S Y K h => ?_
  rw [den] at h
  obtain ⟨T, e, _⟩ := h
  rw [hT] at e; cases e
 | some T =>
  obtain ⟨C0, at_j⟩ := mtB_ok hm
  obtain ⟨f, fd, ps, cls, is, binds, F⟩ := c.ok.meth _ j T C0 m hT at_j
  have st := hL.st
  have split : ∀ {σ H Q}, LE G.toGd W (den G (.om j m a es)) σ H Q → LE G.toGd W (den G a) σ H fun x H1 => ∃ p dx fs, x = .ref p ∧ H1 p = some (.ins (G.mc j) dx fs) ∧ fs.lookup m = none ∧ LA G.toGd W (dens G es) σ H1 fun vs H2 => spD G.toGd T G.m0 (x :: vs) H2 Q (WE W σ) := fun {σ H Q} h => by
   have h := h.re (t' := fun δ S Y K => den G a δ S Y fun x S1 => ∃ p, omD G j m x S1 p ∧ dens G es δ S1 Y fun ds S2 => T G.m0 (.obj p :: ds) S2 K fun C fs S' => Y C fs δ S') fun δ S Y K q => by
    rw [den] at q
    obtain ⟨T', e, q⟩ := q
    rw [hT] at e; cases e
    exact q
   refine (le_bind (t1 := den G a) (t2 := fun x δ S1 Y K => ∃ p, omD G j m x S1 p ∧ dens G es δ S1 Y fun ds S2 => T G.m0 (.obj p :: ds) S2 K fun C fs S' => Y C fs δ S') h).then fun v H1 q => ?_
   obtain ⟨x, δ, S, Y, K, R, r, ⟨p, ⟨rfl, fs, at_p, free⟩, q⟩, res, rw'⟩ := q
   cases rep_obj r
   obtain ⟨dx, ws, here, fields⟩ := R.ce p _ at_p
   refine ⟨p, dx, ws, rfl, here, repF_none fields free, ?_⟩
   refine (la_bind1 (t1 := dens G es) (t2 := fun x ds δ S2 Y K => T G.m0 (x :: ds) S2 K fun C fs S' => Y C fs δ S') ⟨.obj p, δ, S, Y, K, R, r, q, res, rw'⟩).then fun vs H2 q => ?_
   obtain ⟨x, ds, δ, S, Y, K, R, r0, r1, q, res, rw'⟩ := q
   exact ⟨x :: ds, S, K, _, R.ce, by simp only [Reps]; exact ⟨_, _, rfl, r0, r1⟩, q, res, fun C fs S' d H' y P cc z => rw' C fs δ S' d σ H' y P (R.mono P cc) z⟩
  cases xs with
  | nil =>
   have hes := hL.nl rfl
   refine PE.imp (pe_om0 F rfl c.rm c.md cls is binds (fun σ => L2N.passAt c.tk σ) ha (meth_eq hs rfl few hl)) fun σ H Q h => (split h).then fun v H1 q => ?_
   obtain ⟨p, dx, fs, e, here, free, q⟩ := q
   refine ⟨p, dx, fs, e, here, free, ?_⟩
   obtain ⟨δ, S, Y, K, R, ht, res, _⟩ := q
   rw [hes, dens] at ht
   exact res [] S [] H1 ht (Post.refl _ _) R.ce (by simp only [Reps])
  | cons y ys =>
   have st2 := st
   rw [List.all_cons, Bool.and_eq_true] at st2
   exact PE.imp (pe_om F rfl c.rm c.md cls is binds (fun σ => L2N.passAt c.tk σ) ha (hL.a X G W k c) (meth_eq hs st few hl) (nstar_ok st2.1) (stars_any st2.2)) fun σ H Q h => split h
theorem s_mk {j : Nat} {y : Str} {p : Pos} (c : XC n X G W k sc) (hj : enB n.fns j (.mt y "__init__") = true) (hd : (y == ("__debug__" : Str)) = false) (hg : glB sc y = true) (hL : SndL n sc es xs) : PE X (.Call (.Name y p) xs [] pos) (LE G.toGd W (den G (.mk j es))) := by
 by_cases hm : G.m0 = none
 ·cases hT : G.fn false j with
  | none =>
   refine pe_false fun δ S Y K h => ?_
   rw [den] at h
   obtain ⟨_, T, e, _⟩ := h
   rw [hT] at e; cases e
  | some T =>
   obtain ⟨at_y, f, fd, ps, kI, M, binds, hk, F⟩ := c.ok.made j T y hT (of_decide_eq_true hj)
   have mode : ModeC X none := by have := c.md; rw [hm] at this; exact this
   have st := hL.st
   have fin : ∀ {σ H Q}, LE G.toGd W (den G (.mk j es)) σ H Q → tMkO' (G.mc j) (spD G.toGd T) (WE W) (LA G.toGd W (dens G es)) σ H Q := fun {σ H Q} h => by
    have h := h.re (t' := fun δ S Y K => dens G es δ S Y fun ds S1 => ∀ p, S1 p = none → T none (.obj p :: ds) (S1.set p (.ins (G.mc j) [])) (fun d S' => d = .non ∧ K (.obj p) S') fun C fs S' => Y C fs δ S') fun δ S Y K q => by
     rw [den] at q
     obtain ⟨_, T', e, q⟩ := q
     rw [hT] at e; cases e
     exact q
    refine (la_bind (t1 := dens G es) (t2 := fun ds δ S1 Y K => ∀ p, S1 p = none → T none (.obj p :: ds) (S1.set p (.ins (G.mc j) [])) (fun d S' => d = .non ∧ K (.obj p) S') fun C fs S' => Y C fs δ S') h).then fun vs H1 q x dx fx fd apart => ?_
    obtain ⟨ds, δ, S, Y, K, R, r, q, res, rw'⟩ := q
    have young : upd H1 dx (.own x) x = none := by rw [upd_ne (Ne.symm apart)]; exact fx
    have P1 : Post S H1 S (upd H1 dx (.own x)) := Post.new fd
    have P : Post S H1 (S.set x (.ins (G.mc j) [])) (upd (upd H1 dx (.own x)) x (.ins (G.mc j) dx [])) := P1.trans (Post.newC young)
    have cells : CellsOk G.toGd (S.set x (.ins (G.mc j) [])) (upd (upd H1 dx (.own x)) x (.ins (G.mc j) dx [])) := (R.ce.new fd).newC young ⟨dx, [], upd_same, by simp only [RepF]⟩
    exact ⟨.obj x :: ds, _, _, _, cells, by simp only [Reps]; exact ⟨_, _, rfl, by simp only [Rep], r.mono P⟩, q x (R.ce.free fx), fun d S' v H' kk P2 c2 r2 => by
     obtain ⟨rfl, kk⟩ := kk
     exact ⟨rep_non r2, res _ S' _ H' kk (P.trans P2) c2 (by simp only [Rep])⟩, fun C fs S' d H' y P2 cc z => rw' C fs δ S' d σ H' y (P.trans P2) (R.mono (P.trans P2) cc) z⟩
   cases xs with
   | nil =>
    have hes := hL.nl rfl
    refine PE.imp (pe_mk0 M F (c.rm.mono hk) mode (c.gl hg) at_y hd binds (fun σ => L2N.passAt c.tk σ)) fun σ H Q h => ?_
    obtain ⟨δ, S, Y, K, R, ht, res, _⟩ := fin h
    rw [hes, dens] at ht
    exact res [] S [] H ht (Post.refl _ _) R.ce (by simp only [Reps])
   | cons z zs =>
    rw [List.all_cons, Bool.and_eq_true] at st
    exact PE.imp (pe_mk M F (c.rm.mono hk) mode (c.gl hg) at_y hd binds (fun σ => L2N.passAt c.tk σ) (hL.a X G W k c) (nstar_ok st.1) (stars_any st.2)) fun σ H Q h => fin h
 ·refine pe_false fun δ S Y K h => ?_
  rw [den] at h
  exact hm h.1
theorem s_lck {x : Expr} (ha : PE X x (LE G.toGd W (den G a))) : PE X x (LE G.toGd W (den G (.lck a))) :=
 PE.imp (pe_lock ha) fun σ H Q h => by
  obtain ⟨δ, S, Y, K, R, ht, res, rw'⟩ := h
  rw [den] at ht
  obtain ⟨d, kvs, at_d, ht⟩ := ht
  obtain ⟨ws, here, all⟩ := R.ce d _ at_d
  refine ⟨d, _, here, trivial, fun od => ?_⟩
  have P : Post S H (S.set d (.loc kvs)) (upd H d (.frz od (.dK ws))) := Post.write at_d
  refine ⟨δ, _, Y, _, R.mono P (R.ce.lock at_d here all), ht, fun x S1 v H1 kk P1 c1 r1 => ⟨(PostW.unlock at_d P1).2, ?_⟩, rw'.mono P⟩
  exact res _ _ v _ kk (Post.unlock at_d P1) (CellsOk.unlock at_d all P1 c1) (r1.monoW (.write (PostW.unlock at_d P1).1))
theorem s_fz {x : Expr} (ha : PE X x (LE G.toGd W (den G a))) : PE X x (LE G.toGd W (den G (.fz a))) :=
 PE.imp ha fun σ H Q h => by
  obtain ⟨δ, S, Y, K, R, ht, res, rw'⟩ := h
  rw [den] at ht
  refine ⟨δ, S, Y, _, R, ht, fun d S1 v H1 kk P c r => ?_, rw'⟩
  obtain ⟨p, rfl, ⟨ds, at_p, q⟩ | ⟨ds, at_p, q⟩⟩ := kk
  ·cases rep_obj r
   exact res _ _ _ _ q (P.trans (Post.freeze at_p)) (c.freeze at_p) (Rep.freeze c at_p)
  ·cases rep_obj r
   exact res _ _ _ _ q (P.trans (Post.freeze at_p)) (c.freeze at_p) (Rep.freezeK c at_p)
theorem s_ofs {srt : Bool} {x y : Str} {p p2 cp : Pos} (c : XC n X G W k sc) (ex : x = ofsN srt) (hg : glB sc x = true) (ey : y = ("set" : Str)) (hg2 : glB sc y = true) (hn : nstar l = true) (ha : PE X l (LE G.toGd W (den G a))) :
  PE X (.Call (.Name x p) [.Call (.Name y p2) [l] [] cp] [] pos) (LE G.toGd W (den G (.ofs srt a))) := by
 subst ex ey
 by_cases hm : G.m0 = none
 ·have calm : X.calm = true := by have := c.md; rw [hm] at this; exact this.2
  refine PE.imp (pe_ofs calm (c.gl hg) (c.ok.bt _ (by cases srt <;> decide +kernel)) (c.gl hg2) (c.ok.bt _ (by decide +kernel)) ha (nstar_ok hn)) fun σ H Q h => ?_
  have h := h.re (t' := fun δ S Y K => den G a δ S Y fun x S1 => ∃ zs : List Str, vw S1 x = .lst (zs.map D.str) ∧ (zs.length < 64 ∨ ((uniq zs).length < 64 ∧ zs.length < 1000)) ∧ if srt = true then K (.lst ((sortS (uniq zs)).map D.str)) S1 else K (.int ((uniq zs).length : Nat)) S1) fun δ S Y K q => by
   rw [den] at q
   exact q.2
  refine (le_bind (t1 := den G a) (t2 := fun x δ S1 Y K => ∃ zs : List Str, vw S1 x = .lst (zs.map D.str) ∧ (zs.length < 64 ∨ ((uniq zs).length < 64 ∧ zs.length < 1000)) ∧ if srt = true then K (.lst ((sortS (uniq zs)).map D.str)) S1 else K (.int ((uniq zs).length : Nat)) S1) h).then fun v H1 q => ?_
  obtain ⟨x, δ, S, Y, K, R, r, ⟨zs, seen, few, q⟩, res, _⟩ := q
  obtain ⟨d, ws, rfl, seq, all⟩ := vw_lst R.ce r seen
  rw [c.ok.K] at seq
  cases reps_strs zs all
  refine ⟨d, zs, rfl, seq, few, ?_⟩
  cases srt with
  | true => exact fun q' free => res.outL (cell := false) q R.ce (strs_reps _) free
  | false => exact res.int q R.ce
 ·refine pe_false fun δ S Y K h => ?_
  rw [den] at h
  exact hm h.1
theorem s_vls {cell : Bool} {x m : Str} {p cp ap : Pos} (c : XC n X G W k sc) (ex : x = ("list" : Str)) (hg : glB sc x = true) (em : m = ("values" : Str)) (hs : nsup l = true) (hl : (ap.endLine == cp.line) = true) (ha : PE X l (LE G.toGd W (den G a))) :
  PE X (.Call (.Name x p) [.Call (.Attribute l m ap) [] [] cp] [] pos) (LE G.toGd W (den G (.vls cell a))) := by
 subst ex em
 by_cases hm : G.m0 = none
 ·have calm : X.calm = true := by have := c.md; rw [hm] at this; exact this.2
  refine PE.imp (pe_vals calm ha (c.gl hg) (c.ok.bt _ (by decide +kernel)) (nsup_ok hs) hl) fun σ H Q h => ?_
  have h := h.re (t' := fun δ S Y K => den G a δ S Y fun x S1 => ∃ p kvs, x = .obj p ∧ S1 p = some (.dic kvs) ∧ outL cell (kvs.map (·.2)) S1 K) fun δ S Y K q => by
   rw [den] at q
   exact q.2
  refine (le_bind (t1 := den G a) (t2 := fun x δ S1 Y K => ∃ p kvs, x = .obj p ∧ S1 p = some (.dic kvs) ∧ outL cell (kvs.map (·.2)) S1 K) h).then fun v H1 q => ?_
  obtain ⟨x, δ, S, Y, K, R, r, ⟨d, kvs, rfl, at_d, q⟩, res, _⟩ := q
  cases rep_obj r
  obtain ⟨ws, here, all⟩ := R.ce d _ at_d
  exact ⟨d, ws, rfl, here, fun q' free => res.outL q R.ce (repK_vals all) free⟩
 ·refine pe_false fun δ S Y K h => ?_
  rw [den] at h
  exact hm h.1
theorem s_rev {cell : Bool} {kk : Nat} {p1 p2 p3 : Pos} (c : XC n X G W k sc) (ha : PE X l (LE G.toGd W (den G a))) : PE X (.Subscript l (.Slice none none (some (.UnaryOp .USub (.Constant (.int 1) kk p1) p2)) p3) pos) (LE G.toGd W (den G (.rev cell a))) :=
 PE.imp (pe_revL ha) fun σ H Q h => by
  rw [den] at h
  refine (le_bind (t1 := den G a) (t2 := fun x δ S1 Y K => ∃ ds, vw S1 x = .lst ds ∧ outL cell ds.reverse S1 K) h).then fun v H1 q => ?_
  obtain ⟨x, δ, S, Y, K, R, r, ⟨ds, seen, q⟩, res, _⟩ := q
  obtain ⟨p, vs, rfl, seq, all⟩ := vw_lst R.ce r seen
  rw [c.ok.K] at seq
  exact ⟨p, vs, rfl, seq, fun q' free => res.outL q R.ce all.reverse free⟩
theorem s_sl2 {j kk : Nat} {lo : Option Expr} {p2 p3 : Pos} (c : XC n X G W k sc) (hlo : loE j lo = true) (ha : PE X l (LE G.toGd W (den G a))) : PE X (.Subscript l (.Slice lo none (some (.Constant (.int 2) kk p2)) p3) pos) (LE G.toGd W (den G (.sl2 j a))) :=
 PE.imp (pe_ev2 ha hlo) fun σ H Q h => by
  rw [den] at h
  refine (le_bind (t1 := den G a) (t2 := fun x δ S1 Y K => ∃ ds, vw S1 x = .lst ds ∧ K (.lst (ev2 j ds)) S1) h).then fun v H1 q => ?_
  obtain ⟨x, δ, S, Y, K, R, r, ⟨ds, seen, q⟩, res, _⟩ := q
  obtain ⟨p, vs, rfl, seq, all⟩ := vw_lst R.ce r seen
  rw [c.ok.K] at seq
  exact ⟨p, vs, rfl, seq, fun q' free => res.lst q R.ce (reps_ev2 all j) free⟩
end
end Sv
/-! Sv8: the check is sound: iterators, comprehensions, the whole of the expressions. -/
namespace Sv
open PySem PySem.Spec PyProof.Rows L2
open L2H (RoomH)
section
variable {g : Gd} {S1 : SS} {H1 : Hp}
theorem itOk_lst {d : D} {v : V} {ds : List D} {a : Addr} (e : v = .ref a) (r : Rep g S1 H1 d v) : ItOk g S1 H1 (Itl g.K a) ds fun S' => vw S' d = .lst ds := by
 subst e
 have get : ∀ {S H}, Post S1 H1 S H → CellsOk g S H → vw S d = .lst ds → ∃ vs, SqL g.K H a vs ∧ Reps g S H ds vs := fun {S H} P c ok => by
  obtain ⟨p, vs, e, hl, hr⟩ := vw_lst c (r.mono P) ok
  cases e
  exact ⟨vs, hl, hr⟩
 refine ⟨fun i S H hi P c ok => ?_, fun i S H x H' d' hd P c ok y => ?_, fun i S H hi P c ok => ?_⟩
 ·obtain ⟨vs, hl, hr⟩ := get P c ok
  have := hr.length
  exact ⟨vs, vs[i]'(by omega), hl, by simp⟩
 ·obtain ⟨vs, hl, hr⟩ := get P c ok
  obtain ⟨e, y⟩ := y
  subst e
  obtain ⟨w, hw, rw'⟩ := hr.get hd
  have := y vs hl
  rw [hw] at this
  cases this
  exact ⟨Post.refl _ _, c, rw'⟩
 ·obtain ⟨vs, hl, hr⟩ := get P c ok
  exact ⟨vs, hl, by rw [← hr.length]; exact hi⟩
theorem itOk_tup {d : D} {v : V} {ds : List D} {a : Addr} (e : v = .ref a) (r : Rep g S1 H1 d v) (ed : vw S1 d = .tup ds) : ItOk g S1 H1 (Itt g.K a) ds fun S' => True := by
 subst e
 have ed' := vw_tupE ed
 subst ed'
 have get : ∀ {S H}, Post S1 H1 S H → ∃ vs, SqT g.K H a vs ∧ Reps g S H ds vs := fun {S H} P => by
  obtain ⟨p, vs, e, hl, hr⟩ := vw_tup (S := S) (d := .tup ds) (r.mono P) rfl
  cases e
  exact ⟨vs, hl, hr⟩
 refine ⟨fun i S H hi P c ok => ?_, fun i S H x H' d' hd P c ok y => ?_, fun i S H hi P c ok => ?_⟩
 ·obtain ⟨vs, hl, hr⟩ := get P
  have := hr.length
  exact ⟨vs, vs[i]'(by omega), hl, by simp⟩
 ·obtain ⟨vs, hl, hr⟩ := get P
  obtain ⟨e, y⟩ := y
  subst e
  obtain ⟨w, hw, rw'⟩ := hr.get hd
  have := y vs hl
  rw [hw] at this
  cases this
  exact ⟨Post.refl _ _, c, rw'⟩
 ·obtain ⟨vs, hl, hr⟩ := get P
  exact ⟨vs, hl, by rw [← hr.length]; exact hi⟩
theorem rngD_len {lo : Int} {n : Nat} : (rngD lo n).length = n := by simp [rngD]
theorem rngD_at {lo : Int} {n i : Nat} {d : D} (h : (rngD lo n)[i]? = some d) : i < n ∧ d = .int (lo + (i : Int)) := by
 unfold rngD at h
 rw [List.getElem?_map] at h
 cases e : (List.range n)[i]? with
 | none => rw [e] at h; cases h
 | some j =>
  rw [e] at h
  cases h
  obtain ⟨h1, h2⟩ := List.getElem?_eq_some_iff.mp e
  rw [List.getElem_range] at h2
  subst h2
  exact ⟨by simpa using h1, rfl⟩
theorem itOk_rng {lo : Int} {n : Nat} : ItOk g S1 H1 (Itr lo n) (rngD lo n) fun S' => True := by
 refine ⟨fun i S H hi P c ok => ?_, fun i S H x H' d' hd P c ok y => ?_, fun i S H hi P c ok => ?_⟩
 ·rw [rngD_len] at hi; exact hi
 ·obtain ⟨e, y⟩ := y
  subst e y
  obtain ⟨_, rfl⟩ := rngD_at hd
  exact ⟨Post.refl _ _, c, by simp only [Rep]⟩
 ·rw [rngD_len] at hi; exact hi
theorem itOk_str {z : Str} : ItOk g S1 H1 (Its z) (signsD z) fun S' => True := by
 have len : (signsD z).length = z.cps.size := by unfold signsD; rw [List.length_map, Array.length_toList]
 refine ⟨fun i S H hi P c ok => ?_, fun i S H x H' d' hd P c ok y => ?_, fun i S H hi P c ok => ?_⟩
 ·rw [len] at hi; exact hi
 ·obtain ⟨rfl, code, at_i, rfl⟩ := y
  unfold signsD at hd
  rw [List.getElem?_map, Array.getElem?_toList, at_i] at hd
  cases hd
  exact ⟨Post.refl _ _, c, by simp only [Rep]⟩
 ·rw [len] at hi; exact hi
theorem enumD_len {ds : List D} : (enumD ds).length = ds.length := by unfold enumD; rw [List.length_map, List.length_zipIdx]
theorem enumD_at {ds : List D} {i : Nat} {d : D} (h : (enumD ds)[i]? = some d) : ∃ e, ds[i]? = some e ∧ d = .tup [.int (i : Nat), e] := by
 unfold enumD at h
 rw [List.getElem?_map, List.getElem?_zipIdx] at h
 cases q : ds[i]? with
 | none => rw [q] at h; cases h
 | some e => rw [q] at h; cases h; exact ⟨e, rfl, by simp⟩
/-- a pair, just made -/
theorem pair_new {S : SS} {H : Hp} {T : Addr} {d e : D} {v u : V} (c : CellsOk g S H) (free : H T = none) (r1 : Rep g S H d v) (r2 : Rep g S H e u) : Post S H S (upd H T (.tup [v, u])) ∧ CellsOk g S (upd H T (.tup [v, u])) ∧ Rep g S (upd H T (.tup [v, u])) (.tup [d, e]) (.ref T) := by
 have P : Post S H S (upd H T (.tup [v, u])) := Post.new free
 refine ⟨P, c.new free, ?_⟩
 simp only [Rep, Reps]
 exact ⟨T, _, rfl, .inl ⟨c.free free, upd_same⟩, v, _, rfl, r1.mono P, u, _, rfl, r2.mono P, rfl⟩
theorem itOk_enum {d : D} {v : V} {ds : List D} {a : Addr} (e : v = .ref a) (r : Rep g S1 H1 d v) : ItOk g S1 H1 (Ite g.K a) (enumD ds) fun S' => vw S' d = .lst ds := by
 subst e
 have get : ∀ {S H}, Post S1 H1 S H → CellsOk g S H → vw S d = .lst ds → ∃ vs, SqL g.K H a vs ∧ Reps g S H ds vs := fun {S H} P c ok => by
  obtain ⟨p, vs, e, hl, hr⟩ := vw_lst c (r.mono P) ok
  cases e
  exact ⟨vs, hl, hr⟩
 refine ⟨fun i S H hi P c ok => ?_, fun i S H x H' d' hd P c ok y => ?_, fun i S H hi P c ok => ?_⟩
 ·obtain ⟨vs, hl, hr⟩ := get P c ok
  have same := hr.length
  rw [enumD_len] at hi
  exact ⟨vs, vs[i]'(by omega), hl, by simp⟩
 ·obtain ⟨vs, hl, hr⟩ := get P c ok
  obtain ⟨T, x0, rfl, free, rfl, at_i⟩ := y
  obtain ⟨e0, he, rfl⟩ := enumD_at hd
  obtain ⟨w, hw, rw'⟩ := hr.get he
  have := at_i vs hl
  rw [hw] at this
  cases this
  exact pair_new c free (by simp only [Rep]) rw'
 ·obtain ⟨vs, hl, hr⟩ := get P c ok
  rw [enumD_len] at hi
  exact ⟨vs, hl, by rw [← hr.length]; exact hi⟩
theorem rep_keyV {S : SS} {H : Hp} (k : Key) : Rep g S H (keyV k) (kV k) := by
 cases k <;> simp only [keyV, kV, Rep]
theorem loc_get {S : SS} {H : Hp} {a : Addr} {kvs : List (Key × D)} {ws : List (Key × V)} {o : Obj} (at_a : S1 a = some (.loc kvs)) (here : H1 a = some (.frz o (.dK ws))) (all : RepK g S1 H1 kvs ws) (P : Post S1 H1 S H) : H a = some (.frz o (.dK ws)) ∧ RepK g S H kvs ws :=
 ⟨(P.lk a kvs _ at_a here).2, all.mono P⟩
theorem repK_at {S : SS} {H : Hp} {kvs : List (Key × D)} {ws : List (Key × V)} {i : Nat} {p : Key × D} (r : RepK g S H kvs ws) (e : kvs[i]? = some p) : ∃ w, ws[i]? = some (p.1, w) ∧ Rep g S H p.2 w := by
 obtain ⟨q, e2, same, like⟩ := pz_get (rpk_of r) e
 obtain ⟨k, w⟩ := q
 cases same
 exact ⟨w, e2, like⟩
theorem itOk_keys {a : Addr} {kvs : List (Key × D)} {ws : List (Key × V)} {o : Obj} (at_a : S1 a = some (.loc kvs)) (here : H1 a = some (.frz o (.dK ws))) (all : RepK g S1 H1 kvs ws) : ItOk g S1 H1 (Itk a o ws) (kvs.map fun kv => keyV kv.1) fun S' => True := by
 have same : kvs.length = ws.length := Paired.length (rpk_of all)
 refine ⟨fun i S H hi P c ok => ?_, fun i S H x H' d' hd P c ok y => ?_, fun i S H hi P c ok => ?_⟩
 ·rw [List.length_map] at hi
  exact ⟨(loc_get at_a here all P).1, by omega⟩
 ·obtain ⟨rfl, k, v, at_i, rfl⟩ := y
  rw [List.getElem?_map, Option.map_eq_some_iff] at hd
  obtain ⟨p, hp, rfl⟩ := hd
  obtain ⟨w, hw, _⟩ := repK_at all hp
  rw [at_i] at hw
  cases hw
  exact ⟨Post.refl _ _, c, rep_keyV _⟩
 ·rw [List.length_map] at hi
  exact ⟨(loc_get at_a here all P).1, by omega⟩
theorem itOk_items {a : Addr} {kvs : List (Key × D)} {ws : List (Key × V)} {o : Obj} (at_a : S1 a = some (.loc kvs)) (here : H1 a = some (.frz o (.dK ws))) (all : RepK g S1 H1 kvs ws) : ItOk g S1 H1 (Iti a o ws) (kvs.map fun kv => .tup [keyV kv.1, kv.2]) fun S' => True := by
 have same : kvs.length = ws.length := Paired.length (rpk_of all)
 refine ⟨fun i S H hi P c ok => ?_, fun i S H x H' d' hd P c ok y => ?_, fun i S H hi P c ok => ?_⟩
 ·rw [List.length_map] at hi
  exact ⟨(loc_get at_a here all P).1, by omega⟩
 ·obtain ⟨T, k, v, at_i, rfl, free, rfl⟩ := y
  rw [List.getElem?_map, Option.map_eq_some_iff] at hd
  obtain ⟨p, hp, rfl⟩ := hd
  obtain ⟨w, hw, like⟩ := repK_at (all.mono P) hp
  rw [at_i] at hw
  cases hw
  exact pair_new c free (rep_keyV _) like
 ·rw [List.length_map] at hi
  exact ⟨(loc_get at_a here all P).1, by omega⟩
end
section
variable {n : SN} {X : Cx} {G : Gm} {W : WX} {k : Nat} {sc : Scope} {a b c' : RE} {l r t : Expr} {pos : Pos} {es : RL} {xs : List Expr}
theorem li_e {tg : Expr} {g : Gd} {t1 : RdE} {t2 : D → RdI} {σ : L2.St} {H : Hp} {R : It → Hp → Prop} (h : LI g W (fun δ S Y K => t1 δ S Y fun x S1 => t2 x δ S1 Y K) σ H R) :
  LE g W t1 σ H fun v H1 => ∃ x δ S Y K, Rel g S H1 δ σ ∧ Rep g S H1 x v ∧ t2 x δ S Y K ∧ (∀ ds ok S' H' J, K ds ok S' → Post S H1 S' H' → CellsOk g S' H' → ItOk g S' H' J ds ok → R J H') ∧ ResW g S H1 Y W := by
 obtain ⟨δ, S, Y, K, R0, ht, res, rw'⟩ := h
 exact ⟨δ, S, Y, _, R0, ht, fun d S1 v H1 k P c r => ⟨d, δ, S1, Y, K, R0.mono P c, r, k, fun ds ok S' H' J q P2 => res ds ok S' H' J q (P.trans P2), rw'.mono P⟩, rw'⟩
theorem i_lst {tg : Expr} (c : XC n X G W k sc) (ha : PE X l (LE G.toGd W (den G a))) : PI X tg l (LI G.toGd W (denI G (.lst a))) :=
 PI.imp (pi_list ha) fun σ H R h => by
  have h : LI G.toGd W (fun δ S Y K => den G a δ S Y fun d S1 => ∃ ds, vw S1 d = .lst ds ∧ K ds (fun S' => vw S' d = .lst ds) S1) σ H R := by
   obtain ⟨δ, S, Y, K, R, ht, q⟩ := h
   rw [denI] at ht
   exact ⟨δ, S, Y, K, R, ht, q⟩
  refine (li_e (tg := tg) (t1 := den G a) (t2 := fun d δ S1 Y K => ∃ ds, vw S1 d = .lst ds ∧ K ds (fun S' => vw S' d = .lst ds) S1) h).then fun v H1 q => ?_
  obtain ⟨x, δ, S, Y, K, R, r, ⟨ds, e, q⟩, res, _⟩ := q
  obtain ⟨p, vs, rfl, hl, hr⟩ := vw_lst R.ce r e
  rw [c.ok.K] at hl
  refine ⟨p, rfl, ⟨vs, hl⟩, ?_⟩
  have := res ds _ S H1 _ q (Post.refl _ _) R.ce (itOk_lst rfl r)
  rwa [c.ok.K] at this
theorem i_tup {tg : Expr} (c : XC n X G W k sc) (ha : PE X l (LE G.toGd W (den G a))) : PI X tg l (LI G.toGd W (denI G (.tup a))) :=
 PI.imp (pi_tup ha) fun σ H R h => by
  have h : LI G.toGd W (fun δ S Y K => den G a δ S Y fun d S1 => ∃ ds, vw S1 d = .tup ds ∧ K ds (fun S' => True) S1) σ H R := by
   obtain ⟨δ, S, Y, K, R, ht, q⟩ := h
   rw [denI] at ht
   exact ⟨δ, S, Y, K, R, ht, q⟩
  refine (li_e (tg := tg) (t1 := den G a) (t2 := fun d δ S1 Y K => ∃ ds, vw S1 d = .tup ds ∧ K ds (fun S' => True) S1) h).then fun v H1 q => ?_
  obtain ⟨x, δ, S, Y, K, R, r, ⟨ds, e, q⟩, res, _⟩ := q
  obtain ⟨p, vs, rfl, hl, hr⟩ := vw_tup r e
  rw [c.ok.K] at hl
  refine ⟨p, rfl, ⟨vs, hl⟩, ?_⟩
  have := res ds _ S H1 _ q (Post.refl _ _) R.ce (itOk_tup rfl r e)
  rwa [c.ok.K] at this
theorem i_rng1 {tg : Expr} {p : Pos} (c : XC n X G W k sc) (hg : glB sc "range" = true) (hs : nstar l = true) (ha : PE X l (LE G.toGd W (den G a))) : PI X tg (.Call (.Name "range" p) [l] [] pos) (LI G.toGd W (denI G (.rng1 a))) :=
 PI.imp (pi_range1 (c.gl hg) (c.ok.bt _ (by decide +kernel)) (pa_cons ha pa_nil (nstar_ok hs)) (nstar_ok hs)) fun σ H R h => by
  have h : LI G.toGd W (fun δ S Y K => den G a δ S Y fun d S1 => ∃ j, d = .int j ∧ -(2 ^ 62) ≤ j ∧ j < 2 ^ 62 ∧ K (rngD 0 j.toNat) (fun _ => True) S1) σ H R := by
   obtain ⟨δ, S, Y, K, R, ht, q⟩ := h
   rw [denI] at ht
   exact ⟨δ, S, Y, K, R, ht, q⟩
  refine (li_e (tg := tg) (t1 := den G a) (t2 := fun d δ S1 Y K => ∃ j, d = .int j ∧ -(2 ^ 62) ≤ j ∧ j < 2 ^ 62 ∧ K (rngD 0 j.toNat) (fun _ => True) S1) h).then fun v H1 q => ?_
  obtain ⟨x, δ, S, Y, K, R, r, ⟨j, rfl, h1, h2, q⟩, res, _⟩ := q
  cases rep_int r
  exact ⟨j, rfl, h1, h2, res _ _ S H1 _ q (Post.refl _ _) R.ce itOk_rng⟩
theorem i_rng2 {tg : Expr} {p : Pos} (c : XC n X G W k sc) (hg : glB sc "range" = true) (hs : nstar l = true) (hs2 : nstar r = true) (ha : PE X l (LE G.toGd W (den G a))) (hb : PE X r (LE G.toGd W (den G b))) : PI X tg (.Call (.Name "range" p) [l, r] [] pos) (LI G.toGd W (denI G (.rng2 a b))) :=
 PI.imp (pi_range2 (c.gl hg) (c.ok.bt _ (by decide +kernel)) (pa_cons ha (pa_cons hb pa_nil (nstar_ok hs2)) (nstar_ok hs)) (by rw [nstar_ok hs, nstar_ok hs2]; rfl) (by rw [nstar_ok hs2]; rfl)) fun σ H R h => by
  have h : LI G.toGd W (fun δ S Y K => den G a δ S Y fun d S1 => den G b δ S1 Y fun d2 S2 => ∃ i j, d = .int i ∧ d2 = .int j ∧ (-(2 ^ 62) ≤ i ∧ i < 2 ^ 62 ∧ -(2 ^ 62) ≤ j ∧ j < 2 ^ 62) ∧ K (rngD i (j - i).toNat) (fun _ => True) S2) σ H R := by
   obtain ⟨δ, S, Y, K, R, ht, q⟩ := h
   rw [denI] at ht
   exact ⟨δ, S, Y, K, R, ht, q⟩
  refine (li_e (tg := tg) (t1 := den G a) (t2 := fun d δ S1 Y K => den G b δ S1 Y fun d2 S2 => ∃ i j, d = .int i ∧ d2 = .int j ∧ (-(2 ^ 62) ≤ i ∧ i < 2 ^ 62 ∧ -(2 ^ 62) ≤ j ∧ j < 2 ^ 62) ∧ K (rngD i (j - i).toNat) (fun _ => True) S2) h).then fun v H1 q => ?_
  obtain ⟨x, δ, S, Y, K, R, r, q, res, rw'⟩ := q
  refine ⟨δ, S, Y, _, R, q, fun d S1 v2 H2 kk P cc r2 => ?_, rw'⟩
  obtain ⟨i, j, rfl, rfl, hb, q⟩ := kk
  cases rep_int r
  cases rep_int r2
  exact ⟨i, j, rfl, hb, res _ _ S1 H2 _ q P cc itOk_rng⟩
theorem li_re {g : Gd} {t t' : RdI} {σ : L2.St} {H : Hp} {R : It → Hp → Prop} (h : LI g W t σ H R) (w : ∀ δ S Y K, t δ S Y K → t' δ S Y K) : LI g W t' σ H R := by
 obtain ⟨δ, S, Y, K, R0, ht, q⟩ := h
 exact ⟨δ, S, Y, K, R0, w _ _ _ _ ht, q⟩
theorem i_str {tg : Expr} (ha : PE X l (LE G.toGd W (den G a))) : PI X tg l (LI G.toGd W (denI G (.str a))) :=
 PI.imp (pi_str ha) fun σ H R h => by
  refine (li_e (tg := tg) (t1 := den G a) (t2 := fun d δ S1 Y K => ∃ z, d = .str z ∧ K (signsD z) (fun _ => True) S1) (li_re h fun δ S Y K q => by rw [denI] at q; exact q)).then fun v H1 q => ?_
  obtain ⟨x, δ, S, Y, K, R, r, ⟨z, rfl, q⟩, res, _⟩ := q
  exact ⟨z, rep_str r, res _ _ S H1 _ q (Post.refl _ _) R.ce itOk_str⟩
theorem i_keys {tg : Expr} (ha : PE X l (LE G.toGd W (den G a))) : PI X tg l (LI G.toGd W (denI G (.keys a))) :=
 PI.imp (pi_keys ha) fun σ H R h => by
  refine (li_e (tg := tg) (t1 := den G a) (t2 := fun d δ S1 Y K => ∃ a kvs, d = .obj a ∧ S1 a = some (.loc kvs) ∧ K (kvs.map fun kv => keyV kv.1) (fun _ => True) S1) (li_re h fun δ S Y K q => by rw [denI] at q; exact q)).then fun v H1 q => ?_
  obtain ⟨x, δ, S, Y, K, R, r, ⟨d, kvs, rfl, at_d, q⟩, res, _⟩ := q
  cases rep_obj r
  obtain ⟨ws, o, here, all⟩ := R.ce d _ at_d
  exact ⟨d, o, rfl, .inl ⟨ws, here, res _ _ S H1 _ q (Post.refl _ _) R.ce (itOk_keys at_d here all)⟩⟩
theorem i_items {elts : List Expr} {kk : Nat} {tpos cp ap : Pos} (hs : nsup l = true) (hl : (ap.endLine == cp.line) = true) (ha : PE X l (LE G.toGd W (den G a))) : PI X (.Tuple elts kk tpos) (.Call (.Attribute l "items" ap) [] [] cp) (LI G.toGd W (denI G (.items a))) :=
 PI.imp (pi_items ha (nsup_ok hs) hl) fun σ H R h => by
  refine (li_e (tg := .Tuple elts kk tpos) (t1 := den G a) (t2 := fun d δ S1 Y K => ∃ a kvs, d = .obj a ∧ S1 a = some (.loc kvs) ∧ K (kvs.map fun kv => .tup [keyV kv.1, kv.2]) (fun _ => True) S1) (li_re h fun δ S Y K q => by rw [denI] at q; exact q)).then fun v H1 q => ?_
  obtain ⟨x, δ, S, Y, K, R, r, ⟨d, kvs, rfl, at_d, q⟩, res, _⟩ := q
  cases rep_obj r
  obtain ⟨ws, o, here, all⟩ := R.ce d _ at_d
  exact ⟨d, o, ws, rfl, here, res _ _ S H1 _ q (Post.refl _ _) R.ce (itOk_items at_d here all)⟩
theorem i_enum {elts : List Expr} {kk : Nat} {tpos p : Pos} (c : XC n X G W k sc) (hg : glB sc "enumerate" = true) (hs : nstar l = true) (ha : PE X l (LE G.toGd W (den G a))) : PI X (.Tuple elts kk tpos) (.Call (.Name "enumerate" p) [l] [] pos) (LI G.toGd W (denI G (.enum a))) :=
 PI.imp (pi_enum (c.gl hg) (c.ok.bt _ (by decide +kernel)) (pa_cons ha pa_nil (nstar_ok hs)) (nstar_ok hs)) fun σ H R h => by
  refine (li_e (tg := .Tuple elts kk tpos) (t1 := den G a) (t2 := fun d δ S1 Y K => ∃ ds, vw S1 d = .lst ds ∧ K (enumD ds) (fun S' => vw S' d = .lst ds) S1) (li_re h fun δ S Y K q => by rw [denI] at q; exact q)).then fun v H1 q => ?_
  obtain ⟨x, δ, S, Y, K, R, r, ⟨ds, e, q⟩, res, _⟩ := q
  obtain ⟨p, vs, rfl, hl, hr⟩ := vw_lst R.ce r e
  rw [c.ok.K] at hl
  refine ⟨p, vs, rfl, hl, ?_⟩
  have := res (enumD ds) _ S H1 _ q (Post.refl _ _) R.ce (itOk_enum rfl r)
  rwa [c.ok.K] at this
/-! ### dict displays -/
/-- what is shown of a display's pairs -/
def SndP (n : SN) (sc : Scope) (ps : RQ) (ks : List (Option Expr)) (vs : List Expr) : Prop := ks.all (·.isSome) = true ∧ ks.length = vs.length ∧ (ks = [] → ps = .nil) ∧
 ∀ X G W k pos, XC n X G W k sc → ∃ trs, PPs X pos ks vs trs ∧ ∀ σ H (Q : List (V × V) → Hp → Prop), (∃ δ S Y K, Rel G.toGd S H δ σ ∧ denP G ps δ S Y K ∧ (∀ xs S' ys H', K xs S' → Post S H S' H' → CellsOk G.toGd S' H' → Paired (fun (x : D × D) (y : V × V) => Rep G.toGd S' H' x.1 y.1 ∧ Rep G.toGd S' H' x.2 y.2) xs ys → Q ys H') ∧ ResW G.toGd S H Y W) → tPairs trs σ H Q
theorem sndP_nil : SndP n sc .nil [] [] := ⟨rfl, rfl, fun _ => rfl, fun X G W k pos c => ⟨[], pps_nil, fun σ H Q ⟨δ, S, Y, K, R, ht, res, _⟩ => by
 rw [denP] at ht
 exact res [] S [] H ht (Post.refl _ _) R.ce .nil⟩⟩
theorem sndP_cons {kx vx : RE} {ps : RQ} {x y : Expr} {ks : List (Option Expr)} {vs : List Expr} (hk : SndE n sc kx x) (hv : SndE n sc vx y) (hr : SndP n sc ps ks vs) : SndP n sc (.cons kx vx ps) (some x :: ks) (y :: vs) := by
 obtain ⟨h1, h2, _, h3⟩ := hr
 refine ⟨by rw [List.all_cons, h1]; rfl, by rw [List.length_cons, List.length_cons, h2], (fun z => nomatch z), fun X G W k pos c => ?_⟩
 obtain ⟨trs, rule, reads⟩ := h3 X G W k pos c
 refine ⟨_, pps_cons (hk.v X G W k c) (hv.v X G W k c) rule, fun σ H Q ⟨δ, S, Y, K, R, ht, res, rw'⟩ => ?_⟩
 rw [denP] at ht
 refine ⟨δ, S, Y, _, R, ht, fun d S1 v H1 kk P c1 r1 => ⟨δ, S1, Y, _, R.mono P c1, kk, fun e S2 u H2 kk P2 c2 r2 => reads σ H2 _ ⟨δ, S2, Y, _, (R.mono P c1).mono P2 c2, kk, fun xs S3 ys H3 kk P3 c3 all => ?_, (rw'.mono P).mono P2⟩, rw'.mono P⟩, rw'⟩
 exact res _ S3 _ H3 kk ((P.trans P2).trans P3) c3 (.cons ⟨(r1.mono P2).mono P3, r2.mono P3⟩ all)
theorem keysD_rep {g : Gd} {S : SS} {H : Hp} {xs : List (D × D)} {ys : List (V × V)} (all : Paired (fun (x : D × D) (y : V × V) => Rep g S H x.1 y.1 ∧ Rep g S H x.2 y.2) xs ys) : ∀ {kvs : List (Key × D)}, keysD xs = some kvs → ∃ ws : List (Key × V), ys = ws.map (fun kv => (kV kv.1, kv.2)) ∧ RepK g S H kvs ws := by
 induction all with
 | nil =>
  intro kvs h
  cases h
  exact ⟨[], rfl, by simp only [RepK]⟩
 | @cons x y l m r _ ih =>
  intro kvs h
  obtain ⟨k, v⟩ := x
  obtain ⟨a, b⟩ := y
  simp only [keysD] at h
  split at h
  ·rename_i key q e1 e2
   cases h
   obtain ⟨ws, rfl, more⟩ := ih e2
   have e := rep_key e1 r.1
   cases e
   exact ⟨(key, b) :: ws, rfl, by simp only [RepK]; exact ⟨b, ws, rfl, r.2, more⟩⟩
  ·cases h
theorem s_dct {cell : Bool} {ps : RQ} {ks : List (Option Expr)} {vs : List Expr} (c : XC n X G W k sc) (few : ks.length ≤ 15) (hp : SndP n sc ps ks vs) : PE X (.Dict ks vs pos) (LE G.toGd W (den G (.dct cell ps))) := by
 obtain ⟨h1, h2, h3, h4⟩ := hp
 obtain ⟨trs, rule, reads⟩ := h4 X G W k pos c
 by_cases none_ : ks = []
 ·have ep := h3 none_
  subst none_
  cases vs with
  | cons _ _ => cases h2
  | nil =>
   refine PE.imp pe_dnewK fun σ H Q h => ?_
   obtain ⟨δ, S, Y, K, R, ht, res, rw'⟩ := h
   rw [den, ep] at ht
   intro p free
   have ht := ht p (R.ce.free free)
   rw [denP] at ht
   obtain ⟨_, kvs, e, _, q⟩ := ht
   cases e
   cases cell with
   | true => exact res _ _ _ _ (show K (.obj p) (S.set p (.dic [])) from by have q : K (.obj p) ((S.set p (.dic [])).set p (.dic [])) := q; rwa [SS.set_set] at q) (Post.newC free) (R.ce.newC free ⟨[], upd_same, by simp only [RepK]⟩) (by simp only [Rep])
   | false =>
    have q : K (.dic []) ((S.set p (.dic [])).del p) := q
    rw [SS.del_set (R.ce.free free)] at q
    exact res.dic q R.ce (by simp only [RepK]) free
 ·refine PE.imp (pe_disp rule h1 h2 none_ few) fun σ H Q h => ?_
  obtain ⟨δ, S, Y, K, R, ht, res, rw'⟩ := h
  rw [den] at ht
  intro p free
  have P0 : Post S H (S.set p (.dic [])) (upd H p (.dK [])) := Post.newC free
  have C0 : CellsOk G.toGd (S.set p (.dic [])) (upd H p (.dK [])) := R.ce.newC free ⟨[], upd_same, by simp only [RepK]⟩
  refine reads σ _ _ ⟨δ, _, Y, _, R.mono P0 C0, ht p (R.ce.free free), fun xs S2 ys H2 kk P2 c2 all => ?_, rw'.mono P0⟩
  obtain ⟨at_p, kvs, e, small, q⟩ := kk
  obtain ⟨ws0, here, nothing⟩ := c2 p _ at_p
  simp only [RepK] at nothing
  subst nothing
  obtain ⟨ws, rfl, more⟩ := keysD_rep all e
  have made : RepK G.toGd S2 H2 (mergeD [] kvs) (mergeK [] ws) := merge_rep more (by simp only [RepK])
  have same : kvs.length = ws.length := Paired.length (rpk_of more)
  have P3 : Post S2 H2 (S2.set p (.dic (mergeD [] kvs))) (upd H2 p (.dK (mergeK [] ws))) := Post.write at_p
  have C3 : CellsOk G.toGd (S2.set p (.dic (mergeD [] kvs))) (upd H2 p (.dK (mergeK [] ws))) := c2.write at_p ⟨_, upd_same, made.mono P3⟩
  refine ⟨here, ws, rfl, by rw [← same]; exact small, ?_⟩
  cases cell with
  | true => exact res _ _ _ _ q ((P0.trans P2).trans P3) C3 (by simp only [Rep])
  | false =>
   have q : K (.dic (mergeD [] kvs)) (S2.del p) := q
   rw [← SS.set_del (x := .dic (mergeD [] kvs))] at q
   exact res _ _ _ _ q (((P0.trans P2).trans P3).trans (Post.freeze SS.set_same)) (C3.freeze SS.set_same) (Rep.freezeK C3 SS.set_same)
/-! ### comprehensions -/
theorem wipe_rel {g : Gd} {S : SS} {H : Hp} {δ : DS} {σ : L2.St} (h : RelS g S H δ σ) : ∀ vs : List Nat, RelS g S H (wipeD δ vs) (wipe σ vs)
 | [] => h
 | v :: vs => (wipe_rel h vs).setN
theorem wipe_set {σ : L2.St} {i : Nat} {x : Option V} : ∀ {vs : List Nat}, i ∈ vs → wipe (σ.set i x) vs = wipe σ vs
 | v :: vs, h => by
  unfold wipe
  by_cases e : i = v
  ·subst e
   have key : ∀ (ws : List Nat), (wipe (σ.set i x) ws).set i none = (wipe σ ws).set i none := by
    intro ws
    induction ws with
    | nil => show (σ.set i x).set i none = σ.set i none; rw [List.set_set]
    | cons w ws ih =>
     unfold wipe
     by_cases ew : w = i
     ·subst ew; rw [List.set_set, List.set_set]; exact ih
     ·rw [List.set_comm _ _ (Ne.symm (Ne.symm ew)), ih, List.set_comm _ _ ew]
   exact key vs
  ·rcases List.mem_cons.mp h with h | h
   ·exact absurd h e
   ·rw [wipe_set h]
theorem wipe_wipe {σ : L2.St} : ∀ vs : List Nat, wipe (wipe σ vs) vs = wipe σ vs := by
 intro vs
 apply List.ext_getElem?
 intro i
 by_cases h : i ∈ vs
 ·have key : ∀ (ws : List Nat) (τ : L2.St), i ∈ ws → (wipe τ ws)[i]? = if i < τ.length then some none else none := by
   intro ws
   induction ws with
   | nil => intro τ h; cases h
   | cons w ws ih =>
    intro τ h
    unfold wipe
    by_cases e : w = i
    ·subst e
     rw [List.getElem?_set]
     simp [wipe_length]
    ·rw [List.getElem?_set_ne e]
     exact ih τ (by rcases List.mem_cons.mp h with h | h; exact absurd h.symm e; exact h)
  rw [key vs _ h, key vs _ h, wipe_length]
 ·rw [wipe_out h]
/-- a target by what it stores -/
def gTg (K : PySem.W.Frag) (tg : List Nat) (one : Bool) : TG := if one = true then (match tg with
 | [i] => gName i
 | _ => fun _ _ _ _ => False) else gTup K tg.length (gNames tg)
theorem pg_tg (c : XC n X G W k sc) {tg : List Nat} {one : Bool} {x : Expr} (hc : one = false → X.calm = true) (h : chkTg n sc tg one x = true) : PG X x (gTg X.K tg one) := by
 cases one with
 | true =>
  unfold chkTg at h
  rw [if_pos rfl] at h
  split at h
  ·rw [Bool.and_eq_true] at h
   exact pg_name c.nd (c.at h.1) (c.loc h.2) (c.sto h.2)
  ·cases h
 | false =>
  unfold chkTg at h
  rw [if_neg Bool.false_ne_true] at h
  split at h
  ·obtain ⟨h1, h2, h3⟩ := pgs_names c _ _ h
   exact pg_tup (hc rfl) h1 h2 h3
  ·cases h
theorem names_rd {g : Gd} {S : SS} {H : Hp} {I : L2.St → Prop} : ∀ (is : List Nat) (ds : List D) (vs : List V) (δ : DS) (σ : L2.St) (Q : L2.St → Hp → Prop), (∀ σ i v, i ∈ is → I σ → I (σ.set i (some v))) → Rel g S H δ σ → I σ → Reps g S H ds vs → ds.length = is.length →
  (∀ σ', Rel g S H (setAll δ is ds) σ' → I σ' → Q σ' H) → gNames is vs σ H Q
 | [], ds, vs, δ, σ, Q, hI, R, i0, r, l, h => by
  cases ds with
  | nil => simp only [Reps] at r; subst r; exact ⟨rfl, h σ R i0⟩
  | cons _ _ => cases l
 | i :: is, ds, vs, δ, σ, Q, hI, R, i0, r, l, h => by
  cases ds with
  | nil => cases l
  | cons d ds =>
   simp only [Reps] at r
   obtain ⟨v, q, rfl, a, b⟩ := r
   exact ⟨v, q, rfl, names_rd is ds q _ _ Q (fun σ j w hj => hI σ j w (List.mem_cons_of_mem _ hj)) ⟨R.sl.set a, R.ce⟩ (hI _ _ _ List.mem_cons_self i0) b (by simpa using l) h⟩
theorem gTg_rd {g : Gd} {S : SS} {H : Hp} {I : L2.St → Prop} {tg : List Nat} {one : Bool} {d : D} {v : V} {δ : DS} {σ : L2.St} {K : DS → SS → Prop} {Q : L2.St → Hp → Prop} (hI : ∀ σ i v, i ∈ tg → I σ → I (σ.set i (some v))) (hd : denTg tg one d δ S K) (r : Rep g S H d v) (R : Rel g S H δ σ) (i0 : I σ)
  (h : ∀ δ' σ', K δ' S → Rel g S H δ' σ' → I σ' → Q σ' H) : gTg g.K tg one v σ H Q := by
 cases one with
 | true =>
  unfold denTg at hd
  rw [if_pos rfl] at hd
  unfold gTg
  rw [if_pos rfl]
  split at hd
  ·exact h _ _ hd ⟨R.sl.set r, R.ce⟩ (hI _ _ _ List.mem_cons_self i0)
  ·exact hd.elim
 | false =>
  unfold denTg at hd
  rw [if_neg Bool.false_ne_true] at hd
  unfold gTg
  rw [if_neg Bool.false_ne_true]
  obtain ⟨ds, e, l, hk⟩ := hd
  obtain ⟨p, vs, rfl, hl, hr⟩ := vw_tup r e
  exact ⟨p, vs, rfl, hl, by rw [← hr.length]; exact l, names_rd tg ds vs δ σ Q hI R i0 hr l fun σ' R' i' => h _ _ hk R' i'⟩
theorem lc_rd {cell : Bool} {elt : RE} {cnd : RO} {tg : List Nat} {one : Bool} {it : RI} {own : List (Str × Nat)} (hK : G.K = X.K) (htg : (tg.all fun i => decide (i ∈ own.map (·.2))) = true) {σ : L2.St} {H : Hp} {Q : VK} (h : LE G.toGd W (den G (.lc cell elt tg one it cnd own)) σ H Q) :
  tLc (LI G.toGd W (denI G it)) (gTg X.K tg one) (LT G.toGd noW (denC G cnd)) (LE G.toGd noW (den G elt)) (own.map (·.2)) σ H Q := by
 rw [den] at h
 obtain ⟨δ, S, Y, K, R, ⟨_, ht⟩, res, rw'⟩ := h
 refine ⟨δ, S, Y, _, R, ht, fun ds ok S1 H1 J hk P1 c1 io L hL => ?_, rw'⟩
 obtain ⟨Iv, i0, hok, step, last⟩ := hk L (c1.free hL)
 have PL : Post S1 H1 (S1.set L (.lst [])) (upd H1 L (.lst [])) := Post.newC hL
 have cL : CellsOk G.toGd (S1.set L (.lst [])) (upd H1 L (.lst [])) := c1.newC hL ⟨[], upd_same, by simp only [Reps]⟩
 refine ⟨fun i m H' => m = ds.length - i ∧ i ≤ ds.length ∧ ∃ S', Iv i S' ∧ Post S1 H1 S' H' ∧ CellsOk G.toGd S' H', ⟨_, rfl, Nat.zero_le _, _, i0, PL, cL⟩, ?_⟩
 rintro i m H' ⟨rfl, hi, S', iv, P', c'⟩
 have ok' := hok i S' iv hi
 by_cases hlt : i < ds.length
 ·refine .inr ⟨io.go i S' H' hlt P' c' ok', fun H'' => i + 1 ≤ ds.length ∧ ∃ S'', Iv (i + 1) S'' ∧ Post S1 H1 S'' H'' ∧ CellsOk G.toGd S'' H'', fun H'' q => ⟨_, by omega, rfl, q⟩, fun x H2 y => ?_⟩
  obtain ⟨P2, c2, r2⟩ := io.yl i S' H' x H2 ds[i] (by simp) P' c' ok' y
  have P12 := P'.trans P2
  have R2 : Rel G.toGd S' H2 (wipeD δ (own.map (·.2))) (wipe σ (own.map (·.2))) := ⟨wipe_rel (R.sl.mono (P1.trans P12)) _, c2⟩
  have hstep := step i ds[i] S' (by simp) iv
  rw [← hK]
  refine gTg_rd (I := fun τ => wipe τ (own.map (·.2)) = wipe σ (own.map (·.2))) (fun τ j w hj e => ?_) hstep r2 R2 (wipe_wipe _) fun δ3 σ3 hq R3 e3 => ⟨e3, ?_⟩
  ·rw [wipe_set (by simpa using (List.all_eq_true.mp htg) j hj)]
   exact e
  ·refine ⟨δ3, S', noX, _, R3, hq, fun b S4 H4 hb4 P4 c4 => ?_, fun _ _ _ _ _ _ _ z => z.elim⟩
   cases b with
   | true =>
    refine ⟨δ3, S4, noX, _, R3.mono P4 c4, hb4, fun d5 S5 v5 H5 h5 P5 c5 r5 => ?_, fun _ _ _ _ _ _ _ z => z.elim⟩
    obtain ⟨acc, ea, hz, iv5⟩ := h5
    obtain ⟨vs, hL5, rvs⟩ := c5 L _ ea
    have P6 : Post S5 H5 (S5.set L (.lst (acc ++ [d5]))) (upd H5 L (.lst (vs ++ [v5]))) := Post.write ea
    refine ⟨vs, hL5, by rw [← rvs.length]; exact hz, hlt, _, iv5, ((P12.trans P4).trans P5).trans P6, c5.write ea ⟨_, upd_same, (rvs.append (show Reps G.toGd S5 H5 [d5] [v5] from by simp only [Reps]; exact ⟨v5, [], rfl, r5, rfl⟩)).mono P6⟩⟩
   | false => exact ⟨hlt, S4, hb4, P12.trans P4, c4⟩
 ·have e : i = ds.length := by omega
  subst e
  refine .inl ⟨io.st _ S' H' (Nat.le_refl _) P' c' ok', ?_⟩
  obtain ⟨acc, ea, hk⟩ := last S' iv
  cases cell with
  | true => exact res _ S' _ H' hk (P1.trans P') c' (by simp only [Rep])
  | false => exact res _ (S'.del L) _ H' hk ((P1.trans P').trans (Post.freeze ea)) (c'.freeze ea) (Rep.freeze c' ea)
/-- pairs are stored by a tuple -/
theorem tup_tg {n : SN} {scope : Scope} {tg : List Nat} {one : Bool} {xt : Expr} {it : RI} (h : chkTg n scope tg one xt = true) (h2 : (!it.two || !one) = true) (two : it.two = true) : ∃ elts kk tpos, xt = .Tuple elts kk tpos := by
 rw [two] at h2
 cases one with
 | true => cases h2
 | false =>
  unfold chkTg at h
  rw [if_neg Bool.false_ne_true] at h
  split at h
  ·exact ⟨_, _, _, rfl⟩
  ·cases h
/-- [elt for tg in it if cnd] -/
theorem s_lc {cell : Bool} {elt : RE} {cnd : RO} {tg : List Nat} {one : Bool} {it : RI} {own : List (Str × Nat)} {xe xt xi : Expr} {ifs : List Expr} {scope : Scope} (c : XC n X G W k sc) (hb : blkC n.N sc scope own = true) (hsd : nsetd xi = true) (hI : SndI n sc it xi)
  (htg : (tg.all fun i => decide (i ∈ own.map (·.2))) = true) (hct : chkTg n scope tg one xt = true) (h2 : (!it.two || !one) = true) (hcnd : ∀ X G W k, XC n X G W k scope → PTs X ifs (LT G.toGd W (denC G cnd))) (he : ∀ X G W k, XC n X G W k scope → PE X xe (LE G.toGd W (den G elt))) :
  PE X (.ListComp xe [⟨xt, xi, ifs, 0⟩] scope pos) (LE G.toGd W (den G (.lc cell elt tg one it cnd own))) := by
 by_cases hm : G.m0 = none
 ·have calm : X.calm = true := by have := c.md; rw [hm] at this; exact this.2
  have bo : BlkOk X.N X.env.scope scope own := by
   have h := blkOk_by hb
   exact ⟨h.kind, h.uniq, fun p hp => c.N ▸ h.ix p hp, fun y hy e => c.sc.fr _ (h.free y hy e), fun y hy e => c.N ▸ h.own y hy e⟩
  refine PE.imp (pe_lc (wi := LI G.toGd W (denI G it)) (g := gTg X.K tg one) (tt := LT G.toGd noW (denC G cnd)) (te := LE G.toGd noW (den G elt)) calm c.nd (hI X G W k xt c hm (tup_tg hct h2)) bo (fun s H C cl fp => pg_tg (c.blk hm) (fun _ => calm) hct) (fun s H C cl fp => hcnd _ G noW k (c.blk hm)) (fun s H C cl fp => he _ G noW k (c.blk hm)) (fun x => nsetf_ok hsd x)) fun σ H Q h => lc_rd c.ok.K htg h
 ·refine pe_false fun δ S Y K h => ?_
  rw [den] at h
  exact hm h.1
end
end Sv
/-! Sv9: the check is sound: the whole of the expressions. -/
namespace Sv
open PySem PySem.Spec PyProof.Rows L2
open L2H (RoomH)
variable {n : SN}
theorem snd_no {sc : Scope} {x : Expr} {e : RE} (hv : ∀ G δ S Y K, ¬ den G e δ S Y K) (ht : ∀ G δ S Y K, ¬ denT G e δ S Y K) : SndE n sc e x :=
 ⟨fun X G W k _ => pe_false (hv G), fun X G W k _ => pt_false (ht G)⟩
/-- the test of a plain one -/
theorem snd_plain {sc : Scope} {x : Expr} {e : RE} (hp : plainT x = true) (hv : ∀ X G W k, XC n X G W k sc → PE X x (LE G.toGd W (den G e))) (ht : ∀ G δ S Y K, denT G e δ S Y K → den G e δ S Y fun d S' => truD d S' fun b => K b S') : SndE n sc e x :=
 ⟨hv, fun X G W k c => PT.imp (pt_of c (hv X G W k c) hp) fun σ H Q h => h.re fun δ S Y K q => ht G δ S Y K q⟩
/-- .. whose test is not told -/
theorem snd_untold {sc : Scope} {x : Expr} {e : RE} (hv : ∀ X G W k, XC n X G W k sc → PE X x (LE G.toGd W (den G e))) (ht : ∀ G δ S Y K, ¬ denT G e δ S Y K) : SndE n sc e x :=
 ⟨hv, fun X G W k _ => pt_false (ht G)⟩
section
variable {sc : Scope} {e f : RE} {es r : RL} {x y : Expr} {xs : List Expr}
theorem sndL_nil : SndL n sc .nil [] where
 a := fun X G W k c => PA.imp pa_nil fun σ H Q h => by
  obtain ⟨δ, S, Y, K, R, ht, res, _⟩ := h
  rw [dens] at ht
  exact res [] S [] H ht (Post.refl _ _) R.ce (by simp only [Reps])
 and := fun X G W k pos c => pe_false fun δ S Y K h => by rw [denAnd] at h; exact h
 or := fun X G W k pos c => pe_false fun δ S Y K h => by rw [denOr] at h; exact h
 tand := fun X G W k pos c => pw_false fun δ S Y K h => by rw [denTAnd] at h; exact h
 tor := fun X G W k pos c => pw_false fun δ S Y K h => by rw [denTOr] at h; exact h
 st := rfl
 nl := fun _ => rfl
 ne := rfl
theorem sndL_cons (hs : nstar x = true) (he : SndE n sc e x) (hL : SndL n sc es xs) : SndL n sc (.cons e es) (x :: xs) where
 a := fun X G W k c => PA.imp (pa_cons (he.v X G W k c) (hL.a X G W k c) (nstar_ok hs)) fun σ H Q h => by
  have h' : LE G.toGd W (den G e) σ H fun v H1 => LA G.toGd W (dens G es) σ H1 fun vs H2 => Q (v :: vs) H2 := by
   obtain ⟨δ, S, Y, K, R, ht, res, rw'⟩ := h
   rw [dens] at ht
   refine ⟨δ, S, Y, _, R, ht, fun d S1 v H1 k P c r => ⟨δ, S1, Y, _, R.mono P c, k, fun ds S2 vs H2 k2 P2 c2 r2 => res (d :: ds) S2 (v :: vs) H2 k2 (P.trans P2) c2 ?_, rw'.mono P⟩, rw'⟩
   simp only [Reps]
   exact ⟨v, vs, rfl, r.mono P2, r2⟩
  exact h'
 and := fun X G W k pos c => by
  cases xs with
  | nil =>
   have he' := hL.nl rfl
   subst he'
   exact PE.imp (pe_one (he.v X G W k c)) fun σ H Q h => h.re fun δ S Y K q => by rw [denAnd] at q; exact q
  | cons z zs =>
   cases es with
   | nil => exact absurd (hL.ne) (by simp [RL.len])
   | cons f r =>
    refine PE.imp (pe_andT (he.v X G W k c) (hL.and X G W k pos c)) fun σ H Q h => ?_
    have h := h.re (t' := fun δ S Y K => den G e δ S Y fun x S1 => truD x S1 fun k => if k = true then denAnd G (.cons f r) δ S1 Y K else K x S1) fun δ S Y K q => by rw [denAnd] at q; exact q
    refine (le_bind (t1 := den G e) (t2 := fun x δ S1 Y K => truD x S1 fun k => if k = true then denAnd G (.cons f r) δ S1 Y K else K x S1) h).then fun v H1 q => ?_
    obtain ⟨x, δ, S, Y, K, R, r1, q, res, rw'⟩ := q
    obtain ⟨b, tv, q⟩ := truD_ok c.ok.K R.ce r1 q
    refine ⟨b, tv, ?_⟩
    cases b with
    | true => exact ⟨δ, S, Y, K, R, q, res, rw'⟩
    | false => exact res.val q R.ce r1
 or := fun X G W k pos c => by
  cases xs with
  | nil =>
   have he' := hL.nl rfl
   subst he'
   exact PE.imp (pe_one (he.v X G W k c)) fun σ H Q h => h.re fun δ S Y K q => by rw [denOr] at q; exact q
  | cons z zs =>
   cases es with
   | nil => exact absurd (hL.ne) (by simp [RL.len])
   | cons f r =>
    refine PE.imp (pe_orT (he.v X G W k c) (hL.or X G W k pos c)) fun σ H Q h => ?_
    have h := h.re (t' := fun δ S Y K => den G e δ S Y fun x S1 => truD x S1 fun k => if k = true then K x S1 else denOr G (.cons f r) δ S1 Y K) fun δ S Y K q => by rw [denOr] at q; exact q
    refine (le_bind (t1 := den G e) (t2 := fun x δ S1 Y K => truD x S1 fun k => if k = true then K x S1 else denOr G (.cons f r) δ S1 Y K) h).then fun v H1 q => ?_
    obtain ⟨x, δ, S, Y, K, R, r1, q, res, rw'⟩ := q
    obtain ⟨b, tv, q⟩ := truD_ok c.ok.K R.ce r1 q
    refine ⟨b, tv, ?_⟩
    cases b with
    | true => exact res.val q R.ce r1
    | false => exact ⟨δ, S, Y, K, R, q, res, rw'⟩
 tand := fun X G W k pos c => by
  cases xs with
  | nil =>
   have he' := hL.nl rfl
   subst he'
   exact PW.imp (pw_and1 (he.t X G W k c)) fun σ H Q h => h.re fun δ S Y K q => by rw [denTAnd] at q; exact q
  | cons z zs =>
   cases es with
   | nil => exact absurd (hL.ne) (by simp [RL.len])
   | cons f r =>
    refine PW.imp (pw_and (he.t X G W k c) (hL.tand X G W k pos c)) fun σ H Q h => ?_
    obtain ⟨δ, S, Y, K, R, ht, res, rw'⟩ := h
    rw [denTAnd] at ht
    refine ⟨δ, S, Y, _, R, ht, fun b S1 H1 k P c1 => ?_, rw'⟩
    cases b with
    | true => exact ⟨δ, S1, Y, K, R.mono P c1, k, fun b S2 H2 k2 P2 => res b S2 H2 k2 (P.trans P2), rw'.mono P⟩
    | false => exact res false S1 H1 k P c1
 tor := fun X G W k pos c => by
  cases xs with
  | nil =>
   have he' := hL.nl rfl
   subst he'
   exact PW.imp (pw_or1 (he.t X G W k c)) fun σ H Q h => h.re fun δ S Y K q => by rw [denTOr] at q; exact q
  | cons z zs =>
   cases es with
   | nil => exact absurd (hL.ne) (by simp [RL.len])
   | cons f r =>
    refine PW.imp (pw_or (he.t X G W k c) (hL.tor X G W k pos c)) fun σ H Q h => ?_
    obtain ⟨δ, S, Y, K, R, ht, res, rw'⟩ := h
    rw [denTOr] at ht
    refine ⟨δ, S, Y, _, R, ht, fun b S1 H1 k P c1 => ?_, rw'⟩
    cases b with
    | true => exact res true S1 H1 k P c1
    | false => exact ⟨δ, S1, Y, K, R.mono P c1, k, fun b S2 H2 k2 P2 => res b S2 H2 k2 (P.trans P2), rw'.mono P⟩
 st := by rw [List.all_cons, hs, hL.st]; rfl
 nl := fun h => nomatch h
 ne := by simp [RL.len, hL.ne]
end
theorem con_d {H : Hp} {g : Gd} {W : WX} {G : Gm} {c : RC} {v : V} {σ : L2.St} {Q : VK} (hv : ∀ S H, Rep g S H c.d v) (h : LE g W (den G (.con c)) σ H Q) : Q v H := by
 obtain ⟨δ, S, Y, K, R, ht, res, _⟩ := h
 rw [den] at ht
 exact res.val ht R.ce (hv _ _)
mutual
theorem sE : ∀ (e : RE) (sc : Scope) (x : Expr), chk n sc e x = true → SndE n sc e x
 | .var i, sc, x, h => by
  unfold chk at h
  split at h
  ·rename_i y p
   rw [Bool.and_eq_true] at h
   refine snd_plain rfl (fun X G W k c => PE.imp (pe_var (c.at h.1) (c.vis h.2) (nmB_ok h.1).2.1 (nmB_ok h.1).2.2) fun σ H Q q => ?_) (fun G δ S Y K q => by rw [denT] at q; rw [den]; exact q)
   obtain ⟨δ, S, Y, K, R, ht, res, _⟩ := q
   rw [den] at ht
   split at ht
   ·rename_i d e
    obtain ⟨v, e1, r⟩ := R.sl.at_ i d e
    exact ⟨v, e1, res.val ht R.ce r⟩
   ·exact ht.elim
  ·cases h
 | .con c, sc, x, h => by
  unfold chk at h
  split at h
  ·exact snd_plain rfl (fun X G W k _ => PE.imp pe_non fun σ H Q q => con_d (v := .non) (fun _ _ => by simp only [RC.d, Rep]) q) (fun G δ S Y K q => by rw [denT] at q; rw [den]; exact q)
  ·have e := eq_of_beq h
   subst e
   exact snd_plain rfl (fun X G W k _ => PE.imp pe_bl fun σ H Q q => con_d (v := .bl _) (fun _ _ => by simp only [RC.d, Rep]) q) (fun G δ S Y K q => by rw [denT] at q; rw [den]; exact q)
  ·have e := of_decide_eq_true h
   subst e
   exact snd_plain rfl (fun X G W k _ => PE.imp pe_int fun σ H Q q => con_d (v := .int _) (fun _ _ => by simp only [RC.d, Rep]) q) (fun G δ S Y K q => by rw [denT] at q; rw [den]; exact q)
  ·have e := of_decide_eq_true h
   subst e
   exact snd_plain rfl (fun X G W k _ => PE.imp pe_str fun σ H Q q => con_d (v := .str _) (fun _ _ => by simp only [RC.d, Rep]) q) (fun G δ S Y K q => by rw [denT] at q; rw [den]; exact q)
  ·cases h
 | .glb j, sc, x, h => by
  unfold chk at h
  split at h
  ·rename_i y p
   rw [Bool.and_eq_true] at h
   refine snd_plain rfl (fun X G W k c => ?_) (fun G δ S Y K q => by rw [denT] at q; rw [den]; exact q)
   obtain ⟨v, u, h1, h2, h3⟩ := c.ok.gv j _ (nmB_ok h.1).1
   refine PE.imp (pe_glob (c.gl h.2) h1 h2 (nmB_ok h.1).2.1) fun σ H Q q => ?_
   obtain ⟨δ, S, Y, K, R, ht, res, _⟩ := q
   rw [den] at ht
   exact res.val ht R.ce (h3 _ _)
  ·cases h
 | .bin op a b, sc, x, h => by
  unfold chk at h
  split at h
  ·simp only [Bool.and_eq_true, decide_eq_true_eq] at h
   obtain ⟨e, h1, h2⟩ := h
   subst e
   exact snd_untold (fun X G W k c => s_bin c ((sE a sc _ h1).v X G W k c) ((sE b sc _ h2).v X G W k c)) (fun G δ S Y K q => by unfold denT at q; exact q)
  ·cases h
 | .neg a, sc, x, h => by
  unfold chk at h
  split at h
  ·exact snd_untold (fun X G W k c => s_neg ((sE a sc _ h).v X G W k c)) (fun G δ S Y K q => by unfold denT at q; exact q)
  ·cases h
 | .nt a, sc, x, h => by
  unfold chk at h
  split at h
  ·exact ⟨fun X G W k c => s_nt c ((sE a sc _ h).v X G W k c), fun X G W k c => s_ntT ((sE a sc _ h).t X G W k c)⟩
  ·cases h
 | .and es, sc, x, h => by
  unfold chk at h
  split at h
  ·have q := sL es sc _ h
   exact ⟨fun X G W k c => PE.imp (q.and X G W k _ c) fun σ H Q z => z.re fun δ S Y K y => by rw [den] at y; exact y, fun X G W k c => PT.imp (q.tand X G W k _ c).pt fun σ H Q z => z.re fun δ S Y K y => by rw [denT] at y; exact y⟩
  ·cases h
 | .or es, sc, x, h => by
  unfold chk at h
  split at h
  ·have q := sL es sc _ h
   exact ⟨fun X G W k c => PE.imp (q.or X G W k _ c) fun σ H Q z => z.re fun δ S Y K y => by rw [den] at y; exact y, fun X G W k c => PT.imp (q.tor X G W k _ c).pt fun σ H Q z => z.re fun δ S Y K y => by rw [denT] at y; exact y⟩
  ·cases h
 | .ife t a b, sc, x, h => by
  unfold chk at h
  split at h
  ·simp only [Bool.and_eq_true] at h
   obtain ⟨h0, h1, h2⟩ := h
   exact snd_untold (fun X G W k c => s_ife ((sE t sc _ h0).t X G W k c) ((sE a sc _ h1).v X G W k c) ((sE b sc _ h2).v X G W k c)) (fun G δ S Y K q => by unfold denT at q; exact q)
  ·cases h
 | .cmp op a b, sc, x, h => by
  unfold chk at h
  split at h
  ·simp only [Bool.and_eq_true, decide_eq_true_eq] at h
   obtain ⟨⟨e, h0⟩, h1, h2⟩ := h
   subst e
   exact ⟨fun X G W k c => s_cmp c h0 ((sE a sc _ h1).v X G W k c) ((sE b sc _ h2).v X G W k c), fun X G W k c => s_cmpT c h0 ((sE a sc _ h1).v X G W k c) ((sE b sc _ h2).v X G W k c)⟩
  ·cases h
 | .chn o1 o2 a b t, sc, x, h => by
  unfold chk at h
  split at h
  ·simp only [Bool.and_eq_true, decide_eq_true_eq] at h
   obtain ⟨⟨⟨e, e'⟩, h0⟩, h1, h2, h3⟩ := h
   subst e e'
   exact ⟨fun X G W k c => s_chn c h0 ((sE a sc _ h1).v X G W k c) ((sE b sc _ h2).v X G W k c) ((sE t sc _ h3).v X G W k c), fun X G W k c => s_chnT c h0 ((sE a sc _ h1).v X G W k c) ((sE b sc _ h2).v X G W k c) ((sE t sc _ h3).v X G W k c)⟩
  ·cases h
 | .lst cell es, sc, x, h => by
  unfold chk at h
  split at h
  ·exact snd_untold (fun X G W k c => s_lst ((sL es sc _ h).a X G W k c)) (fun G δ S Y K q => by unfold denT at q; exact q)
  ·cases h
 | .tup es, sc, x, h => by
  unfold chk at h
  split at h
  ·exact snd_untold (fun X G W k c => s_tup ((sL es sc _ h).a X G W k c)) (fun G δ S Y K q => by unfold denT at q; exact q)
  ·cases h
 | .ix a b, sc, x, h => by
  unfold chk at h
  split at h
  ·simp only [Bool.and_eq_true] at h
   obtain ⟨h0, h1, h2⟩ := h
   exact snd_plain rfl (fun X G W k c => s_ix c h0 ((sE a sc _ h1).v X G W k c) ((sE b sc _ h2).v X G W k c)) (fun G δ S Y K q => by rw [denT] at q; rw [den]; exact q)
  ·cases h
 | .sl a lo hi, sc, x, h => by
  unfold chk at h
  split at h
  ·simp only [Bool.and_eq_true] at h
   obtain ⟨h0, h1, h2⟩ := h
   exact snd_untold (fun X G W k c => s_sl c ((sE a sc _ h0).v X G W k c) (sO lo sc _ h1 X G W k c) (sO hi sc _ h2 X G W k c)) (fun G δ S Y K q => by unfold denT at q; exact q)
  ·cases h
 | .fld a f, sc, x, h => by
  unfold chk at h
  split at h
  ·simp only [Bool.and_eq_true, decide_eq_true_eq] at h
   obtain ⟨⟨e, h0⟩, h1⟩ := h
   subst e
   exact snd_plain rfl (fun X G W k c => PE.imp (pe_fldD c.ok.K c.md.p ((sE a sc _ h1).v X G W k c) (nsup_ok h0)) fun σ H Q z => z.re fun δ S Y K y => by rw [den] at y; exact y) (fun G δ S Y K q => by rw [denT] at q; rw [den]; exact q)
  ·cases h
 | .call j es, sc, x, h => by
  unfold chk at h
  split at h
  ·simp only [Bool.and_eq_true] at h
   obtain ⟨⟨h0, h1⟩, h2⟩ := h
   exact snd_plain rfl (fun X G W k c => s_call c h0 h1 (sL es sc _ h2)) (fun G δ S Y K q => by rw [denT] at q; rw [den]; exact q)
  ·cases h
 | .bi b es, sc, x, h => by
  unfold chk at h
  split at h
  ·simp only [Bool.and_eq_true, decide_eq_true_eq] at h
   obtain ⟨⟨⟨e, h0⟩, h1⟩, h2⟩ := h
   subst e
   exact snd_plain rfl (fun X G W k c => s_bi c h0 (by simpa using h1) (sL es sc _ h2)) (fun G δ S Y K q => by rw [denT] at q; rw [den]; exact q)
  ·cases h
 | .isi a cn, sc, x, h => by
  unfold chk at h
  split at h
  ·rw [Bool.and_eq_true] at h
   obtain ⟨h, hc⟩ := h
   simp only [Bool.and_eq_true, decide_eq_true_eq] at h
   obtain ⟨⟨⟨⟨e, h0⟩, h1⟩, h2⟩, h3⟩ := h
   exact snd_plain rfl (fun X G W k c => s_isi c e h0 h1 h2 ((sE a sc _ h3).v X G W k c) hc) (fun G δ S Y K q => by rw [denT] at q; rw [den]; exact q)
  ·cases h
 | .lc cell elt tg one it cnd own, sc, x, h => by
  unfold chk at h
  split at h
  ·simp only [Bool.and_eq_true] at h
   obtain ⟨⟨⟨⟨⟨⟨⟨h0, h1⟩, h2⟩, h3⟩, h4⟩, h5⟩, h6⟩, h7⟩ := h
   exact snd_untold (fun X G W k c => s_lc c h0 h1 (sI it sc _ h2) h3 h4 h7 (fun X G W k c => sC cnd _ _ h5 X G W k c) (fun X G W k c => (sE elt _ _ h6).v X G W k c)) (fun G δ S Y K q => by unfold denT at q; exact q)
  ·cases h
 | .mth b a es, sc, x, h => by
  unfold chk at h
  split at h
  ·simp only [Bool.and_eq_true, decide_eq_true_eq] at h
   obtain ⟨⟨⟨⟨⟨e, h0⟩, h1⟩, h2⟩, h3⟩, h4⟩ := h
   subst e
   exact snd_plain rfl (fun X G W k c => s_mth c h0 h1 h2 ((sE a sc _ h3).v X G W k c) (sL es sc _ h4)) (fun G δ S Y K q => by rw [denT] at q; rw [den]; exact q)
  ·cases h
 | .om j m a es, sc, x, h => by
  unfold chk at h
  split at h
  ·simp only [Bool.and_eq_true, decide_eq_true_eq] at h
   obtain ⟨⟨⟨⟨⟨⟨e, h0⟩, h1⟩, h2⟩, h5⟩, h3⟩, h4⟩ := h
   subst e
   exact snd_plain rfl (fun X G W k c => s_om c h0 h1 h2 h5 ((sE a sc _ h3).v X G W k c) (sL es sc _ h4)) (fun G δ S Y K q => by rw [denT] at q; rw [den]; exact q)
  ·cases h
 | .mk j es, sc, x, h => by
  unfold chk at h
  split at h
  ·simp only [Bool.and_eq_true, decide_eq_true_eq] at h
   obtain ⟨⟨⟨h0, h1⟩, h2⟩, h3⟩ := h
   exact snd_untold (fun X G W k c => s_mk c h0 h1 h2 (sL es sc _ h3)) (fun G δ S Y K q => by unfold denT at q; exact q)
  ·cases h
 | .lck a, sc, x, h => by
  unfold chk at h
  exact snd_untold (fun X G W k c => s_lck ((sE a sc _ h).v X G W k c)) (fun G δ S Y K q => by unfold denT at q; exact q)
 | .fz a, sc, x, h => by
  unfold chk at h
  exact snd_untold (fun X G W k c => s_fz ((sE a sc _ h).v X G W k c)) (fun G δ S Y K q => by unfold denT at q; exact q)
 | .ofs srt a, sc, x, h => by
  unfold chk at h
  split at h
  ·simp only [Bool.and_eq_true, decide_eq_true_eq] at h
   obtain ⟨⟨⟨⟨⟨e, h0⟩, e2⟩, h1⟩, h2⟩, h3⟩ := h
   exact snd_untold (fun X G W k c => s_ofs c e h0 e2 h1 h2 ((sE a sc _ h3).v X G W k c)) (fun G δ S Y K q => by unfold denT at q; exact q)
  ·cases h
 | .vls cell a, sc, x, h => by
  unfold chk at h
  split at h
  ·simp only [Bool.and_eq_true, decide_eq_true_eq] at h
   obtain ⟨⟨⟨⟨⟨e, h0⟩, e2⟩, h1⟩, h2⟩, h3⟩ := h
   exact snd_untold (fun X G W k c => s_vls c e h0 e2 h1 h2 ((sE a sc _ h3).v X G W k c)) (fun G δ S Y K q => by unfold denT at q; exact q)
  ·cases h
 | .rev cell a, sc, x, h => by
  unfold chk at h
  split at h
  ·exact snd_untold (fun X G W k c => s_rev c ((sE a sc _ h).v X G W k c)) (fun G δ S Y K q => by unfold denT at q; exact q)
  ·cases h
 | .sl2 j a, sc, x, h => by
  unfold chk at h
  split at h
  ·rw [Bool.and_eq_true] at h
   exact snd_untold (fun X G W k c => s_sl2 c h.1 ((sE a sc _ h.2).v X G W k c)) (fun G δ S Y K q => by unfold denT at q; exact q)
  ·cases h
 | .dct cell ps, sc, x, h => by
  unfold chk at h
  split at h
  ·simp only [Bool.and_eq_true, decide_eq_true_eq] at h
   exact snd_untold (fun X G W k c => s_dct c h.1 (sP ps sc _ _ h.2)) (fun G δ S Y K q => by unfold denT at q; exact q)
  ·cases h
 | .nev, sc, x, h => snd_no (fun G δ S Y K q => by rw [den] at q; exact q) (fun G δ S Y K q => by unfold denT at q; exact q)
theorem sP : ∀ (ps : RQ) (sc : Scope) (ks : List (Option Expr)) (vs : List Expr), chkP n sc ps ks vs = true → SndP n sc ps ks vs
 | .nil, sc, ks, vs, h => by
  unfold chkP at h
  rw [Bool.and_eq_true] at h
  cases ks with
  | cons _ _ => exact nomatch h.1
  | nil =>
   cases vs with
   | cons _ _ => exact nomatch h.2
   | nil => exact sndP_nil
 | .cons kx vx ps, sc, ks, vs, h => by
  unfold chkP at h
  split at h
  ·simp only [Bool.and_eq_true] at h
   obtain ⟨⟨h0, h1⟩, h2⟩ := h
   exact sndP_cons (sE kx sc _ h0) (sE vx sc _ h1) (sP ps sc _ _ h2)
  ·cases h
theorem sL : ∀ (es : RL) (sc : Scope) (xs : List Expr), chks n sc es xs = true → SndL n sc es xs
 | .nil, sc, xs, h => by
  unfold chks at h
  cases xs with
  | nil => exact sndL_nil
  | cons _ _ => cases h
 | .cons e es, sc, xs, h => by
  unfold chks at h
  split at h
  ·simp only [Bool.and_eq_true] at h
   obtain ⟨h0, h1, h2⟩ := h
   exact sndL_cons h0 (sE e sc _ h1) (sL es sc _ h2)
  ·cases h
theorem sO : ∀ (e : RO) (sc : Scope) (x : Option Expr), chkO n sc e x = true → ∀ X G W k, XC n X G W k sc → PO X x (LO G.toGd W (denO G e))
 | .nn, sc, x, h => fun X G W k c => by
  unfold chkO at h
  cases x with
  | some _ => cases h
  | none =>
   refine PO.imp po_none fun σ H Q q => ?_
   obtain ⟨δ, S, Y, K, R, ht, res, _⟩ := q
   rw [denO] at ht
   exact res _ S H ht (Post.refl _ _) R.ce
 | .ss e, sc, x, h => fun X G W k c => by
  unfold chkO at h
  split at h
  ·refine PO.imp (po_some ((sE e sc _ h).v X G W k c)) fun σ H Q q => ?_
   obtain ⟨δ, S, Y, K, R, ht, res, rw'⟩ := q
   rw [denO] at ht
   refine ⟨δ, S, Y, _, R, ht, fun d S1 v H1 kk P cc r => ?_, rw'⟩
   obtain ⟨i, rfl, kk⟩ := kk
   exact ⟨i, rep_int r, res _ S1 H1 kk P cc⟩
  ·cases h
theorem sC : ∀ (e : RO) (sc : Scope) (ifs : List Expr), chkC n sc e ifs = true → ∀ X G W k, XC n X G W k sc → PTs X ifs (LT G.toGd W (denC G e))
 | .nn, sc, ifs, h => fun X G W k c => by
  unfold chkC at h
  cases ifs with
  | nil =>
   refine ⟨fun pins s σ H Q I q => ?_⟩
   obtain ⟨δ, S, Y, K, R, ht, res, rw'⟩ := q
   rw [denC] at ht
   exact pts_nil.run pins s σ H Q I (res true S H ht (Post.refl _ _) R.ce)
  | cons _ _ => cases h
 | .ss e, sc, ifs, h => fun X G W k c => by
  unfold chkC at h
  split at h
  ·rw [show denC G (.ss e) = denT G e by rw [denC]]
   exact pts_one ((sE e sc _ h).t X G W k c)
  ·cases h
theorem sI : ∀ (i : RI) (sc : Scope) (x : Expr), chkI n sc i x = true → SndI n sc i x
 | .lst e, sc, x, h => by
  unfold chkI at h
  exact fun X G W k tg c hm _ => i_lst c ((sE e sc x h).v X G W k c)
 | .tup e, sc, x, h => by
  unfold chkI at h
  exact fun X G W k tg c hm _ => i_tup c ((sE e sc x h).v X G W k c)
 | .rng1 a, sc, x, h => by
  unfold chkI at h
  split at h
  ·simp only [Bool.and_eq_true, decide_eq_true_eq] at h
   obtain ⟨⟨⟨e, h0⟩, h1⟩, h2⟩ := h
   subst e
   exact fun X G W k tg c hm _ => i_rng1 c h0 h1 ((sE a sc _ h2).v X G W k c)
  ·cases h
 | .rng2 a b, sc, x, h => by
  unfold chkI at h
  split at h
  ·simp only [Bool.and_eq_true, decide_eq_true_eq] at h
   obtain ⟨⟨⟨⟨e, h0⟩, h1⟩, h1'⟩, h2, h3⟩ := h
   subst e
   exact fun X G W k tg c hm _ => i_rng2 c h0 h1 h1' ((sE a sc _ h2).v X G W k c) ((sE b sc _ h3).v X G W k c)
  ·cases h
 | .str a, sc, x, h => by
  unfold chkI at h
  exact fun X G W k tg c hm _ => i_str ((sE a sc x h).v X G W k c)
 | .keys a, sc, x, h => by
  unfold chkI at h
  exact fun X G W k tg c hm _ => i_keys ((sE a sc x h).v X G W k c)
 | .enum a, sc, x, h => by
  unfold chkI at h
  split at h
  ·simp only [Bool.and_eq_true, decide_eq_true_eq] at h
   obtain ⟨⟨⟨e, h0⟩, h1⟩, h2⟩ := h
   subst e
   intro X G W k tg c hm two
   obtain ⟨_, _, _, rfl⟩ := two rfl
   exact i_enum c h0 h1 ((sE a sc _ h2).v X G W k c)
  ·cases h
 | .items a, sc, x, h => by
  unfold chkI at h
  split at h
  ·simp only [Bool.and_eq_true, decide_eq_true_eq] at h
   obtain ⟨⟨⟨e, h0⟩, h1⟩, h2⟩ := h
   subst e
   intro X G W k tg c hm two
   obtain ⟨_, _, _, rfl⟩ := two rfl
   exact i_items h0 h1 ((sE a sc _ h2).v X G W k c)
  ·cases h
end
end Sv
/-! Sv10: stores by values; statements: the resolved text, its reading, its check. -/
namespace Sv
open PySem PySem.Spec PyProof.Rows L2
open L2H (RoomH)
/-! ### o[i] = v -/
def setD (x y z : D) (S : SS) (K : SS → Prop) : Prop := match x with
 | .obj a => match S a with
  | some (.lst ds) => ∃ i j, y = .int i ∧ ixN ds.length i = some j ∧ K (S.set a (.lst (ds.set j z)))
  | some (.dic kvs) => ∃ k, keyD y = some k ∧ kvs.length < sizeLine ∧ K (S.set a (.dic (putD kvs k z)))
  | _ => False
 | _ => False
def rD3 (g : Gd) (t : D → D → D → SS → (SS → Prop) → Prop) : TSet := fun o i v H Q => ∃ x y z S K, CellsOk g S H ∧ Rep g S H x o ∧ Rep g S H y i ∧ Rep g S H z v ∧ t x y z S K ∧ ∀ S' H', K S' → Post S H S' H' → CellsOk g S' H' → Q H'
section
variable {X : Cx} {g : Gd}
theorem setD_ok (hu : X.A.units + 1 < cLine) : PSet X (rD3 g setD) := by
 intro pins s σ H o i v ov iv u Q I ro ri rv h
 obtain ⟨x, y, z, S, K, hc, p1, p2, p3, ht, res⟩ := h
 unfold setD at ht
 split at ht
 ·rename_i a
  cases rep_obj p1
  split at ht
  ·rename_i ds e
   obtain ⟨k, j, rfl, hj, q⟩ := ht
   cases rep_int p2
   obtain ⟨vs, hl, hr⟩ := hc a _ e
   exact set_list pins s σ H _ _ _ ov iv u Q I ro ri rv ⟨a, vs, k, j, rfl, rfl, hl, by rw [← hr.length]; exact hj, res _ _ q (Post.write e) (hc.write e ⟨_, upd_same, (hr.set p3).mono (Post.write e)⟩)⟩
  ·rename_i kvs e
   obtain ⟨k, ek, hz, q⟩ := ht
   cases rep_key ek p2
   obtain ⟨vs, hl, hr⟩ := hc a _ e
   exact set_dict hu pins s σ H _ _ _ ov iv u Q I ro ri rv ⟨a, _, rfl, .inl ⟨vs, k, hl, rfl, by rw [← Paired.length (rpk_of hr)]; exact hz, rfl⟩, res _ _ q (Post.write e) (hc.write e ⟨_, upd_same, (putK_of hr k p3).mono (Post.write e)⟩)⟩
  ·exact ht.elim
 ·exact ht.elim
/-- a place in a list, by the index's sign -/
theorem ixN_case {n j : Nat} {k : Int} (h : ixN n k = some j) : (0 ≤ k ∧ k = (j : Int) ∨ k < 0 ∧ k + (n : Int) = (j : Int)) ∧ j < n := by
 unfold ixN at h
 split at h
 ·split at h <;> cases h
  omega
 ·split at h <;> cases h
  omega
/-- xs[k], read outside a subscript -/
theorem list_take {pins : List (Addr × Obj)} {σ : L2.St} {H : Hp} {s : Shared} {a : Addr} {vs : List V} {k : Int} {t : Tok} {z : V} {Q : Value → Shared → Prop} (I : Inv X pins σ H s) (at_a : SqL X.K H a vs) (found : atI vs k = some z) {E : Value → Shared → Prop} (done : ∀ w, RelV z w → Q w s) :
  wpAny (model X.prog X.w) X.A (getItem (.ref a) (.int k t)) Q E s := by
 obtain ⟨its, rel, isL, small⟩ := I.list at_a
 obtain ⟨j, place, here⟩ := Option.bind_eq_some_iff.mp found
 obtain ⟨w, at_j, like⟩ := pz_get rel here
 have ⟨sign, inside⟩ := ixN_case place
 have same : its.toArray.size = vs.length := by rw [List.size_toArray, rel.length]
 have bound := line63
 have reads : ∀ i : Nat, i = j → its.toArray[i]? = some w := fun i e => by rw [e, List.getElem?_toArray]; exact at_j
 rcases sign with ⟨up, e⟩ | ⟨down, e⟩
 ·exact wpAny_getItem_list isL.isList up (by omega) (reads _ (by omega)) (done w like)
 ·exact wpAny_getItem_list_neg isL.isList down (by omega) (by omega) (reads _ (by omega)) (done w like)
/-- o[i], for o[i] op= v -/
def getD' (x y : D) (S : SS) (K : DK) : Prop := match x with
 | .obj a => match S a with
  | some (.lst ds) => ∃ i d, y = .int i ∧ atI ds i = some d ∧ K d S
  | some (.dic kvs) => ∃ k d, keyD y = some k ∧ valD kvs k = some d ∧ K d S
  | _ => False
 | _ => False
theorem getD_ok (hu : X.A.units + 1 < cLine) : PGet X (rD2 g getD') := by
 intro pins s σ H o i ov iv Q I ro ri h
 obtain ⟨x, y, S, K, hc, p1, p2, ht, res⟩ := h
 unfold getD' at ht
 split at ht
 ·rename_i a
  cases rep_obj p1
  cases (show ov = Value.ref a from ro)
  split at ht
  ·rename_i ds e
   obtain ⟨k, d, rfl, hd, q⟩ := ht
   cases rep_int p2
   obtain ⟨t, rfl⟩ := (show ∃ t, iv = Value.int k t from ri)
   obtain ⟨vs, hl, hr⟩ := hc a _ e
   obtain ⟨z, he, rz⟩ := hr.at hd
   exact list_take I (.inl (.inl hl)) he fun w rw' => ⟨z, H, I, rw', res.val q hc rz⟩
  ·rename_i kvs e
   obtain ⟨k, d, ek, ed, q⟩ := ht
   cases rep_key ek p2
   obtain ⟨vs, hl, hr⟩ := hc a _ e
   rcases valK_of hr k with ⟨z, _⟩ | ⟨d2, w, z1, z2, rw'⟩
   ·rw [ed] at z; cases z
   ·rw [ed] at z1
    cases z1
    exact d_getItem hu I (.inl ⟨vs, k, .inl hl, rfl, z2.symm⟩) ri fun w' s3 I3 rw2 => ⟨w, H, I3, rw2, res.val q hc rw'⟩
  ·exact ht.elim
 ·exact ht.elim
/-- op= -/
def augA (x y : D) (S : SS) (K : DK) : Prop := match x, y with
 | .int i, .int j => K (.int (i + j)) S
 | .str a, .str b => a.length + b.length ≤ sizeLine ∧ K (.str (a ++ b)) S
 | _, _ => False
def augS (x y : D) (S : SS) (K : DK) : Prop := match x, y with
 | .int i, .int j => K (.int (i - j)) S
 | _, _ => False
def augD : Operator → D → D → SS → DK → Prop
 | .Add => augA | .Sub => augS | _ => fun _ _ _ _ => False
theorem augD_ok : ∀ op : Operator, PIp X op (rD2 g (augD op)) := by
 intro op pins s σ H v1 v2 u1 u2 Q I r1 r2 h
 obtain ⟨x, y, S, K, hc, p1, p2, ht, res⟩ := h
 cases op with
 | Add =>
  change augA x y S K at ht
  unfold augA at ht
  split at ht
  ·cases rep_int p1
   cases rep_int p2
   exact iop_add pins s σ H _ _ _ _ Q I r1 r2 ⟨_, _, rfl, rfl, res.int ht hc⟩
  ·cases rep_str p1
   cases rep_str p2
   exact iop_add_str pins s σ H _ _ _ _ Q I r1 r2 ⟨_, _, rfl, rfl, ht.1, res.str ht.2 hc⟩
  ·exact ht.elim
 | Sub =>
  change augS x y S K at ht
  unfold augS at ht
  split at ht
  ·cases rep_int p1
   cases rep_int p2
   exact iop_sub pins s σ H _ _ _ _ Q I r1 r2 ⟨_, _, rfl, rfl, res.int ht hc⟩
  ·exact ht.elim
 | _ => exact False.elim ht
end
def putFD (f : Str) (v : D) : List (Str × D) → List (Str × D)
 | [] => [(f, v)]
 | (g, x) :: r => if g = f then (g, v) :: r else (g, x) :: putFD f v r
theorem putF_rep {g : Gd} {S : SS} {H : Hp} {f : Str} {d : D} {v : V} (r : Rep g S H d v) : ∀ {fs : List (Str × D)} {ws : List (Str × V)}, RepF g S H fs ws → RepF g S H (putFD f d fs) (putF f v ws)
 | [], _, h => by
  simp only [RepF] at h
  subst h
  simp only [putFD, putF, RepF]
  exact ⟨v, [], rfl, r, rfl⟩
 | (k, x) :: fs, _, h => by
  simp only [RepF] at h
  obtain ⟨w, q, rfl, a, b⟩ := h
  unfold putFD putF
  by_cases e : k = f
  ·rw [if_pos e, if_pos e]
   simp only [RepF]
   exact ⟨v, q, rfl, r, b⟩
  ·rw [if_neg e, if_neg e]
   simp only [RepF]
   exact ⟨w, _, rfl, a, putF_rep r b⟩
theorem lenF {g : Gd} {S : SS} {H : Hp} : ∀ {fs : List (Str × D)} {ws : List (Str × V)}, RepF g S H fs ws → fs.length = ws.length
 | [], _, h => by simp only [RepF] at h; subst h; rfl
 | (k, x) :: fs, _, h => by
  simp only [RepF] at h
  obtain ⟨w, q, rfl, a, b⟩ := h
  rw [List.length_cons, List.length_cons, lenF b]
/-! ### statements -/
mutual
inductive RS where
 | exp (e : RE) | asg (tg : List Nat) (one : Bool) (e : RE) | asl (i : Nat) (e : RE)
 | sti (a b c : RE) | stf (a : RE) (f : Str) (c : RE)
 | agv (i : Nat) (op : Operator) (e : RE) | agi (a b : RE) (op : Operator) (e : RE)
 | ifs (c : RE) (a b : RSs) | fr (tg : List Nat) (one : Bool) (it : RI) (b : RSs) | wh (c : RE) (b : RSs)
 | ret (e : RE) | retN | brk | cnt | pas
 | rai (j : Nat) (es : RL) | tra (b : RSs) (j : Nat) (i : Nat) (s : RSs) | tro (b : RSs) (j : Nat) (s : RSs)
 | par (i j : Nat) (es : RL) | tri (i j l : Nat) (es : RL) | lck (s : RS) | nev
inductive RSs where
 | nil | cons (s : RS) (r : RSs) | frz (i : Nat) (r : RSs) | cut (s : RS) (r : RSs)
end
/-- how an error of a class is made -/
inductive XKd where
 | fld (f : Str) | bare
def XKd.ar : XKd → Nat
 | .fld _ => 1 | .bare => 0
structure Gs extends Gm where
 xk : Nat → Option XKd
def Gs.suite (G : Gs) (a : Addr) (oe : Obj) : Gs := { G with m0 := some (a, oe) }
def mkX : XKd → List D → Option (List (Str × D))
 | .fld f, [d] => some [(f, d)]
 | .bare, [] => some []
 | _, _ => none
/-- a dict that was locked is let go -/
def SE.unlock (F : SE) (a : Addr) (kvs : List (Key × D)) : SE :=
 { nx := fun δ S => F.nx δ (S.set a (.dic kvs)), rt := fun d S => F.rt d (S.set a (.dic kvs)), bk := fun δ S => F.bk δ (S.set a (.dic kvs)), ct := fun δ S => F.ct δ (S.set a (.dic kvs)) }
def frzD (i : Nat) (δ : DS) (S : SS) (K : DS → SS → Prop) : Prop := ∃ a, δ[i]? = some (some (.obj a)) ∧ ((∃ ds, S a = some (.lst ds) ∧ K (δ.set i (some (.lst ds))) (S.del a)) ∨ ∃ ds, S a = some (.dic ds) ∧ K (δ.set i (some (.dic ds))) (S.del a))
mutual
def denS (G : Gs) : RS → RdS
 | .exp e => fun δ S Y F => den G.toGm e δ S Y fun _ S1 => F.nx δ S1
 | .asg tg one e => fun δ S Y F => (one = false → G.m0 = none) ∧ den G.toGm e δ S Y fun d S1 => denTg tg one d δ S1 F.nx
 | .asl i e => fun δ S Y F => den G.toGm e δ S Y fun d S1 => F.nx (δ.set i (some d)) S1
 | .sti a b c => fun δ S Y F => den G.toGm c δ S Y fun z S1 => den G.toGm a δ S1 Y fun x S2 => den G.toGm b δ S2 Y fun y S3 => setD x y z S3 fun S4 => F.nx δ S4
 | .stf a f c => fun δ S Y F => den G.toGm c δ S Y fun z S1 => den G.toGm a δ S1 Y fun x S2 => ∃ p C fs, x = .obj p ∧ S2 p = some (.ins C fs) ∧ Cls G.K C ∧ NoAttr G.K C f ∧ fs.length < 1000 ∧ F.nx δ (S2.set p (.ins C (putFD f z fs)))
 | .agv i op e => fun δ S Y F => ∃ x, δ[i]? = some (some x) ∧ den G.toGm e δ S Y fun y S1 => augD op x y S1 fun z S2 => F.nx (δ.set i (some z)) S2
 | .agi a b op e => fun δ S Y F => den G.toGm a δ S Y fun x S1 => den G.toGm b δ S1 Y fun y S2 => getD' x y S2 fun u S3 => den G.toGm e δ S3 Y fun w S4 => augD op u w S4 fun z S5 => setD x y z S5 fun S6 => F.nx δ S6
 | .ifs c a b => fun δ S Y F => denT G.toGm c δ S Y fun k S1 => if k = true then denSs G a δ S1 Y F else denSs G b δ S1 Y F
 | .fr tg one it b => fun δ S Y F => G.m0 = none ∧ denI G.toGm it δ S Y fun ds ok S1 => ∃ Iv : Nat → DS → SS → Prop, Iv 0 δ S1 ∧ (∀ i δ' S', Iv i δ' S' → i ≤ ds.length → ok S') ∧
   (∀ i d δ' S', ds[i]? = some d → Iv i δ' S' → denTg tg one d δ' S' fun δ2 S2 => denSs G b δ2 S2 Y { F with nx := Iv (i + 1), ct := Iv (i + 1), bk := F.nx }) ∧ (∀ δ' S', Iv ds.length δ' S' → F.nx δ' S')
 | .wh c b => fun δ S Y F => ∃ Iv : Nat → DS → SS → Prop, (∃ m, Iv m δ S) ∧ ∀ m δ' S', Iv m δ' S' → denT G.toGm c δ' S' Y fun k S1 =>
   if k = true then denSs G b δ' S1 Y { F with nx := fun δ2 S2 => ∃ m', m' < m ∧ Iv m' δ2 S2, ct := fun δ2 S2 => ∃ m', m' < m ∧ Iv m' δ2 S2, bk := F.nx } else F.nx δ' S1
 | .ret e => fun δ S Y F => den G.toGm e δ S Y F.rt
 | .retN => fun δ S Y F => F.rt .non S
 | .brk => fun δ S Y F => F.bk δ S
 | .cnt => fun δ S Y F => F.ct δ S
 | .pas => fun δ S Y F => F.nx δ S
 | .rai j es => fun δ S Y F => G.m0 = none ∧ ∃ kd, G.xk j = some kd ∧ es.len = kd.ar ∧ dens G.toGm es δ S Y fun ds S1 => ∃ fs, mkX kd ds = some fs ∧ Y (G.cl j) fs δ S1
 | .tra b j i s => fun δ S Y F => G.m0 = none ∧ denSs G b δ S (fun C fs δ' S' => ∃ k, PySem.W.exmOne G.K (.ref C) (.ref (G.cl j)) = some k ∧
   (k = true → ∀ a oe, denSs (G.suite a oe) s (δ'.set i (some (.exc a oe C fs))) S' noX { F with nx := fun δ2 S2 => F.nx (δ2.set i none) S2, bk := fun δ2 S2 => F.bk (δ2.set i none) S2, ct := fun δ2 S2 => F.ct (δ2.set i none) S2 }) ∧
   (k = false → Y C fs δ' S')) F
 | .tro b j s => fun δ S Y F => G.m0 = none ∧ denSs G b δ S (fun C fs δ' S' => ∃ k, PySem.W.exmOne G.K (.ref C) (.ref (G.cl j)) = some k ∧ (k = true → ∀ a oe, denSs (G.suite a oe) s δ' S' noX F) ∧ (k = false → Y C fs δ' S')) F
 | .par i j es => fun δ S Y F => G.m0 = none ∧ dens G.toGm es δ S Y fun ds S1 => ∃ v w, ds = [v, w] ∧ F.nx ((δ.set i (some v)).set j (some w)) S1
 | .tri i j l es => fun δ S Y F => G.m0 = none ∧ dens G.toGm es δ S Y fun ds S1 => ∃ u v w, ds = [u, v, w] ∧ F.nx (((δ.set i (some u)).set j (some v)).set l (some w)) S1
 | .lck s => fun δ S Y F => ∃ a kvs, S a = some (.dic kvs) ∧ denS G s δ (S.set a (.loc kvs)) Y (F.unlock a kvs)
 | .nev => fun _ _ _ _ => False
def denSs (G : Gs) : RSs → RdS
 | .nil => fun δ S Y F => F.nx δ S
 | .cons s r => fun δ S Y F => denS G s δ S Y { F with nx := fun δ1 S1 => denSs G r δ1 S1 Y F }
 | .frz i r => fun δ S Y F => frzD i δ S fun δ1 S1 => denSs G r δ1 S1 Y F
 | .cut s r => fun δ S Y F => ∃ J : DS → SS → Prop, denS G s δ S Y { F with nx := J } ∧ ∀ δ1 S1, J δ1 S1 → denSs G r δ1 S1 Y F
end
/-! ### the check -/
def nlc : Expr → Bool
 | .ListComp _ _ _ _ => false | .SetComp _ _ _ _ => false | .DictComp _ _ _ _ _ => false | _ => true
def ntup : Expr → Bool
 | .Tuple _ _ _ => false | _ => true
/-- name = [..]: the swap is not made -/
def nswap (sc : Scope) (x e : Expr) : Bool := nlc e || (match x with
 | .Name y p => match sc.names.lookup y with
  | some .local => !(p.line == e.pos.line)
  | _ => true
 | .Tuple _ _ _ => true
 | _ => false)
/-- a pair of names of which one is no plain local: the stores are not swapped -/
def cellT (sc : Scope) : Expr → Bool
 | .Tuple [.Name y _, .Name z _] _ _ => !(decide (sc.names.lookup y = some .local) && decide (sc.names.lookup z = some .local))
 | .Tuple (_ :: _ :: _ :: _ :: _) _ _ => true
 | _ => false
mutual
def chkS (n : SN) (sc : Scope) : RS → Stmt → Bool
 | .exp e, x => match x with
  | .Expr v _ => nlc v && chk n sc e v
  | _ => false
 | .asg tg one e, x => match x with
  | .Assign [t] v _ => nswap sc t v && (one || ntup v || cellT sc t) && (chkTg n sc tg one t && chk n sc e v)
  | _ => false
 | .asl i e, x => match x with
  | .Assign [.Name y py] (.ListComp xe [⟨xt, xi, ifs, 0⟩] scope p) _ => match e with
   | .lc _ elt tg one it c own => nmB n.N i y && decide (sc.names.lookup y = some .local) && (py.line == p.line) && !(scope.names.any fun (m, k) => m == y && (k == .local || k == .cell)) &&
     (blkC n.N sc scope own && nsetd xi && chkI n sc it xi && (tg.all fun i => decide (i ∈ own.map (·.2))) && chkTg n scope tg one xt && chkC n scope c ifs && chk n scope elt xe && (!it.two || !one))
   | _ => false
  | _ => false
 | .sti a b c, x => match x with
  | .Assign [.Subscript l r _] v _ => nslice r && (chk n sc a l && (chk n sc b r && chk n sc c v))
  | _ => false
 | .stf a f c, x => match x with
  | .Assign [.Attribute l f' _] v _ => decide (f' = f) && (chk n sc a l && chk n sc c v)
  | _ => false
 | .agv i op e, x => match x with
  | .AugAssign (.Name y _) o v _ => nmB n.N i y && locB sc y && decide (o = op) && chk n sc e v
  | _ => false
 | .agi a b op e, x => match x with
  | .AugAssign (.Subscript l r _) o v _ => nslice r && decide (o = op) && (chk n sc a l && (chk n sc b r && chk n sc e v))
  | _ => false
 | .ifs c a b, x => match x with
  | .If t p q _ => chk n sc c t && (chkSs n sc a p && chkSs n sc b q)
  | _ => false
 | .fr tg one it b, x => match x with
  | .For t i p [] _ => nsetd i && chkTg n sc tg one t && (!it.two || !one) && (chkI n sc it i && chkSs n sc b p)
  | _ => false
 | .wh c b, x => match x with
  | .While t p [] _ => chk n sc c t && chkSs n sc b p
  | _ => false
 | .ret e, x => match x with
  | .Return (some v) _ => chk n sc e v
  | _ => false
 | .retN, x => match x with
  | .Return none _ => true
  | _ => false
 | .brk, x => match x with
  | .Break _ => true
  | _ => false
 | .cnt, x => match x with
  | .Continue _ => true
  | _ => false
 | .pas, x => match x with
  | .Pass _ => true
  | .Expr (.Constant (.str _) _ _) _ => true
  | _ => false
 | .rai j es, x => match x with
  | .Raise (some (.Call (.Name y _) xs [] _)) none _ => nmB n.cls j y && glB sc y && chks n sc es xs
  | _ => false
 | .tra b j i s, x => match x with
  | .Try p [.ExceptHandler (some (.Name y _)) (some m) (q :: qs) _] [] [] _ => nmB n.cls j y && glB sc y && nmB n.N i m && decide (sc.names.lookup m = some .local) && (chkSs n sc b p && chkSs n sc s (q :: qs))
  | _ => false
 | .tro b j s, x => match x with
  | .Try p [.ExceptHandler (some (.Name y _)) none (q :: qs) _] [] [] _ => nmB n.cls j y && glB sc y && (chkSs n sc b p && chkSs n sc s (q :: qs))
  | _ => false
 | .par i j es, x => match x with
  | .Assign [.Tuple [.Name y py, .Name z pz] _ _] (.Tuple [a, b] _ _) _ => nmB n.N i y && nmB n.N j z && decide (i ≠ j) && decide (sc.names.lookup y = some .local) && decide (sc.names.lookup z = some .local) && (py.line == pz.line) && decide ((y == z) = false) && nstar a && nstar b &&
    !([a, b].all (foldedForSure 8)) && !([a, b].all (constantsAlone 8)) && chks n sc es [a, b]
  | _ => false
 | .tri i j l es, x => match x with
  | .Assign [.Tuple [.Name x px, .Name y py, .Name z pz] _ _] (.Tuple [a, b, c] _ _) _ => (nmB n.N i x && nmB n.N j y && nmB n.N l z && decide (i ≠ j) && decide (i ≠ l) && decide (j ≠ l)) && (decide (sc.names.lookup x = some .local) && decide (sc.names.lookup y = some .local) && decide (sc.names.lookup z = some .local)) && ((px.line == py.line) && (px.line == pz.line) && decide ([x, y, z].eraseDups = [x, y, z])) && (nstar a && nstar b && nstar c) &&
    !([a, b, c].all (foldedForSure 8)) && !([a, b, c].all (constantsAlone 8)) && chks n sc es [a, b, c]
  | _ => false
 | .lck s, x => chkS n sc s x
 | .nev, _ => true
def chkSs (n : SN) (sc : Scope) : RSs → List Stmt → Bool
 | .nil, xs => xs.isEmpty
 | .cons s r, xs => match xs with
  | x :: xs => chkS n sc s x && chkSs n sc r xs
  | [] => false
 | .frz _ r, xs => chkSs n sc r xs
 | .cut s r, xs => match xs with
  | x :: xs => chkS n sc s x && chkSs n sc r xs
  | [] => false
end
end Sv
/-! Sv11: errors are made. -/
namespace Sv
open PySem PySem.Spec PyProof.Rows L2
open L2H (RoomH)
/-- what C's own __init__(self, y) does: self.f = y -/
def spI (C : Addr) (f : Str) : SpM := fun m vs H Q E => ∃ a y, vs = [V.ref a, y] ∧ H a = some (exo a C none) ∧ ∀ dx, H dx = none → dx ≠ a → Q .non (upd (upd H dx (exd dx [(f, y)])) a (exo a C (some dx)))
def tMkF (C : Addr) (f : Str) (ta : TA) : L2.St → Hp → XK → Prop := fun σ H Q => ta σ H fun vs H1 => ∃ y, vs = [y] ∧ ∀ dx, H1 dx = none → Q (.ref C) (some dx) (upd H1 dx (.xd [(f, y)]))
/-- the frame of an error's making shields nothing -/
theorem make_handled {A : Around} {C : Addr} {us : List Value} {kw : List (Str × Value)} : (A.under (.builtin "type.__call__" ⟨.ref C :: us, kw⟩)).handled = A.handled := rfl
/-- the abstract heap behind the making: the error let go, its dict laid -/
theorem lay_dict {H : Hp} {a d : Addr} {o o' u v : HO} (fresh : H a = none) : upd (del (upd (upd (upd H a o) d u) a o') a) d v = upd H d v := by
 funext b
 simp only [upd, del]
 split
 ·rfl
 ·split
  ·rename_i e; rw [e, fresh]
  ·rfl
section
variable {X : Cx} {C fI : Addr} {x f : Str} {e : Expr} {es : List Expr} {p pos : Pos} {ta : TA}
/-- what __init__ promises is what the making asks for -/
theorem init_meets {H : Hp} {a : Addr} {y : V} {Q : XK} (fresh : H a = none) (want : ∀ d, H d = none → Q (.ref C) (some d) (upd H d (.xd [(f, y)]))) :
  spI C f none [.ref a, y] (upd H a (exo a C none)) (fun v H2 => v = .non ∧ ∃ d fs, H2 a = some (exo a C (some d)) ∧ H2 d = some (exd d fs) ∧ H d = none ∧ Q (.ref C) (some d) (upd (del H2 a) d (.xd fs))) fun _ _ _ => False := by
 refine ⟨a, y, rfl, upd_same, fun d free apart => ?_⟩
 have free' : H d = none := by simpa only [upd, if_neg apart] using free
 refine ⟨rfl, d, [(f, y)], upd_same, ?_, free', ?_⟩
 ·simp only [upd, if_neg apart, if_true]
 ·rw [lay_dict fresh]
  exact want d free'
/-- C(e, ..) of a class whose own __init__ keeps its argument as a field -/
theorem pmk_fld {kI : Nat} {fd : FuncData} {ps : List Str} (T : OexC X.K C) (own : PySem.W.findIn X.K (.ref C) "__init__" = some (some (.ref fI))) (isFn : PySem.W.typeIn X.K (.ref fI) = some (.type "function")) (F : FnG X.prog X.w X.K X.mg X.base false kI fI fd ps (spI C f))
  (room : RoomH (kI + 1) X.A) (md : ModeC X none) (binds : L2.Binds X.K fd ps []) (gl : Gl X x) (at_x : X.mg x = some (.ref C)) (args : PA X (e :: es) ta) (db : (x == ("__debug__" : Str)) = false)
  (plain : starEach (e :: es) X.env = (false, eval e X.env) :: starEach es X.env) (rest : (backTo pos (starEach es X.env)).any (·.1) = false) : L2N.PMk X (.Call (.Name x p) (e :: es) [] pos) (tMkF C f ta) := by
 intro pins s σ H Q I want
 have ⟨_, _, _, _, bm, _, _, _, _, _, _, _, _, _, _, at_C, roots⟩ := T.cls
 apply wpAny_Call_Name_kw (ld_glob I gl at_x ?_ db)
 apply PySem.W.callWith_K (h₀ := X.base) I.ok.mod.kin T.kC ?_ plain rest
 apply thn (args.run pos pins s σ H _ I want)
 rintro us ⟨hp, gs, dr, tk, os⟩ ⟨_, H1, J, rv, y, rfl, wish⟩
 refine ⟨J.kIn, wpAny_call ?_⟩
 have one : us.length = 1 := rv.length.symm
 have young : H1 (hp.objs.size + 1) = none := J.hok.fresh (Nat.le_succ hp.objs.size)
 have grows : ∀ b o, hp.get? b = some o → ((hp.push (PySem.W.kdv_tup us)).push (PySem.HandSPX.excO C hp.objs.size)).get? b = some o := fun _ _ z => Heap.get?_push_of_some _ (Heap.get?_push_of_some _ z)
 have J' := J.laid (t' := tk) grows (Nat.le_succ hp.objs.size) (exo_ok (P := X.prog) (w := X.w) (H := upd H1 _ _) (e := hp.objs.size + 1) (C := C) (d := none) (t1 := hp.objs.size) (by heap_get))
 have asked := init_meets (Q := Q) young wish
 have given : Vals [.ref (hp.objs.size + 1), y] (.ref (hp.objs.size + 1) :: us) := .cons rfl rv
 have bound := binds ⟨_, gs, dr, tk, os⟩ (.ref (hp.objs.size + 1) :: us) J'.kIn (by rw [List.append_nil, ← given.length]; exact F.len _ _ _ _ _ rfl asked)
 rw [List.append_nil] at bound
 have inner := F.run _ X.stack _ _ ⟨.ref (hp.objs.size + 1) :: us, []⟩ _ _ _ _ none rfl (room.make C us []) ⟨md.1, make_handled.trans (J'.ok.hd md.2)⟩ (J'.env0.make C us []) bound given asked
 refine PySem.HandSPX.call_own PySem.F.excBase_ValueError (fun n => PySem.HandSPX.refsVE_contains n bm roots) (J.kIn _ _ at_C) (PySem.W.looks_findIn J.kIn own) (fun o => PySem.W.bind_fn J.kIn o isFn) (by show us.length ≤ _; rw [one, sizeLine_eq]; decide) (codeAny_mono inner ?_)
 rintro (er | fl) ⟨h2, g2, d2, t2, os2⟩ told
 ·have ⟨_, _, _, _, _, _, _, _, _, _, _, _, never⟩ := told
  exact never.elim
 ·cases fl with
  | ret u =>
   obtain ⟨_, H2, sameOs, bare, un, hok, rel, rfl, d, fs, at_e, at_d, free, done⟩ := told
   have ⟨_, G, JG, keeps, away, lies, off⟩ := mk_end0 (d2 := d2) (t2 := t2) J (Nat.le_succ _) grows un hok sameOs bare at_e at_d free
   exact ⟨rel, _, _, _, ⟨G, g2, d2, t2, os2⟩, _, .ref C, some d, rfl, JG, keeps, away, lies, ⟨rfl, rfl, fun _ z => by cases z; rfl⟩, rfl, rfl, off, rfl, bare, raises_own T.exC T.tyC, done⟩
  | _ => exact told.elim
/-- X() of a class without own __init__ -/
theorem pmk_bare {bmB : List Value} {B newId initId : String} (base : ExcBaseFacts B newId initId bmB) (isExc : PySem.W.excIn X.K C bmB newId = true) (kept : PySem.W.keepIn X.K (.ref C) = true) (raises : Raises X (.ref C)) (gl : Gl X x) (at_x : X.mg x = some (.ref C)) (db : (x == ("__debug__" : Str)) = false) :
  L2N.PMk X (.Call (.Name x p) [] [] pos) fun _ H Q => Q (.ref C) none H := fun _ _ _ _ _ I want =>
 have ⟨_, _, _, _, _, _, _, _, _, _, _, _, _, _, _, _, _, at_C, names, noInit, tail⟩ := exc_obj I.kIn isExc
 wpAny_Call_Name_kw (ld_glob I gl at_x (PySem.W.callWith_K0 I.kIn kept (wpAny_call_exc_subT base tail at_C names noInit (fun _ _ new => L2N.mk_of I new raises want (I.hok.gone new.new)) (Nat.zero_le _))) db)
/-- B.__init__(self, ..), B an own class that has ValueError's -/
theorem pe_binit {B : Addr} {z : Str} {p1 p2 : Pos} {pl : Sem Bool} (gl : Gl X z) (at_z : X.mg z = some (.ref B)) (db : (z == ("__debug__" : Str)) = false) (reads : PySem.W.readsIn X.K B (.type "type") = true) (plainGa : PySem.W.specialIn X.K (.ref B) "__getattribute__" = some (some (.builtin "type.__getattribute__")))
  (found : PySem.W.findCls X.K (.ref B) (.type "type") "__init__" = some (.val (.builtin "ValueError.__init__"))) (args : PA X (e :: es) ta)
  (form : eval (.Call (.Attribute (.Name z p1) "__init__" p2) (e :: es) [] pos) X.env = (do let ov ← eval (.Name z p1) X.env; standAt p2.atName; let (g, first) ← holding [ov] (getMethod ov "__init__" pl); callWith pos g first (backTo pos (starEach (e :: es) X.env)) (backToKw pos (keywordEach [] X.env))))
  (plain : starEach (e :: es) X.env = (false, eval e X.env) :: starEach es X.env) (rest : (backTo pos (starEach es X.env)).any (·.1) = false) : PE X (.Call (.Attribute (.Name z p1) "__init__" p2) (e :: es) [] pos) (tVeI X.K ta) where
 run pins s σ H Q I want := by
  apply PySem.W.methodCall_KW (ld_glob I gl at_z (PySem.W.method_cls I.kIn plainGa (PySem.W.cls_value I.kIn reads found (by decide +kernel) ?_)) db) form
  apply PyProof.Rows.callWith_method1 (first := []) ?_ plain rest
  apply thn (args.run pos pins _ σ H _ (I.tok _) want)
  rintro _ _ ⟨_, H1, J, rv, a, C, ws, rfl, few, T, at_a, q⟩
  cases rv with
  | cons r0 r1 =>
   cases r0
   exact oinit_ok T J at_a (by rw [← Paired.length r1, sizeLine_eq]; omega) fun _ J' => ⟨.non, H1, J', rfl, q⟩
end
end Sv
/-! Sv12: method calls' form; an error's own __init__. -/
namespace Sv
open PySem PySem.Spec PyProof.Rows L2
open L2H (RoomH)
/-- what the written part says of the base class of the errors -/
structure BasF (K : PySem.W.Frag) (B : Addr) : Prop where
 rd : PySem.W.readsIn K B (.type "type") = true
 ga : PySem.W.specialIn K (.ref B) "__getattribute__" = some (some (.builtin "type.__getattribute__"))
 vV : PySem.W.findCls K (.ref B) (.type "type") "__init__" = some (.val (.builtin "ValueError.__init__"))
/-- def __init__(self, y): B.__init__(self, '..'); self.f = y -/
def initB (N : List Str) (scope : Scope) (f : Str) (body : List Stmt) (z : Str) : Bool := match body with
 | [.Expr (.Call (.Attribute (.Name z' _) m ap) [.Name s1 _, .Constant (.str _) _ _] [] cp) _, .Assign [.Attribute (.Name s2 _) f' _] (.Name y _) _] =>
  nmB N 0 s1 && nmB N 0 s2 && nmB N 1 y && visB scope s1 && visB scope s2 && visB scope y && decide (z' = z) && glB scope z && decide ((z == ("__debug__" : Str)) = false) && decide (m = ("__init__" : Str)) && decide (f' = f) && (ap.endLine == cp.line) && decide (N.length = 2) && decide (z ≠ ("super" : Str))
 | _ => false
theorem fn_init {P : Program} {w : World} {K : PySem.W.Frag} {mg : Str → Option Value} {base : Heap} {k : Nat} {f : Addr} {name qual : Str} {params : Arguments} {body : List Stmt} {scope : Scope} {dV kV doc pm cdv ct oc : Value} {an od : Option Addr}
  {osl : Array (Option Value)} {N : List Str} {C B : Addr} {z fl : Str} (lk : K.lookup f = some ⟨oc, od, .func (PySem.W.fnOf name qual params body scope dV kV doc pm an cdv ct), osl⟩) (hcd : PySem.W.codeIn K cdv qual = true) (S : FnScope N N scope)
  (hb : initB N scope fl body z = true) (hz : mg z = some (.ref B)) (bf : BasF K B) (T : OexC K C) (no : PySem.W.findIn K (.ref C) fl = some none) :
  FnG P w K mg base false (k + 1) f (PySem.W.fnOf name qual params body scope dV kV doc pm an cdv ct) N (spI C fl) := by
 unfold initB at hb
 split at hb
 ·rename_i z' p1 m ap s1 p2 j0 j1 j2 cp p3 s2 p4 f' p5 y p6 p7
  simp only [Bool.and_eq_true, decide_eq_true_eq] at hb
  obtain ⟨⟨⟨⟨⟨⟨⟨⟨⟨⟨⟨⟨⟨n1, n2⟩, n3⟩, v1⟩, v2⟩, v3⟩, rfl⟩, g1⟩, d1⟩, rfl⟩, rfl⟩, ln⟩, l2⟩, ns⟩ := hb
  refine fn_ofM lk hcd S (fun m vs H Q E _ h => ?_) fun A outer s H vs Q E m hm hM hr hsp => ?_
  ·obtain ⟨a, y0, rfl, _⟩ := h
   rw [l2]; rfl
  ·have hm0 : m = none := by cases m with | none => rfl | some _ => cases hm
   subst hm0
   obtain ⟨a, y0, rfl, ha, q⟩ := hsp
   have pv : ∀ {x : Str} {i : Nat} {p : Pos}, nmB N i x = true → visB scope x = true → PE (cxM P w K mg base N qual scope f cdv A outer s H E none) (.Name x p) (tVar i) := fun {x i p} h1 h2 => pe_var (nmB_ok h1).1 (visB_ok h2) (nmB_ok h1).2.1 (nmB_ok h1).2.2
   refine ⟨_, pss_cons (ps_expr (pe_binit (B := B) (show Gl _ z' from glB_ok g1) hz d1 bf.rd bf.ga bf.vV (pa_cons (pv n1 v1) (pa_cons pe_str pa_nil rfl) rfl) (meth_eq (by simpa [nsup] using fun _ => ns) rfl (by show 2 < 30; decide) ln) rfl rfl) rfl) (pss_one (ps_ost (pv n2 v2) (pv n3 v3) rfl)), ?_⟩
   have e0 : (L2.start N [V.ref a, y0]) = [some (V.ref a), some y0] := by
    unfold L2.start
    rw [l2]; rfl
   rw [e0]
   refine ⟨V.ref a, rfl, ?_⟩
   refine ⟨a, C, _, rfl, (by show 1 ≤ 1000; decide), T, ha, ?_⟩
   refine ⟨y0, rfl, V.ref a, rfl, a, C, rfl, T, no, .inl ⟨ha, fun dx hd hne => q dx hd hne⟩⟩
 ·cases hb
end Sv
/-! Sv13: the check is sound: statements. -/
namespace Sv
open PySem PySem.Spec PyProof.Rows L2
open L2H (RoomH)
/-- how an error is made, by the row -/
inductive MkF (P : Program) (w : World) (K : PySem.W.Frag) (mg : Str → Option Value) (base : Heap) (k : Nat) (C : Addr) : XKd → Prop
 | fld {f : Str} {fI : Addr} {fd : FuncData} {ps : List Str} {kI : Nat} (T : OexC K C) (iC : PySem.W.findIn K (.ref C) "__init__" = some (some (.ref fI))) (tI : PySem.W.typeIn K (.ref fI) = some (.type "function")) (F : FnG P w K mg base false kI fI fd ps (spI C f)) (b : L2.Binds K fd ps []) (h : kI + 1 ≤ k) : MkF P w K mg base k C (.fld f)
 | bare {bmB : List Value} {B newId initId : String} (Fb : ExcBaseFacts B newId initId bmB) (q : PySem.W.excIn K C bmB newId = true) (kC : PySem.W.keepIn K (.ref C) = true) (e1 : PySem.W.subIn K (.ref C) (.type "BaseException") = some true) (e2 : PySem.W.typeIn K (.ref C) = some (.type "type")) : MkF P w K mg base k C .bare
structure XS (n : SN) (X : Cx) (G : Gs) (W : WX) (k : Nat) (sc : Scope) : Prop where
 xc : XC n X G.toGm W k sc
 esc : X.env.scope = sc
 fn : ∀ x, X.fn x = true
 stk : X.stack = X.env :: X.outer
 fr : X.env.frame = some X.env.locals
 xm : ∀ j x kd, G.xk j = some kd → n.cls[j]? = some x → MkF X.prog X.w X.K X.mg X.base k (G.cl j) kd
section
variable {n : SN} {X : Cx} {G : Gs} {W : WX} {k : Nat} {sc : Scope}
theorem XC.tr (c : XC n X G.toGm W k sc) {W' : WX} {pn : List (Addr × Obj)} {xe : Value → Shared → Prop} (hm : G.m0 = none) (tk : L2N.Takes (X.tr pn xe) W') (ps : PassesOwn (model X.prog X.w) X.A X.env xe) : XC n (X.tr pn xe) G.toGm W' k sc :=
 ⟨c.ok, c.N, ⟨c.sc.vis, c.sc.loc, c.sc.gl, c.sc.fr⟩, c.rm, by have := c.md; rw [hm] at this ⊢; exact this, tk, ps⟩
theorem XS.tr (c : XS n X G W k sc) {W' : WX} {pn : List (Addr × Obj)} {xe : Value → Shared → Prop} (hm : G.m0 = none) (tk : L2N.Takes (X.tr pn xe) W') (ps : PassesOwn (model X.prog X.w) X.A X.env xe) : XS n (X.tr pn xe) G W' k sc :=
 ⟨c.xc.tr hm tk ps, c.esc, c.fn, c.stk, c.fr, c.xm⟩
theorem GOk.suite {P : Program} {w : World} {K : PySem.W.Frag} {mg : Str → Option Value} {base : Heap} {G : Gm} {m : Option (Addr × Obj)} (h : GOk n P w K mg base G k) : GOk n P w K mg base { G with m0 := m } k :=
 ⟨h.K, h.nd, h.fn, h.meth, h.made, h.gv, h.cl, h.bt⟩
theorem XS.suite (c : XS n X G W k sc) {a : Addr} {oe : Obj} {pn : List (Addr × Obj)} {cls : Value} {d : Option Addr} (hz : L2N.Zn cls d oe) (hd : ∃ vs, oe.data = .fields vs) : XS n (X.suite a ((a, oe) :: pn)) (G.suite a oe) noW k sc :=
 ⟨⟨c.xc.ok.suite, c.xc.N, ⟨c.xc.sc.vis, c.xc.sc.loc, c.xc.sc.gl, c.xc.sc.fr⟩, ⟨c.xc.rm.dp, c.xc.rm.un⟩, by
   obtain ⟨vs, hv⟩ := hd
   exact ⟨c.xc.md.1, ⟨rfl, vs, hv, hz.2.2 vs hv⟩, List.mem_cons_self⟩, fun u s' ⟨_, _, _, _, _, _, _, _, _, _, _, _, _, _, _, _, z⟩ => z.elim, PassesOwn.never⟩,
  c.esc, c.fn, c.stk, c.fr, c.xm⟩
end
def SndS (n : SN) (sc : Scope) (s : RS) (x : Stmt) : Prop := ∀ X G W k, XS n X G W k sc → PS X x (LS G.toGd W (denS G s))
def SndSs (n : SN) (sc : Scope) (s : RSs) (x : List Stmt) : Prop := ∀ X G W k, XS n X G W k sc → PSs X x (LS G.toGd W (denSs G s))
theorem nlc_sw {e : Expr} {t : Option Expr} {l : Nat} {env : Env} (h : nlc e = true) : swapsWith e t l env = pure false := by
 cases e <;> first | rfl | cases h
section
variable {n : SN} {X : Cx} {G : Gs} {W : WX} {k : Nat} {sc : Scope} {pos : Pos}
theorem nswap_sw {t e : Expr} {l : Nat} (esc : X.env.scope = sc) (h : nswap sc t e = true) : swapsWith e (some t) l X.env = pure false := by
 unfold nswap at h
 rw [Bool.or_eq_true] at h
 rcases h with h | h
 ·exact nlc_sw h
 ·split at h
  ·rename_i y p
   have key : (X.env.blockKind == .function && X.env.kindOf y == some .local && p.line == e.pos.line) = false := by
    split at h
    ·have : (p.line == e.pos.line) = false := by simpa using h
     rw [this, Bool.and_false]
    ·rename_i hne
     have : (X.env.kindOf y == some .local) = false := by
      have e1 : X.env.kindOf y = sc.names.lookup y := by rw [← esc]; rfl
      rw [e1]
      exact Bool.eq_false_iff.mpr fun z => hne (eq_of_beq z)
     rw [this, Bool.and_false, Bool.false_and]
   unfold swapsWith
   cases e <;> first | rfl | (simp only [key, Bool.false_and]; done) | (simp only [key, Bool.false_and]; rfl)
  ·unfold swapsWith
   cases e <;> rfl
  ·cases h
theorem stores_none {t e : Expr} (h : ntup e = true) : swappedStores [t] e X.env = pure none := by
 unfold swappedStores
 cases t <;> cases e <;> first | rfl | cases h
theorem one_stores {t : Expr} {one : Bool} {tg : List Nat} (h : chkTg n sc tg one t = true) (ho : one = true) {e : Expr} : swappedStores [t] e X.env = pure none := by
 subst ho
 unfold chkTg at h
 rw [if_pos rfl] at h
 split at h
 ·unfold swappedStores; cases e <;> rfl
 ·cases h
theorem LS.mk' {s : RS} {x : Stmt} {t : TS} (h : PS X x t) (w : ∀ D σ H δ S Y F, Rel G.toGd S H δ σ → denS G s δ S Y F → ResS G.toGd S H F D → ResW G.toGd S H Y W → t D σ H) : PS X x (LS G.toGd W (denS G s)) :=
 PS.imp h fun D σ H q => by
  obtain ⟨δ, S, Y, F, R, ht, rs, rw'⟩ := q
  exact w D σ H δ S Y F R ht rs rw'
theorem stores_cell {t e : Expr} (esc : X.env.scope = sc) (h : cellT sc t = true) : swappedStores [t] e X.env = pure none := by
 unfold cellT at h
 split at h
 ·rename_i y py z pz kt pt
  have few : ([Expr.Name y py, .Name z pz].filterMap fun
   | .Name id pos => if X.env.kindOf id == some .local && pos.line == (Expr.Name y py).pos.line then some id else none
   | _ => none).length ≠ 2 := by
   have ky : X.env.kindOf y = sc.names.lookup y := by rw [← esc]; rfl
   have kz : X.env.kindOf z = sc.names.lookup z := by rw [← esc]; rfl
   simp only [List.filterMap_cons, List.filterMap_nil, ky, kz]
   rw [Bool.not_eq_true', Bool.and_eq_false_iff, decide_eq_false_iff_not, decide_eq_false_iff_not] at h
   rcases h with h | h
   ·have e : (sc.names.lookup y == some NameKind.local) = false := by rw [beq_eq_false_iff_ne]; exact h
    rw [e, Bool.false_and, if_neg Bool.false_ne_true]
    dsimp only
    split <;> simp
   ·have e : (sc.names.lookup z == some NameKind.local) = false := by rw [beq_eq_false_iff_ne]; exact h
    rw [e, Bool.false_and, if_neg Bool.false_ne_true]
    dsimp only
    split <;> simp
  unfold swappedStores
  cases e <;> first | rfl | skip
  dsimp only
  split
  ·rfl
  ·split
   ·rfl
   ·refine if_pos ?_
    rw [Bool.or_eq_true]
    left
    exact bne_iff_ne.mpr few
 ·rename_i a1 a2 a3 a4 r kt pt
  unfold swappedStores
  cases e <;> first | rfl | skip
 ·cases h
theorem assign_one {t : Expr} {one : Bool} {tg : List Nat} (h : chkTg n sc tg one t = true) : (assignEach [t] X.env).map (·.2) = [assign t X.env] := by
 unfold chkTg at h
 cases one with
 | true =>
  rw [if_pos rfl] at h
  split at h
  ·rfl
  ·cases h
 | false =>
  rw [if_neg Bool.false_ne_true] at h
  split at h
  ·rfl
  ·cases h
theorem ss_asg {tg : List Nat} {one : Bool} {e : RE} {t v : Expr} (c : XS n X G W k sc) (h1 : nswap sc t v = true) (h2 : (one || ntup v || cellT sc t) = true) (h3 : chkTg n sc tg one t = true) (he : PE X v (LE G.toGd W (den G.toGm e))) : PS X (.Assign [t] v pos) (LS G.toGd W (denS G (.asg tg one e))) := by
 by_cases hm : one = false → G.m0 = none
 ·have calm : one = false → X.calm = true := fun h => by
   have := c.xc.md
   rw [hm h] at this
   exact this.2
  have hw : swappedStores [t] v X.env = pure none := by
   cases one with
   | true => exact one_stores h3 rfl
   | false =>
    rw [Bool.false_or, Bool.or_eq_true] at h2
    rcases h2 with h2 | h2
    ·exact stores_none h2
    ·exact stores_cell c.esc h2
  refine LS.mk' (ps_asg he (pg_tg c.xc calm h3) (nswap_sw c.esc h1) hw (assign_one h3)) fun D σ H δ S Y F R ht rs rw' => ?_
  rw [denS] at ht
  refine ⟨δ, S, Y, _, R, ht.2, fun d S1 v1 H1 kk P cc r => ?_, rw'⟩
  rw [← c.xc.ok.K]
  exact gTg_rd (I := fun _ => True) (fun _ _ _ _ _ => trivial) kk r (R.mono P cc) trivial fun δ' σ' q R' _ => rs.nx δ' S1 σ' H1 q P R'
 ·refine LS.mk' ps_never fun D σ H δ S Y F R ht rs rw' => ?_
  rw [denS] at ht
  exact (hm ht.1).elim
theorem ss_exp {e : RE} {v : Expr} (h1 : nlc v = true) (he : PE X v (LE G.toGd W (den G.toGm e))) : PS X (.Expr v pos) (LS G.toGd W (denS G (.exp e))) :=
 LS.mk' (ps_expr he (nlc_sw h1)) fun D σ H δ S Y F R ht rs rw' => by
  rw [denS] at ht
  exact ⟨δ, S, Y, _, R, ht, fun d S1 v1 H1 kk P cc r => rs.nx δ S1 σ H1 kk P (R.mono P cc), rw'⟩
theorem ss_sti {a b e : RE} {l r v : Expr} {p1 : Pos} (c : XS n X G W k sc) (h2 : nslice r = true) (ha : PE X l (LE G.toGd W (den G.toGm a))) (hb : PE X r (LE G.toGd W (den G.toGm b))) (he : PE X v (LE G.toGd W (den G.toGm e))) :
  PS X (.Assign [.Subscript l r p1] v pos) (LS G.toGd W (denS G (.sti a b e))) := by
 have hst : swappedStores [.Subscript l r p1] v X.env = pure none := by unfold swappedStores; cases v <;> rfl
 have haa : ∀ v, assign (.Subscript l r p1) X.env v = (do
   let ov ← holding [v] (eval l X.env)
   let iv ← holding [v, ov] (eval r X.env)
   standAt p1
   holding [v, ov, iv] (setItem ov iv v)
   release [v, ov, iv] []) := by
  intro v
  cases r <;> first | rfl | cases h2
 refine LS.mk' (ps_asg he (pg_sub ha hb (setD_ok (g := G.toGd) (by have := c.xc.un; omega)) haa) (show swapsWith v (some (.Subscript l r p1)) pos.line X.env = pure false from by unfold swapsWith; cases v <;> rfl) hst rfl) fun D σ H δ S Y F R ht rs rw' => ?_
 rw [denS] at ht
 refine ⟨δ, S, Y, _, R, ht, fun z S1 v1 H1 kk P cc r1 => ?_, rw'⟩
 refine ⟨δ, S1, Y, _, R.mono P cc, kk, fun x S2 v2 H2 kk P2 cc2 r2 => ?_, rw'.mono P⟩
 refine ⟨δ, S2, Y, _, (R.mono P cc).mono P2 cc2, kk, fun y S3 v3 H3 kk P3 cc3 r3 => ?_, (rw'.mono P).mono P2⟩
 have P23 := P2.trans P3
 exact ⟨x, y, z, S3, _, cc3, r2.mono P3, r3, r1.mono P23, kk, fun S4 H4 q P4 cc4 => rs.nx δ S4 σ H4 q ((P.trans P23).trans P4) (R.mono ((P.trans P23).trans P4) cc4)⟩
theorem ss_stf {a e : RE} {l v : Expr} {f : Str} {p1 : Pos} (c : XS n X G W k sc) (ha : PE X l (LE G.toGd W (den G.toGm a))) (he : PE X v (LE G.toGd W (den G.toGm e))) :
  PS X (.Assign [.Attribute l f p1] v pos) (LS G.toGd W (denS G (.stf a f e))) := by
 refine LS.mk' (ps_fld ha he (by unfold swapsWith; cases v <;> rfl)) fun D σ H δ S Y F R ht rs rw' => ?_
 rw [denS] at ht
 refine ⟨δ, S, Y, _, R, ht, fun z S1 v1 H1 kk P cc r1 => ?_, rw'⟩
 refine ⟨δ, S1, Y, _, R.mono P cc, kk, fun x S2 v2 H2 kk P2 cc2 r2 => ?_, rw'.mono P⟩
 obtain ⟨p, C, fs, rfl, e1, cl, na, hl, q⟩ := kk
 cases rep_obj r2
 obtain ⟨dx, ws, hi, hf⟩ := cc2 _ _ e1
 rw [c.xc.ok.K] at cl na
 have P3 : Post S2 H2 (S2.set p (.ins C (putFD f z fs))) (upd H2 p (.ins C dx (putF f v1 ws))) := Post.write e1
 refine ⟨p, C, dx, ws, rfl, hi, cl, na, by rw [← lenF hf]; exact hl, rs.nx δ _ σ _ q ((P.trans P2).trans P3) (R.mono ((P.trans P2).trans P3) (cc2.write e1 ⟨dx, _, upd_same, (putF_rep (r1.mono P2) hf).mono P3⟩))⟩
theorem ss_agv {i : Nat} {op : Operator} {e : RE} {y : Str} {v : Expr} {p1 : Pos} (c : XS n X G W k sc) (h1 : nmB n.N i y = true) (h2 : locB sc y = true) (he : PE X v (LE G.toGd W (den G.toGm e))) : PS X (.AugAssign (.Name y p1) op v pos) (LS G.toGd W (denS G (.agv i op e))) := by
 refine LS.mk' (ps_aug c.xc.nd (c.xc.at h1) (c.xc.loc h2) he (augD_ok (g := G.toGd) op) (c.xc.sto h2)) fun D σ H δ S Y F R ht rs rw' => ?_
 rw [denS] at ht
 obtain ⟨x, ex, ht⟩ := ht
 obtain ⟨u, eu, ru⟩ := R.sl.at_ i x ex
 refine ⟨u, eu, δ, S, Y, _, R, ht, fun d S1 v1 H1 kk P cc r => ?_, rw'⟩
 exact ⟨x, d, S1, _, cc, ru.mono P, r, kk, fun z S2 v2 H2 q P2 cc2 r2 => rs.nx _ S2 _ H2 q (P.trans P2) ⟨(R.sl.mono (P.trans P2)).set r2, cc2⟩⟩
theorem ss_agi {a b e : RE} {op : Operator} {l r v : Expr} {p1 : Pos} (c : XS n X G W k sc) (h2 : nslice r = true) (ha : PE X l (LE G.toGd W (den G.toGm a))) (hb : PE X r (LE G.toGd W (den G.toGm b))) (he : PE X v (LE G.toGd W (den G.toGm e))) :
  PS X (.AugAssign (.Subscript l r p1) op v pos) (LS G.toGd W (denS G (.agi a b op e))) := by
 have hau : ∀ ov iv new, augStore r ov iv new = (do holding [new, ov, iv] (setItem ov iv new); release [new, ov, iv] []; pure .next) := by
  intro ov iv new
  cases r <;> first | rfl | cases h2
 have hu : X.A.units + 1 < cLine := by have := c.xc.un; omega
 refine LS.mk' (ps_augS ha hb (getD_ok (g := G.toGd) hu) he (augD_ok (g := G.toGd) op) (setD_ok (g := G.toGd) hu) hau) fun D σ H δ S Y F R ht rs rw' => ?_
 rw [denS] at ht
 refine ⟨δ, S, Y, _, R, ht, fun x S1 v1 H1 kk P cc r1 => ?_, rw'⟩
 refine ⟨δ, S1, Y, _, R.mono P cc, kk, fun y S2 v2 H2 kk P2 cc2 r2 => ?_, rw'.mono P⟩
 refine ⟨x, y, S2, _, cc2, r1.mono P2, r2, kk, fun u S3 v3 H3 kk P3 cc3 r3 => ?_⟩
 have Q3 := (P.trans P2).trans P3
 refine ⟨δ, S3, Y, _, R.mono Q3 cc3, kk, fun w S4 v4 H4 kk P4 cc4 r4 => ?_, rw'.mono Q3⟩
 refine ⟨u, w, S4, _, cc4, r3.mono P4, r4, kk, fun z S5 v5 H5 kk P5 cc5 r5 => ?_⟩
 have P35 := (P3.trans P4).trans P5
 refine ⟨x, y, z, S5, _, cc5, r1.mono (P2.trans P35), r2.mono P35, r5, kk, fun S6 H6 q P6 cc6 => rs.nx δ S6 σ H6 q (((Q3.trans P4).trans P5).trans P6) (R.mono (((Q3.trans P4).trans P5).trans P6) cc6)⟩
theorem ss_ifs {c0 : RE} {a b : RSs} {t : Expr} {p q : List Stmt} (ht : PT X t (LT G.toGd W (denT G.toGm c0))) (ha : PSs X p (LS G.toGd W (denSs G a))) (hb : PSs X q (LS G.toGd W (denSs G b))) : PS X (.If t p q pos) (LS G.toGd W (denS G (.ifs c0 a b))) := by
 refine LS.mk' (ps_if ht ha hb) fun D σ H δ S Y F R ht rs rw' => ?_
 rw [denS] at ht
 refine ⟨δ, S, Y, _, R, ht, fun b S1 H1 kk P cc => ?_, rw'⟩
 cases b with
 | true => exact ⟨δ, S1, Y, F, R.mono P cc, kk, rs.mono P, rw'.mono P⟩
 | false => exact ⟨δ, S1, Y, F, R.mono P cc, kk, rs.mono P, rw'.mono P⟩
theorem ss_wh {c0 : RE} {b : RSs} {t : Expr} {p : List Stmt} (c : XS n X G W k sc) (ht : PT X t (LT G.toGd W (denT G.toGm c0))) (hb : PSs X p (LS G.toGd W (denSs G b))) : PS X (.While t p [] pos) (LS G.toGd W (denS G (.wh c0 b))) := by
 refine LS.mk' (ps_while c.xc.ps ht hb) fun D σ H δ S Y F R ht rs rw' => ?_
 rw [denS] at ht
 obtain ⟨Iv, ⟨m0, i0⟩, step⟩ := ht
 refine ⟨fun m σ' H' => ∃ δ' S', Iv m δ' S' ∧ Post S H S' H' ∧ Rel G.toGd S' H' δ' σ', ⟨m0, δ, S, i0, Post.refl _ _, R⟩, ?_⟩
 rintro m σ1 H1 ⟨δ1, S1, iv, P1, R1⟩
 refine ⟨δ1, S1, Y, _, R1, step m δ1 S1 iv, fun b S2 H2 kk P2 cc2 => ?_, rw'.mono P1⟩
 have P12 := P1.trans P2
 cases b with
 | true =>
  refine ⟨fun σ' H' => ∃ m', m' < m ∧ ∃ δ' S', Iv m' δ' S' ∧ Post S H S' H' ∧ Rel G.toGd S' H' δ' σ', fun σ' H' q => q, ?_⟩
  have nx : ∀ δ' S' σ' H', (∃ m', m' < m ∧ Iv m' δ' S') → Post S2 H2 S' H' → Rel G.toGd S' H' δ' σ' → ∃ m', m' < m ∧ ∃ δ' S', Iv m' δ' S' ∧ Post S H S' H' ∧ Rel G.toGd S' H' δ' σ' := fun δ' S' σ' H' ⟨m', hm, q⟩ P' R' => ⟨m', hm, δ', S', q, P12.trans P', R'⟩
  exact ⟨δ1, S2, Y, _, R1.mono P2 cc2, kk, ⟨nx, rs.rt.mono P12, fun δ' S' σ' H' q P' R' => rs.nx δ' S' σ' H' q (P12.trans P') R', nx⟩, rw'.mono P12⟩
 | false => exact rs.nx δ1 S2 σ1 H2 kk P12 (R1.mono P2 cc2)
theorem ss_fr {tg : List Nat} {one : Bool} {it : RI} {b : RSs} {t i : Expr} {p : List Stmt} (c : XS n X G W k sc) (h1 : nsetd i = true) (h2 : chkTg n sc tg one t = true) (h3 : (!it.two || !one) = true) (hI : SndI n sc it i) (hb : PSs X p (LS G.toGd W (denSs G b))) : PS X (.For t i p [] pos) (LS G.toGd W (denS G (.fr tg one it b))) := by
 by_cases hm : G.m0 = none
 ·have md : ModeC X none := by have := c.xc.md; rw [hm] at this; exact this
  have calm : X.calm = true := md.2
  refine LS.mk' (ps_for c.xc.ps calm (hI X G.toGm W k t c.xc hm (tup_tg h2 h3)) (pg_tg c.xc (fun _ => calm) h2) hb (fun x => nsetf_ok h1 x)) fun D σ H δ S Y F R ht rs rw' => ?_
  rw [denS] at ht
  refine ⟨δ, S, Y, _, R, ht.2, fun ds ok S1 H1 J hk P1 c1 io => ?_, rw'⟩
  obtain ⟨Iv, i0, hok, step, last⟩ := hk
  refine ⟨fun i m σ' H' => m = ds.length - i ∧ i ≤ ds.length ∧ ∃ δ' S', Iv i δ' S' ∧ Post S1 H1 S' H' ∧ Rel G.toGd S' H' δ' σ', ⟨_, rfl, Nat.zero_le _, δ, S1, i0, Post.refl _ _, R.mono P1 c1⟩, ?_⟩
  rintro i m σ' H' ⟨rfl, hi, δ', S', iv, P', R'⟩
  have ok' := hok i δ' S' iv hi
  by_cases hlt : i < ds.length
  ·refine .inr ⟨io.go i S' H' hlt P' R'.ce ok', fun σ2 H2 => i + 1 ≤ ds.length ∧ ∃ δ' S', Iv (i + 1) δ' S' ∧ Post S1 H1 S' H2 ∧ Rel G.toGd S' H2 δ' σ2, fun σ2 H2 q => ⟨_, by omega, rfl, q⟩, fun x H2 y => ?_⟩
   obtain ⟨P2, c2, r2⟩ := io.yl i S' H' x H2 ds[i] (by simp) P' R'.ce ok' y
   have hstep := step i ds[i] δ' S' (by simp) iv
   rw [← c.xc.ok.K]
   refine gTg_rd (I := fun _ => True) (fun _ _ _ _ _ => trivial) hstep r2 (R'.mono P2 c2) trivial fun δ3 σ3 hq R3 _ => ?_
   have P12 := P'.trans P2
   have nx : ∀ δ4 S4 σ4 H4, Iv (i + 1) δ4 S4 → Post S' H2 S4 H4 → Rel G.toGd S4 H4 δ4 σ4 → i + 1 ≤ ds.length ∧ ∃ δ' S', Iv (i + 1) δ' S' ∧ Post S1 H1 S' H4 ∧ Rel G.toGd S' H4 δ' σ4 := fun δ4 S4 σ4 H4 q P4 R4 => ⟨hlt, δ4, S4, q, P12.trans P4, R4⟩
   exact ⟨δ3, S', Y, _, R3, hq, ⟨nx, (rs.rt.mono P1).mono P12, fun δ4 S4 σ4 H4 q P4 R4 => rs.nx δ4 S4 σ4 H4 q (P1.trans (P12.trans P4)) R4, nx⟩, (rw'.mono P1).mono P12⟩
  ·have e : i = ds.length := by omega
   subst e
   exact .inl ⟨io.st _ S' H' (Nat.le_refl _) P' R'.ce ok', rs.nx δ' S' σ' H' (last δ' S' iv) (P1.trans P') R'⟩
 ·refine LS.mk' ps_never fun D σ H δ S Y F R ht rs rw' => ?_
  rw [denS] at ht
  exact (hm ht.1).elim
theorem ss_ret {e : RE} {v : Expr} (he : PE X v (LE G.toGd W (den G.toGm e))) : PS X (.Return (some v) pos) (LS G.toGd W (denS G (.ret e))) :=
 LS.mk' (ps_ret he) fun D σ H δ S Y F R ht rs rw' => by
  rw [denS] at ht
  exact ⟨δ, S, Y, _, R, ht, rs.rt, rw'⟩
theorem ss_rai {j : Nat} {es : RL} {y : Str} {xs : List Expr} {p1 p2 : Pos} (c : XS n X G W k sc) (h1 : nmB n.cls j y = true) (h2 : glB sc y = true) (hL : SndL n sc es xs) : PS X (.Raise (some (.Call (.Name y p1) xs [] p2)) none pos) (LS G.toGd W (denS G (.rai j es))) := by
 by_cases hm : G.m0 = none
 ·have md : ModeC X none := by have := c.xc.md; rw [hm] at this; exact this
  have calm : X.calm = true := md.2
  cases hx : G.xk j with
  | none =>
   refine LS.mk' ps_never fun D σ H δ S Y F R ht rs rw' => ?_
   rw [denS] at ht
   obtain ⟨_, kd, e, _⟩ := ht
   rw [hx] at e; cases e
  | some kd =>
   have M := c.xm j y kd hx (nmB_ok h1).1
   have hcl := c.xc.ok.cl j y (nmB_ok h1).1
   have hs := hL.st
   have ha := hL.a X G.toGm W k c.xc
   have ar : ∀ {δ S Y F}, denS G (.rai j es) δ S Y F → es.len = kd.ar := fun {δ S Y F} q => by
    rw [denS] at q
    obtain ⟨_, kd', e, q, _⟩ := q
    rw [hx] at e; cases e
    exact q
   have un : ∀ {δ S Y F}, denS G (.rai j es) δ S Y F → dens G.toGm es δ S Y fun ds S1 => ∃ fs, mkX kd ds = some fs ∧ Y (G.cl j) fs δ S1 := fun {δ S Y F} q => by
    rw [denS] at q
    obtain ⟨_, kd', e, _, q⟩ := q
    rw [hx] at e; cases e
    exact q
   cases M with
   | @fld f fI fd ps kI T iC tI Fn b hk =>
    cases xs with
    | nil =>
     refine LS.mk' ps_never fun D σ H δ S Y F R ht rs rw' => ?_
     have q := un ht
     rw [hL.nl rfl, dens] at q
     obtain ⟨fs, e, _⟩ := q
     cases e
    | cons z zs =>
     rw [List.all_cons, Bool.and_eq_true] at hs
     refine LS.mk' (L2N.ps_raise calm c.xc.tk (pmk_fld T iC tI Fn ⟨by have := c.xc.rm.dp; omega, by have := c.xc.rm.un; omega⟩ md b (c.xc.gl h2) hcl ha (nmB_ok h1).2.1 (nstar_ok hs.1) (stars_any hs.2))) fun D σ H δ S Y F R ht rs rw' => ?_
     refine ⟨δ, S, Y, _, R, un ht, fun ds S1 vs H1 kk P cc r => ?_, rw'⟩
     obtain ⟨fs, e, q⟩ := kk
     match ds, e, r with
     | [d], e, r =>
      cases e
      obtain ⟨v, rfl, rv⟩ := reps_one r
      refine ⟨v, rfl, fun dx hd => ?_⟩
      have P2 : Post S1 H1 S1 (upd H1 dx (.xd [(f, v)])) := Post.new hd
      refine rw' _ _ _ _ _ _ _ q (P.trans P2) (R.mono (P.trans P2) (cc.new hd)) (.inr ⟨dx, _, rfl, cc.free hd, upd_same, ?_⟩)
      simp only [RepF]
      exact ⟨v, [], rfl, rv.mono P2, rfl⟩
   | bare Fb q0 kC e1 e2 =>
    cases xs with
    | nil =>
     refine LS.mk' (L2N.ps_raise calm c.xc.tk (pmk_bare Fb q0 kC (raises_own e1 e2) (c.xc.gl h2) hcl (nmB_ok h1).2.1)) fun D σ H δ S Y F R ht rs rw' => ?_
     have q := un ht
     rw [hL.nl rfl, dens] at q
     obtain ⟨fs, e, q⟩ := q
     cases e
     exact rw' _ _ _ _ _ _ _ q (Post.refl _ _) R (.inl ⟨rfl, rfl⟩)
    | cons z zs =>
     refine LS.mk' (ps_never) fun D σ H δ S Y F R ht rs rw' => ?_
     have e1 := ar ht
     have e2 := hL.ne
     rw [e1] at e2
     cases e2
 ·refine LS.mk' ps_never fun D σ H δ S Y F R ht rs rw' => ?_
  rw [denS] at ht
  exact (hm ht.1).elim
theorem ss_asl {i : Nat} {cell : Bool} {elt : RE} {cnd : RO} {tg : List Nat} {one : Bool} {it : RI} {own : List (Str × Nat)} {xe xt xi : Expr} {ifs : List Expr} {scope : Scope} {y : Str} {py p : Pos} (c : XS n X G W k sc) (h0 : nmB n.N i y = true) (hl : sc.names.lookup y = some .local)
  (hp : (py.line == p.line) = true) (hna : (scope.names.any fun (m, k) => m == y && (k == .local || k == .cell)) = false) (hb : blkC n.N sc scope own = true) (hsd : nsetd xi = true) (hI : SndI n sc it xi)
  (htg : (tg.all fun i => decide (i ∈ own.map (·.2))) = true) (hct : chkTg n scope tg one xt = true) (h7 : (!it.two || !one) = true) (hcnd : ∀ X G W k, XC n X G W k scope → PTs X ifs (LT G.toGd W (denC G cnd))) (he : ∀ X G W k, XC n X G W k scope → PE X xe (LE G.toGd W (den G elt))) :
  PS X (.Assign [.Name y py] (.ListComp xe [⟨xt, xi, ifs, 0⟩] scope p) pos) (LS G.toGd W (denS G (.asl i (.lc cell elt tg one it cnd own)))) := by
 by_cases hm : G.m0 = none
 ·have md : ModeC X none := by have := c.xc.md; rw [hm] at this; exact this
  have calm : X.calm = true := md.2
  have hyl : X.env.scope.names.lookup y = some .local := by rw [c.esc]; exact hl
  have bo : BlkOk X.N X.env.scope scope own := by
   have h := blkOk_by hb
   exact ⟨h.kind, h.uniq, fun p hp => c.xc.N ▸ h.ix p hp, fun y hy e => c.xc.sc.fr _ (h.free y hy e), fun y hy e => c.xc.N ▸ h.own y hy e⟩
  have kf : X.env.scope.kind = .function ∨ True := .inr trivial
  refine ⟨fun pins s σ H D I hh => ?_⟩
  have kfun := I.ok.kind
  refine (LS.mk' (ps_setLc (wi := LI G.toGd W (denI G.toGm it)) (g := gTg X.K tg one) (tt := LT G.toGd noW (denC G.toGm cnd)) (te := LE G.toGd noW (den G.toGm elt)) calm c.xc.nd (c.xc.at h0) hyl (sw_true kfun hyl hp hna) (hI X G.toGm W k xt c.xc hm (tup_tg hct h7)) bo (fun s H C cl fp => pg_tg (c.xc.blk hm) (fun _ => calm) hct) (fun s H C cl fp => hcnd _ G.toGm noW k (c.xc.blk hm)) (fun s H C cl fp => he _ G.toGm noW k (c.xc.blk hm)) (fun x => nsetf_ok hsd x)) fun D σ H δ S Y F R ht rs rw' => ?_).run pins s σ H D I hh
  rw [denS] at ht
  have h : LE G.toGd W (den G.toGm (.lc cell elt tg one it cnd own)) σ H (fun v H1 => D.nx (σ.set i (some v)) H1) := ⟨δ, S, Y, _, R, ht, fun d S1 v H1 q P cc r => rs.nx _ S1 _ H1 q P ⟨(R.sl.mono P).set r, cc⟩, rw'⟩
  exact lc_rd c.xc.ok.K htg h
 ·refine LS.mk' ps_never fun D σ H δ S Y F R ht rs rw' => ?_
  rw [denS, den] at ht
  exact (hm ht.1).elim
theorem ss_tra {b s : RSs} {j i : Nat} {y m : Str} {p1 p2 : Pos} {p qs : List Stmt} {q : Stmt} (c : XS n X G W k sc) (h1 : nmB n.cls j y = true) (h2 : glB sc y = true) (h3 : nmB n.N i m = true) (hl : sc.names.lookup m = some .local) (hb : SndSs n sc b p) (hs : SndSs n sc s (q :: qs)) :
  PS X (.Try p [.ExceptHandler (some (.Name y p1)) (some m) (q :: qs) p2] [] [] pos) (LS G.toGd W (denS G (.tra b j i s))) := by
 by_cases hm : G.m0 = none
 ·have hcl := c.xc.ok.cl j y (nmB_ok h1).1
  have hln : X.env.kindOf m = some .local := by show X.env.scope.names.lookup m = _; rw [c.esc]; exact hl
  refine LS.mk' (L2N.ps_try_as (tb := fun W' => LS G.toGd W' (denSs G b)) (ts := fun a cls d => fun D σ H => ∀ oe, L2N.Zn cls d oe → (∃ vs, oe.data = .fields vs) → LS G.toGd noW (denSs (G.suite a oe) s) D σ H) c.stk c.fr c.xc.nd (c.xc.at h3) hln ⟨c.xc.gl h2, (nmB_ok h1).2.1, .inl hcl⟩ c.xc.tk
   (fun W' pn xe tk ps => hb _ G W' k (c.tr hm tk ps))
   (fun a oe cls d pn hz hf => PSs.imp (hs _ (G.suite a oe) noW k (c.suite hz hf)) fun D σ H q => q oe hz hf)) fun D σ H δ S Y F R ht rs rw' => ?_
  rw [denS] at ht
  refine ⟨δ, S, _, F, R, ht.2, rs, fun C fs δ' S' d σ' H' hy P R' hx => ?_⟩
  obtain ⟨kb, e1, e2, e3⟩ := hy
  refine ⟨kb, by rw [← c.xc.ok.K]; exact e1, fun hk a na oe hz hf => ?_, fun hk => rw' C fs δ' S' d σ' H' (e3 hk) P R' hx⟩
  have R2 : Rel G.toGd S' H' (δ'.set i (some (.exc a oe C fs))) (σ'.set i (some (.ref a))) := ⟨R'.sl.set (by
   simp only [Rep]
   exact ⟨d, trivial, ⟨hz.zc, hf⟩, hx⟩), R'.ce⟩
  refine ⟨_, S', noX, _, R2, e2 hk a oe, ?_, fun _ _ _ _ _ _ _ z => z.elim⟩
  exact ⟨fun δ2 S2 σ2 H2 q P2 R3 => rs.nx _ S2 _ H2 q (P.trans P2) ⟨R3.sl.setN, R3.ce⟩, rs.rt.mono P, fun δ2 S2 σ2 H2 q P2 R3 => rs.bk _ S2 _ H2 q (P.trans P2) ⟨R3.sl.setN, R3.ce⟩, fun δ2 S2 σ2 H2 q P2 R3 => rs.ct _ S2 _ H2 q (P.trans P2) ⟨R3.sl.setN, R3.ce⟩⟩
 ·refine LS.mk' ps_never fun D σ H δ S Y F R ht rs rw' => ?_
  rw [denS] at ht
  exact (hm ht.1).elim
theorem ss_tro {b s : RSs} {j : Nat} {y : Str} {p1 p2 : Pos} {p qs : List Stmt} {q : Stmt} (c : XS n X G W k sc) (h1 : nmB n.cls j y = true) (h2 : glB sc y = true) (hb : SndSs n sc b p) (hs : SndSs n sc s (q :: qs)) :
  PS X (.Try p [.ExceptHandler (some (.Name y p1)) none (q :: qs) p2] [] [] pos) (LS G.toGd W (denS G (.tro b j s))) := by
 by_cases hm : G.m0 = none
 ·have hcl := c.xc.ok.cl j y (nmB_ok h1).1
  refine LS.mk' (L2N.ps_try_many (tb := fun W' => LS G.toGd W' (denSs G b)) (l := [(.ref (G.cl j), fun a cls d => fun D σ H => ∀ oe, L2N.Zn cls d oe → (∃ vs, oe.data = .fields vs) → LS G.toGd noW (denSs (G.suite a oe) s) D σ H)]) c.stk c.fr c.xc.tk
   (fun W' pn xe tk ps => hb _ G W' k (c.tr hm tk ps))
   (.cons ⟨c.xc.gl h2, (nmB_ok h1).2.1, .inl hcl⟩ (fun a oe cls d pn hz hf => PSs.imp (hs _ (G.suite a oe) noW k (c.suite hz hf)) fun D σ H q => q oe hz hf) .nil)) fun D σ H δ S Y F R ht rs rw' => ?_
  rw [denS] at ht
  refine ⟨δ, S, _, F, R, ht.2, rs, fun C fs δ' S' d σ' H' hy P R' hx => ?_⟩
  obtain ⟨kb, e1, e2, e3⟩ := hy
  refine ⟨kb, by rw [← c.xc.ok.K]; exact e1, fun hk a na oe hz hf => ?_, fun hk => rw' C fs δ' S' d σ' H' (e3 hk) P R' hx⟩
  refine ⟨δ', S', noX, F, R', e2 hk a oe, ?_, fun _ _ _ _ _ _ _ z => z.elim⟩
  exact ⟨fun δ2 S2 σ2 H2 q P2 R3 => rs.nx _ S2 _ H2 q (P.trans P2) R3, rs.rt.mono P, fun δ2 S2 σ2 H2 q P2 R3 => rs.bk _ S2 _ H2 q (P.trans P2) R3, fun δ2 S2 σ2 H2 q P2 R3 => rs.ct _ S2 _ H2 q (P.trans P2) R3⟩
 ·refine LS.mk' ps_never fun D σ H δ S Y F R ht rs rw' => ?_
  rw [denS] at ht
  exact (hm ht.1).elim
theorem any_star {a b : Expr} (sa : nstar a = true) (sb : nstar b = true) : ([a, b].any fun | .Starred .. => true | _ => false) = false := by
 cases a <;> first | exact absurd sa Bool.false_ne_true | (cases b <;> first | exact absurd sb Bool.false_ne_true | rfl)
/-- a, b = (x, y) -/
theorem stores_two {y z : Str} {a b : Expr} {py pz pt p2 : Pos} {kt k2 : Nat} (kind : X.env.blockKind = .function) (ky : X.env.kindOf y = some .local) (kz : X.env.kindOf z = some .local) (same : (py.line == pz.line) = true) (apart : (y == z) = false) (sa : nstar a = true) (sb : nstar b = true)
  (f1 : ([a, b].all (foldedForSure 8)) = false) (f2 : ([a, b].all (constantsAlone 8)) = false) : swappedStores [.Tuple [.Name y py, .Name z pz] kt pt] (.Tuple [a, b] k2 p2) X.env = pure (some [y, z]) := by
 have line : (pz.line == py.line) = true := by rw [beq_iff_eq] at same ⊢; exact same.symm
 have dup : [y, z].eraseDups = [y, z] := by
  rw [List.eraseDups_cons, List.filter_cons]
  have e : (z == y) = false := by
   rw [beq_eq_false_iff_ne] at apart ⊢
   exact fun h => apart h.symm
  simp [e, List.eraseDups_cons]
 unfold swappedStores
 simp only [List.length_cons, List.length_nil, kind, f1, f2, List.head?_cons, Option.map_some, Option.getD_some, Expr.pos, List.filterMap_cons, List.filterMap_nil, ky, kz, line, beq_self_eq_true, Bool.and_self, if_true, dup]
 refine (if_neg (by decide)).trans ((if_neg fun h => Bool.false_ne_true ((any_star sa sb).symm.trans h)).trans ?_)
 rfl
theorem ss_par {i j : Nat} {es : RL} {y z : Str} {a b : Expr} {py pz pt p2 : Pos} {kt k2 : Nat} (c : XS n X G W k sc) (h1 : nmB n.N i y = true) (h2 : nmB n.N j z = true) (hij : i ≠ j) (hy : sc.names.lookup y = some .local) (hz : sc.names.lookup z = some .local) (same : (py.line == pz.line) = true) (apart : (y == z) = false) (sa : nstar a = true) (sb : nstar b = true)
  (f1 : ([a, b].all (foldedForSure 8)) = false) (f2 : ([a, b].all (constantsAlone 8)) = false) (hL : SndL n sc es [a, b]) : PS X (.Assign [.Tuple [.Name y py, .Name z pz] kt pt] (.Tuple [a, b] k2 p2) pos) (LS G.toGd W (denS G (.par i j es))) := by
 by_cases hm : G.m0 = none
 ·have md : ModeC X none := by have := c.xc.md; rw [hm] at this; exact this
  have ly : X.env.scope.names.lookup y = some .local := by rw [c.esc]; exact hy
  have lz : X.env.scope.names.lookup z = some .local := by rw [c.esc]; exact hz
  refine ⟨fun pins s σ H D I hh => ?_⟩
  have kind : X.env.blockKind = .function := by unfold Env.blockKind; rw [I.ok.kind]; rfl
  refine (LS.mk' (ps_par (pos := pos) md.2 c.xc.nd (c.xc.at h1) (c.xc.at h2) hij ly lz (hL.a X G.toGm W k c.xc) (stores_two kind ly lz same apart sa sb f1 f2) (by rfl)) fun D σ H δ S Y F R ht rs rw' => ?_).run pins s σ H D I hh
  rw [denS] at ht
  refine ⟨δ, S, Y, _, R, ht.2, fun ds S1 vs H1 kk P cc r => ?_, rw'⟩
  obtain ⟨v, w, rfl, q⟩ := kk
  obtain ⟨a1, b1, rfl, r1, r2⟩ := reps_two r
  exact ⟨a1, b1, rfl, rs.nx _ S1 _ H1 q P ⟨((R.sl.mono P).set r1).set r2, cc⟩⟩
 ·refine LS.mk' ps_never fun D σ H δ S Y F R ht rs rw' => ?_
  rw [denS] at ht
  exact (hm ht.1).elim
theorem any_star3 {a b c : Expr} (sa : nstar a = true) (sb : nstar b = true) (sc : nstar c = true) : ([a, b, c].any fun | .Starred .. => true | _ => false) = false := by
 cases a <;> first | exact absurd sa Bool.false_ne_true | exact any_star sb sc
theorem reps_three {d e f : D} {vs : List V} (r : Reps g S H [d, e, f] vs) : ∃ u v w, vs = [u, v, w] ∧ Rep g S H d u ∧ Rep g S H e v ∧ Rep g S H f w := by
 simp only [Reps] at r
 obtain ⟨v, q, rfl, a, u, q2, rfl, b, w, q3, rfl, c, rfl⟩ := r
 exact ⟨v, u, w, rfl, a, b, c⟩
/-- a, b, c = (x, y, z) -/
theorem stores_three {x y z : Str} {a b c : Expr} {px py pz pt p2 : Pos} {kt k2 : Nat} (kind : X.env.blockKind = .function) (kx : X.env.kindOf x = some .local) (ky : X.env.kindOf y = some .local) (kz : X.env.kindOf z = some .local) (same : (px.line == py.line) = true) (same2 : (px.line == pz.line) = true) (dup : [x, y, z].eraseDups = [x, y, z]) (sa : nstar a = true) (sb : nstar b = true) (sc : nstar c = true)
  (f1 : ([a, b, c].all (foldedForSure 8)) = false) (f2 : ([a, b, c].all (constantsAlone 8)) = false) : swappedStores [.Tuple [.Name x px, .Name y py, .Name z pz] kt pt] (.Tuple [a, b, c] k2 p2) X.env = pure (some [x, y, z]) := by
 have line : (py.line == px.line) = true := by rw [beq_iff_eq] at same ⊢; exact same.symm
 have line2 : (pz.line == px.line) = true := by rw [beq_iff_eq] at same2 ⊢; exact same2.symm
 unfold swappedStores
 simp only [List.length_cons, List.length_nil, kind, f1, f2, List.head?_cons, Option.map_some, Option.getD_some, Expr.pos, List.filterMap_cons, List.filterMap_nil, kx, ky, kz, line, line2, beq_self_eq_true, Bool.and_self, if_true, dup]
 refine (if_neg (by decide)).trans ((if_neg fun h => Bool.false_ne_true ((any_star3 sa sb sc).symm.trans h)).trans ?_)
 rfl
theorem ss_tri {i j l : Nat} {es : RL} {x y z : Str} {a b d : Expr} {px py pz pt p2 : Pos} {kt k2 : Nat} (c : XS n X G W k sc) (h1 : nmB n.N i x = true) (h2 : nmB n.N j y = true) (h3 : nmB n.N l z = true) (hij : i ≠ j) (hil : i ≠ l) (hjl : j ≠ l) (hx : sc.names.lookup x = some .local) (hy : sc.names.lookup y = some .local) (hz : sc.names.lookup z = some .local) (same : (px.line == py.line) = true) (same2 : (px.line == pz.line) = true) (dup : [x, y, z].eraseDups = [x, y, z]) (sa : nstar a = true) (sb : nstar b = true) (sd : nstar d = true)
  (f1 : ([a, b, d].all (foldedForSure 8)) = false) (f2 : ([a, b, d].all (constantsAlone 8)) = false) (hL : SndL n sc es [a, b, d]) : PS X (.Assign [.Tuple [.Name x px, .Name y py, .Name z pz] kt pt] (.Tuple [a, b, d] k2 p2) pos) (LS G.toGd W (denS G (.tri i j l es))) := by
 by_cases hm : G.m0 = none
 ·have md : ModeC X none := by have := c.xc.md; rw [hm] at this; exact this
  have lx : X.env.scope.names.lookup x = some .local := by rw [c.esc]; exact hx
  have ly : X.env.scope.names.lookup y = some .local := by rw [c.esc]; exact hy
  have lz : X.env.scope.names.lookup z = some .local := by rw [c.esc]; exact hz
  refine ⟨fun pins s σ H D I hh => ?_⟩
  have kind : X.env.blockKind = .function := by unfold Env.blockKind; rw [I.ok.kind]; rfl
  refine (LS.mk' (ps_par3 (pos := pos) md.2 c.xc.nd (c.xc.at h1) (c.xc.at h2) (c.xc.at h3) hij hil hjl lx ly lz (hL.a X G.toGm W k c.xc) (stores_three kind lx ly lz same same2 dup sa sb sd f1 f2) (by rfl)) fun D σ H δ S Y F R ht rs rw' => ?_).run pins s σ H D I hh
  rw [denS] at ht
  refine ⟨δ, S, Y, _, R, ht.2, fun ds S1 vs H1 kk P cc r => ?_, rw'⟩
  obtain ⟨u, v, w, rfl, q⟩ := kk
  obtain ⟨a1, b1, c1, rfl, r1, r2, r3⟩ := reps_three r
  exact ⟨a1, b1, c1, rfl, rs.nx _ S1 _ H1 q P ⟨(((R.sl.mono P).set r1).set r2).set r3, cc⟩⟩
 ·refine LS.mk' ps_never fun D σ H δ S Y F R ht rs rw' => ?_
  rw [denS] at ht
  exact (hm ht.1).elim
theorem ss_lck {s : RS} {x : Stmt} (h : PS X x (LS G.toGd W (denS G s))) : PS X x (LS G.toGd W (denS G (.lck s))) :=
 LS.mk' (ps_lock h) fun D σ H δ S Y F R ht rs rw' => by
  rw [denS] at ht
  obtain ⟨d, kvs, at_d, ht⟩ := ht
  obtain ⟨ws, here, all⟩ := R.ce d _ at_d
  refine ⟨d, _, here, trivial, fun od => ?_⟩
  have P : Post S H (S.set d (.loc kvs)) (upd H d (.frz od (.dK ws))) := Post.write at_d
  have back : ∀ {δ' : DS} {S' σ' H'}, Post (S.set d (.loc kvs)) (upd H d (.frz od (.dK ws))) S' H' → Rel G.toGd S' H' δ' σ' → Rel G.toGd (S'.set d (.dic kvs)) (upd H' d (.dK ws)) δ' σ' := fun {δ' S' σ' H'} P' R' =>
   ⟨⟨R'.sl.len, fun i x e => have ⟨v, e1, r⟩ := R'.sl.at_ i x e; ⟨v, e1, r.monoW (.write (PostW.unlock at_d P').1)⟩⟩, CellsOk.unlock at_d all P' R'.ce⟩
  have go : ∀ {δ' : DS} {S' σ' H'} {K : DS → SS → Prop} {q : L2.St → Hp → Prop}, (∀ δ' S' σ' H', K δ' S' → Post S H S' H' → Rel G.toGd S' H' δ' σ' → q σ' H') → K δ' (S'.set d (.dic kvs)) → Post (S.set d (.loc kvs)) (upd H d (.frz od (.dK ws))) S' H' → Rel G.toGd S' H' δ' σ' →
    H' d = some (.frz od (.dK ws)) ∧ q σ' (upd H' d (.dK ws)) := fun {δ' S' σ' H' K q} w kk P' R' => ⟨(PostW.unlock at_d P').2, w δ' _ σ' _ kk (Post.unlock at_d P') (back P' R')⟩
  refine ⟨δ, _, Y, F.unlock d kvs, R.mono P (R.ce.lock at_d here all), ht, ⟨fun δ' S' σ' H' kk P' R' => go rs.nx kk P' R', fun x S' v H' kk P' c' r' => ⟨(PostW.unlock at_d P').2, ?_⟩, fun δ' S' σ' H' kk P' R' => go rs.bk kk P' R', fun δ' S' σ' H' kk P' R' => go rs.ct kk P' R'⟩, rw'.mono P⟩
  exact rs.rt x _ v _ kk (Post.unlock at_d P') (CellsOk.unlock at_d all P' c') (r'.monoW (.write (PostW.unlock at_d P').1))
end
end Sv
/-! Sv14: the check is sound: bodies; a def by its body. -/
namespace Sv
open PySem PySem.Spec PyProof.Rows L2
open L2H (RoomH)
variable {n : SN}
mutual
theorem sS : ∀ (s : RS) (sc : Scope) (x : Stmt), chkS n sc s x = true → SndS n sc s x
 | .exp e, sc, x, h => by
  unfold chkS at h
  split at h
  ·rw [Bool.and_eq_true] at h
   exact fun X G W k c => ss_exp h.1 ((sE e sc _ h.2).v X G.toGm W k c.xc)
  ·cases h
 | .asg tg one e, sc, x, h => by
  unfold chkS at h
  split at h
  ·simp only [Bool.and_eq_true] at h
   obtain ⟨⟨h1, h2⟩, h3, h4⟩ := h
   exact fun X G W k c => ss_asg c h1 h2 h3 ((sE e sc _ h4).v X G.toGm W k c.xc)
  ·cases h
 | .asl i e, sc, x, h => by
  unfold chkS at h
  split at h
  ·split at h
   ·simp only [Bool.and_eq_true, decide_eq_true_eq, Bool.not_eq_true'] at h
    obtain ⟨⟨⟨⟨h1, h2⟩, h3⟩, h4⟩, ⟨⟨⟨⟨⟨⟨g0, g1⟩, g2⟩, g3⟩, g4⟩, g5⟩, g6⟩, g7⟩ := h
    exact fun X G W k c => ss_asl c h1 h2 h3 h4 g0 g1 (sI _ sc _ g2) g3 g4 g7 (fun X G W k c => sC _ _ _ g5 X G W k c) (fun X G W k c => (sE _ _ _ g6).v X G W k c)
   ·cases h
  ·cases h
 | .sti a b e, sc, x, h => by
  unfold chkS at h
  split at h
  ·simp only [Bool.and_eq_true] at h
   obtain ⟨h2, h3, h4, h5⟩ := h
   exact fun X G W k c => ss_sti c h2 ((sE a sc _ h3).v X G.toGm W k c.xc) ((sE b sc _ h4).v X G.toGm W k c.xc) ((sE e sc _ h5).v X G.toGm W k c.xc)
  ·cases h
 | .stf a f e, sc, x, h => by
  unfold chkS at h
  split at h
  ·simp only [Bool.and_eq_true, decide_eq_true_eq] at h
   obtain ⟨h2, h3, h4⟩ := h
   subst h2
   exact fun X G W k c => ss_stf c ((sE a sc _ h3).v X G.toGm W k c.xc) ((sE e sc _ h4).v X G.toGm W k c.xc)
  ·cases h
 | .agv i op e, sc, x, h => by
  unfold chkS at h
  split at h
  ·simp only [Bool.and_eq_true, decide_eq_true_eq] at h
   obtain ⟨⟨⟨h1, h2⟩, h3⟩, h4⟩ := h
   subst h3
   exact fun X G W k c => ss_agv c h1 h2 ((sE e sc _ h4).v X G.toGm W k c.xc)
  ·cases h
 | .agi a b op e, sc, x, h => by
  unfold chkS at h
  split at h
  ·simp only [Bool.and_eq_true, decide_eq_true_eq] at h
   obtain ⟨⟨h1, h2⟩, h3, h4, h5⟩ := h
   subst h2
   exact fun X G W k c => ss_agi c h1 ((sE a sc _ h3).v X G.toGm W k c.xc) ((sE b sc _ h4).v X G.toGm W k c.xc) ((sE e sc _ h5).v X G.toGm W k c.xc)
  ·cases h
 | .ifs t a b, sc, x, h => by
  unfold chkS at h
  split at h
  ·simp only [Bool.and_eq_true] at h
   obtain ⟨h1, h2, h3⟩ := h
   exact fun X G W k c => ss_ifs ((sE t sc _ h1).t X G.toGm W k c.xc) (sSs a sc _ h2 X G W k c) (sSs b sc _ h3 X G W k c)
  ·cases h
 | .fr tg one it b, sc, x, h => by
  unfold chkS at h
  split at h
  ·simp only [Bool.and_eq_true] at h
   obtain ⟨⟨⟨h1, h2⟩, h5⟩, h3, h4⟩ := h
   exact fun X G W k c => ss_fr c h1 h2 h5 (sI it sc _ h3) (sSs b sc _ h4 X G W k c)
  ·cases h
 | .wh t b, sc, x, h => by
  unfold chkS at h
  split at h
  ·simp only [Bool.and_eq_true] at h
   obtain ⟨h1, h2⟩ := h
   exact fun X G W k c => ss_wh c ((sE t sc _ h1).t X G.toGm W k c.xc) (sSs b sc _ h2 X G W k c)
  ·cases h
 | .ret e, sc, x, h => by
  unfold chkS at h
  split at h
  ·exact fun X G W k c => ss_ret ((sE e sc _ h).v X G.toGm W k c.xc)
  ·cases h
 | .retN, sc, x, h => by
  unfold chkS at h
  split at h
  ·exact fun X G W k c => LS.mk' ps_retN fun D σ H δ S Y F R ht rs rw' => by
    rw [denS] at ht
    exact rs.rt.non ht R.ce
  ·cases h
 | .brk, sc, x, h => by
  unfold chkS at h
  split at h
  ·exact fun X G W k c => LS.mk' ps_break fun D σ H δ S Y F R ht rs rw' => by
    rw [denS] at ht
    exact rs.bk δ S σ H ht (Post.refl _ _) R
  ·cases h
 | .cnt, sc, x, h => by
  unfold chkS at h
  split at h
  ·exact fun X G W k c => LS.mk' ps_continue fun D σ H δ S Y F R ht rs rw' => by
    rw [denS] at ht
    exact rs.ct δ S σ H ht (Post.refl _ _) R
  ·cases h
 | .pas, sc, x, h => by
  unfold chkS at h
  split at h
  ·exact fun X G W k c => LS.mk' ps_pass fun D σ H δ S Y F R ht rs rw' => by
    rw [denS] at ht
    exact rs.nx δ S σ H ht (Post.refl _ _) R
  ·exact fun X G W k c => LS.mk' ps_doc fun D σ H δ S Y F R ht rs rw' => by
    rw [denS] at ht
    exact rs.nx δ S σ H ht (Post.refl _ _) R
  ·cases h
 | .rai j es, sc, x, h => by
  unfold chkS at h
  split at h
  ·simp only [Bool.and_eq_true] at h
   obtain ⟨⟨h1, h2⟩, h3⟩ := h
   exact fun X G W k c => ss_rai c h1 h2 (sL es sc _ h3)
  ·cases h
 | .tra b j i s, sc, x, h => by
  unfold chkS at h
  split at h
  ·simp only [Bool.and_eq_true, decide_eq_true_eq] at h
   obtain ⟨⟨⟨⟨h1, h2⟩, h3⟩, h4⟩, h5, h6⟩ := h
   exact fun X G W k c => ss_tra c h1 h2 h3 h4 (sSs b sc _ h5) (sSs s sc _ h6)
  ·cases h
 | .tro b j s, sc, x, h => by
  unfold chkS at h
  split at h
  ·simp only [Bool.and_eq_true] at h
   obtain ⟨⟨h1, h2⟩, h5, h6⟩ := h
   exact fun X G W k c => ss_tro c h1 h2 (sSs b sc _ h5) (sSs s sc _ h6)
  ·cases h
 | .tri i j l es, sc, x, h => by
  unfold chkS at h
  split at h
  ·simp only [Bool.and_eq_true, decide_eq_true_eq, Bool.not_eq_true'] at h
   obtain ⟨⟨⟨⟨⟨⟨⟨⟨⟨⟨⟨h1, h2⟩, h3⟩, h4⟩, h5⟩, h6⟩, ⟨h7, h8⟩, h9⟩, ⟨l1, l2⟩, l3⟩, ⟨s1, s2⟩, s3⟩, g1⟩, g2⟩, g3⟩ := h
   exact fun X G W k c => ss_tri c h1 h2 h3 h4 h5 h6 h7 h8 h9 l1 l2 l3 s1 s2 s3 g1 g2 (sL es sc _ g3)
  ·cases h
 | .par i j es, sc, x, h => by
  unfold chkS at h
  split at h
  ·simp only [Bool.and_eq_true, decide_eq_true_eq, Bool.not_eq_true'] at h
   obtain ⟨⟨⟨⟨⟨⟨⟨⟨⟨⟨⟨h1, h2⟩, h3⟩, h4⟩, h5⟩, h6⟩, h7⟩, h8⟩, h9⟩, g1⟩, g2⟩, g3⟩ := h
   exact fun X G W k c => ss_par c h1 h2 h3 h4 h5 h6 h7 h8 h9 g1 g2 (sL es sc _ g3)
  ·cases h
 | .lck s, sc, x, h => by
  unfold chkS at h
  exact fun X G W k c => ss_lck (sS s sc x h X G W k c)
 | .nev, sc, x, h => fun X G W k c => LS.mk' ps_never fun D σ H δ S Y F R ht rs rw' => by
  rw [denS] at ht
  exact ht.elim
theorem sSs : ∀ (s : RSs) (sc : Scope) (x : List Stmt), chkSs n sc s x = true → SndSs n sc s x
 | .nil, sc, x, h => by
  unfold chkSs at h
  cases x with
  | nil =>
   refine fun X G W k c => PSs.imp pss_nil fun D σ H q => ?_
   obtain ⟨δ, S, Y, F, R, ht, rs, _⟩ := q
   rw [denSs] at ht
   exact rs.nx δ S σ H ht (Post.refl _ _) R
  | cons _ _ => cases h
 | .cons s r, sc, x, h => by
  unfold chkSs at h
  split at h
  ·rw [Bool.and_eq_true] at h
   refine fun X G W k c => PSs.imp (pss_cons (sS s sc _ h.1 X G W k c) (sSs r sc _ h.2 X G W k c)) fun D σ H q => ?_
   obtain ⟨δ, S, Y, F, R, ht, rs, rw'⟩ := q
   rw [denSs] at ht
   exact ⟨δ, S, Y, _, R, ht, ⟨fun δ' S' σ' H' q P R' => ⟨δ', S', Y, F, R', q, rs.mono P, rw'.mono P⟩, rs.rt, rs.bk, rs.ct⟩, rw'⟩
  ·cases h
 | .cut s r, sc, x, h => by
  unfold chkSs at h
  split at h
  ·rw [Bool.and_eq_true] at h
   refine fun X G W k c => PSs.imp (pss_cons (sS s sc _ h.1 X G W k c) (sSs r sc _ h.2 X G W k c)) fun D σ H q => ?_
   obtain ⟨δ, S, Y, F, R, ht, rs, rw'⟩ := q
   rw [denSs] at ht
   obtain ⟨J, hs, hj⟩ := ht
   exact ⟨δ, S, Y, _, R, hs, ⟨fun δ' S' σ' H' q P R' => ⟨δ', S', Y, F, R', hj δ' S' q, rs.mono P, rw'.mono P⟩, rs.rt, rs.bk, rs.ct⟩, rw'⟩
  ·cases h
 | .frz i r, sc, x, h => by
  unfold chkSs at h
  refine fun X G W k c => PSs.imp (sSs r sc x h X G W k c) fun D σ H q => ?_
  obtain ⟨δ, S, Y, F, R, ht, rs, rw'⟩ := q
  rw [denSs] at ht
  obtain ⟨a, ea, ht⟩ := ht
  obtain ⟨v, ev, rv⟩ := R.sl.at_ i _ ea
  cases rep_obj rv
  have hlt : i < σ.length := by
   obtain ⟨hh, _⟩ := List.getElem?_eq_some_iff.mp ev
   exact hh
  have es : σ.set i (some (V.ref a)) = σ := by
   apply List.ext_getElem?
   intro j
   by_cases e : i = j
   ·subst e; rw [List.getElem?_set_self hlt, ev]
   ·rw [List.getElem?_set_ne e]
  rcases ht with ⟨ds, e1, q⟩ | ⟨ds, e1, q⟩
  ·have R2 : Rel G.toGd (S.del a) H (δ.set i (some (.lst ds))) (σ.set i (some (V.ref a))) := ⟨(R.sl.mono (Post.freeze e1)).set (Rep.freeze R.ce e1), R.ce.freeze e1⟩
   rw [es] at R2
   exact ⟨_, _, Y, F, R2, q, rs.mono (Post.freeze e1), rw'.mono (Post.freeze e1)⟩
  ·have R2 : Rel G.toGd (S.del a) H (δ.set i (some (.dic ds))) (σ.set i (some (V.ref a))) := ⟨(R.sl.mono (Post.freeze e1)).set (Rep.freezeK R.ce e1), R.ce.freeze e1⟩
   rw [es] at R2
   exact ⟨_, _, Y, F, R2, q, rs.mono (Post.freeze e1), rw'.mono (Post.freeze e1)⟩
end
/-- what a def promises by values: its body does it -/
def Meets (n : SN) (G : Option (Addr × Obj) → Gs) (np : Nat) (hot : Bool) (T : TR) (b : RSs) : Prop := ∀ (m : Option (Addr × Obj)), m.isSome = hot → ∀ (ds : List D) (S : SS) (K : DK) (Y : XK'), T m ds S K Y → ds.length = np ∧
 denSs (G m) b (ds.map some ++ List.replicate (n.N.length - ds.length) none) S (fun C fs _ S' => Y C fs S') { nx := fun _ S' => K .non S', rt := K, bk := fun _ _ => False, ct := fun _ _ => False }
/-- THE RULE: a def by its resolved body -/
theorem fn_D {P : Program} {w : World} {K : PySem.W.Frag} {mg : Str → Option Value} {base : Heap} {hot : Bool} {k : Nat} {f : Addr} {name qual : Str} {params : Arguments} {body : List Stmt} {scope : Scope} {dV kV doc pm cdv ct oc : Value} {an od : Option Addr}
  {osl : Array (Option Value)} {ps : List Str} {T : TR} {b : RSs} {G : Option (Addr × Obj) → Gs} {g : Gd} (lk : K.lookup f = some ⟨oc, od, .func (PySem.W.fnOf name qual params body scope dV kV doc pm an cdv ct), osl⟩) (hcd : PySem.W.codeIn K cdv qual = true) (S : FnScope n.N ps scope)
  (hck : chkSs n scope b body = true) (hG : ∀ m, (G m).m0 = m) (hg : ∀ m, (G m).toGd = g) (ok : ∀ m, GOk n P w K mg base (G m).toGm k) (xm : ∀ m j x kd, (G m).xk j = some kd → n.cls[j]? = some x → MkF P w K mg base k ((G m).cl j) kd)
  (hm : Meets n G ps.length hot T b) : FnG P w K mg base hot (k + 1) f (PySem.W.fnOf name qual params body scope dV kV doc pm an cdv ct) ps (spD g T) := by
 refine fn_ofM lk hcd S (fun m vs H Q E hmh h => ?_) fun A outer s H vs Q E m hmh hM hr hsp => ?_
 ·obtain ⟨ds, S0, K0, Y0, ce, rp, ht, _⟩ := h
  rw [← rp.length]
  exact (hm m hmh ds S0 K0 Y0 ht).1
 ·obtain ⟨ds, S0, K0, Y0, ce, rp, ht, res, rex⟩ := hsp
  obtain ⟨hl, hd⟩ := hm m hmh ds S0 K0 Y0 ht
  have hx : XS n (cxM P w K mg base n.N qual scope f cdv A outer s H E m) (G m) (fun cls d _ H' => E cls d H') k scope := by
   refine ⟨⟨ok m, rfl, ScOk.self (fun _ => rfl), ?_, ?_, ?_, ?_⟩, rfl, fun _ => rfl, rfl, rfl, xm m⟩
   ·exact hr
   ·rw [hG m]
    cases m with
    | none => exact ⟨hM.1, rfl⟩
    | some p => exact ⟨hM.1, ⟨hM.2.1.1, hM.2.1.2⟩, List.mem_cons_self⟩
   ·exact L2N.takes_of rfl rfl rfl rfl
   ·exact passes_of rfl
  refine ⟨_, sSs b scope body hck _ (G m) _ k hx, ?_⟩
  have hN : ds.length ≤ n.N.length := by
   have := congrArg List.length S.pre
   rw [List.length_take] at this
   omega
  rw [hg m]
  refine ⟨_, S0, _, _, ⟨RelS.start (N := n.N) rp, ce⟩, hd, ⟨fun δ' S' σ' H' q P R' => res .non S' .non H' q P R'.ce (by simp only [Rep]), res, fun _ _ _ _ z => z.elim, fun _ _ _ _ z => z.elim⟩, fun C fs δ' S' d σ' H' y P R' x => rex C fs S' d H' y P R'.ce x⟩
end Sv
/-! Sv15: the head's facts, a law's end over this layer. -/
namespace Sv
open PySem PySem.Spec PyProof.Rows L2 PySem.W PySem.Calls
open L2H (RoomH)
/-- the law's caller's place: the written part stands, nothing is tracked but the script -/
structure Stage (K : PySem.W.Frag) (mg : Str → Option Value) (s : Shared) : Prop where
 inK : K.In s.heap
 main : s.heap.Ns mainGlobals mg
 builtins : ∃ mb, s.heap.Ns builtinsNs mb ∧ ∀ x : Str, x ≠ "__name__" → mb x = bootBuiltins x
 nolimit : s.heap.NoLimit
 noGens : s.gens = #[]
/-- how the script is tracked -/
structure Script (K : PySem.W.Frag) (P : Program) (w : World) (H : Hp) (s : Shared) (a : Addr) (xs : List V) : Prop where
 list : SqL K H a xs
 ok : HOk P w H s.heap
 frozen : ∀ b u, H b = some u → ∃ o ys, u = .frz o (.lst ys)
 own : ∀ b u, H b = some u → K.lookup b = none ∧ ∃ items n, (∃ o, s.heap.get? b = some o ∧ o.data = .seq items n)
theorem Script.is {K : PySem.W.Frag} {P : Program} {w : World} {s : Shared} {a : Addr} {vs : List Value} {ns : List Int} (inK : K.In s.heap) (at_a : s.heap.get? a = some { cls := .type "list", data := .seq vs.toArray }) (whole : IntsAre vs ns) (short : ns.length ≤ sizeLine) :
  ∃ H, Script K P w H s a (ns.map V.int) := by
 have reads := vals_ints whole
 have size : vs.toArray.size ≤ sizeLine := by rw [List.size_toArray, whole.length]; exact short
 cases known : K.lookup a with
 | some o =>
  have same := (inK a o known).symm.trans at_a
  cases same
  exact ⟨fun _ => none, .inr ⟨_, _, _, known, rfl, rfl, rfl, size, by simpa using reads⟩, nofun, nofun, nofun⟩
 | none =>
  let kept : HO := .frz { cls := .type "list", data := .seq vs.toArray } (.lst (ns.map V.int))
  have only : ∀ {b u}, (if b = a then some kept else none) = some u → b = a ∧ u = kept := by
   intro b u e
   split at e
   ·exact ⟨‹_›, (Option.some.inj e).symm⟩
   ·cases e
  refine ⟨fun b => if b = a then some kept else none, .inl (.inr ⟨_, if_pos rfl⟩), ?_, ?_, ?_⟩
  all_goals
   intro b u e
   obtain ⟨rfl, rfl⟩ := only e
  ·exact ⟨at_a, by rw [List.length_map]; exact short, vs, _, reads, at_a⟩
  ·exact ⟨_, _, rfl⟩
  ·exact ⟨known, _, _, _, at_a, rfl⟩
/-- what is not a sequence is left in the base -/
theorem Script.base {K : PySem.W.Frag} {P : Program} {w : World} {H : Hp} {s : Shared} {a : Addr} {xs : List V} (T : Script K P w H s a xs) {b : Addr} {o : Obj} (e : s.heap.get? b = some o) (no : ∀ items n, o.data ≠ .seq items n) : (hidT s.heap H).get? b = some o := by
 cases tracked : H b with
 | none => exact hidT_get e tracked
 | some u =>
  have ⟨_, items, n, o', e', d⟩ := T.own b u tracked
  cases e.symm.trans e'
  exact (no _ _ d).elim
theorem Script.names {K : PySem.W.Frag} {P : Program} {w : World} {H : Hp} {s : Shared} {a : Addr} {xs : List V} (T : Script K P w H s a xs) {b : Addr} {m : Str → Option Value} : s.heap.Ns b m → (hidT s.heap H).Ns b m
 | ⟨o, es, ep, e, d, r⟩ => ⟨o, es, ep, T.base e (by rw [d]; nofun), d, r⟩
theorem Script.inK {K : PySem.W.Frag} {P : Program} {w : World} {H : Hp} {s : Shared} {a : Addr} {xs : List V} (T : Script K P w H s a xs) (k : K.In s.heap) : K.In (hidT s.heap H) := by
 intro b o known
 cases tracked : H b with
 | none => exact hidT_get (k b o known) tracked
 | some u => cases known.symm.trans (T.own b u tracked).1
theorem Script.env {K : PySem.W.Frag} {P : Program} {w : World} {mg : Str → Option Value} {H : Hp} {s : Shared} {a : Addr} {xs : List V} (T : Script K P w H s a xs) (G : Stage K mg s) : Env0 P w K mg (hidT s.heap H) callerA [] s H where
 frames := rfl
 mod := ⟨T.inK G.inK, T.names G.main, G.builtins.imp fun _ z => ⟨T.names z.1, z.2⟩, G.nolimit.imp fun _ z => ⟨T.names z.1, z.2⟩⟩
 bs b o e := of_hidT e
 bsz := Nat.le_of_eq (hidT_size _ _)
 funs := trivial
 frf b z := nomatch (show b ∈ ([] : List Addr) from z)
 hok := T.ok
 bare := .of_eq G.noGens
/-- what was there is there behind a call that tracked only the script -/
theorem Script.old {K : PySem.W.Frag} {P : Program} {w : World} {H H' : Hp} {s s' : Shared} {a : Addr} {xs : List V} (T : Script K P w H s a xs) (un : Un (frs ([] : List Env)) [] H H' s.heap s'.heap) (hok : HOk P w H' s'.heap) : OldK s.heap s'.heap := by
 refine OldK.of_keep fun b o e => ?_
 cases tracked : H b with
 | none => exact un.keep b o e tracked (fun z => nomatch (show b ∈ ([] : List Addr) from z)) (by simp)
 | some u =>
  obtain ⟨o', ys, rfl⟩ := T.frozen b u tracked
  cases e.symm.trans (T.ok b _ tracked).1
  exact (hok b _ (un.frzs b _ _ tracked)).1
/-- the law, called by its caller -/
theorem law_run {P : Program} {w : World} {K : PySem.W.Frag} {mg : Str → Option Value} {k : Nat} {fa a : Addr} {fd : FuncData} {x : Str} {sp : SpM} {s : Shared} {vs : List Value} {ns : List Int} (G : Stage K mg s)
  (at_a : s.heap.get? a = some { cls := .type "list", data := .seq vs.toArray }) (whole : IntsAre vs ns) (short : ns.length ≤ sizeLine) (room : RoomH k callerA) (F : ∀ base : Heap, K.In base → base.Ns mainGlobals mg → FnG P w K mg base false k fa fd [x] sp)
  (binds : ∀ (s : Shared) (u : Value), BindsTo s fd ⟨[u], []⟩ [(x, u)]) (does : ∀ H : Hp, SqL K H a (ns.map V.int) → sp none [.ref a] H (fun v _ => v = .bl true) fun _ _ _ => False) :
  codeAny (model P w) callerA (.call (.ref fa) ⟨[.ref a], []⟩) (fun r s' => r = .ok (.ret (.bool true)) ∧ OldK s.heap s'.heap ∧ s'.os = s.os ∧ AllBare s'.gens) s := by
 have ⟨H, T⟩ := Script.is (P := P) (w := w) G.inK at_a whole short
 have promise := F _ (T.inK G.inK) (T.names G.main)
 have walked := promise.run callerA [] s H ⟨[.ref a], []⟩ [.ref a] [.ref a] _ _ none rfl room ⟨rfl, rfl⟩ (T.env G) (binds s _) (.cons rfl .nil) (does H T.list)
 refine codeAny_mono walked ?_
 rintro (err | fl) s' told
 ·have ⟨_, _, _, _, _, _, _, _, _, _, _, _, never⟩ := told
  exact never.elim
 ·cases fl with
  | ret u =>
   obtain ⟨v, H', sameOs, bare, un, hok, rel, rfl⟩ := told
   have is : u = .bool true := rel
   exact ⟨congrArg (fun z => Except.ok (Flow.ret z)) is, T.old un hok, sameOs, bare⟩
  | _ => exact told.elim
/-- a law's end: the row's def keeps its promise at the caller's place -/
theorem walk_ofG {l : PySem.W.OpenLaw} {n k : Nat} {q : Program} {loose : List Str} {XP : (Str → Option Value) → Heap → Prop} {YP : World → Heap → Prop} {d : DefRec} {x : Str} (most : l.most = some n) (few : n ≤ sizeLine) (noDf : d.params.defaults = []) (room : RoomH k callerA)
  (kept : ∀ w mg fa h, YP w h → h.Ns mainGlobals mg → mg d.name = some (.ref fa) → ∃ (K : PySem.W.Frag) (fd : FuncData) (sp : SpM), K.In h ∧ (∀ s u, BindsTo s fd ⟨[u], []⟩ [(x, u)]) ∧
   (∀ H a (ns : List Int), ns.length ≤ n → SqL K H a (ns.map V.int) → sp none [.ref a] H (fun v _ => v = .bl true) fun _ _ _ => False) ∧ ∀ base : Heap, K.In base → base.Ns mainGlobals mg → FnG l.prog w K mg base false k fa fd [x] sp) :
  PySem.W.WalkO q loose XP YP l.row.toRowW d [] fun f vs => PySem.call f vs :=
 Att.attach_call most noDf fun w _ s₁ mg _ fa _ _ _ _ _ _ _ G told _ _ _ nm lst whole short noGens =>
  have ⟨_, _, _, inK, binds, does, F⟩ := kept w mg fa _ told G.T.g nm
  law_run ⟨inK, G.T.g, ⟨_, G.T.b, G.T.builtins⟩, G.T.nolimit, noGens⟩ lst whole (Nat.le_trans short few) room F binds fun H o => does H _ _ short o
/-- the law's promise, by values -/
def lawT (n : Nat) : TR := fun m ds S K Y => ∃ ns : List Int, ns.length ≤ n ∧ ds = [.lst (ns.map .int)] ∧ S = (fun _ => none) ∧ ∀ S', K (.bl true) S'
theorem law_sp {g : Gd} {n : Nat} {H : Hp} {a : Addr} {ns : List Int} (hl : ns.length ≤ n) (hS : SqL g.K H a (ns.map V.int)) : spD g (lawT n) none [.ref a] H (fun v _ => v = .bl true) fun _ _ _ => False := by
 have ri : ∀ ms : List Int, Reps g (fun _ => none) H (ms.map D.int) (ms.map V.int) := by
  intro ms
  induction ms with
  | nil => simp only [List.map_nil, Reps]
  | cons m ms ih =>
   simp only [List.map_cons, Reps]
   exact ⟨_, _, rfl, by simp only [Rep], ih⟩
 refine ⟨[.lst (ns.map .int)], fun _ => none, fun d _ => d = .bl true, fun _ _ _ => False, (fun a c e => nomatch e), ?_, ⟨ns, hl, rfl, rfl, fun _ => rfl⟩, ?_, fun _ _ _ _ _ z => z.elim⟩
 ·simp only [Reps, Rep]
  refine ⟨.ref a, [], rfl, ⟨a, ns.map V.int, rfl, ?_, ri ns⟩, rfl⟩
  rcases hS with h | h
  ·exact .inl ⟨rfl, h⟩
  ·exact .inr (.inr h)
 ·rintro d S' v H' rfl P c r
  exact rep_bl r
/-! ### more facts of the written part -/
inductive Fx where
 | oex (x : Str) | ini (x : Str) | bas (x : Str) | exf (x : Str) | insf (x : Str) | nov (x f : Str)
 | kit (x y : Str) (b : Bool) | kitT (x : Str) (n : String) (b : Bool)
 | exfs (xs : List Str) | sib (xs : List Str) | veT (xs : List Str) (n : String) | exA (xs : List Str) (y : Str)
def oexB (K : Frag) (C : Addr) : Bool := (match K.lookup C with
 | some ⟨.type "type", _, .cls cd, sl⟩ => (match cd.mro, sl.toList with
  | .ref C' :: bm, [_, _, _, _, some (.builtin n), _] => decide (C' = C) && decide (n = "ValueError.__new__") && !cd.hasDel && cd.hasDict && PySem.HandSPX.refsVE bm
  | _, _ => false)
 | _ => false) && (He.eqO (findIn K (.ref C) "__setattr__") (some (some (.builtin "object.__setattr__"))) && (decide (subIn K (.ref C) (.type "BaseException") = some true) && (decide (typeIn K (.ref C) = some (.type "type")) && keepIn K (.ref C))))
def cvB (r : Option CFound) (v : Value) : Bool := match r with
 | some (.val u) => decide (u = v)
 | _ => false
theorem cvB_ok {r : Option CFound} {v : Value} (h : cvB r v = true) : r = some (.val v) := by
 unfold cvB at h
 split at h
 ·rw [of_decide_eq_true h]
 ·cases h
def exfB (K : Frag) (x : Str) : Bool := He.eqO (findIn K (.ref (He.ga K x)) "__getattribute__") (some (some (.builtin "BaseException.__getattribute__"))) && (He.eqO (findIn K (.ref (He.ga K x)) "__getattr__") (some none) && (decide (subIn K (.ref (He.ga K x)) (.type "BaseException") = some true) && (hasDictIn K (He.ga K x) &&
   (He.eqO (findIn K (.ref (He.ga K x)) "__class__") (some (some (.builtin "object.__class__"))) && (He.eqO (specialIn K (.builtin "object.__class__") "__get__") (some (some (.builtin "getset_descriptor.__get__"))) && (decide (takesIn K (.builtin "object.__class__") = some true) && decide (mroIn K (He.ga K x) (.type "object") = some true)))))))
def Fx.ok (K : Frag) : Fx → Bool
 | .oex x => oexB K (He.ga K x)
 | .ini x => He.eqO (findIn K (.ref (He.ga K x)) "__init__") (some (some (.ref (He.ma K (He.ga K x) "__init__")))) && decide (typeIn K (.ref (He.ma K (He.ga K x) "__init__")) = some (.type "function"))
 | .bas x => readsIn K (He.ga K x) (.type "type") && (He.eqO (specialIn K (.ref (He.ga K x)) "__getattribute__") (some (some (.builtin "type.__getattribute__"))) && cvB (findCls K (.ref (He.ga K x)) (.type "type") "__init__") (.builtin "ValueError.__init__"))
 | .exf x => exfB K x
 | .exfs xs => xs.all (exfB K)
 | .insf x => He.eqO (findIn K (.ref (He.ga K x)) "__class__") (some (some (.builtin "object.__class__"))) && (He.eqO (specialIn K (.builtin "object.__class__") "__get__") (some (some (.builtin "getset_descriptor.__get__"))) && (decide (takesIn K (.builtin "object.__class__") = some true) && (decide (mroIn K (He.ga K x) (.type "object") = some true) && decide (kitOne K (.ref (He.ga K x)) (.ref (He.ga K x)) = some true))))
 | .nov x f => He.eqO (findIn K (.ref (He.ga K x)) f) (some none)
 | .kit x y b => decide (kitOne K (.ref (He.ga K x)) (.ref (He.ga K y)) = some b)
 | .kitT x n b => decide (kitOne K (.ref (He.ga K x)) (.type n) = some b)
 | .sib xs => xs.all fun x => xs.all fun y => decide (kitOne K (.ref (He.ga K x)) (.ref (He.ga K y)) = some (decide (x = y)))
 | .veT xs n => xs.all fun x => decide (kitOne K (.ref (He.ga K x)) (.type n) = some true)
 | .exA xs y => xs.all fun x => decide (exmOne K (.ref (He.ga K x)) (.ref (He.ga K y)) = some true)
section
variable {K : Frag} {x : Str}
theorem oex_ok (c : (Fx.oex x).ok K = true) : OexC K (He.ga K x) := by
 have ⟨shape, c⟩ := He.ba (show oexB K (He.ga K x) = true from c)
 have ⟨sets, c⟩ := He.ba c
 have ⟨under, c⟩ := He.ba c
 have ⟨typ, kept⟩ := He.ba c
 refine ⟨?_, He.eqO_ok sets, of_decide_eq_true under, of_decide_eq_true typ, kept⟩
 split at shape
 ·rename_i dd cd sl look
  split at shape
  ·rename_i C' bm k0 k1 k2 k3 n k5 em es
   simp only [Bool.and_eq_true, decide_eq_true_eq, Bool.not_eq_true'] at shape
   obtain ⟨⟨⟨⟨here, new⟩, noDel⟩, dict⟩, tail⟩ := shape
   obtain ⟨nm, bs, mro, ns, qn, hd, sn, sub, ab, col, del⟩ := cd
   obtain ⟨ls⟩ := sl
   cases em; cases es; cases here; cases new; cases noDel; cases dict
   exact ⟨_, _, _, _, _, _, _, _, _, _, _, _, _, _, _, look, tail⟩
  ·cases shape
 ·cases shape
theorem ini_ok (c : (Fx.ini x).ok K = true) : findIn K (.ref (He.ga K x)) "__init__" = some (some (.ref (He.ma K (He.ga K x) "__init__"))) ∧ typeIn K (.ref (He.ma K (He.ga K x) "__init__")) = some (.type "function") := by
 obtain ⟨c1, c2⟩ := He.ba c
 exact ⟨He.eqO_ok c1, of_decide_eq_true c2⟩
theorem bas_ok (c : (Fx.bas x).ok K = true) : BasF K (He.ga K x) := by
 obtain ⟨c1, c⟩ := He.ba c
 obtain ⟨c2, c3⟩ := He.ba c
 exact ⟨c1, He.eqO_ok c2, cvB_ok c3⟩
theorem exf_ok (c : (Fx.exf x).ok K = true) : ExcF K (He.ga K x) := by
 have ⟨k1, c⟩ := He.ba (show exfB K x = true from c)
 have ⟨k2, c⟩ := He.ba c
 have ⟨k3, c⟩ := He.ba c
 have ⟨k4, c⟩ := He.ba c
 have ⟨k5, c⟩ := He.ba c
 have ⟨k6, c⟩ := He.ba c
 have ⟨k7, k8⟩ := He.ba c
 exact { hg := He.eqO_ok k1, hk := He.eqO_ok k2, hs := of_decide_eq_true k3, hd := k4, ha := He.eqO_ok k5, hn := He.eqO_ok k6, ht := of_decide_eq_true k7, hm := of_decide_eq_true k8 }
theorem exfs_ok {xs : List Str} (c : (Fx.exfs xs).ok K = true) (hx : x ∈ xs) : ExcF K (He.ga K x) := exf_ok (x := x) (List.all_eq_true.mp c x hx)
theorem nov_ok {f : Str} (c : (Fx.nov x f).ok K = true) : findIn K (.ref (He.ga K x)) f = some none := He.eqO_ok c
theorem sib_ok {xs : List Str} {y : Str} (c : (Fx.sib xs).ok K = true) (hx : x ∈ xs) (hy : y ∈ xs) : kitOne K (.ref (He.ga K x)) (.ref (He.ga K y)) = some (decide (x = y)) :=
 of_decide_eq_true (List.all_eq_true.mp (List.all_eq_true.mp c x hx) y hy)
theorem veT_ok {xs : List Str} {n : String} (c : (Fx.veT xs n).ok K = true) (hx : x ∈ xs) : kitOne K (.ref (He.ga K x)) (.type n) = some true := of_decide_eq_true (List.all_eq_true.mp c x hx)
theorem exA_ok {xs : List Str} {y : Str} (c : (Fx.exA xs y).ok K = true) (hx : x ∈ xs) : exmOne K (.ref (He.ga K x)) (.ref (He.ga K y)) = some true := of_decide_eq_true (List.all_eq_true.mp c x hx)
end
abbrev AlX : Type := He.AlD × Bool
def obsX (fa : List He.Fa) (fn : List He.DefD) (fx : List Fx) (K : Frag) : AlX := (He.obsD fa fn K, fx.all fun f => f.ok K)
def SaysX (fa : List He.Fa) (fn : List He.DefD) (fx : List Fx) (K : Frag) : Prop := obsX fa fn fx K = (He.valD fn, true)
section
variable {fa : List He.Fa} {fn : List He.DefD} {fx : List Fx} {K : Frag}
theorem SaysX.d (c : SaysX fa fn fx K) : He.SaysD fa fn K := congrArg (fun z : AlX => z.1) c
theorem SaysX.fact (c : SaysX fa fn fx K) (i : Nat) {f : Fx} (h : fx[i]? = some f) : f.ok K = true := by
 have c1 : (fx.all fun f => f.ok K) = true := congrArg (fun z : AlX => z.2) c
 exact List.all_eq_true.mp c1 f (List.mem_of_getElem? h)
end
/-- a def of the head by its resolved body -/
theorem fn_DF {n : SN} {P : Program} {w : World} {K : PySem.W.Frag} {mg : Str → Option Value} {base : Heap} {hot : Bool} {k : Nat} {f : Addr} {fd : FuncData} {x qual : Str} {params : Arguments} {body : List Stmt} {scope : Scope} {dvs : List V} {kws : List (Str × V)} {ps : List Str} {T : TR} {b : RSs} {G : Option (Addr × Obj) → Gs} {g : Gd}
  (F : FunD K x qual params body scope dvs kws f fd) (S : FnScope n.N ps scope)
  (hck : chkSs n scope b body = true) (hG : ∀ m, (G m).m0 = m) (hg : ∀ m, (G m).toGd = g) (ok : ∀ m, GOk n P w K mg base (G m).toGm k) (xm : ∀ m j x kd, (G m).xk j = some kd → n.cls[j]? = some x → MkF P w K mg base k ((G m).cl j) kd)
  (hm : Meets n G ps.length hot T b) : FnG P w K mg base hot (k + 1) f fd ps (spD g T) := by
 obtain ⟨oc, od, dV, kV, doc, pm, an, cdv, ct, osl, rfl, lk, hcd, _, _⟩ := F.ex
 exact fn_D lk hcd S hck hG hg ok xm hm
theorem fn_initF {P : Program} {w : World} {K : PySem.W.Frag} {mg : Str → Option Value} {base : Heap} {k : Nat} {f : Addr} {fd : FuncData} {x qual : Str} {params : Arguments} {body : List Stmt} {scope : Scope} {dvs : List V} {kws : List (Str × V)} {N : List Str} {C B : Addr} {z fl : Str}
  (F : FunD K x qual params body scope dvs kws f fd) (S : FnScope N N scope) (hb : initB N scope fl body z = true) (hz : mg z = some (.ref B)) (bf : BasF K B) (T : OexC K C) (no : PySem.W.findIn K (.ref C) fl = some none) : FnG P w K mg base false (k + 1) f fd N (spI C fl) := by
 obtain ⟨oc, od, dV, kV, doc, pm, an, cdv, ct, osl, rfl, lk, hcd, _, _⟩ := F.ex
 exact fn_init lk hcd S hb hz bf T no
end Sv
/-! Sv16: a row's tables; all its defs, one after another. -/
namespace Sv
open PySem PySem.Spec PyProof.Rows L2
open L2H (RoomH)
structure Tb where
 fns : List En
 cls : List Str
 gvs : List Str
 tc : List (Option TR)
 th : List (Option TR)
 gv : List D
 xk : List (Option XKd)
 /-- how many defs one def may call: those of lower levels -/
 hd : List Nat
def Tb.lo (t : Tb) (i : Nat) : Nat := t.hd.getD i 0
def Tb.sn (t : Tb) (N : List Str) : SN := ⟨N, t.fns, t.cls, t.gvs⟩
def Tb.T (t : Tb) (h : Bool) (j : Nat) : Option TR := (if h = true then t.th else t.tc)[j]?.join
def Tb.C (t : Tb) (K : PySem.W.Frag) (j : Nat) : Addr := He.ga K (t.cls.getD j "")
def Tb.M (t : Tb) (K : PySem.W.Frag) (j : Nat) : Addr := match t.fns[j]? with
 | some (.mt C _) => He.ga K C
 | _ => 0
def Tb.G (t : Tb) (K : PySem.W.Frag) (i : Nat) (m : Option (Addr × Obj)) : Gs :=
 { K := K, m0 := m, fn := fun h j => if j < t.lo i then t.T h j else none, gv := fun j => t.gv.getD j .non, cl := fun j => t.C K j, mc := fun j => t.M K j, xk := fun j => t.xk[j]?.join }
structure TbOk (t : Tb) (K : PySem.W.Frag) (mg : Str → Option Value) : Prop where
 cl : ∀ x, x ∈ t.cls → mg x = some (.ref (He.ga K x))
 gv : ∀ j x, t.gvs[j]? = some x → ∃ v u, mg x = some u ∧ RelV v u ∧ ∀ S H, Rep ⟨K⟩ S H (t.gv.getD j .non) v
 bt : ∀ x, x ∈ bnames → mg x = none
/-- where a def stands -/
def EnOk (K : PySem.W.Frag) (mg : Str → Option Value) (f : Addr) : En → Prop
 | .fn x => mg x = some (.ref f) ∧ PySem.W.keepIn K (.ref f) = true
 | .mt C m => Cls K (He.ga K C) ∧ Meth K (He.ga K C) m f ∧ (m = "__init__" → mg C = some (.ref (He.ga K C)) ∧ Mk K (He.ga K C) f)
def AllOk (t : Tb) (P : Program) (w : World) (K : PySem.W.Frag) (mg : Str → Option Value) (base : Heap) (i d : Nat) : Prop := ∀ h j T x, j < i → t.T h j = some T → t.fns[j]? = some x →
 ∃ f fd ps, EnOk K mg f x ∧ L2.Binds K fd ps [] ∧ FnG P w K mg base h (2 * d + 2) f fd ps (spD ⟨K⟩ T)
section
variable {t : Tb} {P : Program} {w : World} {K : PySem.W.Frag} {mg : Str → Option Value} {base : Heap} {i d : Nat}
theorem AllOk.zero : AllOk t P w K mg base 0 0 := fun h j T x hj => absurd hj (Nat.not_lt_zero _)
theorem AllOk.step {e : Nat} (A : AllOk t P w K mg base i e) (he : e ≤ d + 1) {x : En} {f : Addr} {fd : FuncData} {ps : List Str} (hx : t.fns[i]? = some x) (at_f : EnOk K mg f x) (b : L2.Binds K fd ps [])
  (hc : ∀ T, t.T false i = some T → FnG P w K mg base false (2 * d + 4) f fd ps (spD ⟨K⟩ T)) (hh : ∀ T, t.T true i = some T → FnG P w K mg base true (2 * d + 4) f fd ps (spD ⟨K⟩ T)) : AllOk t P w K mg base (i + 1) (d + 1) := by
 intro h j T y hj hT hy
 by_cases e : j < i
 ·obtain ⟨f, fd, ps, h1, h2, F⟩ := A h j T y e hT hy
  exact ⟨f, fd, ps, h1, h2, F.mono (by omega)⟩
 ·have e : j = i := by omega
  subst e
  rw [hx] at hy
  cases hy
  refine ⟨f, fd, ps, at_f, b, ?_⟩
  cases h with
  | false => exact hc T hT
  | true => exact hh T hT
theorem AllOk.gok (A : AllOk t P w K mg base (t.lo i) d) (ok : TbOk t K mg) {N : List Str} (nd : N.Nodup) (m : Option (Addr × Obj)) : GOk (t.sn N) P w K mg base (t.G K i m).toGm (2 * d + 3) where
 K := rfl
 nd := nd
 fn := fun h j T x hT hx => by
  have hT : (if j < t.lo i then t.T h j else none) = some T := hT
  split at hT
  ·rename_i hj
   obtain ⟨f, fd, ps, h1, h2, F⟩ := A h j T _ hj hT hx
   exact ⟨f, fd, ps, h1.1, h1.2, h2, F.mono (by omega)⟩
  ·cases hT
 meth := fun h j T C m hT hx => by
  have hT : (if j < t.lo i then t.T h j else none) = some T := hT
  split at hT
  ·rename_i hj
   obtain ⟨f, fd, ps, h1, h2, F⟩ := A h j T _ hj hT hx
   have e : t.M K j = He.ga K C := by
    have hx : t.fns[j]? = some (.mt C m) := hx
    unfold Tb.M
    rw [hx]
   show ∃ f fd ps, Cls K (t.M K j) ∧ Meth K (t.M K j) m f ∧ _
   rw [e]
   exact ⟨f, fd, ps, h1.1, h1.2.1, h2, F.mono (by omega)⟩
  ·cases hT
 made := fun j T C hT hx => by
  have hT : (if j < t.lo i then t.T false j else none) = some T := hT
  split at hT
  ·rename_i hj
   obtain ⟨f, fd, ps, h1, h2, F⟩ := A false j T _ hj hT hx
   have e : t.M K j = He.ga K C := by
    have hx : t.fns[j]? = some (.mt C "__init__") := hx
    unfold Tb.M
    rw [hx]
   show mg C = some (.ref (t.M K j)) ∧ ∃ f fd ps kI, Mk K (t.M K j) f ∧ _
   rw [e]
   exact ⟨(h1.2.2 rfl).1, f, fd, ps, _, (h1.2.2 rfl).2, h2, Nat.le_refl _, F⟩
  ·cases hT
 gv := ok.gv
 cl := fun j x hx => by
  have hx : t.cls[j]? = some x := hx
  have e : t.cls.getD j "" = x := by rw [List.getD_eq_getElem?_getD, hx]; rfl
  show mg x = some (.ref (He.ga K (t.cls.getD j "")))
  rw [e]
  exact ok.cl x (List.mem_of_getElem? hx)
 bt := ok.bt
/-- the errors, by the row -/
def XOk (t : Tb) (P : Program) (w : World) (K : PySem.W.Frag) (mg : Str → Option Value) (base : Heap) : Prop := ∀ (j : Nat) (x : Str) (kd : XKd), t.xk[j]?.join = some kd → t.cls[j]? = some x → MkF P w K mg base 2 (He.ga K x) kd
theorem MkF.mono {C : Addr} {kd : XKd} {j k : Nat} (h : MkF P w K mg base j C kd) (hj : j ≤ k) : MkF P w K mg base k C kd := by
 cases h with
 | fld T iC tI F b hk => exact .fld T iC tI F b (Nat.le_trans hk hj)
 | bare Fb q kC e1 e2 => exact .bare Fb q kC e1 e2
/-- one def of the row -/
theorem fn_row {hot : Bool} {f : Addr} {fd : FuncData} {x qual : Str} {params : Arguments} {body : List Stmt} {scope : Scope} {dvs : List V} {kws : List (Str × V)} {N ps : List Str} {T : TR} {b : RSs}
  (A : AllOk t P w K mg base (t.lo i) d) (ok : TbOk t K mg) (xo : XOk t P w K mg base) (F : FunD K x qual params body scope dvs kws f fd) (S : FnScope N ps scope) (hck : chkSs (t.sn N) scope b body = true) (hm : Meets (t.sn N) (t.G K i) ps.length hot T b) : FnG P w K mg base hot (2 * d + 4) f fd ps (spD ⟨K⟩ T) := by
 refine fn_DF (n := t.sn N) (G := t.G K i) (k := 2 * d + 3) F S hck (fun _ => rfl) (fun _ => rfl) (fun m => A.gok ok S.nd m) (fun m j y kd h hy => ?_) hm
 have hy : t.cls[j]? = some y := hy
 have e : t.cls.getD j "" = y := by rw [List.getD_eq_getElem?_getD, hy]; rfl
 show MkF P w K mg base (2 * d + 3) (He.ga K (t.cls.getD j "")) kd
 rw [e]
 exact (xo j y kd h hy).mono (by omega)
end
end Sv
/-! Sv17: the reading, step by step. -/
namespace Sv
open PySem PySem.Spec PyProof.Rows L2
/-- one step of the reading: what is left to show -/
class Rdg (p : Prop) (q : outParam Prop) : Prop where
 go : q → p
class M0 (m : Option (Addr × Obj)) : Prop where
 out : m = none
instance {t : Tb} {K : PySem.W.Frag} {i : Nat} : M0 (t.G K i none).toGm.m0 := ⟨rfl⟩
section
variable {G : Gm} {δ : DS} {S : SS} {Y : XD'} {K : DK} {KT : Bool → SS → Prop} {KL : List D → SS → Prop} {a b c : RE} {es : RL} {d x y : D} {i j : Int} {p : Addr} {op : Operator}
theorem d_var {i : Nat} (h : δ[i]? = some (some d)) (k : K d S) : den G (.var i) δ S Y K := by rw [den]; dsimp only; rw [h]; exact k
theorem d_con {r : RC} (k : K r.d S) : den G (.con r) δ S Y K := by rw [den]; exact k
theorem d_bi {b : Bn} (hb : b.needs G.m0) (h : dens G es δ S Y fun ds S1 => b.den ds S1 K) : den G (.bi b es) δ S Y K := by rw [den]; exact ⟨hb, h⟩
theorem d_int {i : Int} (k : K (.int i) S) : den G (.con (.int i)) δ S Y K := d_con k
instance s_d_int {i : Int} : Rdg (den G (.con (.int i)) δ S Y K) (K (.int i) S) := ⟨d_int⟩
theorem d_str {i : Str} (k : K (.str i) S) : den G (.con (.str i)) δ S Y K := d_con k
instance s_d_str {i : Str} : Rdg (den G (.con (.str i)) δ S Y K) (K (.str i) S) := ⟨d_str⟩
theorem d_bl {i : Bool} (k : K (.bl i) S) : den G (.con (.bl i)) δ S Y K := d_con k
instance s_d_bl {i : Bool} : Rdg (den G (.con (.bl i)) δ S Y K) (K (.bl i) S) := ⟨d_bl⟩
theorem d_non (k : K .non S) : den G (.con .non) δ S Y K := d_con k
instance s_d_non  : Rdg (den G (.con .non) δ S Y K) (K .non S) := ⟨d_non⟩
theorem dq_len (h : dens G es δ S Y fun ds S1 => Bn.len.den ds S1 K) : den G (.bi .len es) δ S Y K := d_bi trivial h
instance s_dq_len  : Rdg (den G (.bi .len es) δ S Y K) (dens G es δ S Y fun ds S1 => Bn.len.den ds S1 K) := ⟨dq_len⟩
theorem dq_abs (h : dens G es δ S Y fun ds S1 => Bn.abs.den ds S1 K) : den G (.bi .abs es) δ S Y K := d_bi trivial h
instance s_dq_abs  : Rdg (den G (.bi .abs es) δ S Y K) (dens G es δ S Y fun ds S1 => Bn.abs.den ds S1 K) := ⟨dq_abs⟩
theorem d_glb {i : Nat} (k : K (G.gv i) S) : den G (.glb i) δ S Y K := by rw [den]; exact k
theorem d_bin (h : den G a δ S Y fun x S1 => den G b δ S1 Y fun y S2 => opD op x y S2 K) : den G (.bin op a b) δ S Y K := by rw [den]; exact h
instance s_d_bin  : Rdg (den G (.bin op a b) δ S Y K) (den G a δ S Y fun x S1 => den G b δ S1 Y fun y S2 => opD op x y S2 K) := ⟨d_bin⟩
theorem d_neg (h : den G a δ S Y fun x S1 => ∃ i, x = .int i ∧ K (.int (-i)) S1) : den G (.neg a) δ S Y K := by rw [den]; exact h
instance s_d_neg  : Rdg (den G (.neg a) δ S Y K) (den G a δ S Y fun x S1 => ∃ i, x = .int i ∧ K (.int (-i)) S1) := ⟨d_neg⟩
theorem d_nt (h : den G a δ S Y fun x S1 => truD x S1 fun b => K (.bl (!b)) S1) : den G (.nt a) δ S Y K := by rw [den]; exact h
instance s_d_nt  : Rdg (den G (.nt a) δ S Y K) (den G a δ S Y fun x S1 => truD x S1 fun b => K (.bl (!b)) S1) := ⟨d_nt⟩
theorem d_and (h : denAnd G es δ S Y K) : den G (.and es) δ S Y K := by rw [den]; exact h
instance s_d_and  : Rdg (den G (.and es) δ S Y K) (denAnd G es δ S Y K) := ⟨d_and⟩
theorem d_or (h : denOr G es δ S Y K) : den G (.or es) δ S Y K := by rw [den]; exact h
instance s_d_or  : Rdg (den G (.or es) δ S Y K) (denOr G es δ S Y K) := ⟨d_or⟩
theorem d_and1 (h : den G a δ S Y K) : denAnd G (.cons a .nil) δ S Y K := by rw [denAnd]; exact h
instance s_d_and1  : Rdg (denAnd G (.cons a .nil) δ S Y K) (den G a δ S Y K) := ⟨d_and1⟩
theorem d_or1 (h : den G a δ S Y K) : denOr G (.cons a .nil) δ S Y K := by rw [denOr]; exact h
instance s_d_or1  : Rdg (denOr G (.cons a .nil) δ S Y K) (den G a δ S Y K) := ⟨d_or1⟩
theorem d_and2 (h : den G a δ S Y fun x S1 => truD x S1 fun k => if k = true then denAnd G (.cons b es) δ S1 Y K else K x S1) : denAnd G (.cons a (.cons b es)) δ S Y K := by rw [denAnd]; exact h
instance s_d_and2  : Rdg (denAnd G (.cons a (.cons b es)) δ S Y K) (den G a δ S Y fun x S1 => truD x S1 fun k => if k = true then denAnd G (.cons b es) δ S1 Y K else K x S1) := ⟨d_and2⟩
theorem d_or2 (h : den G a δ S Y fun x S1 => truD x S1 fun k => if k = true then K x S1 else denOr G (.cons b es) δ S1 Y K) : denOr G (.cons a (.cons b es)) δ S Y K := by rw [denOr]; exact h
instance s_d_or2  : Rdg (denOr G (.cons a (.cons b es)) δ S Y K) (den G a δ S Y fun x S1 => truD x S1 fun k => if k = true then K x S1 else denOr G (.cons b es) δ S1 Y K) := ⟨d_or2⟩
theorem d_ife (h : denT G c δ S Y fun k S1 => if k = true then den G a δ S1 Y K else den G b δ S1 Y K) : den G (.ife c a b) δ S Y K := by rw [den]; exact h
instance s_d_ife  : Rdg (den G (.ife c a b) δ S Y K) (denT G c δ S Y fun k S1 => if k = true then den G a δ S1 Y K else den G b δ S1 Y K) := ⟨d_ife⟩
theorem d_cmp {op : CmpOp} (h : den G a δ S Y fun x S1 => den G b δ S1 Y fun y S2 => cmpE op x y S2 K) : den G (.cmp op a b) δ S Y K := by rw [den]; exact h
instance s_d_cmp {op : CmpOp} : Rdg (den G (.cmp op a b) δ S Y K) (den G a δ S Y fun x S1 => den G b δ S1 Y fun y S2 => cmpE op x y S2 K) := ⟨d_cmp⟩
theorem d_chn {o1 o2 : CmpOp} (h : den G a δ S Y fun x S1 => den G b δ S1 Y fun y S2 => cmpE o1 x y S2 fun z S3 => ∃ k, z = .bl k ∧ if k = true then den G c δ S3 Y fun w S4 => cmpE o2 y w S4 K else K (.bl false) S3) : den G (.chn o1 o2 a b c) δ S Y K := by rw [den]; exact h
instance s_d_chn {o1 o2 : CmpOp} : Rdg (den G (.chn o1 o2 a b c) δ S Y K) (den G a δ S Y fun x S1 => den G b δ S1 Y fun y S2 => cmpE o1 x y S2 fun z S3 => ∃ k, z = .bl k ∧ if k = true then den G c δ S3 Y fun w S4 => cmpE o2 y w S4 K else K (.bl false) S3) := ⟨d_chn⟩
theorem d_lst (h : dens G es δ S Y fun ds S1 => ds.length ≤ sizeLine ∧ K (.lst ds) S1) : den G (.lst false es) δ S Y K := by
 rw [den]; simpa only [Bool.false_eq_true, if_false] using h
instance s_d_lst  : Rdg (den G (.lst false es) δ S Y K) (dens G es δ S Y fun ds S1 => ds.length ≤ sizeLine ∧ K (.lst ds) S1) := ⟨d_lst⟩
theorem d_lstC (h : dens G es δ S Y fun ds S1 => ds.length ≤ sizeLine ∧ ∀ p, S1 p = none → K (.obj p) (S1.set p (.lst ds))) : den G (.lst true es) δ S Y K := by
 rw [den]; simpa only [if_true] using h
instance s_d_lstC  : Rdg (den G (.lst true es) δ S Y K) (dens G es δ S Y fun ds S1 => ds.length ≤ sizeLine ∧ ∀ p, S1 p = none → K (.obj p) (S1.set p (.lst ds))) := ⟨d_lstC⟩
theorem d_tup (h : dens G es δ S Y fun ds S1 => ds.length ≤ sizeLine ∧ K (.tup ds) S1) : den G (.tup es) δ S Y K := by rw [den]; exact h
instance s_d_tup  : Rdg (den G (.tup es) δ S Y K) (dens G es δ S Y fun ds S1 => ds.length ≤ sizeLine ∧ K (.tup ds) S1) := ⟨d_tup⟩
theorem d_ix (h : den G a δ S Y fun x S1 => den G b δ S1 Y fun y S2 => ixD x y S2 K) : den G (.ix a b) δ S Y K := by rw [den]; exact h
instance s_d_ix  : Rdg (den G (.ix a b) δ S Y K) (den G a δ S Y fun x S1 => den G b δ S1 Y fun y S2 => ixD x y S2 K) := ⟨d_ix⟩
theorem d_sl {lo hi : RO} (h : den G a δ S Y fun x S1 => denO G lo δ S1 Y fun l S2 => denO G hi δ S2 Y fun u S3 => slD x l u S3 K) : den G (.sl a lo hi) δ S Y K := by rw [den]; exact h
instance s_d_sl {lo hi : RO} : Rdg (den G (.sl a lo hi) δ S Y K) (den G a δ S Y fun x S1 => denO G lo δ S1 Y fun l S2 => denO G hi δ S2 Y fun u S3 => slD x l u S3 K) := ⟨d_sl⟩
theorem d_nn {KO : Option Int → SS → Prop} (k : KO none S) : denO G .nn δ S Y KO := by rw [denO]; exact k
instance s_d_nn {KO : Option Int → SS → Prop} : Rdg (denO G .nn δ S Y KO) (KO none S) := ⟨d_nn⟩
theorem d_ss {KO : Option Int → SS → Prop} (k : den G a δ S Y fun d S1 => ∃ i, d = .int i ∧ KO (some i) S1) : denO G (.ss a) δ S Y KO := by rw [denO]; exact k
instance s_d_ss {KO : Option Int → SS → Prop} : Rdg (denO G (.ss a) δ S Y KO) (den G a δ S Y fun d S1 => ∃ i, d = .int i ∧ KO (some i) S1) := ⟨d_ss⟩
theorem d_fld {f : Str} (h : den G a δ S Y fun x S1 => fldD G f x S1 K) : den G (.fld a f) δ S Y K := by rw [den]; exact h
instance s_d_fld {f : Str} : Rdg (den G (.fld a f) δ S Y K) (den G a δ S Y fun x S1 => fldD G f x S1 K) := ⟨d_fld⟩
theorem d_call {j : Nat} {T : TR} (hT : G.fn G.m0.isSome j = some T) (h : dens G es δ S Y fun ds S1 => T G.m0 ds S1 K fun C fs S' => Y C fs δ S') : den G (.call j es) δ S Y K := by rw [den]; exact ⟨T, hT, h⟩
theorem d_isi {cn : Cn} (h : den G a δ S Y fun x S1 => ∃ t b, tyD S1 x = some t ∧ tyOk G S1 x ∧ PySem.W.kitOne G.K t (cn.val G) = some b ∧ K (.bl b) S1) : den G (.isi a cn) δ S Y K := by rw [den]; exact h
instance s_d_isi {cn : Cn} : Rdg (den G (.isi a cn) δ S Y K) (den G a δ S Y fun x S1 => ∃ t b, tyD S1 x = some t ∧ tyOk G S1 x ∧ PySem.W.kitOne G.K t (cn.val G) = some b ∧ K (.bl b) S1) := ⟨d_isi⟩
theorem l_nil (k : KL [] S) : dens G .nil δ S Y KL := by rw [dens]; exact k
instance s_l_nil  : Rdg (dens G .nil δ S Y KL) (KL [] S) := ⟨l_nil⟩
theorem l_cons (k : den G a δ S Y fun d S1 => dens G es δ S1 Y fun ds S2 => KL (d :: ds) S2) : dens G (.cons a es) δ S Y KL := by rw [dens]; exact k
instance s_l_cons  : Rdg (dens G (.cons a es) δ S Y KL) (den G a δ S Y fun d S1 => dens G es δ S1 Y fun ds S2 => KL (d :: ds) S2) := ⟨l_cons⟩
theorem int_ex {Q : Int → Prop} (k : Q i) : ∃ j, D.int i = .int j ∧ Q j := ⟨i, rfl, k⟩
instance s_int_ex {Q : Int → Prop} : Rdg (∃ j, D.int i = .int j ∧ Q j) (Q i) := ⟨int_ex⟩
theorem bl_ex {b : Bool} {Q : Bool → Prop} (k : Q b) : ∃ j, D.bl b = .bl j ∧ Q j := ⟨b, rfl, k⟩
instance s_bl_ex {b : Bool} {Q : Bool → Prop} : Rdg (∃ j, D.bl b = .bl j ∧ Q j) (Q b) := ⟨bl_ex⟩
/-! tests -/
theorem t_nt (h : denT G a δ S Y fun b S1 => KT (!b) S1) : denT G (.nt a) δ S Y KT := by rw [denT]; exact h
instance s_t_nt  : Rdg (denT G (.nt a) δ S Y KT) (denT G a δ S Y fun b S1 => KT (!b) S1) := ⟨t_nt⟩
theorem t_and (h : denTAnd G es δ S Y KT) : denT G (.and es) δ S Y KT := by rw [denT]; exact h
instance s_t_and  : Rdg (denT G (.and es) δ S Y KT) (denTAnd G es δ S Y KT) := ⟨t_and⟩
theorem t_or (h : denTOr G es δ S Y KT) : denT G (.or es) δ S Y KT := by rw [denT]; exact h
instance s_t_or  : Rdg (denT G (.or es) δ S Y KT) (denTOr G es δ S Y KT) := ⟨t_or⟩
theorem t_and1 (h : denT G a δ S Y KT) : denTAnd G (.cons a .nil) δ S Y KT := by rw [denTAnd]; exact h
instance s_t_and1  : Rdg (denTAnd G (.cons a .nil) δ S Y KT) (denT G a δ S Y KT) := ⟨t_and1⟩
theorem t_or1 (h : denT G a δ S Y KT) : denTOr G (.cons a .nil) δ S Y KT := by rw [denTOr]; exact h
instance s_t_or1  : Rdg (denTOr G (.cons a .nil) δ S Y KT) (denT G a δ S Y KT) := ⟨t_or1⟩
theorem t_and2 (h : denT G a δ S Y fun k S1 => if k = true then denTAnd G (.cons b es) δ S1 Y KT else KT false S1) : denTAnd G (.cons a (.cons b es)) δ S Y KT := by rw [denTAnd]; exact h
instance s_t_and2  : Rdg (denTAnd G (.cons a (.cons b es)) δ S Y KT) (denT G a δ S Y fun k S1 => if k = true then denTAnd G (.cons b es) δ S1 Y KT else KT false S1) := ⟨t_and2⟩
theorem t_or2 (h : denT G a δ S Y fun k S1 => if k = true then KT true S1 else denTOr G (.cons b es) δ S1 Y KT) : denTOr G (.cons a (.cons b es)) δ S Y KT := by rw [denTOr]; exact h
instance s_t_or2  : Rdg (denTOr G (.cons a (.cons b es)) δ S Y KT) (denT G a δ S Y fun k S1 => if k = true then KT true S1 else denTOr G (.cons b es) δ S1 Y KT) := ⟨t_or2⟩
theorem t_cmp {op : CmpOp} (h : den G a δ S Y fun x S1 => den G b δ S1 Y fun y S2 => cmpE op x y S2 fun d S' => ∃ k, d = .bl k ∧ KT k S') : denT G (.cmp op a b) δ S Y KT := by rw [denT]; exact h
instance s_t_cmp {op : CmpOp} : Rdg (denT G (.cmp op a b) δ S Y KT) (den G a δ S Y fun x S1 => den G b δ S1 Y fun y S2 => cmpE op x y S2 fun d S' => ∃ k, d = .bl k ∧ KT k S') := ⟨t_cmp⟩
theorem t_chn {o1 o2 : CmpOp} (h : den G a δ S Y fun x S1 => den G b δ S1 Y fun y S2 => cmpE o1 x y S2 fun z S3 => ∃ k, z = .bl k ∧ if k = true then den G c δ S3 Y fun w S4 => cmpE o2 y w S4 fun d S' => ∃ k, d = .bl k ∧ KT k S' else ∃ k, D.bl false = .bl k ∧ KT k S3) : denT G (.chn o1 o2 a b c) δ S Y KT := by rw [denT]; exact h
instance s_t_chn {o1 o2 : CmpOp} : Rdg (denT G (.chn o1 o2 a b c) δ S Y KT) (den G a δ S Y fun x S1 => den G b δ S1 Y fun y S2 => cmpE o1 x y S2 fun z S3 => ∃ k, z = .bl k ∧ if k = true then den G c δ S3 Y fun w S4 => cmpE o2 y w S4 fun d S' => ∃ k, d = .bl k ∧ KT k S' else ∃ k, D.bl false = .bl k ∧ KT k S3) := ⟨t_chn⟩
theorem t_var {i : Nat} (h : δ[i]? = some (some d)) (k : truD d S fun b => KT b S) : denT G (.var i) δ S Y KT := by rw [denT]; dsimp only; rw [h]; exact k
theorem t_ix (h : den G a δ S Y fun x S1 => den G b δ S1 Y fun y S2 => ixD x y S2 fun d S3 => truD d S3 fun b => KT b S3) : denT G (.ix a b) δ S Y KT := by rw [denT]; exact h
instance s_t_ix  : Rdg (denT G (.ix a b) δ S Y KT) (den G a δ S Y fun x S1 => den G b δ S1 Y fun y S2 => ixD x y S2 fun d S3 => truD d S3 fun b => KT b S3) := ⟨t_ix⟩
theorem t_call {j : Nat} {T : TR} (hT : G.fn G.m0.isSome j = some T) (h : dens G es δ S Y fun ds S1 => T G.m0 ds S1 (fun d S3 => truD d S3 fun b => KT b S3) fun C fs S' => Y C fs δ S') : denT G (.call j es) δ S Y KT := by rw [denT]; exact ⟨T, hT, h⟩
theorem t_isi {cn : Cn} (h : den G a δ S Y fun x S1 => ∃ t b, tyD S1 x = some t ∧ tyOk G S1 x ∧ PySem.W.kitOne G.K t (cn.val G) = some b ∧ KT b S1) : denT G (.isi a cn) δ S Y KT := by rw [denT]; exact h
instance s_t_isi {cn : Cn} : Rdg (denT G (.isi a cn) δ S Y KT) (den G a δ S Y fun x S1 => ∃ t b, tyD S1 x = some t ∧ tyOk G S1 x ∧ PySem.W.kitOne G.K t (cn.val G) = some b ∧ KT b S1) := ⟨t_isi⟩
theorem t_fld {f : Str} (h : den G a δ S Y fun x S1 => fldD G f x S1 fun d S3 => truD d S3 fun b => KT b S3) : denT G (.fld a f) δ S Y KT := by rw [denT]; exact h
instance s_t_fld {f : Str} : Rdg (denT G (.fld a f) δ S Y KT) (den G a δ S Y fun x S1 => fldD G f x S1 fun d S3 => truD d S3 fun b => KT b S3) := ⟨t_fld⟩
theorem tr_bl {b : Bool} {Q : Bool → Prop} (k : Q b) : truD (.bl b) S Q := k
instance s_tr_bl {b : Bool} {Q : Bool → Prop} : Rdg (truD (.bl b) S Q) (Q b) := ⟨tr_bl⟩
theorem tr_int {Q : Bool → Prop} (k : Q (i != 0)) : truD (.int i) S Q := k
instance s_tr_int {Q : Bool → Prop} : Rdg (truD (.int i) S Q) (Q (i != 0)) := ⟨tr_int⟩
/-! operators -/
theorem o_add (k : K (.int (i + j)) S) : opD .Add (.int i) (.int j) S K := k
instance s_o_add  : Rdg (opD .Add (.int i) (.int j) S K) (K (.int (i + j)) S) := ⟨o_add⟩
theorem o_sub (k : K (.int (i - j)) S) : opD .Sub (.int i) (.int j) S K := k
instance s_o_sub  : Rdg (opD .Sub (.int i) (.int j) S K) (K (.int (i - j)) S) := ⟨o_sub⟩
theorem o_mul (h : CMul i j ∨ CMulW i j) (k : K (.int (i * j)) S) : opD .Mult (.int i) (.int j) S K := ⟨h, k⟩
theorem o_div (h : CDivW i j) (k : K (.int (i / j)) S) : opD .FloorDiv (.int i) (.int j) S K := ⟨h, k⟩
theorem o_mod (h : 0 < j) (k : K (.int (i % j)) S) : opD .Mod (.int i) (.int j) S K := ⟨h, k⟩
theorem o_addL {l m : List D} (h : l.length + m.length ≤ sizeLine) (k : K (.lst (l ++ m)) S) : opD .Add (.lst l) (.lst m) S K := ⟨h, k⟩
theorem o_addS {l m : Str} (h : l.length + m.length ≤ sizeLine) (k : K (.str (l ++ m)) S) : opD .Add (.str l) (.str m) S K := ⟨h, k⟩
theorem eqvI : D.eqv (.int i) (.int j) = decide (i = j) := by
 simp only [D.eqv, D.py, PyData.eqv]
 rw [Bool.eq_iff_iff]; simp
theorem c_eqI (k : K (.bl (decide (i = j))) S) : cmpE .Eq (.int i) (.int j) S K := .inl ⟨rfl, rfl, by rw [Bool.false_xor]; rw [← eqvI] at k; exact k⟩
instance s_c_eqI  : Rdg (cmpE .Eq (.int i) (.int j) S K) (K (.bl (decide (i = j))) S) := ⟨c_eqI⟩
theorem c_neI (k : K (.bl (!decide (i = j))) S) : cmpE .NotEq (.int i) (.int j) S K := .inl ⟨rfl, rfl, by rw [Bool.true_xor]; rw [← eqvI] at k; exact k⟩
instance s_c_neI  : Rdg (cmpE .NotEq (.int i) (.int j) S K) (K (.bl (!decide (i = j))) S) := ⟨c_neI⟩
theorem c_ltI (k : K (.bl (decide (i < j))) S) : cmpE .Lt (.int i) (.int j) S K := .inl k
instance s_c_ltI  : Rdg (cmpE .Lt (.int i) (.int j) S K) (K (.bl (decide (i < j))) S) := ⟨c_ltI⟩
theorem c_leI (k : K (.bl (decide (i ≤ j))) S) : cmpE .LtE (.int i) (.int j) S K := k
instance s_c_leI  : Rdg (cmpE .LtE (.int i) (.int j) S K) (K (.bl (decide (i ≤ j))) S) := ⟨c_leI⟩
theorem c_gtI (k : K (.bl (decide (j < i))) S) : cmpE .Gt (.int i) (.int j) S K := k
instance s_c_gtI  : Rdg (cmpE .Gt (.int i) (.int j) S K) (K (.bl (decide (j < i))) S) := ⟨c_gtI⟩
theorem c_geI (k : K (.bl (decide (j ≤ i))) S) : cmpE .GtE (.int i) (.int j) S K := k
instance s_c_geI  : Rdg (cmpE .GtE (.int i) (.int j) S K) (K (.bl (decide (j ≤ i))) S) := ⟨c_geI⟩
theorem c_eqV {x y : D} (hx : D.okd 60 (vw S x) = true) (hy : D.okd 60 (vw S y) = true) (k : K (.bl (D.eqv (vw S x) (vw S y))) S) : cmpE .Eq x y S K := .inl ⟨hx, hy, by rw [Bool.false_xor]; exact k⟩
theorem c_neV {x y : D} (hx : D.okd 60 (vw S x) = true) (hy : D.okd 60 (vw S y) = true) (k : K (.bl (!D.eqv (vw S x) (vw S y))) S) : cmpE .NotEq x y S K := .inl ⟨hx, hy, by rw [Bool.true_xor]; exact k⟩
theorem vw_l {b : Addr} {l : List D} (h : S b = some (.lst l)) : vw S (.obj b) = .lst l := by simp only [vw, h]
theorem vw_k {b : Addr} {l : List (Key × D)} (h : S b = some (.dic l)) : vw S (.obj b) = .dic l := by simp only [vw, h]
theorem ix_o {l : List D} (h : S p = some (.lst l)) (e : atI l i = some d) (k : K d S) : ixD (.obj p) (.int i) S K := by
 unfold ixD; rw [vw_l h]; exact ⟨d, e, k⟩
theorem ix_l {l : List D} (e : atI l i = some d) (k : K d S) : ixD (.lst l) (.int i) S K := ⟨d, e, k⟩
theorem ix_t {l : List D} (e : atI l i = some d) (k : K d S) : ixD (.tup l) (.int i) S K := ⟨d, e, k⟩
theorem ix_s {z : Str} {c : Nat} (hz : z.length ≤ sizeLine) (e : atI z.cps.toList i = some c) (k : K (.str ⟨#[c]⟩) S) : ixD (.str z) (.int i) S K := ⟨c, hz, e, k⟩
theorem sl_l {l : List D} {lo hi : Option Int} (k : K (.lst (cutD l lo hi)) S) : slD (.lst l) lo hi S K := k
instance s_sl_l {l : List D} {lo hi : Option Int} : Rdg (slD (.lst l) lo hi S K) (K (.lst (cutD l lo hi)) S) := ⟨sl_l⟩
theorem sl_s {z : Str} {lo hi : Option Int} (hz : z.length ≤ sizeLine) (k : K (.str (cutS z lo hi)) S) : slD (.str z) lo hi S K := ⟨hz, k⟩
theorem len_l {l : List D} (k : K (.int l.length) S) : Bn.len.den [.lst l] S K := k
instance s_len_l {l : List D} : Rdg (Bn.len.den [.lst l] S K) (K (.int l.length) S) := ⟨len_l⟩
theorem len_t {l : List D} (k : K (.int l.length) S) : Bn.len.den [.tup l] S K := k
instance s_len_t {l : List D} : Rdg (Bn.len.den [.tup l] S K) (K (.int l.length) S) := ⟨len_t⟩
theorem len_s {z : Str} (hz : z.length ≤ sizeLine) (k : K (.int z.length) S) : Bn.len.den [.str z] S K := ⟨hz, k⟩
theorem abs_i (k : K (.int (if i < 0 then -i else i)) S) : Bn.abs.den [.int i] S K := k
instance s_abs_i  : Rdg (Bn.abs.den [.int i] S K) (K (.int (if i < 0 then -i else i)) S) := ⟨abs_i⟩
theorem fld_x {y C : Addr} {oe : Obj} {fs : List (Str × D)} {f : Str} (hm : G.m0 = some (y, oe)) (hF : ExcF G.K C) (hn : NoAttr G.K C f) (e : fs.lookup f = some d) (k : K d S) : fldD G f (.exc y oe C fs) S K := ⟨hm, hF, hn, d, e, k⟩
/-- a list of ints, a place -/
theorem atI_map {α : Type} {f : α → D} {l : List α} {k : Nat} {x : α} (h : l[k]? = some x) : atI (l.map f) (k : Int) = some (f x) := by
 have hk : k < l.length := by
  obtain ⟨z, _⟩ := List.getElem?_eq_some_iff.mp h
  exact z
 exact atI_nat (by rw [List.getElem?_map, h]; rfl)
end
section
variable {G : Gs} {δ : DS} {S : SS} {Y : XD'} {F : SE} {a b c e : RE} {r r2 : RSs} {s : RS} {d : D}
theorem ss_nil (h : F.nx δ S) : denSs G .nil δ S Y F := by rw [denSs]; exact h
instance s_ss_nil  : Rdg (denSs G .nil δ S Y F) (F.nx δ S) := ⟨ss_nil⟩
theorem ss_cons (h : denS G s δ S Y { F with nx := fun δ1 S1 => denSs G r δ1 S1 Y F }) : denSs G (.cons s r) δ S Y F := by rw [denSs]; exact h
instance s_ss_cons  : Rdg (denSs G (.cons s r) δ S Y F) (denS G s δ S Y { F with nx := fun δ1 S1 => denSs G r δ1 S1 Y F }) := ⟨ss_cons⟩
theorem ss_cut (J : DS → SS → Prop) (h : denS G s δ S Y { F with nx := J }) (h2 : ∀ δ1 S1, J δ1 S1 → denSs G r δ1 S1 Y F) : denSs G (.cut s r) δ S Y F := by rw [denSs]; exact ⟨J, h, h2⟩
theorem st_exp (h : den G.toGm e δ S Y fun _ S1 => F.nx δ S1) : denS G (.exp e) δ S Y F := by rw [denS]; exact h
instance s_st_exp  : Rdg (denS G (.exp e) δ S Y F) (den G.toGm e δ S Y fun _ S1 => F.nx δ S1) := ⟨st_exp⟩
theorem st_asg {i : Nat} (h : den G.toGm e δ S Y fun d S1 => F.nx (δ.set i (some d)) S1) : denS G (.asg [i] true e) δ S Y F := by
 rw [denS]; exact ⟨(fun z => nomatch z), h⟩
instance s_st_asg {i : Nat} : Rdg (denS G (.asg [i] true e) δ S Y F) (den G.toGm e δ S Y fun d S1 => F.nx (δ.set i (some d)) S1) := ⟨st_asg⟩
theorem st_asl {i : Nat} (h : den G.toGm e δ S Y fun d S1 => F.nx (δ.set i (some d)) S1) : denS G (.asl i e) δ S Y F := by rw [denS]; exact h
instance s_st_asl {i : Nat} : Rdg (denS G (.asl i e) δ S Y F) (den G.toGm e δ S Y fun d S1 => F.nx (δ.set i (some d)) S1) := ⟨st_asl⟩
theorem st_sti (h : den G.toGm c δ S Y fun z S1 => den G.toGm a δ S1 Y fun x S2 => den G.toGm b δ S2 Y fun y S3 => setD x y z S3 fun S4 => F.nx δ S4) : denS G (.sti a b c) δ S Y F := by rw [denS]; exact h
instance s_st_sti  : Rdg (denS G (.sti a b c) δ S Y F) (den G.toGm c δ S Y fun z S1 => den G.toGm a δ S1 Y fun x S2 => den G.toGm b δ S2 Y fun y S3 => setD x y z S3 fun S4 => F.nx δ S4) := ⟨st_sti⟩
theorem st_agi {op : Operator} (h : den G.toGm a δ S Y fun x S1 => den G.toGm b δ S1 Y fun y S2 => getD' x y S2 fun u S3 => den G.toGm e δ S3 Y fun w S4 => augD op u w S4 fun z S5 => setD x y z S5 fun S6 => F.nx δ S6) : denS G (.agi a b op e) δ S Y F := by rw [denS]; exact h
instance s_st_agi {op : Operator} : Rdg (denS G (.agi a b op e) δ S Y F) (den G.toGm a δ S Y fun x S1 => den G.toGm b δ S1 Y fun y S2 => getD' x y S2 fun u S3 => den G.toGm e δ S3 Y fun w S4 => augD op u w S4 fun z S5 => setD x y z S5 fun S6 => F.nx δ S6) := ⟨st_agi⟩
theorem st_ifs (h : denT G.toGm c δ S Y fun k S1 => if k = true then denSs G r δ S1 Y F else denSs G r2 δ S1 Y F) : denS G (.ifs c r r2) δ S Y F := by rw [denS]; exact h
instance s_st_ifs  : Rdg (denS G (.ifs c r r2) δ S Y F) (denT G.toGm c δ S Y fun k S1 => if k = true then denSs G r δ S1 Y F else denSs G r2 δ S1 Y F) := ⟨st_ifs⟩
theorem st_ret (h : den G.toGm e δ S Y F.rt) : denS G (.ret e) δ S Y F := by rw [denS]; exact h
instance s_st_ret  : Rdg (denS G (.ret e) δ S Y F) (den G.toGm e δ S Y F.rt) := ⟨st_ret⟩
theorem st_retN (h : F.rt .non S) : denS G .retN δ S Y F := by rw [denS]; exact h
instance s_st_retN  : Rdg (denS G .retN δ S Y F) (F.rt .non S) := ⟨st_retN⟩
theorem st_pas (h : F.nx δ S) : denS G .pas δ S Y F := by rw [denS]; exact h
instance s_st_pas  : Rdg (denS G .pas δ S Y F) (F.nx δ S) := ⟨st_pas⟩
theorem st_rai {j : Nat} {es : RL} {kd : XKd} (hm : G.m0 = none) (hk : G.xk j = some kd) (ha : es.len = kd.ar) (h : dens G.toGm es δ S Y fun ds S1 => ∃ fs, mkX kd ds = some fs ∧ Y (G.cl j) fs δ S1) : denS G (.rai j es) δ S Y F := by rw [denS]; exact ⟨hm, kd, hk, ha, h⟩
theorem set_o {p : Addr} {l : List D} {i : Int} {j : Nat} {z : D} {K : SS → Prop} (h : S p = some (.lst l)) (e : ixN l.length i = some j) (k : K (S.set p (.lst (l.set j z)))) : setD (.obj p) (.int i) z S K := by
 unfold setD; simp only [h]; exact ⟨i, j, rfl, e, k⟩
theorem get_o {p : Addr} {l : List D} {i : Int} {K : DK} (h : S p = some (.lst l)) (e : atI l i = some d) (k : K d S) : getD' (.obj p) (.int i) S K := by
 unfold getD'; simp only [h]; exact ⟨i, d, rfl, e, k⟩
theorem aug_i {i j : Int} {K : DK} (k : K (.int (i + j)) S) : augD .Add (.int i) (.int j) S K := k
instance s_aug_i {i j : Int} {K : DK} : Rdg (augD .Add (.int i) (.int j) S K) (K (.int (i + j)) S) := ⟨aug_i⟩
end
end Sv
/-! Sv18: comprehensions, isinstance of errors, loops: the forms one uses. -/
namespace Sv
open PySem PySem.Spec PyProof.Rows L2
section
variable {G : Gm} {δ : DS} {S : SS} {Y : XD'} {K : DK}
def LcK (G : Gm) (cell : Bool) (elt : RE) (tg : List Nat) (one : Bool) (c : RO) (own : List Nat) (δ : DS) (K : DK) (ds : List D) (ok : SS → Prop) (S1 : SS) : Prop :=
 ∀ p, S1 p = none → ∃ Iv : Nat → SS → Prop, Iv 0 (S1.set p (.lst [])) ∧ (∀ i S', Iv i S' → i ≤ ds.length → ok S') ∧
   (∀ i d S', ds[i]? = some d → Iv i S' → denTg tg one d (wipeD δ own) S' fun δ2 S2 => denC G c δ2 S2 noX fun b S3 =>
    if b = true then den G elt δ2 S3 noX fun y S4 => ∃ acc, S4 p = some (.lst acc) ∧ acc.length < sizeLine ∧ Iv (i + 1) (S4.set p (.lst (acc ++ [y]))) else Iv (i + 1) S3) ∧
   (∀ S', Iv ds.length S' → ∃ acc, S' p = some (.lst acc) ∧ if cell = true then K (.obj p) S' else K (.lst acc) (S'.del p))
theorem d_lc {cell : Bool} {elt : RE} {tg : List Nat} {one : Bool} {it : RI} {c : RO} {own : List (Str × Nat)} (hm : G.m0 = none) (h : denI G it δ S Y fun ds ok S1 => LcK G cell elt tg one c (own.map (·.2)) δ K ds ok S1) : den G (.lc cell elt tg one it c own) δ S Y K := by
 rw [den]; exact ⟨hm, h⟩
instance s_d_lc {cell : Bool} {elt : RE} {tg : List Nat} {one : Bool} {it : RI} {c : RO} {own : List (Str × Nat)} [M : M0 G.m0] : Rdg (den G (.lc cell elt tg one it c own) δ S Y K) (denI G it δ S Y fun ds ok S1 => LcK G cell elt tg one c (own.map (·.2)) δ K ds ok S1) := ⟨d_lc M.out⟩
theorem i_l {e : RE} {KI : List D → (SS → Prop) → SS → Prop} (h : den G e δ S Y fun d S1 => ∃ ds, vw S1 d = .lst ds ∧ KI ds (fun S' => vw S' d = .lst ds) S1) : denI G (.lst e) δ S Y KI := by rw [denI]; exact h
instance s_i_l {e : RE} {KI : List D → (SS → Prop) → SS → Prop} : Rdg (denI G (.lst e) δ S Y KI) (den G e δ S Y fun d S1 => ∃ ds, vw S1 d = .lst ds ∧ KI ds (fun S' => vw S' d = .lst ds) S1) := ⟨i_l⟩
theorem i_t {e : RE} {KI : List D → (SS → Prop) → SS → Prop} (h : den G e δ S Y fun d S1 => ∃ ds, vw S1 d = .tup ds ∧ KI ds (fun S' => True) S1) : denI G (.tup e) δ S Y KI := by rw [denI]; exact h
instance s_i_t {e : RE} {KI : List D → (SS → Prop) → SS → Prop} : Rdg (denI G (.tup e) δ S Y KI) (den G e δ S Y fun d S1 => ∃ ds, vw S1 d = .tup ds ∧ KI ds (fun S' => True) S1) := ⟨i_t⟩
theorem i_r1 {e : RE} {KI : List D → (SS → Prop) → SS → Prop} (h : den G e δ S Y fun d S1 => ∃ j, d = .int j ∧ -(2 ^ 62) ≤ j ∧ j < 2 ^ 62 ∧ KI (rngD 0 j.toNat) (fun _ => True) S1) : denI G (.rng1 e) δ S Y KI := by rw [denI]; exact h
instance s_i_r1 {e : RE} {KI : List D → (SS → Prop) → SS → Prop} : Rdg (denI G (.rng1 e) δ S Y KI) (den G e δ S Y fun d S1 => ∃ j, d = .int j ∧ -(2 ^ 62) ≤ j ∧ j < 2 ^ 62 ∧ KI (rngD 0 j.toNat) (fun _ => True) S1) := ⟨i_r1⟩
/-- .. whose element and condition change nothing -/
theorem lc_fm {elt : RE} {tg : List Nat} {one : Bool} {c : RO} {own : List Nat} {ds : List D} {ok : SS → Prop} (f : D → D) (g : D → Bool) (hz : ds.length ≤ sizeLine) (hok : ∀ acc p, S p = none → ok (S.set p (.lst acc)))
  (hs : ∀ (p : Addr) (i : Nat) (acc : List D) (d : D) (KK : DK) (KN : SS → Prop), ds[i]? = some d → S p = none → (g d = true → KK (f d) (S.set p (.lst acc))) → (g d = false → KN (S.set p (.lst acc))) →
   denTg tg one d (wipeD δ own) (S.set p (.lst acc)) fun δ2 S2 => denC G c δ2 S2 noX fun b S3 => if b = true then den G elt δ2 S3 noX KK else KN S3)
  (hl : K (.lst ((ds.filter g).map f)) S) : LcK G false elt tg one c own δ K ds ok S := by
 intro p hp
 have hcl : ∀ i, i < ds.length → (((ds.take i).filter g).map f).length < sizeLine := fun i hi => by
  rw [List.length_map]
  have := List.length_filter_le g (ds.take i)
  rw [List.length_take] at this
  omega
 refine ⟨fun i S' => S' = S.set p (.lst (((ds.take i).filter g).map f)), rfl, ?_, ?_, ?_⟩
 ·rintro i S' rfl _
  exact hok _ p hp
 ·rintro i d S' hd rfl
  have hi : i < ds.length := by
   obtain ⟨z, _⟩ := List.getElem?_eq_some_iff.mp hd
   exact z
  have et : ds.take (i + 1) = ds.take i ++ [d] := by
   rw [List.take_add_one, hd]; rfl
  refine hs p i _ d _ _ hd hp (fun hg => ⟨_, SS.set_same, hcl i hi, ?_⟩) fun hg => ?_
  ·rw [SS.set_set]
   show _ = S.set p (.lst (((ds.take (i + 1)).filter g).map f))
   rw [et, List.filter_append, List.map_append]
   simp [hg]
  ·show _ = S.set p (.lst (((ds.take (i + 1)).filter g).map f))
   rw [et, List.filter_append, List.map_append]
   simp [hg]
 ·rintro S' rfl
  refine ⟨_, SS.set_same, ?_⟩
  rw [if_neg Bool.false_ne_true, SS.del_set hp, List.take_length]
  exact hl
theorem c_nn {KT : Bool → SS → Prop} (k : KT true S) : denC G .nn δ S Y KT := by rw [denC]; exact k
theorem c_ss {KT : Bool → SS → Prop} {e : RE} (k : denT G e δ S Y KT) : denC G (.ss e) δ S Y KT := by rw [denC]; exact k
theorem tg_1 {i : Nat} {d : D} {Q : DS → SS → Prop} (k : Q (δ.set i (some d)) S) : denTg [i] true d δ S Q := k
/-- isinstance of the handled error -/
theorem isi_x {a C : Addr} {oe : Obj} {fs : List (Str × D)} {cn : Cn} {b : Bool} {Q : Bool → Prop} (hm : G.m0 = some (a, oe)) (hF : ExcF G.K C) (hk : PySem.W.kitOne G.K (.ref C) (cn.val G) = some b) (k : Q b) :
  ∃ t b, tyD S (.exc a oe C fs) = some t ∧ tyOk G S (.exc a oe C fs) ∧ PySem.W.kitOne G.K t (cn.val G) = some b ∧ Q b := ⟨_, b, rfl, ⟨hm, hF⟩, hk, k⟩
end
section
variable {G : Gs} {δ : DS} {S : SS} {Y : XD'} {F : SE}
/-- for: the invariant by the turn -/
theorem st_fr {tg : List Nat} {one : Bool} {it : RI} {b : RSs} (hm : G.m0 = none) (h : denI G.toGm it δ S Y fun ds ok S1 => ∃ Iv : Nat → DS → SS → Prop, Iv 0 δ S1 ∧ (∀ i δ' S', Iv i δ' S' → i ≤ ds.length → ok S') ∧
   (∀ i d δ' S', ds[i]? = some d → Iv i δ' S' → denTg tg one d δ' S' fun δ2 S2 => denSs G b δ2 S2 Y { F with nx := Iv (i + 1), ct := Iv (i + 1), bk := F.nx }) ∧ (∀ δ' S', Iv ds.length δ' S' → F.nx δ' S')) : denS G (.fr tg one it b) δ S Y F := by
 rw [denS]; exact ⟨hm, h⟩
instance s_st_fr {tg : List Nat} {one : Bool} {it : RI} {b : RSs} [M : M0 G.m0] : Rdg (denS G (.fr tg one it b) δ S Y F) (denI G.toGm it δ S Y fun ds ok S1 => ∃ Iv : Nat → DS → SS → Prop, Iv 0 δ S1 ∧ (∀ i δ' S', Iv i δ' S' → i ≤ ds.length → ok S') ∧
   (∀ i d δ' S', ds[i]? = some d → Iv i δ' S' → denTg tg one d δ' S' fun δ2 S2 => denSs G b δ2 S2 Y { F with nx := Iv (i + 1), ct := Iv (i + 1), bk := F.nx }) ∧ (∀ δ' S', Iv ds.length δ' S' → F.nx δ' S')) := ⟨st_fr M.out⟩
theorem st_tra {b s : RSs} {j i : Nat} (hm : G.m0 = none) (h : denSs G b δ S (fun C fs δ' S' => ∃ k, PySem.W.exmOne G.K (.ref C) (.ref (G.cl j)) = some k ∧
   (k = true → ∀ a oe, denSs (G.suite a oe) s (δ'.set i (some (.exc a oe C fs))) S' noX { F with nx := fun δ2 S2 => F.nx (δ2.set i none) S2, bk := fun δ2 S2 => F.bk (δ2.set i none) S2, ct := fun δ2 S2 => F.ct (δ2.set i none) S2 }) ∧
   (k = false → Y C fs δ' S')) F) : denS G (.tra b j i s) δ S Y F := by
 rw [denS]; exact ⟨hm, h⟩
instance s_st_tra {b s : RSs} {j i : Nat} [M : M0 G.m0] : Rdg (denS G (.tra b j i s) δ S Y F) (denSs G b δ S (fun C fs δ' S' => ∃ k, PySem.W.exmOne G.K (.ref C) (.ref (G.cl j)) = some k ∧
   (k = true → ∀ a oe, denSs (G.suite a oe) s (δ'.set i (some (.exc a oe C fs))) S' noX { F with nx := fun δ2 S2 => F.nx (δ2.set i none) S2, bk := fun δ2 S2 => F.bk (δ2.set i none) S2, ct := fun δ2 S2 => F.ct (δ2.set i none) S2 }) ∧
   (k = false → Y C fs δ' S')) F) := ⟨st_tra M.out⟩
theorem st_tro {b s : RSs} {j : Nat} (hm : G.m0 = none) (h : denSs G b δ S (fun C fs δ' S' => ∃ k, PySem.W.exmOne G.K (.ref C) (.ref (G.cl j)) = some k ∧ (k = true → ∀ a oe, denSs (G.suite a oe) s δ' S' noX F) ∧ (k = false → Y C fs δ' S')) F) : denS G (.tro b j s) δ S Y F := by
 rw [denS]; exact ⟨hm, h⟩
instance s_st_tro {b s : RSs} {j : Nat} [M : M0 G.m0] : Rdg (denS G (.tro b j s) δ S Y F) (denSs G b δ S (fun C fs δ' S' => ∃ k, PySem.W.exmOne G.K (.ref C) (.ref (G.cl j)) = some k ∧ (k = true → ∀ a oe, denSs (G.suite a oe) s δ' S' noX F) ∧ (k = false → Y C fs δ' S')) F) := ⟨st_tro M.out⟩
end
end Sv
/-! Sv19: the reading of methods, objects, dicts, step by step. -/
namespace Sv
open PySem PySem.Spec PyProof.Rows L2
section
variable {G : Gm} {δ : DS} {S : SS} {Y : XD'} {K : DK} {KT : Bool → SS → Prop} {KL : List D → SS → Prop} {KP : List (D × D) → SS → Prop} {KI : List D → (SS → Prop) → SS → Prop} {a b c e : RE} {es : RL} {ps : RQ} {d x y : D} {i j : Int} {p : Addr} {m : Str} {cell : Bool}
theorem dq_rpr (h : dens G es δ S Y fun ds S1 => Bn.rpr.den ds S1 K) : den G (.bi .rpr es) δ S Y K := d_bi trivial h
instance s_dq_rpr  : Rdg (den G (.bi .rpr es) δ S Y K) (dens G es δ S Y fun ds S1 => Bn.rpr.den ds S1 K) := ⟨dq_rpr⟩
theorem dq_int (h : dens G es δ S Y fun ds S1 => Bn.int.den ds S1 K) : den G (.bi .int es) δ S Y K := d_bi trivial h
instance s_dq_int  : Rdg (den G (.bi .int es) δ S Y K) (dens G es δ S Y fun ds S1 => Bn.int.den ds S1 K) := ⟨dq_int⟩
theorem dq_lst (h : dens G es δ S Y fun ds S1 => (Bn.lst cell).den ds S1 K) : den G (.bi (.lst cell) es) δ S Y K := d_bi trivial h
instance s_dq_lst  : Rdg (den G (.bi (.lst cell) es) δ S Y K) (dens G es δ S Y fun ds S1 => (Bn.lst cell).den ds S1 K) := ⟨dq_lst⟩
theorem dq_tup (h : dens G es δ S Y fun ds S1 => Bn.tup.den ds S1 K) : den G (.bi .tup es) δ S Y K := d_bi trivial h
instance s_dq_tup  : Rdg (den G (.bi .tup es) δ S Y K) (dens G es δ S Y fun ds S1 => Bn.tup.den ds S1 K) := ⟨dq_tup⟩
theorem dq_dic (h : dens G es δ S Y fun ds S1 => (Bn.dic cell).den ds S1 K) : den G (.bi (.dic cell) es) δ S Y K := d_bi trivial h
instance s_dq_dic  : Rdg (den G (.bi (.dic cell) es) δ S Y K) (dens G es δ S Y fun ds S1 => (Bn.dic cell).den ds S1 K) := ⟨dq_dic⟩
theorem dq_srt (hm : G.m0 = none) (h : dens G es δ S Y fun ds S1 => (Bn.srt cell).den ds S1 K) : den G (.bi (.srt cell) es) δ S Y K := d_bi hm h
instance s_dq_srt  [M : M0 G.m0] : Rdg (den G (.bi (.srt cell) es) δ S Y K) (dens G es δ S Y fun ds S1 => (Bn.srt cell).den ds S1 K) := ⟨dq_srt M.out⟩
theorem d_mth {b : Mn} (h : den G a δ S Y fun x S1 => b.rc x S1 ∧ dens G es δ S1 Y fun ds S2 => b.den x ds S2 K) : den G (.mth b a es) δ S Y K := by rw [den]; exact h
instance s_d_mth {b : Mn} : Rdg (den G (.mth b a es) δ S Y K) (den G a δ S Y fun x S1 => b.rc x S1 ∧ dens G es δ S1 Y fun ds S2 => b.den x ds S2 K) := ⟨d_mth⟩
theorem t_mth {b : Mn} (h : den G a δ S Y fun x S1 => b.rc x S1 ∧ dens G es δ S1 Y fun ds S2 => b.den x ds S2 fun d S3 => truD d S3 fun b => KT b S3) : denT G (.mth b a es) δ S Y KT := by rw [denT]; exact h
instance s_t_mth {b : Mn} : Rdg (denT G (.mth b a es) δ S Y KT) (den G a δ S Y fun x S1 => b.rc x S1 ∧ dens G es δ S1 Y fun ds S2 => b.den x ds S2 fun d S3 => truD d S3 fun b => KT b S3) := ⟨t_mth⟩
theorem d_om {j : Nat} {T : TR} (hT : G.fn G.m0.isSome j = some T) (h : den G a δ S Y fun x S1 => ∃ p, omD G j m x S1 p ∧ dens G es δ S1 Y fun ds S2 => T G.m0 (.obj p :: ds) S2 K fun C fs S' => Y C fs δ S') : den G (.om j m a es) δ S Y K := by rw [den]; exact ⟨T, hT, h⟩
theorem om_o {j : Nat} {fs : List (Str × D)} {Q : Addr → Prop} (at_p : S p = some (.ins (G.mc j) fs)) (free : fs.lookup m = none) (q : Q p) : ∃ p', omD G j m (.obj p) S p' ∧ Q p' := ⟨p, ⟨rfl, fs, at_p, free⟩, q⟩
theorem d_mk {j : Nat} {T : TR} (hm : G.m0 = none) (hT : G.fn false j = some T) (h : dens G es δ S Y fun ds S1 => ∀ p, S1 p = none → T none (.obj p :: ds) (S1.set p (.ins (G.mc j) [])) (fun d S' => d = .non ∧ K (.obj p) S') fun C fs S' => Y C fs δ S') : den G (.mk j es) δ S Y K := by rw [den]; exact ⟨hm, T, hT, h⟩
theorem d_lck {kvs : List (Key × D)} (at_p : S p = some (.dic kvs)) (h : den G e δ (S.set p (.loc kvs)) Y fun d S' => K d (S'.set p (.dic kvs))) : den G (.lck e) δ S Y K := by rw [den]; exact ⟨p, kvs, at_p, h⟩
theorem d_fz (h : den G e δ S Y fun d S1 => ∃ a, d = .obj a ∧ ((∃ ds, S1 a = some (.lst ds) ∧ K (.lst ds) (S1.del a)) ∨ ∃ kvs, S1 a = some (.dic kvs) ∧ K (.dic kvs) (S1.del a))) : den G (.fz e) δ S Y K := by rw [den]; exact h
theorem dq_dcp (hm : G.m0 = none) (h : dens G es δ S Y fun ds S1 => (Bn.dcp cell).den ds S1 K) : den G (.bi (.dcp cell) es) δ S Y K := d_bi hm h
instance s_dq_dcp  [M : M0 G.m0] : Rdg (den G (.bi (.dcp cell) es) δ S Y K) (dens G es δ S Y fun ds S1 => (Bn.dcp cell).den ds S1 K) := ⟨dq_dcp M.out⟩
theorem dq_all (hm : G.m0 = none) (h : dens G es δ S Y fun ds S1 => Bn.all.den ds S1 K) : den G (.bi .all es) δ S Y K := d_bi hm h
instance s_dq_all  [M : M0 G.m0] : Rdg (den G (.bi .all es) δ S Y K) (dens G es δ S Y fun ds S1 => Bn.all.den ds S1 K) := ⟨dq_all M.out⟩
theorem dq_sum (hm : G.m0 = none) (h : dens G es δ S Y fun ds S1 => Bn.sum.den ds S1 K) : den G (.bi .sum es) δ S Y K := d_bi hm h
instance s_dq_sum  [M : M0 G.m0] : Rdg (den G (.bi .sum es) δ S Y K) (dens G es δ S Y fun ds S1 => Bn.sum.den ds S1 K) := ⟨dq_sum M.out⟩
theorem dq_lsk (hm : G.m0 = none) (h : dens G es δ S Y fun ds S1 => (Bn.lsk cell).den ds S1 K) : den G (.bi (.lsk cell) es) δ S Y K := d_bi hm h
instance s_dq_lsk  [M : M0 G.m0] : Rdg (den G (.bi (.lsk cell) es) δ S Y K) (dens G es δ S Y fun ds S1 => (Bn.lsk cell).den ds S1 K) := ⟨dq_lsk M.out⟩
theorem dq_min (hm : G.m0 = none) (h : dens G es δ S Y fun ds S1 => Bn.min.den ds S1 K) : den G (.bi .min es) δ S Y K := d_bi hm h
instance s_dq_min  [M : M0 G.m0] : Rdg (den G (.bi .min es) δ S Y K) (dens G es δ S Y fun ds S1 => Bn.min.den ds S1 K) := ⟨dq_min M.out⟩
theorem dq_max (hm : G.m0 = none) (h : dens G es δ S Y fun ds S1 => Bn.max.den ds S1 K) : den G (.bi .max es) δ S Y K := d_bi hm h
instance s_dq_max  [M : M0 G.m0] : Rdg (den G (.bi .max es) δ S Y K) (dens G es δ S Y fun ds S1 => Bn.max.den ds S1 K) := ⟨dq_max M.out⟩
theorem dq_str (h : dens G es δ S Y fun ds S1 => Bn.str.den ds S1 K) : den G (.bi .str es) δ S Y K := d_bi trivial h
instance s_dq_str  : Rdg (den G (.bi .str es) δ S Y K) (dens G es δ S Y fun ds S1 => Bn.str.den ds S1 K) := ⟨dq_str⟩
theorem d_ofsS (hm : G.m0 = none) (h : den G a δ S Y fun x S1 => ∃ zs : List Str, vw S1 x = .lst (zs.map D.str) ∧ (zs.length < 64 ∨ ((uniq zs).length < 64 ∧ zs.length < 1000)) ∧ K (.lst ((sortS (uniq zs)).map D.str)) S1) : den G (.ofs true a) δ S Y K := by rw [den]; exact ⟨hm, h⟩
instance s_d_ofsS  [M : M0 G.m0] : Rdg (den G (.ofs true a) δ S Y K) (den G a δ S Y fun x S1 => ∃ zs : List Str, vw S1 x = .lst (zs.map D.str) ∧ (zs.length < 64 ∨ ((uniq zs).length < 64 ∧ zs.length < 1000)) ∧ K (.lst ((sortS (uniq zs)).map D.str)) S1) := ⟨d_ofsS M.out⟩
theorem d_ofsL (hm : G.m0 = none) (h : den G a δ S Y fun x S1 => ∃ zs : List Str, vw S1 x = .lst (zs.map D.str) ∧ (zs.length < 64 ∨ ((uniq zs).length < 64 ∧ zs.length < 1000)) ∧ K (.int ((uniq zs).length : Nat)) S1) : den G (.ofs false a) δ S Y K := by rw [den]; exact ⟨hm, h⟩
instance s_d_ofsL  [M : M0 G.m0] : Rdg (den G (.ofs false a) δ S Y K) (den G a δ S Y fun x S1 => ∃ zs : List Str, vw S1 x = .lst (zs.map D.str) ∧ (zs.length < 64 ∨ ((uniq zs).length < 64 ∧ zs.length < 1000)) ∧ K (.int ((uniq zs).length : Nat)) S1) := ⟨d_ofsL M.out⟩
theorem d_vls (hm : G.m0 = none) (h : den G a δ S Y fun x S1 => ∃ p kvs, x = .obj p ∧ S1 p = some (.dic kvs) ∧ outL cell (kvs.map (·.2)) S1 K) : den G (.vls cell a) δ S Y K := by rw [den]; exact ⟨hm, h⟩
instance s_d_vls  [M : M0 G.m0] : Rdg (den G (.vls cell a) δ S Y K) (den G a δ S Y fun x S1 => ∃ p kvs, x = .obj p ∧ S1 p = some (.dic kvs) ∧ outL cell (kvs.map (·.2)) S1 K) := ⟨d_vls M.out⟩
theorem d_rev (h : den G a δ S Y fun x S1 => ∃ ds, vw S1 x = .lst ds ∧ outL cell ds.reverse S1 K) : den G (.rev cell a) δ S Y K := by rw [den]; exact h
instance s_d_rev  : Rdg (den G (.rev cell a) δ S Y K) (den G a δ S Y fun x S1 => ∃ ds, vw S1 x = .lst ds ∧ outL cell ds.reverse S1 K) := ⟨d_rev⟩
theorem d_dct (h : ∀ p, S p = none → denP G ps δ (S.set p (.dic [])) Y fun ks S2 => S2 p = some (.dic []) ∧ ∃ kvs, keysD ks = some kvs ∧ kvs.length ≤ 15 ∧ if cell = true then K (.obj p) (S2.set p (.dic (mergeD [] kvs))) else K (.dic (mergeD [] kvs)) (S2.del p)) : den G (.dct cell ps) δ S Y K := by rw [den]; exact h
theorem d_dct0 (k : ∀ p, S p = none → K (.obj p) (S.set p (.dic []))) : den G (.dct true .nil) δ S Y K := d_dct fun p free => by
 rw [denP]
 exact ⟨SS.set_same, [], rfl, by decide, by rw [if_pos rfl, SS.set_set]; exact k p free⟩
theorem p_nil (k : KP [] S) : denP G .nil δ S Y KP := by rw [denP]; exact k
instance s_p_nil  : Rdg (denP G .nil δ S Y KP) (KP [] S) := ⟨p_nil⟩
theorem p_cons {kx vx : RE} (h : den G kx δ S Y fun x S1 => den G vx δ S1 Y fun y S2 => denP G ps δ S2 Y fun r S3 => KP ((x, y) :: r) S3) : denP G (.cons kx vx ps) δ S Y KP := by rw [denP]; exact h
instance s_p_cons {kx vx : RE} : Rdg (denP G (.cons kx vx ps) δ S Y KP) (den G kx δ S Y fun x S1 => den G vx δ S1 Y fun y S2 => denP G ps δ S2 Y fun r S3 => KP ((x, y) :: r) S3) := ⟨p_cons⟩
theorem i_s (h : den G e δ S Y fun d S1 => ∃ z, d = .str z ∧ KI (signsD z) (fun _ => True) S1) : denI G (.str e) δ S Y KI := by rw [denI]; exact h
instance s_i_s  : Rdg (denI G (.str e) δ S Y KI) (den G e δ S Y fun d S1 => ∃ z, d = .str z ∧ KI (signsD z) (fun _ => True) S1) := ⟨i_s⟩
theorem i_k (h : den G e δ S Y fun d S1 => ∃ a kvs, d = .obj a ∧ S1 a = some (.loc kvs) ∧ KI (kvs.map fun kv => keyV kv.1) (fun _ => True) S1) : denI G (.keys e) δ S Y KI := by rw [denI]; exact h
instance s_i_k  : Rdg (denI G (.keys e) δ S Y KI) (den G e δ S Y fun d S1 => ∃ a kvs, d = .obj a ∧ S1 a = some (.loc kvs) ∧ KI (kvs.map fun kv => keyV kv.1) (fun _ => True) S1) := ⟨i_k⟩
theorem i_e (h : den G e δ S Y fun d S1 => ∃ ds, vw S1 d = .lst ds ∧ KI (enumD ds) (fun S' => vw S' d = .lst ds) S1) : denI G (.enum e) δ S Y KI := by rw [denI]; exact h
instance s_i_e  : Rdg (denI G (.enum e) δ S Y KI) (den G e δ S Y fun d S1 => ∃ ds, vw S1 d = .lst ds ∧ KI (enumD ds) (fun S' => vw S' d = .lst ds) S1) := ⟨i_e⟩
theorem i_it (h : den G e δ S Y fun d S1 => ∃ a kvs, d = .obj a ∧ S1 a = some (.loc kvs) ∧ KI (kvs.map fun kv => .tup [keyV kv.1, kv.2]) (fun _ => True) S1) : denI G (.items e) δ S Y KI := by rw [denI]; exact h
instance s_i_it  : Rdg (denI G (.items e) δ S Y KI) (den G e δ S Y fun d S1 => ∃ a kvs, d = .obj a ∧ S1 a = some (.loc kvs) ∧ KI (kvs.map fun kv => .tup [keyV kv.1, kv.2]) (fun _ => True) S1) := ⟨i_it⟩
theorem str_ex {z : Str} {Q : Str → Prop} (k : Q z) : ∃ w, D.str z = .str w ∧ Q w := ⟨z, rfl, k⟩
instance s_str_ex {z : Str} {Q : Str → Prop} : Rdg (∃ w, D.str z = .str w ∧ Q w) (Q z) := ⟨str_ex⟩
/-! methods -/
theorem app_o {ds : List D} (h : S p = some (.lst ds)) (few : ds.length < sizeLine) (k : K .non (S.set p (.lst (ds ++ [d])))) : Mn.app.den (.obj p) [d] S K := ⟨ds, h, few, k⟩
theorem rc_o {ds : List D} (h : S p = some (.lst ds)) : isLstD (.obj p) S := ⟨ds, vw_l h⟩
theorem rc_d {kvs : List (Key × D)} (h : S p = some (.dic kvs)) : isDicD (.obj p) S := ⟨p, kvs, rfl, h⟩
theorem rc_s {z : Str} : isStrD (.str z) := ⟨z, rfl⟩
theorem rc_join {z : Str} {P : Prop} (k : P) : Mn.join.rc (.str z) S ∧ P := ⟨rc_s, k⟩
instance s_rc_join {z : Str} {P : Prop} : Rdg (Mn.join.rc (.str z) S ∧ P) (P) := ⟨rc_join⟩
theorem rc_upper {z : Str} {P : Prop} (k : P) : Mn.upper.rc (.str z) S ∧ P := ⟨rc_s, k⟩
instance s_rc_upper {z : Str} {P : Prop} : Rdg (Mn.upper.rc (.str z) S ∧ P) (P) := ⟨rc_upper⟩
theorem join_l {z : Str} {zs : List Str} (few : (zs.map (·.length)).sum + zs.length * z.length ≤ 16777216) (k : K (.str (Txt.join z zs)) S) : Mn.join.den (.str z) [.lst (zs.map D.str)] S K := ⟨zs, .inl rfl, few, k⟩
theorem srt_l {zs : List Str} (few : zs.length < 64) (k : K (.lst ((sortS zs).map D.str)) S) : (Bn.srt false).den [.lst (zs.map D.str)] S K := ⟨zs, .inl rfl, few, by unfold outL; rw [if_neg Bool.false_ne_true]; exact k⟩
theorem srt_k {zs : List Str} {kvs : List (Key × D)} (h : S p = some (.dic kvs)) (keys : kvs.map (·.1) = zs.map Sum.inr) (few : zs.length < 64) (k : K (.lst ((sortS zs).map D.str)) S) : (Bn.srt false).den [.obj p] S K :=
 ⟨zs, .inr ⟨kvs, vw_k h, keys⟩, few, by unfold outL; rw [if_neg Bool.false_ne_true]; exact k⟩
theorem lst_l {ds : List D} (k : K (.lst ds) S) : (Bn.lst false).den [.lst ds] S K := ⟨ds, .inl rfl, by rw [if_neg Bool.false_ne_true]; exact k⟩
instance s_lst_l {ds : List D} : Rdg ((Bn.lst false).den [.lst ds] S K) (K (.lst ds) S) := ⟨lst_l⟩
theorem int_b {b : Bool} (k : K (.int (if b then 1 else 0)) S) : Bn.int.den [.bl b] S K := k
instance s_int_b {b : Bool} : Rdg (Bn.int.den [.bl b] S K) (K (.int (if b then 1 else 0)) S) := ⟨int_b⟩
theorem len_k {kvs : List (Key × D)} (h : S p = some (.dic kvs)) (k : K (.int kvs.length) S) : Bn.len.den [.obj p] S K := by
 show lenD [.obj p] S K; unfold lenD; simp only [vw_k h]; exact k
theorem rpr_v {q : PyData} (h : pdS S d = some q) (s : Shows q) (k : K (.str q.shown) S) : Bn.rpr.den [d] S K := ⟨q, .inl h, s, k⟩
/-! dicts -/
theorem ix_k {kvs : List (Key × D)} {key : Key} (h : S p = some (.dic kvs)) (hk : keyD y = some key) (e : valD kvs key = some d) (k : K d S) : ixD (.obj p) y S K := by
 unfold ixD; rw [vw_k h]; exact ⟨key, d, hk, e, k⟩
theorem vw_c {p : Addr} {kvs : List (Key × D)} (h : S p = some (.loc kvs)) : vw S (.obj p) = .dic kvs := by simp only [vw, h]
theorem ix_c {kvs : List (Key × D)} {key : Key} (h : S p = some (.loc kvs)) (hk : keyD y = some key) (e : valD kvs key = some d) (k : K d S) : ixD (.obj p) y S K := by
 unfold ixD; rw [vw_c h]; exact ⟨key, d, hk, e, k⟩
theorem ix_v {kvs : List (Key × D)} {key : Key} (hk : keyD y = some key) (e : valD kvs key = some d) (k : K d S) : ixD (.dic kvs) y S K := ⟨key, d, hk, e, k⟩
theorem in_k {kvs : List (Key × D)} {key : Key} (h : S p = some (.dic kvs)) (hk : keyD x = some key) (k : K (.bl (valD kvs key).isSome) S) : cmpE .In x (.obj p) S K := by
 show cIn2 false x (.obj p) S K; unfold cIn2; rw [vw_k h]; exact ⟨key, hk, by rw [Bool.false_xor]; exact k⟩
theorem nin_k {kvs : List (Key × D)} {key : Key} (h : S p = some (.dic kvs)) (hk : keyD x = some key) (k : K (.bl (!(valD kvs key).isSome)) S) : cmpE .NotIn x (.obj p) S K := by
 show cIn2 true x (.obj p) S K; unfold cIn2; rw [vw_k h]; exact ⟨key, hk, by rw [Bool.true_xor]; exact k⟩
theorem any_strs (z : Str) : ∀ zs : List Str, ((zs.map D.str).any fun w => D.eqv w (.str z)) = decide (z ∈ zs)
 | [] => rfl
 | w :: zs => by
  rw [List.map_cons, List.any_cons, any_strs z zs]
  have e : D.eqv (.str w) (.str z) = decide (w = z) := by
   simp only [D.eqv, D.py, PyData.eqv]
   rw [Bool.eq_iff_iff]; simp
  rw [e, Bool.eq_iff_iff]
  simp only [Bool.or_eq_true, decide_eq_true_eq, List.mem_cons]
  exact or_congr ⟨Eq.symm, Eq.symm⟩ Iff.rfl
/-- a text of signs that are signs -/
def fine (z : Str) : Bool := PyData.strOk z
theorem okds_strs (n : Nat) : ∀ zs : List Str, (∀ z ∈ zs, fine z = true) → D.okds n (zs.map D.str) = true
 | [], _ => rfl
 | z :: zs, h => by
  simp only [List.map_cons, D.okds, D.okd, Bool.and_eq_true]
  exact ⟨h z List.mem_cons_self, okds_strs n zs fun w hw => h w (List.mem_cons_of_mem _ hw)⟩
theorem in_l {z : Str} {zs : List Str} (hz : fine z = true) (hs : ∀ w ∈ zs, fine w = true) (k : K (.bl (decide (z ∈ zs))) S) : cmpE .In (.str z) (.lst (zs.map D.str)) S K := by
 show cIn2 false (.str z) (.lst (zs.map D.str)) S K
 exact ⟨hz, okds_strs _ zs hs, by rw [Bool.false_xor, show vw S (.str z) = .str z from rfl, any_strs]; exact k⟩
theorem nin_l {z : Str} {zs : List Str} (hz : fine z = true) (hs : ∀ w ∈ zs, fine w = true) (k : K (.bl (!decide (z ∈ zs))) S) : cmpE .NotIn (.str z) (.lst (zs.map D.str)) S K := by
 show cIn2 true (.str z) (.lst (zs.map D.str)) S K
 exact ⟨hz, okds_strs _ zs hs, by rw [Bool.true_xor, show vw S (.str z) = .str z from rfl, any_strs]; exact k⟩
theorem flat_strs : ∀ zs : List Str, (zs.map D.str).all flatD = true
 | [] => rfl
 | _ :: zs => by rw [List.map_cons, List.all_cons, flat_strs zs]; rfl
theorem in_t {z : Str} {zs : List Str} (k : K (.bl (decide (z ∈ zs))) S) : cmpE .In (.str z) (.tup (zs.map D.str)) S K := by
 show cIn2 false (.str z) (.tup (zs.map D.str)) S K
 exact .inl ⟨rfl, flat_strs zs, by rw [Bool.false_xor, any_strs]; exact k⟩
instance s_in_t {z : Str} {zs : List Str} : Rdg (cmpE .In (.str z) (.tup (zs.map D.str)) S K) (K (.bl (decide (z ∈ zs))) S) := ⟨in_t⟩
theorem nin_t {z : Str} {zs : List Str} (k : K (.bl (!decide (z ∈ zs))) S) : cmpE .NotIn (.str z) (.tup (zs.map D.str)) S K := by
 show cIn2 true (.str z) (.tup (zs.map D.str)) S K
 exact .inl ⟨rfl, flat_strs zs, by rw [Bool.true_xor, any_strs]; exact k⟩
instance s_nin_t {z : Str} {zs : List Str} : Rdg (cmpE .NotIn (.str z) (.tup (zs.map D.str)) S K) (K (.bl (!decide (z ∈ zs))) S) := ⟨nin_t⟩
theorem in_s {z : Str} {c : Nat} (k : K (.bl (decide (c ∈ z.cps.toList))) S) : cmpE .In (.str ⟨#[c]⟩) (.str z) S K := by
 show cIn2 false (.str ⟨#[c]⟩) (.str z) S K
 exact ⟨c, rfl, by rw [Bool.false_xor]; exact k⟩
instance s_in_s {z : Str} {c : Nat} : Rdg (cmpE .In (.str ⟨#[c]⟩) (.str z) S K) (K (.bl (decide (c ∈ z.cps.toList))) S) := ⟨in_s⟩
theorem nin_s {z : Str} {c : Nat} (k : K (.bl (!decide (c ∈ z.cps.toList))) S) : cmpE .NotIn (.str ⟨#[c]⟩) (.str z) S K := by
 show cIn2 true (.str ⟨#[c]⟩) (.str z) S K
 exact ⟨c, rfl, by rw [Bool.true_xor]; exact k⟩
instance s_nin_s {z : Str} {c : Nat} : Rdg (cmpE .NotIn (.str ⟨#[c]⟩) (.str z) S K) (K (.bl (!decide (c ∈ z.cps.toList))) S) := ⟨nin_s⟩
theorem eqvS {z w : Str} : D.eqv (.str z) (.str w) = decide (z = w) := by
 simp only [D.eqv, D.py, PyData.eqv]
 rw [Bool.eq_iff_iff]; simp
theorem c_eqS {z w : Str} (k : K (.bl (decide (z = w))) S) : cmpE .Eq (.str z) (.str w) S K := .inr (.inl ⟨z, w, rfl, rfl, by rw [Bool.false_xor]; exact k⟩)
instance s_c_eqS {z w : Str} : Rdg (cmpE .Eq (.str z) (.str w) S K) (K (.bl (decide (z = w))) S) := ⟨c_eqS⟩
theorem c_neS {z w : Str} (k : K (.bl (!decide (z = w))) S) : cmpE .NotEq (.str z) (.str w) S K := .inr (.inl ⟨z, w, rfl, rfl, by rw [Bool.true_xor]; exact k⟩)
instance s_c_neS {z w : Str} : Rdg (cmpE .NotEq (.str z) (.str w) S K) (K (.bl (!decide (z = w))) S) := ⟨c_neS⟩
theorem c_isN (k : K (.bl (isNon x)) S) : cmpE .Is x .non S K := by show cIs false x .non S K; unfold cIs; rw [Bool.false_xor]; exact k
instance s_c_isN  : Rdg (cmpE .Is x .non S K) (K (.bl (isNon x)) S) := ⟨c_isN⟩
theorem c_notN (k : K (.bl (!isNon x)) S) : cmpE .IsNot x .non S K := by show cIs true x .non S K; unfold cIs; rw [Bool.true_xor]; exact k
instance s_c_notN  : Rdg (cmpE .IsNot x .non S K) (K (.bl (!isNon x)) S) := ⟨c_notN⟩
theorem eqvE : ∀ zs : List D, D.eqv (.lst zs) (.lst []) = zs.isEmpty
 | [] => rfl
 | _ :: _ => by simp only [D.eqv, D.py, D.pys, PyData.eqv, PyData.eqvAll]; rfl
theorem c_neE {zs : List Str} (hs : ∀ w ∈ zs, fine w = true) (k : K (.bl (!zs.isEmpty)) S) : cmpE .NotEq (.lst (zs.map D.str)) (.lst []) S K :=
 c_neV (by show D.okd 60 (.lst (zs.map D.str)) = true; simp only [D.okd, Bool.and_eq_true]; exact ⟨rfl, okds_strs _ zs hs⟩) rfl (by
  rw [show vw S (.lst (zs.map D.str)) = .lst (zs.map D.str) from rfl, show vw S (.lst []) = .lst [] from rfl, eqvE, List.isEmpty_map]; exact k)
theorem c_eqE {zs : List Str} (hs : ∀ w ∈ zs, fine w = true) (k : K (.bl zs.isEmpty) S) : cmpE .Eq (.lst (zs.map D.str)) (.lst []) S K :=
 c_eqV (by show D.okd 60 (.lst (zs.map D.str)) = true; simp only [D.okd, Bool.and_eq_true]; exact ⟨rfl, okds_strs _ zs hs⟩) rfl (by
  rw [show vw S (.lst (zs.map D.str)) = .lst (zs.map D.str) from rfl, show vw S (.lst []) = .lst [] from rfl, eqvE, List.isEmpty_map]; exact k)
theorem fld_o {C : Addr} {fs : List (Str × D)} {f : Str} (h : S p = some (.ins C fs)) (cl : Cls G.K C) (na : NoAttr G.K C f) (e : fs.lookup f = some d) (k : K d S) : fldD G f (.obj p) S K := ⟨C, fs, d, h, cl, na, e, k⟩
/-- isinstance of plain values -/
theorem isi_v {cn : Cn} {t : Value} {b : Bool} {Q : Bool → Prop} (ht : tyD S d = some t) (ok : tyOk G S d) (hk : PySem.W.kitOne G.K t (cn.val G) = some b) (k : Q b) : ∃ t b, tyD S d = some t ∧ tyOk G S d ∧ PySem.W.kitOne G.K t (cn.val G) = some b ∧ Q b := ⟨t, b, ht, ok, hk, k⟩
end
section
variable {G : Gs} {δ : DS} {S : SS} {Y : XD'} {F : SE} {a b c e : RE} {es : RL} {s : RS} {d x y : D} {p : Addr} {K : SS → Prop}
theorem st_tri {i j l : Nat} (hm : G.m0 = none) (h : dens G.toGm es δ S Y fun ds S1 => ∃ u v w, ds = [u, v, w] ∧ F.nx (((δ.set i (some u)).set j (some v)).set l (some w)) S1) : denS G (.tri i j l es) δ S Y F := by rw [denS]; exact ⟨hm, h⟩
instance s_st_tri {i j l : Nat} [M : M0 G.m0] : Rdg (denS G (.tri i j l es) δ S Y F) (dens G.toGm es δ S Y fun ds S1 => ∃ u v w, ds = [u, v, w] ∧ F.nx (((δ.set i (some u)).set j (some v)).set l (some w)) S1) := ⟨st_tri M.out⟩
theorem three_ex {a b c : D} {Q : D → D → D → Prop} (k : Q a b c) : ∃ u v w, [a, b, c] = [u, v, w] ∧ Q u v w := ⟨a, b, c, rfl, k⟩
instance s_three_ex {a b c : D} {Q : D → D → D → Prop} : Rdg (∃ u v w, [a, b, c] = [u, v, w] ∧ Q u v w) (Q a b c) := ⟨three_ex⟩
theorem st_par {i j : Nat} (hm : G.m0 = none) (h : dens G.toGm es δ S Y fun ds S1 => ∃ v w, ds = [v, w] ∧ F.nx ((δ.set i (some v)).set j (some w)) S1) : denS G (.par i j es) δ S Y F := by rw [denS]; exact ⟨hm, h⟩
instance s_st_par {i j : Nat} [M : M0 G.m0] : Rdg (denS G (.par i j es) δ S Y F) (dens G.toGm es δ S Y fun ds S1 => ∃ v w, ds = [v, w] ∧ F.nx ((δ.set i (some v)).set j (some w)) S1) := ⟨st_par M.out⟩
theorem two_ex {Q : D → D → Prop} (k : Q x y) : ∃ v w, [x, y] = [v, w] ∧ Q v w := ⟨x, y, rfl, k⟩
instance s_two_ex {Q : D → D → Prop} : Rdg (∃ v w, [x, y] = [v, w] ∧ Q v w) (Q x y) := ⟨two_ex⟩
theorem st_lck {kvs : List (Key × D)} (at_p : S p = some (.dic kvs)) (h : denS G s δ (S.set p (.loc kvs)) Y (F.unlock p kvs)) : denS G (.lck s) δ S Y F := by rw [denS]; exact ⟨p, kvs, at_p, h⟩
theorem st_stf {f : Str} (h : den G.toGm c δ S Y fun z S1 => den G.toGm a δ S1 Y fun x S2 => ∃ p C fs, x = .obj p ∧ S2 p = some (.ins C fs) ∧ Cls G.K C ∧ NoAttr G.K C f ∧ fs.length < 1000 ∧ F.nx δ (S2.set p (.ins C (putFD f z fs)))) : denS G (.stf a f c) δ S Y F := by rw [denS]; exact h
instance s_st_stf {f : Str} : Rdg (denS G (.stf a f c) δ S Y F) (den G.toGm c δ S Y fun z S1 => den G.toGm a δ S1 Y fun x S2 => ∃ p C fs, x = .obj p ∧ S2 p = some (.ins C fs) ∧ Cls G.K C ∧ NoAttr G.K C f ∧ fs.length < 1000 ∧ F.nx δ (S2.set p (.ins C (putFD f z fs)))) := ⟨st_stf⟩
theorem set_k {kvs : List (Key × D)} {key : Key} {z : D} (h : S p = some (.dic kvs)) (hk : keyD y = some key) (few : kvs.length < sizeLine) (k : K (S.set p (.dic (putD kvs key z)))) : setD (.obj p) y z S K := by
 unfold setD; simp only [h]; exact ⟨key, hk, few, k⟩
end
/-! ### dicts whose keys are texts -/
def mapK {α : Type} (f : α → D) (l : List (Str × α)) : List (Key × D) := l.map fun q => (.inr q.1, f q.2)
section
variable {α : Type} {f : α → D} {l : List (Str × α)} {z : Str}
theorem mapK_keys : (mapK f l).map (·.1) = (l.map (·.1)).map Sum.inr := by unfold mapK; rw [List.map_map, List.map_map]; rfl
theorem mapK_len : (mapK f l).length = l.length := by unfold mapK; rw [List.length_map]
theorem mapK_val : valD (mapK f l) (.inr z) = (l.lookup z).map f := by
 unfold valD mapK
 induction l with
 | nil => rfl
 | cons q l ih =>
  obtain ⟨k, v⟩ := q
  rw [List.map_cons, List.find?_cons, List.lookup_cons]
  by_cases e : k = z
  ·subst e
   simp
  ·have e1 : (z == k) = false := by rw [beq_eq_false_iff_ne]; exact fun h => e h.symm
   have e2 : decide ((Sum.inr k : Key) = Sum.inr z) = false := by simpa using e
   rw [e1, e2]
   exact ih
theorem lookup_some : (l.lookup z).isSome = decide (z ∈ l.map (·.1)) := by
 induction l with
 | nil => rfl
 | cons q l ih =>
  obtain ⟨k, v⟩ := q
  rw [List.lookup_cons, List.map_cons]
  by_cases e : z = k
  ·subst e; simp
  ·have e1 : (z == k) = false := by rw [beq_eq_false_iff_ne]; exact e
   rw [e1]
   simp only [ih]
   simp [e]
theorem mapK_some : (valD (mapK f l) (.inr z)).isSome = decide (z ∈ l.map (·.1)) := by
 rw [mapK_val, Option.isSome_map, lookup_some]
theorem mapK_put {v : α} (h : z ∉ l.map (·.1)) : putD (mapK f l) (.inr z) (f v) = mapK f (l ++ [(z, v)]) := by
 unfold putD
 rw [if_neg ?_]
 ·unfold mapK; rw [List.map_append]; rfl
 ·intro e
  apply h
  rw [List.any_eq_true] at e
  obtain ⟨q, hq, e⟩ := e
  unfold mapK at hq
  obtain ⟨r, hr, rfl⟩ := List.mem_map.mp hq
  have e : r.1 = z := by simpa using e
  rw [← e]
  exact List.mem_map.mpr ⟨r, hr, rfl⟩
end
end Sv
/-! Sv20: small values: == and repr of them. -/
namespace Sv
open PySem PySem.Spec PyProof.Rows L2
/-- a value that is told apart and written -/
structure Plain (x : D) : Prop where
 ok : D.okd 60 x = true
 data : pdD x = some x.py
 shows : Shows x.py
mutual
/-- small: numbers below 10 ^ 12, texts and lists of at most 64, n deep -/
def smD : Nat → D → Bool
 | _, .non => true | _, .bl _ => true | _, .int i => decide (i.natAbs < 10 ^ 12)
 | _, .str z => decide (z.cps.size ≤ 64) && fine z
 | n, .lst ds => decide (0 < n) && (decide (ds.length ≤ 64) && smDs (n - 1) ds)
 | n, .tup ds => decide (0 < n) && (decide (ds.length ≤ 64) && smDs (n - 1) ds)
 | _, _ => false
def smDs : Nat → List D → Bool
 | _, [] => true | n, d :: ds => smD n d && smDs n ds
end
def bigN : Nat → Nat
 | 0 => 64 | n + 1 => 64 * (bigN n + 1)
theorem fine_all {z : Str} (h : fine z = true) : (z.cps.toList.all fun c => decide (c < 16 ^ 8)) = true := by
 unfold fine PyData.strOk at h
 rw [← Array.all_toList, List.all_eq_true] at h
 rw [List.all_eq_true]
 intro c hc
 have := of_decide_eq_true (h c hc)
 exact decide_eq_true (by omega)
structure Fits (n : Nat) (d : D) : Prop where
 data : pdD d = some d.py
 short : d.py.leavesShort 13 = true
 bulk : d.py.bulk ≤ bigN n
 show_ : d.py.showable = true
 dict : d.py.hasDict = false
 deep : d.py.depth ≤ n
 ok : D.okd n d = true
structure FitsAll (n : Nat) (ds : List D) : Prop where
 data : pdDs ds = some (D.pys ds)
 short : PyData.leavesShortAll 13 (D.pys ds) = true
 bulk : PyData.bulkAll (D.pys ds) ≤ ds.length * (bigN n + 1)
 show_ : PyData.showableAll (D.pys ds) = true
 dict : PyData.hasDictAll (D.pys ds) = false
 deep : PyData.depthAll (D.pys ds) ≤ n
 ok : D.okds n ds = true
theorem mul64 {l b : Nat} (h : l ≤ 64) : l * b ≤ 64 * b := Nat.mul_le_mul_right b h
mutual
theorem smD_fits : ∀ (d : D) (n : Nat), smD n d = true → Fits n d
 | .non, n, _ => ⟨rfl, by simp [D.py, PyData.leavesShort], by simp [D.py, PyData.bulk], by simp [D.py, PyData.showable], by simp [D.py, PyData.hasDict], by simp [D.py, PyData.depth], by simp [D.okd]⟩
 | .bl b, n, _ => ⟨rfl, by simp [D.py, PyData.leavesShort], by simp [D.py, PyData.bulk], by simp [D.py, PyData.showable], by simp [D.py, PyData.hasDict], by simp [D.py, PyData.depth], by simp [D.okd]⟩
 | .int i, n, h => by
  simp only [smD, decide_eq_true_eq] at h
  refine ⟨rfl, ?_, by simp [D.py, PyData.bulk], ?_, by simp [D.py, PyData.hasDict], by simp [D.py, PyData.depth], by simp [D.okd]⟩
  ·simp only [D.py, PyData.leavesShort, decide_eq_true_eq]
   rw [PyData.shown_int]
   have := PySem.int_text_length_le10 (a := i) (k := 12) (by decide) h
   rw [PySem.ofString_length]
   exact this
  ·simp only [D.py, PyData.showable, decide_eq_true_eq]
   exact log2_small (Nat.lt_of_lt_of_le (Nat.lt_trans h (by decide : 10 ^ 12 < 2 ^ 64)) (Nat.pow_le_pow_right (by decide) (by decide)))
 | .str z, n, h => by
  simp only [smD, Bool.and_eq_true, decide_eq_true_eq] at h
  refine ⟨rfl, by simp only [D.py, PyData.leavesShort]; exact fine_all h.2, ?_, by simp [D.py, PyData.showable], by simp [D.py, PyData.hasDict], by simp [D.py, PyData.depth], by simp only [D.okd]; exact h.2⟩
  simp only [D.py, PyData.bulk]
  have : 64 ≤ bigN n := by
   cases n with
   | zero => exact Nat.le_refl _
   | succ n => unfold bigN; omega
  omega
 | .lst ds, n, h => by
  simp only [smD, Bool.and_eq_true, decide_eq_true_eq] at h
  obtain ⟨m, rfl⟩ : ∃ m, n = m + 1 := ⟨n - 1, by omega⟩
  have a := smDs_fits ds m h.2.2
  refine ⟨by simp only [pdD, D.py, a.data, Option.map_some], by simp only [D.py, PyData.leavesShort]; exact a.short, ?_, by simp only [D.py, PyData.showable]; exact a.show_, by simp only [D.py, PyData.hasDict]; exact a.dict, by simp only [D.py, PyData.depth]; have := a.deep; omega, by simp only [D.okd, Bool.and_eq_true, decide_eq_true_eq]; exact ⟨by omega, a.ok⟩⟩
  simp only [D.py, PyData.bulk]
  exact Nat.le_trans a.bulk (mul64 h.2.1)
 | .tup ds, n, h => by
  simp only [smD, Bool.and_eq_true, decide_eq_true_eq] at h
  obtain ⟨m, rfl⟩ : ∃ m, n = m + 1 := ⟨n - 1, by omega⟩
  have a := smDs_fits ds m h.2.2
  refine ⟨by simp only [pdD, D.py, a.data, Option.map_some], by simp only [D.py, PyData.leavesShort]; exact a.short, ?_, by simp only [D.py, PyData.showable]; exact a.show_, by simp only [D.py, PyData.hasDict]; exact a.dict, by simp only [D.py, PyData.depth]; have := a.deep; omega, by simp only [D.okd, Bool.and_eq_true, decide_eq_true_eq]; exact ⟨by omega, a.ok⟩⟩
  simp only [D.py, PyData.bulk]
  exact Nat.le_trans a.bulk (mul64 h.2.1)
 | .dic _, _, h => by simp [smD] at h
 | .obj _, _, h => by simp [smD] at h
 | .exc _ _ _ _, _, h => by simp [smD] at h
 | .err _ _ _ _, _, h => by simp [smD] at h
theorem smDs_fits : ∀ (ds : List D) (n : Nat), smDs n ds = true → FitsAll n ds
 | [], n, _ => ⟨rfl, rfl, by simp [D.pys, PyData.bulkAll], rfl, rfl, by simp [D.pys, PyData.depthAll], by simp [D.okds]⟩
 | d :: ds, n, h => by
  simp only [smDs, Bool.and_eq_true] at h
  have a := smD_fits d n h.1
  have b := smDs_fits ds n h.2
  refine ⟨by simp only [pdDs, D.pys, a.data, b.data], by simp only [D.pys, PyData.leavesShortAll, a.short, b.short]; rfl, ?_, by simp only [D.pys, PyData.showableAll, a.show_, b.show_]; rfl, by simp only [D.pys, PyData.hasDictAll, a.dict, b.dict]; rfl, by simp only [D.pys, PyData.depthAll]; have := a.deep; have := b.deep; omega, by simp only [D.okds, a.ok, b.ok]; rfl⟩
  simp only [D.pys, PyData.bulkAll, List.length_cons, Nat.add_mul, Nat.one_mul]
  have := a.bulk
  have := b.bulk
  simp only [Nat.mul_add, Nat.mul_one] at *
  omega
end
mutual
theorem okd_up : ∀ (d : D) (n m : Nat), n ≤ m → D.okd n d = true → D.okd m d = true
 | .non, n, m, _, h => by simp [D.okd]
 | .bl _, n, m, _, h => by simp [D.okd]
 | .int _, n, m, _, h => by simp [D.okd]
 | .str _, n, m, _, h => by simpa [D.okd] using h
 | .lst ds, n, m, l, h => by
  simp only [D.okd, Bool.and_eq_true, decide_eq_true_eq] at h ⊢
  exact ⟨by omega, okds_up ds (n - 1) (m - 1) (by omega) h.2⟩
 | .tup ds, n, m, l, h => by
  simp only [D.okd, Bool.and_eq_true, decide_eq_true_eq] at h ⊢
  exact ⟨by omega, okds_up ds (n - 1) (m - 1) (by omega) h.2⟩
 | .dic _, n, m, _, h => by simp [D.okd] at h
 | .obj _, n, m, _, h => by simp [D.okd] at h
 | .exc _ _ _ _, n, m, _, h => by simp [D.okd] at h
 | .err _ _ _ _, n, m, _, h => by simp [D.okd] at h
theorem okds_up : ∀ (ds : List D) (n m : Nat), n ≤ m → D.okds n ds = true → D.okds m ds = true
 | [], n, m, _, _ => by simp [D.okds]
 | d :: ds, n, m, l, h => by
  simp only [D.okds, Bool.and_eq_true] at h ⊢
  exact ⟨okd_up d n m l h.1, okds_up ds n m l h.2⟩
end
theorem plain_sm {d : D} (h : smD 2 d = true) : Plain d := by
 have f := smD_fits d 2 h
 refine ⟨okd_up d 2 60 (by decide) f.ok, f.data, ⟨f.show_, f.dict, PySem.PyData.shown_fits_bulk (B := 13) (by decide) (by decide) f.short (Nat.le_trans f.bulk (by decide)), Nat.le_trans f.deep (by decide)⟩⟩
theorem Plain.self {d : D} (h : Plain d) : D.eqv d d = true := by
 unfold D.eqv
 exact SeqAt.eqv_refl _ (okd_lay d 60 h.ok).1
theorem Plain.vw {d : D} (h : Plain d) (S : SS) : vw S d = d := by
 cases d with
 | obj a => have := h.ok; simp [D.okd] at this
 | _ => rfl
theorem Plain.pdS {d : D} (h : Plain d) (S : SS) : pdS S d = some d.py := by
 have e := h.data
 cases d with
 | obj a => have := h.ok; simp [D.okd] at this
 | _ => exact e
theorem c_eqP {x : D} {S : SS} {K : DK} (h : Plain x) (k : K (.bl true) S) : cmpE .Eq x x S K := c_eqV (by rw [h.vw]; exact h.ok) (by rw [h.vw]; exact h.ok) (by rw [h.vw, h.self]; exact k)
theorem rpr_P {x : D} {S : SS} {K : DK} (h : Plain x) (k : K (.str x.py.shown) S) : Bn.rpr.den [x] S K := rpr_v (h.pdS S) h.shows k
/-! values through cells -/
mutual
theorem dv_ok {S : SS} : ∀ (d : D) (n m : Nat), D.okd m d = true → dv S n d = d
 | d, 0, _, _ => rfl
 | .lst xs, n + 1, m, h => by
  simp only [D.okd, Bool.and_eq_true] at h
  show D.lst (xs.map (dv S n)) = _
  rw [dvs_ok xs n _ h.2]
 | .tup xs, n + 1, m, h => by
  simp only [D.okd, Bool.and_eq_true] at h
  show D.tup (xs.map (dv S n)) = _
  rw [dvs_ok xs n _ h.2]
 | .non, n + 1, _, _ => rfl
 | .bl _, n + 1, _, _ => rfl
 | .int _, n + 1, _, _ => rfl
 | .str _, n + 1, _, _ => rfl
 | .dic _, n + 1, _, h => by simp [D.okd] at h
 | .obj _, n + 1, _, h => by simp [D.okd] at h
 | .exc _ _ _ _, n + 1, _, h => by simp [D.okd] at h
 | .err _ _ _ _, n + 1, _, h => by simp [D.okd] at h
theorem dvs_ok {S : SS} : ∀ (ds : List D) (n m : Nat), D.okds m ds = true → ds.map (dv S n) = ds
 | [], _, _, _ => rfl
 | d :: ds, n, m, h => by
  simp only [D.okds, Bool.and_eq_true] at h
  rw [List.map_cons, dv_ok d n m h.1, dvs_ok ds n m h.2]
end
theorem Plain.dv {S : SS} {x : D} (h : Plain x) : Sv.dv S 60 x = x := dv_ok x 60 60 h.ok
theorem dv_l {S : SS} {p : Addr} {ds : List D} {n : Nat} (h : S p = some (.lst ds)) : dv S (n + 1) (.obj p) = .lst (ds.map (dv S n)) := by
 simp only [dv, vw, h]
theorem c_eqW {x y a b : D} {S : SS} {K : DK} (hx : dv S 60 x = a) (hy : dv S 60 y = b) (oa : D.okd 60 a = true) (ob : D.okd 60 b = true) (k : K (.bl (D.eqv a b)) S) : cmpE .Eq x y S K :=
 .inr (.inr (.inl ⟨by rw [hx]; exact oa, by rw [hy]; exact ob, by rw [Bool.false_xor, hx, hy]; exact k⟩))
theorem c_neW {x y a b : D} {S : SS} {K : DK} (hx : dv S 60 x = a) (hy : dv S 60 y = b) (oa : D.okd 60 a = true) (ob : D.okd 60 b = true) (k : K (.bl (!D.eqv a b)) S) : cmpE .NotEq x y S K :=
 .inr (.inr (.inl ⟨by rw [hx]; exact oa, by rw [hy]; exact ob, by rw [Bool.true_xor, hx, hy]; exact k⟩))
end Sv
/-! Sv-Y: loops over few things, turn by turn. -/
namespace Sv
open PySem PySem.Spec PyProof.Rows L2
section
variable {G : Gm} {δ : DS} {S : SS} {Y : XD'} {K : DK} {a : RE} {es : RL} {cell : Bool} {k : Nat}
theorem d_sl2 (h : den G a δ S Y fun x S1 => ∃ ds, vw S1 x = .lst ds ∧ K (.lst (ev2 k ds)) S1) : den G (.sl2 k a) δ S Y K := by rw [den]; exact h
instance s_d_sl2  : Rdg (den G (.sl2 k a) δ S Y K) (den G a δ S Y fun x S1 => ∃ ds, vw S1 x = .lst ds ∧ K (.lst (ev2 k ds)) S1) := ⟨d_sl2⟩
theorem dq_mnl (hm : G.m0 = none) (h : dens G es δ S Y fun ds S1 => Bn.mnl.den ds S1 K) : den G (.bi .mnl es) δ S Y K := d_bi hm h
instance s_dq_mnl  [M : M0 G.m0] : Rdg (den G (.bi .mnl es) δ S Y K) (dens G es δ S Y fun ds S1 => Bn.mnl.den ds S1 K) := ⟨dq_mnl M.out⟩
theorem dq_srl (hm : G.m0 = none) (h : dens G es δ S Y fun ds S1 => (Bn.srl cell).den ds S1 K) : den G (.bi (.srl cell) es) δ S Y K := d_bi hm h
instance s_dq_srl  [M : M0 G.m0] : Rdg (den G (.bi (.srl cell) es) δ S Y K) (dens G es δ S Y fun ds S1 => (Bn.srl cell).den ds S1 K) := ⟨dq_srl M.out⟩
theorem spl_s {z b : Str} {P : Prop} (k : P) : Mn.spl.rc (.str z) S ∧ P := ⟨⟨z, rfl⟩, k⟩
instance s_spl_s {z : Str} {P : Prop} : Rdg (Mn.spl.rc (.str z) S ∧ P) (P) := ⟨spl_s (b := z)⟩
end
section
end
structure Fit (n : Nat) (d : D) : Prop where
 data : pdD d = some d.py
 short : d.py.leavesShort 13 = true
 show_ : d.py.showable = true
 dict : d.py.hasDict = false
 deep : d.py.depth ≤ n
 ok : D.okd n d = true
theorem Fits.fit {n : Nat} {d : D} (h : Fits n d) : Fit n d := ⟨h.data, h.short, h.show_, h.dict, h.deep, h.ok⟩
end Sv
noncomputable section
namespace Sv
open PySem PySem.Spec PyProof.Rows L2 PySem.W PySem.Calls
/-! SvF: the head's facts, looked up in a part of the heap that is forced once. -/
def foL {β : Type} {α : Type} (f : {α : Type} → β → (β → α) → α) (l : List β) : (List β → α) → α :=
 List.rec (motive := fun _ => (List β → α) → α) (fun k => k []) (fun a _ ih k => f a fun a => ih fun r => k (a :: r)) l
theorem foL_eq {β : Type} {f : {α : Type} → β → (β → α) → α} (h : ∀ {α : Type} (b : β) (k : β → α), f b k = k b) {α : Type} : ∀ (l : List β) (k : List β → α), foL f l k = k l
 | [], k => rfl
 | a :: r, k => by
  show f a (fun a => foL f r fun r => k (a :: r)) = _
  rw [h, foL_eq h]
def foN {α : Type} (n : Nat) (k : Nat → α) : α := HandSHeadRun.frNat n k
theorem foN_eq {α : Type} (n : Nat) (k : Nat → α) : foN n k = k n := HandSHeadRun.frNat_eq n k
def foS {α : Type} (s : Str) (k : Str → α) : α := match s with
 | ⟨⟨l⟩⟩ => foL foN l fun l => k ⟨⟨l⟩⟩
theorem foS_eq {α : Type} (s : Str) (k : Str → α) : foS s k = k s := by
 obtain ⟨⟨l⟩⟩ := s
 exact foL_eq foN_eq l _
def foV {α : Type} (v : Value) (k : Value → α) : α := match v with
 | .ref a => foN a fun a => k (.ref a)
 | .str s t => foS s fun s => k (.str s t)
 | .none => k .none
 | .ellipsis => k .ellipsis
 | .notImplemented => k .notImplemented
 | .bool b => k (.bool b)
 | .int i t => k (.int i t)
 | .float b t => k (.float b t)
 | .bytes b t => k (.bytes b t)
 | .type n => k (.type n)
 | .builtin n => k (.builtin n)
theorem foV_eq {α : Type} (v : Value) (k : Value → α) : foV v k = k v := by
 cases v with
 | ref a => exact foN_eq a _
 | str s t => exact foS_eq s fun s => k (.str s t)
 | _ => rfl
def foE {α : Type} (e : DictEntry) (k : DictEntry → α) : α := match e with
 | ⟨h, x, v⟩ => foV x fun x => foV v fun v => k ⟨h, x, v⟩
theorem foE_eq {α : Type} (e : DictEntry) (k : DictEntry → α) : foE e k = k e := by
 obtain ⟨h, x, v⟩ := e
 show foV x (fun x => foV v fun v => k ⟨h, x, v⟩) = _
 rw [foV_eq, foV_eq]
def foD {α : Type} (d : Data) (k : Data → α) : α := match d with
 | .dict ⟨es⟩ n => foL foE es fun es => k (.dict ⟨es⟩ n)
 | .seq ⟨es⟩ n => foL foV es fun es => k (.seq ⟨es⟩ n)
 | .cls ⟨a1, a2, mro, ns, a3, a4, a5, a6, a7, a8, a9⟩ => foL foV mro fun mro => foN ns fun ns => k (.cls ⟨a1, a2, mro, ns, a3, a4, a5, a6, a7, a8, a9⟩)
 | .func ⟨n1, n2, n3, n4, n5, n6, n7, n8, n9, n10, n11, n12, n13, n14, n15⟩ => foN n6 fun n6 => foV n8 fun n8 => foV n9 fun n9 => foV n13 fun n13 => foN n15 fun n15 => k (.func ⟨n1, n2, n3, n4, n5, n6, n7, n8, n9, n10, n11, n12, n13, n14, n15⟩)
 | .plain => k .plain
 | .prim v => k (.prim v)
 | .set a b c => k (.set a b c)
 | .bytearray a b => k (.bytearray a b)
 | .cell v => k (.cell v)
 | .fields ⟨es⟩ => foL foV es fun es => k (.fields ⟨es⟩)
 | .freed => k .freed
theorem foD_eq {α : Type} (d : Data) (k : Data → α) : foD d k = k d := by
 cases d with
 | dict es n => obtain ⟨es⟩ := es; exact foL_eq foE_eq es _
 | seq es n => obtain ⟨es⟩ := es; exact foL_eq foV_eq es _
 | fields es => obtain ⟨es⟩ := es; exact foL_eq foV_eq es _
 | cls c =>
  obtain ⟨a1, a2, mro, ns, a3, a4, a5, a6, a7, a8, a9⟩ := c
  show foL foV mro (fun mro => foN ns fun ns => k (.cls ⟨a1, a2, mro, ns, a3, a4, a5, a6, a7, a8, a9⟩)) = _
  rw [foL_eq foV_eq, foN_eq]
 | func f =>
  obtain ⟨n1, n2, n3, n4, n5, n6, n7, n8, n9, n10, n11, n12, n13, n14, n15⟩ := f
  show foN n6 (fun n6 => foV n8 fun n8 => foV n9 fun n9 => foV n13 fun n13 => foN n15 fun n15 => k (.func ⟨n1, n2, n3, n4, n5, n6, n7, n8, n9, n10, n11, n12, n13, n14, n15⟩)) = _
  rw [foN_eq, foV_eq, foV_eq, foV_eq, foN_eq]
 | _ => rfl
def foO {α : Type} (o : Obj) (k : Obj → α) : α := match o with
 | ⟨c, d, dt, sl⟩ => foV c fun c => foD dt fun dt => k ⟨c, d, dt, sl⟩
theorem foO_eq {α : Type} (o : Obj) (k : Obj → α) : foO o k = k o := by
 obtain ⟨c, d, dt, sl⟩ := o
 show foV c (fun c => foD dt fun dt => k ⟨c, d, dt, sl⟩) = _
 rw [foV_eq, foD_eq]
/-- a text as a number (texts of unlike numbers are unlike) -/
def codeS (x : Str) : Nat := x.cps.toList.foldl (fun n c => Nat.add (Nat.mul 256 n) c) 1
abbrev Tab : Type := List (Addr × Option (List (Nat × DictEntry)))
def codeE (e : DictEntry) : Nat := match e.key with
 | .str x _ => codeS x
 | _ => 0
def tabO (o : Obj) : Option (List (Nat × DictEntry)) := match o with
 | ⟨_, _, .dict es _, _⟩ => some (es.toList.map fun e => (codeE e, e))
 | _ => none
def tabK (K : Frag) : Tab := K.map fun p => (p.1, tabO p.2)
def foC {α : Type} (es : List DictEntry) : (List (Nat × DictEntry) → α) → α :=
 List.rec (motive := fun _ => (List (Nat × DictEntry) → α) → α) (fun k => k []) (fun e _ ih k => foN (codeE e) fun n => ih fun r => k ((n, e) :: r)) es
theorem foC_eq {α : Type} : ∀ (es : List DictEntry) (k : List (Nat × DictEntry) → α), foC es k = k (es.map fun e => (codeE e, e))
 | [], k => rfl
 | e :: r, k => by
  show foN (codeE e) (fun n => foC r fun r => k ((n, e) :: r)) = _
  rw [foN_eq, foC_eq r] <;> rfl
def foP {α : Type} (o : Obj) (k : Option (List (Nat × DictEntry)) → α) : α := match o with
 | ⟨_, _, .dict ⟨es⟩ _, _⟩ => foC es fun l => k (some l)
 | _ => k none
theorem foP_eq {α : Type} (o : Obj) (k : Option (List (Nat × DictEntry)) → α) : foP o k = k (tabO o) := by
 obtain ⟨c, d, dt, sl⟩ := o
 cases dt with
 | dict es n => obtain ⟨es⟩ := es; exact foC_eq es _
 | _ => rfl
def foT {α : Type} (K : Frag) : (Tab → α) → α :=
 List.rec (motive := fun _ => (Tab → α) → α) (fun k => k []) (fun p _ ih k => match p with
  | (a, o) => foP o fun t => ih fun T => k ((a, t) :: T)) K
theorem foT_eq {α : Type} : ∀ (K : Frag) (k : Tab → α), foT K k = k (tabK K)
 | [], k => rfl
 | (a, o) :: r, k => by
  show foP o (fun t => foT r fun T => k ((a, t) :: T)) = _
  rw [foP_eq, foT_eq r] <;> rfl
def lookN {β : Type} (l : List (Nat × β)) (a : Nat) : Option β :=
 List.rec none (fun p _ ih => match p with
  | (b, v) => match Nat.beq a b with
   | true => some v
   | false => ih) l
theorem lookN_eq {β : Type} {a : Nat} : ∀ l : List (Nat × β), lookN l a = l.lookup a
 | [] => rfl
 | (b, v) :: r => by
  show (match Nat.beq a b with
   | true => some v
   | false => lookN r a) = (match a == b with
   | true => some v
   | false => r.lookup a)
  have e : (a == b) = Nat.beq a b := by
   cases h : Nat.beq a b with
   | true => exact beq_iff_eq.mpr (Nat.eq_of_beq_eq_true h)
   | false => exact beq_eq_false_iff_ne.mpr (Nat.ne_of_beq_eq_false h)
  rw [e, lookN_eq r]
def findC (c : Nat) (x : Str) (l : List (Nat × DictEntry)) : Option DictEntry :=
 List.rec none (fun p _ ih => match p with
  | (n, e) => match Nat.beq n c with
   | true => (match e.key.isStr x with
    | true => some e
    | false => ih)
   | false => ih) l
theorem codeE_is {e : DictEntry} {x : Str} (h : e.key.isStr x = true) : codeE e = codeS x := by
 obtain ⟨hh, k, v⟩ := e
 cases k with
 | str s t =>
  have e : s = x := eq_of_beq (show (s == x) = true from h)
  subst e
  rfl
 | _ => cases h
theorem findC_eq {x : Str} : ∀ es : List DictEntry, findC (codeS x) x (es.map fun e => (codeE e, e)) = es.find? (·.key.isStr x)
 | [] => rfl
 | e :: r => by
  show (match Nat.beq (codeE e) (codeS x) with
   | true => (match e.key.isStr x with
    | true => some e
    | false => findC (codeS x) x (r.map fun e => (codeE e, e)))
   | false => findC (codeS x) x (r.map fun e => (codeE e, e))) = (match e.key.isStr x with
   | true => some e
   | false => r.find? (·.key.isStr x))
  rw [findC_eq r]
  cases h : Nat.beq (codeE e) (codeS x) with
  | true => rfl
  | false =>
   cases q : e.key.isStr x with
   | false => rfl
   | true => exact absurd (codeE_is q) (Nat.ne_of_beq_eq_false h)
def nsT (T : Tab) (ns : Addr) (x : Str) : Option (Option Value) := match lookN T ns with
 | some (some l) => foN (codeS x) fun c => (match findC c x l with
  | some e => some (some e.val)
  | none => if l.any (fun p => p.2.refKey) then none else some none)
 | _ => none
theorem tabK_look {a : Addr} : ∀ K : Frag, (tabK K).lookup a = (K.lookup a).map tabO
 | [] => rfl
 | (b, o) :: r => by
  show (match a == b with
   | true => some (tabO o)
   | false => (tabK r).lookup a) = Option.map tabO (match a == b with
   | true => some o
   | false => r.lookup a)
  cases a == b with
  | true => rfl
  | false => exact tabK_look r
theorem nsT_eq {K : Frag} : nsT (tabK K) = nsIn K := by
 funext ns x
 unfold nsT nsIn
 rw [lookN_eq, tabK_look]
 cases K.lookup ns with
 | none => rfl
 | some o =>
  obtain ⟨c, d, dt, sl⟩ := o
  cases dt with
  | dict es n =>
   show foN (codeS x) (fun c => (match findC c x (es.toList.map fun e => (codeE e, e)) with
    | some e => some (some e.val)
    | none => if (es.toList.map fun e => (codeE e, e)).any (fun p => p.2.refKey) then none else some none)) = _
   rw [foN_eq, findC_eq, List.any_map] <;> rfl
  | _ => rfl
/-! ### the facts, over any way to look a name up -/
section
variable (K : Frag) (N : Addr → Str → Option (Option Value))
def gaN (x : Str) : Addr := match N mainGlobals x with
 | some (some (.ref a)) => a
 | _ => 0
def ownN (name : Str) : Value → Option (Option Value)
 | .type n => some (fastBuiltinOwn n name)
 | .ref a => (match lookN K a with
   | some ⟨_, _, .cls cd, _⟩ => N cd.ns name
   | _ => none)
 | _ => some none
def alongN (name : Str) : List Value → Option (Option Value)
 | [] => some none
 | c :: r => match ownN K N name c with
  | some (some v) => some (some v)
  | some none => alongN name r
  | none => none
def findN (t : Value) (name : Str) : Option (Option Value) := match t with
 | .type n => fastLookup n name
 | .ref a => (match lookN K a with
   | some ⟨_, _, .cls cd, _⟩ => alongN K N name cd.mro
   | _ => none)
 | _ => none
def maN (C : Addr) (m : Str) : Addr := match findN K N (.ref C) m with
 | some (some (.ref a)) => a
 | _ => 0
def fAdN (p : Str × Option Str) : Addr := match p.2 with
 | none => gaN N p.1
 | some m => maN K N (gaN N p.1) m
def keepN (a : Addr) : Bool := match lookN K a with
 | some ⟨_, _, .func _, _⟩ => true
 | some ⟨_, _, .cls _, _⟩ => specialIn K (.ref a) "__call__" == some (some (.builtin "type.__call__"))
 | _ => false
def codeN (cd : Value) (q : Str) : Bool := match cd with
 | .ref c => (match lookN K c with
   | some ⟨_, _, .fields vs, _⟩ => (match vs.toList with | _ :: .str n _ :: _ => n == q | _ => false)
   | _ => false)
 | _ => false
theorem keepN_eq (a : Addr) : keepN K a = keepIn K (.ref a) := by
 unfold keepN keepIn
 rw [lookN_eq] <;> rfl
theorem codeN_eq (cd : Value) (q : Str) : codeN K cd q = codeIn K cd q := by
 unfold codeN codeIn
 cases cd with
 | ref c =>
  show (match lookN K c with
   | some ⟨_, _, .fields vs, _⟩ => (match vs.toList with | _ :: .str n _ :: _ => n == q | _ => false)
   | _ => false) = _
  rw [lookN_eq] <;> rfl
 | _ => rfl
def isFnN (a : Addr) : Bool := (lookN K a).map (·.cls) == some (.type "function")
theorem isFnN_eq (a : Addr) : isFnN K a = isFn K (.ref a) := by
 unfold isFnN isFn typeIn
 rw [lookN_eq] <;> rfl
def faN : He.Fa → Bool
 | .glo x => He.eqO (N mainGlobals x) (some (some (.ref (gaN N x))))
 | .free x => He.eqO (N mainGlobals x) (some none)
 | .int x i => (match N mainGlobals x with
  | some (some (.int j _)) => decide (j = i)
  | _ => false)
 | .str x z => (match N mainGlobals x with
  | some (some (.str y _)) => decide (y = z)
  | _ => false)
 | .cls x => plainGet K (gaN N x) Str.empty && (hasDictIn K (gaN N x) && (plainOver K (gaN N x) && He.eqO (findIn K (.ref (gaN N x)) "__setattr__") (some (some (.builtin "object.__setattr__")))))
 | .noat x f => He.eqO (findN K N (.ref (gaN N x)) f) (some none)
 | .meth x m => He.eqO (findN K N (.ref (gaN N x)) m) (some (some (.ref (maN K N (gaN N x) m)))) && (isFnN K (maN K N (gaN N x) m) && keepN K (maN K N (gaN N x) m))
 | f => f.ok K
def okA (d : He.DefD) (a : Addr) : Bool := keepN K a && (match lookN K a with
 | some ⟨_, _, .func fd, _⟩ => codeN K fd.code d.qual && (He.dflB K fd.defaults (d.dvs K) && He.kwdB K fd.kwdefaults (d.kws K))
 | _ => false)
def fnA (a : Addr) : He.FnW := match lookN K a with
 | some ⟨_, _, .func fd, _⟩ => some (fd.name, fd.qualname, fd.params, fd.body, fd.scope, fd.globals, fd.closure, fd.builtins)
 | _ => none
def fxN : Fx → Bool
 | .oex x => oexB K (gaN N x)
 | .ini x => He.eqO (findN K N (.ref (gaN N x)) "__init__") (some (some (.ref (maN K N (gaN N x) "__init__")))) && decide (typeIn K (.ref (maN K N (gaN N x) "__init__")) = some (.type "function"))
 | .nov x f => He.eqO (findN K N (.ref (gaN N x)) f) (some none)
 | .kit x y b => decide (kitOne K (.ref (gaN N x)) (.ref (gaN N y)) = some b)
 | .kitT x n b => decide (kitOne K (.ref (gaN N x)) (.type n) = some b)
 | .sib xs => xs.all fun x => xs.all fun y => decide (kitOne K (.ref (gaN N x)) (.ref (gaN N y)) = some (decide (x = y)))
 | .veT xs n => xs.all fun x => decide (kitOne K (.ref (gaN N x)) (.type n) = some true)
 | .exA xs y => xs.all fun x => decide (exmOne K (.ref (gaN N x)) (.ref (gaN N y)) = some true)
 | f => f.ok K
def obsN (fa : List He.Fa) (fn : List He.DefD) (fx : List Fx) : AlX := (((fa.all fun f => faN K N f) && fn.all fun d => okA K d (fAdN K N d.at_), fn.map fun d => fnA K (fAdN K N d.at_)), fx.all fun f => fxN K N f)
end
section
variable {K : Frag}
theorem ownN_eq {name : Str} (c : Value) : ownN K (nsIn K) name c = ownIn K name c := by
 unfold ownN ownIn
 cases c with
 | ref a =>
  show (match lookN K a with
   | some ⟨_, _, .cls cd, _⟩ => nsIn K cd.ns name
   | _ => none) = _
  rw [lookN_eq] <;> rfl
 | _ => rfl
theorem alongN_eq {name : Str} : ∀ l : List Value, alongN K (nsIn K) name l = alongIn K name l
 | [] => rfl
 | c :: r => by
  show (match ownN K (nsIn K) name c with
   | some (some v) => some (some v)
   | some none => alongN K (nsIn K) name r
   | none => none) = (match ownIn K name c with
   | some (some v) => some (some v)
   | some none => alongIn K name r
   | none => none)
  rw [alongN_eq r, ownN_eq] <;> rfl
theorem findN_eq : findN K (nsIn K) = findIn K := by
 funext t name
 unfold findN findIn
 cases t with
 | ref a =>
  show (match lookN K a with
   | some ⟨_, _, .cls cd, _⟩ => alongN K (nsIn K) name cd.mro
   | _ => none) = _
  rw [lookN_eq]
  simp only [alongN_eq]
  rfl
 | _ => rfl
theorem maN_eq : maN K (nsIn K) = He.ma K := by
 funext C m
 unfold maN He.ma
 rw [findN_eq] <;> rfl
theorem fAdN_eq : fAdN K (nsIn K) = He.fAd K := by
 funext p
 unfold fAdN He.fAd
 rw [maN_eq] <;> rfl
theorem faN_eq : faN K (nsIn K) = He.Fa.ok K := by
 funext f
 cases f with
 | meth x m =>
  show (He.eqO (findN K (nsIn K) (.ref (gaN (nsIn K) x)) m) (some (some (.ref (maN K (nsIn K) (gaN (nsIn K) x) m)))) && (isFnN K (maN K (nsIn K) (gaN (nsIn K) x) m) && keepN K (maN K (nsIn K) (gaN (nsIn K) x) m))) = _
  rw [findN_eq, maN_eq, isFnN_eq, keepN_eq] <;> rfl
 | _ => first | rfl | (unfold faN He.Fa.ok; rw [findN_eq]; rfl) | (unfold faN He.Fa.ok; rw [findN_eq, maN_eq]; rfl)
theorem fxN_eq : fxN K (nsIn K) = Fx.ok K := by
 funext f
 cases f <;> first | rfl | (unfold fxN Fx.ok; rw [findN_eq]; rfl) | (unfold fxN Fx.ok; rw [findN_eq, maN_eq]; rfl)
theorem okA_eq (d : He.DefD) : okA K d (He.fAd K d.at_) = d.ok K := by
 unfold okA He.DefD.ok
 rw [keepN_eq, lookN_eq]
 simp only [codeN_eq]
 rfl
theorem fnA_eq (p : Str × Option Str) : fnA K (He.fAd K p) = He.fnW K p := by
 unfold fnA He.fnW
 rw [lookN_eq] <;> rfl
theorem obsN_eq {fa : List He.Fa} {fn : List He.DefD} {fx : List Fx} : obsN K (nsIn K) fa fn fx = obsX fa fn fx K := by
 unfold obsN
 rw [faN_eq, fxN_eq, fAdN_eq]
 simp only [okA_eq, fnA_eq]
 rfl
end
/-! ### what the module's names reach -/
section
variable {α : Type} (g : Addr → Option Obj)
/-- what is not yet marked is put ahead -/
def addR (l : List Addr) : Nat → List Addr → (Nat → List Addr → α) → α :=
 List.rec (motive := fun _ => Nat → List Addr → (Nat → List Addr → α) → α) (fun m f k => k m f) (fun a _ ih m f k => match Nat.beq (Nat.land (Nat.shiftRight m a) 1) 0 with
  | true => foN a fun a => foN (Nat.lor m (Nat.shiftLeft 1 a)) fun m => ih m (a :: f) k
  | false => ih m f k) l
/-- one round: the objects at these, what they name -/
def roundR (l : List Addr) : Nat → List Addr → Frag → (Nat → List Addr → Frag → α) → α :=
 List.rec (motive := fun _ => Nat → List Addr → Frag → (Nat → List Addr → Frag → α) → α) (fun m f K k => k m f K) (fun a _ ih m f K k => match g a with
  | none => ih m f K k
  | some o => foO o fun o => addR (He.refsD o) m f fun m f => ih m f ((a, o) :: K) k) l
def reachR : Nat → List Addr → Nat → Frag → (Frag → α) → α
 | 0, l, m, K, k => roundR g l m [] K fun _ _ K => k K
 | n + 1, l, m, K, k => roundR g l m [] K fun m f K => reachR n f m K k
/-- the part of the heap that is looked at -/
def partR (n : Nat) (k : Frag → α) : α := reachR g n [mainGlobals, cStatics] (Nat.lor (Nat.shiftLeft 1 mainGlobals) (Nat.shiftLeft 1 cStatics)) [] fun K => k K.reverse
end
section
variable {g : Addr → Option Obj}
def PartOf (g : Addr → Option Obj) (K : Frag) : Prop := ∀ p ∈ K, g p.1 = some p.2
theorem addR_is : ∀ (l : List Addr) (m : Nat) (f : List Addr), ∃ m' f', ∀ {α : Type} (k : Nat → List Addr → α), addR l m f k = k m' f'
 | [], m, f => ⟨m, f, fun _ => rfl⟩
 | a :: r, m, f => by
  cases e : Nat.beq (Nat.land (Nat.shiftRight m a) 1) 0 with
  | true =>
   obtain ⟨m', f', h⟩ := addR_is r (Nat.lor m (Nat.shiftLeft 1 a)) (a :: f)
   refine ⟨m', f', fun {α} k => ?_⟩
   show (match Nat.beq (Nat.land (Nat.shiftRight m a) 1) 0 with
    | true => foN a fun a => foN (Nat.lor m (Nat.shiftLeft 1 a)) fun m => addR r m (a :: f) k
    | false => addR r m f k) = k m' f'
   rw [e]
   show foN a (fun a => foN (Nat.lor m (Nat.shiftLeft 1 a)) fun m => addR r m (a :: f) k) = k m' f'
   rw [foN_eq, foN_eq]
   exact h k
  | false =>
   obtain ⟨m', f', h⟩ := addR_is r m f
   refine ⟨m', f', fun {α} k => ?_⟩
   show (match Nat.beq (Nat.land (Nat.shiftRight m a) 1) 0 with
    | true => foN a fun a => foN (Nat.lor m (Nat.shiftLeft 1 a)) fun m => addR r m (a :: f) k
    | false => addR r m f k) = k m' f'
   rw [e]
   exact h k
theorem roundR_is : ∀ (l : List Addr) (m : Nat) (f : List Addr) (K : Frag), PartOf g K → ∃ m' f' K', PartOf g K' ∧ ∀ {α : Type} (k : Nat → List Addr → Frag → α), roundR g l m f K k = k m' f' K'
 | [], m, f, K, h => ⟨m, f, K, h, fun _ => rfl⟩
 | a :: r, m, f, K, h => by
  cases e : g a with
  | none =>
   obtain ⟨m', f', K', h', q⟩ := roundR_is r m f K h
   refine ⟨m', f', K', h', fun {α} k => ?_⟩
   show (match g a with
    | none => roundR g r m f K k
    | some o => foO o fun o => addR (He.refsD o) m f fun m f => roundR g r m f ((a, o) :: K) k) = k m' f' K'
   rw [e]
   exact q k
  | some o =>
   obtain ⟨m1, f1, e1⟩ := addR_is (He.refsD o) m f
   obtain ⟨m', f', K', h', q⟩ := roundR_is r m1 f1 ((a, o) :: K) fun p hp => by
    rcases List.mem_cons.mp hp with rfl | hp
    ·exact e
    ·exact h p hp
   refine ⟨m', f', K', h', fun {α} k => ?_⟩
   show (match g a with
    | none => roundR g r m f K k
    | some o => foO o fun o => addR (He.refsD o) m f fun m f => roundR g r m f ((a, o) :: K) k) = k m' f' K'
   rw [e]
   show foO o (fun o => addR (He.refsD o) m f fun m f => roundR g r m f ((a, o) :: K) k) = k m' f' K'
   rw [foO_eq, e1]
   exact q k
theorem reachR_is : ∀ (n : Nat) (l : List Addr) (m : Nat) (K : Frag), PartOf g K → ∃ K', PartOf g K' ∧ ∀ {α : Type} (k : Frag → α), reachR g n l m K k = k K'
 | 0, l, m, K, h => by
  obtain ⟨_, _, K', h', e⟩ := roundR_is l m [] K h
  exact ⟨K', h', fun k => e _⟩
 | n + 1, l, m, K, h => by
  obtain ⟨m', f', K', h', e⟩ := roundR_is l m [] K h
  obtain ⟨K2, h2, e2⟩ := reachR_is n f' m' K' h'
  exact ⟨K2, h2, fun k => (e _).trans (e2 k)⟩
theorem partR_is (n : Nat) : ∃ K, PartOf g K ∧ ∀ {α : Type} (k : Frag → α), partR g n k = k K := by
 obtain ⟨K, h, e⟩ := reachR_is n [mainGlobals, cStatics] (Nat.lor (Nat.shiftLeft 1 mainGlobals) (Nat.shiftLeft 1 cStatics)) [] (show PartOf g [] from fun p hp => nomatch hp)
 exact ⟨K.reverse, fun p hp => h p (List.mem_reverse.mp hp), fun k => e fun K => k K.reverse⟩
theorem PartOf.at_ {K : Frag} {a : Addr} {o : Obj} : PartOf g K → K.lookup a = some o → g a = some o := by
 induction K with
 | nil => intro _ e; cases e
 | cons p r ih =>
  obtain ⟨b, ob⟩ := p
  intro h e
  have e2 : (match a == b with
   | true => some ob
   | false => r.lookup a) = some o := e
  cases q : (a == b) with
  | true =>
   rw [q] at e2
   cases e2
   rw [beq_iff_eq.mp q]
   exact h _ List.mem_cons_self
  | false =>
   rw [q] at e2
   exact ih (fun p hp => h p (List.mem_cons_of_mem _ hp)) e2
end
def obsF (n : Nat) (fa : List He.Fa) (fn : List He.DefD) (fx : List Fx) (g : Addr → Option Obj) : AlX := partR g n fun K => foT K fun T => obsN K (nsT T) fa fn fx
def hookF (n : Nat) (fa : List He.Fa) (fn : List He.DefD) (fx : List Fx) : Hook where
 α := AlX
 obs := fun s => obsF n fa fn fx s.heap.get?
 val := fun _ => (He.valD fn, true)
 says := fun _ h => ∃ K : Frag, K.In h ∧ SaysX fa fn fx K
 of := fun _ s e => by
  obtain ⟨K, h, q⟩ := partR_is (g := s.heap.get?) n
  refine ⟨K, fun a o x => h.at_ x, ?_⟩
  have e2 : obsF n fa fn fx s.heap.get? = (He.valD fn, true) := e
  unfold obsF at e2
  rw [q, foT_eq, nsT_eq, obsN_eq] at e2
  exact e2
 keeps := fun _ _ _ ⟨K, hK, c⟩ k => ⟨K, Frag.In.keeps hK k, c⟩
theorem obsF_eq {n : Nat} {fa : List He.Fa} {fn : List He.DefD} {fx : List Fx} {g : Addr → Option Obj} {s : Shared} (h : ∀ a, g a = s.heap.get? a) : obsF n fa fn fx g = (hookF n fa fn fx).obs s := by
 have e : g = s.heap.get? := funext h
 rw [e] <;> rfl
/-! ### the run's equation, part by part -/
section
open HandSHeadRun
theorem obsF_app {n : Nat} {fa1 fa2 : List He.Fa} {fn1 fn2 : List He.DefD} {fx1 fx2 : List Fx} {g : Addr → Option Obj} (h1 : obsF n fa1 fn1 fx1 g = (He.valD fn1, true)) (h2 : obsF n fa2 fn2 fx2 g = (He.valD fn2, true)) :
  obsF n (fa1 ++ fa2) (fn1 ++ fn2) (fx1 ++ fx2) g = (He.valD (fn1 ++ fn2), true) := by
 obtain ⟨K, _, q⟩ := partR_is (g := g) n
 unfold obsF at h1 h2 ⊢
 rw [q, foT_eq] at h1 h2 ⊢
 unfold obsN He.valD at h1 h2 ⊢
 simp only [Prod.mk.injEq, Bool.and_eq_true] at h1 h2
 obtain ⟨⟨⟨a1, b1⟩, c1⟩, d1⟩ := h1
 obtain ⟨⟨⟨a2, b2⟩, c2⟩, d2⟩ := h2
 rw [List.all_append, List.all_append, List.all_append, List.map_append, List.map_append, a1, a2, b1, b2, c1, c2, d1, d2]
 rfl
/-- some of the facts -/
def RunB (r : OpenRow) (M n : Nat) (fa : List He.Fa) (fn : List He.DefD) (fx : List Fx) (w : World) : Prop :=
 ∀ os : OsState, (endF (stepQ (denQ tabQ) r.prog w) M r.prog w os).map (fun s => obsF n fa fn fx (getT s)) = some (He.valD fn, true)
variable {r : OpenRow} {q : Program} {M n : Nat} {loose : List Str} {w : World} {fa : List He.Fa} {fn : List He.DefD} {fx : List Fx}
theorem RunB.join (k1 k2 k3 : Nat) (h1 : RunB r M n (fa.take k1) (fn.take k2) (fx.take k3) w) (h2 : RunB r M n (fa.drop k1) (fn.drop k2) (fx.drop k3) w) : RunB r M n fa fn fx w := by
 intro os
 have a := h1 os
 have b := h2 os
 cases e : endF (stepQ (denQ tabQ) r.prog w) M r.prog w os with
 | none =>
  rw [e] at a
  cases a
 | some s =>
  rw [e] at a b
  have c := obsF_app (Option.some.inj a) (Option.some.inj b)
  simp only [List.take_append_drop] at c
  exact congrArg some c
end
end Sv
namespace Sv
open PySem PySem.Spec PyProof.Rows L2
end Sv
namespace Cl
open PySem PySem.Spec PyProof.Rows L2 Sv
open L2H (RoomH)
def top (i : Nat) : Stmt := PySem.Challenge.pw_stillmain_k29_again_two_layouts.main.body.getD i (.Pass ⟨0, 0, 0, 0⟩)
def fn : List He.DefD := [
 ⟨("_law_bag", none), "_law_bag", "_law_bag", defArgs (top 23), defBody (top 23), defScope (top 23), [], []⟩,
 ⟨("_law_take", none), "_law_take", "_law_take", defArgs (top 24), defBody (top 24), defScope (top 24), [], []⟩,
 ⟨("Layout", some "__init__"), "__init__", "Layout.__init__", defArgs (inClass (top 21) 0), defBody (inClass (top 21) 0), defScope (inClass (top 21) 0), [], []⟩,
 ⟨("_law_new", none), "_law_new", "_law_new", defArgs (top 28), defBody (top 28), defScope (top 28), [], []⟩,
 ⟨("_law_due_take", none), "_law_due_take", "_law_due_take", defArgs (top 29), defBody (top 29), defScope (top 29), [], []⟩,
 ⟨("wrong_unless", none), "wrong_unless", "wrong_unless", defArgs (top 19), defBody (top 19), defScope (top 19), [], []⟩,
 ⟨("is_name", none), "is_name", "is_name", defArgs (top 13), defBody (top 13), defScope (top 13), [], []⟩,
 ⟨("is_whole", none), "is_whole", "is_whole", defArgs (top 12), defBody (top 12), defScope (top 12), [], []⟩,
 ⟨("Layout", some "need_new"), "need_new", "Layout.need_new", defArgs (inClass (top 21) 1), defBody (inClass (top 21) 1), defScope (inClass (top 21) 1), [], []⟩,
 ⟨("lacks_unless", none), "lacks_unless", "lacks_unless", defArgs (top 20), defBody (top 20), defScope (top 20), [], []⟩,
 ⟨("_law_class", none), "_law_class", "_law_class", defArgs (top 33), defBody (top 33), defScope (top 33), [], []⟩,
 ⟨("_law_alike", none), "_law_alike", "_law_alike", defArgs (top 25), defBody (top 25), defScope (top 25), [], []⟩,
 ⟨("_law_do", none), "_law_do", "_law_do", defArgs (top 31), defBody (top 31), defScope (top 31), [], []⟩,
 ⟨("Layout", some "rooms"), "rooms", "Layout.rooms", defArgs (inClass (top 21) 10), defBody (inClass (top 21) 10), defScope (inClass (top 21) 10), [], []⟩,
 ⟨("Layout", some "lines"), "lines", "Layout.lines", defArgs (inClass (top 21) 11), defBody (inClass (top 21) 11), defScope (inClass (top 21) 11), [], []⟩,
 ⟨("Layout", some "drains"), "drains", "Layout.drains", defArgs (inClass (top 21) 12), defBody (inClass (top 21) 12), defScope (inClass (top 21) 12), [], []⟩,
 ⟨("Layout", some "sources"), "sources", "Layout.sources", defArgs (inClass (top 21) 13), defBody (inClass (top 21) 13), defScope (inClass (top 21) 13), [], []⟩,
 ⟨("_law_name", none), "_law_name", "_law_name", defArgs (top 26), defBody (top 26), defScope (top 26), [], []⟩,
 ⟨("_law_due", none), "_law_due", "_law_due", defArgs (top 30), defBody (top 30), defScope (top 30), [], []⟩,
 ⟨("Layout", some "add_room"), "add_room", "Layout.add_room", defArgs (inClass (top 21) 2), defBody (inClass (top 21) 2), defScope (inClass (top 21) 2), [], []⟩,
 ⟨("is_cost", none), "is_cost", "is_cost", defArgs (top 14), defBody (top 14), defScope (top 14), [], []⟩,
 ⟨("Layout", some "add_drain"), "add_drain", "Layout.add_drain", defArgs (inClass (top 21) 4), defBody (inClass (top 21) 4), defScope (inClass (top 21) 4), [], []⟩,
 ⟨("Layout", some "add_source"), "add_source", "Layout.add_source", defArgs (inClass (top 21) 5), defBody (inClass (top 21) 5), defScope (inClass (top 21) 5), [], []⟩,
 ⟨("Layout", some "lines_at"), "lines_at", "Layout.lines_at", defArgs (inClass (top 21) 16), defBody (inClass (top 21) 16), defScope (inClass (top 21) 16), [], []⟩,
 ⟨("Layout", some "take_line"), "take_line", "Layout.take_line", defArgs (inClass (top 21) 7), defBody (inClass (top 21) 7), defScope (inClass (top 21) 7), [], []⟩,
 ⟨("Layout", some "take_drain"), "take_drain", "Layout.take_drain", defArgs (inClass (top 21) 8), defBody (inClass (top 21) 8), defScope (inClass (top 21) 8), [], []⟩,
 ⟨("Layout", some "take_source"), "take_source", "Layout.take_source", defArgs (inClass (top 21) 9), defBody (inClass (top 21) 9), defScope (inClass (top 21) 9), [], []⟩,
 ⟨("_law_cost", none), "_law_cost", "_law_cost", defArgs (top 40), defBody (top 40), defScope (top 40), [], []⟩,
 ⟨("_law_put_otherwise", none), "_law_put_otherwise", "_law_put_otherwise", defArgs (top 44), defBody (top 44), defScope (top 44), [], []⟩,
 ⟨("Layout", some "line"), "line", "Layout.line", defArgs (inClass (top 21) 14), defBody (inClass (top 21) 14), defScope (inClass (top 21) 14), [], []⟩,
 ⟨("Layout", some "drain"), "drain", "Layout.drain", defArgs (inClass (top 21) 15), defBody (inClass (top 21) 15), defScope (inClass (top 21) 15), [], []⟩,
 ⟨("_law_lists", none), "_law_lists", "_law_lists", defArgs (top 38), defBody (top 38), defScope (top 38), [], []⟩,
 ⟨("_law_names", none), "_law_names", "_law_names", defArgs (top 27), defBody (top 27), defScope (top 27), [], []⟩,
 ⟨("Layout", some "add_line"), "add_line", "Layout.add_line", defArgs (inClass (top 21) 3), defBody (inClass (top 21) 3), defScope (inClass (top 21) 3), [], []⟩,
 ⟨("Layout", some "take_room"), "take_room", "Layout.take_room", defArgs (inClass (top 21) 6), defBody (inClass (top 21) 6), defScope (inClass (top 21) 6), [], []⟩,
 ⟨("_law_add_line", none), "_law_add_line", "_law_add_line", defArgs (top 41), defBody (top 41), defScope (top 41), [], []⟩,
 ⟨("_law_told", none), "_law_told", "_law_told", defArgs (top 43), defBody (top 43), defScope (top 43), [], []⟩,
 ⟨("_law_ends", none), "_law_ends", "_law_ends", defArgs (top 36), defBody (top 36), defScope (top 36), [], []⟩,
 ⟨("_law_at_rooms", none), "_law_at_rooms", "_law_at_rooms", defArgs (top 37), defBody (top 37), defScope (top 37), [], []⟩,
 ⟨("_law_call", none), "_law_call", "_law_call", defArgs (top 32), defBody (top 32), defScope (top 32), [], []⟩,
 ⟨("_law_deed", none), "_law_deed", "_law_deed", defArgs (top 42), defBody (top 42), defScope (top 42), [], []⟩,
 ⟨("_law_same", none), "_law_same", "_law_same", defArgs (top 39), defBody (top 39), defScope (top 39), [], []⟩,
 ⟨("_law_say", none), "_law_say", "_law_say", defArgs (top 34), defBody (top 34), defScope (top 34), [], []⟩,
 ⟨("_law_step", none), "_law_step", "_law_step", defArgs (top 35), defBody (top 35), defScope (top 35), [], []⟩,
 ⟨("law", none), "law", "law", defArgs (top 45), defBody (top 45), defScope (top 45), [], []⟩,
 ⟨("Wrong", some "__init__"), "__init__", "Wrong.__init__", defArgs (inClass (top 3) 0), defBody (inClass (top 3) 0), defScope (inClass (top 3) 0), [], []⟩,
 ⟨("There", some "__init__"), "__init__", "There.__init__", defArgs (inClass (top 4) 0), defBody (inClass (top 4) 0), defScope (inClass (top 4) 0), [], []⟩,
 ⟨("Lacks", some "__init__"), "__init__", "Lacks.__init__", defArgs (inClass (top 5) 0), defBody (inClass (top 5) 0), defScope (inClass (top 5) 0), [], []⟩,
 ⟨("TooMany", some "__init__"), "__init__", "TooMany.__init__", defArgs (inClass (top 6) 0), defBody (inClass (top 6) 0), defScope (inClass (top 6) 0), [], []⟩,
 ⟨("InUse", some "__init__"), "__init__", "InUse.__init__", defArgs (inClass (top 7) 0), defBody (inClass (top 7) 0), defScope (inClass (top 7) 0), [], []⟩]
def fa : List He.Fa := [
 .glo "_law_bag",
 .glo "_law_take",
 .meth "Layout" "__init__",
 .cls "Layout",
 .mkr "Layout",
 .glo "_law_new",
 .glo "_law_due_take",
 .glo "wrong_unless",
 .glo "is_name",
 .glo "is_whole",
 .meth "Layout" "need_new",
 .glo "lacks_unless",
 .glo "_law_class",
 .glo "_law_alike",
 .glo "_law_do",
 .meth "Layout" "rooms",
 .meth "Layout" "lines",
 .meth "Layout" "drains",
 .meth "Layout" "sources",
 .glo "_law_name",
 .glo "_law_due",
 .meth "Layout" "add_room",
 .glo "is_cost",
 .meth "Layout" "add_drain",
 .meth "Layout" "add_source",
 .meth "Layout" "lines_at",
 .meth "Layout" "take_line",
 .meth "Layout" "take_drain",
 .meth "Layout" "take_source",
 .glo "_law_cost",
 .glo "_law_put_otherwise",
 .meth "Layout" "line",
 .meth "Layout" "drain",
 .glo "_law_lists",
 .glo "_law_names",
 .meth "Layout" "add_line",
 .meth "Layout" "take_room",
 .glo "_law_add_line",
 .glo "_law_told",
 .glo "_law_ends",
 .glo "_law_at_rooms",
 .glo "_law_call",
 .glo "_law_deed",
 .glo "_law_same",
 .glo "_law_say",
 .glo "_law_step",
 .glo "law",
 .glo "MainsError",
 .glo "Wrong",
 .glo "There",
 .glo "Lacks",
 .glo "TooMany",
 .glo "InUse",
 .glo "Layout",
 .free "len",
 .free "abs",
 .free "max",
 .free "min",
 .free "range",
 .free "isinstance",
 .free "repr",
 .free "list",
 .free "tuple",
 .free "dict",
 .free "sorted",
 .free "sum",
 .free "enumerate",
 .free "zip",
 .free "reversed",
 .free "str",
 .free "int",
 .free "bool",
 .free "set",
 .free "ValueError",
 .free "any",
 .free "all",
 .str "LETTERS" "abcdefghijklmnopqrstuvwxyz",
 .int "LONGEST" 8,
 .int "MOST_COST" 99,
 .int "MOST_ROOMS" 24,
 .int "MOST_LINES" 40,
 .int "MOST_DRAINS" 12,
 .noat "Layout" "by_room",
 .noat "Layout" "ends_of",
 .noat "Layout" "seat_of",
 .noat "Layout" "pushed"]
def fx : List Fx := [
 .oex "Wrong",
 .ini "Wrong",
 .nov "Wrong" "at",
 .oex "There",
 .ini "There",
 .nov "There" "name",
 .oex "Lacks",
 .ini "Lacks",
 .nov "Lacks" "name",
 .oex "TooMany",
 .ini "TooMany",
 .nov "TooMany" "most",
 .oex "InUse",
 .ini "InUse",
 .nov "InUse" "name",
 .bas "MainsError",
 .sib ["Wrong", "There", "Lacks", "TooMany", "InUse"],
 .veT ["Wrong", "There", "Lacks", "TooMany", "InUse"] "ValueError",
 .exA ["Wrong", "There", "Lacks", "TooMany", "InUse"] "MainsError",
 .exfs ["Wrong", "There", "Lacks", "TooMany", "InUse"]]
def nm0 : List Str := ["_wall", "__name__", "MainsError", "Wrong", "There", "Lacks", "TooMany", "InUse", "LETTERS", "LONGEST", "MOST_COST", "is_whole", "is_name", "is_cost", "MOST_ROOMS", "MOST_LINES", "MOST_DRAINS", "wrong_unless", "lacks_unless", "Layout", "_law_bag", "_law_take", "_law_alike", "_law_name", "_law_names", "_law_new", "_law_due_take", "_law_due", "_law_do", "_law_call"]
def nm1 : List Str := ["_law_class", "_law_say", "_law_step", "_law_ends", "_law_at_rooms", "_law_lists", "_law_same", "_law_cost", "_law_add_line", "_law_deed", "_law_told", "_law_put_otherwise"]
def names : List Str := nm0 ++ nm1
abbrev R : PySem.W.OpenRow := PySem.W.OpenLaw.row PySem.Challenge.rw_stillmain_k29_again_two_layouts
noncomputable abbrev hk : PySem.W.Hook := hookF 5 fa fn fx
noncomputable def ob (s : PySem.W.SharedT) : AlX := obsF 5 fa fn fx (HandSHeadRun.getT s)
theorem ob_eq (s : PySem.W.SharedT) : ob s = hk.obs s.abs := obsF_eq (HandSHeadRun.getT_eq s)
theorem run (w : World) : HandSHeadRun.RunEq R (PySem.W.view R.prog [45]) hk ob 20000 names w := by
 intro os
 kernel_rfl
def fnsL : List En := [.fn "_law_bag", .fn "_law_take", .mt "Layout" "__init__", .fn "_law_new", .fn "_law_due_take", .fn "wrong_unless", .fn "is_name", .fn "is_whole", .mt "Layout" "need_new", .fn "lacks_unless", .fn "_law_class", .fn "_law_alike", .fn "_law_do", .mt "Layout" "rooms", .mt "Layout" "lines", .mt "Layout" "drains", .mt "Layout" "sources", .fn "_law_name", .fn "_law_due", .mt "Layout" "add_room", .fn "is_cost", .mt "Layout" "add_drain", .mt "Layout" "add_source", .mt "Layout" "lines_at", .mt "Layout" "take_line", .mt "Layout" "take_drain", .mt "Layout" "take_source", .fn "_law_cost", .fn "_law_put_otherwise", .mt "Layout" "line", .mt "Layout" "drain", .fn "_law_lists", .fn "_law_names", .mt "Layout" "add_line", .mt "Layout" "take_room", .fn "_law_add_line", .fn "_law_told", .fn "_law_ends", .fn "_law_at_rooms", .fn "_law_call", .fn "_law_deed", .fn "_law_same", .fn "_law_say", .fn "_law_step", .fn "law"]
def clsL : List Str := ["MainsError", "Wrong", "There", "Lacks", "TooMany", "InUse", "Layout"]
def gvsL : List Str := ["LETTERS", "LONGEST", "MOST_COST", "MOST_ROOMS", "MOST_LINES", "MOST_DRAINS"]
abbrev sn (N : List Str) : SN := ⟨N, fnsL, clsL, gvsL⟩
def N0 : List Str := ["_law_script", "_law_cell"]
/-- _law_bag -/
def b0 : RSs := .cons (.ret (.lst true (.cons (.con (.int 0)) (.cons (.con (.int 1234567891)) (.cons (.con (.int 0)) (.cons (.lc false (.bi .abs (.cons (.var 1) .nil)) [1] true (.lst (.sl (.var 0) (.nn) (.ss (.con (.int 63))))) (.nn) [("_law_cell", 1)]) .nil)))))) .nil
theorem sc0 : FnScope N0 ["_law_script"] (defScope (top 23)) := ⟨rfl, rfl, rfl, by decide +kernel, rfl, by decide +kernel, by decide +kernel⟩
theorem ck0 : chkSs (sn N0) (defScope (top 23)) b0 (defBody (top 23)) = true := by decide +kernel
def N1 : List Str := ["_law_bag_here", "_law_many", "_law_cell", "_law_value", "_law_first", "_law_second"]
/-- _law_take -/
def b1 : RSs := .cut (.ifs (.cmp .Eq (.ix (.var 0) (.con (.int 0))) (.con (.int 0))) (.cons (.asg [2] true (.con (.int 0))) (.cut (.ifs (.cmp .Lt (.ix (.var 0) (.con (.int 2))) (.bi .len (.cons (.ix (.var 0) (.con (.int 3))) .nil))) (.cons (.asg [2] true (.ix (.ix (.var 0) (.con (.int 3))) (.ix (.var 0) (.con (.int 2))))) .nil) (.nil)) (.cons (.agi (.var 0) (.con (.int 2)) .Add (.con (.int 1))) (.cut (.ifs (.cmp .GtE (.var 2) (.con (.int 1000000000000000000))) (.cons (.sti (.var 0) (.con (.int 0)) (.var 2)) .nil) (.nil)) (.cons (.sti (.var 0) (.con (.int 1)) (.bin .Mod (.bin .Add (.bin .Add (.bin .Mult (.ix (.var 0) (.con (.int 1))) (.con (.int 48271))) (.bin .Mod (.var 2) (.con (.int 2147483647)))) (.bin .Mult (.con (.int 7919)) (.ix (.var 0) (.con (.int 2))))) (.con (.int 2147483647)))) .nil))))) (.nil)) (.cons (.ifs (.cmp .Gt (.ix (.var 0) (.con (.int 0))) (.con (.int 0))) (.cons (.asg [3] true (.bin .Mod (.ix (.var 0) (.con (.int 0))) (.var 1))) (.cons (.sti (.var 0) (.con (.int 0)) (.bin .FloorDiv (.ix (.var 0) (.con (.int 0))) (.var 1))) (.cons (.ret (.var 3)) .nil))) (.nil)) (.cons (.asg [4] true (.bin .Mod (.bin .Mult (.bin .Add (.ix (.var 0) (.con (.int 1))) (.con (.int 1))) (.con (.int 39373))) (.con (.int 1000000007)))) (.cons (.asg [5] true (.bin .Mod (.bin .Mult (.bin .Mod (.bin .Mult (.var 4) (.var 4)) (.con (.int 998244353))) (.con (.int 30011))) (.con (.int 998244353)))) (.cons (.ifs (.cmp .Gt (.var 1) (.con (.int 1000000))) (.cons (.ret (.bin .Mod (.bin .Add (.bin .Mult (.var 5) (.con (.int 1000000007))) (.var 4)) (.var 1))) .nil) (.nil)) (.cons (.ret (.bin .Mod (.bin .FloorDiv (.var 5) (.con (.int 7))) (.var 1))) .nil)))))
theorem sc1 : FnScope N1 ["_law_bag_here", "_law_many"] (defScope (top 24)) := ⟨rfl, rfl, rfl, by decide +kernel, rfl, by decide +kernel, by decide +kernel⟩
theorem ck1 : chkSs (sn N1) (defScope (top 24)) b1 (defBody (top 24)) = true := by decide +kernel
def N2 : List Str := ["self"]
/-- Layout.__init__ -/
def b2 : RSs := .cons (.stf (.var 0) "by_room" (.dct true (.nil))) (.cons (.stf (.var 0) "ends_of" (.dct true (.nil))) (.cons (.stf (.var 0) "seat_of" (.dct true (.nil))) (.cons (.stf (.var 0) "pushed" (.dct true (.nil))) .nil)))
theorem sc2 : FnScope N2 ["self"] (defScope (inClass (top 21) 0)) := ⟨rfl, rfl, rfl, by decide +kernel, rfl, by decide +kernel, by decide +kernel⟩
theorem ck2 : chkSs (sn N2) (defScope (inClass (top 21) 0)) b2 (defBody (inClass (top 21) 0)) = true := by decide +kernel
def N3 : List Str := []
/-- _law_new -/
def b3 : RSs := .cons (.ret (.dct true (.cons (.con (.str "rooms")) (.lst false (.nil)) (.cons (.con (.str "lines")) (.dct true (.nil)) (.cons (.con (.str "drains")) (.dct true (.nil)) (.cons (.con (.str "sources")) (.lst false (.nil)) (.nil))))))) .nil
theorem sc3 : FnScope N3 [] (defScope (top 28)) := ⟨rfl, rfl, rfl, by decide +kernel, rfl, by decide +kernel, by decide +kernel⟩
theorem ck3 : chkSs (sn N3) (defScope (top 28)) b3 (defBody (top 28)) = true := by decide +kernel
def N4 : List Str := ["_law_m", "_law_word", "_law_name_here", "_law_kind", "_law_ends_here", "_law_line"]
/-- _law_due_take -/
def b4 : RSs := .cons (.asg [3] true (.ix (.dct false (.cons (.con (.str "take_room")) (.con (.str "rooms")) (.cons (.con (.str "take_line")) (.con (.str "lines")) (.cons (.con (.str "take_drain")) (.con (.str "drains")) (.cons (.con (.str "take_source")) (.con (.str "sources")) (.nil)))))) (.var 1))) (.cons (.ifs (.cmp .NotIn (.var 2) (.ix (.var 0) (.var 3))) (.cons (.ret (.tup (.cons (.con (.str "Lacks")) (.cons (.var 2) .nil)))) .nil) (.nil)) (.cut (.ifs (.cmp .Eq (.var 1) (.con (.str "take_room"))) (.cons (.lck (.asl 4 (.lc false (.var 5) [5] true (.keys (.ix (.var 0) (.con (.str "lines")))) (.ss (.cmp .In (.var 2) (.sl (.ix (.ix (.var 0) (.con (.str "lines"))) (.var 5)) (.nn) (.ss (.con (.int 2)))))) [("_law_line", 5)]))) (.cons (.ifs (.or (.cons (.cmp .NotEq (.var 4) (.lst false (.nil))) (.cons (.cmp .In (.var 2) (.vls false (.ix (.var 0) (.con (.str "drains"))))) (.cons (.cmp .In (.var 2) (.ix (.var 0) (.con (.str "sources")))) .nil)))) (.cons (.ret (.tup (.cons (.con (.str "InUse")) (.cons (.var 2) .nil)))) .nil) (.nil)) .nil)) (.nil)) (.cons (.ret (.con .non)) .nil)))
theorem sc4 : FnScope N4 ["_law_m", "_law_word", "_law_name_here"] (defScope (top 29)) := ⟨rfl, rfl, rfl, by decide +kernel, rfl, by decide +kernel, by decide +kernel⟩
theorem ck4 : chkSs (sn N4) (defScope (top 29)) b4 (defBody (top 29)) = true := by decide +kernel
def N5 : List Str := ["at", "good"]
/-- wrong_unless -/
def b5 : RSs := .cons (.ifs (.nt (.var 1)) (.cons (.rai 1 (.cons (.var 0) .nil)) .nil) (.nil)) .nil
theorem sc5 : FnScope N5 ["at", "good"] (defScope (top 19)) := ⟨rfl, rfl, rfl, by decide +kernel, rfl, by decide +kernel, by decide +kernel⟩
theorem ck5 : chkSs (sn N5) (defScope (top 19)) b5 (defBody (top 19)) = true := by decide +kernel
def N6 : List Str := ["thing", "sign"]
/-- is_name -/
def b6 : RSs := .cons (.ifs (.or (.cons (.nt (.isi (.var 0) (.ty "str"))) (.cons (.nt (.chn .LtE .LtE (.con (.int 1)) (.bi .len (.cons (.var 0) .nil)) (.glb 1))) .nil))) (.cons (.ret (.con (.bl false))) .nil) (.nil)) (.cons (.fr [1] true (.str (.var 0)) (.cons (.ifs (.cmp .NotIn (.var 1) (.glb 0)) (.cons (.ret (.con (.bl false))) .nil) (.nil)) .nil)) (.cons (.ret (.con (.bl true))) .nil))
theorem sc6 : FnScope N6 ["thing"] (defScope (top 13)) := ⟨rfl, rfl, rfl, by decide +kernel, rfl, by decide +kernel, by decide +kernel⟩
theorem ck6 : chkSs (sn N6) (defScope (top 13)) b6 (defBody (top 13)) = true := by decide +kernel
def N7 : List Str := ["thing"]
/-- is_whole -/
def b7 : RSs := .cons (.ret (.and (.cons (.isi (.var 0) (.ty "int")) (.cons (.nt (.isi (.var 0) (.ty "bool"))) .nil)))) .nil
theorem sc7 : FnScope N7 ["thing"] (defScope (top 12)) := ⟨rfl, rfl, rfl, by decide +kernel, rfl, by decide +kernel, by decide +kernel⟩
theorem ck7 : chkSs (sn N7) (defScope (top 12)) b7 (defBody (top 12)) = true := by decide +kernel
def N8 : List Str := ["self", "name"]
/-- Layout.need_new -/
def b8 : RSs := .cons (.ifs (.or (.cons (.cmp .In (.var 1) (.fld (.var 0) "ends_of")) (.cons (.cmp .In (.var 1) (.fld (.var 0) "seat_of")) .nil))) (.cons (.rai 2 (.cons (.var 1) .nil)) .nil) (.nil)) .nil
theorem sc8 : FnScope N8 ["self", "name"] (defScope (inClass (top 21) 1)) := ⟨rfl, rfl, rfl, by decide +kernel, rfl, by decide +kernel, by decide +kernel⟩
theorem ck8 : chkSs (sn N8) (defScope (inClass (top 21) 1)) b8 (defBody (inClass (top 21) 1)) = true := by decide +kernel
def N9 : List Str := ["name", "some"]
/-- lacks_unless -/
def b9 : RSs := .cons (.ifs (.cmp .NotIn (.var 0) (.var 1)) (.cons (.rai 3 (.cons (.var 0) .nil)) .nil) (.nil)) .nil
theorem sc9 : FnScope N9 ["name", "some"] (defScope (top 20)) := ⟨rfl, rfl, rfl, by decide +kernel, rfl, by decide +kernel, by decide +kernel⟩
theorem ck9 : chkSs (sn N9) (defScope (top 20)) b9 (defBody (top 20)) = true := by decide +kernel
def N10 : List Str := ["_law_e", "_law_some"]
/-- _law_class -/
def b10 : RSs := .cons (.asg [1] true (.lst true (.cons (.isi (.var 0) (.own 2)) (.cons (.isi (.var 0) (.own 3)) (.cons (.isi (.var 0) (.own 4)) (.cons (.isi (.var 0) (.own 5)) .nil)))))) (.cons (.exp (.mth .app (.var 1) (.cons (.isi (.var 0) (.own 1)) .nil))) (.frz 1 (.cons (.ifs (.or (.cons (.nt (.isi (.var 0) (.ty "ValueError"))) (.cons (.cmp .NotEq (.mth .cnt (.var 1) (.cons (.con (.bl true)) .nil)) (.con (.int 1))) .nil))) (.cons (.ret (.tup (.cons (.con (.str "other")) (.cons (.con (.int 0)) .nil)))) .nil) (.nil)) (.cons (.ifs (.ix (.var 1) (.con (.int 0))) (.cons (.ret (.tup (.cons (.con (.str "There")) (.cons (.fld (.var 0) "name") .nil)))) .nil) (.nil)) (.cons (.ifs (.ix (.var 1) (.con (.int 1))) (.cons (.ret (.tup (.cons (.con (.str "Lacks")) (.cons (.fld (.var 0) "name") .nil)))) .nil) (.nil)) (.cons (.ifs (.ix (.var 1) (.con (.int 2))) (.cons (.ret (.tup (.cons (.con (.str "TooMany")) (.cons (.fld (.var 0) "most") .nil)))) .nil) (.nil)) (.cons (.ifs (.ix (.var 1) (.con (.int 3))) (.cons (.ret (.tup (.cons (.con (.str "InUse")) (.cons (.fld (.var 0) "name") .nil)))) .nil) (.nil)) (.cons (.ret (.tup (.cons (.con (.str "Wrong")) (.cons (.fld (.var 0) "at") .nil)))) .nil))))))))
theorem sc10 : FnScope N10 ["_law_e"] (defScope (top 33)) := ⟨rfl, rfl, rfl, by decide +kernel, rfl, by decide +kernel, by decide +kernel⟩
theorem ck10 : chkSs (sn N10) (defScope (top 33)) b10 (defBody (top 33)) = true := by decide +kernel
def N11 : List Str := ["_law_found", "_law_due_here"]
/-- _law_alike -/
def b11 : RSs := .cons (.ret (.and (.cons (.cmp .Eq (.var 0) (.var 1)) (.cons (.cmp .Eq (.bi .rpr (.cons (.var 0) .nil)) (.bi .rpr (.cons (.var 1) .nil))) .nil)))) .nil
theorem sc11 : FnScope N11 ["_law_found", "_law_due_here"] (defScope (top 25)) := ⟨rfl, rfl, rfl, by decide +kernel, rfl, by decide +kernel, by decide +kernel⟩
theorem ck11 : chkSs (sn N11) (defScope (top 25)) b11 (defBody (top 25)) = true := by decide +kernel
def N12 : List Str := ["_law_m", "_law_deed_here", "_law_word", "_law_name_here", "_law_room"]
/-- _law_do -/
def b12 : RSs := .cons (.asg [2, 3] false (.tup (.cons (.ix (.var 1) (.con (.int 0))) (.cons (.ix (.var 1) (.con (.int 1))) .nil)))) (.cons (.ifs (.cmp .Eq (.var 2) (.con (.str "add_room"))) (.cons (.sti (.var 0) (.con (.str "rooms")) (.bi (.srt false) (.cons (.bin .Add (.ix (.var 0) (.con (.str "rooms"))) (.lst false (.cons (.var 3) .nil))) .nil))) .nil) (.cons (.ifs (.cmp .Eq (.var 2) (.con (.str "add_line"))) (.cons (.sti (.ix (.var 0) (.con (.str "lines"))) (.var 3) (.tup (.cons (.ix (.var 1) (.con (.int 2))) (.cons (.ix (.var 1) (.con (.int 3))) (.cons (.ix (.var 1) (.con (.int 4))) .nil))))) .nil) (.cons (.ifs (.cmp .Eq (.var 2) (.con (.str "add_drain"))) (.cons (.sti (.ix (.var 0) (.con (.str "drains"))) (.var 3) (.ix (.var 1) (.con (.int 2)))) .nil) (.cons (.ifs (.cmp .Eq (.var 2) (.con (.str "add_source"))) (.cons (.sti (.var 0) (.con (.str "sources")) (.bi (.srt false) (.cons (.bin .Add (.ix (.var 0) (.con (.str "sources"))) (.lst false (.cons (.var 3) .nil))) .nil))) .nil) (.cons (.ifs (.cmp .Eq (.var 2) (.con (.str "take_room"))) (.cons (.sti (.var 0) (.con (.str "rooms")) (.lc false (.var 4) [4] true (.lst (.ix (.var 0) (.con (.str "rooms")))) (.ss (.cmp .NotEq (.var 4) (.var 3))) [("_law_room", 4)])) .nil) (.cons (.ifs (.cmp .Eq (.var 2) (.con (.str "take_source"))) (.cons (.sti (.var 0) (.con (.str "sources")) (.lc false (.var 4) [4] true (.lst (.ix (.var 0) (.con (.str "sources")))) (.ss (.cmp .NotEq (.var 4) (.var 3))) [("_law_room", 4)])) .nil) (.cons (.exp (.mth .dpop (.ix (.var 0) (.ix (.lst false (.cons (.con (.str "lines")) (.cons (.con (.str "drains")) .nil))) (.bi .int (.cons (.cmp .Eq (.var 2) (.con (.str "take_drain"))) .nil)))) (.cons (.var 3) .nil))) .nil)) .nil)) .nil)) .nil)) .nil)) .nil)) .nil)
theorem sc12 : FnScope N12 ["_law_m", "_law_deed_here"] (defScope (top 31)) := ⟨rfl, rfl, rfl, by decide +kernel, rfl, by decide +kernel, by decide +kernel⟩
theorem ck12 : chkSs (sn N12) (defScope (top 31)) b12 (defBody (top 31)) = true := by decide +kernel
def N13 : List Str := ["self"]
/-- Layout.rooms -/
def b13 : RSs := .cons (.ret (.bi (.srt true) (.cons (.fld (.var 0) "by_room") .nil))) .nil
theorem sc13 : FnScope N13 ["self"] (defScope (inClass (top 21) 10)) := ⟨rfl, rfl, rfl, by decide +kernel, rfl, by decide +kernel, by decide +kernel⟩
theorem ck13 : chkSs (sn N13) (defScope (inClass (top 21) 10)) b13 (defBody (inClass (top 21) 10)) = true := by decide +kernel
def N14 : List Str := ["self"]
/-- Layout.lines -/
def b14 : RSs := .cons (.ret (.bi (.srt true) (.cons (.fld (.var 0) "ends_of") .nil))) .nil
theorem sc14 : FnScope N14 ["self"] (defScope (inClass (top 21) 11)) := ⟨rfl, rfl, rfl, by decide +kernel, rfl, by decide +kernel, by decide +kernel⟩
theorem ck14 : chkSs (sn N14) (defScope (inClass (top 21) 11)) b14 (defBody (inClass (top 21) 11)) = true := by decide +kernel
def N15 : List Str := ["self"]
/-- Layout.drains -/
def b15 : RSs := .cons (.ret (.bi (.srt true) (.cons (.fld (.var 0) "seat_of") .nil))) .nil
theorem sc15 : FnScope N15 ["self"] (defScope (inClass (top 21) 12)) := ⟨rfl, rfl, rfl, by decide +kernel, rfl, by decide +kernel, by decide +kernel⟩
theorem ck15 : chkSs (sn N15) (defScope (inClass (top 21) 12)) b15 (defBody (inClass (top 21) 12)) = true := by decide +kernel
def N16 : List Str := ["self"]
/-- Layout.sources -/
def b16 : RSs := .cons (.ret (.bi (.srt true) (.cons (.fld (.var 0) "pushed") .nil))) .nil
theorem sc16 : FnScope N16 ["self"] (defScope (inClass (top 21) 13)) := ⟨rfl, rfl, rfl, by decide +kernel, rfl, by decide +kernel, by decide +kernel⟩
theorem ck16 : chkSs (sn N16) (defScope (inClass (top 21) 13)) b16 (defBody (inClass (top 21) 13)) = true := by decide +kernel
def N17 : List Str := ["_law_bag_here", "_law_words", "_law_way", "_law_letters", "_law_k"]
/-- _law_name -/
def b17 : RSs := .cons (.asg [1] true (.lst false (.cons (.con (.str "open")) (.cons (.con (.str "shut")) (.cons (.con (.str "by")) (.cons (.con (.str "step")) (.cons (.con (.str "none")) (.cons (.con (.str "paper")) (.cons (.con (.str "at")) (.cons (.con (.str "done")) (.cons (.con (.str "a")) (.cons (.con (.str "aa")) (.cons (.con (.str "ab")) (.cons (.con (.str "b")) .nil)))))))))))))) (.cons (.asg [2] true (.call 1 (.cons (.var 0) (.cons (.con (.int 4)) .nil)))) (.cons (.ifs (.cmp .Eq (.var 2) (.con (.int 0))) (.cons (.ret (.ix (.var 1) (.call 1 (.cons (.var 0) (.cons (.con (.int 12)) .nil))))) .nil) (.nil)) (.cons (.asg [3] true (.con (.str "abcdefghijklmnopqrstuvwxyz"))) (.cons (.ret (.mth .join (.con (.str "")) (.cons (.lc false (.ix (.var 3) (.call 1 (.cons (.var 0) (.cons (.con (.int 26)) .nil)))) [4] true (.rng1 (.bin .Add (.con (.int 1)) (.call 1 (.cons (.var 0) (.cons (.ix (.lst false (.cons (.con (.int 2)) (.cons (.con (.int 8)) (.cons (.con (.int 1)) .nil)))) (.bin .Sub (.var 2) (.con (.int 1)))) .nil))))) (.nn) [("_law_k", 4)]) .nil))) .nil))))
theorem sc17 : FnScope N17 ["_law_bag_here"] (defScope (top 26)) := ⟨rfl, rfl, rfl, by decide +kernel, rfl, by decide +kernel, by decide +kernel⟩
theorem ck17 : chkSs (sn N17) (defScope (top 26)) b17 (defBody (top 26)) = true := by decide +kernel
def N18 : List Str := ["_law_m", "_law_deed_here", "_law_word", "_law_name_here", "_law_ends_here", "_law_lacks", "_law_room"]
/-- _law_due -/
def b18 : RSs := .cons (.par 2 3 (.cons (.ix (.var 1) (.con (.int 0))) (.cons (.ix (.var 1) (.con (.int 1))) .nil))) (.cons (.ifs (.cmp .Eq (.sl (.var 2) (.nn) (.ss (.con (.int 4)))) (.con (.str "take"))) (.cons (.ret (.call 4 (.cons (.var 0) (.cons (.var 2) (.cons (.var 3) .nil))))) .nil) (.nil)) (.cons (.ifs (.cmp .Eq (.var 2) (.con (.str "add_room"))) (.cons (.ifs (.cmp .In (.var 3) (.ix (.var 0) (.con (.str "rooms")))) (.cons (.ret (.tup (.cons (.con (.str "There")) (.cons (.var 3) .nil)))) .nil) (.nil)) (.cons (.ret (.ix (.lst false (.cons (.con .non) (.cons (.tup (.cons (.con (.str "TooMany")) (.cons (.con (.int 24)) .nil))) .nil))) (.bi .int (.cons (.cmp .Eq (.bi .len (.cons (.ix (.var 0) (.con (.str "rooms"))) .nil)) (.con (.int 24))) .nil)))) .nil)) (.nil)) (.cons (.ifs (.cmp .Eq (.var 2) (.con (.str "add_source"))) (.cons (.ifs (.cmp .NotIn (.var 3) (.ix (.var 0) (.con (.str "rooms")))) (.cons (.ret (.tup (.cons (.con (.str "Lacks")) (.cons (.var 3) .nil)))) .nil) (.nil)) (.cons (.ret (.ix (.lst false (.cons (.con .non) (.cons (.tup (.cons (.con (.str "There")) (.cons (.var 3) .nil))) .nil))) (.bi .int (.cons (.cmp .In (.var 3) (.ix (.var 0) (.con (.str "sources")))) .nil)))) .nil)) (.nil)) (.cons (.ifs (.or (.cons (.cmp .In (.var 3) (.ix (.var 0) (.con (.str "lines")))) (.cons (.cmp .In (.var 3) (.ix (.var 0) (.con (.str "drains")))) .nil))) (.cons (.ret (.tup (.cons (.con (.str "There")) (.cons (.var 3) .nil)))) .nil) (.nil)) (.cons (.asg [4] true (.lst false (.cons (.ix (.var 1) (.con (.int 2))) .nil))) (.cut (.ifs (.cmp .Eq (.var 2) (.con (.str "add_line"))) (.cons (.asg [4] true (.lst false (.cons (.ix (.var 1) (.con (.int 2))) (.cons (.ix (.var 1) (.con (.int 3))) .nil)))) .nil) (.nil)) (.cons (.asl 5 (.lc false (.var 6) [6] true (.lst (.var 4)) (.ss (.cmp .NotIn (.var 6) (.ix (.var 0) (.con (.str "rooms"))))) [("_law_room", 6)])) (.cons (.ifs (.cmp .NotEq (.var 5) (.lst false (.nil))) (.cons (.ret (.tup (.cons (.con (.str "Lacks")) (.cons (.ix (.var 5) (.con (.int 0))) .nil)))) .nil) (.nil)) (.cons (.ifs (.cmp .Eq (.var 2) (.con (.str "add_line"))) (.cons (.ret (.ix (.lst false (.cons (.con .non) (.cons (.tup (.cons (.con (.str "TooMany")) (.cons (.con (.int 40)) .nil))) .nil))) (.bi .int (.cons (.cmp .Eq (.bi .len (.cons (.ix (.var 0) (.con (.str "lines"))) .nil)) (.con (.int 40))) .nil)))) .nil) (.nil)) (.cons (.ret (.ix (.lst false (.cons (.con .non) (.cons (.tup (.cons (.con (.str "TooMany")) (.cons (.con (.int 12)) .nil))) .nil))) (.bi .int (.cons (.cmp .Eq (.bi .len (.cons (.ix (.var 0) (.con (.str "drains"))) .nil)) (.con (.int 12))) .nil)))) .nil))))))))))
theorem sc18 : FnScope N18 ["_law_m", "_law_deed_here"] (defScope (top 30)) := ⟨rfl, rfl, rfl, by decide +kernel, rfl, by decide +kernel, by decide +kernel⟩
theorem ck18 : chkSs (sn N18) (defScope (top 30)) b18 (defBody (top 30)) = true := by decide +kernel
def N19 : List Str := ["self", "room"]
/-- Layout.add_room -/
def b19 : RSs := .cons (.exp (.call 5 (.cons (.con (.int 0)) (.cons (.call 6 (.cons (.var 1) .nil)) .nil)))) (.cons (.ifs (.cmp .In (.var 1) (.fld (.var 0) "by_room")) (.cons (.rai 2 (.cons (.var 1) .nil)) .nil) (.nil)) (.cons (.ifs (.cmp .GtE (.bi .len (.cons (.fld (.var 0) "by_room") .nil)) (.glb 3)) (.cons (.rai 4 (.cons (.glb 3) .nil)) .nil) (.nil)) (.cons (.sti (.fld (.var 0) "by_room") (.var 1) (.con (.bl true))) .nil)))
theorem sc19 : FnScope N19 ["self", "room"] (defScope (inClass (top 21) 2)) := ⟨rfl, rfl, rfl, by decide +kernel, rfl, by decide +kernel, by decide +kernel⟩
theorem ck19 : chkSs (sn N19) (defScope (inClass (top 21) 2)) b19 (defBody (inClass (top 21) 2)) = true := by decide +kernel
def N20 : List Str := ["thing"]
/-- is_cost -/
def b20 : RSs := .cons (.ret (.and (.cons (.call 7 (.cons (.var 0) .nil)) (.cons (.chn .LtE .LtE (.con (.int 0)) (.var 0) (.glb 2)) .nil)))) .nil
theorem sc20 : FnScope N20 ["thing"] (defScope (top 14)) := ⟨rfl, rfl, rfl, by decide +kernel, rfl, by decide +kernel, by decide +kernel⟩
theorem ck20 : chkSs (sn N20) (defScope (top 14)) b20 (defBody (top 14)) = true := by decide +kernel
def N21 : List Str := ["self", "drain", "room"]
/-- Layout.add_drain -/
def b21 : RSs := .cons (.exp (.call 5 (.cons (.con (.int 0)) (.cons (.call 6 (.cons (.var 1) .nil)) .nil)))) (.cons (.exp (.call 5 (.cons (.con (.int 1)) (.cons (.call 6 (.cons (.var 2) .nil)) .nil)))) (.cons (.exp (.om 8 "need_new" (.var 0) (.cons (.var 1) .nil))) (.cons (.exp (.call 9 (.cons (.var 2) (.cons (.fld (.var 0) "by_room") .nil)))) (.cons (.ifs (.cmp .GtE (.bi .len (.cons (.fld (.var 0) "seat_of") .nil)) (.glb 5)) (.cons (.rai 4 (.cons (.glb 5) .nil)) .nil) (.nil)) (.cons (.sti (.fld (.var 0) "seat_of") (.var 1) (.var 2)) .nil)))))
theorem sc21 : FnScope N21 ["self", "drain", "room"] (defScope (inClass (top 21) 4)) := ⟨rfl, rfl, rfl, by decide +kernel, rfl, by decide +kernel, by decide +kernel⟩
theorem ck21 : chkSs (sn N21) (defScope (inClass (top 21) 4)) b21 (defBody (inClass (top 21) 4)) = true := by decide +kernel
def N22 : List Str := ["self", "room"]
/-- Layout.add_source -/
def b22 : RSs := .cons (.exp (.call 5 (.cons (.con (.int 0)) (.cons (.call 6 (.cons (.var 1) .nil)) .nil)))) (.cons (.exp (.call 9 (.cons (.var 1) (.cons (.fld (.var 0) "by_room") .nil)))) (.cons (.ifs (.cmp .In (.var 1) (.fld (.var 0) "pushed")) (.cons (.rai 2 (.cons (.var 1) .nil)) .nil) (.nil)) (.cons (.sti (.fld (.var 0) "pushed") (.var 1) (.con (.bl true))) .nil)))
theorem sc22 : FnScope N22 ["self", "room"] (defScope (inClass (top 21) 5)) := ⟨rfl, rfl, rfl, by decide +kernel, rfl, by decide +kernel, by decide +kernel⟩
theorem ck22 : chkSs (sn N22) (defScope (inClass (top 21) 5)) b22 (defBody (inClass (top 21) 5)) = true := by decide +kernel
def N23 : List Str := ["self", "room", "line", "ends"]
/-- Layout.lines_at -/
def b23 : RSs := .cons (.exp (.call 5 (.cons (.con (.int 0)) (.cons (.call 6 (.cons (.var 1) .nil)) .nil)))) (.cons (.exp (.call 9 (.cons (.var 1) (.cons (.fld (.var 0) "by_room") .nil)))) (.cons (.ret (.bi (.srt true) (.cons (.lck (.lc false (.var 2) [2, 3] false (.items (.fld (.var 0) "ends_of")) (.ss (.cmp .In (.var 1) (.sl (.var 3) (.nn) (.ss (.con (.int 2)))))) [("line", 2), ("ends", 3)])) .nil))) .nil))
theorem sc23 : FnScope N23 ["self", "room"] (defScope (inClass (top 21) 16)) := ⟨rfl, rfl, rfl, by decide +kernel, rfl, by decide +kernel, by decide +kernel⟩
theorem ck23 : chkSs (sn N23) (defScope (inClass (top 21) 16)) b23 (defBody (inClass (top 21) 16)) = true := by decide +kernel
def N24 : List Str := ["self", "line"]
/-- Layout.take_line -/
def b24 : RSs := .cons (.exp (.call 5 (.cons (.con (.int 0)) (.cons (.call 6 (.cons (.var 1) .nil)) .nil)))) (.cons (.exp (.call 9 (.cons (.var 1) (.cons (.fld (.var 0) "ends_of") .nil)))) (.cons (.exp (.mth .dpop (.fld (.var 0) "ends_of") (.cons (.var 1) .nil))) .nil))
theorem sc24 : FnScope N24 ["self", "line"] (defScope (inClass (top 21) 7)) := ⟨rfl, rfl, rfl, by decide +kernel, rfl, by decide +kernel, by decide +kernel⟩
theorem ck24 : chkSs (sn N24) (defScope (inClass (top 21) 7)) b24 (defBody (inClass (top 21) 7)) = true := by decide +kernel
def N25 : List Str := ["self", "drain"]
/-- Layout.take_drain -/
def b25 : RSs := .cons (.exp (.call 5 (.cons (.con (.int 0)) (.cons (.call 6 (.cons (.var 1) .nil)) .nil)))) (.cons (.exp (.call 9 (.cons (.var 1) (.cons (.fld (.var 0) "seat_of") .nil)))) (.cons (.exp (.mth .dpop (.fld (.var 0) "seat_of") (.cons (.var 1) .nil))) .nil))
theorem sc25 : FnScope N25 ["self", "drain"] (defScope (inClass (top 21) 8)) := ⟨rfl, rfl, rfl, by decide +kernel, rfl, by decide +kernel, by decide +kernel⟩
theorem ck25 : chkSs (sn N25) (defScope (inClass (top 21) 8)) b25 (defBody (inClass (top 21) 8)) = true := by decide +kernel
def N26 : List Str := ["self", "room"]
/-- Layout.take_source -/
def b26 : RSs := .cons (.exp (.call 5 (.cons (.con (.int 0)) (.cons (.call 6 (.cons (.var 1) .nil)) .nil)))) (.cons (.exp (.call 9 (.cons (.var 1) (.cons (.fld (.var 0) "pushed") .nil)))) (.cons (.exp (.mth .dpop (.fld (.var 0) "pushed") (.cons (.var 1) .nil))) .nil))
theorem sc26 : FnScope N26 ["self", "room"] (defScope (inClass (top 21) 9)) := ⟨rfl, rfl, rfl, by decide +kernel, rfl, by decide +kernel, by decide +kernel⟩
theorem ck26 : chkSs (sn N26) (defScope (inClass (top 21) 9)) b26 (defBody (inClass (top 21) 9)) = true := by decide +kernel
def N27 : List Str := ["_law_bag_here", "_law_way"]
/-- _law_cost -/
def b27 : RSs := .cons (.asg [1] true (.call 1 (.cons (.var 0) (.cons (.con (.int 4)) .nil)))) (.cons (.ifs (.cmp .Eq (.var 1) (.con (.int 3))) (.cons (.ret (.call 1 (.cons (.var 0) (.cons (.con (.int 100)) .nil)))) .nil) (.nil)) (.cons (.ret (.ix (.lst false (.cons (.con (.int 0)) (.cons (.con (.int 99)) (.cons (.bin .Add (.con (.int 1)) (.call 1 (.cons (.var 0) (.cons (.con (.int 3)) .nil)))) .nil)))) (.var 1))) .nil))
theorem sc27 : FnScope N27 ["_law_bag_here"] (defScope (top 40)) := ⟨rfl, rfl, rfl, by decide +kernel, rfl, by decide +kernel, by decide +kernel⟩
theorem ck27 : chkSs (sn N27) (defScope (top 40)) b27 (defBody (top 40)) = true := by decide +kernel
def N28 : List Str := ["_law_bag_here", "_law_some", "_law_way", "_law_names_here"]
/-- _law_put_otherwise -/
def b28 : RSs := .cons (.asg [2] true (.call 1 (.cons (.var 0) (.cons (.con (.int 4)) .nil)))) (.cons (.fr [3] true (.lst (.var 1)) (.cons (.ifs (.cmp .Eq (.var 2) (.con (.int 0))) (.cons (.exp (.mth .app (.var 3) (.cons (.con (.str "zz")) .nil))) .nil) (.cons (.ifs (.cmp .Eq (.var 2) (.con (.int 1))) (.cons (.exp (.mth .clr (.var 3) (.nil))) .nil) (.cons (.ifs (.cmp .NotEq (.var 3) (.lst false (.nil))) (.cons (.ifs (.cmp .Eq (.var 2) (.con (.int 2))) (.cons (.sti (.var 3) (.con (.int 0)) (.bin .Add (.ix (.var 3) (.neg (.con (.int 1)))) (.con (.str "x")))) .nil) (.cons (.exp (.mth .pop (.var 3) (.nil))) .nil)) .nil) (.nil)) .nil)) .nil)) .nil)) .nil)
theorem sc28 : FnScope N28 ["_law_bag_here", "_law_some"] (defScope (top 44)) := ⟨rfl, rfl, rfl, by decide +kernel, rfl, by decide +kernel, by decide +kernel⟩
theorem ck28 : chkSs (sn N28) (defScope (top 44)) b28 (defBody (top 44)) = true := by decide +kernel
def N29 : List Str := ["self", "line"]
/-- Layout.line -/
def b29 : RSs := .cons (.exp (.call 5 (.cons (.con (.int 0)) (.cons (.call 6 (.cons (.var 1) .nil)) .nil)))) (.cons (.exp (.call 9 (.cons (.var 1) (.cons (.fld (.var 0) "ends_of") .nil)))) (.cons (.ret (.ix (.fld (.var 0) "ends_of") (.var 1))) .nil))
theorem sc29 : FnScope N29 ["self", "line"] (defScope (inClass (top 21) 14)) := ⟨rfl, rfl, rfl, by decide +kernel, rfl, by decide +kernel, by decide +kernel⟩
theorem ck29 : chkSs (sn N29) (defScope (inClass (top 21) 14)) b29 (defBody (inClass (top 21) 14)) = true := by decide +kernel
def N30 : List Str := ["self", "drain"]
/-- Layout.drain -/
def b30 : RSs := .cons (.exp (.call 5 (.cons (.con (.int 0)) (.cons (.call 6 (.cons (.var 1) .nil)) .nil)))) (.cons (.exp (.call 9 (.cons (.var 1) (.cons (.fld (.var 0) "seat_of") .nil)))) (.cons (.ret (.ix (.fld (.var 0) "seat_of") (.var 1))) .nil))
theorem sc30 : FnScope N30 ["self", "drain"] (defScope (inClass (top 21) 15)) := ⟨rfl, rfl, rfl, by decide +kernel, rfl, by decide +kernel, by decide +kernel⟩
theorem ck30 : chkSs (sn N30) (defScope (inClass (top 21) 15)) b30 (defBody (inClass (top 21) 15)) = true := by decide +kernel
def N31 : List Str := ["_law_here", "_law_m"]
/-- _law_lists -/
def b31 : RSs := .cut (.ifs (.or (.cons (.nt (.call 11 (.cons (.fz (.om 16 "sources" (.var 0) (.nil))) (.cons (.ix (.var 1) (.con (.str "sources"))) .nil)))) (.cons (.nt (.call 11 (.cons (.fz (.om 14 "lines" (.var 0) (.nil))) (.cons (.bi (.srt false) (.cons (.ix (.var 1) (.con (.str "lines"))) .nil)) .nil)))) .nil))) (.cons (.ret (.con (.bl false))) .nil) (.nil)) (.cons (.ret (.and (.cons (.call 11 (.cons (.fz (.om 13 "rooms" (.var 0) (.nil))) (.cons (.ix (.var 1) (.con (.str "rooms"))) .nil))) (.cons (.call 11 (.cons (.fz (.om 15 "drains" (.var 0) (.nil))) (.cons (.bi (.srt false) (.cons (.ix (.var 1) (.con (.str "drains"))) .nil)) .nil))) .nil)))) .nil)
theorem sc31 : FnScope N31 ["_law_here", "_law_m"] (defScope (top 38)) := ⟨rfl, rfl, rfl, by decide +kernel, rfl, by decide +kernel, by decide +kernel⟩
theorem ck31 : chkSs (sn N31) (defScope (top 38)) b31 (defBody (top 38)) = true := by decide +kernel
def N32 : List Str := ["_law_bag_here", "_law_many", "_law_drawn", "_law_k", "_law_name_here"]
/-- _law_names -/
def b32 : RSs := .cons (.asg [2] true (.lc false (.call 17 (.cons (.var 0) .nil)) [3] true (.rng1 (.var 1)) (.nn) [("_law_k", 3)])) (.cons (.ret (.lc false (.var 4) [3, 4] false (.enum (.var 2)) (.ss (.cmp .NotIn (.var 4) (.sl (.var 2) (.nn) (.ss (.var 3))))) [("_law_k", 3), ("_law_name_here", 4)])) .nil)
theorem sc32 : FnScope N32 ["_law_bag_here", "_law_many"] (defScope (top 27)) := ⟨rfl, rfl, rfl, by decide +kernel, rfl, by decide +kernel, by decide +kernel⟩
theorem ck32 : chkSs (sn N32) (defScope (top 27)) b32 (defBody (top 27)) = true := by decide +kernel
def N33 : List Str := ["self", "line", "one", "other", "cost"]
/-- Layout.add_line -/
def b33 : RSs := .cons (.exp (.call 5 (.cons (.con (.int 0)) (.cons (.call 6 (.cons (.var 1) .nil)) .nil)))) (.cons (.exp (.call 5 (.cons (.con (.int 1)) (.cons (.call 6 (.cons (.var 2) .nil)) .nil)))) (.cons (.exp (.call 5 (.cons (.con (.int 2)) (.cons (.and (.cons (.call 6 (.cons (.var 3) .nil)) (.cons (.cmp .NotEq (.var 3) (.var 2)) .nil))) .nil)))) (.cons (.exp (.call 5 (.cons (.con (.int 3)) (.cons (.call 20 (.cons (.var 4) .nil)) .nil)))) (.cons (.exp (.om 8 "need_new" (.var 0) (.cons (.var 1) .nil))) (.cons (.exp (.call 9 (.cons (.var 2) (.cons (.fld (.var 0) "by_room") .nil)))) (.cons (.exp (.call 9 (.cons (.var 3) (.cons (.fld (.var 0) "by_room") .nil)))) (.cons (.ifs (.cmp .GtE (.bi .len (.cons (.fld (.var 0) "ends_of") .nil)) (.glb 4)) (.cons (.rai 4 (.cons (.glb 4) .nil)) .nil) (.nil)) (.cons (.sti (.fld (.var 0) "ends_of") (.var 1) (.tup (.cons (.var 2) (.cons (.var 3) (.cons (.var 4) .nil))))) .nil))))))))
theorem sc33 : FnScope N33 ["self", "line", "one", "other", "cost"] (defScope (inClass (top 21) 3)) := ⟨rfl, rfl, rfl, by decide +kernel, rfl, by decide +kernel, by decide +kernel⟩
theorem ck33 : chkSs (sn N33) (defScope (inClass (top 21) 3)) b33 (defBody (inClass (top 21) 3)) = true := by decide +kernel
def N34 : List Str := ["self", "room"]
/-- Layout.take_room -/
def b34 : RSs := .cons (.exp (.call 5 (.cons (.con (.int 0)) (.cons (.call 6 (.cons (.var 1) .nil)) .nil)))) (.cons (.exp (.call 9 (.cons (.var 1) (.cons (.fld (.var 0) "by_room") .nil)))) (.cons (.ifs (.or (.cons (.cmp .NotEq (.fz (.om 23 "lines_at" (.var 0) (.cons (.var 1) .nil))) (.lst false (.nil))) (.cons (.cmp .In (.var 1) (.vls false (.fld (.var 0) "seat_of"))) (.cons (.cmp .In (.var 1) (.fld (.var 0) "pushed")) .nil)))) (.cons (.rai 5 (.cons (.var 1) .nil)) .nil) (.nil)) (.cons (.exp (.mth .dpop (.fld (.var 0) "by_room") (.cons (.var 1) .nil))) .nil)))
theorem sc34 : FnScope N34 ["self", "room"] (defScope (inClass (top 21) 6)) := ⟨rfl, rfl, rfl, by decide +kernel, rfl, by decide +kernel, by decide +kernel⟩
theorem ck34 : chkSs (sn N34) (defScope (inClass (top 21) 6)) b34 (defBody (inClass (top 21) 6)) = true := by decide +kernel
def N35 : List Str := ["_law_bag_here", "_law_rooms", "_law_devices", "_law_line", "_law_one", "_law_others", "_law_room"]
/-- _law_add_line -/
def b35 : RSs := .cons (.asg [3] true (.ix (.var 2) (.call 1 (.cons (.var 0) (.cons (.bi .len (.cons (.var 2) .nil)) .nil))))) (.cons (.asg [4] true (.ix (.var 1) (.call 1 (.cons (.var 0) (.cons (.bi .len (.cons (.var 1) .nil)) .nil))))) (.cons (.asl 5 (.lc false (.var 6) [6] true (.lst (.var 1)) (.ss (.cmp .NotEq (.var 6) (.var 4))) [("_law_room", 6)])) (.cons (.ifs (.cmp .Eq (.var 5) (.lst false (.nil))) (.cons (.ret (.tup (.cons (.con (.str "add_room")) (.cons (.var 4) .nil)))) .nil) (.nil)) (.cons (.ret (.tup (.cons (.con (.str "add_line")) (.cons (.var 3) (.cons (.var 4) (.cons (.ix (.var 5) (.call 1 (.cons (.var 0) (.cons (.bi .len (.cons (.var 5) .nil)) .nil)))) (.cons (.call 27 (.cons (.var 0) .nil)) .nil))))))) .nil))))
theorem sc35 : FnScope N35 ["_law_bag_here", "_law_rooms", "_law_devices"] (defScope (top 41)) := ⟨rfl, rfl, rfl, by decide +kernel, rfl, by decide +kernel, by decide +kernel⟩
theorem ck35 : chkSs (sn N35) (defScope (top 41)) b35 (defBody (top 41)) = true := by decide +kernel
def N36 : List Str := ["_law_here", "_law_m", "_law_found", "_law_room"]
/-- _law_told -/
def b36 : RSs := .cons (.asg [2] true (.lst false (.cons (.om 13 "rooms" (.var 0) (.nil)) (.cons (.om 14 "lines" (.var 0) (.nil)) (.cons (.om 15 "drains" (.var 0) (.nil)) (.cons (.om 16 "sources" (.var 0) (.nil)) .nil)))))) (.cons (.ret (.bin .Add (.var 2) (.lc false (.om 23 "lines_at" (.var 0) (.cons (.var 3) .nil)) [3] true (.lst (.ix (.var 1) (.con (.str "rooms")))) (.nn) [("_law_room", 3)]))) .nil)
theorem sc36 : FnScope N36 ["_law_here", "_law_m"] (defScope (top 43)) := ⟨rfl, rfl, rfl, by decide +kernel, rfl, by decide +kernel, by decide +kernel⟩
theorem ck36 : chkSs (sn N36) (defScope (top 43)) b36 (defBody (top 43)) = true := by decide +kernel
def N37 : List Str := ["_law_here", "_law_m", "_law_name_here"]
/-- _law_ends -/
def b37 : RSs := .cons (.lck (.fr [2] true (.keys (.ix (.var 1) (.con (.str "lines")))) (.cons (.ifs (.nt (.call 11 (.cons (.om 29 "line" (.var 0) (.cons (.var 2) .nil)) (.cons (.ix (.ix (.var 1) (.con (.str "lines"))) (.var 2)) .nil)))) (.cons (.ret (.con (.bl false))) .nil) (.nil)) .nil))) (.cons (.lck (.fr [2] true (.keys (.ix (.var 1) (.con (.str "drains")))) (.cons (.ifs (.nt (.call 11 (.cons (.om 30 "drain" (.var 0) (.cons (.var 2) .nil)) (.cons (.ix (.ix (.var 1) (.con (.str "drains"))) (.var 2)) .nil)))) (.cons (.ret (.con (.bl false))) .nil) (.nil)) .nil))) (.cons (.ret (.con (.bl true))) .nil))
theorem sc37 : FnScope N37 ["_law_here", "_law_m"] (defScope (top 36)) := ⟨rfl, rfl, rfl, by decide +kernel, rfl, by decide +kernel, by decide +kernel⟩
theorem ck37 : chkSs (sn N37) (defScope (top 36)) b37 (defBody (top 36)) = true := by decide +kernel
def N38 : List Str := ["_law_here", "_law_m", "_law_room", "_law_ends_here", "_law_name_here"]
/-- _law_at_rooms -/
def b38 : RSs := .cons (.fr [2] true (.lst (.ix (.var 1) (.con (.str "rooms")))) (.cons (.lck (.asl 3 (.lc false (.var 4) [4] true (.keys (.ix (.var 1) (.con (.str "lines")))) (.ss (.cmp .In (.var 2) (.sl (.ix (.ix (.var 1) (.con (.str "lines"))) (.var 4)) (.nn) (.ss (.con (.int 2)))))) [("_law_name_here", 4)]))) (.cons (.ifs (.nt (.call 11 (.cons (.fz (.om 23 "lines_at" (.var 0) (.cons (.var 2) .nil))) (.cons (.bi (.srt false) (.cons (.var 3) .nil)) .nil)))) (.cons (.ret (.con (.bl false))) .nil) (.nil)) .nil))) (.cons (.ret (.con (.bl true))) .nil)
theorem sc38 : FnScope N38 ["_law_here", "_law_m"] (defScope (top 37)) := ⟨rfl, rfl, rfl, by decide +kernel, rfl, by decide +kernel, by decide +kernel⟩
theorem ck38 : chkSs (sn N38) (defScope (top 37)) b38 (defBody (top 37)) = true := by decide +kernel
def N39 : List Str := ["_law_here", "_law_deed_here", "_law_word"]
/-- _law_call -/
def b39 : RSs := .cons (.asg [2] true (.ix (.var 1) (.con (.int 0)))) (.cons (.ifs (.cmp .Eq (.var 2) (.con (.str "add_room"))) (.cons (.ret (.om 19 "add_room" (.var 0) (.cons (.ix (.var 1) (.con (.int 1))) .nil))) .nil) (.nil)) (.cons (.ifs (.cmp .Eq (.var 2) (.con (.str "add_line"))) (.cons (.ret (.om 33 "add_line" (.var 0) (.cons (.ix (.var 1) (.con (.int 1))) (.cons (.ix (.var 1) (.con (.int 2))) (.cons (.ix (.var 1) (.con (.int 3))) (.cons (.ix (.var 1) (.con (.int 4))) .nil)))))) .nil) (.nil)) (.cons (.ifs (.cmp .Eq (.var 2) (.con (.str "add_drain"))) (.cons (.ret (.om 21 "add_drain" (.var 0) (.cons (.ix (.var 1) (.con (.int 1))) (.cons (.ix (.var 1) (.con (.int 2))) .nil)))) .nil) (.nil)) (.cons (.ifs (.cmp .Eq (.var 2) (.con (.str "add_source"))) (.cons (.ret (.om 22 "add_source" (.var 0) (.cons (.ix (.var 1) (.con (.int 1))) .nil))) .nil) (.nil)) (.cons (.ifs (.cmp .Eq (.var 2) (.con (.str "take_room"))) (.cons (.ret (.om 34 "take_room" (.var 0) (.cons (.ix (.var 1) (.con (.int 1))) .nil))) .nil) (.nil)) (.cons (.ifs (.cmp .Eq (.var 2) (.con (.str "take_line"))) (.cons (.ret (.om 24 "take_line" (.var 0) (.cons (.ix (.var 1) (.con (.int 1))) .nil))) .nil) (.nil)) (.cons (.ifs (.cmp .Eq (.var 2) (.con (.str "take_drain"))) (.cons (.ret (.om 25 "take_drain" (.var 0) (.cons (.ix (.var 1) (.con (.int 1))) .nil))) .nil) (.nil)) (.cons (.ret (.om 26 "take_source" (.var 0) (.cons (.ix (.var 1) (.con (.int 1))) .nil))) .nil))))))))
theorem sc39 : FnScope N39 ["_law_here", "_law_deed_here"] (defScope (top 32)) := ⟨rfl, rfl, rfl, by decide +kernel, rfl, by decide +kernel, by decide +kernel⟩
theorem ck39 : chkSs (sn N39) (defScope (top 32)) b39 (defBody (top 32)) = true := by decide +kernel
def N40 : List Str := ["_law_bag_here", "_law_rooms", "_law_devices", "_law_words", "_law_word"]
/-- _law_deed -/
def b40 : RSs := .cons (.asg [4] true (.ix (.var 3) (.call 1 (.cons (.var 0) (.cons (.bi .len (.cons (.var 3) .nil)) .nil))))) (.cons (.ifs (.cmp .Eq (.var 4) (.con (.str "add_line"))) (.cons (.ret (.call 35 (.cons (.var 0) (.cons (.var 1) (.cons (.var 2) .nil))))) .nil) (.nil)) (.cons (.ifs (.cmp .In (.var 4) (.tup (.cons (.con (.str "add_room")) (.cons (.con (.str "take_room")) (.cons (.con (.str "add_source")) (.cons (.con (.str "take_source")) .nil)))))) (.cons (.ret (.tup (.cons (.var 4) (.cons (.ix (.var 1) (.call 1 (.cons (.var 0) (.cons (.bi .len (.cons (.var 1) .nil)) .nil)))) .nil)))) .nil) (.nil)) (.cons (.ifs (.cmp .Eq (.var 4) (.con (.str "add_drain"))) (.cons (.ret (.tup (.cons (.var 4) (.cons (.ix (.var 2) (.call 1 (.cons (.var 0) (.cons (.bi .len (.cons (.var 2) .nil)) .nil)))) (.cons (.ix (.var 1) (.call 1 (.cons (.var 0) (.cons (.bi .len (.cons (.var 1) .nil)) .nil)))) .nil))))) .nil) (.nil)) (.cons (.ret (.tup (.cons (.var 4) (.cons (.ix (.var 2) (.call 1 (.cons (.var 0) (.cons (.bi .len (.cons (.var 2) .nil)) .nil)))) .nil)))) .nil))))
theorem sc40 : FnScope N40 ["_law_bag_here", "_law_rooms", "_law_devices", "_law_words"] (defScope (top 42)) := ⟨rfl, rfl, rfl, by decide +kernel, rfl, by decide +kernel, by decide +kernel⟩
theorem ck40 : chkSs (sn N40) (defScope (top 42)) b40 (defBody (top 42)) = true := by decide +kernel
def N41 : List Str := ["_law_here", "_law_m", "_law_order", "_law_k", "_law_way"]
/-- _law_same -/
def b41 : RSs := .cons (.fr [3] true (.rng1 (.con (.int 3))) (.cons (.asg [4] true (.bin .Mod (.bin .Add (.var 2) (.var 3)) (.con (.int 3)))) (.cons (.ifs (.and (.cons (.cmp .Eq (.var 4) (.con (.int 0))) (.cons (.nt (.call 37 (.cons (.var 0) (.cons (.var 1) .nil)))) .nil))) (.cons (.ret (.con (.bl false))) .nil) (.nil)) (.cons (.ifs (.and (.cons (.cmp .Eq (.var 4) (.con (.int 1))) (.cons (.nt (.call 38 (.cons (.var 0) (.cons (.var 1) .nil)))) .nil))) (.cons (.ret (.con (.bl false))) .nil) (.nil)) (.cons (.ifs (.and (.cons (.cmp .Eq (.var 4) (.con (.int 2))) (.cons (.nt (.call 31 (.cons (.var 0) (.cons (.var 1) .nil)))) .nil))) (.cons (.ret (.con (.bl false))) .nil) (.nil)) .nil))))) (.cons (.ret (.con (.bl true))) .nil)
theorem sc41 : FnScope N41 ["_law_here", "_law_m", "_law_order"] (defScope (top 39)) := ⟨rfl, rfl, rfl, by decide +kernel, rfl, by decide +kernel, by decide +kernel⟩
theorem ck41 : chkSs (sn N41) (defScope (top 39)) b41 (defBody (top 39)) = true := by decide +kernel
def N42 : List Str := ["_law_here", "_law_deed_here", "_law_found", "_law_e"]
/-- _law_say -/
def b42 : RSs := .cons (.asg [2] true (.con .non)) (.cut (.tra (.cons (.asg [2] true (.call 39 (.cons (.var 0) (.cons (.var 1) .nil)))) .nil) 0 3 (.cons (.ret (.tup (.cons (.con (.str "refused")) (.cons (.call 10 (.cons (.var 3) .nil)) .nil)))) .nil)) (.cons (.ret (.tup (.cons (.con (.str "told")) (.cons (.var 2) .nil)))) .nil))
theorem sc42 : FnScope N42 ["_law_here", "_law_deed_here"] (defScope (top 34)) := ⟨rfl, rfl, rfl, by decide +kernel, rfl, by decide +kernel, by decide +kernel⟩
theorem ck42 : chkSs (sn N42) (defScope (top 34)) b42 (defBody (top 34)) = true := by decide +kernel
def N43 : List Str := ["_law_here", "_law_m", "_law_deed_here", "_law_due_here", "_law_found"]
/-- _law_step -/
def b43 : RSs := .cons (.asg [3] true (.call 18 (.cons (.var 1) (.cons (.var 2) .nil)))) (.cons (.asg [4] true (.call 42 (.cons (.var 0) (.cons (.var 2) .nil)))) (.cons (.ifs (.cmp .IsNot (.var 3) (.con .non)) (.cons (.ret (.call 11 (.cons (.var 4) (.cons (.tup (.cons (.con (.str "refused")) (.cons (.var 3) .nil))) .nil)))) .nil) (.nil)) (.cons (.exp (.call 12 (.cons (.var 1) (.cons (.var 2) .nil)))) (.cons (.ret (.call 11 (.cons (.var 4) (.cons (.tup (.cons (.con (.str "told")) (.cons (.con .non) .nil))) .nil)))) .nil))))
theorem sc43 : FnScope N43 ["_law_here", "_law_m", "_law_deed_here"] (defScope (top 35)) := ⟨rfl, rfl, rfl, by decide +kernel, rfl, by decide +kernel, by decide +kernel⟩
theorem ck43 : chkSs (sn N43) (defScope (top 35)) b43 (defBody (top 35)) = true := by decide +kernel
def N44 : List Str := ["_law_script", "_law_bag_here", "_law_rooms", "_law_devices", "_law_words", "_law_both", "_law_held", "_law_k", "_law_how", "_law_here", "_law_m", "_law_some", "_law_kept", "_law_names_here"]
/-- law -/
def b44 : RSs := .cons (.asg [1] true (.call 0 (.cons (.var 0) .nil))) (.cons (.asg [2] true (.call 32 (.cons (.var 1) (.cons (.bin .Add (.con (.int 2)) (.call 1 (.cons (.var 1) (.cons (.con (.int 6)) .nil)))) .nil)))) (.cons (.asg [3] true (.call 32 (.cons (.var 1) (.cons (.bin .Add (.con (.int 1)) (.call 1 (.cons (.var 1) (.cons (.con (.int 8)) .nil)))) .nil)))) (.cons (.asg [4] true (.lst false (.cons (.con (.str "add_room")) (.cons (.con (.str "add_line")) (.cons (.con (.str "add_room")) (.cons (.con (.str "add_line")) (.cons (.con (.str "add_drain")) (.cons (.con (.str "add_source")) (.cons (.con (.str "add_line")) (.cons (.con (.str "add_drain")) .nil)))))))))) (.cons (.asg [4] true (.bin .Add (.var 4) (.lst false (.cons (.con (.str "take_line")) (.cons (.con (.str "take_drain")) (.cons (.con (.str "take_source")) (.cons (.con (.str "take_room")) .nil))))))) (.cons (.asg [5] true (.lst false (.cons (.tup (.cons (.mk 2 (.nil)) (.cons (.call 3 (.nil)) .nil))) (.cons (.tup (.cons (.mk 2 (.nil)) (.cons (.call 3 (.nil)) .nil))) .nil)))) (.cons (.asg [6] true (.lst true (.nil))) (.cons (.fr [7] true (.rng1 (.bin .Add (.con (.int 6)) (.call 1 (.cons (.var 1) (.cons (.con (.int 40)) .nil))))) (.cons (.asg [8] true (.call 1 (.cons (.var 1) (.cons (.con (.int 4)) .nil)))) (.cons (.asg [9, 10] false (.ix (.var 5) (.bin .Mod (.var 7) (.con (.int 2))))) (.cons (.ifs (.nt (.call 43 (.cons (.var 9) (.cons (.var 10) (.cons (.call 40 (.cons (.var 1) (.cons (.var 2) (.cons (.var 3) (.cons (.var 4) .nil))))) .nil))))) (.cons (.ret (.con (.bl false))) .nil) (.nil)) (.cons (.asg [9, 10] false (.ix (.var 5) (.call 1 (.cons (.var 1) (.cons (.con (.int 2)) .nil))))) (.cons (.ifs (.cmp .Lt (.var 8) (.con (.int 2))) (.cons (.asg [11] true (.call 36 (.cons (.var 9) (.cons (.var 10) .nil)))) (.cons (.asl 12 (.lc false (.bi (.lst false) (.cons (.var 13) .nil)) [13] true (.lst (.var 11)) (.nn) [("_law_names_here", 13)])) (.cut (.ifs (.cmp .Eq (.var 8) (.con (.int 0))) (.cons (.exp (.call 28 (.cons (.var 1) (.cons (.var 11) .nil)))) .nil) (.cons (.exp (.mth .app (.var 6) (.cons (.tup (.cons (.var 11) (.cons (.var 12) .nil))) .nil))) .nil)) (.cons (.ifs (.or (.cons (.nt (.call 41 (.cons (.var 9) (.cons (.var 10) (.cons (.call 1 (.cons (.var 1) (.cons (.con (.int 3)) .nil))) .nil))))) (.cons (.cmp .NotEq (.call 36 (.cons (.var 9) (.cons (.var 10) .nil))) (.var 12)) .nil))) (.cons (.ret (.con (.bl false))) .nil) (.nil)) .nil)))) (.nil)) .nil)))))) (.cons (.fr [9, 10] false (.lst (.var 5)) (.cons (.ifs (.nt (.call 41 (.cons (.var 9) (.cons (.var 10) (.cons (.call 1 (.cons (.var 1) (.cons (.con (.int 3)) .nil))) .nil))))) (.cons (.ret (.con (.bl false))) .nil) (.nil)) .nil)) (.cons (.ret (.cmp .Eq (.lc false (.var 11) [11, 12] false (.lst (.var 6)) (.nn) [("_law_some", 11), ("_law_kept", 12)]) (.lc false (.var 12) [11, 12] false (.lst (.var 6)) (.nn) [("_law_some", 11), ("_law_kept", 12)]))) .nil)))))))))
theorem sc44 : FnScope N44 ["_law_script"] (defScope (top 45)) := ⟨rfl, rfl, rfl, by decide +kernel, rfl, by decide +kernel, by decide +kernel⟩
theorem ck44 : chkSs (sn N44) (defScope (top 45)) b44 (defBody (top 45)) = true := by decide +kernel
/-- the row holds, once the law's own def keeps its promise -/
theorem whole (facts : ∀ {P : Program} {w : World} {K : PySem.W.Frag} {h : Heap} {mg : Str → Option Value} {f : Addr} (X : K.In h) (G : h.Ns mainGlobals mg) (hfa : mg ("law" : Str) = some (.ref f)) (c : SaysX fa fn fx K),
    ∃ fd : FuncData, (∀ (s : Shared) (v : Value), BindsTo s fd ⟨[v], []⟩ [("_law_script", v)]) ∧ ∀ base : Heap, K.In base → base.Ns mainGlobals mg → FnG P w K mg base false 16 f fd ["_law_script"] (spD ⟨K⟩ (lawT 63))) : PySem.Challenge.rw_stillmain_k29_again_two_layouts.Holds := by
  open PySem.W PySem.Calls in
  (w_on; o_law
   refine HandSHeadRun.head_any (r := OpenLaw.row PySem.Challenge.rw_stillmain_k29_again_two_layouts) (q := view (OpenLaw.row PySem.Challenge.rw_stillmain_k29_again_two_layouts).prog [45]) (H := Cl.hk) (ob := Cl.ob) (M := 20000) (loose := Cl.names) (d := HandSHeadRun.topDef (OpenLaw.row PySem.Challenge.rw_stillmain_k29_again_two_layouts).prog 45) (kwd := []) Cl.ob_eq
     (by kernel_rfl) (fun s => by kernel_rfl) Cl.run (by kernel_rfl) (by kernel_rfl) (by kernel_rfl) (by rfl) (by first | assumption | decide +kernel) (by decide +kernel) ⟨rfl, rfl, rfl, rfl, rfl, by decide +kernel⟩ ?hw ?hc
   case hw => w_witness2
   case hc =>
     refine Sv.walk_ofG (l := PySem.Challenge.rw_stillmain_k29_again_two_layouts) (n := 63) (k := 16) (x := "_law_script") rfl (by decide) (by kernel_rfl) ⟨by decide, by decide⟩ ?F
     intro w mg fa h Y G hmg0
     obtain ⟨K, KX, c⟩ := Y
     have hmg : mg ("law" : PySem.Str) = some (.ref fa) := by
       have e : (HandSHeadRun.topDef (OpenLaw.row PySem.Challenge.rw_stillmain_k29_again_two_layouts).prog 45).name = ("law" : PySem.Str) := by kernel_rfl
       rw [← e]
       exact hmg0
     obtain ⟨fd, hb, hF⟩ := facts (P := (PySem.Challenge.rw_stillmain_k29_again_two_layouts).prog) (w := w) KX G hmg c
     exact ⟨K, fd, Sv.spD ⟨K⟩ (Sv.lawT 63), KX, hb, fun H a ns hl hS => Sv.law_sp hl hS, hF⟩)
end Cl
namespace Cl
open PySem PySem.Spec PyProof.Rows L2 Sv
/-! ### the bag -/
def BagL (x y z : Int) (cells : List Int) : List D := [.int x, .int y, .int z, .lst (cells.map .int)]
def BagR (x y z : Int) (cells : List Int) : Prop := 0 ≤ x ∧ 0 ≤ y ∧ y < 2147483647 ∧ 0 ≤ z ∧ ∀ i ∈ cells, 0 ≤ i
def BagOk (c : Cell) : Prop := ∃ (x y z : Int) (cells : List Int), c = .lst (BagL x y z cells) ∧ BagR x y z cells
def TTake : TR := fun m ds S K Y => m = none ∧ ∃ b n c, ds = [.obj b, .int n] ∧ 0 < n ∧ n.natAbs.log2 < 4000 ∧ S b = some c ∧ BagOk c ∧ ∀ v c', 0 ≤ v → v < n → BagOk c' → K (.int v) (S.set b c')
def TBag : TR := fun m ds S K Y => m = none ∧ ∃ ns : List Int, ds = [.lst (ns.map .int)] ∧ ∀ p c, S p = none → BagOk c → K (.obj p) (S.set p c)
/-! ### names -/
def Nm (z : Str) : Prop := z.cps.toList.length ≤ 8 ∧ 1 ≤ z.cps.toList.length ∧ ∀ c ∈ z.cps.toList, 97 ≤ c ∧ c ≤ 122
instance (z : Str) : Decidable (Nm z) := by unfold Nm; infer_instance
theorem Nm.fine {z : Str} (h : Nm z) : fine z = true := by
 unfold Sv.fine PyData.strOk
 rw [← Array.all_toList, List.all_eq_true]
 intro c hc
 have := (h.2.2 c hc).2
 exact decide_eq_true (by omega)
theorem Nm.len {z : Str} (h : Nm z) : z.length ≤ 8 ∧ 1 ≤ z.length := by
 have e : z.length = z.cps.toList.length := by rw [Array.length_toList]; rfl
 rw [e]
 exact ⟨h.1, h.2.1⟩
def TName : TR := fun m ds S K Y => m = none ∧ ∃ b c, ds = [.obj b] ∧ S b = some c ∧ BagOk c ∧ ∀ z c', Nm z → BagOk c' → K (.str z) (S.set b c')
def TNames : TR := fun m ds S K Y => m = none ∧ ∃ b c n, ds = [.obj b, .int n] ∧ 1 ≤ n ∧ n ≤ 1000 ∧ S b = some c ∧ BagOk c ∧ ∀ zs c', zs ≠ [] → (zs.length : Int) ≤ n → (∀ z ∈ zs, Nm z) → BagOk c' → K (.lst (zs.map D.str)) (S.set b c')
/-! ### a layout -/
structure Lay where
 rooms : List (Str × Unit)
 lines : List (Str × Str × Str × Int)
 drains : List (Str × Str)
 pushed : List (Str × Unit)
 tw : Bool
def fU : Unit → D := fun _ => .bl true
def fL : Str × Str × Int → D := fun p => .tup [.str p.1, .str p.2.1, .int p.2.2]
def fS : Str → D := .str
def nms {α : Type} (l : List (Str × α)) : List Str := l.map (·.1)
inductive Deed where
 | room (z : Str) | line (l x y : Str) (n : Int) | drain (d r : Str) | source (z : Str) | takeR (z : Str) | takeL (z : Str) | takeD (z : Str) | takeS (z : Str)
def Deed.d : Deed → D
 | .room z => .tup [.str "add_room", .str z]
 | .line l x y n => .tup [.str "add_line", .str l, .str x, .str y, .int n]
 | .drain d r => .tup [.str "add_drain", .str d, .str r]
 | .source z => .tup [.str "add_source", .str z]
 | .takeR z => .tup [.str "take_room", .str z]
 | .takeL z => .tup [.str "take_line", .str z]
 | .takeD z => .tup [.str "take_drain", .str z]
 | .takeS z => .tup [.str "take_source", .str z]
def Deed.Ok : Deed → Prop
 | .room z => Nm z
 | .line l x y n => Nm l ∧ Nm x ∧ Nm y ∧ y ≠ x ∧ 0 ≤ n ∧ n ≤ 99
 | .drain d r => Nm d ∧ Nm r
 | .source z => Nm z
 | .takeR z => Nm z | .takeL z => Nm z | .takeD z => Nm z | .takeS z => Nm z
/-- a refusal -/
inductive Rf where
 | there (z : Str) | lacks (z : Str) | many (n : Int) | inuse (z : Str) | wrong (i : Int)
def Rf.cls : Rf → Str
 | .there _ => "There" | .lacks _ => "Lacks" | .many _ => "TooMany" | .inuse _ => "InUse" | .wrong _ => "Wrong"
def Rf.v : Rf → D
 | .there z => .str z | .lacks z => .str z | .many n => .int n | .inuse z => .str z | .wrong i => .int i
def Rf.fs : Rf → List (Str × D)
 | .there z => [("name", .str z)] | .lacks z => [("name", .str z)] | .many n => [("most", .int n)] | .inuse z => [("name", .str z)] | .wrong i => [("at", .int i)]
def dueD : Option Rf → D
 | none => .non
 | some r => .tup [.str r.cls, r.v]
/-- the lines that end in a room -/
def atR (st : Lay) (z : Str) : List Str := nms (st.lines.filter fun q => decide (z ∈ [q.2.1, q.2.2.1]))
def without {α : Type} (l : List (Str × α)) (z : Str) : List (Str × α) := l.filter fun q => decide (q.1 ≠ z)
def lackOf (st : Lay) : List Str → Option Rf
 | [] => none
 | z :: r => if z ∈ nms st.rooms then lackOf st r else some (.lacks z)
def due (st : Lay) : Deed → Option Rf
 | .room z => if z ∈ nms st.rooms then some (.there z) else if st.rooms.length = 24 then some (.many 24) else none
 | .source z => if z ∈ nms st.rooms then (if z ∈ nms st.pushed then some (.there z) else none) else some (.lacks z)
 | .line l x y _ => if l ∈ nms st.lines ∨ l ∈ nms st.drains then some (.there l) else (lackOf st [x, y]).or (if st.lines.length = 40 then some (.many 40) else none)
 | .drain d r => if d ∈ nms st.lines ∨ d ∈ nms st.drains then some (.there d) else (lackOf st [r]).or (if st.drains.length = 12 then some (.many 12) else none)
 | .takeL z => if z ∈ nms st.lines then none else some (.lacks z)
 | .takeD z => if z ∈ nms st.drains then none else some (.lacks z)
 | .takeS z => if z ∈ nms st.pushed then none else some (.lacks z)
 | .takeR z => if z ∈ nms st.rooms then (if atR st z ≠ [] ∨ z ∈ st.drains.map (·.2) ∨ z ∈ nms st.pushed then some (.inuse z) else none) else some (.lacks z)
def doit (st : Lay) : Deed → Lay
 | .room z => { st with rooms := st.rooms ++ [(z, ())] }
 | .line l x y n => { st with lines := st.lines ++ [(l, x, y, n)] }
 | .drain d r => { st with drains := st.drains ++ [(d, r)] }
 | .source z => { st with pushed := st.pushed ++ [(z, ())] }
 | .takeR z => { st with rooms := without st.rooms z }
 | .takeL z => { st with lines := without st.lines z }
 | .takeD z => { st with drains := without st.drains z }
 | .takeS z => { st with pushed := without st.pushed z }
theorem without_len {α : Type} {l : List (Str × α)} {z : Str} : (without l z).length ≤ l.length := List.length_filter_le _ _
theorem without_mem {α : Type} {l : List (Str × α)} {z : Str} {q : Str × α} (h : q ∈ without l z) : q ∈ l := (List.mem_filter.mp h).1
theorem without_nms {α : Type} {l : List (Str × α)} {z : Str} : nms (without l z) = (nms l).filter fun w => decide (w ≠ z) := by
 unfold nms without
 rw [List.filter_map]
 rfl
/-- what holds of a layout after n deeds -/
structure Ok (n : Nat) (st : Lay) : Prop where
 r : st.rooms.length ≤ 24
 l : st.lines.length ≤ 40
 d : st.drains.length ≤ 12
 up : (nms st.pushed).Nodup
 nr : ∀ q ∈ st.rooms, Nm q.1
 nl : ∀ q ∈ st.lines, Nm q.1 ∧ Nm q.2.1 ∧ Nm q.2.2.1 ∧ 0 ≤ q.2.2.2 ∧ q.2.2.2 ≤ 99
 nd : ∀ q ∈ st.drains, Nm q.1 ∧ Nm q.2
 np : ∀ q ∈ st.pushed, Nm q.1
 ul : (nms st.lines).Nodup
 sub : ∀ z ∈ nms st.pushed, z ∈ nms st.rooms
theorem few_of {l : List Str} : ∀ {r : List Str}, l.Nodup → (∀ z ∈ l, z ∈ r) → l.length ≤ r.length := by
 induction l with
 | nil => intro r _ _; exact Nat.zero_le _
 | cons a l ih =>
  intro r u s
  have ha : a ∈ r := s a List.mem_cons_self
  have h := ih (r := r.erase a) (List.nodup_cons.mp u).2 fun z hz => (List.mem_erase_of_ne (fun e => (List.nodup_cons.mp u).1 (by rw [← e]; exact hz))).mpr (s z (List.mem_cons_of_mem _ hz))
  rw [List.length_erase_of_mem ha] at h
  have := List.length_pos_of_mem ha
  rw [List.length_cons]
  omega
theorem Ok.p {n : Nat} {st : Lay} (h : Ok n st) : st.pushed.length ≤ 24 := by
 have := few_of h.up h.sub
 unfold nms at this
 rw [List.length_map, List.length_map] at this
 exact Nat.le_trans this h.r
theorem Ok.doit {n : Nat} {st : Lay} {e : Deed} (h : Ok n st) (e1 : e.Ok) (e2 : due st e = none) : Ok (n + 1) (doit st e) := by
 obtain ⟨hr, hl, hd, hp, nr, nl, nd, np, ul, sb⟩ := h
 cases e with
 | room z =>
  simp only [due] at e2
  split at e2
  ·cases e2
  ·split at e2
   ·cases e2
   ·refine ⟨by simp only [Cl.doit, List.length_append, List.length_cons, List.length_nil]; omega, hl, hd, hp, fun q hq => ?_, nl, nd, np, ul, fun w hw => by show w ∈ nms (st.rooms ++ [(z, ())]); unfold nms; rw [List.map_append]; exact List.mem_append_left _ (sb w hw)⟩
    rcases List.mem_append.mp hq with hq | hq
    ·exact nr q hq
    ·cases List.mem_singleton.mp hq; exact e1
 | source z =>
  simp only [due] at e2
  have here : z ∈ nms st.rooms ∧ ¬ z ∈ nms st.pushed := by
   split at e2
   ·rename_i a
    split at e2
    ·cases e2
    ·rename_i b; exact ⟨a, b⟩
   ·cases e2
  have e3 : nms (Cl.doit st (.source z)).pushed = nms st.pushed ++ [z] := by simp [Cl.doit, nms]
  refine ⟨hr, hl, hd, by rw [e3]; exact List.nodup_append.mpr ⟨hp, by simp, fun a ha b hb e => here.2 (by rw [← List.mem_singleton.mp hb, ← e]; exact ha)⟩, nr, nl, nd, fun q hq => ?_, ul, fun w hw => ?_⟩
  rotate_left
  ·rw [e3] at hw
   rcases List.mem_append.mp hw with hw | hw
   ·exact sb w hw
   ·rw [List.mem_singleton.mp hw]; exact here.1
  rcases List.mem_append.mp hq with hq | hq
  ·exact np q hq
  ·cases List.mem_singleton.mp hq; exact e1
 | line l x y n =>
  simp only [due] at e2
  split at e2
  ·cases e2
  ·rename_i new
   have few : ¬ st.lines.length = 40 := fun z => by
    rw [z] at e2
    cases q : lackOf st [x, y] <;> rw [q] at e2 <;> cases e2
   refine ⟨hr, by simp only [Cl.doit, List.length_append, List.length_cons, List.length_nil]; omega, hd, hp, nr, fun q hq => ?_, nd, np, ?_, sb⟩
   ·rcases List.mem_append.mp hq with hq | hq
    ·exact nl q hq
    ·cases List.mem_singleton.mp hq; exact ⟨e1.1, e1.2.1, e1.2.2.1, e1.2.2.2.2⟩
   ·show (nms (st.lines ++ [(l, x, y, n)])).Nodup
    unfold nms
    rw [List.map_append]
    refine List.nodup_append.mpr ⟨ul, by simp, fun a ha b hb e => new (.inl ?_)⟩
    have hb : b = l := by simpa using hb
    rw [← hb, ← e]
    exact ha
 | drain d r =>
  simp only [due] at e2
  split at e2
  ·cases e2
  ·have few : ¬ st.drains.length = 12 := fun z => by
    rw [z] at e2
    cases q : lackOf st [r] <;> rw [q] at e2 <;> cases e2
   refine ⟨hr, hl, by simp only [Cl.doit, List.length_append, List.length_cons, List.length_nil]; omega, hp, nr, nl, fun q hq => ?_, np, ul, sb⟩
   rcases List.mem_append.mp hq with hq | hq
   ·exact nd q hq
   ·cases List.mem_singleton.mp hq; exact e1
 | takeR z =>
  refine ⟨Nat.le_trans without_len hr, hl, hd, hp, fun q hq => nr q (without_mem hq), nl, nd, np, ul, fun w hw => ?_⟩
  show w ∈ nms (without st.rooms z)
  rw [without_nms]
  refine List.mem_filter.mpr ⟨sb w hw, decide_eq_true fun e => ?_⟩
  simp only [due] at e2
  rw [e] at hw
  rw [if_pos (sb z hw), if_pos (.inr (.inr hw))] at e2
  cases e2
 | takeL z => exact ⟨hr, Nat.le_trans without_len hl, hd, hp, nr, fun q hq => nl q (without_mem hq), nd, np, by show (nms (without st.lines z)).Nodup; rw [without_nms]; exact ul.filter _, sb⟩
 | takeD z => exact ⟨hr, hl, Nat.le_trans without_len hd, hp, nr, nl, fun q hq => nd q (without_mem hq), np, ul, sb⟩
 | takeS z => exact ⟨hr, hl, hd, by show (nms (without st.pushed z)).Nodup; rw [without_nms]; exact hp.filter _, nr, nl, nd, fun q hq => np q (without_mem hq), ul, fun w hw => by obtain ⟨q, hq, e⟩ := List.mem_map.mp hw; exact sb w (e ▸ List.mem_map.mpr ⟨q, without_mem hq, rfl⟩)⟩
/-! ### where it lies -/
def insL (C a b c d : Addr) : Cell := .ins C [("by_room", .obj a), ("ends_of", .obj b), ("seat_of", .obj c), ("pushed", .obj d)]
def mK (sm : Lay) (e f : Addr) : List (Key × D) :=
 if sm.tw = true then [(.inr "rooms", .lst ((sortS (nms sm.rooms)).map D.str)), (.inr "sources", .lst ((sortS (nms sm.pushed)).map D.str)), (.inr "lines", .obj e), (.inr "drains", .obj f)] else [(.inr "rooms", .lst ((sortS (nms sm.rooms)).map D.str)), (.inr "lines", .obj e), (.inr "drains", .obj f), (.inr "sources", .lst ((sortS (nms sm.pushed)).map D.str))]
structure LayS (C : Addr) (S : SS) (L a b c d : Addr) (st : Lay) : Prop where
 L : S L = some (insL C a b c d)
 a : S a = some (.dic (mapK fU st.rooms))
 b : S b = some (.dic (mapK fL st.lines))
 c : S c = some (.dic (mapK fS st.drains))
 d : S d = some (.dic (mapK fU st.pushed))
structure MS (S : SS) (M e f : Addr) (sm : Lay) : Prop where
 Me : M ≠ e
 Mf : M ≠ f
 M : S M = some (.dic (mK sm e f))
 e : S e = some (.dic (mapK fL sm.lines))
 f : S f = some (.dic (mapK fS sm.drains))
structure Ad where
 (g L a b c d M e f : Addr)
def Ad.l (A : Ad) : List Addr := [A.g, A.L, A.a, A.b, A.c, A.d, A.M, A.e, A.f]
def put (C : Addr) (S0 : SS) (A : Ad) (st sm : Lay) (cb : Cell) : SS := fun q =>
 if q = A.g then some cb else if q = A.L then some (insL C A.a A.b A.c A.d) else if q = A.a then some (.dic (mapK fU st.rooms)) else if q = A.b then some (.dic (mapK fL st.lines)) else
 if q = A.c then some (.dic (mapK fS st.drains)) else if q = A.d then some (.dic (mapK fU st.pushed)) else if q = A.M then some (.dic (mK sm A.e A.f)) else
 if q = A.e then some (.dic (mapK fL sm.lines)) else if q = A.f then some (.dic (mapK fS sm.drains)) else S0 q
section
variable {C : Addr} {S0 : SS} {A : Ad} {st sm : Lay} {cb : Cell}
structure Apart (A : Ad) : Prop where
 (gL : A.g ≠ A.L) (ga : A.g ≠ A.a) (gb : A.g ≠ A.b) (gc : A.g ≠ A.c) (gd : A.g ≠ A.d) (gM : A.g ≠ A.M) (ge : A.g ≠ A.e) (gf : A.g ≠ A.f)
 (La : A.L ≠ A.a) (Lb : A.L ≠ A.b) (Lc : A.L ≠ A.c) (Ld : A.L ≠ A.d) (LM : A.L ≠ A.M) (Le : A.L ≠ A.e) (Lf : A.L ≠ A.f)
 (ab : A.a ≠ A.b) (ac : A.a ≠ A.c) (ad : A.a ≠ A.d) (aM : A.a ≠ A.M) (ae : A.a ≠ A.e) (af : A.a ≠ A.f)
 (bc : A.b ≠ A.c) (bd : A.b ≠ A.d) (bM : A.b ≠ A.M) (be : A.b ≠ A.e) (bf : A.b ≠ A.f)
 (cd : A.c ≠ A.d) (cM : A.c ≠ A.M) (ce : A.c ≠ A.e) (cf : A.c ≠ A.f)
 (dM : A.d ≠ A.M) (de : A.d ≠ A.e) (df : A.d ≠ A.f)
 (Me : A.M ≠ A.e) (Mf : A.M ≠ A.f) (ef : A.e ≠ A.f)
theorem put_g : put C S0 A st sm cb A.g = some cb := if_pos rfl
theorem put_lay (h : Apart A) : LayS C (put C S0 A st sm cb) A.L A.a A.b A.c A.d st := by
 refine ⟨?_, ?_, ?_, ?_, ?_⟩ <;> unfold put <;> simp [h.gL.symm, h.ga.symm, h.gb.symm, h.gc.symm, h.gd.symm, h.La.symm, h.Lb.symm, h.Lc.symm, h.Ld.symm, h.ab.symm, h.ac.symm, h.ad.symm, h.bc.symm, h.bd.symm, h.cd.symm]
theorem put_m (h : Apart A) : MS (put C S0 A st sm cb) A.M A.e A.f sm := by
 refine ⟨h.Me, h.Mf, ?_, ?_, ?_⟩ <;> unfold put <;> simp [h.gM.symm, h.ge.symm, h.gf.symm, h.LM.symm, h.Le.symm, h.Lf.symm, h.aM.symm, h.ae.symm, h.af.symm, h.bM.symm, h.be.symm, h.bf.symm, h.cM.symm, h.ce.symm, h.cf.symm, h.dM.symm, h.de.symm, h.df.symm, h.Me.symm, h.Mf.symm, h.ef.symm]
theorem set_a (h : Apart A) {x : List (Str × Unit)} : (put C S0 A st sm cb).set A.a (.dic (mapK fU x)) = put C S0 A { st with rooms := x } sm cb := by
 funext q
 unfold SS.set put
 by_cases e : q = A.a
 ·simp [e, h.ga.symm, h.La.symm]
 ·simp [e]
theorem set_b (h : Apart A) {x : List (Str × Str × Str × Int)} : (put C S0 A st sm cb).set A.b (.dic (mapK fL x)) = put C S0 A { st with lines := x } sm cb := by
 funext q
 unfold SS.set put
 by_cases e : q = A.b
 ·simp [e, h.gb.symm, h.Lb.symm, h.ab.symm]
 ·simp [e]
theorem set_c (h : Apart A) {x : List (Str × Str)} : (put C S0 A st sm cb).set A.c (.dic (mapK fS x)) = put C S0 A { st with drains := x } sm cb := by
 funext q
 unfold SS.set put
 by_cases e : q = A.c
 ·simp [e, h.gc.symm, h.Lc.symm, h.ac.symm, h.bc.symm]
 ·simp [e]
theorem set_d (h : Apart A) {x : List (Str × Unit)} : (put C S0 A st sm cb).set A.d (.dic (mapK fU x)) = put C S0 A { st with pushed := x } sm cb := by
 funext q
 unfold SS.set put
 by_cases e : q = A.d
 ·simp [e, h.gd.symm, h.Ld.symm, h.ad.symm, h.bd.symm, h.cd.symm]
 ·simp [e]
theorem set_M (h : Apart A) {x y : List (Str × Unit)} : (put C S0 A st sm cb).set A.M (.dic (mK { sm with rooms := x, pushed := y } A.e A.f)) = put C S0 A st { sm with rooms := x, pushed := y } cb := by
 funext q
 unfold SS.set put
 by_cases e : q = A.M
 ·simp [e, h.gM.symm, h.LM.symm, h.aM.symm, h.bM.symm, h.cM.symm, h.dM.symm]
 ·simp [e]
theorem set_e (h : Apart A) {x : List (Str × Str × Str × Int)} : (put C S0 A st sm cb).set A.e (.dic (mapK fL x)) = put C S0 A st { sm with lines := x } cb := by
 funext q
 unfold SS.set put
 by_cases e : q = A.e
 ·simp [e, h.ge.symm, h.Le.symm, h.ae.symm, h.be.symm, h.ce.symm, h.de.symm, h.Me.symm]
 ·simp [e, mK]
theorem set_f (h : Apart A) {x : List (Str × Str)} : (put C S0 A st sm cb).set A.f (.dic (mapK fS x)) = put C S0 A st { sm with drains := x } cb := by
 funext q
 unfold SS.set put
 by_cases e : q = A.f
 ·simp [e, h.gf.symm, h.Lf.symm, h.af.symm, h.bf.symm, h.cf.symm, h.df.symm, h.Mf.symm, h.ef.symm]
 ·simp [e, mK]
end
end Cl
namespace Cl
open PySem PySem.Spec PyProof.Rows L2 Sv
/-! ### what the defs promise -/
abbrev lc (K : PySem.W.Frag) : Addr := He.ga K "Layout"
abbrev gr (K : PySem.W.Frag) (r : Rf) : Addr := He.ga K r.cls
def lay0 : Lay := ⟨[], [], [], [], false⟩
def put4 (C : Addr) (S : SS) (p a b c d : Addr) : SS := fun q => if q = p then some (insL C a b c d) else if q = a then some (.dic []) else if q = b then some (.dic []) else if q = c then some (.dic []) else if q = d then some (.dic []) else S q
def put3 (S : SS) (M e f : Addr) : SS := fun q => if q = M then some (.dic (mK lay0 e f)) else if q = e then some (.dic []) else if q = f then some (.dic []) else S q
def TInit (K0 : PySem.W.Frag) : TR := fun m ds S K Y => m = none ∧ ∃ p, ds = [.obj p] ∧ S p = some (.ins (lc K0) []) ∧ ∀ a b c d, a ≠ p → b ≠ p → c ≠ p → d ≠ p → a ≠ b → a ≠ c → a ≠ d → b ≠ c → b ≠ d → c ≠ d → S a = none → S b = none → S c = none → S d = none → K .non (put4 (lc K0) S p a b c d)
def TNew : TR := fun m ds S K Y => m = none ∧ ds = [] ∧ ∀ M e f, M ≠ e → M ≠ f → e ≠ f → S M = none → S e = none → S f = none → K (.obj M) (put3 S M e f)
def TAlike : TR := fun m ds S K Y => m = none ∧ ∃ x, ds = [x, x] ∧ Plain x ∧ K (.bl true) S
def TWrong : TR := fun m ds S K Y => m = none ∧ ∃ x, ds = [x, .bl true] ∧ K .non S
def TIsName : TR := fun m ds S K Y => m = none ∧ ∃ z, ds = [.str z] ∧ Nm z ∧ K (.bl true) S
def TIsWhole : TR := fun m ds S K Y => m = none ∧ ∃ i, ds = [.int i] ∧ K (.bl true) S
def TIsCost : TR := fun m ds S K Y => m = none ∧ ∃ i, ds = [.int i] ∧ 0 ≤ i ∧ i ≤ 99 ∧ K (.bl true) S
def TLacks (K0 : PySem.W.Frag) : TR := fun m ds S K Y => m = none ∧ ∃ (z : Str) (p : Addr) (α : Type) (f : α → D) (l : List (Str × α)), ds = [.str z, .obj p] ∧ S p = some (.dic (mapK f l)) ∧ (z ∈ nms l → K .non S) ∧ (z ∉ nms l → Y (gr K0 (.lacks z)) (Rf.lacks z).fs S)
def TLine (K0 : PySem.W.Frag) : TR := fun m ds S K Y => m = none ∧ ∃ L a b c d st z q, ds = [.obj L, .str z] ∧ Nm z ∧ LayS (lc K0) S L a b c d st ∧ st.lines.lookup z = some q ∧ K (fL q) S
def TDrain (K0 : PySem.W.Frag) : TR := fun m ds S K Y => m = none ∧ ∃ L a b c d st z q, ds = [.obj L, .str z] ∧ Nm z ∧ LayS (lc K0) S L a b c d st ∧ st.drains.lookup z = some q ∧ K (.str q) S
def TNeed (K0 : PySem.W.Frag) : TR := fun m ds S K Y => m = none ∧ ∃ L a b c d st z, ds = [.obj L, .str z] ∧ LayS (lc K0) S L a b c d st ∧ (z ∈ nms st.lines ∨ z ∈ nms st.drains → Y (gr K0 (.there z)) (Rf.there z).fs S) ∧ (z ∉ nms st.lines → z ∉ nms st.drains → K .non S)
/-- a refusal, or done -/
def Ends (K0 : PySem.W.Frag) (o : Option Rf) (Y : XK') (S : SS) (P : Prop) : Prop := match o with
 | some r => Y (gr K0 r) r.fs S
 | none => P
def TAddRoom (K0 : PySem.W.Frag) : TR := fun m ds S K Y => m = none ∧ ∃ L a b c d st n z, ds = [.obj L, .str z] ∧ Nm z ∧ LayS (lc K0) S L a b c d st ∧ Ok n st ∧ Ends K0 (due st (.room z)) Y S (K .non (S.set a (.dic (mapK fU (st.rooms ++ [(z, ())])))))
def TAddSource (K0 : PySem.W.Frag) : TR := fun m ds S K Y => m = none ∧ ∃ L a b c d st n z, ds = [.obj L, .str z] ∧ Nm z ∧ LayS (lc K0) S L a b c d st ∧ Ok n st ∧ n ≤ 62 ∧ Ends K0 (due st (.source z)) Y S (K .non (S.set d (.dic (mapK fU (st.pushed ++ [(z, ())])))))
def TAddDrain (K0 : PySem.W.Frag) : TR := fun m ds S K Y => m = none ∧ ∃ L a b c d st n z r, ds = [.obj L, .str z, .str r] ∧ (Deed.drain z r).Ok ∧ LayS (lc K0) S L a b c d st ∧ Ok n st ∧ Ends K0 (due st (.drain z r)) Y S (K .non (S.set c (.dic (mapK fS (st.drains ++ [(z, r)])))))
def TAddLine (K0 : PySem.W.Frag) : TR := fun m ds S K Y => m = none ∧ ∃ L a b c d st n l x y k, ds = [.obj L, .str l, .str x, .str y, .int k] ∧ (Deed.line l x y k).Ok ∧ LayS (lc K0) S L a b c d st ∧ Ok n st ∧ Ends K0 (due st (.line l x y k)) Y S (K .non (S.set b (.dic (mapK fL (st.lines ++ [(l, x, y, k)])))))
def TTakeRoom (K0 : PySem.W.Frag) : TR := fun m ds S K Y => m = none ∧ ∃ L a b c d st n z, ds = [.obj L, .str z] ∧ Nm z ∧ LayS (lc K0) S L a b c d st ∧ Ok n st ∧ Ends K0 (due st (.takeR z)) Y S (K .non (S.set a (.dic (mapK fU (without st.rooms z)))))
def TTakeLine (K0 : PySem.W.Frag) : TR := fun m ds S K Y => m = none ∧ ∃ L a b c d st z, ds = [.obj L, .str z] ∧ Nm z ∧ LayS (lc K0) S L a b c d st ∧ Ends K0 (due st (.takeL z)) Y S (K .non (S.set b (.dic (mapK fL (without st.lines z)))))
def TTakeDrain (K0 : PySem.W.Frag) : TR := fun m ds S K Y => m = none ∧ ∃ L a b c d st z, ds = [.obj L, .str z] ∧ Nm z ∧ LayS (lc K0) S L a b c d st ∧ Ends K0 (due st (.takeD z)) Y S (K .non (S.set c (.dic (mapK fS (without st.drains z)))))
def TTakeSource (K0 : PySem.W.Frag) : TR := fun m ds S K Y => m = none ∧ ∃ L a b c d st z, ds = [.obj L, .str z] ∧ Nm z ∧ LayS (lc K0) S L a b c d st ∧ Ends K0 (due st (.takeS z)) Y S (K .non (S.set d (.dic (mapK fU (without st.pushed z)))))
inductive IsTake : Str → Str → Deed → Prop where
 | r (z : Str) : IsTake "take_room" z (.takeR z) | l (z : Str) : IsTake "take_line" z (.takeL z) | d (z : Str) : IsTake "take_drain" z (.takeD z) | s (z : Str) : IsTake "take_source" z (.takeS z)
def TDueTake : TR := fun m ds S K Y => m = none ∧ ∃ M e f sm n w z u, ds = [.obj M, .str w, .str z] ∧ IsTake w z u ∧ Nm z ∧ MS S M e f sm ∧ Ok n sm ∧ n ≤ 62 ∧ K (dueD (due sm u)) S
def TDue : TR := fun m ds S K Y => m = none ∧ ∃ M e f sm n w, ds = [.obj M, Deed.d w] ∧ w.Ok ∧ MS S M e f sm ∧ Ok n sm ∧ n ≤ 62 ∧ K (dueD (due sm w)) S
def TCall (K0 : PySem.W.Frag) : TR := fun m ds S K Y => m = none ∧ ∃ S0 A st sm cb n w, S = put (lc K0) S0 A st sm cb ∧ Apart A ∧ ds = [.obj A.L, Deed.d w] ∧ w.Ok ∧ Ok n st ∧ n ≤ 62 ∧ Ends K0 (due st w) Y S (K .non (put (lc K0) S0 A (doit st w) sm cb))
def TClass (K0 : PySem.W.Frag) : TR := fun m ds S K Y => ∃ a oe r, m = some (a, oe) ∧ ds = [.exc a oe (gr K0 r) r.fs] ∧ K (.tup [.str r.cls, r.v]) S
def TSay (K0 : PySem.W.Frag) : TR := fun m ds S K Y => m = none ∧ ∃ S0 A st sm cb n w, S = put (lc K0) S0 A st sm cb ∧ Apart A ∧ ds = [.obj A.L, Deed.d w] ∧ w.Ok ∧ Ok n st ∧ n ≤ 62 ∧
 (match due st w with
 | some r => K (.tup [.str "refused", .tup [.str r.cls, r.v]]) S
 | none => K (.tup [.str "told", .non]) (put (lc K0) S0 A (doit st w) sm cb))
def TDo (K0 : PySem.W.Frag) : TR := fun m ds S K Y => m = none ∧ ∃ S0 A st sm cb n w, S = put (lc K0) S0 A st sm cb ∧ Apart A ∧ ds = [.obj A.M, Deed.d w] ∧ w.Ok ∧ Ok n sm ∧ n ≤ 62 ∧ due sm w = none ∧ K .non (put (lc K0) S0 A st (doit sm w) cb)
def next (st : Lay) (w : Deed) : Lay := match due st w with
 | some _ => st
 | none => doit st w
def TStep (K0 : PySem.W.Frag) : TR := fun m ds S K Y => m = none ∧ ∃ S0 A st cb n w, S = put (lc K0) S0 A st st cb ∧ Apart A ∧ ds = [.obj A.L, .obj A.M, Deed.d w] ∧ w.Ok ∧ Ok n st ∧ n ≤ 62 ∧ K (.bl true) (put (lc K0) S0 A (next st w) (next st w) cb)
def TAsk (K0 : PySem.W.Frag) : TR := fun m ds S K Y => m = none ∧ ∃ S0 A st cb n, S = put (lc K0) S0 A st st cb ∧ Apart A ∧ ds = [.obj A.L, .obj A.M] ∧ Ok n st ∧ n ≤ 62 ∧ K (.bl true) S
def TSame (K0 : PySem.W.Frag) : TR := fun m ds S K Y => m = none ∧ ∃ S0 A st cb n o, S = put (lc K0) S0 A st st cb ∧ Apart A ∧ ds = [.obj A.L, .obj A.M, .int o] ∧ 0 ≤ o ∧ o < 1000 ∧ Ok n st ∧ n ≤ 62 ∧ K (.bl true) S
def TCost : TR := fun m ds S K Y => m = none ∧ ∃ b c, ds = [.obj b] ∧ S b = some c ∧ BagOk c ∧ ∀ v c', 0 ≤ v → v ≤ 99 → BagOk c' → K (.int v) (S.set b c')
def Pool (zs : List Str) : Prop := zs ≠ [] ∧ zs.length ≤ 1000 ∧ ∀ z ∈ zs, Nm z
def TAddL : TR := fun m ds S K Y => m = none ∧ ∃ b c rs ds', ds = [.obj b, .lst (rs.map D.str), .lst (ds'.map D.str)] ∧ Pool rs ∧ Pool ds' ∧ S b = some c ∧ BagOk c ∧ ∀ w c', Deed.Ok w → BagOk c' → K w.d (S.set b c')
def WORDS : List Str := ["add_room", "add_line", "add_drain", "add_source", "take_room", "take_line", "take_drain", "take_source"]
def TDeed : TR := fun m ds S K Y => m = none ∧ ∃ b c rs ds' ws, ds = [.obj b, .lst (rs.map D.str), .lst (ds'.map D.str), .lst (ws.map D.str)] ∧ Pool rs ∧ Pool ds' ∧ ws ≠ [] ∧ ws.length ≤ 1000 ∧ (∀ w ∈ ws, w ∈ WORDS) ∧ S b = some c ∧ BagOk c ∧ ∀ w c', Deed.Ok w → BagOk c' → K w.d (S.set b c')
/-- sorted names, a list of one's own -/
def TSortC (K0 : PySem.W.Frag) (sel : Lay → List Str) : TR := fun m ds S K Y => m = none ∧ ∃ L a b c d st, ds = [.obj L] ∧ LayS (lc K0) S L a b c d st ∧ (sel st).length < 64 ∧ ∀ p, S p = none → K (.obj p) (S.set p (.lst ((sortS (sel st)).map D.str)))
def TLinesAtC (K0 : PySem.W.Frag) : TR := fun m ds S K Y => m = none ∧ ∃ L a b c d st n z, ds = [.obj L, .str z] ∧ Nm z ∧ LayS (lc K0) S L a b c d st ∧ Ok n st ∧ z ∈ nms st.rooms ∧ ∀ p, S p = none → K (.obj p) (S.set p (.lst ((sortS (atR st z)).map D.str)))
/-- what was there stays -/
def Grows (S S' : SS) : Prop := ∀ q, S q ≠ none → S' q = S q
/-- all lists of a layout -/
def toldL (st : Lay) : List (List Str) := [sortS (nms st.rooms), sortS (nms st.lines), sortS (nms st.drains), sortS (nms st.pushed)] ++ (sortS (nms st.rooms)).map fun r => sortS (atR st r)
/-- lists in cells -/
def AtL (S : SS) : List Addr → List (List Str) → Prop
 | [], ls => ls = []
 | p :: ps, ls => ∃ l r, ls = l :: r ∧ S p = some (.lst (l.map D.str)) ∧ AtL S ps r
def TTold29 (K0 : PySem.W.Frag) : TR := fun m ds S K Y => m = none ∧ ∃ L a b c d M e f st n, ds = [.obj L, .obj M] ∧ LayS (lc K0) S L a b c d st ∧ MS S M e f st ∧ Ok n st ∧ n ≤ 62 ∧ ∀ (ps : List Addr) S', Grows S S' → (∀ p ∈ ps, S p = none) → ps.Nodup → AtL S' ps (toldL st) → K (.lst (ps.map D.obj)) S'
def TPut29 : TR := fun m ds S K Y => m = none ∧ ∃ g cb ps ls, ds = [.obj g, .lst (ps.map D.obj)] ∧ S g = some cb ∧ BagOk cb ∧ g ∉ ps ∧ ps.Nodup ∧ AtL S ps ls ∧ (∀ l ∈ ls, (∀ z ∈ l, Nm z) ∧ l.length < 100) ∧ ps.length ≤ 100 ∧ ∀ cb' S', BagOk cb' → S' g = some cb' → (∀ q, q ∉ ps → q ≠ g → S' q = S q) → K .non S'
theorem cls_Layout {K : PySem.W.Frag} (c : SaysX fa fn fx K) : Cls K (He.ga K "Layout") := He.cls_ok (c.d.fact 3 (f := .cls "Layout") rfl)
theorem na_by_room {K : PySem.W.Frag} (c : SaysX fa fn fx K) : NoAttr K (He.ga K "Layout") "by_room" := He.noat_ok (c.d.fact 82 (f := .noat "Layout" "by_room") rfl)
theorem na_ends_of {K : PySem.W.Frag} (c : SaysX fa fn fx K) : NoAttr K (He.ga K "Layout") "ends_of" := He.noat_ok (c.d.fact 83 (f := .noat "Layout" "ends_of") rfl)
theorem na_seat_of {K : PySem.W.Frag} (c : SaysX fa fn fx K) : NoAttr K (He.ga K "Layout") "seat_of" := He.noat_ok (c.d.fact 84 (f := .noat "Layout" "seat_of") rfl)
theorem na_pushed {K : PySem.W.Frag} (c : SaysX fa fn fx K) : NoAttr K (He.ga K "Layout") "pushed" := He.noat_ok (c.d.fact 85 (f := .noat "Layout" "pushed") rfl)
def tb (K : PySem.W.Frag) : Tb := ⟨fnsL, clsL, gvsL, [some TBag, some TTake, some (TInit K), some TNew, some TDueTake, some TWrong, some TIsName, some TIsWhole, some (TNeed K), some (TLacks K), none, some TAlike, some (TDo K), some (TSortC K fun st => nms st.rooms), some (TSortC K fun st => nms st.lines), some (TSortC K fun st => nms st.drains), some (TSortC K fun st => nms st.pushed), some TName, some TDue, some (TAddRoom K), some TIsCost, some (TAddDrain K), some (TAddSource K), some (TLinesAtC K), some (TTakeLine K), some (TTakeDrain K), some (TTakeSource K), some TCost, some TPut29, some (TLine K), some (TDrain K), some (TAsk K), some TNames, some (TAddLine K), some (TTakeRoom K), some TAddL, some (TTold29 K), some (TAsk K), some (TAsk K), some (TCall K), some TDeed, some (TSame K), some (TSay K), some (TStep K), some (lawT 63)], [none, none, none, none, none, none, none, none, none, none, some (TClass K), none, none, none, none, none, none, none, none, none, none, none, none, none, none, none, none, none, none, none, none, none, none, none, none, none, none, none, none, none, none, none, none, none, none], [.str "abcdefghijklmnopqrstuvwxyz", .int 8, .int 99, .int 24, .int 40, .int 12], [none, some (.fld "at"), some (.fld "name"), some (.fld "name"), some (.fld "most"), some (.fld "name"), none], [0, 0, 0, 0, 0, 0, 0, 0, 0, 0, 0, 0, 0, 0, 0, 0, 0, 17, 17, 17, 17, 17, 17, 17, 17, 17, 17, 17, 17, 17, 17, 17, 32, 32, 32, 32, 32, 32, 32, 39, 39, 39, 42, 43, 44]⟩
theorem dg0 {K : PySem.W.Frag} {i : Nat} {m : Option (Addr × Obj)} {δ : DS} {S : SS} {Y : XD' } {KK : DK} (k : KK (.str "abcdefghijklmnopqrstuvwxyz") S) : den ((tb K).G K i m).toGm (.glb 0) δ S Y KK := d_glb k
theorem dg1 {K : PySem.W.Frag} {i : Nat} {m : Option (Addr × Obj)} {δ : DS} {S : SS} {Y : XD' } {KK : DK} (k : KK (.int 8) S) : den ((tb K).G K i m).toGm (.glb 1) δ S Y KK := d_glb k
theorem dg2 {K : PySem.W.Frag} {i : Nat} {m : Option (Addr × Obj)} {δ : DS} {S : SS} {Y : XD' } {KK : DK} (k : KK (.int 99) S) : den ((tb K).G K i m).toGm (.glb 2) δ S Y KK := d_glb k
theorem dg3 {K : PySem.W.Frag} {i : Nat} {m : Option (Addr × Obj)} {δ : DS} {S : SS} {Y : XD' } {KK : DK} (k : KK (.int 24) S) : den ((tb K).G K i m).toGm (.glb 3) δ S Y KK := d_glb k
theorem dg4 {K : PySem.W.Frag} {i : Nat} {m : Option (Addr × Obj)} {δ : DS} {S : SS} {Y : XD' } {KK : DK} (k : KK (.int 40) S) : den ((tb K).G K i m).toGm (.glb 4) δ S Y KK := d_glb k
theorem dg5 {K : PySem.W.Frag} {i : Nat} {m : Option (Addr × Obj)} {δ : DS} {S : SS} {Y : XD' } {KK : DK} (k : KK (.int 12) S) : den ((tb K).G K i m).toGm (.glb 5) δ S Y KK := d_glb k
instance s_dg0 {K : PySem.W.Frag} {i : Nat} {m : Option (Addr × Obj)} {δ : DS} {S : SS} {Y : XD' } {KK : DK} : Rdg (den ((tb K).G K i m).toGm (.glb 0) δ S Y KK) (KK (.str "abcdefghijklmnopqrstuvwxyz") S) := ⟨dg0⟩
instance s_dg1 {K : PySem.W.Frag} {i : Nat} {m : Option (Addr × Obj)} {δ : DS} {S : SS} {Y : XD' } {KK : DK} : Rdg (den ((tb K).G K i m).toGm (.glb 1) δ S Y KK) (KK (.int 8) S) := ⟨dg1⟩
instance s_dg2 {K : PySem.W.Frag} {i : Nat} {m : Option (Addr × Obj)} {δ : DS} {S : SS} {Y : XD' } {KK : DK} : Rdg (den ((tb K).G K i m).toGm (.glb 2) δ S Y KK) (KK (.int 99) S) := ⟨dg2⟩
instance s_dg3 {K : PySem.W.Frag} {i : Nat} {m : Option (Addr × Obj)} {δ : DS} {S : SS} {Y : XD' } {KK : DK} : Rdg (den ((tb K).G K i m).toGm (.glb 3) δ S Y KK) (KK (.int 24) S) := ⟨dg3⟩
instance s_dg4 {K : PySem.W.Frag} {i : Nat} {m : Option (Addr × Obj)} {δ : DS} {S : SS} {Y : XD' } {KK : DK} : Rdg (den ((tb K).G K i m).toGm (.glb 4) δ S Y KK) (KK (.int 40) S) := ⟨dg4⟩
instance s_dg5 {K : PySem.W.Frag} {i : Nat} {m : Option (Addr × Obj)} {δ : DS} {S : SS} {Y : XD' } {KK : DK} : Rdg (den ((tb K).G K i m).toGm (.glb 5) δ S Y KK) (KK (.int 12) S) := ⟨dg5⟩
def EXCL : List Str := ["Wrong", "There", "Lacks", "TooMany", "InUse"]
end Cl
open Cl PySem PySem.Spec PyProof.Rows L2 Sv
local macro_rules | `(tactic| walk_at "sat") => `(tactic| (first | exact SS.set_same | assumption | (refine (SS.set_ne ?_).trans ?_; (focus (first | assumption | (apply Ne.symm; assumption))); walk_at "sat")))
local macro_rules | `(tactic| walk_at "st") => `(tactic| (repeat (first | (refine Rdg.go ?_) | ((with_reducible apply d_var); focus exact rfl) | ((with_reducible apply t_var); focus exact rfl) | (with_reducible refine And.intro (a := _ ≤ sizeLine) (by rw [sizeLine_eq]; simp only [List.length_cons, List.length_nil, List.length_append, List.length_map]; omega) ?_) | (with_reducible refine o_addL (by rw [sizeLine_eq]; simp only [List.length_cons, List.length_nil, List.length_append, List.length_map]; omega) ?_) | (dsimp only))))
local macro_rules | `(tactic| walk_at "ifs") => `(tactic| (repeat (first | (rw [if_pos (by decide +kernel)]; walk_at "st") | (rw [if_neg (by decide +kernel)]; walk_at "st"))))
namespace Cl
open PySem PySem.Spec PyProof.Rows L2 Sv
variable {K : PySem.W.Frag}
section
variable {x y z v : Int} {cells : List Int}
theorem at0 : atI (BagL x y z cells) 0 = some (.int x) := rfl
theorem at1 : atI (BagL x y z cells) 1 = some (.int y) := rfl
theorem at2 : atI (BagL x y z cells) 2 = some (.int z) := rfl
theorem at3 : atI (BagL x y z cells) 3 = some (.lst (cells.map .int)) := rfl
end
theorem cut_take {xs : List D} {k : Nat} : Sv.cutD xs none (some (k : Int)) = xs.take k := by
 unfold Sv.cutD
 rw [HT.sIx_none, HT.sIx_nat]
 simp only [List.drop_zero, Nat.sub_zero]
 by_cases h : k ≤ xs.length
 ·rw [Nat.min_eq_left h]
 ·rw [Nat.min_eq_right (by omega), List.take_length, List.take_of_length_le (by omega)]
theorem bnd {j : Int} (h0 : -1000 ≤ j) (h1 : j ≤ 1000000) : -(2 ^ 62) ≤ j ∧ j < 2 ^ 62 := by
 have e : (2 : Int) ^ 62 = 4611686018427387904 := by decide
 rw [e]; omega
theorem lg {n : Int} (h0 : 0 < n) (h1 : n ≤ 1000000) : n.natAbs.log2 < 4000 := by
  have h : n.natAbs < 2 ^ 20 := by have : (2 : Nat) ^ 20 = 1048576 := by decide
                                   omega
  exact Nat.lt_trans ((Nat.log2_lt (by omega)).mpr h) (by decide)
theorem me1 (c : SaysX fa fn fx K) : Meets ((tb K).sn N1) ((tb K).G K 1) 2 false TTake b1 := by
 refine Qt.put_in ?_
 simp (disch :=
 with_unfolding_all
 refine Qt.keep ?_
 rintro m hm ds S KK Y ⟨rfl, b, n0, c, rfl, hn, hn2, hb, ⟨x, y, z, cells, rfl, hx, hy, hy2, hz, hc⟩, hK⟩
 refine ⟨rfl, ?_⟩
 show denSs _ b1 [some _, some _, none, none, none, none] _ _ _
 unfold b1
 have hb0 := hb
 refine ss_cut (fun δ1 S1 => ∃ x y z c1, BagR x y z cells ∧ S1 = S.set b (.lst (BagL x y z cells)) ∧ δ1 = [some (.obj b), some (.int n0), c1, none, none, none]) ?_ ?_
 ·walk_at "st"
  refine ix_o hb at0 ?_
  walk_at "st"
  split
  ·walk_at "st"
   refine ss_cut (fun δ1 S1 => ∃ w, 0 ≤ w ∧ S1 = S ∧ δ1 = [some (.obj b), some (.int n0), some (.int w), none, none, none]) ?_ ?_
   ·walk_at "st"
    refine ix_o hb at2 ?_
    walk_at "st"
    refine ix_o hb at3 ?_
    walk_at "st"
    split
    ·rename_i e
     have e : z < (cells.length : Int) := by simpa using e
     walk_at "st"
     refine ix_o hb at3 ?_
     walk_at "st"
     refine ix_o hb at2 ?_
     obtain ⟨k, rfl⟩ := Int.eq_ofNat_of_zero_le hz
     have hk : k < cells.length := by omega
     refine ix_l (atI_map (List.getElem?_eq_getElem hk)) ?_
     walk_at "st"
     exact ⟨cells[k], hc _ (List.getElem_mem hk), rfl, rfl⟩
    ·walk_at "st"
     exact ⟨0, by omega, rfl, rfl⟩
   ·rintro δ1 S1 ⟨w, hw, hS, rfl⟩
    rw [hS]
    walk_at "st"
    refine get_o hb at2 ?_
    walk_at "st"
    refine set_o hb rfl ?_
    walk_at "st"
    refine ss_cut (fun δ1 S1 => ∃ x1, 0 ≤ x1 ∧ S1 = S.set b (.lst (BagL x1 y (z + 1) cells)) ∧ δ1 = [some (.obj b), some (.int n0), some (.int w), none, none, none]) ?_ ?_
    ·walk_at "st"
     split
     ·walk_at "st"
      refine set_o SS.set_same rfl ?_
      walk_at "st"
      exact ⟨w, hw, by rw [SS.set_set]; rfl, rfl⟩
     ·walk_at "st"
      exact ⟨x, hx, rfl, rfl⟩
    ·rintro δ1 S1 ⟨x1, hx1, rfl, rfl⟩
     walk_at "st"
     refine ix_o SS.set_same at1 ?_
     walk_at "st"
     refine o_mul (.inl (.inr (by decide))) ?_
     walk_at "st"
     refine o_mod (by decide) ?_
     walk_at "st"
     refine ix_o SS.set_same at2 ?_
     walk_at "st"
     refine o_mul (.inl (.inl (by decide))) ?_
     walk_at "st"
     refine o_mod (by decide) ?_
     walk_at "st"
     refine set_o SS.set_same rfl ?_
     walk_at "st"
     exact ⟨x1, (y * 48271 + w % 2147483647 + 7919 * (z + 1)) % 2147483647, z + 1, _, ⟨hx1, Int.emod_nonneg _ (by decide), Int.emod_lt_of_pos _ (by decide), by omega, hc⟩, by rw [SS.set_set]; rfl, rfl⟩
  ·walk_at "st"
   exact ⟨x, y, z, none, ⟨hx, hy, hy2, hz, hc⟩, (SS.set_id hb).symm, rfl⟩
 ·rintro δ1 S1 ⟨x, y, z, c1, ⟨hx, hy, hy2, hz, hc⟩, rfl, rfl⟩
  walk_at "st"
  refine ix_o SS.set_same at0 ?_
  walk_at "st"
  split
  ·rename_i e
   have e : 0 < x := by simpa using e
   walk_at "st"
   refine ix_o SS.set_same at0 ?_
   walk_at "st"
   refine o_mod hn ?_
   walk_at "st"
   refine ix_o SS.set_same at0 ?_
   walk_at "st"
   refine o_div ⟨hn, by omega⟩ ?_
   walk_at "st"
   refine set_o SS.set_same rfl ?_
   walk_at "st"
   rw [SS.set_set]
   exact hK _ _ (Int.emod_nonneg _ (by omega)) (Int.emod_lt_of_pos _ hn) ⟨x / n0, y, z, cells, rfl, Int.ediv_nonneg hx (by omega), hy, hy2, hz, hc⟩
  ·walk_at "st"
   refine ix_o SS.set_same at1 ?_
   walk_at "st"
   refine o_mul (.inl (.inr (by decide))) ?_
   walk_at "st"
   refine o_mod (by decide) ?_
   have h1 := Int.emod_nonneg ((y + 1) * 39373) (by decide : (1000000007 : Int) ≠ 0)
   have h2 := Int.emod_lt_of_pos ((y + 1) * 39373) (by decide : (0 : Int) < 1000000007)
   generalize ((y + 1) * 39373) % 1000000007 = f1 at h1 h2 ⊢
   walk_at "st"
   refine o_mul (.inl (.inl ⟨by omega, by omega⟩)) ?_
   walk_at "st"
   refine o_mod (by decide) ?_
   walk_at "st"
   refine o_mul (.inl (.inr (by decide))) ?_
   walk_at "st"
   refine o_mod (by decide) ?_
   have h3 := Int.emod_nonneg (f1 * f1 % 998244353 * 30011) (by decide : (998244353 : Int) ≠ 0)
   have h4 := Int.emod_lt_of_pos (f1 * f1 % 998244353 * 30011) (by decide : (0 : Int) < 998244353)
   generalize (f1 * f1 % 998244353 * 30011) % 998244353 = f2 at h3 h4 ⊢
   walk_at "st"
   split
   ·walk_at "st"
    refine o_mul (.inl (.inr (by decide))) ?_
    walk_at "st"
    refine o_mod hn ?_
    exact hK _ _ (Int.emod_nonneg _ (by omega)) (Int.emod_lt_of_pos _ hn) ⟨x, y, z, cells, rfl, hx, hy, hy2, hz, hc⟩
   ·walk_at "st"
    refine o_div ⟨by decide, by decide⟩ ?_
    walk_at "st"
    refine o_mod hn ?_
    exact hK _ _ (Int.emod_nonneg _ (by omega)) (Int.emod_lt_of_pos _ hn) ⟨x, y, z, cells, rfl, hx, hy, hy2, hz, hc⟩
 ) only [↓Qt.put_off]
def absD1 : D → D
 | .int i => .int (if i < 0 then -i else i)
 | d => d
theorem me0 (c : SaysX fa fn fx K) : Meets ((tb K).sn N0) ((tb K).G K 0) 1 false TBag b0 := by
 rintro m hm ds S KK Y ⟨rfl, ns, rfl, hK⟩
 refine ⟨rfl, ?_⟩
 show denSs _ b0 [some _, none] _ _ _
 unfold b0
 walk_at "st"
 refine ⟨_, rfl, ?_⟩
 rw [show (63 : Int) = ((63 : Nat) : Int) from rfl, cut_take]
 have hl : ((ns.map D.int).take 63).length ≤ 63 := by rw [List.length_take]; omega
 refine lc_fm absD1 (fun _ => true) (by rw [sizeLine_eq]; omega) (fun _ _ _ => rfl) (fun p i acc d KK KN hd hp hk hn => ?_) ?_
 ·refine tg_1 (c_nn ?_)
  rw [if_pos rfl]
  have hm : d ∈ ns.map D.int := List.mem_of_mem_take (List.mem_of_getElem? hd)
  obtain ⟨x, _, rfl⟩ := List.mem_map.mp hm
  walk_at "st"
  exact hk rfl
 ·have e : (((ns.map D.int).take 63).filter fun _ => true).map absD1 = ((ns.take 63).map fun i => if i < 0 then -i else i).map D.int := by
   rw [List.filter_eq_self.mpr (fun _ _ => rfl), ← List.map_take, List.map_map, List.map_map]
   rfl
  rw [e]
  walk_at "st"
  intro p hp
  refine hK p _ hp ⟨0, 1234567891, 0, _, rfl, by decide, by decide, by decide, by decide, fun i hi => ?_⟩
  obtain ⟨x, _, rfl⟩ := List.mem_map.mp hi
  split <;> omega
/-! ### draws within a comprehension -/
theorem denTg_mono {tg : List Nat} {one : Bool} {d : D} {δ : DS} {S : SS} {Q Q' : DS → SS → Prop} (w : ∀ δ S, Q δ S → Q' δ S) (h : denTg tg one d δ S Q) : denTg tg one d δ S Q' := by
 unfold denTg at h ⊢
 split
 ·rename_i e
  rw [if_pos e] at h
  split at h
  ·exact w _ _ h
  ·exact h
 ·rename_i e
  rw [if_neg e] at h
  obtain ⟨ds, h1, h2, h3⟩ := h
  exact ⟨ds, h1, h2, w _ _ h3⟩
theorem lc_bag {G : Gm} {elt : RE} {tg : List Nat} {one : Bool} {own : List Nat} {δ : DS} {KK : DK} {ds : List D} {ok : SS → Prop} {S : SS} {b : Addr} {c : Cell} (hb : S b = some c) (hc : BagOk c) (hz : ds.length ≤ sizeLine) (P : D → Prop) (hok : ∀ S', ok S')
  (hs : ∀ (p : Addr) (i : Nat) (acc : List D) (d : D) (S0 : SS) (c0 : Cell) (K1 : DK), ds[i]? = some d → S0 b = some c0 → BagOk c0 → (∀ y c1, P y → BagOk c1 → K1 y (S0.set b c1)) → denTg tg one d (wipeD δ own) S0 fun δ2 S2 => den G elt δ2 S2 noX K1)
  (hl : ∀ ys c', ys.length = ds.length → (∀ y ∈ ys, P y) → BagOk c' → KK (.lst ys) (S.set b c')) : LcK G false elt tg one .nn own δ KK ds ok S := by
 intro p hp
 have apart : b ≠ p := SS.ne_of hb hp
 refine ⟨fun i S' => ∃ ys c', ys.length = i ∧ (∀ y ∈ ys, P y) ∧ BagOk c' ∧ S' = (S.set b c').set p (.lst ys), ⟨[], c, rfl, (fun _ z => nomatch z), hc, by rw [SS.set_id hb]⟩, fun _ S' _ _ => hok S', ?_, ?_⟩
 ·rintro i d S' hd ⟨ys, c0, rfl, hP, hc0, rfl⟩
  have hi : ys.length < ds.length := (List.getElem?_eq_some_iff.mp hd).1
  have at_b : ((S.set b c0).set p (.lst ys)) b = some c0 := by rw [SS.set_ne apart, SS.set_same]
  refine denTg_mono (fun δ2 S2 q => ?_) (hs p ys.length ys d _ c0 (fun y S4 => ∃ acc, S4 p = some (.lst acc) ∧ acc.length < sizeLine ∧ ∃ ys' c', ys'.length = ys.length + 1 ∧ (∀ y ∈ ys', P y) ∧ BagOk c' ∧ S4.set p (.lst (acc ++ [y])) = (S.set b c').set p (.lst ys')) hd at_b hc0 fun y c1 hy hc1 => ?_)
  ·refine c_nn ?_
   rw [if_pos rfl]
   exact q
  ·have e : ((S.set b c0).set p (.lst ys)).set b c1 = (S.set b c1).set p (.lst ys) := by rw [SS.set_comm (Ne.symm apart), SS.set_set]
   rw [e]
   refine ⟨ys, SS.set_same, by omega, ys ++ [y], c1, by simp, fun w hw => ?_, hc1, by rw [SS.set_set]⟩
   rcases List.mem_append.mp hw with hw | hw
   ·exact hP w hw
   ·cases List.mem_singleton.mp hw; exact hy
 ·rintro S' ⟨ys, c', hlen, hP, hc', rfl⟩
  refine ⟨ys, SS.set_same, ?_⟩
  rw [if_neg Bool.false_ne_true, SS.del_set (by rw [SS.set_ne (Ne.symm apart)]; exact hp)]
  exact hl ys c' hlen hP hc'
def letD (y : D) : Prop := ∃ ch, y = .str ⟨#[ch]⟩ ∧ 97 ≤ ch ∧ ch ≤ 122
theorem lets_of : ∀ (ys : List D), (∀ y ∈ ys, letD y) → ∃ cs : List Nat, ys = (cs.map fun ch => (⟨#[ch]⟩ : Str)).map D.str ∧ cs.length = ys.length ∧ ∀ ch ∈ cs, 97 ≤ ch ∧ ch ≤ 122
 | [], _ => ⟨[], rfl, rfl, fun _ z => nomatch z⟩
 | y :: ys, h => by
  obtain ⟨cs, rfl, hl, hc⟩ := lets_of ys fun w hw => h w (List.mem_cons_of_mem _ hw)
  obtain ⟨ch, rfl, h1⟩ := h _ List.mem_cons_self
  refine ⟨ch :: cs, rfl, by simp, fun w hw => ?_⟩
  rcases List.mem_cons.mp hw with rfl | hw
  ·exact h1
  ·exact hc w hw
theorem joinL_one : ∀ cs : List Nat, TL.joinL [] (cs.map fun ch => [ch]) = cs
 | [] => rfl
 | [_] => rfl
 | a :: b :: r => by
  have ih := joinL_one (b :: r)
  rw [List.map_cons] at ih
  rw [List.map_cons, List.map_cons]
  show [a] ++ ([] ++ TL.joinL [] ([b] :: r.map fun ch => [ch])) = a :: b :: r
  rw [ih]
  rfl
theorem join_lets (cs : List Nat) : Txt.join "" (cs.map fun ch => (⟨#[ch]⟩ : Str)) = ⟨cs.toArray⟩ := by
 have h := SX.join_S [] (cs.map fun ch => [ch])
 rw [List.map_map, joinL_one] at h
 exact h
theorem word_at {u : Int} (h0 : 0 ≤ u) (h1 : u < 12) : ∃ z, atI [D.str "open", D.str "shut", D.str "by", D.str "step", D.str "none", D.str "paper", D.str "at", D.str "done", D.str "a", D.str "aa", D.str "ab", D.str "b"] u = some (.str z) ∧ Nm z := by
 have key : ∀ k : Fin 12, Nm ((["open", "shut", "by", "step", "none", "paper", "at", "done", "a", "aa", "ab", "b"] : List Str)[k.1]'k.2) := by decide +kernel
 obtain ⟨k, rfl⟩ := Int.eq_ofNat_of_zero_le h0
 have hk : k < 12 := by omega
 refine ⟨_, ?_, key ⟨k, hk⟩⟩
 exact atI_map (f := D.str) (l := ["open", "shut", "by", "step", "none", "paper", "at", "done", "a", "aa", "ab", "b"]) (List.getElem?_eq_getElem (show k < 12 from hk))
theorem lens_at {v : Int} (h0 : 0 ≤ v) (h1 : v < 4) (h2 : ¬ v = 0) : ∃ n, atI [D.int 2, D.int 8, D.int 1] (v - 1) = some (.int n) ∧ 0 < n ∧ n ≤ 8 := by
 obtain rfl | rfl | rfl : v = 1 ∨ v = 2 ∨ v = 3 := by omega
 ·exact ⟨2, rfl, by decide, by decide⟩
 ·exact ⟨8, rfl, by decide, by decide⟩
 ·exact ⟨1, rfl, by decide, by decide⟩
theorem let_at {u : Int} (h0 : 0 ≤ u) (h1 : u < 26) : ∃ ch, atI ("abcdefghijklmnopqrstuvwxyz" : Str).cps.toList u = some ch ∧ 97 ≤ ch ∧ ch ≤ 122 := by
 have key : ∀ k : Fin 26, 97 ≤ (("abcdefghijklmnopqrstuvwxyz" : Str).cps.toList)[k.1]'(by have := k.2; exact Nat.lt_of_lt_of_eq this (by decide +kernel)) ∧ (("abcdefghijklmnopqrstuvwxyz" : Str).cps.toList)[k.1]'(by have := k.2; exact Nat.lt_of_lt_of_eq this (by decide +kernel)) ≤ 122 := by decide +kernel
 obtain ⟨k, rfl⟩ := Int.eq_ofNat_of_zero_le h0
 have hk : k < 26 := by omega
 exact ⟨_, atI_nat (List.getElem?_eq_getElem (Nat.lt_of_lt_of_eq hk (by decide +kernel))), key ⟨k, hk⟩⟩
theorem me17 (c : SaysX fa fn fx K) : Meets ((tb K).sn N17) ((tb K).G K 17) 1 false TName b17 := by
 refine Qt.put_in ?_
 simp (disch :=
 with_unfolding_all
 refine Qt.keep ?_
 rintro m hm ds S KK Y ⟨rfl, b, c0, rfl, hb, hc, hK⟩
 refine ⟨rfl, ?_⟩
 show denSs _ b17 [some _, none, none, none, none] _ _ _
 unfold b17
 walk_at "st"
 refine d_call (T := TTake) rfl ?_
 walk_at "st"
 refine ⟨rfl, b, 4, c0, rfl, by decide, by decide, hb, hc, fun v c1 h0 h1 hc1 => ?_⟩
 walk_at "st"
 by_cases hv : v = 0
 ·rw [if_pos (by simpa using hv)]
  walk_at "st"
  refine d_call (T := TTake) rfl ?_
  walk_at "st"
  refine ⟨rfl, b, 12, c1, rfl, by decide, by decide, SS.set_same, hc1, fun u c2 u0 u1 hc2 => ?_⟩
  rw [SS.set_set]
  obtain ⟨z, ez, nz⟩ := word_at u0 u1
  exact ix_l ez (hK z c2 nz hc2)
 ·rw [if_neg (by simpa using hv)]
  walk_at "st"
  refine d_call (T := TTake) rfl ?_
  walk_at "st"
  obtain ⟨n, en, n0, n8⟩ := lens_at h0 h1 hv
  refine ix_l en ?_
  walk_at "st"
  refine ⟨rfl, b, n, c1, rfl, n0, lg n0 (by omega), SS.set_same, hc1, fun k c2 k0 k1 hc2 => ?_⟩
  rw [SS.set_set]
  walk_at "st"
  have bd := bnd (j := 1 + k) (by omega) (by omega)
  refine ⟨bd.1, bd.2, ?_⟩
  refine lc_bag (P := letD) SS.set_same hc2 (by rw [rngD_len, sizeLine_eq]; omega) (fun _ => trivial) (fun p i acc d S0 c3 K1 hd hb0 hc3 hk => ?_) fun ys c4 hlen hP hc4 => ?_
  ·refine tg_1 ?_
   walk_at "st"
   refine d_call (T := TTake) rfl ?_
   walk_at "st"
   refine ⟨rfl, b, 26, c3, rfl, by decide, by decide, hb0, hc3, fun u c5 u0 u1 hc5 => ?_⟩
   obtain ⟨ch, ech, hch⟩ := let_at u0 u1
   exact ix_s (by decide +kernel) ech (hk _ c5 ⟨ch, rfl, hch⟩ hc5)
  ·rw [SS.set_set]
   obtain ⟨cs, rfl, hl, hcs⟩ := lets_of ys hP
   rw [rngD_len, ← hl] at hlen
   walk_at "st"
   refine join_l ?_ ?_
   ·have e : ∀ cs : List Nat, ((cs.map fun ch => (⟨#[ch]⟩ : Str)).map (·.length)).sum = cs.length := by
     intro cs
     induction cs with
     | nil => rfl
     | cons a r ih => rw [List.map_cons, List.map_cons, List.sum_cons, ih, List.length_cons]; show 1 + _ = _; omega
    rw [e]
    have : ("" : Str).length = 0 := rfl
    rw [this]
    omega
   ·rw [join_lets]
    refine hK _ c4 ⟨?_, ?_, ?_⟩ hc4
    ·show cs.toArray.toList.length ≤ 8
     rw [List.toList_toArray]; omega
    ·show 1 ≤ cs.toArray.toList.length
     rw [List.toList_toArray]; omega
    ·show ∀ c ∈ cs.toArray.toList, _
     rw [List.toList_toArray]; exact hcs
 ) only [↓Qt.put_off]
def nmD (y : D) : Prop := ∃ z, y = .str z ∧ Nm z
theorem nms_of : ∀ (ys : List D), (∀ y ∈ ys, nmD y) → ∃ zs : List Str, ys = zs.map D.str ∧ ∀ z ∈ zs, Nm z
 | [], _ => ⟨[], rfl, fun _ z => nomatch z⟩
 | y :: ys, h => by
  obtain ⟨zs, rfl, hc⟩ := nms_of ys fun w hw => h w (List.mem_cons_of_mem _ hw)
  obtain ⟨z, rfl, h1⟩ := h _ List.mem_cons_self
  refine ⟨z :: zs, rfl, fun w hw => ?_⟩
  rcases List.mem_cons.mp hw with rfl | hw
  ·exact h1
  ·exact hc w hw
def sndD : D → D
 | .tup [_, x] => x
 | d => d
def newD (zs : List Str) : D → Bool
 | .tup [.int i, .str z] => !decide (z ∈ zs.take i.toNat)
 | _ => true
theorem once (zs : List Str) : ∃ ws : List Str, (((enumD (zs.map D.str)).filter (newD zs)).map sndD) = ws.map D.str ∧ ws.length ≤ zs.length ∧ (zs ≠ [] → ws ≠ []) ∧ ∀ w ∈ ws, w ∈ zs := by
 have e : enumD (zs.map D.str) = zs.zipIdx.map fun p => D.tup [.int (p.2 : Nat), .str p.1] := by
  unfold enumD
  rw [List.zipIdx_map, List.map_map]
  rfl
 refine ⟨(zs.zipIdx.filter fun p => !decide (p.1 ∈ zs.take p.2)).map (·.1), ?_, ?_, ?_, ?_⟩
 ·rw [e, List.filter_map, List.map_map, List.map_map]
  rfl
 ·rw [List.length_map]
  have := List.length_filter_le (fun p : Str × Nat => !decide (p.1 ∈ zs.take p.2)) zs.zipIdx
  rw [List.length_zipIdx] at this
  exact this
 ·intro h
  cases zs with
  | nil => exact absurd rfl h
  | cons z r =>
   rw [List.zipIdx_cons, List.filter_cons]
   simp
 ·intro w hw
  obtain ⟨p, hp, rfl⟩ := List.mem_map.mp hw
  have := (List.mem_filter.mp hp).1
  exact List.fst_mem_of_mem_zipIdx this
theorem me32 (c : SaysX fa fn fx K) : Meets ((tb K).sn N32) ((tb K).G K 32) 2 false TNames b32 := by
 refine Qt.put_in ?_
 simp (disch :=
 with_unfolding_all
 refine Qt.keep ?_
 rintro m hm ds S KK Y ⟨rfl, b, c0, n, rfl, n1, n2, hb, hc, hK⟩
 refine ⟨rfl, ?_⟩
 show denSs _ b32 [some _, some _, none, none, none] _ _ _
 unfold b32
 walk_at "st"
 have bd := bnd (j := n) (by omega) (by omega)
 refine ⟨bd.1, bd.2, ?_⟩
 refine lc_bag (P := nmD) hb hc (by rw [rngD_len, sizeLine_eq]; omega) (fun _ => trivial) (fun p i acc d S0 c3 K1 hd hb0 hc3 hk => ?_) fun ys c4 hlen hP hc4 => ?_
 ·refine tg_1 ?_
  walk_at "st"
  refine d_call (T := TName) rfl ?_
  walk_at "st"
  exact ⟨rfl, b, c3, rfl, hb0, hc3, fun z c5 hz hc5 => hk _ c5 ⟨z, rfl, hz⟩ hc5⟩
 ·obtain ⟨zs, rfl, hzs⟩ := nms_of ys hP
  rw [rngD_len, List.length_map] at hlen
  walk_at "st"
  refine ⟨_, rfl, ?_⟩
  obtain ⟨ws, ew, lw, nw, mw⟩ := once zs
  refine lc_fm sndD (newD zs) (by rw [enumD_len, List.length_map, sizeLine_eq]; omega) (fun _ _ _ => rfl) (fun p i acc d K1 KN hd hp hk hn => ?_) ?_
  ·obtain ⟨e0, he, rfl⟩ := enumD_at hd
   rw [List.getElem?_map, Option.map_eq_some_iff] at he
   obtain ⟨z, hz, rfl⟩ := he
   refine ⟨_, rfl, rfl, ?_⟩
   refine c_ss ?_
   show denT _ _ [some _, some _, some _, some _, some _] _ _ _
   walk_at "st"
   rw [cut_take, ← List.map_take]
   refine nin_l (hzs z (List.mem_of_getElem? hz)).fine (fun w hw => (hzs w (List.mem_of_mem_take hw)).fine) ?_
   walk_at "st"
   by_cases hin : z ∈ zs.take i
   ·rw [if_neg (by simpa using hin)]
    exact hn (by show (!decide (z ∈ zs.take (Int.toNat (i : Int)))) = false; simpa using hin)
   ·rw [if_pos (by simpa using hin)]
    walk_at "st"
    exact hk (by show (!decide (z ∈ zs.take (Int.toNat (i : Int)))) = true; simpa using hin)
  ·rw [ew]
   have : zs ≠ [] := fun z => by rw [z] at hlen; simp at hlen; omega
   exact hK ws c4 (nw this) (by omega) (fun w hw => hzs w (mw w hw)) hc4
 ) only [↓Qt.put_off]
theorem me27 (c : SaysX fa fn fx K) : Meets ((tb K).sn N27) ((tb K).G K 27) 1 false TCost b27 := by
 refine Qt.put_in ?_
 simp (disch :=
 with_unfolding_all
 refine Qt.keep ?_
 rintro m hm ds S KK Y ⟨rfl, b, c0, rfl, hb, hc, hK⟩
 refine ⟨rfl, ?_⟩
 show denSs _ b27 [some _, none] _ _ _
 unfold b27
 walk_at "st"
 refine d_call (T := TTake) rfl ?_
 walk_at "st"
 refine ⟨rfl, b, 4, c0, rfl, by decide, by decide, hb, hc, fun v c1 h0 h1 hc1 => ?_⟩
 walk_at "st"
 by_cases hv : v = 3
 ·rw [if_pos (by simpa using hv)]
  walk_at "st"
  refine d_call (T := TTake) rfl ?_
  walk_at "st"
  refine ⟨rfl, b, 100, c1, rfl, by decide, by decide, SS.set_same, hc1, fun u c2 u0 u1 hc2 => ?_⟩
  rw [SS.set_set]
  exact hK u c2 u0 (by omega) hc2
 ·rw [if_neg (by simpa using hv)]
  walk_at "st"
  refine d_call (T := TTake) rfl ?_
  walk_at "st"
  refine ⟨rfl, b, 3, c1, rfl, by decide, by decide, SS.set_same, hc1, fun u c2 u0 u1 hc2 => ?_⟩
  rw [SS.set_set]
  walk_at "st"
  obtain rfl | rfl | rfl : v = 0 ∨ v = 1 ∨ v = 2 := by omega
  ·exact ix_l (d := .int 0) rfl (hK 0 c2 (by decide) (by decide) hc2)
  ·exact ix_l (d := .int 99) rfl (hK 99 c2 (by decide) (by decide) hc2)
  ·exact ix_l (d := .int (1 + u)) rfl (hK (1 + u) c2 (by omega) (by omega) hc2)
 ) only [↓Qt.put_off]
theorem pool_at {zs : List Str} {u : Int} (h : ∀ z ∈ zs, Nm z) (h0 : 0 ≤ u) (h1 : u < ((zs.map D.str).length : Int)) : ∃ z, atI (zs.map D.str) u = some (.str z) ∧ z ∈ zs ∧ Nm z := by
 obtain ⟨k, rfl⟩ := Int.eq_ofNat_of_zero_le h0
 rw [List.length_map] at h1
 have hk : k < zs.length := by omega
 exact ⟨zs[k], atI_map (List.getElem?_eq_getElem hk), List.getElem_mem hk, h _ (List.getElem_mem hk)⟩
theorem pool_n {zs : List Str} (h : Pool zs) : (0 : Int) < ((zs.map D.str).length : Int) ∧ ((zs.map D.str).length : Int) ≤ 1000000 := by
 rw [List.length_map]
 have := List.length_pos_iff.mpr h.1
 have := h.2.1
 omega
theorem filt {zs : List Str} {o : Str} : ((zs.map D.str).filter fun d => !D.eqv d (.str o)).map id = (zs.filter fun z => !decide (z = o)).map D.str := by
 rw [List.map_id, List.filter_map]
 exact congrArg (List.map D.str) (List.filter_congr fun z _ => by show (!D.eqv (.str z) (.str o)) = _; rw [eqvS])
theorem me35 (c : SaysX fa fn fx K) : Meets ((tb K).sn N35) ((tb K).G K 35) 3 false TAddL b35 := by
 refine Qt.put_in ?_
 simp (disch :=
 with_unfolding_all
 refine Qt.keep ?_
 rintro m hm ds S KK Y ⟨rfl, b, c0, rs, vs, rfl, hr, hv, hb, hc, hK⟩
 refine ⟨rfl, ?_⟩
 show denSs _ b35 [some _, some _, some _, none, none, none, none] _ _ _
 unfold b35
 have nr := pool_n hr
 have nv := pool_n hv
 walk_at "st"
 refine d_call (T := TTake) rfl ?_
 walk_at "st"
 refine ⟨rfl, b, _, c0, rfl, nv.1, lg nv.1 nv.2, hb, hc, fun u c1 u0 u1 hc1 => ?_⟩
 obtain ⟨l, el, _, hl⟩ := pool_at hv.2.2 u0 u1
 refine ix_l el ?_
 walk_at "st"
 refine d_call (T := TTake) rfl ?_
 walk_at "st"
 refine ⟨rfl, b, _, c1, rfl, nr.1, lg nr.1 nr.2, SS.set_same, hc1, fun u c2 u0 u1 hc2 => ?_⟩
 rw [SS.set_set]
 obtain ⟨o, eo, _, ho⟩ := pool_at hr.2.2 u0 u1
 refine ix_l eo ?_
 walk_at "st"
 refine ⟨_, rfl, ?_⟩
 refine lc_fm id (fun d => !D.eqv d (.str o)) (by rw [List.length_map, sizeLine_eq]; have := hr.2.1; omega) (fun _ _ _ => rfl) (fun p i acc d K1 KN hd hp hk hn => ?_) ?_
 ·rw [List.getElem?_map, Option.map_eq_some_iff] at hd
  obtain ⟨z, hz, rfl⟩ := hd
  refine tg_1 (c_ss ?_)
  walk_at "st"
  rw [eqvS] at hk hn
  by_cases e : z = o
  ·rw [if_neg (by simpa using e)]
   exact hn (by simpa using e)
  ·rw [if_pos (by simpa using e)]
   walk_at "st"
   exact hk (by simpa using e)
 ·rw [filt]
  have hf : ∀ z ∈ rs.filter fun z => !decide (z = o), Nm z ∧ z ≠ o := fun z hz => ⟨hr.2.2 z (List.mem_filter.mp hz).1, by simpa using (List.mem_filter.mp hz).2⟩
  walk_at "st"
  refine c_eqE (fun w hw => (hf w hw).1.fine) ?_
  walk_at "st"
  by_cases e : (rs.filter fun z => !decide (z = o)) = []
  ·rw [if_pos (by rw [e]; rfl)]
   walk_at "st"
   exact hK (.room o) c2 ho hc2
  ·rw [if_neg (by simpa using e)]
   have nn : (0 : Int) < (((rs.filter fun z => !decide (z = o)).map D.str).length : Int) ∧ (((rs.filter fun z => !decide (z = o)).map D.str).length : Int) ≤ 1000000 := by
    rw [List.length_map]
    have := List.length_pos_iff.mpr e
    have := List.length_filter_le (fun z => !decide (z = o)) rs
    have := hr.2.1
    omega
   walk_at "st"
   refine d_call (T := TTake) rfl ?_
   walk_at "st"
   refine ⟨rfl, b, _, c2, rfl, nn.1, lg nn.1 nn.2, SS.set_same, hc2, fun u c3 u0 u1 hc3 => ?_⟩
   rw [SS.set_set]
   obtain ⟨w, ew, mw, hw⟩ := pool_at (fun z hz => (hf z hz).1) u0 u1
   refine ix_l ew ?_
   walk_at "st"
   refine d_call (T := TCost) rfl ?_
   walk_at "st"
   refine ⟨rfl, b, c3, rfl, SS.set_same, hc3, fun k c4 k0 k1 hc4 => ?_⟩
   rw [SS.set_set]
   walk_at "st"
   exact hK (.line l o w k) c4 ⟨hl, ho, hw, (hf w mw).2, k0, k1⟩ hc4
 ) only [↓Qt.put_off]
theorem me40 (c : SaysX fa fn fx K) : Meets ((tb K).sn N40) ((tb K).G K 40) 4 false TDeed b40 := by
  refine Qt.put_in ?_
  simp (disch :=
  with_unfolding_all
  refine Qt.keep ?_
  rintro m hm ds S KK Y ⟨rfl, b, c0, rs, vs, ws, rfl, hr, hv, wne, wlen, hw, hb, hc, hK⟩
  refine ⟨rfl, ?_⟩
  show denSs _ b40 [some _, some _, some _, some _, none] _ _ _
  unfold b40
  have nr := pool_n hr
  have nv := pool_n hv
  have nw : (0 : Int) < ((ws.map D.str).length : Int) ∧ ((ws.map D.str).length : Int) ≤ 1000000 := by
    rw [List.length_map]
    have := List.length_pos_iff.mpr wne
    omega
  walk_at "st"
  refine d_call (T := TTake) rfl ?_
  walk_at "st"
  refine ⟨rfl, b, _, c0, rfl, nw.1, lg nw.1 nw.2, hb, hc, fun u c1 u0 u1 hc1 => ?_⟩
  have roomK : ∀ (w : Str), (w = "add_room" ∨ w = "add_source" ∨ w = "take_room" ∨ w = "take_source") → ∀ z c2, Nm z → BagOk c2 → KK (.tup [.str w, .str z]) (S.set b c2) := by
    rintro w (rfl | rfl | rfl | rfl) z c2 hz hc2
    · exact hK (.room z) c2 hz hc2
    · exact hK (.source z) c2 hz hc2
    · exact hK (.takeR z) c2 hz hc2
    · exact hK (.takeS z) c2 hz hc2
  have devK : ∀ (w : Str), (w = "take_line" ∨ w = "take_drain") → ∀ z c2, Nm z → BagOk c2 → KK (.tup [.str w, .str z]) (S.set b c2) := by
    rintro w (rfl | rfl) z c2 hz hc2
    · exact hK (.takeL z) c2 hz hc2
    · exact hK (.takeD z) c2 hz hc2
  obtain ⟨k, rfl⟩ := Int.eq_ofNat_of_zero_le u0
  rw [List.length_map] at u1
  have hk : k < ws.length := by omega
  refine ix_l (atI_map (List.getElem?_eq_getElem hk)) ?_
  have hwk := hw _ (List.getElem_mem hk)
  generalize ws[k] = w at hwk ⊢
  simp only [WORDS, List.mem_cons, List.not_mem_nil, or_false] at hwk
  rcases hwk with rfl | rfl | rfl | rfl | rfl | rfl | rfl | rfl
  all_goals
    walk_at "st"
    walk_at "ifs"
  all_goals first
    | (refine d_call (T := TAddL) rfl ?_
       walk_at "st"
       exact ⟨rfl, b, c1, rs, vs, rfl, hr, hv, SS.set_same, hc1, fun w c2 hw hc2 => by rw [SS.set_set]; exact hK w c2 hw hc2⟩)
    | skip
  all_goals
    refine in_t (zs := ["add_room", "take_room", "add_source", "take_source"]) ?_
    walk_at "st"
    walk_at "ifs"
  all_goals first
    | (refine d_call (T := TTake) rfl ?_
       walk_at "st"
       refine ⟨rfl, b, _, c1, rfl, nr.1, lg nr.1 nr.2, SS.set_same, hc1, fun u c2 u0 u1 hc2 => ?_⟩
       rw [SS.set_set]
       obtain ⟨o, eo, _, ho⟩ := pool_at hr.2.2 u0 u1
       refine ix_l eo ?_
       walk_at "st"
       exact roomK _ (by simp) o c2 ho hc2)
    | (refine d_call (T := TTake) rfl ?_
       walk_at "st"
       refine ⟨rfl, b, _, c1, rfl, nv.1, lg nv.1 nv.2, SS.set_same, hc1, fun u c2 u0 u1 hc2 => ?_⟩
       rw [SS.set_set]
       obtain ⟨l, el, _, hl⟩ := pool_at hv.2.2 u0 u1
       refine ix_l el ?_
       walk_at "st"
       first
         | exact devK _ (by simp) l c2 hl hc2
         | (refine d_call (T := TTake) rfl ?_
            walk_at "st"
            refine ⟨rfl, b, _, c2, rfl, nr.1, lg nr.1 nr.2, SS.set_same, hc2, fun u c3 u0 u1 hc3 => ?_⟩
            rw [SS.set_set]
            obtain ⟨o, eo, _, ho⟩ := pool_at hr.2.2 u0 u1
            refine ix_l eo ?_
            walk_at "st"
            exact hK (.drain l o) c3 ⟨hl, ho⟩ hc3))
  ) only [↓Qt.put_off]
end Cl
namespace Cl
open PySem PySem.Spec PyProof.Rows L2 Sv
variable {K : PySem.W.Frag}
theorem val_nms {α : Type} {f : α → D} {l : List (Str × α)} {z : Str} : (valD (mapK f l) (.inr z)).isSome = decide (z ∈ nms l) := mapK_some
theorem keys_nms {α : Type} {f : α → D} {l : List (Str × α)} : (mapK f l).map (·.1) = (nms l).map Sum.inr := mapK_keys
theorem few_line {n : Nat} (h : n ≤ 1000) : n < sizeLine := by rw [sizeLine_eq]; omega
theorem isi_int {G : Gm} {S : SS} {i : Int} {Q : Bool → Prop} (k : Q true) : ∃ t b, tyD S (.int i) = some t ∧ tyOk G S (.int i) ∧ PySem.W.kitOne G.K t ((Cn.ty "int").val G) = some b ∧ Q b := isi_v rfl trivial rfl k
theorem isi_intb {G : Gm} {S : SS} {i : Int} {Q : Bool → Prop} (k : Q false) : ∃ t b, tyD S (.int i) = some t ∧ tyOk G S (.int i) ∧ PySem.W.kitOne G.K t ((Cn.ty "bool").val G) = some b ∧ Q b := isi_v rfl trivial rfl k
theorem isi_str {G : Gm} {S : SS} {z : Str} {Q : Bool → Prop} (k : Q true) : ∃ t b, tyD S (.str z) = some t ∧ tyOk G S (.str z) ∧ PySem.W.kitOne G.K t ((Cn.ty "str").val G) = some b ∧ Q b := isi_v rfl trivial rfl k
theorem me7 (c : SaysX fa fn fx K) : Meets ((tb K).sn N7) ((tb K).G K 7) 1 false TIsWhole b7 := by
 refine Qt.put_in ?_
 simp (disch :=
 with_unfolding_all
 refine Qt.keep ?_
 rintro m hm ds S KK Y ⟨rfl, i, rfl, hK⟩
 refine ⟨rfl, ?_⟩
 show denSs _ b7 [some _] _ _ _
 unfold b7
 walk_at "st"
 refine isi_int ?_
 walk_at "st"
 rw [if_pos rfl]
 walk_at "st"
 refine isi_intb ?_
 walk_at "st"
 exact hK
 ) only [↓Qt.put_off]
theorem me20 (c : SaysX fa fn fx K) : Meets ((tb K).sn N20) ((tb K).G K 20) 1 false TIsCost b20 := by
 refine Qt.put_in ?_
 simp (disch :=
 with_unfolding_all
 refine Qt.keep ?_
 rintro m hm ds S KK Y ⟨rfl, i, rfl, h0, h1, hK⟩
 refine ⟨rfl, ?_⟩
 show denSs _ b20 [some _] _ _ _
 unfold b20
 walk_at "st"
 refine d_call (T := TIsWhole) rfl ?_
 walk_at "st"
 refine ⟨rfl, i, rfl, ?_⟩
 walk_at "st"
 rw [if_pos rfl]
 walk_at "st"
 rw [if_pos (decide_eq_true h0)]
 walk_at "st"
 rw [decide_eq_true h1]
 exact hK
 ) only [↓Qt.put_off]
theorem me5 (c : SaysX fa fn fx K) : Meets ((tb K).sn N5) ((tb K).G K 5) 2 false TWrong b5 := by
 rintro m hm ds S KK Y ⟨rfl, x, rfl, hK⟩
 refine ⟨rfl, ?_⟩
 show denSs _ b5 [some _, some _] _ _ _
 unfold b5
 walk_at "st"
 rw [if_neg (by decide)]
 walk_at "st"
 exact hK
theorem me9 (c : SaysX fa fn fx K) : Meets ((tb K).sn N9) ((tb K).G K 9) 2 false (TLacks K) b9 := by
 refine Qt.put_in ?_
 simp (disch :=
 with_unfolding_all
 refine Qt.keep ?_
 rintro m hm ds S KK Y ⟨rfl, z, p, α, f, l, rfl, at_p, h1, h2⟩
 refine ⟨rfl, ?_⟩
 show denSs _ b9 [some _, some _] _ _ _
 unfold b9
 walk_at "st"
 refine nin_k at_p rfl ?_
 rw [val_nms]
 walk_at "st"
 by_cases h : z ∈ nms l
 ·rw [if_neg (by simpa using h)]
  walk_at "st"
  exact h1 h
 ·rw [if_pos (by simpa using h)]
  walk_at "st"
  exact st_rai rfl rfl rfl (by walk_at "st"; exact ⟨_, rfl, h2 h⟩)
 ) only [↓Qt.put_off]
theorem sign_at {z : Str} {i : Nat} {d : D} (hz : Nm z) (h : (signsD z)[i]? = some d) : ∃ c, d = .str ⟨#[c]⟩ ∧ 97 ≤ c ∧ c ≤ 122 := by
 unfold signsD at h
 rw [List.getElem?_map, Option.map_eq_some_iff] at h
 obtain ⟨c, hc, rfl⟩ := h
 exact ⟨c, rfl, hz.2.2 c (List.mem_of_getElem? hc)⟩
theorem letter {c : Nat} (h : 97 ≤ c ∧ c ≤ 122) : c ∈ ("abcdefghijklmnopqrstuvwxyz" : Str).cps.toList := by
 have key : ∀ k : Fin 26, 97 + k.1 ∈ ("abcdefghijklmnopqrstuvwxyz" : Str).cps.toList := by decide +kernel
 have := key ⟨c - 97, by omega⟩
 rwa [show 97 + (c - 97) = c by omega] at this
theorem me6 (c : SaysX fa fn fx K) : Meets ((tb K).sn N6) ((tb K).G K 6) 1 false TIsName b6 := by
 refine Qt.put_in ?_
 simp (disch :=
 with_unfolding_all
 refine Qt.keep ?_
 rintro m hm ds S KK Y ⟨rfl, z, rfl, hz, hK⟩
 refine ⟨rfl, ?_⟩
 show denSs _ b6 [some _, none] _ _ _
 unfold b6
 have hl := hz.len
 walk_at "st"
 refine isi_str ?_
 walk_at "st"
 rw [if_neg (by decide)]
 walk_at "st"
 refine len_s (by rw [sizeLine_eq]; omega) ?_
 walk_at "st"
 rw [if_pos (by simp; omega)]
 walk_at "st"
 rw [if_neg (by simp; omega)]
 walk_at "st"
 refine ⟨fun i δ' S' => ∃ x, S' = S ∧ δ' = [some (.str z), x], ⟨none, rfl, rfl⟩, fun _ _ _ _ _ => trivial, ?_, ?_⟩
 ·rintro i d δ' S' hd ⟨x, rfl, rfl⟩
  obtain ⟨ch, rfl, hch⟩ := sign_at hz hd
  refine tg_1 ?_
  walk_at "st"
  rw [if_neg (by simpa using letter hch)]
  walk_at "st"
  exact ⟨_, rfl, rfl⟩
 ·rintro δ' S' ⟨x, rfl, rfl⟩
  walk_at "st"
  exact hK
 ) only [↓Qt.put_off]
/-! ### the layout's own -/
theorem me8 (c : SaysX fa fn fx K) : Meets ((tb K).sn N8) ((tb K).G K 8) 2 false (TNeed K) b8 := by
 refine Qt.put_in ?_
 simp (disch :=
 with_unfolding_all
 refine Qt.keep ?_
 rintro m hm ds S KK Y ⟨rfl, L, a, b, c', d, st, z, rfl, lay, h1, h2⟩
 refine ⟨rfl, ?_⟩
 show denSs _ b8 [some _, some _] _ _ _
 unfold b8
 walk_at "st"
 refine fld_o lay.L (cls_Layout c) (na_ends_of c) rfl ?_
 refine in_k lay.b rfl ?_
 rw [val_nms]
 walk_at "st"
 by_cases h : z ∈ nms st.lines
 ·rw [if_pos (by simpa using h)]
  walk_at "st"
  rw [if_pos rfl]
  walk_at "st"
  exact st_rai rfl rfl rfl (by walk_at "st"; exact ⟨_, rfl, h1 (.inl h)⟩)
 ·rw [if_neg (by simpa using h)]
  walk_at "st"
  refine fld_o lay.L (cls_Layout c) (na_seat_of c) rfl ?_
  refine in_k lay.c rfl ?_
  rw [val_nms]
  walk_at "st"
  by_cases h' : z ∈ nms st.drains
  ·rw [if_pos (by simpa using h')]
   walk_at "st"
   exact st_rai rfl rfl rfl (by walk_at "st"; exact ⟨_, rfl, h1 (.inr h')⟩)
  ·rw [if_neg (by simpa using h')]
   walk_at "st"
   exact h2 h h'
 ) only [↓Qt.put_off]
theorem me19 (c : SaysX fa fn fx K) : Meets ((tb K).sn N19) ((tb K).G K 19) 2 false (TAddRoom K) b19 := by
 refine Qt.put_in ?_
 simp (disch :=
 with_unfolding_all
 refine Qt.keep ?_
 rintro m hm ds S KK Y ⟨rfl, L, a, b, c', d, st, n, z, rfl, hz, lay, ok, ends⟩
 refine ⟨rfl, ?_⟩
 show denSs _ b19 [some _, some _] _ _ _
 unfold b19
 walk_at "st"
 refine d_call (T := TWrong) rfl ?_
 walk_at "st"
 refine d_call (T := TIsName) rfl ?_
 walk_at "st"
 refine ⟨rfl, z, rfl, hz, ?_⟩
 walk_at "st"
 refine ⟨rfl, _, rfl, ?_⟩
 walk_at "st"
 refine fld_o lay.L (cls_Layout c) (na_by_room c) rfl ?_
 refine in_k lay.a rfl ?_
 rw [val_nms]
 walk_at "st"
 simp only [due] at ends
 by_cases h : z ∈ nms st.rooms
 ·rw [if_pos h] at ends
  rw [if_pos (by simpa using h)]
  walk_at "st"
  exact st_rai rfl rfl rfl (by walk_at "st"; exact ⟨_, rfl, ends⟩)
 ·rw [if_neg h] at ends
  rw [if_neg (by simpa using h)]
  walk_at "st"
  refine fld_o lay.L (cls_Layout c) (na_by_room c) rfl ?_
  walk_at "st"
  refine len_k lay.a ?_
  rw [mapK_len]
  walk_at "st"
  have few := ok.r
  by_cases h' : st.rooms.length = 24
  ·rw [if_pos h'] at ends
   rw [if_pos (by simp; omega)]
   walk_at "st"
   exact st_rai rfl rfl rfl (by walk_at "st"; exact ⟨_, rfl, ends⟩)
  ·rw [if_neg h'] at ends
   rw [if_neg (by simp; omega)]
   walk_at "st"
   refine fld_o lay.L (cls_Layout c) (na_by_room c) rfl ?_
   walk_at "st"
   refine set_k lay.a rfl (by rw [mapK_len]; exact few_line (by omega)) ?_
   rw [show (D.bl true) = fU () from rfl, mapK_put h]
   walk_at "st"
   exact ends
 ) only [↓Qt.put_off]
theorem me22 (c : SaysX fa fn fx K) : Meets ((tb K).sn N22) ((tb K).G K 22) 2 false (TAddSource K) b22 := by
 refine Qt.put_in ?_
 simp (disch :=
 with_unfolding_all
 refine Qt.keep ?_
 rintro m hm ds S KK Y ⟨rfl, L, a, b, c', d, st, n, z, rfl, hz, lay, ok, hn, ends⟩
 refine ⟨rfl, ?_⟩
 show denSs _ b22 [some _, some _] _ _ _
 unfold b22
 walk_at "st"
 refine d_call (T := TWrong) rfl ?_
 walk_at "st"
 refine d_call (T := TIsName) rfl ?_
 walk_at "st"
 refine ⟨rfl, z, rfl, hz, ?_⟩
 walk_at "st"
 refine ⟨rfl, _, rfl, ?_⟩
 walk_at "st"
 refine d_call (T := TLacks K) rfl ?_
 walk_at "st"
 refine fld_o lay.L (cls_Layout c) (na_by_room c) rfl ?_
 walk_at "st"
 simp only [due] at ends
 refine ⟨rfl, z, a, Unit, fU, st.rooms, rfl, lay.a, fun h => ?_, fun h => ?_⟩
 ·rw [if_pos h] at ends
  walk_at "st"
  refine fld_o lay.L (cls_Layout c) (na_pushed c) rfl ?_
  refine in_k lay.d rfl ?_
  rw [val_nms]
  walk_at "st"
  by_cases h' : z ∈ nms st.pushed
  ·rw [if_pos h'] at ends
   rw [if_pos (by simpa using h')]
   walk_at "st"
   exact st_rai rfl rfl rfl (by walk_at "st"; exact ⟨_, rfl, ends⟩)
  ·rw [if_neg h'] at ends
   rw [if_neg (by simpa using h')]
   walk_at "st"
   refine fld_o lay.L (cls_Layout c) (na_pushed c) rfl ?_
   walk_at "st"
   refine set_k lay.d rfl (by rw [mapK_len]; have := ok.p; exact few_line (by omega)) ?_
   rw [show (D.bl true) = fU () from rfl, mapK_put h']
   walk_at "st"
   exact ends
 ·rw [if_neg h] at ends
  exact ends
 ) only [↓Qt.put_off]
theorem me21 (c : SaysX fa fn fx K) : Meets ((tb K).sn N21) ((tb K).G K 21) 3 false (TAddDrain K) b21 := by
 refine Qt.put_in ?_
 simp (disch :=
 with_unfolding_all
 refine Qt.keep ?_
 rintro m hm ds S KK Y ⟨rfl, L, a, b, c', d, st, n, z, r, rfl, hz, lay, ok, ends⟩
 refine ⟨rfl, ?_⟩
 show denSs _ b21 [some _, some _, some _] _ _ _
 unfold b21
 walk_at "st"
 refine d_call (T := TWrong) rfl ?_
 walk_at "st"
 refine d_call (T := TIsName) rfl ?_
 walk_at "st"
 refine ⟨rfl, z, rfl, hz.1, ?_⟩
 walk_at "st"
 refine ⟨rfl, _, rfl, ?_⟩
 walk_at "st"
 refine d_call (T := TWrong) rfl ?_
 walk_at "st"
 refine d_call (T := TIsName) rfl ?_
 walk_at "st"
 refine ⟨rfl, r, rfl, hz.2, ?_⟩
 walk_at "st"
 refine ⟨rfl, _, rfl, ?_⟩
 walk_at "st"
 refine d_om (T := TNeed K) rfl ?_
 walk_at "st"
 refine om_o lay.L rfl ?_
 walk_at "st"
 simp only [due] at ends
 refine ⟨rfl, L, a, b, c', d, st, z, rfl, lay, fun h => ?_, fun h h' => ?_⟩
 ·rw [if_pos h] at ends
  exact ends
 ·rw [if_neg (fun z => z.elim h h')] at ends
  walk_at "st"
  refine d_call (T := TLacks K) rfl ?_
  walk_at "st"
  refine fld_o lay.L (cls_Layout c) (na_by_room c) rfl ?_
  walk_at "st"
  refine ⟨rfl, r, a, Unit, fU, st.rooms, rfl, lay.a, fun hr => ?_, fun hr => ?_⟩
  ·rw [show lackOf st [r] = none from by unfold lackOf lackOf; rw [if_pos hr]] at ends
   walk_at "st"
   refine fld_o lay.L (cls_Layout c) (na_seat_of c) rfl ?_
   walk_at "st"
   refine len_k lay.c ?_
   rw [mapK_len]
   walk_at "st"
   have few := ok.d
   by_cases h2 : st.drains.length = 12
   ·rw [if_pos h2] at ends
    rw [if_pos (by simp; omega)]
    walk_at "st"
    exact st_rai rfl rfl rfl (by walk_at "st"; exact ⟨_, rfl, ends⟩)
   ·rw [if_neg h2] at ends
    rw [if_neg (by simp; omega)]
    walk_at "st"
    refine fld_o lay.L (cls_Layout c) (na_seat_of c) rfl ?_
    walk_at "st"
    refine set_k lay.c rfl (by rw [mapK_len]; exact few_line (by omega)) ?_
    rw [show (D.str r) = fS r from rfl, mapK_put h']
    walk_at "st"
    exact ends
  ·rw [show lackOf st [r] = some (.lacks r) from by unfold lackOf; rw [if_neg hr]] at ends
   exact ends
 ) only [↓Qt.put_off]
theorem me33 (c : SaysX fa fn fx K) : Meets ((tb K).sn N33) ((tb K).G K 33) 5 false (TAddLine K) b33 := by
 refine Qt.put_in ?_
 simp (disch :=
 with_unfolding_all
 refine Qt.keep ?_
 rintro m hm ds S KK Y ⟨rfl, L, a, b, c', d, st, n, z, x, y, k, rfl, hz, lay, ok, ends⟩
 refine ⟨rfl, ?_⟩
 show denSs _ b33 [some _, some _, some _, some _, some _] _ _ _
 unfold b33
 walk_at "st"
 refine d_call (T := TWrong) rfl ?_
 walk_at "st"
 refine d_call (T := TIsName) rfl ?_
 walk_at "st"
 refine ⟨rfl, z, rfl, hz.1, ?_⟩
 walk_at "st"
 refine ⟨rfl, _, rfl, ?_⟩
 walk_at "st"
 refine d_call (T := TWrong) rfl ?_
 walk_at "st"
 refine d_call (T := TIsName) rfl ?_
 walk_at "st"
 refine ⟨rfl, x, rfl, hz.2.1, ?_⟩
 walk_at "st"
 refine ⟨rfl, _, rfl, ?_⟩
 walk_at "st"
 refine d_call (T := TWrong) rfl ?_
 walk_at "st"
 refine d_call (T := TIsName) rfl ?_
 walk_at "st"
 refine ⟨rfl, y, rfl, hz.2.2.1, ?_⟩
 walk_at "st"
 rw [if_pos rfl]
 walk_at "st"
 rw [show (!decide (y = x)) = true from by simpa using hz.2.2.2.1]
 refine ⟨rfl, _, rfl, ?_⟩
 walk_at "st"
 refine d_call (T := TWrong) rfl ?_
 walk_at "st"
 refine d_call (T := TIsCost) rfl ?_
 walk_at "st"
 refine ⟨rfl, k, rfl, hz.2.2.2.2.1, hz.2.2.2.2.2, ?_⟩
 walk_at "st"
 refine ⟨rfl, _, rfl, ?_⟩
 walk_at "st"
 refine d_om (T := TNeed K) rfl ?_
 walk_at "st"
 refine om_o lay.L rfl ?_
 walk_at "st"
 simp only [due] at ends
 refine ⟨rfl, L, a, b, c', d, st, z, rfl, lay, fun h => ?_, fun h h' => ?_⟩
 ·rw [if_pos h] at ends
  exact ends
 ·rw [if_neg (fun z => z.elim h h')] at ends
  walk_at "st"
  refine d_call (T := TLacks K) rfl ?_
  walk_at "st"
  refine fld_o lay.L (cls_Layout c) (na_by_room c) rfl ?_
  walk_at "st"
  refine ⟨rfl, x, a, Unit, fU, st.rooms, rfl, lay.a, fun hr => ?_, fun hr => ?_⟩
  ·walk_at "st"
   refine d_call (T := TLacks K) rfl ?_
   walk_at "st"
   refine fld_o lay.L (cls_Layout c) (na_by_room c) rfl ?_
   walk_at "st"
   refine ⟨rfl, y, a, Unit, fU, st.rooms, rfl, lay.a, fun hr2 => ?_, fun hr2 => ?_⟩
   ·rw [show lackOf st [x, y] = none from by unfold lackOf lackOf lackOf; rw [if_pos hr, if_pos hr2]] at ends
    walk_at "st"
    refine fld_o lay.L (cls_Layout c) (na_ends_of c) rfl ?_
    walk_at "st"
    refine len_k lay.b ?_
    rw [mapK_len]
    walk_at "st"
    have few := ok.l
    by_cases h2 : st.lines.length = 40
    ·rw [if_pos h2] at ends
     rw [if_pos (by simp; omega)]
     walk_at "st"
     exact st_rai rfl rfl rfl (by walk_at "st"; exact ⟨_, rfl, ends⟩)
    ·rw [if_neg h2] at ends
     rw [if_neg (by simp; omega)]
     walk_at "st"
     refine fld_o lay.L (cls_Layout c) (na_ends_of c) rfl ?_
     walk_at "st"
     refine set_k lay.b rfl (by rw [mapK_len]; exact few_line (by omega)) ?_
     rw [show (D.tup [.str x, .str y, .int k]) = fL (x, y, k) from rfl, mapK_put h]
     walk_at "st"
     exact ends
   ·rw [show lackOf st [x, y] = some (.lacks y) from by unfold lackOf lackOf; rw [if_pos hr, if_neg hr2]] at ends
    exact ends
  ·rw [show lackOf st [x, y] = some (.lacks x) from by unfold lackOf; rw [if_neg hr]] at ends
   exact ends
 ) only [↓Qt.put_off]
/-! ### the layout's own takings -/
theorem look_mem {α : Type} {l : List (Str × α)} {z : Str} (h : z ∈ nms l) : ∃ q, l.lookup z = some q := by
 have e : (l.lookup z).isSome = decide (z ∈ nms l) := lookup_some
 rw [decide_eq_true h] at e
 exact Option.isSome_iff_exists.mp e
theorem dpop_o {S : SS} {KK : DK} {p : Addr} {kvs : List (Key × D)} {k : D} {key : Key} {d : D} (h : S p = some (.dic kvs)) (hk : keyD k = some key) (e : valD kvs key = some d) (kk : KK d (S.set p (.dic (dropD kvs key)))) : Mn.dpop.den (.obj p) [k] S KK := ⟨kvs, key, d, h, hk, e, kk⟩
theorem mapK_drop {α : Type} {f : α → D} {l : List (Str × α)} {z : Str} : dropD (mapK f l) (.inr z) = mapK f (without l z) := by
 unfold dropD mapK without
 rw [List.filter_map]
 refine congrArg (List.map _) (List.filter_congr fun q _ => ?_)
 exact decide_eq_decide.mpr ⟨fun h e => h (by show (Sum.inr q.1 : Key) = _; rw [e]), fun h e => h (Sum.inr.inj e)⟩
theorem me24 (c : SaysX fa fn fx K) : Meets ((tb K).sn N24) ((tb K).G K 24) 2 false (TTakeLine K) b24 := by
 refine Qt.put_in ?_
 simp (disch :=
 with_unfolding_all
 refine Qt.keep ?_
 rintro m hm ds S KK Y ⟨rfl, L, a, b, c', d, st, z, rfl, hz, lay, ends⟩
 refine ⟨rfl, ?_⟩
 show denSs _ b24 [some _, some _] _ _ _
 unfold b24
 simp only [due] at ends
 walk_at "st"
 refine d_call (T := TWrong) rfl ?_
 walk_at "st"
 refine d_call (T := TIsName) rfl ?_
 walk_at "st"
 refine ⟨rfl, z, rfl, hz, ?_⟩
 walk_at "st"
 refine ⟨rfl, _, rfl, ?_⟩
 walk_at "st"
 refine d_call (T := TLacks K) rfl ?_
 walk_at "st"
 refine fld_o lay.L (cls_Layout c) (na_ends_of c) rfl ?_
 walk_at "st"
 refine ⟨rfl, z, b, _, fL, st.lines, rfl, lay.b, fun h => ?_, fun h => ?_⟩
 ·rw [if_pos h] at ends
  walk_at "st"
  refine fld_o lay.L (cls_Layout c) (na_ends_of c) rfl ?_
  refine ⟨rc_d lay.b, ?_⟩
  walk_at "st"
  obtain ⟨q, hq⟩ := look_mem h
  refine dpop_o lay.b rfl (by rw [mapK_val, hq]; rfl) ?_
  rw [mapK_drop]
  walk_at "st"
  exact ends
 ·rw [if_neg h] at ends
  exact ends
 ) only [↓Qt.put_off]
theorem me25 (c : SaysX fa fn fx K) : Meets ((tb K).sn N25) ((tb K).G K 25) 2 false (TTakeDrain K) b25 := by
 refine Qt.put_in ?_
 simp (disch :=
 with_unfolding_all
 refine Qt.keep ?_
 rintro m hm ds S KK Y ⟨rfl, L, a, b, c', d, st, z, rfl, hz, lay, ends⟩
 refine ⟨rfl, ?_⟩
 show denSs _ b25 [some _, some _] _ _ _
 unfold b25
 simp only [due] at ends
 walk_at "st"
 refine d_call (T := TWrong) rfl ?_
 walk_at "st"
 refine d_call (T := TIsName) rfl ?_
 walk_at "st"
 refine ⟨rfl, z, rfl, hz, ?_⟩
 walk_at "st"
 refine ⟨rfl, _, rfl, ?_⟩
 walk_at "st"
 refine d_call (T := TLacks K) rfl ?_
 walk_at "st"
 refine fld_o lay.L (cls_Layout c) (na_seat_of c) rfl ?_
 walk_at "st"
 refine ⟨rfl, z, c', _, fS, st.drains, rfl, lay.c, fun h => ?_, fun h => ?_⟩
 ·rw [if_pos h] at ends
  walk_at "st"
  refine fld_o lay.L (cls_Layout c) (na_seat_of c) rfl ?_
  refine ⟨rc_d lay.c, ?_⟩
  walk_at "st"
  obtain ⟨q, hq⟩ := look_mem h
  refine dpop_o lay.c rfl (by rw [mapK_val, hq]; rfl) ?_
  rw [mapK_drop]
  walk_at "st"
  exact ends
 ·rw [if_neg h] at ends
  exact ends
 ) only [↓Qt.put_off]
theorem me26 (c : SaysX fa fn fx K) : Meets ((tb K).sn N26) ((tb K).G K 26) 2 false (TTakeSource K) b26 := by
 refine Qt.put_in ?_
 simp (disch :=
 with_unfolding_all
 refine Qt.keep ?_
 rintro m hm ds S KK Y ⟨rfl, L, a, b, c', d, st, z, rfl, hz, lay, ends⟩
 refine ⟨rfl, ?_⟩
 show denSs _ b26 [some _, some _] _ _ _
 unfold b26
 simp only [due] at ends
 walk_at "st"
 refine d_call (T := TWrong) rfl ?_
 walk_at "st"
 refine d_call (T := TIsName) rfl ?_
 walk_at "st"
 refine ⟨rfl, z, rfl, hz, ?_⟩
 walk_at "st"
 refine ⟨rfl, _, rfl, ?_⟩
 walk_at "st"
 refine d_call (T := TLacks K) rfl ?_
 walk_at "st"
 refine fld_o lay.L (cls_Layout c) (na_pushed c) rfl ?_
 walk_at "st"
 refine ⟨rfl, z, d, _, fU, st.pushed, rfl, lay.d, fun h => ?_, fun h => ?_⟩
 ·rw [if_pos h] at ends
  walk_at "st"
  refine fld_o lay.L (cls_Layout c) (na_pushed c) rfl ?_
  refine ⟨rc_d lay.d, ?_⟩
  walk_at "st"
  obtain ⟨q, hq⟩ := look_mem h
  refine dpop_o lay.d rfl (by rw [mapK_val, hq]; rfl) ?_
  rw [mapK_drop]
  walk_at "st"
  exact ends
 ·rw [if_neg h] at ends
  exact ends
 ) only [↓Qt.put_off]
end Cl
namespace Cl
open PySem PySem.Spec PyProof.Rows L2 Sv
variable {K : PySem.W.Frag}
/-! ### the layout is made -/
theorem me2 (c : SaysX fa fn fx K) : Meets ((tb K).sn N2) ((tb K).G K 2) 1 false (TInit K) b2 := by
 refine Qt.put_in ?_
 simp (disch :=
 with_unfolding_all
 refine Qt.keep ?_
 rintro m hm ds S KK Y ⟨rfl, p, rfl, at_p, hK⟩
 refine ⟨rfl, ?_⟩
 show denSs _ b2 [some _] _ _ _
 unfold b2
 walk_at "st"
 refine d_dct0 fun a fa => ?_
 have ap : p ≠ a := SS.ne_of at_p fa
 walk_at "st"
 refine ⟨p, lc K, [], rfl, by rw [SS.set_ne ap]; exact at_p, cls_Layout c, na_by_room c, by show 0 < 1000; decide, ?_⟩
 walk_at "st"
 refine d_dct0 fun b fb => ?_
 have bp : p ≠ b := SS.ne_of SS.set_same fb
 rw [SS.set_ne (Ne.symm bp)] at fb
 have ba : a ≠ b := SS.ne_of SS.set_same fb
 rw [SS.set_ne (Ne.symm ba)] at fb
 walk_at "st"
 refine ⟨p, lc K, _, rfl, by rw [SS.set_ne bp]; exact SS.set_same, cls_Layout c, na_ends_of c, by show 1 < 1000; decide, ?_⟩
 walk_at "st"
 refine d_dct0 fun d fd => ?_
 have dp : p ≠ d := SS.ne_of SS.set_same fd
 rw [SS.set_ne (Ne.symm dp)] at fd
 have db : b ≠ d := SS.ne_of SS.set_same fd
 rw [SS.set_ne (Ne.symm db), SS.set_ne (Ne.symm dp)] at fd
 have da : a ≠ d := SS.ne_of SS.set_same fd
 rw [SS.set_ne (Ne.symm da)] at fd
 walk_at "st"
 refine ⟨p, lc K, _, rfl, by rw [SS.set_ne dp]; exact SS.set_same, cls_Layout c, na_seat_of c, by show 2 < 1000; decide, ?_⟩
 walk_at "st"
 refine d_dct0 fun e fe => ?_
 have ep : p ≠ e := SS.ne_of SS.set_same fe
 rw [SS.set_ne (Ne.symm ep)] at fe
 have ed : d ≠ e := SS.ne_of SS.set_same fe
 rw [SS.set_ne (Ne.symm ed), SS.set_ne (Ne.symm ep)] at fe
 have eb : b ≠ e := SS.ne_of SS.set_same fe
 rw [SS.set_ne (Ne.symm eb), SS.set_ne (Ne.symm ep)] at fe
 have ea : a ≠ e := SS.ne_of SS.set_same fe
 rw [SS.set_ne (Ne.symm ea)] at fe
 walk_at "st"
 refine ⟨p, lc K, _, rfl, by rw [SS.set_ne ep]; exact SS.set_same, cls_Layout c, na_pushed c, by show 3 < 1000; decide, ?_⟩
 walk_at "st"
 have h := hK a b d e (Ne.symm ap) (Ne.symm bp) (Ne.symm dp) (Ne.symm ep) ba da ea db eb ed fa fb fd fe
 refine (congrArg (KK .non) (?_ : _ = put4 (lc K) S p a b d e)).mpr h
 funext q
 unfold put4 SS.set
 by_cases h1 : q = p
 ·simp only [h1, if_true]; rfl
 ·by_cases h2 : q = a
  ·simp [h2, ap.symm, ba, da, ea]
  ·by_cases h3 : q = b
   ·simp [h3, bp.symm, ba.symm, db, eb]
   ·by_cases h4 : q = d
    ·simp [h4, dp.symm, da.symm, db.symm, ed]
    ·by_cases h5 : q = e
     ·simp [h5, ep.symm, ea.symm, eb.symm, ed.symm]
     ·simp [h1, h2, h3, h4, h5]
 ) only [↓Qt.put_off]
theorem sortS_nil : sortS [] = [] := by unfold sortS; simp
theorem me3 (c : SaysX fa fn fx K) : Meets ((tb K).sn N3) ((tb K).G K 3) 0 false TNew b3 := by
 refine Qt.put_in ?_
 simp (disch :=
 with_unfolding_all
 refine Qt.keep ?_
 rintro m hm ds S KK Y ⟨rfl, rfl, hK⟩
 refine ⟨rfl, ?_⟩
 show denSs _ b3 [] _ _ _
 unfold b3
 walk_at "st"
 refine d_dct fun M fM => ?_
 walk_at "st"
 refine d_dct0 fun e fe => ?_
 have Me : M ≠ e := SS.ne_of SS.set_same fe
 rw [SS.set_ne (Ne.symm Me)] at fe
 walk_at "st"
 refine d_dct0 fun f ff => ?_
 have ef : e ≠ f := SS.ne_of SS.set_same ff
 rw [SS.set_ne (Ne.symm ef)] at ff
 have Mf : M ≠ f := SS.ne_of SS.set_same ff
 rw [SS.set_ne (Ne.symm Mf)] at ff
 walk_at "st"
 refine ⟨by rw [SS.set_ne Mf, SS.set_ne Me]; exact SS.set_same, _, rfl, by show 4 ≤ 15; decide, ?_⟩
 rw [if_pos rfl]
 have h := hK M e f Me Mf ef fM fe ff
 refine (congrArg (KK (.obj M)) (?_ : _ = put3 S M e f)).mpr h
 funext q
 unfold put3 SS.set
 by_cases h1 : q = M
 ·simp only [h1, if_true]
  unfold mK nms lay0
  simp only [List.map_nil, sortS_nil]
  rfl
 ·by_cases h2 : q = e
  ·simp [h2, Me.symm, ef]
  ·by_cases h3 : q = f
   ·simp [h3, Mf.symm, ef.symm]
   ·simp [h1, h2, h3]
 ) only [↓Qt.put_off]
theorem me11 (c : SaysX fa fn fx K) : Meets ((tb K).sn N11) ((tb K).G K 11) 2 false TAlike b11 := by
 refine Qt.put_in ?_
 simp (disch :=
 with_unfolding_all
 refine Qt.keep ?_
 rintro m hm ds S KK Y ⟨rfl, x, rfl, hx, hK⟩
 refine ⟨rfl, ?_⟩
 show denSs _ b11 [some _, some _] _ _ _
 unfold b11
 walk_at "st"
 refine c_eqP hx ?_
 walk_at "st"
 rw [if_pos rfl]
 walk_at "st"
 refine rpr_P hx ?_
 walk_at "st"
 refine rpr_P hx ?_
 walk_at "st"
 rw [decide_eq_true rfl]
 exact hK
 ) only [↓Qt.put_off]
/-! ### the layout is asked -/
theorem mem_of_look {α : Type} {l : List (Str × α)} {z : Str} {q : α} (h : l.lookup z = some q) : z ∈ nms l := by
 have e := lookup_some (l := l) (z := z)
 rw [h] at e
 exact of_decide_eq_true e.symm
theorem me29 (c : SaysX fa fn fx K) : Meets ((tb K).sn N29) ((tb K).G K 29) 2 false (TLine K) b29 := by
 refine Qt.put_in ?_
 simp (disch :=
 with_unfolding_all
 refine Qt.keep ?_
 rintro m hm ds S KK Y ⟨rfl, L, a, b, c', d, st, z, q, rfl, hz, lay, look, hK⟩
 refine ⟨rfl, ?_⟩
 show denSs _ b29 [some _, some _] _ _ _
 unfold b29
 walk_at "st"
 refine d_call (T := TWrong) rfl ?_
 walk_at "st"
 refine d_call (T := TIsName) rfl ?_
 walk_at "st"
 refine ⟨rfl, z, rfl, hz, ?_⟩
 walk_at "st"
 refine ⟨rfl, _, rfl, ?_⟩
 walk_at "st"
 refine d_call (T := TLacks K) rfl ?_
 walk_at "st"
 refine fld_o lay.L (cls_Layout c) (na_ends_of c) rfl ?_
 walk_at "st"
 refine ⟨rfl, z, b, _, fL, st.lines, rfl, lay.b, fun h => ?_, fun h => absurd (mem_of_look look) h⟩
 walk_at "st"
 refine fld_o lay.L (cls_Layout c) (na_ends_of c) rfl ?_
 walk_at "st"
 exact ix_k lay.b rfl (by rw [mapK_val, look]; rfl) hK
 ) only [↓Qt.put_off]
theorem me30 (c : SaysX fa fn fx K) : Meets ((tb K).sn N30) ((tb K).G K 30) 2 false (TDrain K) b30 := by
 refine Qt.put_in ?_
 simp (disch :=
 with_unfolding_all
 refine Qt.keep ?_
 rintro m hm ds S KK Y ⟨rfl, L, a, b, c', d, st, z, q, rfl, hz, lay, look, hK⟩
 refine ⟨rfl, ?_⟩
 show denSs _ b30 [some _, some _] _ _ _
 unfold b30
 walk_at "st"
 refine d_call (T := TWrong) rfl ?_
 walk_at "st"
 refine d_call (T := TIsName) rfl ?_
 walk_at "st"
 refine ⟨rfl, z, rfl, hz, ?_⟩
 walk_at "st"
 refine ⟨rfl, _, rfl, ?_⟩
 walk_at "st"
 refine d_call (T := TLacks K) rfl ?_
 walk_at "st"
 refine fld_o lay.L (cls_Layout c) (na_seat_of c) rfl ?_
 walk_at "st"
 refine ⟨rfl, z, c', _, fS, st.drains, rfl, lay.c, fun h => ?_, fun h => absurd (mem_of_look look) h⟩
 walk_at "st"
 refine fld_o lay.L (cls_Layout c) (na_seat_of c) rfl ?_
 walk_at "st"
 exact ix_k lay.c rfl (by rw [mapK_val, look]; rfl) hK
 ) only [↓Qt.put_off]
/-- the ends ahead of the cost -/
theorem cut2 {x y : Str} {k : Int} : Sv.cutD [.str x, .str y, .int k] none (some 2) = [x, y].map D.str := rfl
theorem sl_t {ds : List D} {lo hi : Option Int} {S : SS} {KK : DK} (k : KK (.tup (Sv.cutD ds lo hi)) S) : slD (.tup ds) lo hi S KK := k
/-- does a line end here -/
def endD (z : Str) : D → Bool
 | .tup [_, .tup [.str x, .str y, _]] => decide (z ∈ [x, y])
 | _ => false
def fstD : D → D
 | .tup [x, _] => x
 | d => d
theorem items_at {st : Lay} {z : Str} : ((((mapK fL st.lines).map fun kv => D.tup [keyV kv.1, kv.2]).filter (endD z)).map fstD) = (atR st z).map D.str := by
 unfold atR nms mapK
 rw [List.map_map, List.filter_map, List.map_map, List.map_map]
 rfl
theorem sub_len {st : Lay} {z : Str} : (atR st z).length ≤ st.lines.length := by
 unfold atR nms
 rw [List.length_map]
 exact List.length_filter_le _ _
/-! ### the law asks -/
theorem keyV_nms {α : Type} {f : α → D} {l : List (Str × α)} : (mapK f l).map (fun kv => keyV kv.1) = (nms l).map D.str := by
 unfold mapK nms
 rw [List.map_map, List.map_map]
 rfl
theorem plain_strs {zs : List Str} (h : zs.length ≤ 64) (hz : ∀ z ∈ zs, Nm z) : Plain (.lst (zs.map D.str)) := by
 apply plain_sm
 simp only [smD, Bool.and_eq_true, decide_eq_true_eq, List.length_map]
 refine ⟨by decide, h, ?_⟩
 clear h
 induction zs with
 | nil => rfl
 | cons z zs ih =>
  simp only [List.map_cons, smDs, smD, Bool.and_eq_true, decide_eq_true_eq]
  have hz1 := hz z List.mem_cons_self
  refine ⟨⟨?_, hz1.fine⟩, ih fun w hw => hz w (List.mem_cons_of_mem _ hw)⟩
  have := hz1.1
  rw [Array.length_toList] at this
  omega
theorem nm_size {z : Str} (h : Nm z) : z.cps.size ≤ 64 := by
 have := h.1
 rw [Array.length_toList] at this
 omega
theorem plain_str {z : Str} (h : Nm z) : Plain (.str z) := plain_sm (by simp only [smD, Bool.and_eq_true, decide_eq_true_eq]; exact ⟨nm_size h, h.fine⟩)
theorem plain_line {x y : Str} {k : Int} (hx : Nm x) (hy : Nm y) (h0 : 0 ≤ k) (h1 : k ≤ 99) : Plain (fL (x, y, k)) := by
 apply plain_sm
 unfold fL
 have e : (10 : Nat) ^ 12 = 1000000000000 := by decide
 have small : k.natAbs < 10 ^ 12 := by omega
 simp only [smD, smDs, Bool.and_eq_true, decide_eq_true_eq]
 exact ⟨by decide, by show 3 ≤ 64; decide, ⟨nm_size hx, hx.fine⟩, ⟨nm_size hy, hy.fine⟩, small, trivial⟩
theorem sort_mem {zs : List Str} {z : Str} : z ∈ sortS zs ↔ z ∈ zs := (List.mergeSort_perm zs leS).mem_iff
theorem sort_len {zs : List Str} : (sortS zs).length = zs.length := (List.mergeSort_perm zs leS).length_eq
theorem Ok.room {n : Nat} {st : Lay} (h : Ok n st) {z : Str} (hz : z ∈ nms st.rooms) : Nm z := by
 obtain ⟨q, hq, rfl⟩ := List.mem_map.mp hz
 exact h.nr q hq
theorem Ok.line {n : Nat} {st : Lay} (h : Ok n st) {z : Str} (hz : z ∈ nms st.lines) : Nm z := by
 obtain ⟨q, hq, rfl⟩ := List.mem_map.mp hz
 exact (h.nl q hq).1
theorem Ok.drain {n : Nat} {st : Lay} (h : Ok n st) {z : Str} (hz : z ∈ nms st.drains) : Nm z := by
 obtain ⟨q, hq, rfl⟩ := List.mem_map.mp hz
 exact (h.nd q hq).1
theorem Ok.source {n : Nat} {st : Lay} (h : Ok n st) {z : Str} (hz : z ∈ nms st.pushed) : Nm z := by
 obtain ⟨q, hq, rfl⟩ := List.mem_map.mp hz
 exact h.np q hq
theorem look_in {α : Type} {l : List (Str × α)} {z : Str} {q : α} (h : l.lookup z = some q) : (z, q) ∈ l := by
 induction l with
 | nil => cases h
 | cons p l ih =>
  obtain ⟨k, v⟩ := p
  rw [List.lookup_cons] at h
  by_cases e : z = k
  ·subst e
   rw [beq_self_eq_true] at h
   cases h
   exact List.mem_cons_self
  ·rw [beq_eq_false_iff_ne.mpr e] at h
   exact List.mem_cons_of_mem _ (ih h)
theorem LayS.lock {C : Addr} {S : SS} {L a b c d p : Addr} {st : Lay} {kvs : List (Key × D)} (h : LayS C S L a b c d st) (h1 : p ≠ L) (h2 : p ≠ a) (h3 : p ≠ b) (h4 : p ≠ c) (h5 : p ≠ d) : LayS C (S.set p (.loc kvs)) L a b c d st :=
 ⟨by rw [SS.set_ne h1.symm]; exact h.L, by rw [SS.set_ne h2.symm]; exact h.a, by rw [SS.set_ne h3.symm]; exact h.b, by rw [SS.set_ne h4.symm]; exact h.c, by rw [SS.set_ne h5.symm]; exact h.d⟩
theorem m_lines {sm : Lay} {e f : Addr} : valD (mK sm e f) (.inr "lines") = some (.obj e) := by unfold mK; split <;> rfl
theorem m_drains {sm : Lay} {e f : Addr} : valD (mK sm e f) (.inr "drains") = some (.obj f) := by unfold mK; split <;> rfl
theorem m_rooms {sm : Lay} {e f : Addr} : valD (mK sm e f) (.inr "rooms") = some (.lst ((sortS (nms sm.rooms)).map D.str)) := by unfold mK; split <;> rfl
theorem m_sources {sm : Lay} {e f : Addr} : valD (mK sm e f) (.inr "sources") = some (.lst ((sortS (nms sm.pushed)).map D.str)) := by unfold mK; split <;> rfl
theorem sort_empty {zs : List Str} : (sortS zs).isEmpty = zs.isEmpty := by
 rw [Bool.eq_iff_iff, List.isEmpty_iff, List.isEmpty_iff]
 constructor
 ·intro h
  have := sort_len (zs := zs)
  rw [h] at this
  exact List.eq_nil_of_length_eq_zero this.symm
 ·intro h
  rw [h]
  exact sortS_nil
theorem vals_S {l : List (Str × Str)} : (mapK fS l).map (·.2) = (l.map (·.2)).map D.str := by
 unfold mapK fS
 rw [List.map_map, List.map_map]
 rfl
theorem atR_nm {n : Nat} {st : Lay} (ok : Ok n st) {z w : Str} (h : w ∈ atR st z) : Nm w := by
 obtain ⟨q, hq, rfl⟩ := List.mem_map.mp h
 exact (ok.nl q (List.mem_filter.mp hq).1).1
end Cl
namespace Cl
open PySem PySem.Spec PyProof.Rows L2 Sv
variable {K : PySem.W.Frag}
theorem key_at {α : Type} {f : α → D} {l : List (Str × α)} {i : Nat} {d : D} (h : ((mapK f l).map fun kv => keyV kv.1)[i]? = some d) : ∃ z, d = .str z ∧ z ∈ nms l := by
 rw [keyV_nms, List.getElem?_map, Option.map_eq_some_iff] at h
 obtain ⟨z, hz, rfl⟩ := h
 exact ⟨z, rfl, List.mem_of_getElem? hz⟩
theorem me37 (c : SaysX fa fn fx K) : Meets ((tb K).sn N37) ((tb K).G K 37) 2 false (TAsk K) b37 := by
 refine Qt.put_in ?_
 simp (disch :=
 with_unfolding_all
 refine Qt.keep ?_
 rintro m hm ds S KK Y ⟨rfl, S0, A, st, cb, n, rfl, ap, rfl, ok, hn, hK⟩
 have lay : LayS (lc K) (put (lc K) S0 A st st cb) A.L A.a A.b A.c A.d st := put_lay ap
 have ms : MS (put (lc K) S0 A st st cb) A.M A.e A.f st := put_m ap
 generalize put (lc K) S0 A st st cb = S at *
 refine ⟨rfl, ?_⟩
 show denSs _ b37 [some _, some _, none] _ _ _
 unfold b37
 walk_at "st"
 refine st_lck ms.e ?_
 walk_at "st"
 have M1 : (S.set A.e (.loc (mapK fL st.lines))) A.M = some (.dic (mK st A.e A.f)) := by rw [SS.set_ne ap.Me]; exact ms.M
 have lay1 : LayS (lc K) (S.set A.e (.loc (mapK fL st.lines))) A.L A.a A.b A.c A.d st := lay.lock ap.Le.symm ap.ae.symm ap.be.symm ap.ce.symm ap.de.symm
 refine ix_k M1 rfl m_lines ?_
 refine ⟨A.e, _, rfl, SS.set_same, ?_⟩
 refine ⟨fun i δ' S' => S' = S.set A.e (.loc (mapK fL st.lines)) ∧ ∃ x, δ' = [some (.obj A.L), some (.obj A.M), x], ⟨rfl, none, rfl⟩, fun _ _ _ _ _ => trivial, ?_, ?_⟩
 ·rintro i d δ' S' hd ⟨rfl, x, rfl⟩
  obtain ⟨z, rfl, hz⟩ := key_at hd
  obtain ⟨q, hq⟩ := look_mem hz
  have hl := ok.nl _ (look_in hq)
  refine tg_1 ?_
  walk_at "st"
  refine t_call (T := TAlike) rfl ?_
  walk_at "st"
  refine d_om (T := TLine K) rfl ?_
  walk_at "st"
  refine om_o lay1.L rfl ?_
  walk_at "st"
  refine ⟨rfl, A.L, _, _, _, _, st, z, q, rfl, hl.1, lay1, hq, ?_⟩
  walk_at "st"
  refine ix_k M1 rfl m_lines ?_
  walk_at "st"
  refine ix_c SS.set_same rfl (by rw [mapK_val, hq]; rfl) ?_
  walk_at "st"
  refine ⟨rfl, fL q, rfl, plain_line hl.2.1 hl.2.2.1 hl.2.2.2.1 hl.2.2.2.2, ?_⟩
  walk_at "st"
  rw [if_neg (by decide)]
  walk_at "st"
  exact ⟨rfl, _, rfl⟩
 ·rintro δ' S' ⟨rfl, x, rfl⟩
  dsimp only [SE.unlock]
  rw [SS.set_set, SS.set_id ms.e]
  walk_at "st"
  refine st_lck ms.f ?_
  walk_at "st"
  have M2 : (S.set A.f (.loc (mapK fS st.drains))) A.M = some (.dic (mK st A.e A.f)) := by rw [SS.set_ne ap.Mf]; exact ms.M
  have lay2 : LayS (lc K) (S.set A.f (.loc (mapK fS st.drains))) A.L A.a A.b A.c A.d st := lay.lock ap.Lf.symm ap.af.symm ap.bf.symm ap.cf.symm ap.df.symm
  refine ix_k M2 rfl m_drains ?_
  refine ⟨A.f, _, rfl, SS.set_same, ?_⟩
  refine ⟨fun i δ' S' => S' = S.set A.f (.loc (mapK fS st.drains)) ∧ ∃ x, δ' = [some (.obj A.L), some (.obj A.M), x], ⟨rfl, _, rfl⟩, fun _ _ _ _ _ => trivial, ?_, ?_⟩
  ·rintro i d δ' S' hd ⟨rfl, x, rfl⟩
   obtain ⟨z, rfl, hz⟩ := key_at hd
   obtain ⟨q, hq⟩ := look_mem hz
   have hl := ok.nd _ (look_in hq)
   refine tg_1 ?_
   walk_at "st"
   refine t_call (T := TAlike) rfl ?_
   walk_at "st"
   refine d_om (T := TDrain K) rfl ?_
   walk_at "st"
   refine om_o lay2.L rfl ?_
   walk_at "st"
   refine ⟨rfl, A.L, _, _, _, _, st, z, q, rfl, hl.1, lay2, hq, ?_⟩
   walk_at "st"
   refine ix_k M2 rfl m_drains ?_
   walk_at "st"
   refine ix_c SS.set_same rfl (by rw [mapK_val, hq]; rfl) ?_
   walk_at "st"
   refine ⟨rfl, .str q, rfl, plain_str hl.2, ?_⟩
   walk_at "st"
   rw [if_neg (by decide)]
   walk_at "st"
   exact ⟨rfl, _, rfl⟩
  ·rintro δ' S' ⟨rfl, x, rfl⟩
   dsimp only [SE.unlock]
   rw [SS.set_set, SS.set_id ms.f]
   walk_at "st"
   exact hK
 ) only [↓Qt.put_off]
/-- the lines that end in a room, by a look at each name -/
def lookD (st : Lay) (z : Str) : D → Bool
 | .str w => match st.lines.lookup w with
  | some q => decide (z ∈ [q.1, q.2.1])
  | none => false
 | _ => false
theorem look_own {α : Type} {l : List (Str × α)} (h : (nms l).Nodup) {q : Str × α} (hq : q ∈ l) : l.lookup q.1 = some q.2 := by
 induction l with
 | nil => cases hq
 | cons p l ih =>
  have h' := List.nodup_cons.mp (show (p.1 :: nms l).Nodup from h)
  rw [List.lookup_cons]
  rcases List.mem_cons.mp hq with rfl | hq
  ·rw [beq_self_eq_true]
  ·have ne : q.1 ≠ p.1 := fun e => h'.1 (by rw [← e]; exact List.mem_map.mpr ⟨q, hq, rfl⟩)
   rw [beq_eq_false_iff_ne.mpr ne]
   exact ih h'.2 hq
theorem keys_at {st : Lay} {z : Str} (ul : (nms st.lines).Nodup) : ((((mapK fL st.lines).map fun kv => keyV kv.1).filter (lookD st z)).map id) = (atR st z).map D.str := by
 rw [List.map_id, keyV_nms, List.filter_map]
 unfold atR
 refine congrArg (List.map D.str) ?_
 show ((st.lines.map (·.1)).filter (lookD st z ∘ D.str)) = (st.lines.filter fun q => decide (z ∈ [q.2.1, q.2.2.1])).map (·.1)
 rw [List.filter_map]
 refine congrArg (fun l : List (Str × Str × Str × Int) => l.map (·.1)) (List.filter_congr fun q hq => ?_)
 show lookD st z (.str q.1) = _
 simp only [lookD, look_own ul hq]
theorem me38 (c : SaysX fa fn fx K) : Meets ((tb K).sn N38) ((tb K).G K 38) 2 false (TAsk K) b38 := by
 refine Qt.put_in ?_
 simp (disch :=
 with_unfolding_all
 refine Qt.keep ?_
 rintro m hm ds S KK Y ⟨rfl, S0, A, st, cb, n, rfl, ap, rfl, ok, hn, hK⟩
 have lay : LayS (lc K) (put (lc K) S0 A st st cb) A.L A.a A.b A.c A.d st := put_lay ap
 have ms : MS (put (lc K) S0 A st st cb) A.M A.e A.f st := put_m ap
 generalize put (lc K) S0 A st st cb = S at *
 have ll := ok.l
 refine ⟨rfl, ?_⟩
 show denSs _ b38 [some _, some _, none, none, none] _ _ _
 unfold b38
 walk_at "st"
 refine ix_k ms.M rfl m_rooms ?_
 refine ⟨_, rfl, ?_⟩
 refine ⟨fun i δ' S' => S' = S ∧ ∃ x y, δ' = [some (.obj A.L), some (.obj A.M), x, y, none], ⟨rfl, none, none, rfl⟩, fun _ _ _ _ _ => rfl, ?_, ?_⟩
 ·rintro i d δ' S' hd ⟨rfl, x, y, rfl⟩
  rw [List.getElem?_map, Option.map_eq_some_iff] at hd
  obtain ⟨z, hz, rfl⟩ := hd
  have hz : z ∈ nms st.rooms := sort_mem.mp (List.mem_of_getElem? hz)
  refine tg_1 ?_
  walk_at "st"
  refine st_lck ms.e ?_
  walk_at "st"
  have M1 : (S'.set A.e (.loc (mapK fL st.lines))) A.M = some (.dic (mK st A.e A.f)) := by rw [SS.set_ne ap.Me]; exact ms.M
  refine ix_k M1 rfl m_lines ?_
  refine ⟨A.e, _, rfl, SS.set_same, ?_⟩
  refine lc_fm id (lookD st z) (by rw [List.length_map, mapK_len, sizeLine_eq]; omega) (fun _ _ _ => trivial) (fun p i acc d K1 KN hd hp hk hn => ?_) ?_
  ·obtain ⟨w, rfl, hw⟩ := key_at hd
   obtain ⟨q, hq⟩ := look_mem hw
   have pM : A.M ≠ p := SS.ne_of M1 hp
   have pe : A.e ≠ p := SS.ne_of SS.set_same hp
   refine tg_1 (c_ss ?_)
   show denT _ _ [some (.obj A.L), some (.obj A.M), some (.str z), y, some (.str w)] _ _ _
   walk_at "st"
   refine ix_k (by rw [SS.set_ne pM]; exact M1) rfl m_lines ?_
   walk_at "st"
   refine ix_c (by rw [SS.set_ne pe]; exact SS.set_same) rfl (by rw [mapK_val, hq]; rfl) ?_
   walk_at "st"
   refine sl_t ?_
   rw [cut2]
   refine in_t ?_
   have e : lookD st z (.str w) = decide (z ∈ [q.1, q.2.1]) := by simp only [lookD, hq]
   walk_at "st"
   by_cases h : z ∈ [q.1, q.2.1]
   ·rw [if_pos (decide_eq_true h)]
    walk_at "st"
    exact hk (e.trans (decide_eq_true h))
   ·rw [if_neg (by rw [decide_eq_true_eq]; exact h)]
    exact hn (e.trans (decide_eq_false h))
  ·rw [keys_at ok.ul]
   dsimp only [SE.unlock]
   rw [SS.set_set, SS.set_id ms.e]
   walk_at "st"
   refine t_call (T := TAlike) rfl ?_
   walk_at "st"
   refine d_fz ?_
   refine d_om (T := TLinesAtC K) rfl ?_
   walk_at "st"
   refine om_o lay.L rfl ?_
   walk_at "st"
   refine ⟨rfl, A.L, _, _, _, _, st, n, z, rfl, ok.room hz, lay, ok, hz, fun p fp => ?_⟩
   refine ⟨p, rfl, .inl ⟨_, SS.set_same, ?_⟩⟩
   rw [SS.del_set fp]
   walk_at "st"
   have sl := sub_len (st := st) (z := z)
   refine srt_l (by omega) ?_
   walk_at "st"
   refine ⟨rfl, _, rfl, plain_strs (by rw [sort_len]; omega) fun w hw => atR_nm ok (sort_mem.mp hw), ?_⟩
   walk_at "st"
   rw [if_neg (by decide)]
   walk_at "st"
   exact ⟨rfl, _, _, rfl⟩
 ·rintro δ' S' ⟨rfl, x, y, rfl⟩
  walk_at "st"
  exact hK
 ) only [↓Qt.put_off]
theorem me31 (c : SaysX fa fn fx K) : Meets ((tb K).sn N31) ((tb K).G K 31) 2 false (TAsk K) b31 := by
 refine Qt.put_in ?_
 simp (disch :=
 with_unfolding_all
 refine Qt.keep ?_
 rintro m hm ds S KK Y ⟨rfl, S0, A, st, cb, n, rfl, ap, rfl, ok, hn, hK⟩
 have lay : LayS (lc K) (put (lc K) S0 A st st cb) A.L A.a A.b A.c A.d st := put_lay ap
 have ms : MS (put (lc K) S0 A st st cb) A.M A.e A.f st := put_m ap
 generalize put (lc K) S0 A st st cb = S at *
 have lr := ok.r
 have ll := ok.l
 have ld := ok.d
 have lp := ok.p
 have nlen : ∀ {α : Type} (l : List (Str × α)), (nms l).length = l.length := fun l => List.length_map ..
 have dr : ∀ (KX : DK), KX (.bl true) S → TAlike none [.lst ((sortS (nms st.drains)).map D.str), .lst ((sortS (nms st.drains)).map D.str)] S KX fun C fs S' => False := fun KX k =>
  ⟨rfl, _, rfl, plain_strs (by rw [sort_len, nlen]; omega) fun w hw => ok.drain (sort_mem.mp hw), k⟩
 refine ⟨rfl, ?_⟩
 show denSs _ b31 [some _, some _] _ _ _
 unfold b31
 refine ss_cut (fun δ'' S'' => S'' = S ∧ δ'' = [some (.obj A.L), some (.obj A.M)]) ?_ ?_
 ·walk_at "st"
  refine t_call (T := TAlike) rfl ?_
  walk_at "st"
  refine d_fz ?_
  refine d_om (T := TSortC K fun st => nms st.pushed) rfl ?_
  walk_at "st"
  refine om_o lay.L rfl ?_
  walk_at "st"
  refine ⟨rfl, A.L, _, _, _, _, st, rfl, lay, by rw [nlen]; omega, fun p fp => ?_⟩
  refine ⟨p, rfl, .inl ⟨_, SS.set_same, ?_⟩⟩
  rw [SS.del_set fp]
  walk_at "st"
  refine ix_k ms.M rfl m_sources ?_
  walk_at "st"
  refine ⟨rfl, _, rfl, plain_strs (by rw [sort_len, nlen]; omega) fun w hw => ok.source (sort_mem.mp hw), ?_⟩
  walk_at "st"
  rw [if_neg (by decide)]
  walk_at "st"
  refine t_call (T := TAlike) rfl ?_
  walk_at "st"
  refine d_fz ?_
  refine d_om (T := TSortC K fun st => nms st.lines) rfl ?_
  walk_at "st"
  refine om_o lay.L rfl ?_
  walk_at "st"
  refine ⟨rfl, A.L, _, _, _, _, st, rfl, lay, by rw [nlen]; omega, fun p fp => ?_⟩
  refine ⟨p, rfl, .inl ⟨_, SS.set_same, ?_⟩⟩
  rw [SS.del_set fp]
  walk_at "st"
  refine ix_k ms.M rfl m_lines ?_
  walk_at "st"
  refine srt_k ms.e keys_nms (by rw [nlen]; omega) ?_
  walk_at "st"
  refine ⟨rfl, _, rfl, plain_strs (by rw [sort_len, nlen]; omega) fun w hw => ok.line (sort_mem.mp hw), ?_⟩
  walk_at "st"
  rw [if_neg (by decide)]
  walk_at "st"
  exact ⟨rfl, rfl⟩
 ·rintro δ'' S'' ⟨rfl, rfl⟩
  walk_at "st"
  refine d_call (T := TAlike) rfl ?_
  walk_at "st"
  refine d_fz ?_
  refine d_om (T := TSortC K fun st => nms st.rooms) rfl ?_
  walk_at "st"
  refine om_o lay.L rfl ?_
  walk_at "st"
  refine ⟨rfl, A.L, _, _, _, _, st, rfl, lay, by rw [nlen]; omega, fun p fp => ?_⟩
  refine ⟨p, rfl, .inl ⟨_, SS.set_same, ?_⟩⟩
  rw [SS.del_set fp]
  walk_at "st"
  refine ix_k ms.M rfl m_rooms ?_
  walk_at "st"
  refine ⟨rfl, _, rfl, plain_strs (by rw [sort_len, nlen]; omega) fun w hw => ok.room (sort_mem.mp hw), ?_⟩
  walk_at "st"
  rw [if_pos rfl]
  walk_at "st"
  refine d_call (T := TAlike) rfl ?_
  walk_at "st"
  refine d_fz ?_
  refine d_om (T := TSortC K fun st => nms st.drains) rfl ?_
  walk_at "st"
  refine om_o lay.L rfl ?_
  walk_at "st"
  refine ⟨rfl, A.L, _, _, _, _, st, rfl, lay, by rw [nlen]; omega, fun p fp => ?_⟩
  refine ⟨p, rfl, .inl ⟨_, SS.set_same, ?_⟩⟩
  rw [SS.del_set fp]
  walk_at "st"
  refine ix_k ms.M rfl m_drains ?_
  walk_at "st"
  refine srt_k ms.f keys_nms (by rw [nlen]; omega) ?_
  walk_at "st"
  exact ⟨rfl, _, rfl, plain_strs (by rw [sort_len, nlen]; omega) fun w hw => ok.drain (sort_mem.mp hw), hK⟩
 ) only [↓Qt.put_off]
theorem me41 (c : SaysX fa fn fx K) : Meets ((tb K).sn N41) ((tb K).G K 41) 3 false (TSame K) b41 := by
 refine Qt.put_in ?_
 simp (disch :=
 with_unfolding_all
 refine Qt.keep ?_
 rintro m hm ds S KK Y ⟨rfl, S0, A, st, cb, n, o, rfl, ap, rfl, o0, o1, ok, hn, hK⟩
 have ask : ∀ KX : DK, KX (.bl true) (put (lc K) S0 A st st cb) → ∀ Y', TAsk K none [.obj A.L, .obj A.M] (put (lc K) S0 A st st cb) KX Y' := fun KX k Y' => ⟨rfl, S0, A, st, cb, n, rfl, ap, rfl, ok, hn, k⟩
 generalize put (lc K) S0 A st st cb = S at *
 refine ⟨rfl, ?_⟩
 show denSs _ b41 [some _, some _, some _, none, none] _ _ _
 unfold b41
 walk_at "st"
 refine ⟨by decide, by decide, ?_⟩
 refine ⟨fun i δ' S' => S' = S ∧ ∃ x y, δ' = [some (.obj A.L), some (.obj A.M), some (.int o), x, y], ⟨rfl, none, none, rfl⟩, fun _ _ _ _ _ => trivial, ?_, ?_⟩
 ·rintro i d δ' S' hd ⟨rfl, x, y, rfl⟩
  obtain ⟨hi, rfl⟩ := rngD_at hd
  refine tg_1 ?_
  walk_at "st"
  refine o_mod (by decide) ?_
  have h0 := Int.emod_nonneg (o + (0 + (i : Int))) (by decide : (3 : Int) ≠ 0)
  have h1 := Int.emod_lt_of_pos (o + (0 + (i : Int))) (by decide : (0 : Int) < 3)
  generalize (o + (0 + (i : Int))) % 3 = w at h0 h1 ⊢
  obtain rfl | rfl | rfl : w = 0 ∨ w = 1 ∨ w = 2 := by omega
  all_goals
   walk_at "st"
   walk_at "ifs"
   refine t_call (T := TAsk K) rfl ?_
   walk_at "st"
   refine ask _ ?_ _
   walk_at "st"
   walk_at "ifs"
   exact ⟨rfl, _, _, rfl⟩
 ·rintro δ' S' ⟨rfl, x, y, rfl⟩
  walk_at "st"
  exact hK
 ) only [↓Qt.put_off]
end Cl
namespace Cl
open PySem PySem.Spec PyProof.Rows L2 Sv
variable {K : PySem.W.Frag}
theorem short {z : Str} (h : z.length ≤ 1000 := by decide +kernel) : z.length ≤ sizeLine := by rw [sizeLine_eq]; omega
theorem mem_sorted {z : Str} {zs : List Str} : decide (z ∈ sortS zs) = decide (z ∈ zs) := decide_eq_decide.mpr sort_mem
theorem fine_sorted {zs : List Str} (h : ∀ w ∈ zs, Nm w) : ∀ w ∈ sortS zs, fine w = true := fun w hw => (h w (sort_mem.mp hw)).fine
/-- [None, x][int(t)] -/
theorem pick {G : Gm} {S : SS} {KK : DK} {x : D} {P : Prop} [Decidable P] (h1 : P → KK x S) (h0 : ¬ P → KK .non S) : ixD (.lst [.non, x]) (.int (if decide P = true then 1 else 0)) S KK := by
 by_cases h : P
 ·rw [if_pos (decide_eq_true h)]
  exact ix_l (d := x) rfl (h1 h)
 ·rw [if_neg (by rw [decide_eq_true_eq]; exact h)]
  exact ix_l (d := .non) rfl (h0 h)
theorem len24 {l : List Str} {n : Nat} : ((((sortS l).map D.str).length : Int) = (n : Int)) ↔ l.length = n := by
 rw [List.length_map, sort_len]
 omega
theorem nlen {α : Type} (l : List (Str × α)) : (nms l).length = l.length := List.length_map ..
def lackD (sm : Lay) : D → Bool
 | .str z => !decide (z ∈ nms sm.rooms)
 | _ => false
theorem lack_of (sm : Lay) : ∀ zs : List Str, lackOf sm zs = ((zs.filter fun z => !decide (z ∈ nms sm.rooms)).head?).map Rf.lacks
 | [] => rfl
 | z :: zs => by
  unfold lackOf
  rw [List.filter_cons, lack_of sm zs]
  by_cases h : z ∈ nms sm.rooms
  ·rw [if_pos h, if_neg (by simpa using h)]
  ·rw [if_neg h, if_pos (by simpa using h)]
   rfl
theorem filt2 {sm : Lay} {zs : List Str} : ((zs.map D.str).filter (lackD sm)).map id = (zs.filter fun z => !decide (z ∈ nms sm.rooms)).map D.str := by
 rw [List.map_id, List.filter_map]
 rfl
/-- the rooms that are lacking, by the law's comprehension -/
theorem lacks_lc {G : Gm} {δ : DS} {S : SS} {KK : DK} {M e f : Addr} {sm : Lay} {n : Nat} {zs : List Str} {j mv : Nat} {own : List Nat} {ok : SS → Prop} (ms : MS S M e f sm) (h : Ok n sm) (hz : ∀ z ∈ zs, Nm z) (few : zs.length ≤ 1000) (hok : ∀ acc p, S p = none → ok (S.set p (.lst acc)))
  (hM : ∀ d, ((wipeD δ own).set j (some d))[mv]? = some (some (.obj M))) (hj : ∀ d, ((wipeD δ own).set j (some d))[j]? = some (some d))
  (k : KK (.lst ((zs.filter fun z => !decide (z ∈ nms sm.rooms)).map D.str)) S) :
  LcK G false (.var j) [j] true (.ss (.cmp .NotIn (.var j) (.ix (.var mv) (.con (.str "rooms"))))) own δ KK (zs.map D.str) ok S := by
 refine lc_fm id (lackD sm) (by rw [List.length_map, sizeLine_eq]; omega) hok (fun p i acc d K1 KN hd hp hk hn => ?_) (by rw [filt2]; exact k)
 rw [List.getElem?_map, Option.map_eq_some_iff] at hd
 obtain ⟨z, hz1, rfl⟩ := hd
 have pM : M ≠ p := SS.ne_of ms.M hp
 refine tg_1 (c_ss (t_cmp (d_var (hj _) (d_ix (d_var (hM _) (d_str ?_))))))
 refine ix_k (by rw [SS.set_ne pM]; exact ms.M) rfl m_rooms ?_
 refine nin_l (hz z (List.mem_of_getElem? hz1)).fine (fine_sorted fun w hw => h.room hw) ?_
 rw [mem_sorted]
 refine bl_ex ?_
 by_cases e : z ∈ nms sm.rooms
 ·rw [if_neg (by simpa using e)]
  exact hn (by show (!decide (z ∈ nms sm.rooms)) = false; simpa using e)
 ·rw [if_pos (by simpa using e)]
  exact d_var (hj _) (hk (by show (!decide (z ∈ nms sm.rooms)) = true; simpa using e))
theorem me4 (c : SaysX fa fn fx K) : Meets ((tb K).sn N4) ((tb K).G K 4) 3 false TDueTake b4 := by
 refine Qt.put_in ?_
 simp (disch :=
 with_unfolding_all
 refine Qt.keep ?_
 rintro m hm ds S KK Y ⟨rfl, M, e, f, sm, n, w, z, u, rfl, hu, hz, ms, ok, hn, hK⟩
 have ll := ok.l
 refine ⟨rfl, ?_⟩
 show denSs _ b4 [some _, some _, some _, none, none, none] _ _ _
 unfold b4
 walk_at "st"
 refine d_dct fun p fp => ?_
 walk_at "st"
 refine ⟨SS.set_same, _, rfl, by show 4 ≤ 15; decide, ?_⟩
 rw [if_neg Bool.false_ne_true, SS.del_set fp]
 walk_at "st"
 cases hu with
 | r =>
  simp only [due] at hK
  refine ix_v (d := .str "rooms") rfl rfl ?_
  walk_at "st"
  refine ix_k ms.M rfl m_rooms ?_
  refine nin_l hz.fine (fine_sorted fun w hw => ok.room hw) ?_
  rw [mem_sorted]
  walk_at "st"
  by_cases h : z ∈ nms sm.rooms
  ·rw [if_pos h] at hK
   rw [if_neg (by simpa using h)]
   walk_at "st"
   refine ss_cut (fun _ S' => KK .non S') ?_ (fun _ S' h => by walk_at "st"; exact h)
   walk_at "st"
   walk_at "ifs"
   have used : (atR sm z ≠ [] ∨ z ∈ sm.drains.map (·.2) ∨ z ∈ nms sm.pushed) → KK (dueD (some (.inuse z))) S := fun u => by rw [if_pos u] at hK; exact hK
   refine st_lck ms.e ?_
   walk_at "st"
   have eM : M ≠ e := ms.Me
   have M1 : (S.set e (.loc (mapK fL sm.lines))) M = some (.dic (mK sm e f)) := by rw [SS.set_ne eM]; exact ms.M
   refine ix_k M1 rfl m_lines ?_
   refine ⟨e, _, rfl, SS.set_same, ?_⟩
   refine lc_fm id (lookD sm z) (by rw [List.length_map, mapK_len, sizeLine_eq]; omega) (fun _ _ _ => trivial) (fun p i acc d K1 KN hd hp hk hn => ?_) ?_
   ·obtain ⟨w, rfl, hw⟩ := key_at hd
    obtain ⟨q, hq⟩ := look_mem hw
    have pM : M ≠ p := SS.ne_of M1 hp
    have pe : e ≠ p := SS.ne_of SS.set_same hp
    refine tg_1 (c_ss ?_)
    show denT _ _ [some (.obj M), some _, some (.str z), some _, _, some (.str w)] _ _ _
    walk_at "st"
    refine ix_k (by rw [SS.set_ne pM]; exact M1) rfl m_lines ?_
    walk_at "st"
    refine ix_c (by rw [SS.set_ne pe]; exact SS.set_same) rfl (by rw [mapK_val, hq]; rfl) ?_
    walk_at "st"
    refine sl_t ?_
    rw [cut2]
    refine in_t ?_
    have el : lookD sm z (.str w) = decide (z ∈ [q.1, q.2.1]) := by simp only [lookD, hq]
    walk_at "st"
    by_cases h : z ∈ [q.1, q.2.1]
    ·rw [if_pos (decide_eq_true h)]
     walk_at "st"
     exact hk (el.trans (decide_eq_true h))
    ·rw [if_neg (by rw [decide_eq_true_eq]; exact h)]
     exact hn (el.trans (decide_eq_false h))
   ·rw [keys_at ok.ul]
    dsimp only [SE.unlock]
    rw [SS.set_set, SS.set_id ms.e]
    walk_at "st"
    refine c_neE (fun w hw => (atR_nm ok hw).fine) ?_
    walk_at "st"
    by_cases h1 : atR sm z = []
    ·rw [if_neg (by rw [h1]; decide)]
     walk_at "st"
     refine ix_k ms.M rfl m_drains ?_
     refine ⟨f, _, rfl, ms.f, ?_⟩
     unfold outL
     rw [if_neg Bool.false_ne_true, vals_S]
     walk_at "st"
     refine in_l hz.fine (fun w hw => ?_) ?_
     ·obtain ⟨q, hq, rfl⟩ := List.mem_map.mp hw
      exact (ok.nd q hq).2.fine
     walk_at "st"
     by_cases h2 : z ∈ sm.drains.map (·.2)
     ·rw [if_pos (decide_eq_true h2)]
      rw [if_pos rfl]
      walk_at "st"
      exact used (.inr (.inl h2))
     ·rw [if_neg (by rw [decide_eq_true_eq]; exact h2)]
      walk_at "st"
      refine ix_k ms.M rfl m_sources ?_
      refine in_l hz.fine (fine_sorted fun w hw => ok.source hw) ?_
      rw [mem_sorted]
      walk_at "st"
      by_cases h3 : z ∈ nms sm.pushed
      ·rw [if_pos (decide_eq_true h3)]
       walk_at "st"
       exact used (.inr (.inr h3))
      ·rw [if_neg (by rw [decide_eq_true_eq]; exact h3)]
       rw [if_neg (fun u => u.elim (fun w => w h1) fun u => u.elim h2 h3)] at hK
       walk_at "st"
       exact hK
    ·rw [if_pos (by simpa using h1)]
     rw [if_pos rfl]
     walk_at "st"
     exact used (.inl h1)
  ·rw [if_neg h] at hK
   rw [if_pos (by simpa using h)]
   walk_at "st"
   exact hK
 | s =>
  simp only [due] at hK
  refine ix_v (d := .str "sources") rfl rfl ?_
  walk_at "st"
  refine ix_k ms.M rfl m_sources ?_
  refine nin_l hz.fine (fine_sorted fun w hw => ok.source hw) ?_
  rw [mem_sorted]
  walk_at "st"
  by_cases h : z ∈ nms sm.pushed
  ·rw [if_pos h] at hK
   rw [if_neg (by simpa using h)]
   walk_at "st"
   refine ss_cut (fun _ S' => KK .non S') ?_ (fun _ S' h => by walk_at "st"; exact h)
   walk_at "st"
   walk_at "ifs"
   exact hK
  ·rw [if_neg h] at hK
   rw [if_pos (by simpa using h)]
   walk_at "st"
   exact hK
 | l =>
  simp only [due] at hK
  refine ix_v (d := .str "lines") rfl rfl ?_
  walk_at "st"
  refine ix_k ms.M rfl m_lines ?_
  refine nin_k ms.e rfl ?_
  rw [val_nms]
  walk_at "st"
  by_cases h : z ∈ nms sm.lines
  ·rw [if_pos h] at hK
   rw [if_neg (by simpa using h)]
   walk_at "st"
   refine ss_cut (fun _ S' => KK .non S') ?_ (fun _ S' h => by walk_at "st"; exact h)
   walk_at "st"
   walk_at "ifs"
   exact hK
  ·rw [if_neg h] at hK
   rw [if_pos (by simpa using h)]
   walk_at "st"
   exact hK
 | d =>
  simp only [due] at hK
  refine ix_v (d := .str "drains") rfl rfl ?_
  walk_at "st"
  refine ix_k ms.M rfl m_drains ?_
  refine nin_k ms.f rfl ?_
  rw [val_nms]
  walk_at "st"
  by_cases h : z ∈ nms sm.drains
  ·rw [if_pos h] at hK
   rw [if_neg (by simpa using h)]
   walk_at "st"
   refine ss_cut (fun _ S' => KK .non S') ?_ (fun _ S' h => by walk_at "st"; exact h)
   walk_at "st"
   walk_at "ifs"
   exact hK
  ·rw [if_neg h] at hK
   rw [if_pos (by simpa using h)]
   walk_at "st"
   exact hK
 ) only [↓Qt.put_off]
theorem me18 (c : SaysX fa fn fx K) : Meets ((tb K).sn N18) ((tb K).G K 18) 2 false TDue b18 := by
 refine Qt.put_in ?_
 simp (disch :=
 with_unfolding_all
 refine Qt.keep ?_
 rintro m hm ds S KK Y ⟨rfl, M, e, f, sm, n, w, rfl, hw, ms, ok, hn, hK⟩
 refine ⟨rfl, ?_⟩
 show denSs _ b18 [some _, some _, none, none, none, none, none] _ _ _
 unfold b18
 cases w with
 | room z =>
  simp only [due] at hK
  walk_at "st"
  refine ix_t (d := .str "add_room") rfl ?_
  walk_at "st"
  refine ix_t (d := .str z) rfl ?_
  walk_at "st"
  refine sl_s short ?_
  walk_at "st"
  walk_at "ifs"
  refine ix_k ms.M rfl m_rooms ?_
  refine in_l hw.fine (fine_sorted fun w hw => ok.room hw) ?_
  rw [mem_sorted]
  walk_at "st"
  by_cases h : z ∈ nms sm.rooms
  ·rw [if_pos h] at hK
   rw [if_pos (decide_eq_true h)]
   walk_at "st"
   exact hK
  ·rw [if_neg h] at hK
   rw [if_neg (by rw [decide_eq_true_eq]; exact h)]
   walk_at "st"
   refine ix_k ms.M rfl m_rooms ?_
   walk_at "st"
   refine pick (G := ((tb K).G K 0 none).toGm) (fun e24 => ?_) fun e24 => ?_
   ·rw [if_pos (by have := (len24 (n := 24)).mp e24; rwa [nlen] at this)] at hK
    exact hK
   ·rw [if_neg (fun z => e24 ((len24 (n := 24)).mpr (by rw [nlen]; exact z)))] at hK
    exact hK
 | source z =>
  simp only [due] at hK
  walk_at "st"
  refine ix_t (d := .str "add_source") rfl ?_
  walk_at "st"
  refine ix_t (d := .str z) rfl ?_
  walk_at "st"
  refine sl_s short ?_
  walk_at "st"
  walk_at "ifs"
  refine ix_k ms.M rfl m_rooms ?_
  refine nin_l hw.fine (fine_sorted fun w hw => ok.room hw) ?_
  rw [mem_sorted]
  walk_at "st"
  by_cases h : z ∈ nms sm.rooms
  ·rw [if_pos h] at hK
   rw [if_neg (by simpa using h)]
   walk_at "st"
   refine ix_k ms.M rfl m_sources ?_
   refine in_l hw.fine (fine_sorted fun w hw => ok.source hw) ?_
   rw [mem_sorted]
   walk_at "st"
   refine pick (G := ((tb K).G K 0 none).toGm) (fun e24 => ?_) fun e24 => ?_
   ·rw [if_pos e24] at hK
    exact hK
   ·rw [if_neg e24] at hK
    exact hK
  ·rw [if_neg h] at hK
   rw [if_pos (by simpa using h)]
   walk_at "st"
   exact hK
 | drain d r =>
  simp only [due] at hK
  walk_at "st"
  refine ix_t (d := .str "add_drain") rfl ?_
  walk_at "st"
  refine ix_t (d := .str d) rfl ?_
  walk_at "st"
  refine sl_s short ?_
  walk_at "st"
  walk_at "ifs"
  refine ix_k ms.M rfl m_lines ?_
  refine in_k ms.e rfl ?_
  rw [val_nms]
  walk_at "st"
  have new : ∀ (h : d ∈ nms sm.lines ∨ d ∈ nms sm.drains), KK (dueD (some (.there d))) S := fun h => by rw [if_pos h] at hK; exact hK
  by_cases h : d ∈ nms sm.lines
  ·rw [if_pos (decide_eq_true h)]
   rw [if_pos rfl]
   walk_at "st"
   exact new (.inl h)
  ·rw [if_neg (by rw [decide_eq_true_eq]; exact h)]
   walk_at "st"
   refine ix_k ms.M rfl m_drains ?_
   refine in_k ms.f rfl ?_
   rw [val_nms]
   walk_at "st"
   by_cases h' : d ∈ nms sm.drains
   ·rw [if_pos (decide_eq_true h')]
    walk_at "st"
    exact new (.inr h')
   ·rw [if_neg (by rw [decide_eq_true_eq]; exact h')]
    walk_at "st"
    refine ix_t (d := .str r) rfl ?_
    walk_at "st"
    refine ss_cut (fun δ' S' => S' = S ∧ δ' = [some (.obj M), some (Deed.drain d r).d, some (.str "add_drain"), some (.str d), some (.lst ([r].map D.str)), none, none]) ?_ ?_
    ·walk_at "st"
     walk_at "ifs"
     exact ⟨rfl, rfl⟩
    rintro δ' S' ⟨hS, rfl⟩
    rw [hS]
    walk_at "st"
    refine ⟨[r].map D.str, rfl, ?_⟩
    rw [if_neg (fun z => z.elim h h')] at hK
    refine lacks_lc ms ok (fun z hz => by cases List.mem_singleton.mp hz; exact hw.2) (by show 1 ≤ 1000; decide) (fun _ _ _ => rfl) (fun _ => rfl) (fun _ => rfl) ?_
    walk_at "st"
    rw [lack_of] at hK
    refine c_neE (fun z hz => by cases List.mem_singleton.mp (List.mem_filter.mp hz).1; exact hw.2.fine) ?_
    walk_at "st"
    cases q : [r].filter fun z => !decide (z ∈ nms sm.rooms) with
    | cons a l =>
     rw [q] at hK
     rw [if_pos (by rfl)]
     walk_at "st"
     refine ix_l (show atI ((a :: l).map D.str) 0 = some (.str a) from atI_map (k := 0) rfl) ?_
     walk_at "st"
     exact hK
    | nil =>
     rw [q] at hK
     rw [if_neg (by simp)]
     walk_at "st"
     walk_at "ifs"
     refine ix_k ms.M rfl m_drains ?_
     walk_at "st"
     refine len_k ms.f ?_
     rw [mapK_len]
     walk_at "st"
     refine pick (G := ((tb K).G K 0 none).toGm) (fun e24 => ?_) fun e24 => ?_
     ·rw [if_pos (by omega)] at hK
      exact hK
     ·rw [if_neg (by omega)] at hK
      exact hK
 | line l x y k =>
  simp only [due] at hK
  walk_at "st"
  refine ix_t (d := .str "add_line") rfl ?_
  walk_at "st"
  refine ix_t (d := .str l) rfl ?_
  walk_at "st"
  refine sl_s short ?_
  walk_at "st"
  walk_at "ifs"
  refine ix_k ms.M rfl m_lines ?_
  refine in_k ms.e rfl ?_
  rw [val_nms]
  walk_at "st"
  have new : ∀ (h : l ∈ nms sm.lines ∨ l ∈ nms sm.drains), KK (dueD (some (.there l))) S := fun h => by rw [if_pos h] at hK; exact hK
  by_cases h : l ∈ nms sm.lines
  ·rw [if_pos (decide_eq_true h)]
   rw [if_pos rfl]
   walk_at "st"
   exact new (.inl h)
  ·rw [if_neg (by rw [decide_eq_true_eq]; exact h)]
   walk_at "st"
   refine ix_k ms.M rfl m_drains ?_
   refine in_k ms.f rfl ?_
   rw [val_nms]
   walk_at "st"
   by_cases h' : l ∈ nms sm.drains
   ·rw [if_pos (decide_eq_true h')]
    walk_at "st"
    exact new (.inr h')
   ·rw [if_neg (by rw [decide_eq_true_eq]; exact h')]
    walk_at "st"
    refine ix_t (d := .str x) rfl ?_
    walk_at "st"
    refine ss_cut (fun δ' S' => S' = S ∧ δ' = [some (.obj M), some (Deed.line l x y k).d, some (.str "add_line"), some (.str l), some (.lst ([x, y].map D.str)), none, none]) ?_ ?_
    ·walk_at "st"
     walk_at "ifs"
     refine ix_t (d := .str x) rfl ?_
     walk_at "st"
     refine ix_t (d := .str y) rfl ?_
     walk_at "st"
     exact ⟨rfl, rfl⟩
    rintro δ' S' ⟨hS, rfl⟩
    rw [hS]
    walk_at "st"
    refine ⟨[x, y].map D.str, rfl, ?_⟩
    rw [if_neg (fun z => z.elim h h')] at hK
    have hxy : ∀ z ∈ [x, y], Nm z := fun z hz => by
     rcases List.mem_cons.mp hz with rfl | hz
     ·exact hw.2.1
     ·cases List.mem_singleton.mp hz; exact hw.2.2.1
    refine lacks_lc ms ok hxy (by show 2 ≤ 1000; decide) (fun _ _ _ => rfl) (fun _ => rfl) (fun _ => rfl) ?_
    walk_at "st"
    rw [lack_of] at hK
    refine c_neE (fun z hz => (hxy z (List.mem_filter.mp hz).1).fine) ?_
    walk_at "st"
    cases q : [x, y].filter fun z => !decide (z ∈ nms sm.rooms) with
    | cons a r' =>
     rw [q] at hK
     rw [if_pos (by rfl)]
     walk_at "st"
     refine ix_l (show atI ((a :: r').map D.str) 0 = some (.str a) from atI_map (k := 0) rfl) ?_
     walk_at "st"
     exact hK
    | nil =>
     rw [q] at hK
     rw [if_neg (by simp)]
     walk_at "st"
     walk_at "ifs"
     refine ix_k ms.M rfl m_lines ?_
     walk_at "st"
     refine len_k ms.e ?_
     rw [mapK_len]
     walk_at "st"
     refine pick (G := ((tb K).G K 0 none).toGm) (fun e24 => ?_) fun e24 => ?_
     ·rw [if_pos (by omega)] at hK
      exact hK
     ·rw [if_neg (by omega)] at hK
      exact hK
 | takeR z =>
  walk_at "st"
  refine ix_t (d := .str "take_room") rfl ?_
  walk_at "st"
  refine ix_t (d := .str z) rfl ?_
  walk_at "st"
  refine sl_s short ?_
  walk_at "st"
  walk_at "ifs"
  refine d_call (T := TDueTake) rfl ?_
  walk_at "st"
  exact ⟨rfl, M, e, f, sm, n, _, z, _, rfl, .r z, hw, ms, ok, hn, hK⟩
 | takeL z =>
  walk_at "st"
  refine ix_t (d := .str "take_line") rfl ?_
  walk_at "st"
  refine ix_t (d := .str z) rfl ?_
  walk_at "st"
  refine sl_s short ?_
  walk_at "st"
  walk_at "ifs"
  refine d_call (T := TDueTake) rfl ?_
  walk_at "st"
  exact ⟨rfl, M, e, f, sm, n, _, z, _, rfl, .l z, hw, ms, ok, hn, hK⟩
 | takeD z =>
  walk_at "st"
  refine ix_t (d := .str "take_drain") rfl ?_
  walk_at "st"
  refine ix_t (d := .str z) rfl ?_
  walk_at "st"
  refine sl_s short ?_
  walk_at "st"
  walk_at "ifs"
  refine d_call (T := TDueTake) rfl ?_
  walk_at "st"
  exact ⟨rfl, M, e, f, sm, n, _, z, _, rfl, .d z, hw, ms, ok, hn, hK⟩
 | takeS z =>
  walk_at "st"
  refine ix_t (d := .str "take_source") rfl ?_
  walk_at "st"
  refine ix_t (d := .str z) rfl ?_
  walk_at "st"
  refine sl_s short ?_
  walk_at "st"
  walk_at "ifs"
  refine d_call (T := TDueTake) rfl ?_
  walk_at "st"
  exact ⟨rfl, M, e, f, sm, n, _, z, _, rfl, .s z, hw, ms, ok, hn, hK⟩
 ) only [↓Qt.put_off]
end Cl
namespace Cl
open PySem PySem.Spec PyProof.Rows L2 Sv
variable {K : PySem.W.Frag}
/-! ### the deeds are done -/
theorem me39 (c : SaysX fa fn fx K) : Meets ((tb K).sn N39) ((tb K).G K 39) 2 false (TCall K) b39 := by
 refine Qt.put_in ?_
 simp (disch :=
 with_unfolding_all
 refine Qt.keep ?_
 rintro m hm ds S KK Y ⟨rfl, S0, A, st, sm, cb, n, w, rfl, ap, rfl, hw, ok, hn, ends⟩
 have lay : LayS (lc K) (put (lc K) S0 A st sm cb) A.L A.a A.b A.c A.d st := put_lay ap
 refine ⟨rfl, ?_⟩
 show denSs _ b39 [some _, some _, none] _ _ _
 unfold b39
 cases w with
 | room z =>
  walk_at "st"
  refine ix_t (d := .str "add_room") rfl ?_
  walk_at "st"
  walk_at "ifs"
  refine d_om (T := TAddRoom K) rfl ?_
  walk_at "st"
  refine om_o lay.L rfl ?_
  walk_at "st"
  refine ix_t (d := .str z) rfl ?_
  walk_at "st"
  refine ⟨rfl, A.L, _, _, _, _, st, n, z, rfl, hw, lay, ok, ?_⟩
  rw [set_a ap]
  exact ends
 | source z =>
  walk_at "st"
  refine ix_t (d := .str "add_source") rfl ?_
  walk_at "st"
  walk_at "ifs"
  refine d_om (T := TAddSource K) rfl ?_
  walk_at "st"
  refine om_o lay.L rfl ?_
  walk_at "st"
  refine ix_t (d := .str z) rfl ?_
  walk_at "st"
  refine ⟨rfl, A.L, _, _, _, _, st, n, z, rfl, hw, lay, ok, hn, ?_⟩
  rw [set_d ap]
  exact ends
 | drain d r =>
  walk_at "st"
  refine ix_t (d := .str "add_drain") rfl ?_
  walk_at "st"
  walk_at "ifs"
  refine d_om (T := TAddDrain K) rfl ?_
  walk_at "st"
  refine om_o lay.L rfl ?_
  walk_at "st"
  refine ix_t (d := .str d) rfl ?_
  walk_at "st"
  refine ix_t (d := .str r) rfl ?_
  walk_at "st"
  refine ⟨rfl, A.L, _, _, _, _, st, n, d, r, rfl, hw, lay, ok, ?_⟩
  rw [set_c ap]
  exact ends
 | line l x y k =>
  walk_at "st"
  refine ix_t (d := .str "add_line") rfl ?_
  walk_at "st"
  walk_at "ifs"
  refine d_om (T := TAddLine K) rfl ?_
  walk_at "st"
  refine om_o lay.L rfl ?_
  walk_at "st"
  refine ix_t (d := .str l) rfl ?_
  walk_at "st"
  refine ix_t (d := .str x) rfl ?_
  walk_at "st"
  refine ix_t (d := .str y) rfl ?_
  walk_at "st"
  refine ix_t (d := .int k) rfl ?_
  walk_at "st"
  refine ⟨rfl, A.L, _, _, _, _, st, n, l, x, y, k, rfl, hw, lay, ok, ?_⟩
  rw [set_b ap]
  exact ends
 | takeR z =>
  walk_at "st"
  refine ix_t (d := .str "take_room") rfl ?_
  walk_at "st"
  walk_at "ifs"
  refine d_om (T := TTakeRoom K) rfl ?_
  walk_at "st"
  refine om_o lay.L rfl ?_
  walk_at "st"
  refine ix_t (d := .str z) rfl ?_
  walk_at "st"
  refine ⟨rfl, A.L, _, _, _, _, st, n, z, rfl, hw, lay, ok, ?_⟩
  rw [set_a ap]
  exact ends
 | takeL z =>
  walk_at "st"
  refine ix_t (d := .str "take_line") rfl ?_
  walk_at "st"
  walk_at "ifs"
  refine d_om (T := TTakeLine K) rfl ?_
  walk_at "st"
  refine om_o lay.L rfl ?_
  walk_at "st"
  refine ix_t (d := .str z) rfl ?_
  walk_at "st"
  refine ⟨rfl, A.L, _, _, _, _, st, z, rfl, hw, lay, ?_⟩
  rw [set_b ap]
  exact ends
 | takeD z =>
  walk_at "st"
  refine ix_t (d := .str "take_drain") rfl ?_
  walk_at "st"
  walk_at "ifs"
  refine d_om (T := TTakeDrain K) rfl ?_
  walk_at "st"
  refine om_o lay.L rfl ?_
  walk_at "st"
  refine ix_t (d := .str z) rfl ?_
  walk_at "st"
  refine ⟨rfl, A.L, _, _, _, _, st, z, rfl, hw, lay, ?_⟩
  rw [set_c ap]
  exact ends
 | takeS z =>
  walk_at "st"
  refine ix_t (d := .str "take_source") rfl ?_
  walk_at "st"
  walk_at "ifs"
  refine d_om (T := TTakeSource K) rfl ?_
  walk_at "st"
  refine om_o lay.L rfl ?_
  walk_at "st"
  refine ix_t (d := .str z) rfl ?_
  walk_at "st"
  refine ⟨rfl, A.L, _, _, _, _, st, z, rfl, hw, lay, ?_⟩
  rw [set_d ap]
  exact ends
 ) only [↓Qt.put_off]
theorem rf_in (r : Rf) : r.cls ∈ EXCL := by cases r <;> (show _ ∈ EXCL; unfold Rf.cls EXCL; simp)
theorem kitR (c : SaysX fa fn fx K) {x y : Str} (hx : x ∈ EXCL) (hy : y ∈ EXCL) : PySem.W.kitOne K (.ref (He.ga K x)) (.ref (He.ga K y)) = some (decide (x = y)) := sib_ok (c.fact 16 rfl) hx hy
theorem cnt_bl : ∀ bs : List Bool, ((bs.map D.bl).countP fun z => D.eqv z (.bl true)) = bs.count true
 | [] => rfl
 | b :: bs => by
  have e : D.eqv (.bl b) (.bl true) = (b == true) := by
   simp only [D.eqv, D.py, PyData.eqv]
  rw [List.map_cons, List.countP_cons, cnt_bl bs, List.count_cons, e]
theorem cnt_l {S : SS} {KK : DK} {bs : List Bool} (k : KK (.int (bs.count true : Nat)) S) : Mn.cnt.den (.lst (bs.map D.bl)) [.bl true] S KK := by
 refine ⟨_, rfl, ?_, rfl, by rw [show vw S (.bl true) = .bl true from rfl, cnt_bl]; exact k⟩
 clear k
 induction bs with
 | nil => rfl
 | cons b bs ih => simp only [List.map_cons, D.okds, D.okd, Bool.true_and]; exact ih
theorem ss_frz {G : Gs} {δ : DS} {S : SS} {Y : XD'} {F : SE} {i : Nat} {a : Addr} {ds : List D} {r : RSs} (at_i : δ[i]? = some (some (.obj a))) (at_a : S a = some (.lst ds)) (h : denSs G r (δ.set i (some (.lst ds))) (S.del a) Y F) : denSs G (.frz i r) δ S Y F := by
 rw [denSs]
 exact ⟨a, at_i, .inl ⟨ds, at_a, h⟩⟩
theorem me10h (c : SaysX fa fn fx K) : Meets ((tb K).sn N10) ((tb K).G K 10) 1 true (TClass K) b10 := by
 refine Qt.put_in ?_
 simp (disch :=
 with_unfolding_all
 refine Qt.keep ?_
 rintro m hm ds S KK Y ⟨a, oe, r, rfl, rfl, hK⟩
 refine ⟨rfl, ?_⟩
 show denSs _ b10 [some _, none] _ _ _
 unfold b10
 cases r with
 | there z =>
  have hx : ("There" : Str) ∈ EXCL := by decide +kernel
  have hF : ExcF K (He.ga K "There") := exfs_ok (c.fact 19 rfl) hx
  have hv : PySem.W.kitOne K (.ref (He.ga K "There")) ((Cn.ty "ValueError").val ((tb K).G K 10 (some (a, oe))).toGm) = some true := veT_ok (c.fact 17 rfl) hx
  walk_at "st"
  refine isi_x rfl hF (kitR c (x := "There") (y := "There") hx (by decide +kernel)) ?_
  walk_at "st"
  refine isi_x rfl hF (kitR c (x := "There") (y := "Lacks") hx (by decide +kernel)) ?_
  walk_at "st"
  refine isi_x rfl hF (kitR c (x := "There") (y := "TooMany") hx (by decide +kernel)) ?_
  walk_at "st"
  refine isi_x rfl hF (kitR c (x := "There") (y := "InUse") hx (by decide +kernel)) ?_
  walk_at "st"
  intro p fp
  walk_at "st"
  refine ⟨rc_o SS.set_same, ?_⟩
  walk_at "st"
  refine isi_x rfl hF (kitR c (x := "There") (y := "Wrong") hx (by decide +kernel)) ?_
  walk_at "st"
  refine app_o SS.set_same (by show 4 < sizeLine; rw [sizeLine_eq]; decide) ?_
  rw [SS.set_set]
  walk_at "st"
  refine ss_frz rfl SS.set_same ?_
  rw [SS.del_set fp]
  walk_at "st"
  refine isi_x rfl hF hv ?_
  walk_at "st"
  rw [if_neg (by decide)]
  walk_at "st"
  refine ⟨⟨_, rfl⟩, ?_⟩
  walk_at "st"
  refine cnt_l (bs := [decide (("There" : Str) = "There"), decide (("There" : Str) = "Lacks"), decide (("There" : Str) = "TooMany"), decide (("There" : Str) = "InUse"), decide (("There" : Str) = "Wrong")]) ?_
  walk_at "st"
  rw [if_neg (by decide +kernel)]
  walk_at "st"
  refine ix_l rfl ?_
  walk_at "st"
  walk_at "ifs"
  refine fld_x rfl hF (nov_ok (c.fact 5 rfl)) rfl ?_
  walk_at "st"
  exact hK
 | lacks z =>
  have hx : ("Lacks" : Str) ∈ EXCL := by decide +kernel
  have hF : ExcF K (He.ga K "Lacks") := exfs_ok (c.fact 19 rfl) hx
  have hv : PySem.W.kitOne K (.ref (He.ga K "Lacks")) ((Cn.ty "ValueError").val ((tb K).G K 10 (some (a, oe))).toGm) = some true := veT_ok (c.fact 17 rfl) hx
  walk_at "st"
  refine isi_x rfl hF (kitR c (x := "Lacks") (y := "There") hx (by decide +kernel)) ?_
  walk_at "st"
  refine isi_x rfl hF (kitR c (x := "Lacks") (y := "Lacks") hx (by decide +kernel)) ?_
  walk_at "st"
  refine isi_x rfl hF (kitR c (x := "Lacks") (y := "TooMany") hx (by decide +kernel)) ?_
  walk_at "st"
  refine isi_x rfl hF (kitR c (x := "Lacks") (y := "InUse") hx (by decide +kernel)) ?_
  walk_at "st"
  intro p fp
  walk_at "st"
  refine ⟨rc_o SS.set_same, ?_⟩
  walk_at "st"
  refine isi_x rfl hF (kitR c (x := "Lacks") (y := "Wrong") hx (by decide +kernel)) ?_
  walk_at "st"
  refine app_o SS.set_same (by show 4 < sizeLine; rw [sizeLine_eq]; decide) ?_
  rw [SS.set_set]
  walk_at "st"
  refine ss_frz rfl SS.set_same ?_
  rw [SS.del_set fp]
  walk_at "st"
  refine isi_x rfl hF hv ?_
  walk_at "st"
  rw [if_neg (by decide)]
  walk_at "st"
  refine ⟨⟨_, rfl⟩, ?_⟩
  walk_at "st"
  refine cnt_l (bs := [decide (("Lacks" : Str) = "There"), decide (("Lacks" : Str) = "Lacks"), decide (("Lacks" : Str) = "TooMany"), decide (("Lacks" : Str) = "InUse"), decide (("Lacks" : Str) = "Wrong")]) ?_
  walk_at "st"
  rw [if_neg (by decide +kernel)]
  walk_at "st"
  refine ix_l rfl ?_
  walk_at "st"
  walk_at "ifs"
  refine ix_l rfl ?_
  walk_at "st"
  walk_at "ifs"
  refine fld_x rfl hF (nov_ok (c.fact 8 rfl)) rfl ?_
  walk_at "st"
  exact hK
 | many k =>
  have hx : ("TooMany" : Str) ∈ EXCL := by decide +kernel
  have hF : ExcF K (He.ga K "TooMany") := exfs_ok (c.fact 19 rfl) hx
  have hv : PySem.W.kitOne K (.ref (He.ga K "TooMany")) ((Cn.ty "ValueError").val ((tb K).G K 10 (some (a, oe))).toGm) = some true := veT_ok (c.fact 17 rfl) hx
  walk_at "st"
  refine isi_x rfl hF (kitR c (x := "TooMany") (y := "There") hx (by decide +kernel)) ?_
  walk_at "st"
  refine isi_x rfl hF (kitR c (x := "TooMany") (y := "Lacks") hx (by decide +kernel)) ?_
  walk_at "st"
  refine isi_x rfl hF (kitR c (x := "TooMany") (y := "TooMany") hx (by decide +kernel)) ?_
  walk_at "st"
  refine isi_x rfl hF (kitR c (x := "TooMany") (y := "InUse") hx (by decide +kernel)) ?_
  walk_at "st"
  intro p fp
  walk_at "st"
  refine ⟨rc_o SS.set_same, ?_⟩
  walk_at "st"
  refine isi_x rfl hF (kitR c (x := "TooMany") (y := "Wrong") hx (by decide +kernel)) ?_
  walk_at "st"
  refine app_o SS.set_same (by show 4 < sizeLine; rw [sizeLine_eq]; decide) ?_
  rw [SS.set_set]
  walk_at "st"
  refine ss_frz rfl SS.set_same ?_
  rw [SS.del_set fp]
  walk_at "st"
  refine isi_x rfl hF hv ?_
  walk_at "st"
  rw [if_neg (by decide)]
  walk_at "st"
  refine ⟨⟨_, rfl⟩, ?_⟩
  walk_at "st"
  refine cnt_l (bs := [decide (("TooMany" : Str) = "There"), decide (("TooMany" : Str) = "Lacks"), decide (("TooMany" : Str) = "TooMany"), decide (("TooMany" : Str) = "InUse"), decide (("TooMany" : Str) = "Wrong")]) ?_
  walk_at "st"
  rw [if_neg (by decide +kernel)]
  walk_at "st"
  refine ix_l rfl ?_
  walk_at "st"
  walk_at "ifs"
  refine ix_l rfl ?_
  walk_at "st"
  walk_at "ifs"
  refine ix_l rfl ?_
  walk_at "st"
  walk_at "ifs"
  refine fld_x rfl hF (nov_ok (c.fact 11 rfl)) rfl ?_
  walk_at "st"
  exact hK
 | inuse z =>
  have hx : ("InUse" : Str) ∈ EXCL := by decide +kernel
  have hF : ExcF K (He.ga K "InUse") := exfs_ok (c.fact 19 rfl) hx
  have hv : PySem.W.kitOne K (.ref (He.ga K "InUse")) ((Cn.ty "ValueError").val ((tb K).G K 10 (some (a, oe))).toGm) = some true := veT_ok (c.fact 17 rfl) hx
  walk_at "st"
  refine isi_x rfl hF (kitR c (x := "InUse") (y := "There") hx (by decide +kernel)) ?_
  walk_at "st"
  refine isi_x rfl hF (kitR c (x := "InUse") (y := "Lacks") hx (by decide +kernel)) ?_
  walk_at "st"
  refine isi_x rfl hF (kitR c (x := "InUse") (y := "TooMany") hx (by decide +kernel)) ?_
  walk_at "st"
  refine isi_x rfl hF (kitR c (x := "InUse") (y := "InUse") hx (by decide +kernel)) ?_
  walk_at "st"
  intro p fp
  walk_at "st"
  refine ⟨rc_o SS.set_same, ?_⟩
  walk_at "st"
  refine isi_x rfl hF (kitR c (x := "InUse") (y := "Wrong") hx (by decide +kernel)) ?_
  walk_at "st"
  refine app_o SS.set_same (by show 4 < sizeLine; rw [sizeLine_eq]; decide) ?_
  rw [SS.set_set]
  walk_at "st"
  refine ss_frz rfl SS.set_same ?_
  rw [SS.del_set fp]
  walk_at "st"
  refine isi_x rfl hF hv ?_
  walk_at "st"
  rw [if_neg (by decide)]
  walk_at "st"
  refine ⟨⟨_, rfl⟩, ?_⟩
  walk_at "st"
  refine cnt_l (bs := [decide (("InUse" : Str) = "There"), decide (("InUse" : Str) = "Lacks"), decide (("InUse" : Str) = "TooMany"), decide (("InUse" : Str) = "InUse"), decide (("InUse" : Str) = "Wrong")]) ?_
  walk_at "st"
  rw [if_neg (by decide +kernel)]
  walk_at "st"
  refine ix_l rfl ?_
  walk_at "st"
  walk_at "ifs"
  refine ix_l rfl ?_
  walk_at "st"
  walk_at "ifs"
  refine ix_l rfl ?_
  walk_at "st"
  walk_at "ifs"
  refine ix_l rfl ?_
  walk_at "st"
  walk_at "ifs"
  refine fld_x rfl hF (nov_ok (c.fact 14 rfl)) rfl ?_
  walk_at "st"
  exact hK
 | wrong k =>
  have hx : ("Wrong" : Str) ∈ EXCL := by decide +kernel
  have hF : ExcF K (He.ga K "Wrong") := exfs_ok (c.fact 19 rfl) hx
  have hv : PySem.W.kitOne K (.ref (He.ga K "Wrong")) ((Cn.ty "ValueError").val ((tb K).G K 10 (some (a, oe))).toGm) = some true := veT_ok (c.fact 17 rfl) hx
  walk_at "st"
  refine isi_x rfl hF (kitR c (x := "Wrong") (y := "There") hx (by decide +kernel)) ?_
  walk_at "st"
  refine isi_x rfl hF (kitR c (x := "Wrong") (y := "Lacks") hx (by decide +kernel)) ?_
  walk_at "st"
  refine isi_x rfl hF (kitR c (x := "Wrong") (y := "TooMany") hx (by decide +kernel)) ?_
  walk_at "st"
  refine isi_x rfl hF (kitR c (x := "Wrong") (y := "InUse") hx (by decide +kernel)) ?_
  walk_at "st"
  intro p fp
  walk_at "st"
  refine ⟨rc_o SS.set_same, ?_⟩
  walk_at "st"
  refine isi_x rfl hF (kitR c (x := "Wrong") (y := "Wrong") hx (by decide +kernel)) ?_
  walk_at "st"
  refine app_o SS.set_same (by show 4 < sizeLine; rw [sizeLine_eq]; decide) ?_
  rw [SS.set_set]
  walk_at "st"
  refine ss_frz rfl SS.set_same ?_
  rw [SS.del_set fp]
  walk_at "st"
  refine isi_x rfl hF hv ?_
  walk_at "st"
  rw [if_neg (by decide)]
  walk_at "st"
  refine ⟨⟨_, rfl⟩, ?_⟩
  walk_at "st"
  refine cnt_l (bs := [decide (("Wrong" : Str) = "There"), decide (("Wrong" : Str) = "Lacks"), decide (("Wrong" : Str) = "TooMany"), decide (("Wrong" : Str) = "InUse"), decide (("Wrong" : Str) = "Wrong")]) ?_
  walk_at "st"
  rw [if_neg (by decide +kernel)]
  walk_at "st"
  refine ix_l rfl ?_
  walk_at "st"
  walk_at "ifs"
  refine ix_l rfl ?_
  walk_at "st"
  walk_at "ifs"
  refine ix_l rfl ?_
  walk_at "st"
  walk_at "ifs"
  refine ix_l rfl ?_
  walk_at "st"
  walk_at "ifs"
  refine fld_x rfl hF (nov_ok (c.fact 2 rfl)) rfl ?_
  walk_at "st"
  exact hK
 ) only [↓Qt.put_off]
theorem me42 (c : SaysX fa fn fx K) : Meets ((tb K).sn N42) ((tb K).G K 42) 2 false (TSay K) b42 := by
 refine Qt.put_in ?_
 simp (disch :=
 with_unfolding_all
 refine Qt.keep ?_
 rintro m hm ds S KK Y ⟨rfl, S0, A, st, sm, cb, n, w, rfl, ap, rfl, hw, ok, hn, hK⟩
 refine ⟨rfl, ?_⟩
 show denSs _ b42 [some _, some _, none, none] _ _ _
 unfold b42
 walk_at "st"
 refine ss_cut (fun δ' S' => due st w = none ∧ S' = put (lc K) S0 A (doit st w) sm cb ∧ δ' = [some (.obj A.L), some w.d, some .non, none]) ?_ ?_
 ·walk_at "st"
  refine d_call (T := TCall K) rfl ?_
  walk_at "st"
  refine ⟨rfl, S0, A, st, sm, cb, n, w, rfl, ap, rfl, hw, ok, hn, ?_⟩
  cases h : due st w with
  | none => exact ⟨rfl, rfl, rfl⟩
  | some r =>
   rw [h] at hK
   refine ⟨true, exA_ok (c.fact 18 rfl) (rf_in r), fun _ a oe => ?_, fun z => nomatch z⟩
   walk_at "st"
   refine d_call (T := TClass K) rfl ?_
   walk_at "st"
   refine ⟨a, oe, r, rfl, rfl, ?_⟩
   walk_at "st"
   exact hK
 ·rintro δ' S' ⟨h, rfl, rfl⟩
  rw [h] at hK
  walk_at "st"
  exact hK
 ) only [↓Qt.put_off]
theorem mK_len {sm : Lay} {e f : Addr} : (mK sm e f).length = 4 := by unfold mK; split <;> rfl
theorem st_asg2 {G : Gs} {δ : DS} {S : SS} {Y : XD'} {F : SE} {tg : List Nat} {e : RE} (hm : G.m0 = none) (h : den G.toGm e δ S Y fun d S1 => denTg tg false d δ S1 F.nx) : denS G (.asg tg false e) δ S Y F := by rw [denS]; exact ⟨fun _ => hm, h⟩
theorem sortS_perm {a b : List Str} (h : a.Perm b) : sortS a = sortS b := by
 have p1 : (sortS a).Pairwise fun a b => leS a b = true := List.pairwise_mergeSort leS_trans (fun a b => by have := leS_total a b; simpa using this) a
 have p2 : (sortS b).Pairwise fun a b => leS a b = true := List.pairwise_mergeSort leS_trans (fun a b => by have := leS_total a b; simpa using this) b
 exact List.Perm.eq_of_pairwise (fun a b _ _ h k => leS_anti h k) p1 p2 (((List.mergeSort_perm a leS).trans h).trans (List.mergeSort_perm b leS).symm)
theorem sort_snoc {l : List (Str × Unit)} {z : Str} : sortS (sortS (nms l) ++ [z]) = sortS (nms (l ++ [(z, ())])) := by
 have e : nms (l ++ [(z, ())]) = nms l ++ [z] := by unfold nms; rw [List.map_append]; rfl
 rw [e]
 exact sortS_perm (List.Perm.append_right _ (List.mergeSort_perm _ _))
theorem filtN {zs : List Str} {o : Str} : ((zs.map D.str).filter fun d => !D.eqv d (.str o)).map id = (zs.filter fun z => !decide (z = o)).map D.str := by
 rw [List.map_id, List.filter_map]
 exact congrArg (List.map D.str) (List.filter_congr fun z _ => by show (!D.eqv (.str z) (.str o)) = _; rw [eqvS])
theorem sort_without {α : Type} {l : List (Str × α)} {z : Str} : ((sortS (nms l)).filter fun w => !decide (w = z)) = sortS (nms (without l z)) := by
 have p1 : (sortS (nms l)).Pairwise fun a b => leS a b = true := List.pairwise_mergeSort leS_trans (fun a b => by have := leS_total a b; simpa using this) _
 have p2 : (sortS (nms (without l z))).Pairwise fun a b => leS a b = true := List.pairwise_mergeSort leS_trans (fun a b => by have := leS_total a b; simpa using this) _
 refine List.Perm.eq_of_pairwise (fun a b _ _ h k => leS_anti h k) (p1.filter _) p2 ?_
 refine ((List.mergeSort_perm (nms l) leS).filter _).trans (List.Perm.trans ?_ (List.mergeSort_perm _ leS).symm)
 rw [without_nms]
 refine List.Perm.of_eq (List.filter_congr fun w _ => ?_)
 by_cases h : w = z <;> simp [h]
theorem me12 (c : SaysX fa fn fx K) : Meets ((tb K).sn N12) ((tb K).G K 12) 2 false (TDo K) b12 := by
 refine Qt.put_in ?_
 simp (disch :=
 with_unfolding_all
 refine Qt.keep ?_
 rintro m hm ds S KK Y ⟨rfl, S0, A, st, sm, cb, n, w, rfl, ap, rfl, hw, ok, hn, hd, hK⟩
 have ms : MS (put (lc K) S0 A st sm cb) A.M A.e A.f sm := put_m ap
 have lr := ok.r
 have ll := ok.l
 have ld := ok.d
 have lp := ok.p
 refine ⟨rfl, ?_⟩
 show denSs _ b12 [some _, some _, none, none, none] _ _ _
 unfold b12
 cases w with
 | room z =>
  walk_at "st"
  refine st_asg2 rfl ?_
  walk_at "st"
  refine ix_t (d := .str "add_room") rfl ?_
  walk_at "st"
  refine ix_t (d := .str z) rfl ?_
  walk_at "st"
  refine ⟨_, rfl, rfl, ?_⟩
  show denSs _ _ [some _, some _, some (.str "add_room"), some (.str z), _] _ _ _
  walk_at "st"
  walk_at "ifs"
  refine ix_k ms.M rfl m_rooms ?_
  walk_at "st"
  refine o_addL (by rw [List.length_map, sort_len, sizeLine_eq]; show _ + 1 ≤ _; unfold nms; rw [List.length_map]; omega) ?_
  walk_at "st"
  refine srt_l (zs := sortS (nms sm.rooms) ++ [z]) (by rw [List.length_append, sort_len]; unfold nms; rw [List.length_map]; show _ + 1 < _; omega) ?_ |> (fun h => (show (Bn.srt false).den [.lst ((sortS (nms sm.rooms)).map D.str ++ [.str z])] _ _ from by rw [show (sortS (nms sm.rooms)).map D.str ++ [.str z] = (sortS (nms sm.rooms) ++ [z]).map D.str from by rw [List.map_append]; rfl]; exact h))
  rw [sort_snoc]
  walk_at "st"
  refine set_k ms.M rfl (by rw [mK_len]; rw [sizeLine_eq]; decide) ?_
  rw [show putD (mK sm A.e A.f) (.inr "rooms") (.lst ((sortS (nms (sm.rooms ++ [(z, ())]))).map D.str)) = mK { sm with rooms := sm.rooms ++ [(z, ())], pushed := sm.pushed } A.e A.f from by unfold mK; dsimp only; split <;> rfl, set_M ap]
  walk_at "st"
  exact hK
 | source z =>
  walk_at "st"
  refine st_asg2 rfl ?_
  walk_at "st"
  refine ix_t (d := .str "add_source") rfl ?_
  walk_at "st"
  refine ix_t (d := .str z) rfl ?_
  walk_at "st"
  refine ⟨_, rfl, rfl, ?_⟩
  show denSs _ _ [some _, some _, some (.str "add_source"), some (.str z), _] _ _ _
  walk_at "st"
  walk_at "ifs"
  refine ix_k ms.M rfl m_sources ?_
  walk_at "st"
  refine o_addL (by rw [List.length_map, sort_len, sizeLine_eq]; show _ + 1 ≤ _; unfold nms; rw [List.length_map]; omega) ?_
  walk_at "st"
  refine srt_l (zs := sortS (nms sm.pushed) ++ [z]) (by rw [List.length_append, sort_len]; unfold nms; rw [List.length_map]; show _ + 1 < _; omega) ?_ |> (fun h => (show (Bn.srt false).den [.lst ((sortS (nms sm.pushed)).map D.str ++ [.str z])] _ _ from by rw [show (sortS (nms sm.pushed)).map D.str ++ [.str z] = (sortS (nms sm.pushed) ++ [z]).map D.str from by rw [List.map_append]; rfl]; exact h))
  rw [sort_snoc]
  walk_at "st"
  refine set_k ms.M rfl (by rw [mK_len]; rw [sizeLine_eq]; decide) ?_
  rw [show putD (mK sm A.e A.f) (.inr "sources") (.lst ((sortS (nms (sm.pushed ++ [(z, ())]))).map D.str)) = mK { sm with rooms := sm.rooms, pushed := sm.pushed ++ [(z, ())] } A.e A.f from by unfold mK; dsimp only; split <;> rfl, set_M ap]
  walk_at "st"
  exact hK
 | drain d r =>
  walk_at "st"
  refine st_asg2 rfl ?_
  walk_at "st"
  refine ix_t (d := .str "add_drain") rfl ?_
  walk_at "st"
  refine ix_t (d := .str d) rfl ?_
  walk_at "st"
  refine ⟨_, rfl, rfl, ?_⟩
  show denSs _ _ [some _, some (Deed.drain d r).d, some (.str "add_drain"), some (.str d), _] _ _ _
  walk_at "st"
  walk_at "ifs"
  refine ix_t (d := .str r) rfl ?_
  walk_at "st"
  refine ix_k ms.M rfl m_drains ?_
  walk_at "st"
  have new : d ∉ nms sm.drains := fun h => by simp only [due] at hd; rw [if_pos (.inr h)] at hd; cases hd
  refine set_k ms.f rfl (by rw [mapK_len]; exact few_line (by omega)) ?_
  rw [show (D.str r) = fS r from rfl, mapK_put new, set_f ap]
  walk_at "st"
  exact hK
 | line l x y k =>
  walk_at "st"
  refine st_asg2 rfl ?_
  walk_at "st"
  refine ix_t (d := .str "add_line") rfl ?_
  walk_at "st"
  refine ix_t (d := .str l) rfl ?_
  walk_at "st"
  refine ⟨_, rfl, rfl, ?_⟩
  show denSs _ _ [some _, some (Deed.line l x y k).d, some (.str "add_line"), some (.str l), _] _ _ _
  walk_at "st"
  walk_at "ifs"
  refine ix_t (d := .str x) rfl ?_
  walk_at "st"
  refine ix_t (d := .str y) rfl ?_
  walk_at "st"
  refine ix_t (d := .int k) rfl ?_
  walk_at "st"
  refine ix_k ms.M rfl m_lines ?_
  walk_at "st"
  have new : l ∉ nms sm.lines := fun h => by simp only [due] at hd; rw [if_pos (.inl h)] at hd; cases hd
  refine set_k ms.e rfl (by rw [mapK_len]; exact few_line (by omega)) ?_
  rw [show (D.tup [.str x, .str y, .int k]) = fL (x, y, k) from rfl, mapK_put new, set_e ap]
  walk_at "st"
  exact hK
 | takeR z =>
  walk_at "st"
  refine st_asg2 rfl ?_
  walk_at "st"
  refine ix_t (d := .str "take_room") rfl ?_
  walk_at "st"
  refine ix_t (d := .str z) rfl ?_
  walk_at "st"
  refine ⟨_, rfl, rfl, ?_⟩
  show denSs _ _ [some (.obj A.M), some _, some (.str "take_room"), some (.str z), none] _ _ _
  walk_at "st"
  walk_at "ifs"
  refine ix_k ms.M rfl m_rooms ?_
  refine ⟨_, rfl, ?_⟩
  refine lc_fm id (fun d => !D.eqv d (.str z)) (by rw [List.length_map, sort_len, sizeLine_eq]; unfold nms; rw [List.length_map]; omega) (fun _ _ _ => rfl) (fun p i acc d K1 KN hd hp hk hn => ?_) ?_
  ·rw [List.getElem?_map, Option.map_eq_some_iff] at hd
   obtain ⟨w, hw1, rfl⟩ := hd
   refine tg_1 (c_ss ?_)
   show denT _ _ [some (.obj A.M), some _, some _, some (.str z), some (.str w)] _ _ _
   walk_at "st"
   rw [eqvS] at hk hn
   by_cases e : w = z
   ·rw [if_neg (by simpa using e)]
    exact hn (by simpa using e)
   ·rw [if_pos (by simpa using e)]
    walk_at "st"
    exact hk (by simpa using e)
  ·rw [filtN, sort_without]
   walk_at "st"
   refine set_k ms.M rfl (by rw [mK_len]; rw [sizeLine_eq]; decide) ?_
   rw [show putD (mK sm A.e A.f) (.inr "rooms") (.lst ((sortS (nms (without sm.rooms z))).map D.str)) = mK { sm with rooms := without sm.rooms z, pushed := sm.pushed } A.e A.f from by unfold mK; dsimp only; split <;> rfl, set_M ap]
   walk_at "st"
   exact hK
 | takeS z =>
  walk_at "st"
  refine st_asg2 rfl ?_
  walk_at "st"
  refine ix_t (d := .str "take_source") rfl ?_
  walk_at "st"
  refine ix_t (d := .str z) rfl ?_
  walk_at "st"
  refine ⟨_, rfl, rfl, ?_⟩
  show denSs _ _ [some (.obj A.M), some _, some (.str "take_source"), some (.str z), none] _ _ _
  walk_at "st"
  walk_at "ifs"
  refine ix_k ms.M rfl m_sources ?_
  refine ⟨_, rfl, ?_⟩
  refine lc_fm id (fun d => !D.eqv d (.str z)) (by rw [List.length_map, sort_len, sizeLine_eq]; unfold nms; rw [List.length_map]; omega) (fun _ _ _ => rfl) (fun p i acc d K1 KN hd hp hk hn => ?_) ?_
  ·rw [List.getElem?_map, Option.map_eq_some_iff] at hd
   obtain ⟨w, hw1, rfl⟩ := hd
   refine tg_1 (c_ss ?_)
   show denT _ _ [some (.obj A.M), some _, some _, some (.str z), some (.str w)] _ _ _
   walk_at "st"
   rw [eqvS] at hk hn
   by_cases e : w = z
   ·rw [if_neg (by simpa using e)]
    exact hn (by simpa using e)
   ·rw [if_pos (by simpa using e)]
    walk_at "st"
    exact hk (by simpa using e)
  ·rw [filtN, sort_without]
   walk_at "st"
   refine set_k ms.M rfl (by rw [mK_len]; rw [sizeLine_eq]; decide) ?_
   rw [show putD (mK sm A.e A.f) (.inr "sources") (.lst ((sortS (nms (without sm.pushed z))).map D.str)) = mK { sm with rooms := sm.rooms, pushed := without sm.pushed z } A.e A.f from by unfold mK; dsimp only; split <;> rfl, set_M ap]
   walk_at "st"
   exact hK
 | takeL z =>
  walk_at "st"
  refine st_asg2 rfl ?_
  walk_at "st"
  refine ix_t (d := .str "take_line") rfl ?_
  walk_at "st"
  refine ix_t (d := .str z) rfl ?_
  walk_at "st"
  refine ⟨_, rfl, rfl, ?_⟩
  show denSs _ _ [some (.obj A.M), some _, some (.str "take_line"), some (.str z), none] _ _ _
  walk_at "st"
  walk_at "ifs"
  refine ix_l (d := .str "lines") rfl ?_
  walk_at "st"
  refine ix_k ms.M rfl m_lines ?_
  refine ⟨rc_d ms.e, ?_⟩
  walk_at "st"
  have here : z ∈ nms sm.lines := by
   simp only [due] at hd
   by_cases h : z ∈ nms sm.lines
   ·exact h
   ·rw [if_neg h] at hd; cases hd
  obtain ⟨q, hq⟩ := look_mem here
  refine dpop_o ms.e rfl (by rw [mapK_val, hq]; rfl) ?_
  rw [mapK_drop, set_e ap]
  walk_at "st"
  exact hK
 | takeD z =>
  walk_at "st"
  refine st_asg2 rfl ?_
  walk_at "st"
  refine ix_t (d := .str "take_drain") rfl ?_
  walk_at "st"
  refine ix_t (d := .str z) rfl ?_
  walk_at "st"
  refine ⟨_, rfl, rfl, ?_⟩
  show denSs _ _ [some (.obj A.M), some _, some (.str "take_drain"), some (.str z), none] _ _ _
  walk_at "st"
  walk_at "ifs"
  refine ix_l (d := .str "drains") rfl ?_
  walk_at "st"
  refine ix_k ms.M rfl m_drains ?_
  refine ⟨rc_d ms.f, ?_⟩
  walk_at "st"
  have here : z ∈ nms sm.drains := by
   simp only [due] at hd
   by_cases h : z ∈ nms sm.drains
   ·exact h
   ·rw [if_neg h] at hd; cases hd
  obtain ⟨q, hq⟩ := look_mem here
  refine dpop_o ms.f rfl (by rw [mapK_val, hq]; rfl) ?_
  rw [mapK_drop, set_f ap]
  walk_at "st"
  exact hK
 ) only [↓Qt.put_off]
end Cl
namespace Cl
open PySem PySem.Spec PyProof.Rows L2 Sv
variable {K : PySem.W.Frag}
def Rf.Small : Rf → Prop
 | .there z => Nm z | .lacks z => Nm z | .many n => 0 ≤ n ∧ n ≤ 100 | .inuse z => Nm z | .wrong n => 0 ≤ n ∧ n ≤ 100
theorem lack_small {st : Lay} {r : Rf} : ∀ {zs : List Str}, (∀ z ∈ zs, Nm z) → lackOf st zs = some r → r.Small
 | [], _, h => by cases h
 | z :: zs, hz, h => by
  unfold lackOf at h
  split at h
  ·exact lack_small (fun w hw => hz w (List.mem_cons_of_mem _ hw)) h
  ·cases h; exact hz z List.mem_cons_self
theorem due_small {st : Lay} {w : Deed} {r : Rf} (hw : w.Ok) (h : due st w = some r) : r.Small := by
 cases w with
 | room z =>
  simp only [due] at h
  split at h
  ·cases h; exact hw
  ·split at h
   ·cases h; exact ⟨by decide, by decide⟩
   ·cases h
 | source z =>
  simp only [due] at h
  split at h
  ·split at h
   ·cases h; exact hw
   ·cases h
  ·cases h; exact hw
 | drain d r0 =>
  simp only [due] at h
  split at h
  ·cases h; exact hw.1
  ·cases q : lackOf st [r0] with
   | some r1 =>
    rw [q] at h
    cases h
    exact lack_small (fun z hz => by cases List.mem_singleton.mp hz; exact hw.2) q
   | none =>
    rw [q] at h
    simp only [Option.none_or] at h
    split at h
    ·cases h; exact ⟨by decide, by decide⟩
    ·cases h
 | line l x y k =>
  simp only [due] at h
  split at h
  ·cases h; exact hw.1
  ·cases q : lackOf st [x, y] with
   | some r1 =>
    rw [q] at h
    cases h
    exact lack_small (fun z hz => by
     rcases List.mem_cons.mp hz with rfl | hz
     ·exact hw.2.1
     ·cases List.mem_singleton.mp hz; exact hw.2.2.1) q
   | none =>
    rw [q] at h
    simp only [Option.none_or] at h
    split at h
    ·cases h; exact ⟨by decide, by decide⟩
    ·cases h
 | takeR z =>
  simp only [due] at h
  split at h
  ·split at h
   ·cases h; exact hw
   ·cases h
  ·cases h; exact hw
 | takeL z =>
  simp only [due] at h
  split at h
  ·cases h
  ·cases h; exact hw
 | takeD z =>
  simp only [due] at h
  split at h
  ·cases h
  ·cases h; exact hw
 | takeS z =>
  simp only [due] at h
  split at h
  ·cases h
  ·cases h; exact hw
theorem rf_plain {r : Rf} (h : r.Small) : Plain (.tup [.str "refused", .tup [.str r.cls, r.v]]) := by
 apply plain_sm
 have e1 : smD 0 (.str "refused") = true := by decide +kernel
 have e : (10 : Nat) ^ 12 = 1000000000000 := by decide
 have e2 : smD 0 (.str r.cls) = true := by
  cases r with
  | there z => show smD 0 (.str "There") = true; decide +kernel
  | lacks z => show smD 0 (.str "Lacks") = true; decide +kernel
  | many n => show smD 0 (.str "TooMany") = true; decide +kernel
  | inuse z => show smD 0 (.str "InUse") = true; decide +kernel
  | wrong z => show smD 0 (.str "Wrong") = true; decide +kernel
 have e3 : smD 0 r.v = true := by
  cases r with
  | there z => unfold Rf.v; simp only [smD, Bool.and_eq_true, decide_eq_true_eq]; exact ⟨nm_size h, Nm.fine h⟩
  | lacks z => unfold Rf.v; simp only [smD, Bool.and_eq_true, decide_eq_true_eq]; exact ⟨nm_size h, Nm.fine h⟩
  | inuse z => unfold Rf.v; simp only [smD, Bool.and_eq_true, decide_eq_true_eq]; exact ⟨nm_size h, Nm.fine h⟩
  | many n => unfold Rf.v; simp only [smD, decide_eq_true_eq]; have h1 : 0 ≤ n ∧ n ≤ 100 := h; omega
  | wrong n => unfold Rf.v; simp only [smD, decide_eq_true_eq]; have h1 : 0 ≤ n ∧ n ≤ 100 := h; omega
 have e1' : smD 1 (.str "refused") = true := by decide +kernel
 simp only [smD, smDs, Bool.and_eq_true, decide_eq_true_eq] at e1' e2 e3 ⊢
 refine ⟨by decide, by show 2 ≤ 64; decide, e1', ⟨by decide, by show 2 ≤ 64; decide, e2, ?_, trivial⟩, trivial⟩
 exact e3
theorem told_plain : Plain (.tup [.str "told", .non]) := plain_sm (by decide +kernel)
theorem me43 (c : SaysX fa fn fx K) : Meets ((tb K).sn N43) ((tb K).G K 43) 3 false (TStep K) b43 := by
 refine Qt.put_in ?_
 simp (disch :=
 with_unfolding_all
 refine Qt.keep ?_
 rintro m hm ds S KK Y ⟨rfl, S0, A, st, cb, n, w, rfl, ap, rfl, hw, ok, hn, hK⟩
 have ms : MS (put (lc K) S0 A st st cb) A.M A.e A.f st := put_m ap
 refine ⟨rfl, ?_⟩
 show denSs _ b43 [some _, some _, some _, none, none] _ _ _
 unfold b43
 walk_at "st"
 refine d_call (T := TDue) rfl ?_
 walk_at "st"
 refine ⟨rfl, A.M, _, _, st, n, w, rfl, hw, ms, ok, hn, ?_⟩
 walk_at "st"
 refine d_call (T := TSay K) rfl ?_
 walk_at "st"
 refine ⟨rfl, S0, A, st, st, cb, n, w, rfl, ap, rfl, hw, ok, hn, ?_⟩
 unfold next at hK
 cases h : due st w with
 | some r =>
  rw [h] at hK
  walk_at "st"
  rw [if_pos (by rfl)]
  walk_at "st"
  refine d_call (T := TAlike) rfl ?_
  walk_at "st"
  exact ⟨rfl, _, rfl, rf_plain (due_small hw h), hK⟩
 | none =>
  rw [h] at hK
  walk_at "st"
  rw [if_neg (by decide)]
  walk_at "st"
  refine d_call (T := TDo K) rfl ?_
  walk_at "st"
  refine ⟨rfl, S0, A, doit st w, st, cb, n, w, rfl, ap, rfl, hw, ok, hn, h, ?_⟩
  walk_at "st"
  refine d_call (T := TAlike) rfl ?_
  walk_at "st"
  exact ⟨rfl, _, rfl, told_plain, hK⟩
 ) only [↓Qt.put_off]
theorem Ok.any {n m : Nat} {st : Lay} (h : Ok n st) : Ok m st := ⟨h.r, h.l, h.d, h.up, h.nr, h.nl, h.nd, h.np, h.ul, h.sub⟩
theorem Ok.next {n : Nat} {st : Lay} {w : Deed} (h : Ok n st) (hw : w.Ok) : Ok (n + 1) (next st w) := by
 unfold Cl.next
 cases e : due st w with
 | some r => exact h.any
 | none => exact h.doit hw e
theorem ok0 : Ok 0 lay0 := ⟨by decide, by decide, by decide, List.nodup_nil, (fun _ z => nomatch z), (fun _ z => nomatch z), (fun _ z => nomatch z), (fun _ z => nomatch z), List.nodup_nil, (fun _ z => nomatch z)⟩
end Cl
namespace Cl
open PySem PySem.Spec PyProof.Rows L2 Sv
variable {K : PySem.W.Frag}
/-! ### several layouts side by side -/
def Off (A : Ad) (p : Addr) : Prop := p ≠ A.g ∧ p ≠ A.L ∧ p ≠ A.a ∧ p ≠ A.b ∧ p ≠ A.c ∧ p ≠ A.d ∧ p ≠ A.M ∧ p ≠ A.e ∧ p ≠ A.f
instance (A : Ad) (p : Addr) : Decidable (Off A p) := by unfold Off; infer_instance
section
variable {C : Addr} {S0 S S' : SS} {A B : Ad} {st sm : Lay} {cb : Cell} {p : Addr}
theorem put_at (h : Off A p) : put C S0 A st sm cb p = S0 p := by
 obtain ⟨h1, h2, h3, h4, h5, h6, h7, h8, h9⟩ := h
 unfold put
 rw [if_neg h1, if_neg h2, if_neg h3, if_neg h4, if_neg h5, if_neg h6, if_neg h7, if_neg h8, if_neg h9]
theorem put_on {cb2 : Cell} (h : ¬ Off A p) (hg : p ≠ A.g) : put C S0 A st sm cb p = put C S A st sm cb2 p := by
 unfold put
 rw [if_neg hg, if_neg hg]
 by_cases h1 : p = A.L
 ·rw [if_pos h1, if_pos h1]
 rw [if_neg h1, if_neg h1]
 by_cases h2 : p = A.a
 ·rw [if_pos h2, if_pos h2]
 rw [if_neg h2, if_neg h2]
 by_cases h3 : p = A.b
 ·rw [if_pos h3, if_pos h3]
 rw [if_neg h3, if_neg h3]
 by_cases h4 : p = A.c
 ·rw [if_pos h4, if_pos h4]
 rw [if_neg h4, if_neg h4]
 by_cases h5 : p = A.d
 ·rw [if_pos h5, if_pos h5]
 rw [if_neg h5, if_neg h5]
 by_cases h6 : p = A.M
 ·rw [if_pos h6, if_pos h6]
 rw [if_neg h6, if_neg h6]
 by_cases h7 : p = A.e
 ·rw [if_pos h7, if_pos h7]
 rw [if_neg h7, if_neg h7]
 by_cases h8 : p = A.f
 ·rw [if_pos h8, if_pos h8]
 exact absurd ⟨hg, h1, h2, h3, h4, h5, h6, h7, h8⟩ h
theorem put_some (h : ¬ Off A p) : put C S0 A st sm cb p ≠ none := by
 intro e
 unfold put at e
 refine h ?_
 unfold Off
 repeat' (split at e; cases e)
 exact ⟨by assumption, by assumption, by assumption, by assumption, by assumption, by assumption, by assumption, by assumption, by assumption⟩
/-- it lies there -/
def Has (C : Addr) (S : SS) (A : Ad) (st : Lay) (cb : Cell) : Prop := put C S A st st cb = S
theorem Has.there (h : Has C S A st cb) (q : ¬ Off A p) : S p ≠ none := by
 rw [← h]
 exact put_some q
theorem Has.new (h : Has C S A st cb) (q : S p = none) : Off A p := Decidable.byContradiction fun z => h.there z q
theorem Has.grow (h : Has C S A st cb) (g : Grows S S') : Has C S' A st cb := by
 funext q
 by_cases o : Off A q
 ·exact put_at o
 ·rw [g q (h.there o), ← congrFun h q]
  by_cases e : q = A.g
  ·subst e
   exact put_g.trans put_g.symm
  ·exact put_on o e
theorem Has.bag {cb2 : Cell} (h : Has C S A st cb) : Has C (S.set A.g cb2) A st cb2 := by
 funext q
 by_cases e : q = A.g
 ·subst e
  exact put_g.trans SS.set_same.symm
 ·rw [SS.set_ne e]
  by_cases o : Off A q
  ·rw [put_at o, SS.set_ne e]
  ·rw [put_on (S := S) (cb2 := cb) o e]
   exact congrFun h q
theorem Has.own {st' : Lay} {cb' : Cell} : Has C (put C S A st' st' cb') A st' cb' := by
 funext q
 by_cases o : Off A q
 ·exact put_at o
 ·by_cases e : q = A.g
  ·subst e
   exact put_g.trans put_g.symm
  ·exact put_on o e
/-- two that share but the bag -/
def Apart2 (A B : Ad) : Prop := ∀ q, q ≠ A.g → Off A q ∨ Off B q
theorem Has.other {st' : Lay} {cb' : Cell} (h : Has C S B sm cb) (g : A.g = B.g) (d : Apart2 A B) : Has C (put C S A st' st' cb') B sm cb' := by
 funext q
 by_cases e : q = B.g
 ·subst e
  refine put_g.trans ?_
  rw [← g]
  exact put_g.symm
 ·by_cases o : Off B q
  ·exact put_at o
  ·have oA : Off A q := (d q (by rw [g]; exact e)).resolve_right o
   rw [put_at oA, put_on (S := S) (cb2 := cb) o e]
   exact congrFun h q
theorem has_of (l : LayS C S A.L A.a A.b A.c A.d st) (m : MS S A.M A.e A.f st) (g : S A.g = some cb) : Has C S A st cb := by
 funext q
 unfold put
 split
 ·rename_i e; rw [e, g]
 split
 ·rename_i e; rw [e, l.L]
 split
 ·rename_i e; rw [e, l.a]
 split
 ·rename_i e; rw [e, l.b]
 split
 ·rename_i e; rw [e, l.c]
 split
 ·rename_i e; rw [e, l.d]
 split
 ·rename_i e; rw [e, m.M]
 split
 ·rename_i e; rw [e, m.e]
 split
 ·rename_i e; rw [e, m.f]
 rfl
end
theorem Grows.trans {S S1 S2 : SS} (h : Grows S S1) (k : Grows S1 S2) : Grows S S2 := fun q hq => by
 have e := h q hq
 rw [k q (by rw [e]; exact hq), e]
theorem Grows.new {S S1 : SS} (h : Grows S S1) {q : Addr} (k : S1 q = none) : S q = none := Decidable.byContradiction fun z => by
 rw [h q z] at k
 exact z k
theorem Grows.set {S S1 : SS} (h : Grows S S1) {q : Addr} {x : Cell} (k : S q = none) : Grows S (S1.set q x) := fun r hr => by
 have ne : r ≠ q := fun e => hr (e ▸ k)
 rw [SS.set_ne ne]
 exact h r hr
def pairD (A : Ad) : D := .tup [.obj A.L, .obj A.M]
structure Wld (C : Addr) (S : SS) (g p : Addr) (cb : Cell) (ws : List (Ad × Lay)) : Prop where
 one : ∀ w ∈ ws, Apart w.1 ∧ w.1.g = g ∧ Ok 0 w.2 ∧ Has C S w.1 w.2 cb ∧ Off w.1 p
 two : ∀ (i j : Nat) (v w : Ad × Lay), ws[i]? = some v → ws[j]? = some w → i ≠ j → Apart2 v.1 w.1
 at_p : S p = some (.lst (ws.map fun w => pairD w.1))
 at_g : S g = some cb
 pg : p ≠ g
theorem Wld.bag {C : Addr} {S : SS} {g p : Addr} {cb cb2 : Cell} {ws : List (Ad × Lay)} (h : Wld C S g p cb ws) : Wld C (S.set g cb2) g p cb2 ws :=
 ⟨fun w hw => by
  obtain ⟨a, e, o, l, f⟩ := h.one w hw
  refine ⟨a, e, o, ?_, f⟩
  rw [← e]
  exact l.bag, h.two, by rw [SS.set_ne h.pg]; exact h.at_p, SS.set_same, h.pg⟩
theorem Wld.step {C : Addr} {S : SS} {g p : Addr} {cb cb2 : Cell} {ws : List (Ad × Lay)} {k : Nat} {w : Ad × Lay} {st : Lay} (h : Wld C S g p cb ws) (hk : ws[k]? = some w) (ok : Ok 0 st) :
  Wld C (put C S w.1 st st cb2) g p cb2 (ws.set k (w.1, st)) := by
 obtain ⟨hlt, hwk⟩ := List.getElem?_eq_some_iff.mp hk
 obtain ⟨a, e, o, l, f⟩ := h.one w (List.mem_of_getElem? hk)
 refine ⟨fun v hv => ?_, fun i j u v hu hv ne => ?_, ?_, by rw [← e]; exact put_g, h.pg⟩
 ·obtain ⟨i, hi⟩ := List.mem_iff_getElem?.mp hv
  rw [List.getElem?_set] at hi
  split at hi
  ·try rw [if_pos hlt] at hi
   cases hi
   exact ⟨a, e, ok, Has.own, f⟩
  ·rename_i ne
   obtain ⟨a2, e2, o2, l2, f2⟩ := h.one v (List.mem_of_getElem? hi)
   exact ⟨a2, e2, o2, l2.other (e.trans e2.symm) (h.two k i w v hk hi ne), f2⟩
 ·rw [List.getElem?_set] at hu hv
  have up : ∀ {i : Nat} {u : Ad × Lay}, (if k = i then if k < ws.length then some (w.1, st) else none else ws[i]?) = some u → ∃ u0, ws[i]? = some u0 ∧ u0.1 = u.1 := by
   intro i u hu
   split at hu
   ·rename_i z
    try rw [if_pos hlt] at hu
    cases hu
    exact ⟨w, z ▸ hk, rfl⟩
   ·exact ⟨u, hu, rfl⟩
  obtain ⟨u0, h1, e1⟩ := up hu
  obtain ⟨v0, h2, e2⟩ := up hv
  have := h.two i j u0 v0 h1 h2 ne
  rw [e1, e2] at this
  exact this
 ·rw [put_at f, h.at_p]
  congr 2
  rw [List.map_set]
  refine (List.ext_getElem? fun i => ?_).symm
  rw [List.getElem?_set, List.getElem?_map, List.length_map]
  split
  ·rename_i z
   try rw [if_pos hlt]
   rw [← z, hk]
   rfl
  ·rfl
theorem Wld.add {C : Addr} {S S' : SS} {g p : Addr} {cb : Cell} {ws : List (Ad × Lay)} {A : Ad} {st : Lay} (h : Wld C S g p cb ws) (gr : Grows S S') (ap : Apart A) (hg : A.g = g) (ok : Ok 0 st)
  (new : ∀ q, ¬ Off A q → q ≠ g → S q = none) (l : LayS C S' A.L A.a A.b A.c A.d st) (m : MS S' A.M A.e A.f st) : Wld C (S'.set p (.lst ((ws.map fun w => pairD w.1) ++ [pairD A]))) g p cb (ws ++ [(A, st)]) := by
 have sp : S p ≠ none := by rw [h.at_p]; exact fun z => by cases z
 have sg : S g ≠ none := by rw [h.at_g]; exact fun z => by cases z
 have offp : Off A p := Decidable.byContradiction fun z => sp (new p z h.pg)
 have outp : ∀ {B : Ad} {sb : Lay}, Has C S' B sb cb → Off B p → Has C (S'.set p (.lst ((ws.map fun w => pairD w.1) ++ [pairD A]))) B sb cb := by
  intro B sb hb ob
  funext q
  by_cases o : Off B q
  ·exact put_at o
  ·have ne : q ≠ p := fun e => o (e ▸ ob)
   rw [SS.set_ne ne, ← congrFun hb q]
   by_cases e : q = B.g
   ·subst e
    exact put_g.trans put_g.symm
   ·exact put_on o e
 have mine : Has C S' A st cb := has_of l m (by rw [hg, gr g sg]; exact h.at_g)
 have dis : ∀ w ∈ ws, Apart2 w.1 A := fun w hw q hq => by
  obtain ⟨a, e, o, l, f⟩ := h.one w hw
  by_cases z : Off A q
  ·exact .inr z
  ·exact .inl (l.new (new q z (by rw [← e]; exact hq)))
 have flip : ∀ {A B : Ad}, A.g = B.g → Apart2 A B → Apart2 B A := fun e d q hq => (d q (by rw [e]; exact hq)).symm
 refine ⟨fun w hw => ?_, fun i j u v hu hv ne => ?_, ?_, by rw [SS.set_ne h.pg.symm, gr g sg]; exact h.at_g, h.pg⟩
 ·rcases List.mem_append.mp hw with hw | hw
  ·obtain ⟨a, e, o, l, f⟩ := h.one w hw
   exact ⟨a, e, o, outp (l.grow gr) f, f⟩
  ·cases List.mem_singleton.mp hw
   exact ⟨ap, hg, ok, outp mine offp, offp⟩
 ·rw [List.getElem?_append] at hu hv
  have lastOne : ∀ {i : Nat} {u : Ad × Lay}, ¬ i < ws.length → [(A, st)][i - ws.length]? = some u → u = (A, st) ∧ i = ws.length := by
   intro i u hi hu
   obtain ⟨hlt, e⟩ := List.getElem?_eq_some_iff.mp hu
   simp at hlt
   have z : i - ws.length = 0 := by omega
   rw [z] at hu
   exact ⟨(Option.some.inj hu).symm, by omega⟩
  split at hu
  ·split at hv
   ·exact h.two i j u v hu hv ne
   ·rename_i hj
    obtain ⟨rfl, _⟩ := lastOne hj hv
    exact dis u (List.mem_of_getElem? hu)
  ·rename_i hi
   obtain ⟨rfl, ei⟩ := lastOne hi hu
   split at hv
   ·have hv := List.mem_of_getElem? hv
    exact flip ((h.one v hv).2.1.trans hg.symm) (dis v hv)
   ·rename_i hj
    obtain ⟨rfl, ej⟩ := lastOne hj hv
    exact absurd (ei.trans ej.symm) ne
 ·rw [List.map_append]
  exact SS.set_same
theorem Has.lay {C : Addr} {S : SS} {A : Ad} {st : Lay} {cb : Cell} (h : Has C S A st cb) (ap : Apart A) : LayS C S A.L A.a A.b A.c A.d st := by
 have l := put_lay (C := C) (S0 := S) (st := st) (sm := st) (cb := cb) ap
 unfold Has at h
 rw [h] at l
 exact l
theorem Has.ms {C : Addr} {S : SS} {A : Ad} {st : Lay} {cb : Cell} (h : Has C S A st cb) (ap : Apart A) : MS S A.M A.e A.f st := by
 have l := put_m (C := C) (S0 := S) (st := st) (sm := st) (cb := cb) ap
 unfold Has at h
 rw [h] at l
 exact l
theorem Grows.old {S S1 : SS} {q : Addr} {x : Cell} (g : Grows S S1) (h : S q = some x) : S1 q = some x := by
 rw [g _ (by rw [h]; exact fun z => by cases z)]
 exact h
end Cl
namespace Cl
open PySem PySem.Spec PyProof.Rows L2 Sv
variable {K : PySem.W.Frag}
theorem srt_kC {S : SS} {KK : DK} {p : Addr} {zs : List Str} {kvs : List (Key × D)} (h : S p = some (.dic kvs)) (keys : kvs.map (·.1) = zs.map Sum.inr) (few : zs.length < 64) (k : ∀ q, S q = none → KK (.obj q) (S.set q (.lst ((sortS zs).map D.str)))) : (Bn.srt true).den [.obj p] S KK :=
 ⟨zs, .inr ⟨kvs, vw_k h, keys⟩, few, by unfold outL; rw [if_pos rfl]; exact k⟩
theorem srt_lC {zs : List Str} {S : SS} {KK : DK} (few : zs.length < 64) (k : ∀ p, S p = none → KK (.obj p) (S.set p (.lst ((sortS zs).map D.str)))) : (Bn.srt true).den [.lst (zs.map D.str)] S KK := ⟨zs, .inl rfl, few, by unfold outL; rw [if_pos rfl]; exact k⟩
theorem me13 (c : SaysX fa fn fx K) : Meets ((tb K).sn N13) ((tb K).G K 13) 1 false (TSortC K fun st => nms st.rooms) b13 := by
 rintro m hm ds S KK Y ⟨rfl, L, a, b, c', d, st, rfl, lay, few, hK⟩
 refine ⟨rfl, ?_⟩
 show denSs _ b13 [some _] _ _ _
 unfold b13
 walk_at "st"
 refine fld_o lay.L (cls_Layout c) (na_by_room c) rfl ?_
 walk_at "st"
 exact srt_kC lay.a keys_nms few hK
theorem me14 (c : SaysX fa fn fx K) : Meets ((tb K).sn N14) ((tb K).G K 14) 1 false (TSortC K fun st => nms st.lines) b14 := by
 rintro m hm ds S KK Y ⟨rfl, L, a, b, c', d, st, rfl, lay, few, hK⟩
 refine ⟨rfl, ?_⟩
 show denSs _ b14 [some _] _ _ _
 unfold b14
 walk_at "st"
 refine fld_o lay.L (cls_Layout c) (na_ends_of c) rfl ?_
 walk_at "st"
 exact srt_kC lay.b keys_nms few hK
theorem me15 (c : SaysX fa fn fx K) : Meets ((tb K).sn N15) ((tb K).G K 15) 1 false (TSortC K fun st => nms st.drains) b15 := by
 rintro m hm ds S KK Y ⟨rfl, L, a, b, c', d, st, rfl, lay, few, hK⟩
 refine ⟨rfl, ?_⟩
 show denSs _ b15 [some _] _ _ _
 unfold b15
 walk_at "st"
 refine fld_o lay.L (cls_Layout c) (na_seat_of c) rfl ?_
 walk_at "st"
 exact srt_kC lay.c keys_nms few hK
theorem me16 (c : SaysX fa fn fx K) : Meets ((tb K).sn N16) ((tb K).G K 16) 1 false (TSortC K fun st => nms st.pushed) b16 := by
 rintro m hm ds S KK Y ⟨rfl, L, a, b, c', d, st, rfl, lay, few, hK⟩
 refine ⟨rfl, ?_⟩
 show denSs _ b16 [some _] _ _ _
 unfold b16
 walk_at "st"
 refine fld_o lay.L (cls_Layout c) (na_pushed c) rfl ?_
 walk_at "st"
 exact srt_kC lay.d keys_nms few hK
/-- the ends ahead of the cost -/
theorem me23 (c : SaysX fa fn fx K) : Meets ((tb K).sn N23) ((tb K).G K 23) 2 false (TLinesAtC K) b23 := by
 refine Qt.put_in ?_
 simp (disch :=
 with_unfolding_all
 refine Qt.keep ?_
 rintro m hm ds S KK Y ⟨rfl, L, a, b, c', d, st, n, z, rfl, hz, lay, ok, here, hK⟩
 refine ⟨rfl, ?_⟩
 show denSs _ b23 [some _, some _, none, none] _ _ _
 unfold b23
 have ll := ok.l
 walk_at "st"
 refine d_call (T := TWrong) rfl ?_
 walk_at "st"
 refine d_call (T := TIsName) rfl ?_
 walk_at "st"
 refine ⟨rfl, z, rfl, hz, ?_⟩
 walk_at "st"
 refine ⟨rfl, _, rfl, ?_⟩
 walk_at "st"
 refine d_call (T := TLacks K) rfl ?_
 walk_at "st"
 refine fld_o lay.L (cls_Layout c) (na_by_room c) rfl ?_
 walk_at "st"
 refine ⟨rfl, z, a, _, fU, st.rooms, rfl, lay.a, fun h => ?_, fun h => absurd here h⟩
 walk_at "st"
 have apart : L ≠ b := fun e => by have h1 := lay.L; rw [e, lay.b] at h1; cases h1
 refine d_lck lay.b ?_
 walk_at "st"
 refine fld_o (by rw [SS.set_ne apart]; exact lay.L) (cls_Layout c) (na_ends_of c) rfl ?_
 refine ⟨b, _, rfl, SS.set_same, ?_⟩
 refine lc_fm fstD (endD z) (by rw [List.length_map, mapK_len, sizeLine_eq]; omega) (fun _ _ _ => trivial) (fun p i acc d K1 KN hd hp hk hn => ?_) ?_
 ·unfold mapK at hd
  rw [List.map_map, List.getElem?_map, Option.map_eq_some_iff] at hd
  obtain ⟨⟨l, x, y, k⟩, hl, rfl⟩ := hd
  refine ⟨_, rfl, rfl, c_ss ?_⟩
  show denT _ _ [some _, some _, some (.str l), some (.tup [.str x, .str y, .int k])] _ _ _
  walk_at "st"
  refine sl_t ?_
  rw [cut2]
  refine in_t ?_
  walk_at "st"
  by_cases e : z ∈ [x, y]
  ·rw [if_pos (decide_eq_true e)]
   walk_at "st"
   exact hk (decide_eq_true e)
  ·rw [if_neg (by rw [decide_eq_true_eq]; exact e)]
   exact hn (decide_eq_false e)
 ·rw [items_at, SS.set_set, SS.set_id lay.b]
  exact srt_lC (by have := sub_len (st := st) (z := z); omega) hK
 ) only [↓Qt.put_off]
theorem me34 (c : SaysX fa fn fx K) : Meets ((tb K).sn N34) ((tb K).G K 34) 2 false (TTakeRoom K) b34 := by
 refine Qt.put_in ?_
 simp (disch :=
 with_unfolding_all
 refine Qt.keep ?_
 rintro m hm ds S KK Y ⟨rfl, L, a, b, c', d, st, n, z, rfl, hz, lay, ok, ends⟩
 refine ⟨rfl, ?_⟩
 show denSs _ b34 [some _, some _] _ _ _
 unfold b34
 simp only [due] at ends
 walk_at "st"
 refine d_call (T := TWrong) rfl ?_
 walk_at "st"
 refine d_call (T := TIsName) rfl ?_
 walk_at "st"
 refine ⟨rfl, z, rfl, hz, ?_⟩
 walk_at "st"
 refine ⟨rfl, _, rfl, ?_⟩
 walk_at "st"
 refine d_call (T := TLacks K) rfl ?_
 walk_at "st"
 refine fld_o lay.L (cls_Layout c) (na_by_room c) rfl ?_
 walk_at "st"
 refine ⟨rfl, z, a, _, fU, st.rooms, rfl, lay.a, fun h => ?_, fun h => ?_⟩
 ·rw [if_pos h] at ends
  have used : (atR st z ≠ [] ∨ z ∈ st.drains.map (·.2) ∨ z ∈ nms st.pushed) → Y (gr K (.inuse z)) (Rf.inuse z).fs S := fun u => by rw [if_pos u] at ends; exact ends
  walk_at "st"
  refine d_fz ?_
  refine d_om (T := TLinesAtC K) rfl ?_
  walk_at "st"
  refine om_o lay.L rfl ?_
  walk_at "st"
  refine ⟨rfl, L, a, b, c', d, st, n, z, rfl, hz, lay, ok, h, fun p fp => ?_⟩
  refine ⟨p, rfl, .inl ⟨_, SS.set_same, ?_⟩⟩
  rw [SS.del_set fp]
  walk_at "st"
  refine c_neE (fun w hw => (atR_nm ok (sort_mem.mp hw)).fine) ?_
  rw [sort_empty]
  walk_at "st"
  by_cases h1 : atR st z = []
  ·rw [if_neg (by rw [h1]; decide)]
   walk_at "st"
   refine fld_o lay.L (cls_Layout c) (na_seat_of c) rfl ?_
   refine ⟨c', _, rfl, lay.c, ?_⟩
   unfold outL
   rw [if_neg Bool.false_ne_true, vals_S]
   walk_at "st"
   refine in_l hz.fine (fun w hw => ?_) ?_
   ·obtain ⟨q, hq, rfl⟩ := List.mem_map.mp hw
    exact (ok.nd q hq).2.fine
   walk_at "st"
   by_cases h2 : z ∈ st.drains.map (·.2)
   ·rw [if_pos (decide_eq_true h2)]
    rw [if_pos rfl]
    walk_at "st"
    exact st_rai rfl rfl rfl (by walk_at "st"; exact ⟨_, rfl, used (.inr (.inl h2))⟩)
   ·rw [if_neg (by rw [decide_eq_true_eq]; exact h2)]
    walk_at "st"
    refine fld_o lay.L (cls_Layout c) (na_pushed c) rfl ?_
    refine in_k lay.d rfl ?_
    rw [val_nms]
    walk_at "st"
    by_cases h3 : z ∈ nms st.pushed
    ·rw [if_pos (decide_eq_true h3)]
     walk_at "st"
     exact st_rai rfl rfl rfl (by walk_at "st"; exact ⟨_, rfl, used (.inr (.inr h3))⟩)
    ·rw [if_neg (by rw [decide_eq_true_eq]; exact h3)]
     rw [if_neg (fun u => u.elim (fun w => w h1) fun u => u.elim h2 h3)] at ends
     walk_at "st"
     refine fld_o lay.L (cls_Layout c) (na_by_room c) rfl ?_
     refine ⟨rc_d lay.a, ?_⟩
     walk_at "st"
     obtain ⟨q, hq⟩ := look_mem h
     refine dpop_o lay.a rfl (by rw [mapK_val, hq]; rfl) ?_
     rw [mapK_drop]
     walk_at "st"
     exact ends
  ·rw [if_pos (by simpa using h1)]
   rw [if_pos rfl]
   walk_at "st"
   exact st_rai rfl rfl rfl (by walk_at "st"; exact ⟨_, rfl, used (.inl h1)⟩)
 ·rw [if_neg h] at ends
  exact ends
 ) only [↓Qt.put_off]
section
variable {S S' S1 : SS} {ps qs : List Addr} {ls rs : List (List Str)} {L a b c d M e f p q : Addr} {st : Lay}
theorem LayS.grow {C : Addr} (h : LayS C S L a b c d st) (g : Grows S S') : LayS C S' L a b c d st :=
 ⟨by rw [g L (by rw [h.L]; exact nofun)]; exact h.L, by rw [g a (by rw [h.a]; exact nofun)]; exact h.a, by rw [g b (by rw [h.b]; exact nofun)]; exact h.b, by rw [g c (by rw [h.c]; exact nofun)]; exact h.c, by rw [g d (by rw [h.d]; exact nofun)]; exact h.d⟩
theorem MS.grow (h : MS S M e f st) (g : Grows S S') : MS S' M e f st :=
 ⟨h.Me, h.Mf, by rw [g M (by rw [h.M]; exact nofun)]; exact h.M, by rw [g e (by rw [h.e]; exact nofun)]; exact h.e, by rw [g f (by rw [h.f]; exact nofun)]; exact h.f⟩
theorem Grows.put {x : Cell} (h : S p = none) : Grows S (S.set p x) := fun q hq => SS.set_ne fun e => hq (by rw [e]; exact h)
theorem AtL.grow : ∀ {ps : List Addr} {ls : List (List Str)}, AtL S ps ls → Grows S S' → AtL S' ps ls
 | [], _, h, _ => h
 | p :: ps, _, ⟨l, r, e, h, t⟩, g => ⟨l, r, e, by rw [g p (by rw [h]; exact nofun)]; exact h, AtL.grow t g⟩
theorem AtL.app : ∀ {ps : List Addr} {ls : List (List Str)}, AtL S ps ls → AtL S qs rs → AtL S (ps ++ qs) (ls ++ rs)
 | [], _, h, k => by rw [show _ = [] from h]; exact k
 | p :: ps, _, ⟨l, r, e, h, t⟩, k => ⟨l, r ++ rs, by rw [e]; rfl, h, AtL.app t k⟩
theorem AtL.same : ∀ {ps : List Addr} {ls : List (List Str)}, AtL S ps ls → (∀ p ∈ ps, S' p = S p) → AtL S' ps ls
 | [], _, h, _ => h
 | p :: ps, _, ⟨l, r, e, h, t⟩, g => ⟨l, r, e, by rw [g p List.mem_cons_self]; exact h, AtL.same t fun q hq => g q (List.mem_cons_of_mem _ hq)⟩
theorem AtL.there : ∀ {ps : List Addr} {ls : List (List Str)}, AtL S ps ls → ∀ p ∈ ps, S p ≠ none
 | [], _, _, _, h => nomatch h
 | p :: ps, _, ⟨l, r, e, h, t⟩, q, hq => by
  rcases List.mem_cons.mp hq with rfl | hq
  ·rw [h]; exact nofun
  ·exact AtL.there t q hq
theorem AtL.len : ∀ {ps : List Addr} {ls : List (List Str)}, AtL S ps ls → ps.length = ls.length
 | [], _, h => by rw [show _ = [] from h]; rfl
 | p :: ps, _, ⟨l, r, e, h, t⟩ => by rw [e, List.length_cons, List.length_cons, AtL.len t]
theorem take_snocG {α : Type} {l : List α} {i : Nat} {x : α} (h : l[i]? = some x) : l.take (i + 1) = l.take i ++ [x] := by rw [List.take_add_one, h]; rfl
theorem c_neOG {p : Addr} {zs : List Str} {S : SS} {KK : DK} (h : S p = some (.lst (zs.map D.str))) (hs : ∀ w ∈ zs, fine w = true) (k : KK (.bl (!zs.isEmpty)) S) : cmpE .NotEq (.obj p) (.lst []) S KK := by
 refine c_neV (by rw [vw_l h]; simp only [D.okd, Bool.and_eq_true]; exact ⟨rfl, okds_strs _ zs hs⟩) rfl ?_
 rw [vw_l h, show vw S (.lst []) = .lst [] from rfl, eqvE, List.isEmpty_map]
 exact k
theorem AtL.one {l : List Str} : AtL (S.set p (.lst (l.map D.str))) [p] [l] := ⟨l, [], rfl, SS.set_same, rfl⟩
end
theorem me36 (c : SaysX fa fn fx K) : Meets ((tb K).sn N36) ((tb K).G K 36) 2 false (TTold29 K) b36 := by
 refine Qt.put_in ?_
 simp (disch :=
 with_unfolding_all
 refine Qt.keep ?_
 rintro m hm ds S KK Y ⟨rfl, L, a, b, c', d, M, e, f, st, n, rfl, lay, ms, ok, hn, hK⟩
 refine ⟨rfl, ?_⟩
 show denSs _ b36 [some _, some _, none, none] _ _ _
 unfold b36
 have lr := ok.r
 have ll := ok.l
 have ld := ok.d
 have lp := ok.p
 have nlen : ∀ {α : Type} (l : List (Str × α)), (nms l).length = l.length := fun l => List.length_map ..
 walk_at "st"
 refine d_om (T := TSortC K fun st => nms st.rooms) rfl ?_
 walk_at "st"
 refine om_o lay.L rfl ?_
 walk_at "st"
 refine ⟨rfl, L, a, b, c', d, st, rfl, lay, by rw [nlen]; omega, fun p1 f1 => ?_⟩
 have lay1 := lay.grow (Grows.put (x := .lst ((sortS (nms st.rooms)).map D.str)) f1)
 walk_at "st"
 refine d_om (T := TSortC K fun st => nms st.lines) rfl ?_
 walk_at "st"
 refine om_o lay1.L rfl ?_
 walk_at "st"
 refine ⟨rfl, L, a, b, c', d, st, rfl, lay1, by rw [nlen]; omega, fun p2 f2 => ?_⟩
 have lay2 := lay1.grow (Grows.put (x := .lst ((sortS (nms st.lines)).map D.str)) f2)
 walk_at "st"
 refine d_om (T := TSortC K fun st => nms st.drains) rfl ?_
 walk_at "st"
 refine om_o lay2.L rfl ?_
 walk_at "st"
 refine ⟨rfl, L, a, b, c', d, st, rfl, lay2, by rw [nlen]; omega, fun p3 f3 => ?_⟩
 have lay3 := lay2.grow (Grows.put (x := .lst ((sortS (nms st.drains)).map D.str)) f3)
 walk_at "st"
 refine d_om (T := TSortC K fun st => nms st.pushed) rfl ?_
 walk_at "st"
 refine om_o lay3.L rfl ?_
 walk_at "st"
 refine ⟨rfl, L, a, b, c', d, st, rfl, lay3, by rw [nlen]; omega, fun p4 f4 => ?_⟩
 have lay4 := lay3.grow (Grows.put (x := .lst ((sortS (nms st.pushed)).map D.str)) f4)
 have g1 := Grows.put (x := .lst ((sortS (nms st.rooms)).map D.str)) f1
 have g2 := Grows.put (x := .lst ((sortS (nms st.lines)).map D.str)) f2
 have g3 := Grows.put (x := .lst ((sortS (nms st.drains)).map D.str)) f3
 have g4 := Grows.put (x := .lst ((sortS (nms st.pushed)).map D.str)) f4
 have t4 : AtL ((((S.set p1 (.lst ((sortS (nms st.rooms)).map D.str))).set p2 (.lst ((sortS (nms st.lines)).map D.str))).set p3 (.lst ((sortS (nms st.drains)).map D.str))).set p4 (.lst ((sortS (nms st.pushed)).map D.str))) [p1, p2, p3, p4] [sortS (nms st.rooms), sortS (nms st.lines), sortS (nms st.drains), sortS (nms st.pushed)] := (((AtL.one.grow g2).app AtL.one).grow g3 |>.app AtL.one).grow g4 |>.app AtL.one
 have gr : Grows S ((((S.set p1 (.lst ((sortS (nms st.rooms)).map D.str))).set p2 (.lst ((sortS (nms st.lines)).map D.str))).set p3 (.lst ((sortS (nms st.drains)).map D.str))).set p4 (.lst ((sortS (nms st.pushed)).map D.str))) := ((g1.trans g2).trans g3).trans g4
 have n1 : ∀ p ∈ [p1, p2, p3, p4], S p = none := fun p hp => by
  simp only [List.mem_cons, List.not_mem_nil, or_false] at hp
  rcases hp with rfl | rfl | rfl | rfl
  ·exact f1
  ·exact g1.new f2
  ·exact (g1.trans g2).new f3
  ·exact ((g1.trans g2).trans g3).new f4
 have nd : [p1, p2, p3, p4].Nodup := by
  have d12 := SS.ne_of (S := S.set p1 (.lst ((sortS (nms st.rooms)).map D.str))) SS.set_same f2
  have d13 := SS.ne_of ((g2 p1 (by rw [SS.set_same]; exact nofun)).trans SS.set_same) f3
  have d23 := SS.ne_of (S := (S.set p1 (.lst ((sortS (nms st.rooms)).map D.str))).set p2 (.lst ((sortS (nms st.lines)).map D.str))) SS.set_same f3
  have d14 := SS.ne_of (((g2.trans g3) p1 (by rw [SS.set_same]; exact nofun)).trans SS.set_same) f4
  have d24 := SS.ne_of ((g3 p2 (by rw [SS.set_same]; exact nofun)).trans SS.set_same) f4
  have d34 := SS.ne_of (S := ((S.set p1 (.lst ((sortS (nms st.rooms)).map D.str))).set p2 (.lst ((sortS (nms st.lines)).map D.str))).set p3 (.lst ((sortS (nms st.drains)).map D.str))) SS.set_same f4
  simp [d12, d13, d14, d23, d24, d34]
 clear g1 g2 g3 g4 lay1 lay2 lay3 f1 f2 f3 f4
 have ms4 := ms.grow gr
 generalize ((((S.set p1 (.lst ((sortS (nms st.rooms)).map D.str))).set p2 (.lst ((sortS (nms st.lines)).map D.str))).set p3 (.lst ((sortS (nms st.drains)).map D.str))).set p4 (.lst ((sortS (nms st.pushed)).map D.str))) = S4 at lay4 t4 gr ms4 ⊢
 walk_at "st"
 refine ix_k ms4.M rfl m_rooms ?_
 refine ⟨_, rfl, ?_⟩
 intro r fr
 refine ⟨fun i S' => ∃ (qs : List Addr) (S2 : SS), Grows S4 S2 ∧ (∀ q ∈ qs, S4 q = none) ∧ qs.Nodup ∧ AtL S2 qs (((sortS (nms st.rooms)).take i).map fun r => sortS (atR st r)) ∧ S2 r = none ∧ S' = S2.set r (.lst (qs.map D.obj)), ⟨[], S4, fun _ _ => rfl, (fun _ h => nomatch h), List.nodup_nil, rfl, fr, rfl⟩, fun _ _ _ _ => rfl, ?_, ?_⟩
 ·rintro i d S' hd ⟨qs, S2, g2, nq, uq, tq, f2, rfl⟩
  rw [List.getElem?_map, Option.map_eq_some_iff] at hd
  obtain ⟨z, hz, rfl⟩ := hd
  have mz := sort_mem.mp (List.mem_of_getElem? hz)
  have tk := take_snocG hz
  have lay5 := (lay4.grow g2).grow (Grows.put (x := .lst (qs.map D.obj)) f2)
  have lq := tq.len
  rw [List.length_map, List.length_take, sort_len, nlen] at lq
  refine tg_1 (c_nn ?_)
  rw [if_pos rfl]
  show den _ _ [some (.obj L), some (.obj M), some _, some (.str z)] _ _ _
  walk_at "st"
  refine d_om (T := TLinesAtC K) rfl ?_
  walk_at "st"
  refine om_o lay5.L rfl ?_
  walk_at "st"
  refine ⟨rfl, L, a, b, c', d, st, n, z, rfl, ok.room mz, lay5, ok, mz, fun q fq => ?_⟩
  have qr : q ≠ r := fun e => by rw [e, SS.set_same] at fq; cases fq
  rw [SS.set_ne qr] at fq
  have gq := Grows.put (x := .lst ((sortS (atR st z)).map D.str)) fq
  refine ⟨qs.map D.obj, by rw [SS.set_ne qr.symm]; exact SS.set_same, by rw [List.length_map, sizeLine_eq]; omega, qs ++ [q], S2.set q (.lst ((sortS (atR st z)).map D.str)), g2.trans gq, fun x hx => ?_, ?_, ?_, by rw [SS.set_ne qr.symm]; exact f2, ?_⟩
  ·rcases List.mem_append.mp hx with hx | hx
   ·exact nq x hx
   ·rw [List.mem_singleton.mp hx]; exact g2.new fq
  ·exact List.nodup_append.mpr ⟨uq, by simp, fun x hx y hy e => tq.there x hx (by rw [e, List.mem_singleton.mp hy]; exact fq)⟩
  ·rw [tk, List.map_append]
   exact (tq.grow gq).app AtL.one
  ·rw [SS.set_comm qr.symm, SS.set_set, List.map_append]
   rfl
 ·rintro S' ⟨qs, S2, g2, nq, uq, tq, f2, rfl⟩
  have lq := tq.len
  rw [List.length_map, List.length_take, sort_len, nlen] at lq
  rw [List.length_map, List.take_length] at tq
  refine ⟨qs.map D.obj, SS.set_same, ?_⟩
  rw [if_neg Bool.false_ne_true, SS.del_set f2]
  walk_at "st"
  have := hK ([p1, p2, p3, p4] ++ qs) S2 (gr.trans g2) (fun x hx => by
   rcases List.mem_append.mp hx with hx | hx
   ·exact n1 x hx
   ·exact gr.new (nq x hx)) (List.nodup_append.mpr ⟨nd, uq, fun x hx y hy e => t4.there x hx (by rw [e]; exact nq y hy)⟩) ((t4.grow g2).app tq)
  rw [List.map_append] at this
  exact this
 ) only [↓Qt.put_off]
theorem setD_lst {S : SS} {p : Addr} {ds : List D} {i : Int} {j : Nat} {z : D} {KS : SS → Prop} (h : S p = some (.lst ds)) (e : ixN ds.length i = some j) (k : KS (S.set p (.lst (ds.set j z)))) : setD (.obj p) (.int i) z S KS := by
 unfold setD
 simp only
 rw [h]
 exact ⟨i, j, rfl, e, k⟩
theorem atI_lastG {l : List D} {d : D} : atI (l ++ [d]) (-1) = some d := by
 have e : ixN (l ++ [d]).length (-1) = some l.length := by
  unfold ixN
  rw [List.length_append]
  simp
  omega
 unfold atI
 rw [e]
 simp
theorem drop_atG {α : Type} {r : List α} {i : Nat} {h : α} (e : r[i]? = some h) : r.drop i = h :: r.drop (i + 1) := by
 obtain ⟨h1, h2⟩ := List.getElem?_eq_some_iff.mp e
 rw [List.drop_eq_getElem_cons h1, h2]
theorem me28 (c : SaysX fa fn fx K) : Meets ((tb K).sn N28) ((tb K).G K 28) 2 false TPut29 b28 := by
 refine Qt.put_in ?_
 simp (disch :=
 with_unfolding_all
 refine Qt.keep ?_
 rintro m hm ds S KK Y ⟨rfl, g, cb, ps, ls, rfl, hg, hcb, gn, up, at0, fn0, few, hK⟩
 refine ⟨rfl, ?_⟩
 show denSs _ b28 [some _, some _, none, none] _ _ _
 unfold b28
 walk_at "st"
 refine d_call (T := TTake) rfl ?_
 walk_at "st"
 refine ⟨rfl, g, 4, cb, rfl, by decide, by decide, hg, hcb, fun w c1 w0 w1 hc1 => ?_⟩
 have at1 : AtL (S.set g c1) ps ls := at0.same fun p hp => SS.set_ne fun e => gn (by rw [← e]; exact hp)
 walk_at "st"
 refine ⟨_, rfl, ?_⟩
 refine ⟨fun i δ' S' => ∃ x3 rs, S' g = some c1 ∧ (∀ q, q ∉ ps → q ≠ g → S' q = S q) ∧ AtL S' (ps.drop i) rs ∧ (∀ l ∈ rs, (∀ z ∈ l, Nm z) ∧ l.length < 100) ∧ δ' = [some (.obj g), some (.lst (ps.map D.obj)), some (.int w), x3], ⟨none, ls, SS.set_same, fun q _ hq => SS.set_ne hq, at1, fn0, rfl⟩, fun _ _ _ _ _ => rfl, ?_, ?_⟩
 ·rintro i d0 δ' S' hd ⟨x3, rs, hg', old, at', fn', rfl⟩
  rw [List.getElem?_map, Option.map_eq_some_iff] at hd
  obtain ⟨p, hp, rfl⟩ := hd
  have mp := List.mem_of_getElem? hp
  have dp := drop_atG hp
  rw [dp] at at'
  obtain ⟨l, r, el, hl, at2⟩ := at'
  obtain ⟨nl, fl⟩ := fn' l (by rw [el]; exact List.mem_cons_self)
  have pg : g ≠ p := fun e => gn (by rw [e]; exact mp)
  have nx : p ∉ ps.drop (i + 1) := by
   have u : (ps.drop i).Nodup := List.Pairwise.sublist (List.drop_sublist _ _) up
   rw [dp] at u
   exact (List.nodup_cons.mp u).1
  have nxt : ∀ x : Cell, ∃ x3 rs, (S'.set p x) g = some c1 ∧ (∀ q, q ∉ ps → q ≠ g → (S'.set p x) q = S q) ∧ AtL (S'.set p x) (ps.drop (i + 1)) rs ∧ (∀ l ∈ rs, (∀ z ∈ l, Nm z) ∧ l.length < 100) ∧ ([some (.obj g), some (.lst (ps.map D.obj)), some (.int w), some (.obj p)] : DS) = [some (.obj g), some (.lst (ps.map D.obj)), some (.int w), x3] := fun x => ⟨_, r, by rw [SS.set_ne pg]; exact hg', fun q h1 h2 => by rw [SS.set_ne fun e => h1 (by rw [e]; exact mp)]; exact old q h1 h2, at2.same fun q hq => SS.set_ne fun e => nx (by rw [← e]; exact hq), fun y hy => fn' y (by rw [el]; exact List.mem_cons_of_mem _ hy), rfl⟩
  refine tg_1 ?_
  walk_at "st"
  by_cases h0 : w = 0
  ·rw [if_pos (decide_eq_true h0)]
   walk_at "st"
   refine ⟨⟨_, vw_l hl⟩, ?_⟩
   walk_at "st"
   refine app_o hl (by rw [List.length_map, sizeLine_eq]; omega) ?_
   walk_at "st"
   exact nxt _
  rw [if_neg (by rw [decide_eq_true_eq]; exact h0)]
  walk_at "st"
  by_cases h1 : w = 1
  ·rw [if_pos (decide_eq_true h1)]
   walk_at "st"
   refine ⟨⟨_, vw_l hl⟩, ?_⟩
   walk_at "st"
   refine ⟨_, hl, ?_⟩
   walk_at "st"
   exact nxt _
  rw [if_neg (by rw [decide_eq_true_eq]; exact h1)]
  walk_at "st"
  refine c_neOG hl (fun z hz => (nl z hz).fine) ?_
  walk_at "st"
  cases l with
  | nil =>
   rw [if_neg (by decide)]
   walk_at "st"
   exact ⟨_, r, hg', old, at2, fun y hy => fn' y (by rw [el]; exact List.mem_cons_of_mem _ hy), rfl⟩
  | cons y ys =>
   rw [if_pos (show (!(y :: ys).isEmpty) = true from rfl)]
   obtain ⟨l', z, e⟩ : ∃ l' z, y :: ys = l' ++ [z] := ⟨(y :: ys).dropLast, (y :: ys).getLast (by simp), (List.dropLast_concat_getLast _).symm⟩
   rw [e] at hl nl fl
   rw [List.map_append] at hl
   walk_at "st"
   by_cases h2 : w = 2
   ·rw [if_pos (decide_eq_true h2)]
    walk_at "st"
    refine ix_o hl atI_lastG ?_
    walk_at "st"
    have nz := nl z (by simp)
    refine o_addS ?_ ?_
    ·have := nz.1
     rw [sizeLine_eq]
     show z.cps.size + 1 ≤ _
     rw [Array.length_toList] at this
     omega
    walk_at "st"
    refine setD_lst (j := 0) hl ?_ ?_
    ·unfold ixN
     rw [List.length_append]
     simp
    walk_at "st"
    exact nxt _
   ·rw [if_neg (by rw [decide_eq_true_eq]; exact h2)]
    walk_at "st"
    refine ⟨⟨_, vw_l hl⟩, ?_⟩
    walk_at "st"
    refine ⟨_, .str z, hl, ?_, ?_⟩
    ·rw [List.length_append, List.length_map]
     simp
    walk_at "st"
    exact nxt _
 ·rintro δ' S' ⟨x3, rs, hg', old, at', fn', rfl⟩
  walk_at "st"
  exact hK c1 S' hc1 hg' old
 ) only [↓Qt.put_off]
end Cl
namespace Cl
open PySem PySem.Spec PyProof.Rows L2 Sv
variable {K : PySem.W.Frag}
def W29 : List Str := ["add_room", "add_line", "add_room", "add_line", "add_drain", "add_source", "add_line", "add_drain", "take_line", "take_drain", "take_source", "take_room"]
/-! ### some layouts that share the bag -/
structure WF (C : Addr) (S : SS) (g : Addr) (cb : Cell) (ws : List (Ad × Lay)) : Prop where
 one : ∀ w ∈ ws, Apart w.1 ∧ w.1.g = g ∧ Ok 0 w.2 ∧ Has C S w.1 w.2 cb
 two : ∀ (i j : Nat) (v w : Ad × Lay), ws[i]? = some v → ws[j]? = some w → i ≠ j → Apart2 v.1 w.1
 at_g : S g = some cb
section
variable {C g : Addr} {S S' S1 S2 : SS} {cb cb2 : Cell} {ws : List (Ad × Lay)} {A : Ad} {st : Lay}
theorem Has.same (h : Has C S A st cb) (e : ∀ q, ¬ Off A q → S' q = S q) : Has C S' A st cb := by
 funext q
 by_cases o : Off A q
 ·exact put_at o
 ·rw [e q o, ← congrFun h q]
  by_cases eq : q = A.g
  ·subst eq
   exact put_g.trans put_g.symm
  ·exact put_on o eq
theorem WF.bag (h : WF C S g cb ws) : WF C (S.set g cb2) g cb2 ws :=
 ⟨fun w hw => by
  obtain ⟨a, e, o, l⟩ := h.one w hw
  refine ⟨a, e, o, ?_⟩
  rw [← e]
  exact l.bag, h.two, SS.set_same⟩
theorem WF.grow (h : WF C S g cb ws) (gr : Grows S S') : WF C S' g cb ws :=
 ⟨fun w hw => by
  obtain ⟨a, e, o, l⟩ := h.one w hw
  exact ⟨a, e, o, l.grow gr⟩, h.two, gr.old h.at_g⟩
theorem WF.same (h : WF C S g cb ws) (e : ∀ w ∈ ws, ∀ q, ¬ Off w.1 q → S' q = S q) (eg : S' g = S g) : WF C S' g cb ws :=
 ⟨fun w hw => by
  obtain ⟨a, e1, o, l⟩ := h.one w hw
  exact ⟨a, e1, o, l.same (e w hw)⟩, h.two, eg.trans h.at_g⟩
theorem set_fst {k : Nat} {w : Ad × Lay} (hk : ws[k]? = some w) : (ws.set k (w.1, st)).map (·.1) = ws.map (·.1) := by
 obtain ⟨hlt, _⟩ := List.getElem?_eq_some_iff.mp hk
 rw [List.map_set]
 refine List.ext_getElem? fun i => ?_
 rw [List.getElem?_set, List.getElem?_map, List.length_map]
 split
 ·rename_i z
  try rw [if_pos hlt]
  rw [← z, hk]
  rfl
 ·rfl
theorem WF.step {k : Nat} {w : Ad × Lay} (h : WF C S g cb ws) (hk : ws[k]? = some w) (ok : Ok 0 st) : WF C (put C S w.1 st st cb2) g cb2 (ws.set k (w.1, st)) := by
 obtain ⟨hlt, hwk⟩ := List.getElem?_eq_some_iff.mp hk
 obtain ⟨a, e, o, l⟩ := h.one w (List.mem_of_getElem? hk)
 refine ⟨fun v hv => ?_, fun i j u v hu hv ne => ?_, by rw [← e]; exact put_g⟩
 ·obtain ⟨i, hi⟩ := List.mem_iff_getElem?.mp hv
  rw [List.getElem?_set] at hi
  split at hi
  ·try rw [if_pos hlt] at hi
   cases hi
   exact ⟨a, e, ok, Has.own⟩
  ·rename_i ne
   obtain ⟨a2, e2, o2, l2⟩ := h.one v (List.mem_of_getElem? hi)
   exact ⟨a2, e2, o2, l2.other (e.trans e2.symm) (h.two k i w v hk hi ne)⟩
 ·rw [List.getElem?_set] at hu hv
  have up : ∀ {i : Nat} {u : Ad × Lay}, (if k = i then if k < ws.length then some (w.1, st) else none else ws[i]?) = some u → ∃ u0, ws[i]? = some u0 ∧ u0.1 = u.1 := by
   intro i u hu
   split at hu
   ·rename_i z
    try rw [if_pos hlt] at hu
    cases hu
    exact ⟨w, z ▸ hk, rfl⟩
   ·exact ⟨u, hu, rfl⟩
  obtain ⟨u0, h1, e1⟩ := up hu
  obtain ⟨v0, h2, e2⟩ := up hv
  have := h.two i j u0 v0 h1 h2 ne
  rw [e1, e2] at this
  exact this
theorem WF.add (h : WF C S g cb ws) (gr : Grows S S') (ap : Apart A) (hg : A.g = g) (ok : Ok 0 st) (new : ∀ q, ¬ Off A q → q ≠ g → S q = none) (l : LayS C S' A.L A.a A.b A.c A.d st) (m : MS S' A.M A.e A.f st) : WF C S' g cb (ws ++ [(A, st)]) := by
 have mine : Has C S' A st cb := has_of l m (by rw [hg]; exact gr.old h.at_g)
 have dis : ∀ w ∈ ws, Apart2 w.1 A := fun w hw q hq => by
  obtain ⟨a, e, o, l⟩ := h.one w hw
  by_cases z : Off A q
  ·exact .inr z
  ·exact .inl (l.new (new q z (by rw [← e]; exact hq)))
 have flip : ∀ {A B : Ad}, A.g = B.g → Apart2 A B → Apart2 B A := fun e d q hq => (d q (by rw [e]; exact hq)).symm
 refine ⟨fun w hw => ?_, fun i j u v hu hv ne => ?_, gr.old h.at_g⟩
 ·rcases List.mem_append.mp hw with hw | hw
  ·obtain ⟨a, e, o, l⟩ := h.one w hw
   exact ⟨a, e, o, l.grow gr⟩
  ·cases List.mem_singleton.mp hw
   exact ⟨ap, hg, ok, mine⟩
 ·rw [List.getElem?_append] at hu hv
  have lastOne : ∀ {i : Nat} {u : Ad × Lay}, ¬ i < ws.length → [(A, st)][i - ws.length]? = some u → u = (A, st) ∧ i = ws.length := by
   intro i u hi hu
   obtain ⟨hlt, e⟩ := List.getElem?_eq_some_iff.mp hu
   simp at hlt
   have z : i - ws.length = 0 := by omega
   rw [z] at hu
   exact ⟨(Option.some.inj hu).symm, by omega⟩
  split at hu
  ·split at hv
   ·exact h.two i j u v hu hv ne
   ·rename_i hj
    obtain ⟨rfl, _⟩ := lastOne hj hv
    exact dis u (List.mem_of_getElem? hu)
  ·rename_i hi
   obtain ⟨rfl, ei⟩ := lastOne hi hu
   split at hv
   ·have hv := List.mem_of_getElem? hv
    exact flip ((h.one v hv).2.1.trans hg.symm) (dis v hv)
   ·rename_i hj
    obtain ⟨rfl, ej⟩ := lastOne hj hv
    exact absurd (ei.trans ej.symm) ne
theorem WF.fresh {L a b c d M e f : Addr} (h : WF C S g cb ws) (g1 : Grows S S1) (fL : S L = none) (fa : S a = none) (fb : S b = none) (fc : S c = none) (fd : S d = none)
  (La : L ≠ a) (Lb : L ≠ b) (Lc : L ≠ c) (Ld : L ≠ d) (ab : a ≠ b) (ac : a ≠ c) (ad : a ≠ d) (bc : b ≠ c) (bd : b ≠ d) (cd : c ≠ d) (l : LayS C S1 L a b c d st) (ok2 : Ok 0 st) (g2 : Grows S1 S2) (fM : S1 M = none) (fe : S1 e = none) (ff : S1 f = none)
  (Me : M ≠ e) (Mf : M ≠ f) (ef : e ≠ f) (m : MS S2 M e f st) :
  ∃ A : Ad, A.g = g ∧ A.L = L ∧ A.M = M ∧ WF C S2 g cb (ws ++ [(A, st)]) := by
 have hg : ∀ {q : Addr}, S q = none → g ≠ q := fun h2 z => by rw [← z, h.at_g] at h2; cases h2
 have l1 : ∀ {q r : Addr} {x : Cell}, S1 q = some x → S1 r = none → q ≠ r := fun h1 h2 z => by rw [← z, h1] at h2; cases h2
 have n : ∀ {q : Addr}, S1 q = none → S q = none := fun k => g1.new k
 refine ⟨⟨g, L, a, b, c, d, M, e, f⟩, rfl, rfl, rfl, h.add (g1.trans g2) ⟨hg fL, hg fa, hg fb, hg fc, hg fd, hg (n fM), hg (n fe), hg (n ff), La, Lb, Lc, Ld, l1 l.L fM, l1 l.L fe, l1 l.L ff, ab, ac, ad, l1 l.a fM, l1 l.a fe, l1 l.a ff,
  bc, bd, l1 l.b fM, l1 l.b fe, l1 l.b ff, cd, l1 l.c fM, l1 l.c fe, l1 l.c ff, l1 l.d fM, l1 l.d fe, l1 l.d ff, Me, Mf, ef⟩ rfl ok2 (fun q hq hg => ?_) ⟨g2.old l.L, g2.old l.a, g2.old l.b, g2.old l.c, g2.old l.d⟩ m⟩
 refine Decidable.byContradiction fun z => hq ?_
 exact ⟨hg, fun k => z (k ▸ fL), fun k => z (k ▸ fa), fun k => z (k ▸ fb), fun k => z (k ▸ fc), fun k => z (k ▸ fd), fun k => z (k ▸ n fM), fun k => z (k ▸ n fe), fun k => z (k ▸ n ff)⟩
theorem put4_lay {L a b c d : Addr} (aL : a ≠ L) (bL : b ≠ L) (cL : c ≠ L) (dL : d ≠ L) (ab : a ≠ b) (ac : a ≠ c) (ad : a ≠ d) (bc : b ≠ c) (bd : b ≠ d) (cd : c ≠ d) : LayS C (put4 C S L a b c d) L a b c d lay0 := by
 refine ⟨?_, ?_, ?_, ?_, ?_⟩ <;> unfold put4
 ·simp
 ·simp [aL, mapK, lay0]
 ·simp [bL, ab.symm, mapK, lay0]
 ·simp [cL, ac.symm, bc.symm, mapK, lay0]
 ·simp [dL, ad.symm, bd.symm, cd.symm, mapK, lay0]
theorem put4_grow {x : Cell} {L a b c d : Addr} (fL : S L = none) (fa : (S.set L x) a = none) (fb : (S.set L x) b = none) (fc : (S.set L x) c = none) (fd : (S.set L x) d = none) : Grows S (put4 C (S.set L x) L a b c d) := fun q hq => by
 have n : ∀ {r : Addr}, (S.set L x) r = none → q ≠ r := fun {r} h z => by
  subst z
  by_cases e : q = L
  ·rw [e, SS.set_same] at h; cases h
  ·rw [SS.set_ne e] at h; exact hq h
 have nL : q ≠ L := fun z => hq (by rw [z]; exact fL)
 unfold put4
 rw [if_neg nL, if_neg (n fa), if_neg (n fb), if_neg (n fc), if_neg (n fd), SS.set_ne nL]
theorem put3_ms {M e f : Addr} (Me : M ≠ e) (Mf : M ≠ f) (ef : e ≠ f) : MS (put3 S M e f) M e f lay0 := by
 refine ⟨Me, Mf, ?_, ?_, ?_⟩ <;> unfold put3
 ·simp
 ·simp [Me.symm, mapK, lay0]
 ·simp [Mf.symm, ef.symm, mapK, lay0]
theorem put3_grow {M e f : Addr} (fM : S M = none) (fe : S e = none) (ff : S f = none) : Grows S (put3 S M e f) := fun q hq => by
 have n : ∀ {r : Addr}, S r = none → q ≠ r := fun h z => hq (by rw [z]; exact h)
 unfold put3
 rw [if_neg (n fM), if_neg (n fe), if_neg (n ff)]
end
theorem okds_all {n : Nat} : ∀ {ds : List D}, (∀ d ∈ ds, D.okd n d = true) → D.okds n ds = true
 | [], _ => rfl
 | d :: ds, h => by
  simp only [D.okds, Bool.and_eq_true]
  exact ⟨h d List.mem_cons_self, okds_all fun e he => h e (List.mem_cons_of_mem _ he)⟩
/-! ### what is held -/
def lsD (ls : List (List Str)) : D := .lst (ls.map fun l => .lst (l.map D.str))
def psD (ps : List Addr) : D := .lst (ps.map D.obj)
def heldD (h : List Addr × List (List Str)) : D := .tup [psD h.1, lsD h.2]
def Fine (ls : List (List Str)) : Prop := ls.length ≤ 64 ∧ ∀ l ∈ ls, (∀ z ∈ l, Nm z) ∧ l.length ≤ 64
structure St29 (C : Addr) (S : SS) (g p : Addr) (cb : Cell) (As : List Ad) (ws : List (Ad × Lay)) (hs : List (List Addr × List (List Str))) : Prop where
 wf : WF C S g cb ws
 as_ : ws.map (·.1) = As
 at_p : S p = some (.lst (hs.map heldD))
 pg : p ≠ g
 po : ∀ a ∈ As, Off a p
 all : ∀ h ∈ hs, AtL S h.1 h.2 ∧ (∀ q ∈ h.1, q ≠ g ∧ q ≠ p ∧ ∀ a ∈ As, Off a q) ∧ Fine h.2
section
variable {C g p : Addr} {S S' : SS} {cb cb2 : Cell} {As : List Ad} {ws : List (Ad × Lay)} {hs : List (List Addr × List (List Str))} {ps : List Addr} {ls : List (List Str)}
theorem St29.in_as (h : St29 C S g p cb As ws hs) {w : Ad × Lay} (hw : w ∈ ws) : w.1 ∈ As := by rw [← h.as_]; exact List.mem_map.mpr ⟨w, hw, rfl⟩
theorem St29.bag (h : St29 C S g p cb As ws hs) : St29 C (S.set g cb2) g p cb2 As ws hs :=
 ⟨h.wf.bag, h.as_, by rw [SS.set_ne h.pg]; exact h.at_p, h.pg, h.po, fun x hx => by
  obtain ⟨a, o, f⟩ := h.all x hx
  exact ⟨a.same fun q hq => SS.set_ne (o q hq).1, o, f⟩⟩
theorem St29.step {k : Nat} {w : Ad × Lay} {st : Lay} (h : St29 C S g p cb As ws hs) (hk : ws[k]? = some w) (ok : Ok 0 st) : St29 C (put C S w.1 st st cb2) g p cb2 As (ws.set k (w.1, st)) hs := by
 have hw := h.in_as (List.mem_of_getElem? hk)
 refine ⟨h.wf.step hk ok, (set_fst hk).trans h.as_, by rw [put_at (h.po _ hw)]; exact h.at_p, h.pg, h.po, fun x hx => ?_⟩
 obtain ⟨a, o, f⟩ := h.all x hx
 exact ⟨a.same fun q hq => put_at ((o q hq).2.2 _ hw), o, f⟩
theorem St29.grow (h : St29 C S g p cb As ws hs) (gr : Grows S S') : St29 C S' g p cb As ws hs :=
 ⟨h.wf.grow gr, h.as_, gr.old h.at_p, h.pg, h.po, fun x hx => by
  obtain ⟨a, o, f⟩ := h.all x hx
  exact ⟨a.grow gr, o, f⟩⟩
theorem St29.new (h : St29 C S g p cb As ws hs) {q : Addr} (n : S q = none) : q ≠ g ∧ q ≠ p ∧ (∀ a ∈ As, Off a q) ∧ ∀ x ∈ hs, q ∉ x.1 :=
 ⟨fun e => (by rw [e, h.wf.at_g] at n; cases n), fun e => (by rw [e, h.at_p] at n; cases n), fun a ha => by
  rw [← h.as_] at ha
  obtain ⟨w, hw, rfl⟩ := List.mem_map.mp ha
  exact (h.wf.one w hw).2.2.2.new n, fun x hx hq => (h.all x hx).1.there q hq n⟩
theorem St29.otherwise (h : St29 C S g p cb As ws hs) (out : ∀ q ∈ ps, q ≠ g ∧ q ≠ p ∧ (∀ a ∈ As, Off a q) ∧ ∀ x ∈ hs, q ∉ x.1) (hg : S' g = some cb2) (old : ∀ q, q ∉ ps → q ≠ g → S' q = S q) : St29 C S' g p cb2 As ws hs := by
 have k := h.bag (cb2 := cb2)
 have eg : S' g = (S.set g cb2) g := by rw [hg, SS.set_same]
 have same : ∀ q, q ∉ ps → S' q = (S.set g cb2) q := fun q hq => by
  by_cases e : q = g
  ·rw [e]; exact eg
  ·rw [SS.set_ne e]; exact old q hq e
 refine ⟨k.wf.same (fun w hw q hq => same q fun z => hq ((out q z).2.2.1 _ (h.in_as hw))) eg, h.as_, ?_, h.pg, h.po, fun x hx => ?_⟩
 ·rw [same p fun z => (out p z).2.1 rfl]
  exact k.at_p
 ·obtain ⟨a, o, f⟩ := k.all x hx
  exact ⟨a.same fun q hq => same q fun z => (out q z).2.2.2 x hx hq, o, f⟩
theorem St29.hold (h : St29 C S g p cb As ws hs) (at_ : AtL S ps ls) (out : ∀ q ∈ ps, q ≠ g ∧ q ≠ p ∧ (∀ a ∈ As, Off a q) ∧ ∀ x ∈ hs, q ∉ x.1) (f : Fine ls) : St29 C (S.set p (.lst (hs.map heldD ++ [heldD (ps, ls)]))) g p cb As ws (hs ++ [(ps, ls)]) := by
 refine ⟨h.wf.same (fun w hw q hq => SS.set_ne fun e => hq (by rw [e]; exact h.po _ (h.in_as hw))) (SS.set_ne h.pg.symm), h.as_, by rw [SS.set_same, List.map_append]; rfl, h.pg, h.po, fun x hx => ?_⟩
 rcases List.mem_append.mp hx with hx | hx
 ·obtain ⟨a, o, f⟩ := h.all x hx
  exact ⟨a.same fun q hq => SS.set_ne (o q hq).2.1, o, f⟩
 ·cases List.mem_singleton.mp hx
  exact ⟨at_.same fun q hq => SS.set_ne (out q hq).2.1, fun q hq => ⟨(out q hq).1, (out q hq).2.1, (out q hq).2.2.1⟩, f⟩
theorem AtL.vw : ∀ {ps : List Addr} {ls : List (List Str)}, AtL S ps ls → (ps.map D.obj).map (vw S) = ls.map fun l => .lst (l.map D.str)
 | [], _, h => by rw [show _ = [] from h]; rfl
 | p :: ps, _, ⟨l, r, e, h, t⟩ => by rw [e, List.map_cons, List.map_cons, List.map_cons, vw_l h, AtL.vw t]
theorem dv_strs {n : Nat} (l : List Str) : (l.map D.str).map (dv S n) = l.map D.str := by
 rw [List.map_map]
 refine List.map_congr_left fun z _ => ?_
 cases n <;> rfl
theorem AtL.dv {n : Nat} : ∀ {ps : List Addr} {ls : List (List Str)}, AtL S ps ls → (ps.map D.obj).map (dv S (n + 1)) = ls.map fun l => .lst (l.map D.str)
 | [], _, h => by rw [show _ = [] from h]; rfl
 | p :: ps, _, ⟨l, r, e, h, t⟩ => by rw [e, List.map_cons, List.map_cons, List.map_cons, dv_l h, AtL.dv t, dv_strs]
theorem dv_ps {n : Nat} (h : AtL S ps ls) : dv S (n + 2) (psD ps) = lsD ls := by
 show D.lst ((ps.map D.obj).map (dv S (n + 1))) = _
 rw [h.dv]
 rfl
theorem dv_ls {n : Nat} : dv S (n + 2) (lsD ls) = lsD ls := by
 show D.lst ((ls.map fun l => .lst (l.map D.str)).map (dv S (n + 1))) = _
 rw [List.map_map]
 refine congrArg D.lst (List.map_congr_left fun l _ => ?_)
 show D.lst ((l.map D.str).map (dv S n)) = _
 rw [dv_strs]
theorem okd_ls {n : Nat} (h : ∀ l ∈ ls, ∀ z ∈ l, Nm z) : D.okd (n + 2) (lsD ls) = true := by
 unfold lsD
 simp only [D.okd, Bool.and_eq_true]
 refine ⟨rfl, okds_all fun d hd => ?_⟩
 obtain ⟨l, hl, rfl⟩ := List.mem_map.mp hd
 simp only [D.okd, Bool.and_eq_true]
 exact ⟨rfl, okds_strs _ l fun z hz => (h l hl z hz).fine⟩
theorem eqv_self {d : D} (h : D.okd 60 d = true) : D.eqv d d = true := by
 unfold D.eqv
 exact SeqAt.eqv_refl _ (okd_lay d 60 h).1
end
theorem told_fine {st : Lay} (ok : Ok 0 st) : Fine (toldL st) := by
 have lr := ok.r
 have ll := ok.l
 have ld := ok.d
 have lp := ok.p
 have nlen : ∀ {α : Type} (l : List (Str × α)), (nms l).length = l.length := fun l => List.length_map ..
 refine ⟨?_, fun l hl => ?_⟩
 ·unfold toldL
  rw [List.length_append, List.length_map, sort_len, nlen]
  show 4 + _ ≤ 64
  omega
 ·rcases List.mem_append.mp hl with hl | hl
  ·simp only [List.mem_cons, List.not_mem_nil, or_false] at hl
   rcases hl with rfl | rfl | rfl | rfl
   ·exact ⟨fun z hz => ok.room (sort_mem.mp hz), by rw [sort_len, nlen]; omega⟩
   ·refine ⟨fun z hz => ?_, by rw [sort_len, nlen]; omega⟩
    obtain ⟨q, hq, rfl⟩ := List.mem_map.mp (sort_mem.mp hz)
    exact (ok.nl q hq).1
   ·refine ⟨fun z hz => ?_, by rw [sort_len, nlen]; omega⟩
    obtain ⟨q, hq, rfl⟩ := List.mem_map.mp (sort_mem.mp hz)
    exact (ok.nd q hq).1
   ·refine ⟨fun z hz => ?_, by rw [sort_len, nlen]; omega⟩
    obtain ⟨q, hq, rfl⟩ := List.mem_map.mp (sort_mem.mp hz)
    exact ok.np q hq
  ·obtain ⟨z, _, rfl⟩ := List.mem_map.mp hl
   refine ⟨fun w hw => atR_nm ok (sort_mem.mp hw), ?_⟩
   rw [sort_len]
   have := sub_len (st := st) (z := z)
   omega
/-- one of the two is taken -/
theorem pick_two {As : List Ad} {ws : List (Ad × Lay)} {A B : Ad} (h : ws.map (·.1) = [A, B]) {u : Int} (h0 : 0 ≤ u) (h1 : u < 2) : ∃ (k : Nat) (w : Ad × Lay), ws[k]? = some w ∧ atI [D.tup [.obj A.L, .obj A.M], D.tup [.obj B.L, .obj B.M]] u = some (pairD w.1) := by
 match ws, h with
 | [v, w], h =>
  simp only [List.map_cons, List.map_nil, List.cons.injEq, and_true] at h
  obtain ⟨rfl, rfl⟩ := h
  obtain rfl | rfl : u = 0 ∨ u = 1 := by omega
  ·exact ⟨0, v, rfl, rfl⟩
  ·exact ⟨1, w, rfl, rfl⟩
def fst2 : D → D
 | .tup [a, _] => a | d => d
def snd2 : D → D
 | .tup [_, b] => b | d => d
theorem fsts2 {hs : List (List Addr × List (List Str))} : (hs.map heldD).map fst2 = hs.map fun x => psD x.1 := by
 rw [List.map_map]; rfl
theorem snds2 {hs : List (List Addr × List (List Str))} : (hs.map heldD).map snd2 = hs.map fun x => lsD x.2 := by
 rw [List.map_map]; rfl
theorem AtL.at {S : SS} : ∀ {ps : List Addr} {ls : List (List Str)} {q : Addr}, AtL S ps ls → q ∈ ps → ∃ l : List Str, S q = some (.lst (l.map D.str))
 | [], _, _, _, h => nomatch h
 | p :: ps, _, q, ⟨l, r, e, h, t⟩, hq => by
  rcases List.mem_cons.mp hq with rfl | hq
  ·exact ⟨l, h⟩
  ·exact AtL.at t hq
theorem fil_true {α : Type} (l : List α) : (l.filter fun _ => true) = l := List.filter_eq_self.mpr fun _ _ => rfl
end Cl
namespace Cl
open PySem PySem.Spec PyProof.Rows L2 Sv
variable {K : PySem.W.Frag}
theorem me44 (c : SaysX fa fn fx K) : Meets ((tb K).sn N44) ((tb K).G K 44) 1 false (lawT 63) b44 := by
 refine Qt.put_in ?_
 simp (disch :=
 with_unfolding_all
 refine Qt.keep ?_
 rintro m hm ds S KK Y ⟨ns, hns, rfl, hS, hK⟩
 have hm0 : m = none := by cases m with | none => rfl | some _ => cases hm
 subst hm0
 refine ⟨rfl, ?_⟩
 show denSs _ b44 [some _, none, none, none, none, none, none, none, none, none, none, none, none, none] _ _ _
 unfold b44
 walk_at "st"
 refine d_call (T := TBag) rfl ?_
 walk_at "st"
 refine ⟨rfl, ns, rfl, fun g c0 fg hc0 => ?_⟩
 walk_at "st"
 refine d_call (T := TNames) rfl ?_
 walk_at "st"
 refine d_call (T := TTake) rfl ?_
 walk_at "st"
 refine ⟨rfl, g, 6, c0, rfl, by decide, by decide, SS.set_same, hc0, fun nr c1 r0 r1 hc1 => ?_⟩
 rw [SS.set_set]
 walk_at "st"
 refine ⟨rfl, g, c1, _, rfl, by omega, by omega, SS.set_same, hc1, fun rs c2 rne rlen rnm hc2 => ?_⟩
 rw [SS.set_set]
 walk_at "st"
 refine d_call (T := TNames) rfl ?_
 walk_at "st"
 refine d_call (T := TTake) rfl ?_
 walk_at "st"
 refine ⟨rfl, g, 8, c2, rfl, by decide, by decide, SS.set_same, hc2, fun nd c3 d0 d1 hc3 => ?_⟩
 rw [SS.set_set]
 walk_at "st"
 refine ⟨rfl, g, c3, _, rfl, by omega, by omega, SS.set_same, hc3, fun vs c7 vne vlen vnm hc7 => ?_⟩
 rw [SS.set_set]
 have prs : Pool rs := ⟨rne, by omega, rnm⟩
 have pvs : Pool vs := ⟨vne, by omega, vnm⟩
 have W0 : WF (lc K) (S.set g c7) g c7 [] := ⟨(fun _ h => nomatch h), (fun i j v w h => nomatch h), SS.set_same⟩
 generalize S.set g c7 = S0 at W0 ⊢
 walk_at "st"
 refine d_mk (T := TInit K) rfl rfl ?_
 walk_at "st"
 intro L fL
 refine ⟨rfl, L, rfl, SS.set_same, fun a b c' d aL bL cL dL ab ac ad bc bd cd fa fb fc fd => ⟨rfl, ?_⟩⟩
 have l1 := put4_lay (C := lc K) (S := S0.set L (.ins ((((tb K).G K 44 none).toGm).mc 2) [])) aL bL cL dL ab ac ad bc bd cd
 have g1 := put4_grow (C := lc K) fL fa fb fc fd
 have un : ∀ {q : Addr}, (S0.set L (.ins ((((tb K).G K 44 none).toGm).mc 2) [])) q = none → S0 q = none := fun {q} h => by
  by_cases e : q = L
  ·rw [e]; exact fL
  ·rw [SS.set_ne e] at h; exact h
 have fa := un fa
 have fb := un fb
 have fc := un fc
 have fd := un fd
 clear un
 change LayS (lc K) (put4 (lc K) _ L a b c' d) _ _ _ _ _ _ at l1
 generalize put4 (lc K) (S0.set L (.ins ((((tb K).G K 44 none).toGm).mc 2) [])) L a b c' d = S1 at l1 g1 ⊢
 walk_at "st"
 refine d_call (T := TNew) rfl ?_
 walk_at "st"
 refine ⟨rfl, rfl, fun M e f Me Mf ef fM fe ff => ?_⟩
 obtain ⟨A, eg, eL, eM, W1⟩ := W0.fresh g1 fL fa fb fc fd aL.symm bL.symm cL.symm dL.symm ab ac ad bc bd cd l1 ok0 (put3_grow fM fe ff) fM fe ff Me Mf ef (put3_ms Me Mf ef)
 clear W0 l1 g1 fL fa fb fc fd aL bL cL dL ab ac ad bc bd cd
 generalize put3 S1 M e f = S2 at W1 ⊢
 subst eg eL eM
 clear Me Mf ef fM fe ff
 walk_at "st"
 refine d_mk (T := TInit K) rfl rfl ?_
 walk_at "st"
 intro L fL
 refine ⟨rfl, L, rfl, SS.set_same, fun a b c' d aL bL cL dL ab ac ad bc bd cd fa fb fc fd => ⟨rfl, ?_⟩⟩
 have l1 := put4_lay (C := lc K) (S := S2.set L (.ins ((((tb K).G K 44 none).toGm).mc 2) [])) aL bL cL dL ab ac ad bc bd cd
 have g1 := put4_grow (C := lc K) fL fa fb fc fd
 have un : ∀ {q : Addr}, (S2.set L (.ins ((((tb K).G K 44 none).toGm).mc 2) [])) q = none → S2 q = none := fun {q} h => by
  by_cases e : q = L
  ·rw [e]; exact fL
  ·rw [SS.set_ne e] at h; exact h
 have fa := un fa
 have fb := un fb
 have fc := un fc
 have fd := un fd
 clear un
 change LayS (lc K) (put4 (lc K) _ L a b c' d) _ _ _ _ _ _ at l1
 generalize put4 (lc K) (S2.set L (.ins ((((tb K).G K 44 none).toGm).mc 2) [])) L a b c' d = S3 at l1 g1 ⊢
 walk_at "st"
 refine d_call (T := TNew) rfl ?_
 walk_at "st"
 refine ⟨rfl, rfl, fun M e f Me Mf ef fM fe ff => ?_⟩
 obtain ⟨B, eg, eL, eM, W2⟩ := W1.fresh g1 fL fa fb fc fd aL.symm bL.symm cL.symm dL.symm ab ac ad bc bd cd l1 ok0 (put3_grow fM fe ff) fM fe ff Me Mf ef (put3_ms Me Mf ef)
 clear W1 l1 g1 fL fa fb fc fd aL bL cL dL ab ac ad bc bd cd
 generalize put3 S3 M e f = S4 at W2 ⊢
 subst eL eM
 clear Me Mf ef fM fe ff
 walk_at "st"
 intro p fp
 have W3 : St29 (lc K) (S4.set p (.lst [])) A.g p c7 [A, B] [(A, lay0), (B, lay0)] [] := ⟨W2.grow (Grows.put fp), rfl, SS.set_same, fun e => (by rw [e, W2.at_g] at fp; cases fp), fun a ha => by
  simp only [List.mem_cons, List.not_mem_nil, or_false] at ha
  rcases ha with rfl | rfl
  ·exact (W2.one _ List.mem_cons_self).2.2.2.new fp
  ·exact (W2.one (_, lay0) (List.mem_cons_of_mem _ List.mem_cons_self)).2.2.2.new fp, (fun _ h => nomatch h)⟩
 generalize S4.set p (.lst []) = S5 at W3 ⊢
 clear W2 fp eg
 walk_at "st"
 refine d_call (T := TTake) rfl ?_
 walk_at "st"
 refine ⟨rfl, A.g, 40, c7, rfl, by decide, by decide, W3.wf.at_g, hc7, fun many c8 m0 m1 hc8 => ?_⟩
 have W4 := W3.bag (cb2 := c8)
 walk_at "st"
 have bd := bnd (j := 6 + many) (by omega) (by omega)
 refine ⟨bd.1, bd.2, ?_⟩
 refine ⟨fun i δ' S' => ∃ cb ws hs x7 x8 x9 x10 x11 x12, St29 (lc K) S' A.g p cb [A, B] ws hs ∧ hs.length ≤ i ∧ BagOk cb ∧ δ' = [some (.lst (ns.map .int)), some (.obj A.g), some (.lst (rs.map D.str)), some (.lst (vs.map D.str)), some (.lst (W29.map D.str)), some (.lst [.tup [.obj A.L, .obj A.M], .tup [.obj B.L, .obj B.M]]), some (.obj p), x7, x8, x9, x10, x11, x12, none], ⟨c8, _, [], _, _, _, _, _, _, W4, Nat.le_refl _, hc8, rfl⟩, fun _ _ _ _ _ => trivial, ?_, ?_⟩
 ·rintro i d0 δ' S' hd ⟨cb, ws, hs, x7, x8, x9, x10, x11, x12, T0, hl, hcb, rfl⟩
  obtain ⟨hi, rfl⟩ := rngD_at hd
  have hi2 : i ≤ 60 := by omega
  refine tg_1 ?_
  walk_at "st"
  refine d_call (T := TTake) rfl ?_
  walk_at "st"
  refine ⟨rfl, A.g, 4, cb, rfl, by decide, by decide, T0.wf.at_g, hcb, fun how c1 h0 h1 hc1 => ?_⟩
  have T1 := T0.bag (cb2 := c1)
  clear T0
  walk_at "st"
  refine st_asg2 rfl ?_
  walk_at "st"
  refine o_mod (by decide) ?_
  obtain ⟨k, w, hk, ew⟩ := pick_two (As := []) T1.as_ (u := (0 + (i : Int)) % 2) (by omega) (by omega)
  refine ix_l ew ?_
  refine ⟨_, rfl, rfl, ?_⟩
  show denSs _ _ [some (.lst (ns.map .int)), some (.obj A.g), some (.lst (rs.map D.str)), some (.lst (vs.map D.str)), some (.lst (W29.map D.str)), some (.lst [.tup [.obj A.L, .obj A.M], .tup [.obj B.L, .obj B.M]]), some (.obj p), _, some (.int how), some (.obj w.1.L), some (.obj w.1.M), x11, x12, none] _ _ _
  walk_at "st"
  refine t_call (T := TStep K) rfl ?_
  walk_at "st"
  refine d_call (T := TDeed) rfl ?_
  walk_at "st"
  refine ⟨rfl, A.g, c1, rs, vs, W29, rfl, prs, pvs, by decide, by decide, by decide, T1.wf.at_g, hc1, fun dd c2 hw hc2 => ?_⟩
  have T2 := T1.bag (cb2 := c2)
  obtain ⟨ap, eg, ok, ha⟩ := T2.wf.one w (List.mem_of_getElem? hk)
  walk_at "st"
  refine ⟨rfl, _, w.1, w.2, c2, 0, dd, ha.symm, ap, rfl, hw, ok, by omega, ?_⟩
  have T3 := T2.step (cb2 := c2) hk (ok.next hw).any
  clear T1 T2
  walk_at "st"
  rw [if_neg (by decide)]
  walk_at "st"
  generalize ws.set k (w.1, next w.2 dd) = ws1 at T3 ⊢
  generalize put (lc K) (S'.set A.g c2) w.1 (next w.2 dd) (next w.2 dd) c2 = S6 at T3 ⊢
  refine st_asg2 rfl ?_
  walk_at "st"
  refine d_call (T := TTake) rfl ?_
  walk_at "st"
  refine ⟨rfl, A.g, 2, c2, rfl, by decide, by decide, T3.wf.at_g, hc2, fun u c3 u0 u1 hc3 => ?_⟩
  have T4 := T3.bag (cb2 := c3)
  clear T3
  obtain ⟨k2, v, hk2, ev⟩ := pick_two (As := []) T4.as_ (u := u) u0 u1
  refine ix_l ev ?_
  refine ⟨_, rfl, rfl, ?_⟩
  show denSs _ _ [some (.lst (ns.map .int)), some (.obj A.g), some (.lst (rs.map D.str)), some (.lst (vs.map D.str)), some (.lst (W29.map D.str)), some (.lst [.tup [.obj A.L, .obj A.M], .tup [.obj B.L, .obj B.M]]), some (.obj p), _, some (.int how), some (.obj v.1.L), some (.obj v.1.M), x11, x12, none] _ _ _
  generalize S6.set A.g c3 = S7 at T4 ⊢
  walk_at "st"
  by_cases hh : how < 2
  ·rw [if_pos (decide_eq_true hh)]
   obtain ⟨ap, eg, ok, ha⟩ := T4.wf.one v (List.mem_of_getElem? hk2)
   walk_at "st"
   refine d_call (T := TTold29 K) rfl ?_
   walk_at "st"
   refine ⟨rfl, v.1.L, _, _, _, _, v.1.M, _, _, v.2, 0, rfl, ha.lay ap, ha.ms ap, ok, by omega, fun ps S8 gr new ups at8 => ?_⟩
   have T5 := T4.grow gr
   have out : ∀ q ∈ ps, q ≠ A.g ∧ q ≠ p ∧ (∀ a ∈ [A, B], Off a q) ∧ ∀ x ∈ hs, q ∉ x.1 := fun q hq => T4.new (new q hq)
   have fine := told_fine ok
   clear T4 gr new ha
   walk_at "st"
   refine ⟨_, rfl, ?_⟩
   have lps := at8.len
   have lfew := fine.1
   refine lc_fm (vw S8) (fun _ => true) (by rw [List.length_map, sizeLine_eq]; omega) (fun _ _ _ => rfl) (fun r i acc d K1 KN hd hp hk hn => ?_) ?_
   ·rw [List.getElem?_map, Option.map_eq_some_iff] at hd
    obtain ⟨q, hq, rfl⟩ := hd
    obtain ⟨l, hl⟩ := at8.at (List.mem_of_getElem? hq)
    have qr : q ≠ r := SS.ne_of hl hp
    refine tg_1 (c_nn ?_)
    rw [if_pos rfl]
    walk_at "st"
    refine ⟨l.map D.str, .inl (vw_l (by rw [SS.set_ne qr]; exact hl)), ?_⟩
    rw [if_neg Bool.false_ne_true]
    have := hk rfl
    rw [vw_l hl] at this
    exact this
   ·rw [fil_true, at8.vw]
    walk_at "st"
    refine ss_cut (fun δ' S' => ∃ cb hs, St29 (lc K) S' A.g p cb [A, B] ws1 hs ∧ hs.length ≤ i + 1 ∧ BagOk cb ∧ δ' = [some (.lst (ns.map .int)), some (.obj A.g), some (.lst (rs.map D.str)), some (.lst (vs.map D.str)), some (.lst (W29.map D.str)), some (.lst [.tup [.obj A.L, .obj A.M], .tup [.obj B.L, .obj B.M]]), some (.obj p), some (.int (0 + (i : Int))), some (.int how), some (.obj v.1.L), some (.obj v.1.M), some (psD ps), some (lsD (toldL v.2)), none]) ?_ ?_
    ·walk_at "st"
     by_cases hz : how = 0
     ·rw [if_pos (decide_eq_true hz)]
      walk_at "st"
      refine d_call (T := TPut29) rfl ?_
      walk_at "st"
      refine ⟨rfl, A.g, c3, ps, _, rfl, T5.wf.at_g, hc3, fun h => (out _ h).1 rfl, ups, at8, fun l hl => ⟨(fine.2 l hl).1, by have := (fine.2 l hl).2; omega⟩, by omega, fun c4 S9 hc4 hg old => ?_⟩
      walk_at "st"
      exact ⟨c4, hs, T5.otherwise out hg old, by omega, hc4, rfl⟩
     ·rw [if_neg (by rw [decide_eq_true_eq]; exact hz)]
      walk_at "st"
      refine ⟨⟨_, vw_l T5.at_p⟩, ?_⟩
      walk_at "st"
      refine app_o T5.at_p (by rw [List.length_map, sizeLine_eq]; omega) ?_
      walk_at "st"
      exact ⟨c3, hs ++ [(ps, toldL v.2)], T5.hold at8 out fine, by rw [List.length_append]; show hs.length + 1 ≤ i + 1; omega, hc3, rfl⟩
    ·rintro δ2 S9 ⟨cb9, hs9, T6, hl9, hcb9, rfl⟩
     walk_at "st"
     refine t_call (T := TSame K) rfl ?_
     walk_at "st"
     refine d_call (T := TTake) rfl ?_
     walk_at "st"
     refine ⟨rfl, A.g, 3, cb9, rfl, by decide, by decide, T6.wf.at_g, hcb9, fun o c5 o0 o1 hc5 => ?_⟩
     have T7 := T6.bag (cb2 := c5)
     obtain ⟨ap, eg, ok, ha⟩ := T7.wf.one v (List.mem_of_getElem? hk2)
     walk_at "st"
     refine ⟨rfl, _, v.1, v.2, c5, 0, o, ha.symm, ap, rfl, o0, by omega, ok, by omega, ?_⟩
     walk_at "st"
     rw [if_neg (by decide)]
     walk_at "st"
     refine d_call (T := TTold29 K) rfl ?_
     walk_at "st"
     refine ⟨rfl, v.1.L, _, _, _, _, v.1.M, _, _, v.2, 0, rfl, ha.lay ap, ha.ms ap, ok, by omega, fun ps2 S10 gr new ups at10 => ?_⟩
     have T8 := T7.grow gr
     walk_at "st"
     have ok60 : D.okd 60 (lsD (toldL v.2)) = true := okd_ls fun l hl => (fine.2 l hl).1
     refine c_neW (a := lsD (toldL v.2)) (b := lsD (toldL v.2)) (dv_ps (n := 58) at10) (dv_ls (n := 58)) ok60 ok60 ?_
     rw [eqv_self ok60]
     walk_at "st"
     rw [if_neg (by decide)]
     walk_at "st"
     exact ⟨c5, ws1, hs9, _, _, _, _, _, _, T8, hl9, hc5, rfl⟩
  ·rw [if_neg (by rw [decide_eq_true_eq]; exact hh)]
   walk_at "st"
   exact ⟨c3, ws1, hs, _, _, _, _, _, _, T4, by omega, hc3, rfl⟩
 rintro δ' S' ⟨cb, ws, hs, x7, x8, x9, x10, x11, x12, T0, hl, hcb, rfl⟩
 rw [rngD_len] at hl
 walk_at "st"
 refine ⟨_, rfl, ?_⟩
 refine ⟨fun i δ' S' => ∃ cb y z, St29 (lc K) S' A.g p cb [A, B] ws hs ∧ BagOk cb ∧ δ' = [some (.lst (ns.map .int)), some (.obj A.g), some (.lst (rs.map D.str)), some (.lst (vs.map D.str)), some (.lst (W29.map D.str)), some (.lst [.tup [.obj A.L, .obj A.M], .tup [.obj B.L, .obj B.M]]), some (.obj p), x7, x8, y, z, x11, x12, none], ⟨cb, _, _, T0, hcb, rfl⟩, fun _ _ _ _ _ => rfl, ?_, ?_⟩
 ·rintro i d0 δ' S' hd ⟨cb, y, z, T1, hcb, rfl⟩
  obtain ⟨k, w, hk, rfl⟩ : ∃ (k : Nat) (w : Ad × Lay), ws[k]? = some w ∧ d0 = pairD w.1 := by
   have hi : i < 2 := (List.getElem?_eq_some_iff.mp hd).1
   obtain ⟨k, w, hk, ew⟩ := pick_two (As := []) T1.as_ (u := (i : Int)) (by omega) (by omega)
   rw [atI_nat hd] at ew
   exact ⟨k, w, hk, Option.some.inj ew⟩
  refine ⟨_, rfl, rfl, ?_⟩
  show denSs _ _ [some (.lst (ns.map .int)), some (.obj A.g), some (.lst (rs.map D.str)), some (.lst (vs.map D.str)), some (.lst (W29.map D.str)), some (.lst [.tup [.obj A.L, .obj A.M], .tup [.obj B.L, .obj B.M]]), some (.obj p), x7, x8, some (.obj w.1.L), some (.obj w.1.M), x11, x12, none] _ _ _
  walk_at "st"
  refine t_call (T := TSame K) rfl ?_
  walk_at "st"
  refine d_call (T := TTake) rfl ?_
  walk_at "st"
  refine ⟨rfl, A.g, 3, cb, rfl, by decide, by decide, T1.wf.at_g, hcb, fun o cb' o0 o1 hcb' => ?_⟩
  have T2 := T1.bag (cb2 := cb')
  obtain ⟨ap, eg, ok, ha⟩ := T2.wf.one w (List.mem_of_getElem? hk)
  walk_at "st"
  refine ⟨rfl, _, w.1, w.2, cb', 0, o, ha.symm, ap, rfl, o0, by omega, ok, by omega, ?_⟩
  walk_at "st"
  rw [if_neg (by decide)]
  walk_at "st"
  exact ⟨cb', _, _, T2, hcb', rfl⟩
 ·rintro δ' S' ⟨cb, y, z, T1, hcb, rfl⟩
  have hsz : hs.length ≤ 60 := by omega
  walk_at "st"
  refine ⟨_, vw_l T1.at_p, ?_⟩
  refine lc_fm fst2 (fun _ => true) (by rw [List.length_map, sizeLine_eq]; omega) (fun acc r hr => by rw [vw_l (by rw [SS.set_ne (SS.ne_of T1.at_p hr)]; exact T1.at_p)]) (fun r i acc d K1 KN hd hp hk hn => ?_) ?_
  ·rw [List.getElem?_map, Option.map_eq_some_iff] at hd
   obtain ⟨x, hx, rfl⟩ := hd
   refine ⟨_, rfl, rfl, ?_⟩
   refine c_nn ?_
   rw [if_pos rfl]
   show den _ _ [some _, some _, some _, some _, some _, some _, some _, x7, x8, y, z, some (psD x.1), some (lsD x.2), none] _ _ _
   walk_at "st"
   exact hk rfl
  ·rw [fil_true]
   walk_at "st"
   refine ⟨_, vw_l T1.at_p, ?_⟩
   refine lc_fm snd2 (fun _ => true) (by rw [List.length_map, sizeLine_eq]; omega) (fun acc r hr => by rw [vw_l (by rw [SS.set_ne (SS.ne_of T1.at_p hr)]; exact T1.at_p)]) (fun r i acc d K1 KN hd hp hk hn => ?_) ?_
   ·rw [List.getElem?_map, Option.map_eq_some_iff] at hd
    obtain ⟨x, hx, rfl⟩ := hd
    refine ⟨_, rfl, rfl, ?_⟩
    refine c_nn ?_
    rw [if_pos rfl]
    show den _ _ [some _, some _, some _, some _, some _, some _, some _, x7, x8, y, z, some (psD x.1), some (lsD x.2), none] _ _ _
    walk_at "st"
    exact hk rfl
   ·rw [fil_true, fsts2, snds2]
    have okA : D.okd 60 (.lst (hs.map fun x => lsD x.2)) = true := by
     simp only [D.okd, Bool.and_eq_true]
     refine ⟨rfl, okds_all fun d hd => ?_⟩
     obtain ⟨x, hx, rfl⟩ := List.mem_map.mp hd
     exact okd_ls (n := 57) fun l hl => ((T1.all x hx).2.2.2 l hl).1
    refine c_eqW (a := .lst (hs.map fun x => lsD x.2)) (b := .lst (hs.map fun x => lsD x.2)) ?_ ?_ okA okA ?_
    ·show D.lst ((hs.map fun x => psD x.1).map (dv S' 59)) = _
     rw [List.map_map]
     exact congrArg D.lst (List.map_congr_left fun x hx => dv_ps (n := 57) (T1.all x hx).1)
    ·show D.lst ((hs.map fun x => lsD x.2).map (dv S' 59)) = _
     rw [List.map_map]
     exact congrArg D.lst (List.map_congr_left fun x hx => dv_ls (n := 57))
    ·rw [eqv_self okA]
     exact hK _
 ) only [↓Qt.put_off]
end Cl
namespace Cl
open PySem PySem.Spec PyProof.Rows L2 Sv
open L2H (RoomH)
section
theorem no_T {P : TR → Prop} : ∀ T : TR, (none : Option TR) = some T → P T := fun _ h => nomatch h
theorem so_T {P : TR → Prop} {T0 : TR} (h0 : P T0) : ∀ T : TR, some T0 = some T → P T := fun _ h => by cases h; exact h0
variable {P : Program} {w : World} {K : PySem.W.Frag} {h : Heap} {mg : Str → Option Value} {base : Heap}
theorem tbok (X : K.In h) (G : h.Ns mainGlobals mg) (c : SaysX fa fn fx K) : TbOk (tb K) K mg where
 cl := fun x hx => by
  have hx : x ∈ clsL := hx
  simp only [clsL, List.mem_cons, List.not_mem_nil, or_false] at hx
  rcases hx with rfl | rfl | rfl | rfl | rfl | rfl | rfl
  ·exact He.glo_ok X G (c.d.fact 47 (f := .glo "MainsError") rfl)
  ·exact He.glo_ok X G (c.d.fact 48 (f := .glo "Wrong") rfl)
  ·exact He.glo_ok X G (c.d.fact 49 (f := .glo "There") rfl)
  ·exact He.glo_ok X G (c.d.fact 50 (f := .glo "Lacks") rfl)
  ·exact He.glo_ok X G (c.d.fact 51 (f := .glo "TooMany") rfl)
  ·exact He.glo_ok X G (c.d.fact 52 (f := .glo "InUse") rfl)
  ·exact He.glo_ok X G (c.d.fact 53 (f := .glo "Layout") rfl)
 gv := fun j x hx => by
  have hx : gvsL[j]? = some x := hx
  match j, hx with
  | 0, hx => cases hx; obtain ⟨t, e⟩ := He.str_ok X G (c.d.fact 76 rfl); exact ⟨.str "abcdefghijklmnopqrstuvwxyz", _, e, ⟨t, rfl⟩, fun S H => by show Rep _ S H (.str "abcdefghijklmnopqrstuvwxyz") _; simp only [Rep]⟩
  | 1, hx => cases hx; obtain ⟨t, e⟩ := He.int_ok X G (c.d.fact 77 rfl); exact ⟨.int 8, _, e, ⟨t, rfl⟩, fun S H => by show Rep _ S H (.int 8) _; simp only [Rep]⟩
  | 2, hx => cases hx; obtain ⟨t, e⟩ := He.int_ok X G (c.d.fact 78 rfl); exact ⟨.int 99, _, e, ⟨t, rfl⟩, fun S H => by show Rep _ S H (.int 99) _; simp only [Rep]⟩
  | 3, hx => cases hx; obtain ⟨t, e⟩ := He.int_ok X G (c.d.fact 79 rfl); exact ⟨.int 24, _, e, ⟨t, rfl⟩, fun S H => by show Rep _ S H (.int 24) _; simp only [Rep]⟩
  | 4, hx => cases hx; obtain ⟨t, e⟩ := He.int_ok X G (c.d.fact 80 rfl); exact ⟨.int 40, _, e, ⟨t, rfl⟩, fun S H => by show Rep _ S H (.int 40) _; simp only [Rep]⟩
  | 5, hx => cases hx; obtain ⟨t, e⟩ := He.int_ok X G (c.d.fact 81 rfl); exact ⟨.int 12, _, e, ⟨t, rfl⟩, fun S H => by show Rep _ S H (.int 12) _; simp only [Rep]⟩
  | n + 6, hx => cases hx
 bt := fun x hx => by
  simp only [bnames, List.mem_cons, List.not_mem_nil, or_false] at hx
  rcases hx with rfl | rfl | rfl | rfl | rfl | rfl | rfl | rfl | rfl | rfl | rfl | rfl | rfl | rfl | rfl | rfl | rfl | rfl | rfl | rfl | rfl | rfl
  ·exact He.free_ok X G (c.d.fact 54 (f := .free "len") rfl)
  ·exact He.free_ok X G (c.d.fact 55 (f := .free "abs") rfl)
  ·exact He.free_ok X G (c.d.fact 56 (f := .free "max") rfl)
  ·exact He.free_ok X G (c.d.fact 57 (f := .free "min") rfl)
  ·exact He.free_ok X G (c.d.fact 58 (f := .free "range") rfl)
  ·exact He.free_ok X G (c.d.fact 59 (f := .free "isinstance") rfl)
  ·exact He.free_ok X G (c.d.fact 60 (f := .free "repr") rfl)
  ·exact He.free_ok X G (c.d.fact 61 (f := .free "list") rfl)
  ·exact He.free_ok X G (c.d.fact 62 (f := .free "tuple") rfl)
  ·exact He.free_ok X G (c.d.fact 63 (f := .free "dict") rfl)
  ·exact He.free_ok X G (c.d.fact 64 (f := .free "sorted") rfl)
  ·exact He.free_ok X G (c.d.fact 65 (f := .free "sum") rfl)
  ·exact He.free_ok X G (c.d.fact 66 (f := .free "enumerate") rfl)
  ·exact He.free_ok X G (c.d.fact 67 (f := .free "zip") rfl)
  ·exact He.free_ok X G (c.d.fact 68 (f := .free "reversed") rfl)
  ·exact He.free_ok X G (c.d.fact 69 (f := .free "str") rfl)
  ·exact He.free_ok X G (c.d.fact 70 (f := .free "int") rfl)
  ·exact He.free_ok X G (c.d.fact 71 (f := .free "bool") rfl)
  ·exact He.free_ok X G (c.d.fact 72 (f := .free "set") rfl)
  ·exact He.free_ok X G (c.d.fact 73 (f := .free "ValueError") rfl)
  ·exact He.free_ok X G (c.d.fact 74 (f := .free "any") rfl)
  ·exact He.free_ok X G (c.d.fact 75 (f := .free "all") rfl)
theorem xok (X : K.In h) (G : h.Ns mainGlobals mg) (c : SaysX fa fn fx K) : XOk (tb K) P w K mg base := by
 intro j x kd h1 h2
 have h1 : ([none, some (.fld "at"), some (.fld "name"), some (.fld "name"), some (.fld "most"), some (.fld "name"), none] : List (Option XKd))[j]?.join = some kd := h1
 have h2 : clsL[j]? = some x := h2
 match j, h1, h2 with
 | 0, h1, _ => cases h1
 | 1, h1, h2 =>
  cases h1; cases h2
  obtain ⟨fd, F⟩ := c.d.def_ 45 rfl
  have z := ini_ok (c.fact 1 (f := .ini "Wrong") rfl)
  exact .fld (oex_ok (c.fact 0 (f := .oex "Wrong") rfl)) z.1 z.2 (fn_initF (k := 0) (N := ["self", "at"]) (B := He.ga K "MainsError") (z := "MainsError") F ⟨rfl, rfl, rfl, by decide +kernel, rfl, by decide +kernel, by decide +kernel⟩ (by decide +kernel) (He.glo_ok X G (c.d.fact 47 (f := .glo "MainsError") rfl)) (bas_ok (c.fact 15 (f := .bas "MainsError") rfl)) (oex_ok (c.fact 0 (f := .oex "Wrong") rfl)) (nov_ok (c.fact 2 (f := .nov "Wrong" "at") rfl))) (FunD.bindsN (ps := ["self", "at"]) F fun _ _ _ _ _ _ us hl => match us, hl with | [_, _], _ => rfl) (by omega)
 | 2, h1, h2 =>
  cases h1; cases h2
  obtain ⟨fd, F⟩ := c.d.def_ 46 rfl
  have z := ini_ok (c.fact 4 (f := .ini "There") rfl)
  exact .fld (oex_ok (c.fact 3 (f := .oex "There") rfl)) z.1 z.2 (fn_initF (k := 0) (N := ["self", "name"]) (B := He.ga K "MainsError") (z := "MainsError") F ⟨rfl, rfl, rfl, by decide +kernel, rfl, by decide +kernel, by decide +kernel⟩ (by decide +kernel) (He.glo_ok X G (c.d.fact 47 (f := .glo "MainsError") rfl)) (bas_ok (c.fact 15 (f := .bas "MainsError") rfl)) (oex_ok (c.fact 3 (f := .oex "There") rfl)) (nov_ok (c.fact 5 (f := .nov "There" "name") rfl))) (FunD.bindsN (ps := ["self", "name"]) F fun _ _ _ _ _ _ us hl => match us, hl with | [_, _], _ => rfl) (by omega)
 | 3, h1, h2 =>
  cases h1; cases h2
  obtain ⟨fd, F⟩ := c.d.def_ 47 rfl
  have z := ini_ok (c.fact 7 (f := .ini "Lacks") rfl)
  exact .fld (oex_ok (c.fact 6 (f := .oex "Lacks") rfl)) z.1 z.2 (fn_initF (k := 0) (N := ["self", "name"]) (B := He.ga K "MainsError") (z := "MainsError") F ⟨rfl, rfl, rfl, by decide +kernel, rfl, by decide +kernel, by decide +kernel⟩ (by decide +kernel) (He.glo_ok X G (c.d.fact 47 (f := .glo "MainsError") rfl)) (bas_ok (c.fact 15 (f := .bas "MainsError") rfl)) (oex_ok (c.fact 6 (f := .oex "Lacks") rfl)) (nov_ok (c.fact 8 (f := .nov "Lacks" "name") rfl))) (FunD.bindsN (ps := ["self", "name"]) F fun _ _ _ _ _ _ us hl => match us, hl with | [_, _], _ => rfl) (by omega)
 | 4, h1, h2 =>
  cases h1; cases h2
  obtain ⟨fd, F⟩ := c.d.def_ 48 rfl
  have z := ini_ok (c.fact 10 (f := .ini "TooMany") rfl)
  exact .fld (oex_ok (c.fact 9 (f := .oex "TooMany") rfl)) z.1 z.2 (fn_initF (k := 0) (N := ["self", "most"]) (B := He.ga K "MainsError") (z := "MainsError") F ⟨rfl, rfl, rfl, by decide +kernel, rfl, by decide +kernel, by decide +kernel⟩ (by decide +kernel) (He.glo_ok X G (c.d.fact 47 (f := .glo "MainsError") rfl)) (bas_ok (c.fact 15 (f := .bas "MainsError") rfl)) (oex_ok (c.fact 9 (f := .oex "TooMany") rfl)) (nov_ok (c.fact 11 (f := .nov "TooMany" "most") rfl))) (FunD.bindsN (ps := ["self", "most"]) F fun _ _ _ _ _ _ us hl => match us, hl with | [_, _], _ => rfl) (by omega)
 | 5, h1, h2 =>
  cases h1; cases h2
  obtain ⟨fd, F⟩ := c.d.def_ 49 rfl
  have z := ini_ok (c.fact 13 (f := .ini "InUse") rfl)
  exact .fld (oex_ok (c.fact 12 (f := .oex "InUse") rfl)) z.1 z.2 (fn_initF (k := 0) (N := ["self", "name"]) (B := He.ga K "MainsError") (z := "MainsError") F ⟨rfl, rfl, rfl, by decide +kernel, rfl, by decide +kernel, by decide +kernel⟩ (by decide +kernel) (He.glo_ok X G (c.d.fact 47 (f := .glo "MainsError") rfl)) (bas_ok (c.fact 15 (f := .bas "MainsError") rfl)) (oex_ok (c.fact 12 (f := .oex "InUse") rfl)) (nov_ok (c.fact 14 (f := .nov "InUse" "name") rfl))) (FunD.bindsN (ps := ["self", "name"]) F fun _ _ _ _ _ _ us hl => match us, hl with | [_, _], _ => rfl) (by omega)
 | 6, h1, _ => cases h1
 | n + 7, h1, _ => cases h1
theorem all0 : AllOk (tb K) P w K mg base 0 0 := AllOk.zero
theorem all1 (X : K.In h) (G : h.Ns mainGlobals mg) (c : SaysX fa fn fx K) : AllOk (tb K) P w K mg base 1 1 := by
 have A : AllOk (tb K) P w K mg base 0 0 := all0
 have A2 : AllOk (tb K) P w K mg base ((tb K).lo 0) 0 := all0
 obtain ⟨fd, F⟩ := c.d.def_ 0 rfl
 exact A.step (d := 0) (by omega) (x := .fn "_law_bag") rfl ⟨He.glo_ok X G (c.d.fact 0 (f := .glo "_law_bag") rfl), F.kp⟩ (FunD.bindsN (ps := ["_law_script"]) F fun _ _ _ _ _ _ us hl => match us, hl with | [_], _ => rfl) (so_T (fn_row (i := 0) A2 (tbok X G c) (xok X G c) F sc0 ck0 (me0 c))) (no_T)
theorem all2 (X : K.In h) (G : h.Ns mainGlobals mg) (c : SaysX fa fn fx K) : AllOk (tb K) P w K mg base 2 1 := by
 have A : AllOk (tb K) P w K mg base 1 1 := all1 X G c
 have A2 : AllOk (tb K) P w K mg base ((tb K).lo 1) 0 := all0
 obtain ⟨fd, F⟩ := c.d.def_ 1 rfl
 exact A.step (d := 0) (by omega) (x := .fn "_law_take") rfl ⟨He.glo_ok X G (c.d.fact 1 (f := .glo "_law_take") rfl), F.kp⟩ (FunD.bindsN (ps := ["_law_bag_here", "_law_many"]) F fun _ _ _ _ _ _ us hl => match us, hl with | [_, _], _ => rfl) (so_T (fn_row (i := 1) A2 (tbok X G c) (xok X G c) F sc1 ck1 (me1 c))) (no_T)
theorem all3 (X : K.In h) (G : h.Ns mainGlobals mg) (c : SaysX fa fn fx K) : AllOk (tb K) P w K mg base 3 1 := by
 have A : AllOk (tb K) P w K mg base 2 1 := all2 X G c
 have A2 : AllOk (tb K) P w K mg base ((tb K).lo 2) 0 := all0
 obtain ⟨fd, F⟩ := c.d.def_ 2 rfl
 exact A.step (d := 0) (by omega) (x := .mt "Layout" "__init__") rfl ⟨cls_Layout c, He.meth_ok (c.d.fact 2 (f := .meth "Layout" "__init__") rfl), fun _ => ⟨He.glo_ok X G (c.d.fact 53 (f := .glo "Layout") rfl), He.mkr_ok (c.d.fact 4 (f := .mkr "Layout") rfl)⟩⟩ (FunD.bindsN (ps := ["self"]) F fun _ _ _ _ _ _ us hl => match us, hl with | [_], _ => rfl) (so_T (fn_row (i := 2) A2 (tbok X G c) (xok X G c) F sc2 ck2 (me2 c))) (no_T)
theorem all4 (X : K.In h) (G : h.Ns mainGlobals mg) (c : SaysX fa fn fx K) : AllOk (tb K) P w K mg base 4 1 := by
 have A : AllOk (tb K) P w K mg base 3 1 := all3 X G c
 have A2 : AllOk (tb K) P w K mg base ((tb K).lo 3) 0 := all0
 obtain ⟨fd, F⟩ := c.d.def_ 3 rfl
 exact A.step (d := 0) (by omega) (x := .fn "_law_new") rfl ⟨He.glo_ok X G (c.d.fact 5 (f := .glo "_law_new") rfl), F.kp⟩ (FunD.bindsN (ps := []) F fun _ _ _ _ _ _ us hl => match us, hl with | [], _ => rfl) (so_T (fn_row (i := 3) A2 (tbok X G c) (xok X G c) F sc3 ck3 (me3 c))) (no_T)
theorem all5 (X : K.In h) (G : h.Ns mainGlobals mg) (c : SaysX fa fn fx K) : AllOk (tb K) P w K mg base 5 1 := by
 have A : AllOk (tb K) P w K mg base 4 1 := all4 X G c
 have A2 : AllOk (tb K) P w K mg base ((tb K).lo 4) 0 := all0
 obtain ⟨fd, F⟩ := c.d.def_ 4 rfl
 exact A.step (d := 0) (by omega) (x := .fn "_law_due_take") rfl ⟨He.glo_ok X G (c.d.fact 6 (f := .glo "_law_due_take") rfl), F.kp⟩ (FunD.bindsN (ps := ["_law_m", "_law_word", "_law_name_here"]) F fun _ _ _ _ _ _ us hl => match us, hl with | [_, _, _], _ => rfl) (so_T (fn_row (i := 4) A2 (tbok X G c) (xok X G c) F sc4 ck4 (me4 c))) (no_T)
theorem all6 (X : K.In h) (G : h.Ns mainGlobals mg) (c : SaysX fa fn fx K) : AllOk (tb K) P w K mg base 6 1 := by
 have A : AllOk (tb K) P w K mg base 5 1 := all5 X G c
 have A2 : AllOk (tb K) P w K mg base ((tb K).lo 5) 0 := all0
 obtain ⟨fd, F⟩ := c.d.def_ 5 rfl
 exact A.step (d := 0) (by omega) (x := .fn "wrong_unless") rfl ⟨He.glo_ok X G (c.d.fact 7 (f := .glo "wrong_unless") rfl), F.kp⟩ (FunD.bindsN (ps := ["at", "good"]) F fun _ _ _ _ _ _ us hl => match us, hl with | [_, _], _ => rfl) (so_T (fn_row (i := 5) A2 (tbok X G c) (xok X G c) F sc5 ck5 (me5 c))) (no_T)
theorem all7 (X : K.In h) (G : h.Ns mainGlobals mg) (c : SaysX fa fn fx K) : AllOk (tb K) P w K mg base 7 1 := by
 have A : AllOk (tb K) P w K mg base 6 1 := all6 X G c
 have A2 : AllOk (tb K) P w K mg base ((tb K).lo 6) 0 := all0
 obtain ⟨fd, F⟩ := c.d.def_ 6 rfl
 exact A.step (d := 0) (by omega) (x := .fn "is_name") rfl ⟨He.glo_ok X G (c.d.fact 8 (f := .glo "is_name") rfl), F.kp⟩ (FunD.bindsN (ps := ["thing"]) F fun _ _ _ _ _ _ us hl => match us, hl with | [_], _ => rfl) (so_T (fn_row (i := 6) A2 (tbok X G c) (xok X G c) F sc6 ck6 (me6 c))) (no_T)
theorem all8 (X : K.In h) (G : h.Ns mainGlobals mg) (c : SaysX fa fn fx K) : AllOk (tb K) P w K mg base 8 1 := by
 have A : AllOk (tb K) P w K mg base 7 1 := all7 X G c
 have A2 : AllOk (tb K) P w K mg base ((tb K).lo 7) 0 := all0
 obtain ⟨fd, F⟩ := c.d.def_ 7 rfl
 exact A.step (d := 0) (by omega) (x := .fn "is_whole") rfl ⟨He.glo_ok X G (c.d.fact 9 (f := .glo "is_whole") rfl), F.kp⟩ (FunD.bindsN (ps := ["thing"]) F fun _ _ _ _ _ _ us hl => match us, hl with | [_], _ => rfl) (so_T (fn_row (i := 7) A2 (tbok X G c) (xok X G c) F sc7 ck7 (me7 c))) (no_T)
theorem all9 (X : K.In h) (G : h.Ns mainGlobals mg) (c : SaysX fa fn fx K) : AllOk (tb K) P w K mg base 9 1 := by
 have A : AllOk (tb K) P w K mg base 8 1 := all8 X G c
 have A2 : AllOk (tb K) P w K mg base ((tb K).lo 8) 0 := all0
 obtain ⟨fd, F⟩ := c.d.def_ 8 rfl
 exact A.step (d := 0) (by omega) (x := .mt "Layout" "need_new") rfl ⟨cls_Layout c, He.meth_ok (c.d.fact 10 (f := .meth "Layout" "need_new") rfl), fun h => absurd h (by decide)⟩ (FunD.bindsN (ps := ["self", "name"]) F fun _ _ _ _ _ _ us hl => match us, hl with | [_, _], _ => rfl) (so_T (fn_row (i := 8) A2 (tbok X G c) (xok X G c) F sc8 ck8 (me8 c))) (no_T)
theorem all10 (X : K.In h) (G : h.Ns mainGlobals mg) (c : SaysX fa fn fx K) : AllOk (tb K) P w K mg base 10 1 := by
 have A : AllOk (tb K) P w K mg base 9 1 := all9 X G c
 have A2 : AllOk (tb K) P w K mg base ((tb K).lo 9) 0 := all0
 obtain ⟨fd, F⟩ := c.d.def_ 9 rfl
 exact A.step (d := 0) (by omega) (x := .fn "lacks_unless") rfl ⟨He.glo_ok X G (c.d.fact 11 (f := .glo "lacks_unless") rfl), F.kp⟩ (FunD.bindsN (ps := ["name", "some"]) F fun _ _ _ _ _ _ us hl => match us, hl with | [_, _], _ => rfl) (so_T (fn_row (i := 9) A2 (tbok X G c) (xok X G c) F sc9 ck9 (me9 c))) (no_T)
theorem all11 (X : K.In h) (G : h.Ns mainGlobals mg) (c : SaysX fa fn fx K) : AllOk (tb K) P w K mg base 11 1 := by
 have A : AllOk (tb K) P w K mg base 10 1 := all10 X G c
 have A2 : AllOk (tb K) P w K mg base ((tb K).lo 10) 0 := all0
 obtain ⟨fd, F⟩ := c.d.def_ 10 rfl
 exact A.step (d := 0) (by omega) (x := .fn "_law_class") rfl ⟨He.glo_ok X G (c.d.fact 12 (f := .glo "_law_class") rfl), F.kp⟩ (FunD.bindsN (ps := ["_law_e"]) F fun _ _ _ _ _ _ us hl => match us, hl with | [_], _ => rfl) (no_T) (so_T (fn_row (i := 10) A2 (tbok X G c) (xok X G c) F sc10 ck10 (me10h c)))
theorem all12 (X : K.In h) (G : h.Ns mainGlobals mg) (c : SaysX fa fn fx K) : AllOk (tb K) P w K mg base 12 1 := by
 have A : AllOk (tb K) P w K mg base 11 1 := all11 X G c
 have A2 : AllOk (tb K) P w K mg base ((tb K).lo 11) 0 := all0
 obtain ⟨fd, F⟩ := c.d.def_ 11 rfl
 exact A.step (d := 0) (by omega) (x := .fn "_law_alike") rfl ⟨He.glo_ok X G (c.d.fact 13 (f := .glo "_law_alike") rfl), F.kp⟩ (FunD.bindsN (ps := ["_law_found", "_law_due_here"]) F fun _ _ _ _ _ _ us hl => match us, hl with | [_, _], _ => rfl) (so_T (fn_row (i := 11) A2 (tbok X G c) (xok X G c) F sc11 ck11 (me11 c))) (no_T)
theorem all13 (X : K.In h) (G : h.Ns mainGlobals mg) (c : SaysX fa fn fx K) : AllOk (tb K) P w K mg base 13 1 := by
 have A : AllOk (tb K) P w K mg base 12 1 := all12 X G c
 have A2 : AllOk (tb K) P w K mg base ((tb K).lo 12) 0 := all0
 obtain ⟨fd, F⟩ := c.d.def_ 12 rfl
 exact A.step (d := 0) (by omega) (x := .fn "_law_do") rfl ⟨He.glo_ok X G (c.d.fact 14 (f := .glo "_law_do") rfl), F.kp⟩ (FunD.bindsN (ps := ["_law_m", "_law_deed_here"]) F fun _ _ _ _ _ _ us hl => match us, hl with | [_, _], _ => rfl) (so_T (fn_row (i := 12) A2 (tbok X G c) (xok X G c) F sc12 ck12 (me12 c))) (no_T)
theorem all14 (X : K.In h) (G : h.Ns mainGlobals mg) (c : SaysX fa fn fx K) : AllOk (tb K) P w K mg base 14 1 := by
 have A : AllOk (tb K) P w K mg base 13 1 := all13 X G c
 have A2 : AllOk (tb K) P w K mg base ((tb K).lo 13) 0 := all0
 obtain ⟨fd, F⟩ := c.d.def_ 13 rfl
 exact A.step (d := 0) (by omega) (x := .mt "Layout" "rooms") rfl ⟨cls_Layout c, He.meth_ok (c.d.fact 15 (f := .meth "Layout" "rooms") rfl), fun h => absurd h (by decide)⟩ (FunD.bindsN (ps := ["self"]) F fun _ _ _ _ _ _ us hl => match us, hl with | [_], _ => rfl) (so_T (fn_row (i := 13) A2 (tbok X G c) (xok X G c) F sc13 ck13 (me13 c))) (no_T)
theorem all15 (X : K.In h) (G : h.Ns mainGlobals mg) (c : SaysX fa fn fx K) : AllOk (tb K) P w K mg base 15 1 := by
 have A : AllOk (tb K) P w K mg base 14 1 := all14 X G c
 have A2 : AllOk (tb K) P w K mg base ((tb K).lo 14) 0 := all0
 obtain ⟨fd, F⟩ := c.d.def_ 14 rfl
 exact A.step (d := 0) (by omega) (x := .mt "Layout" "lines") rfl ⟨cls_Layout c, He.meth_ok (c.d.fact 16 (f := .meth "Layout" "lines") rfl), fun h => absurd h (by decide)⟩ (FunD.bindsN (ps := ["self"]) F fun _ _ _ _ _ _ us hl => match us, hl with | [_], _ => rfl) (so_T (fn_row (i := 14) A2 (tbok X G c) (xok X G c) F sc14 ck14 (me14 c))) (no_T)
theorem all16 (X : K.In h) (G : h.Ns mainGlobals mg) (c : SaysX fa fn fx K) : AllOk (tb K) P w K mg base 16 1 := by
 have A : AllOk (tb K) P w K mg base 15 1 := all15 X G c
 have A2 : AllOk (tb K) P w K mg base ((tb K).lo 15) 0 := all0
 obtain ⟨fd, F⟩ := c.d.def_ 15 rfl
 exact A.step (d := 0) (by omega) (x := .mt "Layout" "drains") rfl ⟨cls_Layout c, He.meth_ok (c.d.fact 17 (f := .meth "Layout" "drains") rfl), fun h => absurd h (by decide)⟩ (FunD.bindsN (ps := ["self"]) F fun _ _ _ _ _ _ us hl => match us, hl with | [_], _ => rfl) (so_T (fn_row (i := 15) A2 (tbok X G c) (xok X G c) F sc15 ck15 (me15 c))) (no_T)
theorem all17 (X : K.In h) (G : h.Ns mainGlobals mg) (c : SaysX fa fn fx K) : AllOk (tb K) P w K mg base 17 1 := by
 have A : AllOk (tb K) P w K mg base 16 1 := all16 X G c
 have A2 : AllOk (tb K) P w K mg base ((tb K).lo 16) 0 := all0
 obtain ⟨fd, F⟩ := c.d.def_ 16 rfl
 exact A.step (d := 0) (by omega) (x := .mt "Layout" "sources") rfl ⟨cls_Layout c, He.meth_ok (c.d.fact 18 (f := .meth "Layout" "sources") rfl), fun h => absurd h (by decide)⟩ (FunD.bindsN (ps := ["self"]) F fun _ _ _ _ _ _ us hl => match us, hl with | [_], _ => rfl) (so_T (fn_row (i := 16) A2 (tbok X G c) (xok X G c) F sc16 ck16 (me16 c))) (no_T)
theorem all18 (X : K.In h) (G : h.Ns mainGlobals mg) (c : SaysX fa fn fx K) : AllOk (tb K) P w K mg base 18 2 := by
 have A : AllOk (tb K) P w K mg base 17 1 := all17 X G c
 have A2 : AllOk (tb K) P w K mg base ((tb K).lo 17) 1 := all17 X G c
 obtain ⟨fd, F⟩ := c.d.def_ 17 rfl
 exact A.step (d := 1) (by omega) (x := .fn "_law_name") rfl ⟨He.glo_ok X G (c.d.fact 19 (f := .glo "_law_name") rfl), F.kp⟩ (FunD.bindsN (ps := ["_law_bag_here"]) F fun _ _ _ _ _ _ us hl => match us, hl with | [_], _ => rfl) (so_T (fn_row (i := 17) A2 (tbok X G c) (xok X G c) F sc17 ck17 (me17 c))) (no_T)
theorem all19 (X : K.In h) (G : h.Ns mainGlobals mg) (c : SaysX fa fn fx K) : AllOk (tb K) P w K mg base 19 2 := by
 have A : AllOk (tb K) P w K mg base 18 2 := all18 X G c
 have A2 : AllOk (tb K) P w K mg base ((tb K).lo 18) 1 := all17 X G c
 obtain ⟨fd, F⟩ := c.d.def_ 18 rfl
 exact A.step (d := 1) (by omega) (x := .fn "_law_due") rfl ⟨He.glo_ok X G (c.d.fact 20 (f := .glo "_law_due") rfl), F.kp⟩ (FunD.bindsN (ps := ["_law_m", "_law_deed_here"]) F fun _ _ _ _ _ _ us hl => match us, hl with | [_, _], _ => rfl) (so_T (fn_row (i := 18) A2 (tbok X G c) (xok X G c) F sc18 ck18 (me18 c))) (no_T)
theorem all20 (X : K.In h) (G : h.Ns mainGlobals mg) (c : SaysX fa fn fx K) : AllOk (tb K) P w K mg base 20 2 := by
 have A : AllOk (tb K) P w K mg base 19 2 := all19 X G c
 have A2 : AllOk (tb K) P w K mg base ((tb K).lo 19) 1 := all17 X G c
 obtain ⟨fd, F⟩ := c.d.def_ 19 rfl
 exact A.step (d := 1) (by omega) (x := .mt "Layout" "add_room") rfl ⟨cls_Layout c, He.meth_ok (c.d.fact 21 (f := .meth "Layout" "add_room") rfl), fun h => absurd h (by decide)⟩ (FunD.bindsN (ps := ["self", "room"]) F fun _ _ _ _ _ _ us hl => match us, hl with | [_, _], _ => rfl) (so_T (fn_row (i := 19) A2 (tbok X G c) (xok X G c) F sc19 ck19 (me19 c))) (no_T)
theorem all21 (X : K.In h) (G : h.Ns mainGlobals mg) (c : SaysX fa fn fx K) : AllOk (tb K) P w K mg base 21 2 := by
 have A : AllOk (tb K) P w K mg base 20 2 := all20 X G c
 have A2 : AllOk (tb K) P w K mg base ((tb K).lo 20) 1 := all17 X G c
 obtain ⟨fd, F⟩ := c.d.def_ 20 rfl
 exact A.step (d := 1) (by omega) (x := .fn "is_cost") rfl ⟨He.glo_ok X G (c.d.fact 22 (f := .glo "is_cost") rfl), F.kp⟩ (FunD.bindsN (ps := ["thing"]) F fun _ _ _ _ _ _ us hl => match us, hl with | [_], _ => rfl) (so_T (fn_row (i := 20) A2 (tbok X G c) (xok X G c) F sc20 ck20 (me20 c))) (no_T)
theorem all22 (X : K.In h) (G : h.Ns mainGlobals mg) (c : SaysX fa fn fx K) : AllOk (tb K) P w K mg base 22 2 := by
 have A : AllOk (tb K) P w K mg base 21 2 := all21 X G c
 have A2 : AllOk (tb K) P w K mg base ((tb K).lo 21) 1 := all17 X G c
 obtain ⟨fd, F⟩ := c.d.def_ 21 rfl
 exact A.step (d := 1) (by omega) (x := .mt "Layout" "add_drain") rfl ⟨cls_Layout c, He.meth_ok (c.d.fact 23 (f := .meth "Layout" "add_drain") rfl), fun h => absurd h (by decide)⟩ (FunD.bindsN (ps := ["self", "drain", "room"]) F fun _ _ _ _ _ _ us hl => match us, hl with | [_, _, _], _ => rfl) (so_T (fn_row (i := 21) A2 (tbok X G c) (xok X G c) F sc21 ck21 (me21 c))) (no_T)
theorem all23 (X : K.In h) (G : h.Ns mainGlobals mg) (c : SaysX fa fn fx K) : AllOk (tb K) P w K mg base 23 2 := by
 have A : AllOk (tb K) P w K mg base 22 2 := all22 X G c
 have A2 : AllOk (tb K) P w K mg base ((tb K).lo 22) 1 := all17 X G c
 obtain ⟨fd, F⟩ := c.d.def_ 22 rfl
 exact A.step (d := 1) (by omega) (x := .mt "Layout" "add_source") rfl ⟨cls_Layout c, He.meth_ok (c.d.fact 24 (f := .meth "Layout" "add_source") rfl), fun h => absurd h (by decide)⟩ (FunD.bindsN (ps := ["self", "room"]) F fun _ _ _ _ _ _ us hl => match us, hl with | [_, _], _ => rfl) (so_T (fn_row (i := 22) A2 (tbok X G c) (xok X G c) F sc22 ck22 (me22 c))) (no_T)
theorem all24 (X : K.In h) (G : h.Ns mainGlobals mg) (c : SaysX fa fn fx K) : AllOk (tb K) P w K mg base 24 2 := by
 have A : AllOk (tb K) P w K mg base 23 2 := all23 X G c
 have A2 : AllOk (tb K) P w K mg base ((tb K).lo 23) 1 := all17 X G c
 obtain ⟨fd, F⟩ := c.d.def_ 23 rfl
 exact A.step (d := 1) (by omega) (x := .mt "Layout" "lines_at") rfl ⟨cls_Layout c, He.meth_ok (c.d.fact 25 (f := .meth "Layout" "lines_at") rfl), fun h => absurd h (by decide)⟩ (FunD.bindsN (ps := ["self", "room"]) F fun _ _ _ _ _ _ us hl => match us, hl with | [_, _], _ => rfl) (so_T (fn_row (i := 23) A2 (tbok X G c) (xok X G c) F sc23 ck23 (me23 c))) (no_T)
theorem all25 (X : K.In h) (G : h.Ns mainGlobals mg) (c : SaysX fa fn fx K) : AllOk (tb K) P w K mg base 25 2 := by
 have A : AllOk (tb K) P w K mg base 24 2 := all24 X G c
 have A2 : AllOk (tb K) P w K mg base ((tb K).lo 24) 1 := all17 X G c
 obtain ⟨fd, F⟩ := c.d.def_ 24 rfl
 exact A.step (d := 1) (by omega) (x := .mt "Layout" "take_line") rfl ⟨cls_Layout c, He.meth_ok (c.d.fact 26 (f := .meth "Layout" "take_line") rfl), fun h => absurd h (by decide)⟩ (FunD.bindsN (ps := ["self", "line"]) F fun _ _ _ _ _ _ us hl => match us, hl with | [_, _], _ => rfl) (so_T (fn_row (i := 24) A2 (tbok X G c) (xok X G c) F sc24 ck24 (me24 c))) (no_T)
theorem all26 (X : K.In h) (G : h.Ns mainGlobals mg) (c : SaysX fa fn fx K) : AllOk (tb K) P w K mg base 26 2 := by
 have A : AllOk (tb K) P w K mg base 25 2 := all25 X G c
 have A2 : AllOk (tb K) P w K mg base ((tb K).lo 25) 1 := all17 X G c
 obtain ⟨fd, F⟩ := c.d.def_ 25 rfl
 exact A.step (d := 1) (by omega) (x := .mt "Layout" "take_drain") rfl ⟨cls_Layout c, He.meth_ok (c.d.fact 27 (f := .meth "Layout" "take_drain") rfl), fun h => absurd h (by decide)⟩ (FunD.bindsN (ps := ["self", "drain"]) F fun _ _ _ _ _ _ us hl => match us, hl with | [_, _], _ => rfl) (so_T (fn_row (i := 25) A2 (tbok X G c) (xok X G c) F sc25 ck25 (me25 c))) (no_T)
theorem all27 (X : K.In h) (G : h.Ns mainGlobals mg) (c : SaysX fa fn fx K) : AllOk (tb K) P w K mg base 27 2 := by
 have A : AllOk (tb K) P w K mg base 26 2 := all26 X G c
 have A2 : AllOk (tb K) P w K mg base ((tb K).lo 26) 1 := all17 X G c
 obtain ⟨fd, F⟩ := c.d.def_ 26 rfl
 exact A.step (d := 1) (by omega) (x := .mt "Layout" "take_source") rfl ⟨cls_Layout c, He.meth_ok (c.d.fact 28 (f := .meth "Layout" "take_source") rfl), fun h => absurd h (by decide)⟩ (FunD.bindsN (ps := ["self", "room"]) F fun _ _ _ _ _ _ us hl => match us, hl with | [_, _], _ => rfl) (so_T (fn_row (i := 26) A2 (tbok X G c) (xok X G c) F sc26 ck26 (me26 c))) (no_T)
theorem all28 (X : K.In h) (G : h.Ns mainGlobals mg) (c : SaysX fa fn fx K) : AllOk (tb K) P w K mg base 28 2 := by
 have A : AllOk (tb K) P w K mg base 27 2 := all27 X G c
 have A2 : AllOk (tb K) P w K mg base ((tb K).lo 27) 1 := all17 X G c
 obtain ⟨fd, F⟩ := c.d.def_ 27 rfl
 exact A.step (d := 1) (by omega) (x := .fn "_law_cost") rfl ⟨He.glo_ok X G (c.d.fact 29 (f := .glo "_law_cost") rfl), F.kp⟩ (FunD.bindsN (ps := ["_law_bag_here"]) F fun _ _ _ _ _ _ us hl => match us, hl with | [_], _ => rfl) (so_T (fn_row (i := 27) A2 (tbok X G c) (xok X G c) F sc27 ck27 (me27 c))) (no_T)
theorem all29 (X : K.In h) (G : h.Ns mainGlobals mg) (c : SaysX fa fn fx K) : AllOk (tb K) P w K mg base 29 2 := by
 have A : AllOk (tb K) P w K mg base 28 2 := all28 X G c
 have A2 : AllOk (tb K) P w K mg base ((tb K).lo 28) 1 := all17 X G c
 obtain ⟨fd, F⟩ := c.d.def_ 28 rfl
 exact A.step (d := 1) (by omega) (x := .fn "_law_put_otherwise") rfl ⟨He.glo_ok X G (c.d.fact 30 (f := .glo "_law_put_otherwise") rfl), F.kp⟩ (FunD.bindsN (ps := ["_law_bag_here", "_law_some"]) F fun _ _ _ _ _ _ us hl => match us, hl with | [_, _], _ => rfl) (so_T (fn_row (i := 28) A2 (tbok X G c) (xok X G c) F sc28 ck28 (me28 c))) (no_T)
theorem all30 (X : K.In h) (G : h.Ns mainGlobals mg) (c : SaysX fa fn fx K) : AllOk (tb K) P w K mg base 30 2 := by
 have A : AllOk (tb K) P w K mg base 29 2 := all29 X G c
 have A2 : AllOk (tb K) P w K mg base ((tb K).lo 29) 1 := all17 X G c
 obtain ⟨fd, F⟩ := c.d.def_ 29 rfl
 exact A.step (d := 1) (by omega) (x := .mt "Layout" "line") rfl ⟨cls_Layout c, He.meth_ok (c.d.fact 31 (f := .meth "Layout" "line") rfl), fun h => absurd h (by decide)⟩ (FunD.bindsN (ps := ["self", "line"]) F fun _ _ _ _ _ _ us hl => match us, hl with | [_, _], _ => rfl) (so_T (fn_row (i := 29) A2 (tbok X G c) (xok X G c) F sc29 ck29 (me29 c))) (no_T)
theorem all31 (X : K.In h) (G : h.Ns mainGlobals mg) (c : SaysX fa fn fx K) : AllOk (tb K) P w K mg base 31 2 := by
 have A : AllOk (tb K) P w K mg base 30 2 := all30 X G c
 have A2 : AllOk (tb K) P w K mg base ((tb K).lo 30) 1 := all17 X G c
 obtain ⟨fd, F⟩ := c.d.def_ 30 rfl
 exact A.step (d := 1) (by omega) (x := .mt "Layout" "drain") rfl ⟨cls_Layout c, He.meth_ok (c.d.fact 32 (f := .meth "Layout" "drain") rfl), fun h => absurd h (by decide)⟩ (FunD.bindsN (ps := ["self", "drain"]) F fun _ _ _ _ _ _ us hl => match us, hl with | [_, _], _ => rfl) (so_T (fn_row (i := 30) A2 (tbok X G c) (xok X G c) F sc30 ck30 (me30 c))) (no_T)
theorem all32 (X : K.In h) (G : h.Ns mainGlobals mg) (c : SaysX fa fn fx K) : AllOk (tb K) P w K mg base 32 2 := by
 have A : AllOk (tb K) P w K mg base 31 2 := all31 X G c
 have A2 : AllOk (tb K) P w K mg base ((tb K).lo 31) 1 := all17 X G c
 obtain ⟨fd, F⟩ := c.d.def_ 31 rfl
 exact A.step (d := 1) (by omega) (x := .fn "_law_lists") rfl ⟨He.glo_ok X G (c.d.fact 33 (f := .glo "_law_lists") rfl), F.kp⟩ (FunD.bindsN (ps := ["_law_here", "_law_m"]) F fun _ _ _ _ _ _ us hl => match us, hl with | [_, _], _ => rfl) (so_T (fn_row (i := 31) A2 (tbok X G c) (xok X G c) F sc31 ck31 (me31 c))) (no_T)
theorem all33 (X : K.In h) (G : h.Ns mainGlobals mg) (c : SaysX fa fn fx K) : AllOk (tb K) P w K mg base 33 3 := by
 have A : AllOk (tb K) P w K mg base 32 2 := all32 X G c
 have A2 : AllOk (tb K) P w K mg base ((tb K).lo 32) 2 := all32 X G c
 obtain ⟨fd, F⟩ := c.d.def_ 32 rfl
 exact A.step (d := 2) (by omega) (x := .fn "_law_names") rfl ⟨He.glo_ok X G (c.d.fact 34 (f := .glo "_law_names") rfl), F.kp⟩ (FunD.bindsN (ps := ["_law_bag_here", "_law_many"]) F fun _ _ _ _ _ _ us hl => match us, hl with | [_, _], _ => rfl) (so_T (fn_row (i := 32) A2 (tbok X G c) (xok X G c) F sc32 ck32 (me32 c))) (no_T)
theorem all34 (X : K.In h) (G : h.Ns mainGlobals mg) (c : SaysX fa fn fx K) : AllOk (tb K) P w K mg base 34 3 := by
 have A : AllOk (tb K) P w K mg base 33 3 := all33 X G c
 have A2 : AllOk (tb K) P w K mg base ((tb K).lo 33) 2 := all32 X G c
 obtain ⟨fd, F⟩ := c.d.def_ 33 rfl
 exact A.step (d := 2) (by omega) (x := .mt "Layout" "add_line") rfl ⟨cls_Layout c, He.meth_ok (c.d.fact 35 (f := .meth "Layout" "add_line") rfl), fun h => absurd h (by decide)⟩ (FunD.bindsN (ps := ["self", "line", "one", "other", "cost"]) F fun _ _ _ _ _ _ us hl => match us, hl with | [_, _, _, _, _], _ => rfl) (so_T (fn_row (i := 33) A2 (tbok X G c) (xok X G c) F sc33 ck33 (me33 c))) (no_T)
theorem all35 (X : K.In h) (G : h.Ns mainGlobals mg) (c : SaysX fa fn fx K) : AllOk (tb K) P w K mg base 35 3 := by
 have A : AllOk (tb K) P w K mg base 34 3 := all34 X G c
 have A2 : AllOk (tb K) P w K mg base ((tb K).lo 34) 2 := all32 X G c
 obtain ⟨fd, F⟩ := c.d.def_ 34 rfl
 exact A.step (d := 2) (by omega) (x := .mt "Layout" "take_room") rfl ⟨cls_Layout c, He.meth_ok (c.d.fact 36 (f := .meth "Layout" "take_room") rfl), fun h => absurd h (by decide)⟩ (FunD.bindsN (ps := ["self", "room"]) F fun _ _ _ _ _ _ us hl => match us, hl with | [_, _], _ => rfl) (so_T (fn_row (i := 34) A2 (tbok X G c) (xok X G c) F sc34 ck34 (me34 c))) (no_T)
theorem all36 (X : K.In h) (G : h.Ns mainGlobals mg) (c : SaysX fa fn fx K) : AllOk (tb K) P w K mg base 36 3 := by
 have A : AllOk (tb K) P w K mg base 35 3 := all35 X G c
 have A2 : AllOk (tb K) P w K mg base ((tb K).lo 35) 2 := all32 X G c
 obtain ⟨fd, F⟩ := c.d.def_ 35 rfl
 exact A.step (d := 2) (by omega) (x := .fn "_law_add_line") rfl ⟨He.glo_ok X G (c.d.fact 37 (f := .glo "_law_add_line") rfl), F.kp⟩ (FunD.bindsN (ps := ["_law_bag_here", "_law_rooms", "_law_devices"]) F fun _ _ _ _ _ _ us hl => match us, hl with | [_, _, _], _ => rfl) (so_T (fn_row (i := 35) A2 (tbok X G c) (xok X G c) F sc35 ck35 (me35 c))) (no_T)
theorem all37 (X : K.In h) (G : h.Ns mainGlobals mg) (c : SaysX fa fn fx K) : AllOk (tb K) P w K mg base 37 3 := by
 have A : AllOk (tb K) P w K mg base 36 3 := all36 X G c
 have A2 : AllOk (tb K) P w K mg base ((tb K).lo 36) 2 := all32 X G c
 obtain ⟨fd, F⟩ := c.d.def_ 36 rfl
 exact A.step (d := 2) (by omega) (x := .fn "_law_told") rfl ⟨He.glo_ok X G (c.d.fact 38 (f := .glo "_law_told") rfl), F.kp⟩ (FunD.bindsN (ps := ["_law_here", "_law_m"]) F fun _ _ _ _ _ _ us hl => match us, hl with | [_, _], _ => rfl) (so_T (fn_row (i := 36) A2 (tbok X G c) (xok X G c) F sc36 ck36 (me36 c))) (no_T)
theorem all38 (X : K.In h) (G : h.Ns mainGlobals mg) (c : SaysX fa fn fx K) : AllOk (tb K) P w K mg base 38 3 := by
 have A : AllOk (tb K) P w K mg base 37 3 := all37 X G c
 have A2 : AllOk (tb K) P w K mg base ((tb K).lo 37) 2 := all32 X G c
 obtain ⟨fd, F⟩ := c.d.def_ 37 rfl
 exact A.step (d := 2) (by omega) (x := .fn "_law_ends") rfl ⟨He.glo_ok X G (c.d.fact 39 (f := .glo "_law_ends") rfl), F.kp⟩ (FunD.bindsN (ps := ["_law_here", "_law_m"]) F fun _ _ _ _ _ _ us hl => match us, hl with | [_, _], _ => rfl) (so_T (fn_row (i := 37) A2 (tbok X G c) (xok X G c) F sc37 ck37 (me37 c))) (no_T)
theorem all39 (X : K.In h) (G : h.Ns mainGlobals mg) (c : SaysX fa fn fx K) : AllOk (tb K) P w K mg base 39 3 := by
 have A : AllOk (tb K) P w K mg base 38 3 := all38 X G c
 have A2 : AllOk (tb K) P w K mg base ((tb K).lo 38) 2 := all32 X G c
 obtain ⟨fd, F⟩ := c.d.def_ 38 rfl
 exact A.step (d := 2) (by omega) (x := .fn "_law_at_rooms") rfl ⟨He.glo_ok X G (c.d.fact 40 (f := .glo "_law_at_rooms") rfl), F.kp⟩ (FunD.bindsN (ps := ["_law_here", "_law_m"]) F fun _ _ _ _ _ _ us hl => match us, hl with | [_, _], _ => rfl) (so_T (fn_row (i := 38) A2 (tbok X G c) (xok X G c) F sc38 ck38 (me38 c))) (no_T)
theorem all40 (X : K.In h) (G : h.Ns mainGlobals mg) (c : SaysX fa fn fx K) : AllOk (tb K) P w K mg base 40 4 := by
 have A : AllOk (tb K) P w K mg base 39 3 := all39 X G c
 have A2 : AllOk (tb K) P w K mg base ((tb K).lo 39) 3 := all39 X G c
 obtain ⟨fd, F⟩ := c.d.def_ 39 rfl
 exact A.step (d := 3) (by omega) (x := .fn "_law_call") rfl ⟨He.glo_ok X G (c.d.fact 41 (f := .glo "_law_call") rfl), F.kp⟩ (FunD.bindsN (ps := ["_law_here", "_law_deed_here"]) F fun _ _ _ _ _ _ us hl => match us, hl with | [_, _], _ => rfl) (so_T (fn_row (i := 39) A2 (tbok X G c) (xok X G c) F sc39 ck39 (me39 c))) (no_T)
theorem all41 (X : K.In h) (G : h.Ns mainGlobals mg) (c : SaysX fa fn fx K) : AllOk (tb K) P w K mg base 41 4 := by
 have A : AllOk (tb K) P w K mg base 40 4 := all40 X G c
 have A2 : AllOk (tb K) P w K mg base ((tb K).lo 40) 3 := all39 X G c
 obtain ⟨fd, F⟩ := c.d.def_ 40 rfl
 exact A.step (d := 3) (by omega) (x := .fn "_law_deed") rfl ⟨He.glo_ok X G (c.d.fact 42 (f := .glo "_law_deed") rfl), F.kp⟩ (FunD.bindsN (ps := ["_law_bag_here", "_law_rooms", "_law_devices", "_law_words"]) F fun _ _ _ _ _ _ us hl => match us, hl with | [_, _, _, _], _ => rfl) (so_T (fn_row (i := 40) A2 (tbok X G c) (xok X G c) F sc40 ck40 (me40 c))) (no_T)
theorem all42 (X : K.In h) (G : h.Ns mainGlobals mg) (c : SaysX fa fn fx K) : AllOk (tb K) P w K mg base 42 4 := by
 have A : AllOk (tb K) P w K mg base 41 4 := all41 X G c
 have A2 : AllOk (tb K) P w K mg base ((tb K).lo 41) 3 := all39 X G c
 obtain ⟨fd, F⟩ := c.d.def_ 41 rfl
 exact A.step (d := 3) (by omega) (x := .fn "_law_same") rfl ⟨He.glo_ok X G (c.d.fact 43 (f := .glo "_law_same") rfl), F.kp⟩ (FunD.bindsN (ps := ["_law_here", "_law_m", "_law_order"]) F fun _ _ _ _ _ _ us hl => match us, hl with | [_, _, _], _ => rfl) (so_T (fn_row (i := 41) A2 (tbok X G c) (xok X G c) F sc41 ck41 (me41 c))) (no_T)
theorem all43 (X : K.In h) (G : h.Ns mainGlobals mg) (c : SaysX fa fn fx K) : AllOk (tb K) P w K mg base 43 5 := by
 have A : AllOk (tb K) P w K mg base 42 4 := all42 X G c
 have A2 : AllOk (tb K) P w K mg base ((tb K).lo 42) 4 := all42 X G c
 obtain ⟨fd, F⟩ := c.d.def_ 42 rfl
 exact A.step (d := 4) (by omega) (x := .fn "_law_say") rfl ⟨He.glo_ok X G (c.d.fact 44 (f := .glo "_law_say") rfl), F.kp⟩ (FunD.bindsN (ps := ["_law_here", "_law_deed_here"]) F fun _ _ _ _ _ _ us hl => match us, hl with | [_, _], _ => rfl) (so_T (fn_row (i := 42) A2 (tbok X G c) (xok X G c) F sc42 ck42 (me42 c))) (no_T)
theorem all44 (X : K.In h) (G : h.Ns mainGlobals mg) (c : SaysX fa fn fx K) : AllOk (tb K) P w K mg base 44 6 := by
 have A : AllOk (tb K) P w K mg base 43 5 := all43 X G c
 have A2 : AllOk (tb K) P w K mg base ((tb K).lo 43) 5 := all43 X G c
 obtain ⟨fd, F⟩ := c.d.def_ 43 rfl
 exact A.step (d := 5) (by omega) (x := .fn "_law_step") rfl ⟨He.glo_ok X G (c.d.fact 45 (f := .glo "_law_step") rfl), F.kp⟩ (FunD.bindsN (ps := ["_law_here", "_law_m", "_law_deed_here"]) F fun _ _ _ _ _ _ us hl => match us, hl with | [_, _, _], _ => rfl) (so_T (fn_row (i := 43) A2 (tbok X G c) (xok X G c) F sc43 ck43 (me43 c))) (no_T)
theorem facts {f : Addr} (X : K.In h) (G : h.Ns mainGlobals mg) (hfa : mg ("law" : Str) = some (.ref f)) (c : SaysX fa fn fx K) :
  ∃ fd : FuncData, (∀ (s : Shared) (v : Value), BindsTo s fd ⟨[v], []⟩ [("_law_script", v)]) ∧ ∀ base : Heap, K.In base → base.Ns mainGlobals mg → FnG P w K mg base false 16 f fd ["_law_script"] (spD ⟨K⟩ (lawT 63)) := by
 obtain ⟨fd, F⟩ := c.d.def_ 44 rfl
 have e := hfa.symm.trans (He.glo_ok X G (c.d.fact 46 (f := .glo "law") rfl))
 cases e
 have b := FunD.bindsA (ps := ["_law_script"]) F fun _ _ _ _ _ _ us hl => match us, hl with | [_], _ => rfl
 refine ⟨fd, fun s v => b s [v] rfl, fun base _ _ => ?_⟩
 exact fn_row (t := tb K) (i := 44) (d := 6) (show AllOk (tb K) P w K mg base ((tb K).lo 44) 6 from all44 X G c) (tbok X G c) (xok X G c) F sc44 ck44 (me44 c)
end
end Cl
open PySem PySem.W PySem.Calls PyProof.Rows
theorem PySem.Challenge.cw_stillmain_k29_again_two_layouts_holds : PySem.Challenge.rw_stillmain_k29_again_two_layouts.Holds := by
 exact Cl.whole fun X G hfa c => Cl.facts X G hfa c
