import PyProof.Rows.All
import Wide.All
import OpenK.AllK
import Wide.FinOn
import PyProof.EqAt
import PyProof.EqKinds
import PyProof.TupleCall
import HandS.Base
import HandS.Call
import HandS.List
import HandS.Comp
import HandS.Iter
import HandS.Exc
import HandS.Words
import HandS.WordsExc
import HandS.Lambda
import HandS.TupAny
import HandS.Style
import HandS.Deep
import HandS.Conv
import HandS.IsInst
import HandS.Zip
import HandS.WideBits
import HandS.SortInts
import HandS.Defaults
import HandS.Head0
import HandS.Head1
import HandS.Head2
import HandS.HeadEnd
import HandS.HeadHook1
import HandS.HeadHook2
import PyProof.ReprRoads
import PyProof.ReprLen
import PyProof.Rows.ReprOcc
import HandS.More
import HandS.Dict
import KE.GoesNew
import HandS.SortRule
import KE.KStateDown
import Lean
import HandS.Ends
import PySem.Challenge.RW_wholegrids_k67_whole_bounds_told_otherwi
set_option Elab.async false
set_option linter.all false
set_option maxRecDepth 100000
set_option maxHeartbeats 0
/-! PF: pure data, a frozen part of the heap, expressions as functions over data. -/
namespace PF
open PySem PySem.Spec PyProof.Rows L2

inductive D where
  | non | bl (b : Bool) | int (i : Int) | str (x : Str) | lst (xs : List D) | tup (xs : List D)
  | scr (ns : List Int) | pot (g : Nat) | emp

structure Pst where
  g : Nat
  a : Int
  b : Int

structure Ex where
  cls : Str
  args : List D

inductive Res (α : Type) where
  | ok (a : α) (p : Pst) | exc (x : Ex) (p : Pst) | stuck

inductive W where
  | val (d : D) | own (xs : List D)

abbrev Sl := List (Option W)
abbrev M (α : Type) := Sl → Pst → Res α

/-! ### values stand for data: F the frozen part of the heap -/
inductive Rep (K : PySem.W.Frag) (F : Hp) (g : Nat) (pa : Option Addr) : V → D → Prop
  | non : Rep K F g pa .non .non
  | bl (b : Bool) : Rep K F g pa (.bl b) (.bl b)
  | int (i : Int) : Rep K F g pa (.int i) (.int i)
  | str (x : Str) : Rep K F g pa (.str x) (.str x)
  | lst {a : Addr} {vs : List V} {ds : List D} : F a = some (.lst vs) → ds.length ≤ sizeLine → vs.length = ds.length → (∀ (i : Nat) v d, vs[i]? = some v → ds[i]? = some d → Rep K F g pa v d) → Rep K F g pa (.ref a) (.lst ds)
  | tup {a : Addr} {vs : List V} {ds : List D} : F a = some (.tup vs) → ds.length ≤ sizeLine → vs.length = ds.length → (∀ (i : Nat) v d, vs[i]? = some v → ds[i]? = some d → Rep K F g pa v d) → Rep K F g pa (.ref a) (.tup ds)
  | scr {a : Addr} {ns : List Int} : SqL K F a (ns.map V.int) → Rep K F g pa (.ref a) (.scr ns)
  | pot {v : V} {k : Nat} : k ≤ g → (k = g → ∃ a, pa = some a ∧ v = .ref a) → Rep K F g pa v (.pot k)
  | emp {a : Addr} : F a = some (.dK []) → Rep K F g pa (.ref a) .emp

def AllR {α β : Type} (R : α → β → Prop) (xs : List α) (ys : List β) : Prop := xs.length = ys.length ∧ ∀ (i : Nat) x y, xs[i]? = some x → ys[i]? = some y → R x y

theorem AllR.nil {α β : Type} {R : α → β → Prop} : AllR R ([] : List α) ([] : List β) := ⟨rfl, fun i x y h => by simp at h⟩
theorem AllR.cons {α β : Type} {R : α → β → Prop} {x : α} {y : β} {xs : List α} {ys : List β} (h : R x y) (t : AllR R xs ys) : AllR R (x :: xs) (y :: ys) :=
  ⟨by simp [t.1], fun i a b ha hb => by
    cases i with
    | zero => simp at ha hb; subst ha hb; exact h
    | succ j => exact t.2 j a b (by simpa using ha) (by simpa using hb)⟩
theorem AllR.head {α β : Type} {R : α → β → Prop} {x : α} {y : β} {xs : List α} {ys : List β} (t : AllR R (x :: xs) (y :: ys)) : R x y := t.2 0 x y rfl rfl
theorem AllR.tail {α β : Type} {R : α → β → Prop} {x : α} {y : β} {xs : List α} {ys : List β} (t : AllR R (x :: xs) (y :: ys)) : AllR R xs ys :=
  ⟨by have := t.1; simpa using this, fun i a b ha hb => t.2 (i + 1) a b (by simpa using ha) (by simpa using hb)⟩
theorem AllR.cases {α β : Type} {R : α → β → Prop} : ∀ {xs : List α} {ys : List β}, AllR R xs ys → (xs = [] ∧ ys = []) ∨ ∃ x y xs' ys', xs = x :: xs' ∧ ys = y :: ys' ∧ R x y ∧ AllR R xs' ys'
  | [], [], _ => .inl ⟨rfl, rfl⟩
  | [], _ :: _, h => by have := h.1; simp at this
  | _ :: _, [], h => by have := h.1; simp at this
  | x :: xs, y :: ys, h => .inr ⟨x, y, xs, ys, rfl, rfl, h.head, h.tail⟩
theorem AllR.append {α β : Type} {R : α → β → Prop} {xs xs' : List α} {ys ys' : List β} (h : AllR R xs ys) (h' : AllR R xs' ys') : AllR R (xs ++ xs') (ys ++ ys') :=
  ⟨by simp [h.1, h'.1], fun i a b ha hb => by
    by_cases hi : i < xs.length
    · rw [List.getElem?_append_left hi] at ha
      rw [List.getElem?_append_left (by rw [← h.1]; exact hi)] at hb
      exact h.2 i a b ha hb
    · rw [List.getElem?_append_right (by omega)] at ha
      rw [List.getElem?_append_right (by rw [← h.1]; omega), ← h.1] at hb
      exact h'.2 _ a b ha hb⟩
theorem AllR.mono {α β : Type} {R R' : α → β → Prop} {xs : List α} {ys : List β} (h : AllR R xs ys) (f : ∀ x y, R x y → R' x y) : AllR R' xs ys := ⟨h.1, fun i a b ha hb => f _ _ (h.2 i a b ha hb)⟩
theorem AllR.get {α β : Type} {R : α → β → Prop} {xs : List α} {ys : List β} (h : AllR R xs ys) {i : Nat} {y : β} (e : ys[i]? = some y) : ∃ x, xs[i]? = some x ∧ R x y := by
  have hi : i < ys.length := (List.getElem?_eq_some_iff.mp e).1
  have hi' : i < xs.length := by rw [h.1]; exact hi
  exact ⟨xs[i], by simp [hi'], h.2 i _ _ (by simp [hi']) e⟩
theorem AllR.get' {α β : Type} {R : α → β → Prop} {xs : List α} {ys : List β} (h : AllR R xs ys) {i : Nat} {x : α} (e : xs[i]? = some x) : ∃ y, ys[i]? = some y ∧ R x y := by
  have hi : i < xs.length := (List.getElem?_eq_some_iff.mp e).1
  have hi' : i < ys.length := by rw [← h.1]; exact hi
  exact ⟨ys[i], by simp [hi'], h.2 i _ _ e (by simp [hi'])⟩
theorem AllR.set {α β : Type} {R : α → β → Prop} {xs : List α} {ys : List β} {x : α} {y : β} (h : AllR R xs ys) (r : R x y) (j : Nat) : AllR R (xs.set j x) (ys.set j y) :=
  ⟨by simp [h.1], fun i a b ha hb => by
    rw [List.getElem?_set] at ha hb
    by_cases e : j = i
    · subst e
      simp only [if_true] at ha hb
      split at ha
      · split at hb
        · cases ha; cases hb; exact r
        · cases hb
      · cases ha
    · rw [if_neg e] at ha hb
      exact h.2 i a b ha hb⟩
theorem AllR.take {α β : Type} {R : α → β → Prop} {xs : List α} {ys : List β} (h : AllR R xs ys) (n : Nat) : AllR R (xs.take n) (ys.take n) :=
  ⟨by simp [h.1], fun i a b ha hb => by
    rw [List.getElem?_take] at ha hb
    split at ha
    · rename_i hi; rw [if_pos hi] at hb; exact h.2 i a b ha hb
    · cases ha⟩
theorem AllR.drop {α β : Type} {R : α → β → Prop} {xs : List α} {ys : List β} (h : AllR R xs ys) (n : Nat) : AllR R (xs.drop n) (ys.drop n) :=
  ⟨by simp [h.1], fun i a b ha hb => by
    rw [List.getElem?_drop] at ha hb
    exact h.2 _ a b ha hb⟩
theorem AllR.reverse {α β : Type} {R : α → β → Prop} {xs : List α} {ys : List β} (h : AllR R xs ys) : AllR R xs.reverse ys.reverse :=
  ⟨by simp [h.1], fun i a b ha hb => by
    have hi : i < xs.reverse.length := (List.getElem?_eq_some_iff.mp ha).1
    have hi2 : i < xs.length := by simpa using hi
    rw [List.getElem?_reverse hi2] at ha
    rw [List.getElem?_reverse (by rw [← h.1]; exact hi2), ← h.1] at hb
    exact h.2 _ a b ha hb⟩

abbrev Reps (K : PySem.W.Frag) (F : Hp) (g : Nat) (pa : Option Addr) : List V → List D → Prop := AllR (Rep K F g pa)

/-- the frozen part and the pot's generation go on -/
structure Fz (F : Hp) (g : Nat) (pa : Option Addr) (F' : Hp) (g' : Nat) (pa' : Option Addr) : Prop where
  sub : ∀ a o, F a = some o → F' a = some o
  gle : g ≤ g'
  same : g = g' → pa' = pa
theorem Fz.refl {F : Hp} {g : Nat} {pa : Option Addr} : Fz F g pa F g pa := ⟨fun _ _ h => h, Nat.le_refl _, fun _ => rfl⟩
theorem Fz.trans {F F1 F2 : Hp} {g g1 g2 : Nat} {pa pa1 pa2 : Option Addr} (a : Fz F g pa F1 g1 pa1) (b : Fz F1 g1 pa1 F2 g2 pa2) : Fz F g pa F2 g2 pa2 :=
  ⟨fun c o h => b.sub c o (a.sub c o h), Nat.le_trans a.gle b.gle, fun e => by
    have h1 := a.gle
    have h2 := b.gle
    rw [b.same (by omega), a.same (by omega)]⟩
theorem sqL_mono {K : PySem.W.Frag} {F F' : Hp} {a : Addr} {xs : List V} (h : ∀ a o, F a = some o → F' a = some o) (s : SqL K F a xs) : SqL K F' a xs := by
  rcases s with (s | ⟨o, s⟩) | s
  · exact .inl (.inl (h _ _ s))
  · exact .inl (.inr ⟨o, h _ _ s⟩)
  · exact .inr s
theorem Rep.mono {K : PySem.W.Frag} {F F' : Hp} {g g' : Nat} {pa pa' : Option Addr} {v : V} {d : D} (r : Rep K F g pa v d) (z : Fz F g pa F' g' pa') : Rep K F' g' pa' v d := by
  induction r with
  | non => exact .non
  | bl b => exact .bl b
  | int i => exact .int i
  | str x => exact .str x
  | lst h hz hl _ ih => exact .lst (z.sub _ _ h) hz hl fun i v d h1 h2 => ih i v d h1 h2
  | tup h hz hl _ ih => exact .tup (z.sub _ _ h) hz hl fun i v d h1 h2 => ih i v d h1 h2
  | scr h => exact .scr (sqL_mono z.sub h)
  | pot h1 h2 =>
    refine .pot (Nat.le_trans h1 z.gle) fun e => ?_
    have h3 := z.gle
    obtain ⟨a, e1, e2⟩ := h2 (by omega)
    exact ⟨a, by rw [z.same (by omega)]; exact e1, e2⟩
  | emp h => exact .emp (z.sub _ _ h)
theorem Reps.mono {K : PySem.W.Frag} {F F' : Hp} {g g' : Nat} {pa pa' : Option Addr} {v : List V} {d : List D} (r : Reps K F g pa v d) (z : Fz F g pa F' g' pa') : Reps K F' g' pa' v d := AllR.mono r fun _ _ h => h.mono z
theorem Rep.lst' {K : PySem.W.Frag} {F : Hp} {g : Nat} {pa : Option Addr} {a : Addr} {vs : List V} {ds : List D} (h : F a = some (.lst vs)) (hz : ds.length ≤ sizeLine) (r : Reps K F g pa vs ds) : Rep K F g pa (.ref a) (.lst ds) := .lst h hz r.1 r.2
theorem Rep.tup' {K : PySem.W.Frag} {F : Hp} {g : Nat} {pa : Option Addr} {a : Addr} {vs : List V} {ds : List D} (h : F a = some (.tup vs)) (hz : ds.length ≤ sizeLine) (r : Reps K F g pa vs ds) : Rep K F g pa (.ref a) (.tup ds) := .tup h hz r.1 r.2
theorem Rep.lst_inv {K : PySem.W.Frag} {F : Hp} {g : Nat} {pa : Option Addr} {v : V} {ds : List D} (r : Rep K F g pa v (.lst ds)) : ∃ a vs, v = .ref a ∧ F a = some (.lst vs) ∧ ds.length ≤ sizeLine ∧ Reps K F g pa vs ds := by
  cases r with
  | lst h hz hl hr => exact ⟨_, _, rfl, h, hz, hl, hr⟩
theorem Rep.tup_inv {K : PySem.W.Frag} {F : Hp} {g : Nat} {pa : Option Addr} {v : V} {ds : List D} (r : Rep K F g pa v (.tup ds)) : ∃ a vs, v = .ref a ∧ F a = some (.tup vs) ∧ ds.length ≤ sizeLine ∧ Reps K F g pa vs ds := by
  cases r with
  | tup h hz hl hr => exact ⟨_, _, rfl, h, hz, hl, hr⟩

/-! ### the state: slots, frozen part, heap, pot -/
/-- what is true of the heap alone -/
structure GS (F H : Hp) (pa : Option Addr) (p : Pst) : Prop where
  sub : ∀ a o, F a = some o → H a = some o
  pot : ∀ a, pa = some a → H a = some (.lst [.int p.a, .int p.b]) ∧ F a = none
def WRep (K : PySem.W.Frag) (F H : Hp) (g : Nat) (pa : Option Addr) (v : V) : W → Prop
  | .val d => Rep K F g pa v d
  | .own xs => ∃ a vs, v = .ref a ∧ H a = some (.lst vs) ∧ F a = none ∧ pa ≠ some a ∧ xs.length ≤ sizeLine ∧ Reps K F g pa vs xs
structure SRel (K : PySem.W.Frag) (F H : Hp) (g : Nat) (pa : Option Addr) (σ : L2.St) (ρ : Sl) : Prop where
  len : ρ.length = σ.length
  rep : ∀ (i : Nat) w, ρ[i]? = some (some w) → ∃ v, σ[i]? = some (some v) ∧ WRep K F H g pa v w
  apart : ∀ (i j : Nat) xs ys v, ρ[i]? = some (some (.own xs)) → ρ[j]? = some (some (.own ys)) → σ[i]? = some (some v) → σ[j]? = some (some v) → i = j
/-- the heap goes on -/
structure Gr (F H : Hp) (g : Nat) (pa : Option Addr) (F' H' : Hp) (g' : Nat) (pa' : Option Addr) : Prop where
  fz : Fz F g pa F' g' pa'
  new : ∀ a o, F' a = some o → F a = some o ∨ H a = none
  keep : ∀ a o, H a = some o → pa ≠ some a → H' a = some o
  there : ∀ a o, H a = some o → ∃ o', H' a = some o'
  pot : pa' = pa ∨ ∃ a, pa' = some a ∧ H a = none
theorem Gr.refl {F H : Hp} {g : Nat} {pa : Option Addr} : Gr F H g pa F H g pa := ⟨.refl, fun _ _ h => .inl h, fun _ _ h _ => h, fun _ o h => ⟨o, h⟩, .inl rfl⟩
theorem Gr.trans {F H F1 H1 F2 H2 : Hp} {g g1 g2 : Nat} {pa pa1 pa2 : Option Addr} (x : Gr F H g pa F1 H1 g1 pa1) (y : Gr F1 H1 g1 pa1 F2 H2 g2 pa2) : Gr F H g pa F2 H2 g2 pa2 := by
  refine ⟨x.fz.trans y.fz, fun a o h => ?_, fun a o h n => ?_, fun a o h => ?_, ?_⟩
  · rcases y.new a o h with h | h
    · exact x.new a o h
    · right
      cases q : H a with
      | none => rfl
      | some u =>
        obtain ⟨o', e⟩ := x.there a u q
        rw [e] at h; cases h
  · refine y.keep a o (x.keep a o h n) fun e => ?_
    rcases x.pot with q | ⟨b, q, hb⟩
    · exact n (by rw [← q]; exact e)
    · rw [q] at e; cases e; rw [h] at hb; cases hb
  · obtain ⟨o1, h1⟩ := x.there a o h
    exact y.there a o1 h1
  · rcases y.pot with q | ⟨b, q, hb⟩
    · rcases x.pot with q' | ⟨c, q', hc⟩
      · exact .inl (q.trans q')
      · exact .inr ⟨c, q.trans q', hc⟩
    · refine .inr ⟨b, q, ?_⟩
      cases e : H b with
      | none => rfl
      | some u =>
        obtain ⟨o', e'⟩ := x.there b u e
        rw [e'] at hb; cases hb
/-- the slots' meaning goes along -/
theorem SRel.grow {K : PySem.W.Frag} {F H F' H' : Hp} {g g' : Nat} {pa pa' : Option Addr} {σ : L2.St} {ρ : Sl} (s : SRel K F H g pa σ ρ) (x : Gr F H g pa F' H' g' pa') : SRel K F' H' g' pa' σ ρ := by
  refine ⟨s.len, fun i w h => ?_, s.apart⟩
  obtain ⟨v, e, r⟩ := s.rep i w h
  refine ⟨v, e, ?_⟩
  cases w with
  | val d => exact Rep.mono r x.fz
  | own xs =>
    obtain ⟨a, vs, e1, e2, e3, e4, e6, e5⟩ := r
    refine ⟨a, vs, e1, x.keep a _ e2 e4, ?_, fun q => ?_, e6, e5.mono x.fz⟩
    · cases q : F' a with
      | none => rfl
      | some o =>
        rcases x.new a o q with z | z
        · rw [e3] at z; cases z
        · rw [e2] at z; cases z
    · rcases x.pot with z | ⟨b, z, hb⟩
      · exact e4 (by rw [← z]; exact q)
      · rw [z] at q; cases q; rw [e2] at hb; cases hb

/-! ### expressions -/
/-- an exception stands for x: its class by the module's name, its own dict -/
def fldNames : Str → List Str := fun c => if c = "TooMany" then ["what", "limit"] else if c = "BadText" then ["place"] else ["value"]
def ExRep (K : PySem.W.Frag) (mg : Str → Option Value) (F : Hp) (g : Nat) (pa : Option Addr) (cls : Value) (d : Option Addr) (x : Ex) : Prop :=
  mg x.cls = some cls ∧ (x.args = [] ∨ ∃ dd vs, d = some dd ∧ F dd = some (.xd ((fldNames x.cls).zip vs)) ∧ Reps K F g pa vs x.args)
/-- what a result leaves, from F, H, g, pa on: P of it, or the wish of an exception -/
def Out {α : Type} (K : PySem.W.Frag) (mg : Str → Option Value) (Wx : WX) (σ : L2.St) (F H : Hp) (g : Nat) (pa : Option Addr) (P : α → Pst → Hp → Hp → Option Addr → Prop) : Res α → Prop
  | .ok a p' => ∀ F' H' pa', Gr F H g pa F' H' p'.g pa' → GS F' H' pa' p' → P a p' F' H' pa'
  | .exc x p' => ∀ cls dd F' H' pa', Gr F H g pa F' H' p'.g pa' → GS F' H' pa' p' → ExRep K mg F' p'.g pa' cls dd x → Wx cls dd σ H'
  | .stuck => False
/-- at some state of the slots ρ, m leaves P -/
def At {α : Type} (K : PySem.W.Frag) (mg : Str → Option Value) (Wx : WX) (m : M α) (σ : L2.St) (H : Hp) (P : Hp → Option Addr → α → Pst → Hp → Hp → Option Addr → Prop) : Prop :=
  ∃ F pa p ρ, GS F H pa p ∧ SRel K F H p.g pa σ ρ ∧ Out K mg Wx σ F H p.g pa (P F pa) (m ρ p)
/-- the reading of an expression by m; Wx: what is wished of an exception -/
def TM (K : PySem.W.Frag) (mg : Str → Option Value) (Wx : WX) (m : M D) : TE := fun σ H Q => At K mg Wx m σ H fun _ _ d p' F' H' pa' => ∀ v, Rep K F' p'.g pa' v d → Q v H'
structure PM (X : Cx) (Wx : WX) (e : Expr) (m : M D) : Prop where
  pe : PE X e (TM X.K X.mg Wx m)
/-- a fresh list -/
def TMo (K : PySem.W.Frag) (mg : Str → Option Value) (Wx : WX) (m : M (List D)) : TE := fun σ H Q => At K mg Wx m σ H fun _ _ ds p' F' H' pa' => ∀ a vs, H a = none → H' a = some (.lst vs) → F' a = none → pa' ≠ some a → ds.length ≤ sizeLine → Reps K F' p'.g pa' vs ds → Q (.ref a) H'
structure PMo (X : Cx) (Wx : WX) (e : Expr) (m : M (List D)) : Prop where
  pe : PE X e (TMo X.K X.mg Wx m)
/-- a test -/
def TMt (K : PySem.W.Frag) (mg : Str → Option Value) (Wx : WX) (m : M Bool) : TT := fun σ H Q => At K mg Wx m σ H fun _ _ b p' F' H' pa' => Q b H'
structure PMt (X : Cx) (Wx : WX) (e : Expr) (m : M Bool) : Prop where
  pt : PT X e (TMt X.K X.mg Wx m)
/-- an argument list -/
def TMa (K : PySem.W.Frag) (mg : Str → Option Value) (Wx : WX) (m : M (List D)) : TA := fun σ H Q => At K mg Wx m σ H fun _ _ ds p' F' H' pa' => ∀ vs, Reps K F' p'.g pa' vs ds → Q vs H'
structure PMa (X : Cx) (Wx : WX) (es : List Expr) (m : M (List D)) : Prop where
  pa : PA X es (TMa X.K X.mg Wx m)

theorem _root_.L2.PE.imp {X : Cx} {e : Expr} {t t' : TE} (h : PE X e t) (f : ∀ σ H Q, t' σ H Q → t σ H Q) : PE X e t' := ⟨fun pins s σ H Q I q => h.run pins s σ H Q I (f σ H Q q)⟩
theorem _root_.L2.PT.imp {X : Cx} {e : Expr} {t t' : TT} (h : PT X e t) (f : ∀ σ H Q, t' σ H Q → t σ H Q) : PT X e t' := ⟨fun pins s σ H Q I q => h.run pins s σ H Q I (f σ H Q q)⟩
theorem _root_.L2.PW.imp {X : Cx} {e : Expr} {t t' : TT} (h : PW X e t) (f : ∀ σ H Q, t' σ H Q → t σ H Q) : PW X e t' := ⟨fun wh pins s σ H Q I q => h.run wh pins s σ H Q I (f σ H Q q)⟩
theorem _root_.L2.PA.imp {X : Cx} {e : List Expr} {t t' : TA} (h : PA X e t) (f : ∀ σ H Q, t' σ H Q → t σ H Q) : PA X e t' := ⟨fun pos pins s σ H Q I q => h.run pos pins s σ H Q I (f σ H Q q)⟩

/-! ### the monad -/
def mret {α : Type} (a : α) : M α := fun _ p => .ok a p
def mbind {α β : Type} (m : M α) (k : α → M β) : M β := fun ρ p => match m ρ p with
  | .ok a p' => k a ρ p'
  | .exc x p' => .exc x p'
  | .stuck => .stuck
def mstuck {α : Type} : M α := fun _ _ => .stuck
def mopt {α : Type} (o : Option α) : M α := fun _ p => match o with
  | some a => .ok a p
  | none => .stuck

section
variable {K : PySem.W.Frag} {mg : Str → Option Value} {Wx : WX} {σ : L2.St} {F H : Hp} {g : Nat} {pa : Option Addr}
theorem Out.bind {α β : Type} {P : β → Pst → Hp → Hp → Option Addr → Prop} {m : M α} {k : α → M β} {ρ : Sl} {p : Pst} (h : Out K mg Wx σ F H g pa P (mbind m k ρ p)) :
    Out K mg Wx σ F H g pa (fun a p' F' H' pa' => Out K mg Wx σ F' H' p'.g pa' P (k a ρ p')) (m ρ p) := by
  unfold mbind at h
  cases e : m ρ p with
  | stuck => rw [e] at h; exact h
  | exc x p' => rw [e] at h; exact h
  | ok a p' =>
    rw [e] at h
    intro F' H' pa' gr gs
    cases e2 : k a ρ p' with
    | stuck => simp only [e2] at h; exact h
    | exc x p2 => simp only [e2] at h; exact fun cls dd F2 H2 pa2 gr2 gs2 r => h cls dd F2 H2 pa2 (gr.trans gr2) gs2 r
    | ok b p2 => simp only [e2] at h; exact fun F2 H2 pa2 gr2 gs2 => h F2 H2 pa2 (gr.trans gr2) gs2
theorem Out.mono {α : Type} {P P' : α → Pst → Hp → Hp → Option Addr → Prop} {r : Res α} (h : Out K mg Wx σ F H g pa P r) (f : ∀ a p' F' H' pa', Gr F H g pa F' H' p'.g pa' → GS F' H' pa' p' → P a p' F' H' pa' → P' a p' F' H' pa') : Out K mg Wx σ F H g pa P' r := by
  cases r with
  | stuck => exact h
  | exc x p' => exact h
  | ok a p' => exact fun F' H' pa' gr gs => f _ _ _ _ _ gr gs (h F' H' pa' gr gs)
theorem Out.ret {α : Type} {P : α → Pst → Hp → Hp → Option Addr → Prop} {a : α} {p : Pst} (h : Out K mg Wx σ F H p.g pa P (.ok a p)) (gs : GS F H pa p) : P a p F H pa := h F H pa .refl gs
theorem Out.opt {α : Type} {P : α → Pst → Hp → Hp → Option Addr → Prop} {o : Option α} {ρ : Sl} {p : Pst} (h : Out K mg Wx σ F H g pa P (mopt o ρ p)) : ∃ a, o = some a ∧ Out K mg Wx σ F H g pa P (.ok a p) := by
  cases o with
  | none => exact h.elim
  | some a => exact ⟨a, rfl, h⟩
end
end PF

namespace PF
open PySem PySem.Spec PyProof.Rows L2

/-! ### new objects -/
section
variable {K : PySem.W.Frag} {F H : Hp} {p : Pst} {pa : Option Addr} {q : Addr} {o : HO}
theorem GS.pne (gs : GS F H pa p) (hq : H q = none) : pa ≠ some q := fun e => by
  obtain ⟨z, _⟩ := gs.pot q e
  rw [hq] at z; cases z
theorem GS.fnone (gs : GS F H pa p) (hq : H q = none) : F q = none := by
  cases e : F q with
  | none => rfl
  | some o => rw [gs.sub _ _ e] at hq; cases hq
/-- a new object that is frozen -/
theorem GS.alloc (gs : GS F H pa p) (hq : H q = none) : GS (upd F q o) (upd H q o) pa p := by
  refine ⟨fun a u h => ?_, fun a e => ?_⟩
  · by_cases ha : a = q
    · subst ha; rw [upd_same] at h ⊢; exact h
    · rw [upd_ne ha] at h ⊢; exact gs.sub a u h
  · have ha : a ≠ q := fun z => gs.pne hq (by rw [← z]; exact e)
    rw [upd_ne ha, upd_ne ha]; exact gs.pot a e
theorem Gr.alloc (gs : GS F H pa p) (hq : H q = none) {g : Nat} : Gr F H g pa (upd F q o) (upd H q o) g pa := by
  refine ⟨⟨fun a u h => ?_, Nat.le_refl _, fun _ => rfl⟩, fun a u h => ?_, fun a u h _ => ?_, fun a u h => ?_, .inl rfl⟩
  · rw [upd_ne fun z => ?_]; exact h
    subst z; rw [gs.fnone hq] at h; cases h
  · by_cases ha : a = q
    · subst ha; exact .inr hq
    · rw [upd_ne ha] at h; exact .inl h
  · rw [upd_ne (ne_of_none h hq)]; exact h
  · exact ⟨u, by rw [upd_ne (ne_of_none h hq)]; exact h⟩
/-- a new object that is not -/
theorem GS.allocO (gs : GS F H pa p) (hq : H q = none) : GS F (upd H q o) pa p := by
  refine ⟨fun a u h => ?_, fun a e => ?_⟩
  · rw [upd_ne fun z => ?_]; exact gs.sub a u h
    subst z; rw [gs.fnone hq] at h; cases h
  · have ha : a ≠ q := fun z => gs.pne hq (by rw [← z]; exact e)
    rw [upd_ne ha]; exact gs.pot a e
theorem Gr.allocO (hq : H q = none) {g : Nat} : Gr F H g pa F (upd H q o) g pa := by
  refine ⟨.refl, fun a u h => .inl h, fun a u h _ => ?_, fun a u h => ?_, .inl rfl⟩
  · rw [upd_ne (ne_of_none h hq)]; exact h
  · exact ⟨u, by rw [upd_ne (ne_of_none h hq)]; exact h⟩
/-- a fresh list is frozen -/
theorem GS.freeze (gs : GS F H pa p) (hH : H q = some o) (hp : pa ≠ some q) : GS (upd F q o) H pa p := by
  refine ⟨fun a u h => ?_, fun a e => ?_⟩
  · by_cases ha : a = q
    · subst ha; rw [upd_same] at h; rw [← h]; exact hH
    · rw [upd_ne ha] at h; exact gs.sub a u h
  · have ha : a ≠ q := fun z => hp (by rw [← z]; exact e)
    rw [upd_ne ha]; exact gs.pot a e
theorem Gr.freeze {F' H' : Hp} {g g' : Nat} {pa' : Option Addr} (x : Gr F H g pa F' H' g' pa') (hq : H q = none) (hF : F' q = none) : Gr F H g pa (upd F' q o) H' g' pa' := by
  refine ⟨⟨fun a u h => ?_, x.fz.gle, x.fz.same⟩, fun a u h => ?_, x.keep, x.there, x.pot⟩
  · have := x.fz.sub a u h
    rw [upd_ne fun z => ?_]; exact this
    subst z; rw [hF] at this; cases this
  · by_cases ha : a = q
    · subst ha; exact .inr hq
    · rw [upd_ne ha] at h; exact x.new a u h
theorem Fz.upd (hF : F q = none) {g : Nat} : Fz F g pa (L2.upd F q o) g pa := by
  refine ⟨fun a u h => ?_, Nat.le_refl _, fun _ => rfl⟩
  rw [upd_ne fun z => ?_]; exact h
  subst z; rw [hF] at h; cases h
end

section
variable {X : Cx} {Wx : WX} {a b c e : Expr} {es : List Expr} {ma mb mc m : M D} {pos : Pos}

/-! ### names, constants -/
def rd (i : Nat) : M D := fun ρ p => match ρ[i]? with
  | some (some (.val d)) => .ok d p
  | _ => .stuck
theorem pm_of {i : Nat} {x : Str} (h : PE X (.Name x pos) (tVar i)) : PM X Wx (.Name x pos) (rd i) := ⟨h.imp fun σ H Q ⟨F, pa, p, ρ, gs, s, o⟩ => by
  unfold rd at o
  cases e : ρ[i]? with
  | none => rw [e] at o; exact o.elim
  | some w =>
    rw [e] at o
    cases w with
    | none => exact o.elim
    | some w =>
      cases w with
      | own xs => exact o.elim
      | val d =>
        obtain ⟨v, h1, r⟩ := s.rep i _ e
        exact ⟨v, h1, o.ret gs v r⟩⟩
theorem pm_const {v : V} {d : D} {e : Expr} (h : PE X e (tC v)) (r : ∀ F g pa, Rep X.K F g pa v d) : PM X Wx e (mret d) := ⟨h.imp fun σ H Q ⟨F, pa, p, ρ, gs, s, o⟩ => Out.ret o gs v (r _ _ _)⟩
theorem pm_int {i j} : PM X Wx (.Constant (.int i) j pos) (mret (.int i)) := pm_const pe_int fun _ _ _ => .int i
theorem pm_bl {i j} : PM X Wx (.Constant (.bool i) j pos) (mret (.bl i)) := pm_const pe_bl fun _ _ _ => .bl i
theorem pm_str {i j} : PM X Wx (.Constant (.str i) j pos) (mret (.str i)) := pm_const pe_str fun _ _ _ => .str i
theorem pm_non {j} : PM X Wx (.Constant .none j pos) (mret .non) := pm_const pe_non fun _ _ _ => .non
theorem pm_gint {x : Str} {i : Int} (hg : Gl X x) (hm : ∃ t, X.mg x = some (.int i t)) (hd : (x == ("__debug__" : Str)) = false := by decide) : PM X Wx (.Name x pos) (mret (.int i)) := by
  obtain ⟨t, e⟩ := hm
  exact pm_const (pe_glob hg e (v := .int i) ⟨t, rfl⟩ hd) fun _ _ _ => .int i
theorem pm_gstr {x : Str} {i : Str} (hg : Gl X x) (hm : ∃ t, X.mg x = some (.str i t)) (hd : (x == ("__debug__" : Str)) = false := by decide) : PM X Wx (.Name x pos) (mret (.str i)) := by
  obtain ⟨t, e⟩ := hm
  exact pm_const (pe_glob hg e (v := .str i) ⟨t, rfl⟩ hd) fun _ _ _ => .str i

/-! ### two in a row -/
theorem TM.of {K : PySem.W.Frag} {mg : Str → Option Value} {σ : L2.St} {F H : Hp} {pa : Option Addr} {p : Pst} {ρ : Sl} {Q : VK} (gs : GS F H pa p) (s : SRel K F H p.g pa σ ρ)
    (h : Out K mg Wx σ F H p.g pa (fun d p' F' H' pa' => SRel K F' H' p'.g pa' σ ρ → ∀ v, Rep K F' p'.g pa' v d → Q v H') (m ρ p)) : TM K mg Wx m σ H Q :=
  ⟨F, pa, p, ρ, gs, s, h.mono fun _ _ _ _ _ gr _ k v r => k (s.grow gr) v r⟩
def OpS (X : Cx) (r : R2) (op : D → D → Option D) : Prop := ∀ (x y : V) (d e z : D) (F H : Hp) (p : Pst) (pa : Option Addr) (Q : VK), GS F H pa p → Rep X.K F p.g pa x d → Rep X.K F p.g pa y e → op d e = some z →
  (∀ v F' H', Gr F H p.g pa F' H' p.g pa → GS F' H' pa p → Rep X.K F' p.g pa v z → Q v H') → r x y H Q
def mOp (op : D → D → Option D) (ma mb : M D) : M D := mbind ma fun x => mbind mb fun y => mopt (op x y)
theorem tm_op {r : R2} {f : D → D → Option D} (hs : OpS X r f) : ∀ σ H Q, TM X.K X.mg Wx (mOp f ma mb) σ H Q → tOp r (TM X.K X.mg Wx ma) (TM X.K X.mg Wx mb) σ H Q := fun σ H Q ⟨F, pa, p, ρ, gs, s, o⟩ => by
  refine TM.of gs s (o.bind.mono fun d p1 F1 H1 pa1 gr1 gs1 o1 s1 v1 r1 => ?_)
  refine TM.of gs1 s1 (o1.bind.mono fun e p2 F2 H2 pa2 gr2 gs2 o2 s2 v2 r2 => ?_)
  obtain ⟨z, ez, o3⟩ := o2.opt
  exact hs v1 v2 d e z F2 H2 p2 pa2 Q gs2 (r1.mono gr2.fz) r2 ez fun v F3 H3 gr3 gs3 r3 => o3 F3 H3 pa2 gr3 gs3 v r3
theorem pm_op {op : Operator} {r : R2} {f : D → D → Option D} (ho : OpR X (binaryOp op) r) (hs : OpS X r f) (ha : PM X Wx a ma) (hb : PM X Wx b mb) : PM X Wx (.BinOp a op b pos) (mOp f ma mb) :=
  ⟨(pe_op ho ha.pe hb.pe).imp (tm_op hs)⟩
theorem OpS.or {r r' : R2} {f f' : D → D → Option D} (h : OpS X r f) (h' : OpS X r' f') : OpS X (fun x y H Q => r x y H Q ∨ r' x y H Q) (fun d e => (f d e).or (f' d e)) := by
  intro x y d e z F H p pa Q gs rx ry ez k
  have ez : (f d e).or (f' d e) = some z := ez
  cases q : f d e with
  | some z' =>
    rw [q] at ez
    have : z' = z := by simpa using ez
    subst this
    exact .inl (h x y d e z' F H p pa Q gs rx ry q k)
  | none =>
    rw [q] at ez
    exact .inr (h' x y d e z F H p pa Q gs rx ry (by simpa using ez) k)
theorem OpS.imp {r : R2} {f f' : D → D → Option D} (h : OpS X r f) (hf : ∀ d e z, f' d e = some z → f d e = some z) : OpS X r f' := fun x y d e z F H p pa Q gs rx ry ez k => h x y d e z F H p pa Q gs rx ry (hf d e z ez) k

/-! ### ints -/
def dI2 (f : Int → Int → Int) : D → D → Option D
  | .int i, .int j => some (.int (f i j))
  | _, _ => none
def dI2c (C : Int → Int → Bool) (f : Int → Int → Int) : D → D → Option D
  | .int i, .int j => if C i j = true then some (.int (f i j)) else none
  | _, _ => none
theorem ops_I0 {g : Int → Int → Int} : OpS X (rI0 fun i j => .int (g i j)) (dI2 g) := by
  intro x y d e z F H p pa Q gs rx ry ez k
  cases d <;> cases e <;> first | (simp [dI2] at ez; done) | skip
  cases rx; cases ry
  simp only [dI2, Option.some.injEq] at ez
  subst ez
  exact ⟨_, _, rfl, rfl, k _ F H .refl gs (.int _)⟩
theorem ops_I {C : Int → Int → Prop} {Cb : Int → Int → Bool} {g : Int → Int → Int} (hC : ∀ i j, Cb i j = true → C i j) : OpS X (rI C fun i j => .int (g i j)) (dI2c Cb g) := by
  intro x y d e z F H p pa Q gs rx ry ez k
  cases d <;> cases e <;> first | (simp [dI2c] at ez; done) | skip
  cases rx; cases ry
  simp only [dI2c] at ez
  split at ez
  · rename_i hc
    simp only [Option.some.injEq] at ez
    subst ez
    exact ⟨_, _, rfl, rfl, hC _ _ hc, k _ F H .refl gs (.int _)⟩
  · cases ez
def dSub : D → D → Option D := dI2 fun i j => i - j
theorem ops_sub : OpS X (rI0 fun i j => .int (i - j)) dSub := ops_I0
def okMul (i j : Int) : Bool := decide (i.natAbs < 2 ^ 64) || decide (j.natAbs < 2 ^ 64)
def dMulI : D → D → Option D := dI2c okMul fun i j => i * j
theorem ops_mulI : OpS X (rI CMul fun i j => .int (i * j)) dMulI := ops_I fun i j h => by
  unfold okMul at h
  simp only [Bool.or_eq_true, decide_eq_true_eq] at h
  rcases h with h | h
  · left; constructor <;> omega
  · right; constructor <;> omega
def okDiv (_ j : Int) : Bool := decide (j ≠ 0) && decide (j.natAbs < 1073741824)
def dDiv : D → D → Option D := dI2c okDiv fun i j => i.fdiv j
theorem ops_div : OpS X (rI CDivN fun i j => .int (i.fdiv j)) dDiv := ops_I fun i j h => by
  unfold okDiv at h
  simp only [Bool.and_eq_true, decide_eq_true_eq] at h
  exact h
def dMod : D → D → Option D := dI2c (fun _ j => decide (j ≠ 0)) fun i j => i.fmod j
theorem ops_mod : OpS X (rI (fun _ j => j ≠ 0) fun i j => .int (i.fmod j)) dMod := ops_I fun i j h => by simpa using h
def okPow (i j : Int) : Bool := decide (0 ≤ j) && decide (j ≤ 1000000) && decide (i.natAbs < 2 ^ 64)
def dPow : D → D → Option D := dI2c okPow fun i j => i ^ j.toNat
theorem ops_pow : OpS X (rI CPow fun i j => .int (i ^ j.toNat)) dPow := ops_I fun i j h => by
  unfold okPow at h
  simp only [Bool.and_eq_true, decide_eq_true_eq] at h
  exact ⟨h.1.1, h.1.2, h.2⟩
theorem pm_sub (ha : PM X Wx a ma) (hb : PM X Wx b mb) : PM X Wx (.BinOp a .Sub b pos) (mOp dSub ma mb) := pm_op op_sub ops_sub ha hb
theorem pm_div (ha : PM X Wx a ma) (hb : PM X Wx b mb) : PM X Wx (.BinOp a .FloorDiv b pos) (mOp dDiv ma mb) := pm_op op_fdivN ops_div ha hb
theorem pm_mod (ha : PM X Wx a ma) (hb : PM X Wx b mb) : PM X Wx (.BinOp a .Mod b pos) (mOp dMod ma mb) := pm_op op_modN ops_mod ha hb
theorem pm_pow (ha : PM X Wx a ma) (hb : PM X Wx b mb) : PM X Wx (.BinOp a .Pow b pos) (mOp dPow ma mb) := pm_op op_pow ops_pow ha hb

/-! ### sequences put together -/
theorem Rep.lstH {K : PySem.W.Frag} {F H : Hp} {p : Pst} {pa : Option Addr} {v : V} {ds : List D} (gs : GS F H pa p) (r : Rep K F p.g pa v (.lst ds)) : ∃ a vs, v = .ref a ∧ H a = some (.lst vs) ∧ ds.length ≤ sizeLine ∧ Reps K F p.g pa vs ds := by
  obtain ⟨a, vs, e, h, hz, rs⟩ := r.lst_inv
  exact ⟨a, vs, e, gs.sub _ _ h, hz, rs⟩
theorem Rep.tupH {K : PySem.W.Frag} {F H : Hp} {p : Pst} {pa : Option Addr} {v : V} {ds : List D} (gs : GS F H pa p) (r : Rep K F p.g pa v (.tup ds)) : ∃ a vs, v = .ref a ∧ H a = some (.tup vs) ∧ ds.length ≤ sizeLine ∧ Reps K F p.g pa vs ds := by
  obtain ⟨a, vs, e, h, hz, rs⟩ := r.tup_inv
  exact ⟨a, vs, e, gs.sub _ _ h, hz, rs⟩
def dCatL : D → D → Option D
  | .lst xs, .lst ys => if xs.length + ys.length ≤ sizeLine then some (.lst (xs ++ ys)) else none
  | _, _ => none
theorem ops_catL : OpS X rCat dCatL := by
  intro x y d e z F H p pa Q gs rx ry ez k
  cases d <;> cases e <;> first | (simp [dCatL] at ez; done) | skip
  simp only [dCatL] at ez
  split at ez
  · rename_i hc
    simp only [Option.some.injEq] at ez
    subst ez
    obtain ⟨l, xs, rfl, hl, hz1, r1⟩ := rx.lstH gs
    obtain ⟨m, ys, rfl, hm, hz2, r2⟩ := ry.lstH gs
    refine ⟨l, m, xs, ys, rfl, rfl, hl, hm, by rw [r1.1, r2.1]; exact hc, fun q hq => ?_⟩
    exact k _ _ _ (Gr.alloc gs hq) (gs.alloc hq) (Rep.lst' upd_same (by rw [List.length_append]; exact hc) ((AllR.append r1 r2).mono fun _ _ h => h.mono (Fz.upd (gs.fnone hq))))
  · cases ez
def dCatT : D → D → Option D
  | .tup xs, .tup ys => if xs.length + ys.length ≤ sizeLine then some (.tup (xs ++ ys)) else none
  | _, _ => none
theorem ops_catT : OpS X (rCatA X.K) dCatT := by
  intro x y d e z F H p pa Q gs rx ry ez k
  cases d <;> cases e <;> first | (simp [dCatT] at ez; done) | skip
  simp only [dCatT] at ez
  split at ez
  · rename_i hc
    simp only [Option.some.injEq] at ez
    subst ez
    have rx' := rx
    have ry' := ry
    obtain ⟨l, xs, rfl, hl, hz1, r1⟩ := rx.tupH gs
    obtain ⟨m, ys, rfl, hm, hz2, r2⟩ := ry.tupH gs
    refine ⟨l, m, xs, ys, rfl, rfl, SqT.of hl, SqT.of hm, by rw [r1.1, r2.1]; exact hc, fun e => ?_, fun e1 e2 => ?_, fun e1 e2 q hq => ?_⟩
    · subst e
      have e3 := List.eq_nil_of_length_eq_zero (r1.1.symm)
      subst e3
      exact k _ _ _ .refl gs ry'
    · subst e2
      have e3 := List.eq_nil_of_length_eq_zero (r2.1.symm)
      subst e3
      exact k _ _ _ .refl gs (by rw [List.append_nil]; exact rx')
    · exact k _ _ _ (Gr.alloc gs hq) (gs.alloc hq) (Rep.tup' upd_same (by rw [List.length_append]; exact hc) ((AllR.append r1 r2).mono fun _ _ h => h.mono (Fz.upd (gs.fnone hq))))
  · cases ez
def dAddS : D → D → Option D
  | .str x, .str y => if x.length + y.length ≤ sizeLine then some (.str (x ++ y)) else none
  | _, _ => none
theorem ops_addS : OpS X (fun x y H Q => ∃ i j, x = .str i ∧ y = .str j ∧ i.length + j.length ≤ sizeLine ∧ Q (.str (i ++ j)) H) dAddS := by
  intro x y d e z F H p pa Q gs rx ry ez k
  cases d <;> cases e <;> first | (simp [dAddS] at ez; done) | skip
  cases rx; cases ry
  simp only [dAddS] at ez
  split at ez
  · rename_i hc
    simp only [Option.some.injEq] at ez
    subst ez
    exact ⟨_, _, rfl, rfl, hc, k _ F H .refl gs (.str _)⟩
  · cases ez
def dAdd : D → D → Option D
  | .int i, .int j => some (.int (i + j))
  | .lst xs, .lst ys => dCatL (.lst xs) (.lst ys)
  | .tup xs, .tup ys => dCatT (.tup xs) (.tup ys)
  | .str x, .str y => dAddS (.str x) (.str y)
  | _, _ => none
theorem pm_add (ha : PM X Wx a ma) (hb : PM X Wx b mb) : PM X Wx (.BinOp a .Add b pos) (mOp dAdd ma mb) :=
  pm_op (op_add.or (op_cat.or (op_catA.or op_add_str))) ((ops_I0.or (ops_catL.or (ops_catT.or ops_addS))).imp fun d e z h => by
    cases d <;> cases e <;> first
      | (simp [dAdd] at h; done)
      | (simp only [dAdd, dI2, dCatL, dCatT, dAddS] at h ⊢; simp only [Option.some_or, Option.none_or, Option.or_none]; exact h)) ha hb
/-- a list so many times -/
def dRep : D → D → Option D
  | .lst xs, .int k => if -(2 ^ 63) ≤ k ∧ k < 2 ^ 63 ∧ xs.length * k.toNat ≤ sizeLine then some (.lst (List.replicate k.toNat xs).flatten) else none
  | _, _ => none
theorem AllR.rep {α β : Type} {R : α → β → Prop} {xs : List α} {ys : List β} (h : AllR R xs ys) : ∀ k : Nat, AllR R (List.replicate k xs).flatten (List.replicate k ys).flatten
  | 0 => by simpa using AllR.nil
  | k + 1 => by
    rw [List.replicate_succ, List.replicate_succ, List.flatten_cons, List.flatten_cons]
    exact h.append (h.rep k)
theorem ops_rep : OpS X rRep dRep := by
  intro x y d e z F H p pa Q gs rx ry ez k
  cases d <;> cases e <;> first | (simp [dRep] at ez; done) | skip
  simp only [dRep] at ez
  split at ez
  · rename_i hc
    simp only [Option.some.injEq] at ez
    subst ez
    cases ry
    obtain ⟨l, xs, rfl, hl, hz1, r1⟩ := rx.lstH gs
    refine ⟨l, _, xs, rfl, rfl, hl, hc.1, hc.2.1, by rw [r1.1]; exact hc.2.2, fun q hq => ?_⟩
    exact k _ _ _ (Gr.alloc gs hq) (gs.alloc hq) (Rep.lst' upd_same (by simpa [Nat.mul_comm] using hc.2.2) ((AllR.rep r1 _).mono fun _ _ h => h.mono (Fz.upd (gs.fnone hq))))
  · cases ez
def dMul : D → D → Option D
  | .int i, .int j => dMulI (.int i) (.int j)
  | .lst xs, .int k => dRep (.lst xs) (.int k)
  | _, _ => none
theorem pm_mul (ha : PM X Wx a ma) (hb : PM X Wx b mb) : PM X Wx (.BinOp a .Mult b pos) (mOp dMul ma mb) :=
  pm_op (op_mul.or op_rep) ((ops_mulI.or ops_rep).imp fun d e z h => by
    cases d <;> cases e <;> first
      | (simp [dMul] at h; done)
      | (simp only [dMul, dMulI, dI2c, dRep] at h ⊢; simp only [Option.some_or, Option.none_or, Option.or_none]; exact h)) ha hb

/-! ### one operand -/
def dNeg : D → Option D
  | .int i => some (.int (-i))
  | _ => none
def mUn (f : D → Option D) (ma : M D) : M D := mbind ma fun x => mopt (f x)
theorem pm_neg (ha : PM X Wx a ma) : PM X Wx (.UnaryOp .USub a pos) (mUn dNeg ma) := ⟨(pe_un un_neg ha.pe).imp fun σ H Q ⟨F, pa, p, ρ, gs, s, o⟩ => by
  refine TM.of gs s (o.bind.mono fun d p1 F1 H1 pa1 gr1 gs1 o1 s1 v1 r1 => ?_)
  obtain ⟨z, ez, o3⟩ := o1.opt
  cases d <;> first | (simp [dNeg] at ez; done) | skip
  cases r1
  simp only [dNeg, Option.some.injEq] at ez
  subst ez
  exact ⟨_, rfl, o3.ret gs1 _ (.int _)⟩⟩

/-! ### tests -/
def mB (m : M Bool) : M D := mbind m fun b => mret (.bl b)
def CmpS (X : Cx) (r : R2) (c : D → D → Option Bool) : Prop := ∀ (x y : V) (d e : D) (z : Bool) (F H : Hp) (p : Pst) (pa : Option Addr) (Q : VK), GS F H pa p → Rep X.K F p.g pa x d → Rep X.K F p.g pa y e → c d e = some z → Q (.bl z) H → r x y H Q
def mCmp (c : D → D → Option Bool) (ma mb : M D) : M Bool := mbind ma fun x => mbind mb fun y => mopt (c x y)
theorem tm_cmp {r : R2} {c : D → D → Option Bool} (hs : CmpS X r c) : ∀ σ H Q, TMt X.K X.mg Wx (mCmp c ma mb) σ H Q → tOp r (TM X.K X.mg Wx ma) (TM X.K X.mg Wx mb) σ H fun x H' => ∃ k, x = .bl k ∧ Q k H' := fun σ H Q ⟨F, pa, p, ρ, gs, s, o⟩ => by
  refine TM.of gs s (o.bind.mono fun d p1 F1 H1 pa1 gr1 gs1 o1 s1 v1 r1 => ?_)
  refine TM.of gs1 s1 (o1.bind.mono fun e p2 F2 H2 pa2 gr2 gs2 o2 s2 v2 r2 => ?_)
  obtain ⟨z, ez, o3⟩ := o2.opt
  exact hs v1 v2 d e z F2 H2 p2 pa2 _ gs2 (r1.mono gr2.fz) r2 ez ⟨_, rfl, o3.ret gs2⟩
theorem pmt_cmp {op : CmpOp} {r : R2} {c : D → D → Option Bool} (ho : OpR X (compareOp op) r) (hs : CmpS X r c) (ha : PM X Wx a ma) (hb : PM X Wx b mb) (hm : behindInMarks op b = false := by exact nomark _) : PMt X Wx (.Compare a [op] [b] pos) (mCmp c ma mb) :=
  ⟨(pt_cmpR ho ha.pe hb.pe hm).imp (tm_cmp hs)⟩
theorem TM.ofB {K : PySem.W.Frag} {mg : Str → Option Value} {m : M Bool} {σ : L2.St} {H : Hp} {Q : VK} (h : TM K mg Wx (mB m) σ H Q) : TMt K mg Wx m σ H fun b H' => Q (.bl b) H' := by
  obtain ⟨F, pa, p, ρ, gs, s, o⟩ := h
  exact ⟨F, pa, p, ρ, gs, s, o.bind.mono fun b p1 F1 H1 pa1 gr1 gs1 o1 => o1.ret gs1 _ (.bl b)⟩
theorem tOp_mono {r : R2} {ta tb : TE} : True := trivial
theorem pm_cmp {op : CmpOp} {r : R2} {c : D → D → Option Bool} (ho : OpR X (compareOp op) r) (hs : CmpS X r c) (ha : PM X Wx a ma) (hb : PM X Wx b mb) (hm : behindInMarks op b = false := by exact nomark _) : PM X Wx (.Compare a [op] [b] pos) (mB (mCmp c ma mb)) :=
  ⟨(pe_cmpR ho ha.pe hb.pe hm).imp fun σ H Q h => by
    obtain ⟨F, pa, p, ρ, gs, s, o⟩ := h.ofB
    refine TM.of gs s (o.bind.mono fun d p1 F1 H1 pa1 gr1 gs1 o1 s1 v1 r1 => ?_)
    refine TM.of gs1 s1 (o1.bind.mono fun e p2 F2 H2 pa2 gr2 gs2 o2 s2 v2 r2 => ?_)
    obtain ⟨z, ez, o3⟩ := o2.opt
    exact hs v1 v2 d e z F2 H2 p2 pa2 _ gs2 (r1.mono gr2.fz) r2 ez (o3.ret gs2)⟩
def dI2b (f : Int → Int → Bool) : D → D → Option Bool
  | .int i, .int j => some (f i j)
  | _, _ => none
theorem cmps_I {f : Int → Int → Bool} : CmpS X (rI0 fun i j => .bl (f i j)) (dI2b f) := by
  intro x y d e z F H p pa Q gs rx ry ez k
  cases d <;> cases e <;> first | (simp [dI2b] at ez; done) | skip
  cases rx; cases ry
  simp only [dI2b, Option.some.injEq] at ez
  subst ez
  exact ⟨_, _, rfl, rfl, k⟩
def dLt : D → D → Option Bool := dI2b fun i j => decide (i < j)
def dLe : D → D → Option Bool := dI2b fun i j => decide (i ≤ j)
def dGt : D → D → Option Bool := dI2b fun i j => decide (j < i)
def dGe : D → D → Option Bool := dI2b fun i j => decide (j ≤ i)
theorem pmt_lt (ha : PM X Wx a ma) (hb : PM X Wx b mb) : PMt X Wx (.Compare a [.Lt] [b] pos) (mCmp dLt ma mb) := pmt_cmp op_lt cmps_I ha hb
theorem pmt_le (ha : PM X Wx a ma) (hb : PM X Wx b mb) : PMt X Wx (.Compare a [.LtE] [b] pos) (mCmp dLe ma mb) := pmt_cmp op_le cmps_I ha hb
theorem pmt_gt (ha : PM X Wx a ma) (hb : PM X Wx b mb) : PMt X Wx (.Compare a [.Gt] [b] pos) (mCmp dGt ma mb) := pmt_cmp op_gt cmps_I ha hb
theorem pmt_ge (ha : PM X Wx a ma) (hb : PM X Wx b mb) : PMt X Wx (.Compare a [.GtE] [b] pos) (mCmp dGe ma mb) := pmt_cmp op_ge cmps_I ha hb
theorem pm_lt (ha : PM X Wx a ma) (hb : PM X Wx b mb) : PM X Wx (.Compare a [.Lt] [b] pos) (mB (mCmp dLt ma mb)) := pm_cmp op_lt cmps_I ha hb
theorem pm_le (ha : PM X Wx a ma) (hb : PM X Wx b mb) : PM X Wx (.Compare a [.LtE] [b] pos) (mB (mCmp dLe ma mb)) := pm_cmp op_le cmps_I ha hb
theorem pm_gt (ha : PM X Wx a ma) (hb : PM X Wx b mb) : PM X Wx (.Compare a [.Gt] [b] pos) (mB (mCmp dGt ma mb)) := pm_cmp op_gt cmps_I ha hb
theorem pm_ge (ha : PM X Wx a ma) (hb : PM X Wx b mb) : PM X Wx (.Compare a [.GtE] [b] pos) (mB (mCmp dGe ma mb)) := pm_cmp op_ge cmps_I ha hb
end
end PF

namespace PF
open PySem PySem.Spec PyProof.Rows L2

/-! ### data as the library has it -/
mutual
def toPy : D → PyData
  | .non => .none
  | .bl b => .bool b
  | .int i => .int i
  | .str x => .str x
  | .lst xs => .list (toPys xs)
  | .tup xs => .tuple (toPys xs)
  | .scr ns => .list (ns.map .int)
  | .pot _ => .none
  | .emp => .dict []
def toPys : List D → List PyData
  | [] => []
  | x :: xs => toPy x :: toPys xs
end
mutual
/-- plain data: no pot, no dict, no script within -/
def pl : D → Bool
  | .non | .bl _ | .int _ => true
  | .str x => PyData.strOk x
  | .lst xs => pls xs
  | .tup xs => pls xs
  | .scr _ => false
  | .pot _ => false
  | .emp => false
def pls : List D → Bool
  | [] => true
  | x :: xs => pl x && pls xs
end
mutual
def dep : D → Nat
  | .lst xs => deps xs + 1
  | .tup xs => deps xs + 1
  | _ => 0
def deps : List D → Nat
  | [] => 0
  | x :: xs => max (dep x) (deps xs)
end
theorem toPys_map (xs : List D) : toPys xs = xs.map toPy := by
  induction xs with
  | nil => simp [toPys]
  | cons x xs ih => simp [toPys, ih]
theorem pls_all (xs : List D) : pls xs = xs.all pl := by
  induction xs with
  | nil => simp [pls]
  | cons x xs ih => simp [pls, ih]
mutual
theorem canLay_pl : ∀ d : D, pl d = true → (toPy d).canLay0 = true
  | .non, _ => by simp [toPy, PyData.canLay0]
  | .bl _, _ => by simp [toPy, PyData.canLay0]
  | .int _, _ => by simp [toPy, PyData.canLay0]
  | .str _, h => by simp only [toPy, PyData.canLay0]; simpa [pl] using h
  | .lst xs, h => by simp only [toPy, PyData.canLay0]; exact canLay_pls xs (by simpa [pl] using h)
  | .tup xs, h => by simp only [toPy, PyData.canLay0]; exact canLay_pls xs (by simpa [pl] using h)
  | .scr _, h => by simp [pl] at h
  | .pot _, h => by simp [pl] at h
  | .emp, h => by simp [pl] at h
theorem canLay_pls : ∀ ds : List D, pls ds = true → PyData.canLayAll0 (toPys ds) = true
  | [], _ => by simp [toPys, PyData.canLayAll0]
  | x :: xs, h => by
    simp only [pls, Bool.and_eq_true] at h
    simp only [toPys, PyData.canLayAll0, Bool.and_eq_true]
    exact ⟨canLay_pl x h.1, canLay_pls xs h.2⟩
end
mutual
theorem depth_dep : ∀ d : D, pl d = true → (toPy d).depth = dep d
  | .non, _ => by simp [toPy, PyData.depth, dep]
  | .bl _, _ => by simp [toPy, PyData.depth, dep]
  | .int _, _ => by simp [toPy, PyData.depth, dep]
  | .str _, _ => by simp [toPy, PyData.depth, dep]
  | .lst xs, h => by simp only [toPy, PyData.depth, dep]; rw [depth_deps xs (by simpa [pl] using h)]
  | .tup xs, h => by simp only [toPy, PyData.depth, dep]; rw [depth_deps xs (by simpa [pl] using h)]
  | .scr _, h => by simp [pl] at h
  | .pot _, h => by simp [pl] at h
  | .emp, h => by simp [pl] at h
theorem depth_deps : ∀ ds : List D, pls ds = true → PyData.depthAll (toPys ds) = deps ds
  | [], _ => by simp [toPys, PyData.depthAll, deps]
  | x :: xs, h => by
    simp only [pls, Bool.and_eq_true] at h
    simp only [toPys, PyData.depthAll, deps]
    rw [depth_dep x h.1, depth_deps xs h.2]
end
/-- data that == and in look through -/
def okEq (d : D) : Bool := pl d && decide (dep d ≤ 64)
theorem shaped_ok {d : D} (h : okEq d = true) : SeqAt.shaped (toPy d) = true := by
  unfold okEq at h
  simp only [Bool.and_eq_true, decide_eq_true_eq] at h
  unfold SeqAt.shaped
  simp only [Bool.and_eq_true, decide_eq_true_eq]
  exact ⟨canLay_pl d h.1, by rw [depth_dep d h.1]; exact h.2⟩
theorem dpAll_of {K : PySem.W.Frag} {H : Hp} : ∀ {vs : List V} {ds : List D}, AllR (fun v d => pl d = true → Dp K H v (toPy d)) vs ds → pls ds = true → DpAll K H vs (toPys ds)
  | [], [], _, _ => by simpa [toPys] using DpAll.nil
  | [], _ :: _, h, _ => by have := h.1; simp at this
  | _ :: _, [], h, _ => by have := h.1; simp at this
  | v :: vs, d :: ds, h, hp => by
    simp only [pls, Bool.and_eq_true] at hp
    simp only [toPys]
    exact .cons (h.head hp.1) (dpAll_of h.tail hp.2)
theorem Rep.dp {K : PySem.W.Frag} {F H : Hp} {g : Nat} {pa : Option Addr} (sub : ∀ a o, F a = some o → H a = some o) {v : V} {d : D} (r : Rep K F g pa v d) : pl d = true → Dp K H v (toPy d) := by
  induction r with
  | non => intro _; simpa [toPy] using Dp.non
  | bl b => intro _; simpa [toPy] using Dp.bl b
  | int i => intro _; simpa [toPy] using Dp.int i
  | str x => intro _; simpa [toPy] using Dp.str x
  | lst h _ hl _ ih =>
    intro hp
    simp only [toPy]
    exact .lst (SqL.of (sub _ _ h)) (dpAll_of ⟨hl, fun i v d h1 h2 => ih i v d h1 h2⟩ (by simpa [pl] using hp))
  | tup h _ hl _ ih =>
    intro hp
    simp only [toPy]
    exact .tup (SqT.of (sub _ _ h)) (dpAll_of ⟨hl, fun i v d h1 h2 => ih i v d h1 h2⟩ (by simpa [pl] using hp))
  | scr _ => intro hp; simp [pl] at hp
  | pot _ _ => intro hp; simp [pl] at hp
  | emp _ => intro hp; simp [pl] at hp

section
variable {X : Cx} {Wx : WX} {a b c e : Expr} {es rest : List Expr} {ma mb mc m : M D} {ta tb : M Bool} {pos : Pos}
/-! ### ==, in -/
def dEq : D → D → Option Bool
  | .int i, .int j => some (decide (i = j))
  | .str x, .str y => some (decide (x = y))
  | d, e => if okEq d && okEq e then some (PyData.eqv (toPy d) (toPy e)) else none
def dNe : D → D → Option Bool := fun d e => (dEq d e).map fun b => !b
theorem dEq_spec {d e : D} {z : Bool} (h : dEq d e = some z) : (∃ i j, d = .int i ∧ e = .int j ∧ z = decide (i = j)) ∨ (∃ x y, d = .str x ∧ e = .str y ∧ z = decide (x = y)) ∨ ((okEq d = true ∧ okEq e = true) ∧ z = PyData.eqv (toPy d) (toPy e)) := by
  unfold dEq at h
  split at h
  · simp only [Option.some.injEq] at h
    exact .inl ⟨_, _, rfl, rfl, h.symm⟩
  · simp only [Option.some.injEq] at h
    exact .inr (.inl ⟨_, _, rfl, rfl, h.symm⟩)
  · split at h
    · rename_i hc
      simp only [Option.some.injEq] at h
      subst h
      simp only [Bool.and_eq_true] at hc
      exact .inr (.inr ⟨hc, rfl⟩)
    · cases h
theorem pl_of {d : D} (h : okEq d = true) : pl d = true := by
  unfold okEq at h
  simp only [Bool.and_eq_true] at h
  exact h.1
theorem cmps_eq : CmpS X (fun x y H Q => rEq x y H Q ∨ rEqD X.K x y H Q) dEq := by
  intro x y d e z F H p pa Q gs rx ry ez k
  rcases dEq_spec ez with ⟨i, j, rfl, rfl, h⟩ | ⟨i, j, rfl, rfl, h⟩ | ⟨⟨h1, h2⟩, h3⟩
  · cases rx; cases ry
    exact .inl ⟨rfl, by rw [show decide (V.int i = V.int j) = z by rw [h]; simp]; exact k⟩
  · cases rx; cases ry
    exact .inl ⟨rfl, by rw [show decide (V.str i = V.str j) = z by rw [h]; simp]; exact k⟩
  · exact .inr ⟨_, _, rx.dp gs.sub (pl_of h1), ry.dp gs.sub (pl_of h2), shaped_ok h1, shaped_ok h2, by rw [← h3]; exact k⟩
theorem cmps_ne : CmpS X (fun x y H Q => rNe x y H Q ∨ rNeD X.K x y H Q) dNe := by
  intro x y d e z F H p pa Q gs rx ry ez k
  unfold dNe at ez
  cases q : dEq d e with
  | none => rw [q] at ez; cases ez
  | some w =>
    rw [q] at ez
    have ez : (!w) = z := by simpa using ez
    rcases dEq_spec q with ⟨i, j, rfl, rfl, h⟩ | ⟨i, j, rfl, rfl, h⟩ | ⟨⟨h1, h2⟩, h3⟩
    · cases rx; cases ry
      exact .inl ⟨rfl, by rw [show (!decide (V.int i = V.int j)) = z by rw [← ez, h]; simp]; exact k⟩
    · cases rx; cases ry
      exact .inl ⟨rfl, by rw [show (!decide (V.str i = V.str j)) = z by rw [← ez, h]; simp]; exact k⟩
    · exact .inr ⟨_, _, rx.dp gs.sub (pl_of h1), ry.dp gs.sub (pl_of h2), shaped_ok h1, shaped_ok h2, by rw [← h3, ez]; exact k⟩
def Un (X : Cx) : Prop := X.A.units + 65 < cLine
theorem pmt_eq (hu : Un X) (ha : PM X Wx a ma) (hb : PM X Wx b mb) : PMt X Wx (.Compare a [.Eq] [b] pos) (mCmp dEq ma mb) := pmt_cmp (op_eq.or (op_eqD (Nat.lt_of_succ_lt hu))) cmps_eq ha hb
theorem pmt_ne (hu : Un X) (ha : PM X Wx a ma) (hb : PM X Wx b mb) : PMt X Wx (.Compare a [.NotEq] [b] pos) (mCmp dNe ma mb) := pmt_cmp (op_ne.or (op_neD (Nat.lt_of_succ_lt hu))) cmps_ne ha hb
theorem pm_eq (hu : Un X) (ha : PM X Wx a ma) (hb : PM X Wx b mb) : PM X Wx (.Compare a [.Eq] [b] pos) (mB (mCmp dEq ma mb)) := pm_cmp (op_eq.or (op_eqD (Nat.lt_of_succ_lt hu))) cmps_eq ha hb
theorem pm_ne (hu : Un X) (ha : PM X Wx a ma) (hb : PM X Wx b mb) : PM X Wx (.Compare a [.NotEq] [b] pos) (mB (mCmp dNe ma mb)) := pm_cmp (op_ne.or (op_neD (Nat.lt_of_succ_lt hu))) cmps_ne ha hb
def dIn : D → D → Option Bool
  | d, .lst xs => if okEq d && okEq (.lst xs) then some (xs.any fun z => PyData.eqv (toPy z) (toPy d)) else none
  | _, _ => none
def dNotIn : D → D → Option Bool := fun d e => (dIn d e).map fun b => !b
theorem any_toPys (xs : List D) (f : PyData → Bool) : (toPys xs).any f = xs.any fun z => f (toPy z) := by
  rw [toPys_map, List.any_map]; rfl
theorem cmps_in : CmpS X (rInD X.K) dIn := by
  intro x y d e z F H p pa Q gs rx ry ez k
  cases e <;> first | (simp [dIn] at ez; done) | skip
  rename_i xs
  simp only [dIn] at ez
  split at ez
  · rename_i hc
    simp only [Bool.and_eq_true] at hc
    have h2 := ry.dp gs.sub (pl_of hc.2)
    have s2 := shaped_ok hc.2
    simp only [toPy] at h2 s2
    refine ⟨_, _, rx.dp gs.sub (pl_of hc.1), h2, shaped_ok hc.1, s2, ?_⟩
    rw [any_toPys]
    simp only [Option.some.injEq] at ez
    rw [ez]; exact k
  · cases ez
theorem cmps_notIn : CmpS X (rNotInD X.K) dNotIn := by
  intro x y d e z F H p pa Q gs rx ry ez k
  unfold dNotIn at ez
  cases q : dIn d e with
  | none => rw [q] at ez; cases ez
  | some w =>
    rw [q] at ez
    have ez : (!w) = z := by simpa using ez
    cases e <;> first | (simp [dIn] at q; done) | skip
    rename_i xs
    simp only [dIn] at q
    split at q
    · rename_i hc
      simp only [Bool.and_eq_true] at hc
      have h2 := ry.dp gs.sub (pl_of hc.2)
      have s2 := shaped_ok hc.2
      simp only [toPy] at h2 s2
      refine ⟨_, _, rx.dp gs.sub (pl_of hc.1), h2, shaped_ok hc.1, s2, ?_⟩
      rw [any_toPys]
      simp only [Option.some.injEq] at q
      rw [q, ez]; exact k
    · cases q
theorem pmt_in (hu : Un X) (ha : PM X Wx a ma) (hb : PM X Wx b mb) (hm : behindInMarks .In b = false := by rfl) : PMt X Wx (.Compare a [.In] [b] pos) (mCmp dIn ma mb) := pmt_cmp (op_inD hu) cmps_in ha hb hm
theorem pmt_notIn (hu : Un X) (ha : PM X Wx a ma) (hb : PM X Wx b mb) (hm : behindInMarks .NotIn b = false := by rfl) : PMt X Wx (.Compare a [.NotIn] [b] pos) (mCmp dNotIn ma mb) := pmt_cmp (op_notInD hu) cmps_notIn ha hb hm
theorem pm_in (hu : Un X) (ha : PM X Wx a ma) (hb : PM X Wx b mb) (hm : behindInMarks .In b = false := by rfl) : PM X Wx (.Compare a [.In] [b] pos) (mB (mCmp dIn ma mb)) := pm_cmp (op_inD hu) cmps_in ha hb hm
theorem pm_notIn (hu : Un X) (ha : PM X Wx a ma) (hb : PM X Wx b mb) (hm : behindInMarks .NotIn b = false := by rfl) : PM X Wx (.Compare a [.NotIn] [b] pos) (mB (mCmp dNotIn ma mb)) := pm_cmp (op_notInD hu) cmps_notIn ha hb hm

/-! ### is None, is True -/
def isNon : D → Bool
  | .non => true
  | _ => false
def noPot : D → Bool
  | .pot _ => false
  | _ => true
theorem Rep.isNon {K : PySem.W.Frag} {F : Hp} {g : Nat} {pa : Option Addr} {v : V} {d : D} (r : Rep K F g pa v d) (h : noPot d = true) : decide (v = .non) = PF.isNon d := by
  cases r <;> first | rfl | (simp [noPot] at h)
def mIsN (ma : M D) : M Bool := mbind ma fun x => if noPot x = true then mret (isNon x) else mstuck
def mNotN (ma : M D) : M Bool := mbind ma fun x => if noPot x = true then mret (!isNon x) else mstuck
theorem pm_isN {j pos'} (ha : PM X Wx a ma) : PM X Wx (.Compare a [.Is] [.Constant .none j pos'] pos) (mB (mIsN ma)) := ⟨(pe_cmp (pc_isN ha.pe) (nomark _)).imp fun σ H Q h => by
  obtain ⟨F, pa, p, ρ, gs, s, o⟩ := h.ofB
  refine TM.of gs s (o.bind.mono fun d p1 F1 H1 pa1 gr1 gs1 o1 s1 v1 r1 => ?_)
  by_cases hn : noPot d = true
  · rw [if_pos hn] at o1
    rw [r1.isNon hn]; exact o1.ret gs1
  · rw [if_neg hn] at o1; exact o1.elim⟩
theorem pm_notN {j pos'} (ha : PM X Wx a ma) : PM X Wx (.Compare a [.IsNot] [.Constant .none j pos'] pos) (mB (mNotN ma)) := ⟨(pe_cmp (pc_notN ha.pe) (nomark _)).imp fun σ H Q h => by
  obtain ⟨F, pa, p, ρ, gs, s, o⟩ := h.ofB
  refine TM.of gs s (o.bind.mono fun d p1 F1 H1 pa1 gr1 gs1 o1 s1 v1 r1 => ?_)
  by_cases hn : noPot d = true
  · rw [if_pos hn] at o1
    rw [r1.isNon hn]; exact o1.ret gs1
  · rw [if_neg hn] at o1; exact o1.elim⟩
theorem pmt_isN {j pos'} (ha : PM X Wx a ma) : PMt X Wx (.Compare a [.Is] [.Constant .none j pos'] pos) (mIsN ma) := ⟨(pt_cmp (pc_isN ha.pe) (nomark _)).imp fun σ H Q h => by
  obtain ⟨F, pa, p, ρ, gs, s, o⟩ := h
  refine TM.of gs s (o.bind.mono fun d p1 F1 H1 pa1 gr1 gs1 o1 s1 v1 r1 => ?_)
  by_cases hn : noPot d = true
  · rw [if_pos hn] at o1
    exact ⟨_, by rw [r1.isNon hn], o1.ret gs1⟩
  · rw [if_neg hn] at o1; exact o1.elim⟩
theorem pmt_notN {j pos'} (ha : PM X Wx a ma) : PMt X Wx (.Compare a [.IsNot] [.Constant .none j pos'] pos) (mNotN ma) := ⟨(pt_cmp (pc_notN ha.pe) (nomark _)).imp fun σ H Q h => by
  obtain ⟨F, pa, p, ρ, gs, s, o⟩ := h
  refine TM.of gs s (o.bind.mono fun d p1 F1 H1 pa1 gr1 gs1 o1 s1 v1 r1 => ?_)
  by_cases hn : noPot d = true
  · rw [if_pos hn] at o1
    exact ⟨_, by rw [r1.isNon hn], o1.ret gs1⟩
  · rw [if_neg hn] at o1; exact o1.elim⟩
def dIsB : D → D → Option Bool
  | .bl a, .bl b => some (decide (a = b))
  | _, _ => none
def dNotB : D → D → Option Bool
  | .bl a, .bl b => some (!decide (a = b))
  | _, _ => none
theorem cmps_isB : CmpS X rIsB dIsB := by
  intro x y d e z F H p pa Q gs rx ry ez k
  cases d <;> cases e <;> first | (simp [dIsB] at ez; done) | skip
  cases rx; cases ry
  simp only [dIsB, Option.some.injEq] at ez
  subst ez
  exact ⟨_, _, rfl, rfl, k⟩
theorem cmps_notB : CmpS X rNotB dNotB := by
  intro x y d e z F H p pa Q gs rx ry ez k
  cases d <;> cases e <;> first | (simp [dNotB] at ez; done) | skip
  cases rx; cases ry
  simp only [dNotB, Option.some.injEq] at ez
  subst ez
  exact ⟨_, _, rfl, rfl, k⟩
theorem pmt_isB (ha : PM X Wx a ma) (hb : PM X Wx b mb) : PMt X Wx (.Compare a [.Is] [b] pos) (mCmp dIsB ma mb) := pmt_cmp op_isBl cmps_isB ha hb
theorem pmt_notB (ha : PM X Wx a ma) (hb : PM X Wx b mb) : PMt X Wx (.Compare a [.IsNot] [b] pos) (mCmp dNotB ma mb) := pmt_cmp op_notBl cmps_notB ha hb
theorem pm_isB (ha : PM X Wx a ma) (hb : PM X Wx b mb) : PM X Wx (.Compare a [.Is] [b] pos) (mB (mCmp dIsB ma mb)) := pm_cmp op_isBl cmps_isB ha hb
theorem pm_notB (ha : PM X Wx a ma) (hb : PM X Wx b mb) : PM X Wx (.Compare a [.IsNot] [b] pos) (mB (mCmp dNotB ma mb)) := pm_cmp op_notBl cmps_notB ha hb

/-! ### chains of two comparisons (ints) -/
def mChain (f g : Int → Int → Bool) (ma mb mc : M D) : M Bool := mbind ma fun x => mbind mb fun y => mbind (mopt (dI2b f x y)) fun k => if k = true then mbind mc fun z => mopt (dI2b g y z) else mret false
theorem dI2b_some {f : Int → Int → Bool} {d e : D} {k : Bool} (h : dI2b f d e = some k) : ∃ i j, d = .int i ∧ e = .int j ∧ f i j = k := by
  cases d <;> cases e <;> first | (simp [dI2b] at h; done) | skip
  simp only [dI2b, Option.some.injEq] at h
  exact ⟨_, _, rfl, rfl, h⟩
theorem chain_out {f g : Int → Int → Bool} {K : PySem.W.Frag} {mg : Str → Option Value} {σ : L2.St} {H : Hp} {Q : Bool → Hp → Prop} (h : TMt K mg Wx (mChain f g ma mb mc) σ H Q) :
    TM K mg Wx ma σ H fun x H1 => TM K mg Wx mb σ H1 fun y H2 => ∃ i j, x = .int i ∧ y = .int j ∧ (if f i j = true then TM K mg Wx mc σ H2 fun z H3 => ∃ k, z = .int k ∧ Q (g j k) H3 else Q false H2) := by
  obtain ⟨F, pa, p, ρ, gs, s, o⟩ := h
  refine TM.of gs s (o.bind.mono fun d p1 F1 H1 pa1 gr1 gs1 o1 s1 v1 r1 => ?_)
  refine TM.of gs1 s1 (o1.bind.mono fun e p2 F2 H2 pa2 gr2 gs2 o2 s2 v2 r2 => ?_)
  have o2 := o2.bind
  obtain ⟨k, ek, o3⟩ := o2.opt
  obtain ⟨i, j, rfl, rfl, ek'⟩ := dI2b_some ek
  cases r1; cases r2
  refine ⟨i, j, rfl, rfl, ?_⟩
  have o4 := o3.ret gs2
  rw [ek']
  cases k with
  | false => simp only [Bool.false_eq_true, if_false] at o4 ⊢; exact o4.ret gs2
  | true =>
    simp only [if_true] at o4 ⊢
    refine TM.of gs2 s2 (o4.bind.mono fun w p3 F3 H3 pa3 gr3 gs3 o5 s3 v3 r3 => ?_)
    obtain ⟨k2, ek2, o6⟩ := o5.opt
    obtain ⟨_, _, e1, rfl, ek3⟩ := dI2b_some ek2
    cases e1
    cases r3
    exact ⟨_, rfl, by rw [ek3]; exact o6.ret gs3⟩
theorem pmt_chain {op op' : CmpOp} {f g : Int → Int → Bool} (ho : OpR X (compareOp op) (rI0 fun i j => .bl (f i j))) (ho' : OpR X (compareOp op') (rI0 fun i j => .bl (g i j))) (ha : PM X Wx a ma) (hb : PM X Wx b mb) (hc : PM X Wx c mc)
    (hm : lastMarks [op, op'] [b, c] = false := by with_unfolding_all rfl) : PMt X Wx (.Compare a [op, op'] [b, c] pos) (mChain f g ma mb mc) := ⟨(pt_chain ho ho' ha.pe hb.pe hc.pe hm).imp fun σ H Q h => by
  obtain ⟨F, pa, p, ρ, gs, s, o⟩ := chain_out h
  refine ⟨F, pa, p, ρ, gs, s, o.mono fun d p1 F1 H1 pa1 gr1 gs1 o1 v1 r1 => ?_⟩
  obtain ⟨F, pa, p, ρ, gs, s, o⟩ := o1 v1 r1
  refine ⟨F, pa, p, ρ, gs, s, o.mono fun d p1 F1 H1 pa1 gr1 gs1 o1 v2 r2 => ?_⟩
  obtain ⟨i, j, rfl, rfl, q⟩ := o1 v2 r2
  refine ⟨i, j, rfl, rfl, f i j, rfl, ?_⟩
  cases e : f i j with
  | false => rw [e] at q; simp only [Bool.false_eq_true, if_false] at q ⊢; exact ⟨_, rfl, q⟩
  | true =>
    rw [e] at q
    simp only [if_true] at q ⊢
    obtain ⟨F, pa, p, ρ, gs, s, o⟩ := q
    refine ⟨F, pa, p, ρ, gs, s, o.mono fun d p1 F1 H1 pa1 gr1 gs1 o1 v3 r3 => ?_⟩
    obtain ⟨k, rfl, q⟩ := o1 v3 r3
    exact ⟨j, k, rfl, rfl, _, rfl, q⟩⟩
theorem pm_chain {op op' : CmpOp} {f g : Int → Int → Bool} (ho : OpR X (compareOp op) (rI0 fun i j => .bl (f i j))) (ho' : OpR X (compareOp op') (rI0 fun i j => .bl (g i j))) (ha : PM X Wx a ma) (hb : PM X Wx b mb) (hc : PM X Wx c mc)
    (hm : lastMarks [op, op'] [b, c] = false := by with_unfolding_all rfl) : PM X Wx (.Compare a [op, op'] [b, c] pos) (mB (mChain f g ma mb mc)) := ⟨(pe_chain ho ho' ha.pe hb.pe hc.pe hm).imp fun σ H Q h => by
  obtain ⟨F, pa, p, ρ, gs, s, o⟩ := chain_out h.ofB
  refine ⟨F, pa, p, ρ, gs, s, o.mono fun d p1 F1 H1 pa1 gr1 gs1 o1 v1 r1 => ?_⟩
  obtain ⟨F, pa, p, ρ, gs, s, o⟩ := o1 v1 r1
  refine ⟨F, pa, p, ρ, gs, s, o.mono fun d p1 F1 H1 pa1 gr1 gs1 o1 v2 r2 => ?_⟩
  obtain ⟨i, j, rfl, rfl, q⟩ := o1 v2 r2
  refine ⟨i, j, rfl, rfl, f i j, rfl, ?_⟩
  cases e : f i j with
  | false => rw [e] at q; simp only [Bool.false_eq_true, if_false] at q ⊢; exact q
  | true =>
    rw [e] at q
    simp only [if_true] at q ⊢
    obtain ⟨F, pa, p, ρ, gs, s, o⟩ := q
    refine ⟨F, pa, p, ρ, gs, s, o.mono fun d p1 F1 H1 pa1 gr1 gs1 o1 v3 r3 => ?_⟩
    obtain ⟨k, rfl, q⟩ := o1 v3 r3
    exact ⟨j, k, rfl, rfl, q⟩⟩
abbrev iLt : Int → Int → Bool := fun i j => decide (i < j)
abbrev iLe : Int → Int → Bool := fun i j => decide (i ≤ j)

/-! ### and, or, not, if .. else -/
structure PMw (X : Cx) (Wx : WX) (e : Expr) (m : M Bool) : Prop where
  pw : PW X e (TMt X.K X.mg Wx m)
theorem PMw.pt (h : PMw X Wx e ta) : PMt X Wx e ta := ⟨h.pw.pt⟩
def mAnd (t u : M Bool) : M Bool := mbind t fun k => if k = true then u else mret false
def mOr (t u : M Bool) : M Bool := mbind t fun k => if k = true then mret true else u
def mNot (t : M Bool) : M Bool := mbind t fun k => mret (!k)
theorem TMt.of {K : PySem.W.Frag} {mg : Str → Option Value} {t : M Bool} {σ : L2.St} {F H : Hp} {pa : Option Addr} {p : Pst} {ρ : Sl} {Q : Bool → Hp → Prop} (gs : GS F H pa p) (s : SRel K F H p.g pa σ ρ)
    (h : Out K mg Wx σ F H p.g pa (fun d p' F' H' pa' => SRel K F' H' p'.g pa' σ ρ → Q d H') (t ρ p)) : TMt K mg Wx t σ H Q :=
  ⟨F, pa, p, ρ, gs, s, h.mono fun _ _ _ _ _ gr _ k => k (s.grow gr)⟩
theorem pmw_and1 (ha : PMt X Wx a ta) : PMw X Wx (.BoolOp .And [a] pos) ta := ⟨pw_and1 ha.pt⟩
theorem pmw_or1 (ha : PMt X Wx a ta) : PMw X Wx (.BoolOp .Or [a] pos) ta := ⟨pw_or1 ha.pt⟩
theorem pmw_and (ha : PMt X Wx a ta) (hb : PMw X Wx (.BoolOp .And (b :: rest) pos) tb) : PMw X Wx (.BoolOp .And (a :: b :: rest) pos) (mAnd ta tb) := ⟨(pw_and ha.pt hb.pw).imp fun σ H Q ⟨F, pa, p, ρ, gs, s, o⟩ => by
  refine TMt.of gs s (o.bind.mono fun k p1 F1 H1 pa1 gr1 gs1 o1 s1 => ?_)
  cases k with
  | false => simp only [Bool.false_eq_true, if_false] at o1 ⊢; exact o1.ret gs1
  | true => simp only [if_true] at o1 ⊢; exact ⟨_, _, _, _, gs1, s1, o1⟩⟩
theorem pmw_or (ha : PMt X Wx a ta) (hb : PMw X Wx (.BoolOp .Or (b :: rest) pos) tb) : PMw X Wx (.BoolOp .Or (a :: b :: rest) pos) (mOr ta tb) := ⟨(pw_or ha.pt hb.pw).imp fun σ H Q ⟨F, pa, p, ρ, gs, s, o⟩ => by
  refine TMt.of gs s (o.bind.mono fun k p1 F1 H1 pa1 gr1 gs1 o1 s1 => ?_)
  cases k with
  | false => simp only [Bool.false_eq_true, if_false] at o1 ⊢; exact ⟨_, _, _, _, gs1, s1, o1⟩
  | true => simp only [if_true] at o1 ⊢; exact o1.ret gs1⟩
theorem pmt_not (ha : PMt X Wx a ta) : PMt X Wx (.UnaryOp .Not a pos) (mNot ta) := ⟨(pt_not ha.pt).imp fun σ H Q ⟨F, pa, p, ρ, gs, s, o⟩ => by
  refine TMt.of gs s (o.bind.mono fun k p1 F1 H1 pa1 gr1 gs1 o1 s1 => ?_)
  exact o1.ret gs1⟩
/-- a bool value as a test -/
def mT (ma : M D) : M Bool := mbind ma fun d => match d with
  | .bl k => mret k
  | _ => mstuck
theorem pmt_val (ha : PM X Wx e ma) (he : ∀ whole, isTrue e X.env whole = (do let v ← whole; standAt e.pos; holding [v] (truthy v)) := by intro _; rfl) : PMt X Wx e (mT ma) := ⟨(pt_val ha.pe he).imp fun σ H Q ⟨F, pa, p, ρ, gs, s, o⟩ => by
  refine TM.of gs s (o.bind.mono fun d p1 F1 H1 pa1 gr1 gs1 o1 s1 v1 r1 => ?_)
  cases d <;> first | exact o1.elim | skip
  cases r1
  exact ⟨_, rfl, o1.ret gs1⟩⟩
/-- and, or, not as values of bools -/
def mAndV (t u : M D) : M D := mbind t fun d => match d with
  | .bl k => if k = true then u else mret (.bl false)
  | _ => mstuck
def mOrV (t u : M D) : M D := mbind t fun d => match d with
  | .bl k => if k = true then mret (.bl true) else u
  | _ => mstuck
def mNotV (t : M D) : M D := mbind t fun d => match d with
  | .bl k => mret (.bl (!k))
  | _ => mstuck
theorem pm_one {op} (ha : PM X Wx a ma) : PM X Wx (.BoolOp op [a] pos) ma := ⟨pe_one ha.pe⟩
theorem pm_and (ha : PM X Wx a ma) (hb : PM X Wx (.BoolOp .And (b :: rest) pos) mb) : PM X Wx (.BoolOp .And (a :: b :: rest) pos) (mAndV ma mb) := ⟨(pe_and ha.pe hb.pe).imp fun σ H Q ⟨F, pa, p, ρ, gs, s, o⟩ => by
  refine TM.of gs s (o.bind.mono fun d p1 F1 H1 pa1 gr1 gs1 o1 s1 v1 r1 => ?_)
  cases d <;> first | exact o1.elim | skip
  rename_i k
  cases r1
  refine ⟨k, rfl, ?_⟩
  cases k with
  | false => simp only [Bool.false_eq_true, if_false] at o1 ⊢; exact o1.ret gs1 _ (.bl false)
  | true => simp only [if_true] at o1 ⊢; exact ⟨_, _, _, _, gs1, s1, o1⟩⟩
theorem pm_or (ha : PM X Wx a ma) (hb : PM X Wx (.BoolOp .Or (b :: rest) pos) mb) : PM X Wx (.BoolOp .Or (a :: b :: rest) pos) (mOrV ma mb) := ⟨(pe_or ha.pe hb.pe).imp fun σ H Q ⟨F, pa, p, ρ, gs, s, o⟩ => by
  refine TM.of gs s (o.bind.mono fun d p1 F1 H1 pa1 gr1 gs1 o1 s1 v1 r1 => ?_)
  cases d <;> first | exact o1.elim | skip
  rename_i k
  cases r1
  refine ⟨k, rfl, ?_⟩
  cases k with
  | false => simp only [Bool.false_eq_true, if_false] at o1 ⊢; exact ⟨_, _, _, _, gs1, s1, o1⟩
  | true => simp only [if_true] at o1 ⊢; exact o1.ret gs1 _ (.bl true)⟩
theorem pm_not (ha : PM X Wx a ma) : PM X Wx (.UnaryOp .Not a pos) (mNotV ma) := ⟨(pe_not ha.pe).imp fun σ H Q ⟨F, pa, p, ρ, gs, s, o⟩ => by
  refine TM.of gs s (o.bind.mono fun d p1 F1 H1 pa1 gr1 gs1 o1 s1 v1 r1 => ?_)
  cases d <;> first | exact o1.elim | skip
  cases r1
  exact ⟨_, rfl, o1.ret gs1 _ (.bl _)⟩⟩
def mIf {α : Type} (t : M Bool) (ma mb : M α) : M α := mbind t fun k => if k = true then ma else mb
theorem pm_if (hc : PMt X Wx c ta) (ha : PM X Wx a ma) (hb : PM X Wx b mb) : PM X Wx (.IfExp c a b pos) (mIf ta ma mb) := ⟨(pe_ifExp hc.pt ha.pe hb.pe).imp fun σ H Q ⟨F, pa, p, ρ, gs, s, o⟩ => by
  refine TMt.of gs s (o.bind.mono fun k p1 F1 H1 pa1 gr1 gs1 o1 s1 => ?_)
  cases k with
  | false => simp only [Bool.false_eq_true, if_false] at o1 ⊢; exact ⟨_, _, _, _, gs1, s1, o1⟩
  | true => simp only [if_true] at o1 ⊢; exact ⟨_, _, _, _, gs1, s1, o1⟩⟩

/-! ### fresh lists, displays, arguments -/
def mfrz (mo : M (List D)) : M D := mbind mo fun ds => mret (.lst ds)
theorem PMo.pm {mo : M (List D)} (h : PMo X Wx e mo) : PM X Wx e (mfrz mo) := ⟨h.pe.imp fun σ H Q ⟨F, pa, p, ρ, gs, s, o⟩ => by
  refine ⟨F, pa, p, ρ, gs, s, ?_⟩
  unfold mfrz mbind at o
  cases q : mo ρ p with
  | stuck => rw [q] at o; exact o
  | exc x p' => rw [q] at o; exact o
  | ok ds p' =>
    rw [q] at o
    intro F1 H1 pa1 gr1 gs1 a vs ha hH hF hp hz rs
    have fz : Fz F1 p'.g pa1 (upd F1 a (.lst vs)) p'.g pa1 := Fz.upd hF
    exact o _ H1 pa1 (gr1.freeze ha hF) (gs1.freeze hH hp) _ (Rep.lst' upd_same hz (rs.mono fz))⟩
end
end PF

namespace PF
open PySem PySem.Spec PyProof.Rows L2

section
variable {X : Cx} {Wx : WX} {a b c e : Expr} {es rest : List Expr} {ma mb mc m : M D} {mo ms : M (List D)} {ta tb : M Bool} {pos : Pos}
/-! ### arguments, displays -/
def mcons (ma : M D) (ms : M (List D)) : M (List D) := mbind ma fun d => mbind ms fun ds => mret (d :: ds)
theorem TMa.of {K : PySem.W.Frag} {mg : Str → Option Value} {σ : L2.St} {F H : Hp} {pa : Option Addr} {p : Pst} {ρ : Sl} {Q : List V → Hp → Prop} (gs : GS F H pa p) (s : SRel K F H p.g pa σ ρ)
    (h : Out K mg Wx σ F H p.g pa (fun ds p' F' H' pa' => SRel K F' H' p'.g pa' σ ρ → ∀ vs, Reps K F' p'.g pa' vs ds → Q vs H') (ms ρ p)) : TMa K mg Wx ms σ H Q :=
  ⟨F, pa, p, ρ, gs, s, h.mono fun _ _ _ _ _ gr _ k v r => k (s.grow gr) v r⟩
theorem pma_nil : PMa X Wx [] (mret []) := ⟨pa_nil.imp fun σ H Q ⟨F, pa, p, ρ, gs, s, o⟩ => o.ret gs _ .nil⟩
theorem pma_cons (ha : PM X Wx e ma) (hr : PMa X Wx es ms) (hs : starEach (e :: es) X.env = (false, eval e X.env) :: starEach es X.env := by rfl) : PMa X Wx (e :: es) (mcons ma ms) := ⟨(pa_cons ha.pe hr.pa hs).imp fun σ H Q ⟨F, pa, p, ρ, gs, s, o⟩ => by
  refine TM.of gs s (o.bind.mono fun d p1 F1 H1 pa1 gr1 gs1 o1 s1 v1 r1 => ?_)
  refine TMa.of gs1 s1 (o1.bind.mono fun ds p2 F2 H2 pa2 gr2 gs2 o2 s2 vs2 rs2 => ?_)
  exact o2.ret gs2 _ (.cons (r1.mono gr2.fz) rs2)⟩
def mlim (ms : M (List D)) : M (List D) := mbind ms fun ds => if ds.length ≤ 4096 then mret ds else mstuck
theorem lim_size {n : Nat} (h : n ≤ 4096) : n ≤ sizeLine := by rw [sizeLine_eq]; omega
theorem pmo_lst (h : PMa X Wx es ms) : PMo X Wx (.List es pos) (mlim ms) := ⟨(pe_lst h.pa).imp fun σ H Q ⟨F, pa, p, ρ, gs, s, o⟩ => by
  refine ⟨F, pa, p, ρ, gs, s, ?_⟩
  unfold mlim mbind at o
  cases q : ms ρ p with
  | stuck => rw [q] at o; exact o
  | exc x p' => rw [q] at o; exact o
  | ok ds p' =>
    rw [q] at o
    simp only at o
    by_cases hc : ds.length ≤ 4096
    · rw [if_pos hc] at o
      intro F1 H1 pa1 gr1 gs1 vs rs
      refine ⟨by rw [rs.1]; exact lim_size hc, fun q hq => ?_⟩
      have hq0 : H q = none := by
        cases z : H q with
        | none => rfl
        | some u => obtain ⟨u', z'⟩ := gr1.there q u z; rw [hq] at z'; cases z'
      exact o F1 _ pa1 (gr1.trans (Gr.allocO hq)) (gs1.allocO hq) q vs hq0 upd_same (gs1.fnone hq) (gs1.pne hq) (lim_size hc) rs
    · rw [if_neg hc] at o; exact o.elim⟩
def mtup (ms : M (List D)) : M D := mbind ms fun ds => if ds.length ≤ 4096 then mret (.tup ds) else mstuck
theorem pm_tup {x1} (h : PMa X Wx es ms) : PM X Wx (.Tuple es x1 pos) (mtup ms) := ⟨(pe_tup h.pa).imp fun σ H Q ⟨F, pa, p, ρ, gs, s, o⟩ => by
  refine TMa.of gs s (o.bind.mono fun ds p1 F1 H1 pa1 gr1 gs1 o1 s1 vs rs => ?_)
  by_cases hc : ds.length ≤ 4096
  · rw [if_pos hc] at o1
    refine ⟨by rw [rs.1]; exact lim_size hc, fun q hq => ?_⟩
    exact o1 _ _ pa1 (Gr.alloc gs1 hq) (gs1.alloc hq) _ (Rep.tup' upd_same (lim_size hc) (rs.mono (Fz.upd (gs1.fnone hq))))
  · rw [if_neg hc] at o1; exact o1.elim⟩
/-- {} -/
theorem pm_emp : PM X Wx (.Dict [] [] pos) (mret .emp) := ⟨pe_dnewK.imp fun σ H Q ⟨F, pa, p, ρ, gs, s, o⟩ => by
  intro q hq
  exact o _ _ pa (Gr.alloc gs hq) (gs.alloc hq) _ (.emp upd_same)⟩

/-! ### items -/
theorem atI_rep {R : V → D → Prop} {vs : List V} {ds : List D} {i : Int} {d : D} (r : AllR R vs ds) (h : atI ds i = some d) : ∃ v, atI vs i = some v ∧ R v d := by
  unfold atI at h ⊢
  rw [r.1]
  cases q : ixN ds.length i with
  | none => rw [q] at h; cases h
  | some j =>
    rw [q] at h
    exact r.get h
def dIx : D → D → Option D
  | .lst ds, .int i => atI ds i
  | .tup ds, .int i => atI ds i
  | .scr ns, .int i => (atI ns i).map .int
  | .str s, .int i => if s.length ≤ sizeLine then (atI s.cps.toList i).map (fun c => .str ⟨#[c]⟩) else none
  | _, _ => none
theorem atI_map {α β : Type} (f : α → β) (xs : List α) (i : Int) : atI (xs.map f) i = (atI xs i).map f := by
  unfold atI
  rw [List.length_map]
  cases ixN xs.length i with
  | none => rfl
  | some j => simp
theorem ops_ix : OpS X (rIx X.K) dIx := by
  intro x y d e z F H p pa Q gs rx ry ez k
  cases d <;> cases e <;> first | (simp [dIx] at ez; done) | skip
  all_goals cases ry
  all_goals simp only [dIx] at ez
  · -- a text
    split at ez
    · rename_i s i hc
      cases q : atI s.cps.toList i with
      | none => rw [q] at ez; cases ez
      | some c =>
        rw [q] at ez
        simp only [Option.map_some, Option.some.injEq] at ez
        subst ez
        cases rx
        exact .inr (.inr ⟨_, _, c, rfl, rfl, hc, q, k _ _ _ .refl gs (.str _)⟩)
    · cases ez
  · obtain ⟨l, xs, rfl, hl, hzr1, r1⟩ := rx.lstH gs
    obtain ⟨v, e1, r2⟩ := atI_rep r1 ez
    exact .inl ⟨l, xs, _, v, rfl, rfl, SqL.of hl, e1, k _ _ _ .refl gs r2⟩
  · obtain ⟨l, xs, rfl, hl, hzr1, r1⟩ := rx.tupH gs
    obtain ⟨v, e1, r2⟩ := atI_rep r1 ez
    exact .inr (.inl ⟨l, xs, _, v, rfl, rfl, SqT.of hl, e1, k _ _ _ .refl gs r2⟩)
  · rename_i ns i
    cases rx with
    | scr hs =>
      cases q : atI ns i with
      | none => rw [q] at ez; cases ez
      | some n =>
        rw [q] at ez
        simp only [Option.map_some, Option.some.injEq] at ez
        subst ez
        exact .inl ⟨_, _, _, .int n, rfl, rfl, sqL_mono gs.sub hs, by rw [atI_map, q]; rfl, k _ _ _ .refl gs (.int _)⟩
/-- an item of the pot -/
def ixPot (k : Nat) (y : D) : M D := fun _ p => if k = p.g then (match y with
  | .int 0 => .ok (.int p.a) p
  | .int 1 => .ok (.int p.b) p
  | _ => .stuck) else .stuck
def ixAny (x y : D) : M D := match x with
  | .pot k => ixPot k y
  | d => mopt (dIx d y)
def mIx (ma mb : M D) : M D := mbind ma fun x => mbind mb fun y => ixAny x y
theorem pm_ix (ha : PM X Wx a ma) (hb : PM X Wx b mb) (hs : PlainIx b := by exact fun _ _ => rfl) : PM X Wx (.Subscript a b pos) (mIx ma mb) := ⟨(pe_ix ix_seq ha.pe hb.pe hs).imp fun σ H Q ⟨F, pa, p, ρ, gs, s, o⟩ => by
  refine TM.of gs s (o.bind.mono fun d p1 F1 H1 pa1 gr1 gs1 o1 s1 v1 r1 => ?_)
  refine TM.of gs1 s1 (o1.bind.mono fun e p2 F2 H2 pa2 gr2 gs2 o2 s2 v2 r2 => ?_)
  unfold ixAny at o2
  have r1' := r1.mono gr2.fz
  clear r1
  split at o2
  · unfold ixPot at o2
    split at o2
    · rename_i hk
      cases r1' with
      | pot h1 h2 =>
        obtain ⟨a, e1, rfl⟩ := h2 hk
        obtain ⟨h3, _⟩ := gs2.pot a e1
        split at o2
        · cases r2
          exact .inl ⟨a, _, 0, .int p2.a, rfl, rfl, SqL.of h3, rfl, o2.ret gs2 _ (.int _)⟩
        · cases r2
          exact .inl ⟨a, _, 1, .int p2.b, rfl, rfl, SqL.of h3, rfl, o2.ret gs2 _ (.int _)⟩
        · exact o2.elim
    · exact o2.elim
  · obtain ⟨z, ez, o3⟩ := o2.opt
    exact ops_ix v1 v2 d e z F2 H2 p2 pa2 Q gs2 r1' r2 ez fun v F3 H3 gr3 gs3 r3 => o3 F3 H3 pa2 gr3 gs3 v r3⟩

/-! ### slices -/
def cutA {α : Type} (xs : List α) (lo hi : Option Int) : List α := (xs.drop (HT.sIx xs.length 0 lo)).take (HT.sIx xs.length xs.length hi - HT.sIx xs.length 0 lo)
theorem AllR.cut {α β : Type} {R : α → β → Prop} {xs : List α} {ys : List β} (r : AllR R xs ys) (lo hi : Option Int) : AllR R (cutA xs lo hi) (cutA ys lo hi) := by
  unfold cutA
  rw [r.1]
  exact (r.drop _).take _
theorem cutA_len {α : Type} (xs : List α) (lo hi : Option Int) : (cutA xs lo hi).length ≤ xs.length := by
  unfold cutA
  rw [List.length_take, List.length_drop]
  omega
/-- a bound of a slice -/
def TMO (K : PySem.W.Frag) (mg : Str → Option Value) (Wx : WX) (m : M (Option Int)) : L2.St → Hp → (Option Int → Hp → Prop) → Prop := fun σ H Q => At K mg Wx m σ H fun _ _ o p' F' H' pa' => Q o H'
structure PMO (X : Cx) (Wx : WX) (e : Option Expr) (m : M (Option Int)) : Prop where
  po : PO X e (TMO X.K X.mg Wx m)
def mPart (ma : M D) : M (Option Int) := mbind ma fun d => match d with
  | .int i => mret (some i)
  | _ => mstuck
theorem pmO_none : PMO X Wx none (mret none) := ⟨⟨fun pins s σ H Q I ⟨F, pa, p, ρ, gs, sr, o⟩ => po_none.run pins s σ H Q I (o.ret gs)⟩⟩
theorem pmO_some (ha : PM X Wx e ma) : PMO X Wx (some e) (mPart ma) := ⟨⟨fun pins s σ H Q I ⟨F, pa, p, ρ, gs, sr, o⟩ => (po_some ha.pe).run pins s σ H Q I (by
  refine TM.of gs sr (o.bind.mono fun d p1 F1 H1 pa1 gr1 gs1 o1 s1 v1 r1 => ?_)
  cases d <;> first | exact o1.elim | skip
  cases r1
  exact ⟨_, rfl, o1.ret gs1⟩)⟩⟩
theorem TMO.of {K : PySem.W.Frag} {mg : Str → Option Value} {t : M (Option Int)} {σ : L2.St} {F H : Hp} {pa : Option Addr} {p : Pst} {ρ : Sl} {Q : Option Int → Hp → Prop} (gs : GS F H pa p) (s : SRel K F H p.g pa σ ρ)
    (h : Out K mg Wx σ F H p.g pa (fun d p' F' H' pa' => SRel K F' H' p'.g pa' σ ρ → Q d H') (t ρ p)) : TMO K mg Wx t σ H Q :=
  ⟨F, pa, p, ρ, gs, s, h.mono fun _ _ _ _ _ gr _ k => k (s.grow gr)⟩
def dSl (d : D) (lo hi : Option Int) : Option D := match d with
  | .lst xs => some (.lst (cutA xs lo hi))
  | .tup xs => some (.tup (cutA xs lo hi))
  | _ => none
def mSl (me : M D) (ml mh : M (Option Int)) : M D := mbind me fun d => mbind ml fun lo => mbind mh fun hi => mopt (dSl d lo hi)
theorem cut_whole {α : Type} {xs : List α} {lo hi : Option Int} (h : HT.sIx xs.length 0 lo = 0 ∧ HT.sIx xs.length xs.length hi = xs.length) : cutA xs lo hi = xs := by
  unfold cutA
  rw [h.1, h.2]
  simp
variable {ml mh : M (Option Int)} {lo hi : Option Expr} {p2 : Pos}
theorem pm_sl (he : PM X Wx e m) (hl : PMO X Wx lo ml) (hh : PMO X Wx hi mh) : PM X Wx (.Subscript e (.Slice lo hi none p2) pos) (mSl m ml mh) := ⟨(pe_slice (SlR.or sl_list sl_tupA) he.pe hl.po hh.po).imp fun σ H Q ⟨F, pa, p, ρ, gs, s, o⟩ => by
  refine TM.of gs s (o.bind.mono fun d p1 F1 H1 pa1 gr1 gs1 o1 s1 v1 r1 => ?_)
  refine TMO.of gs1 s1 (o1.bind.mono fun l p2 F2 H2 pa2 gr2 gs2 o2 s2 => ?_)
  refine TMO.of gs2 s2 (o2.bind.mono fun u p3 F3 H3 pa3 gr3 gs3 o3 s3 => ?_)
  have r1 := (r1.mono gr2.fz).mono gr3.fz
  obtain ⟨z, ez, o4⟩ := o3.opt
  cases d <;> first | (simp [dSl] at ez; done) | skip
  · simp only [dSl, Option.some.injEq] at ez
    subst ez
    obtain ⟨a, xs, rfl, hl, hzrs, rs⟩ := r1.lstH gs3
    refine .inl ⟨a, xs, rfl, SqL.of hl, fun q hq => ?_⟩
    exact o4 _ _ pa3 (Gr.alloc gs3 hq) (gs3.alloc hq) _ (Rep.lst' upd_same (Nat.le_trans (cutA_len _ _ _) hzrs) ((rs.cut l u).mono fun _ _ h => h.mono (Fz.upd (gs3.fnone hq))))
  · simp only [dSl, Option.some.injEq] at ez
    subst ez
    have r1' := r1
    obtain ⟨a, xs, rfl, hl, hzrs, rs⟩ := r1.tupH gs3
    refine .inr ⟨a, xs, rfl, SqT.of hl, fun hw => ?_, fun hw q hq => ?_⟩
    · rw [rs.1] at hw
      exact o4.ret gs3 _ (by rw [cut_whole hw]; exact r1')
    · exact o4 _ _ pa3 (Gr.alloc gs3 hq) (gs3.alloc hq) _ (Rep.tup' upd_same (Nat.le_trans (cutA_len _ _ _) hzrs) ((rs.cut l u).mono fun _ _ h => h.mono (Fz.upd (gs3.fnone hq))))⟩
/-- a slice of a list, fresh -/
def mSlo (me : M D) (ml mh : M (Option Int)) : M (List D) := mbind me fun d => mbind ml fun lo => mbind mh fun hi => match d with
  | .lst xs => mret (cutA xs lo hi)
  | _ => mstuck
theorem Gr.free0 {F H F' H' : Hp} {g g' : Nat} {pa pa' : Option Addr} (gr : Gr F H g pa F' H' g' pa') {q : Addr} (hq : H' q = none) : H q = none := by
  cases z : H q with
  | none => rfl
  | some u => obtain ⟨u', z'⟩ := gr.there q u z; rw [hq] at z'; cases z'
/-- the last step makes a fresh list -/
theorem out_fresh {K : PySem.W.Frag} {mg : Str → Option Value} {σ : L2.St} {F H F1 H1 : Hp} {pa pa1 : Option Addr} {p p1 : Pst} {Q : VK} {ds : List D} (gr : Gr F H p.g pa F1 H1 p1.g pa1) (gs : GS F1 H1 pa1 p1)
    (o : Out K mg Wx σ F H p.g pa (fun ds p' F' H' pa' => ∀ a vs, H a = none → H' a = some (.lst vs) → F' a = none → pa' ≠ some a → ds.length ≤ sizeLine → Reps K F' p'.g pa' vs ds → Q (.ref a) H') (.ok ds p1)) {q : Addr} (hq : H1 q = none) {vs : List V} (hz : ds.length ≤ sizeLine) (rs : Reps K F1 p1.g pa1 vs ds) : Q (.ref q) (upd H1 q (.lst vs)) :=
  o F1 _ pa1 (gr.trans (Gr.allocO hq)) (gs.allocO hq) q vs (gr.free0 hq) upd_same (gs.fnone hq) (gs.pne hq) hz rs
theorem mbind_ok {α β : Type} {m : M α} {k : α → M β} {ρ : Sl} {p p' : Pst} {a : α} (h : m ρ p = .ok a p') : mbind m k ρ p = k a ρ p' := by
  unfold mbind; rw [h]
/-- where all but the last step's result is wanted: the steps in a row, from the start on -/
theorem Out.bindS {α β : Type} {K : PySem.W.Frag} {mg : Str → Option Value} {σ : L2.St} {F H F0 H0 : Hp} {g g0 : Nat} {pa pa0 : Option Addr} {P : β → Pst → Hp → Hp → Option Addr → Prop} {m : M α} {k : α → M β} {ρ : Sl} {p : Pst}
    (x : Gr F0 H0 g0 pa0 F H g pa) (h : Out K mg Wx σ F0 H0 g0 pa0 P (mbind m k ρ p)) :
    Out K mg Wx σ F H g pa (fun a p' F' H' pa' => Gr F0 H0 g0 pa0 F' H' p'.g pa' ∧ Out K mg Wx σ F0 H0 g0 pa0 P (k a ρ p')) (m ρ p) := by
  unfold mbind at h
  cases e : m ρ p with
  | stuck => rw [e] at h; exact h
  | exc x' p' => rw [e] at h; exact fun cls dd F' H' pa' gr gs r => h cls dd F' H' pa' (x.trans gr) gs r
  | ok a p' =>
    rw [e] at h
    exact fun F' H' pa' gr gs => ⟨x.trans gr, h⟩
theorem pmo_sl (he : PM X Wx e m) (hl : PMO X Wx lo ml) (hh : PMO X Wx hi mh) : PMo X Wx (.Subscript e (.Slice lo hi none p2) pos) (mSlo m ml mh) := ⟨(pe_slice sl_list he.pe hl.po hh.po).imp fun σ H Q ⟨F, pa, p, ρ, gs, s, o⟩ => by
  refine TM.of gs s ((Out.bindS .refl o).mono fun d p1 F1 H1 pa1 _ gs1 ⟨gr1, o1⟩ s1 v1 r1 => ?_)
  refine TMO.of gs1 s1 ((Out.bindS gr1 o1).mono fun l p2 F2 H2 pa2 gr2' gs2 ⟨gr2, o2⟩ s2 => ?_)
  refine TMO.of gs2 s2 ((Out.bindS gr2 o2).mono fun u p3 F3 H3 pa3 gr3' gs3 ⟨gr3, o3⟩ s3 => ?_)
  have r1 := (r1.mono gr2'.fz).mono gr3'.fz
  cases d <;> first | exact o3.elim | skip
  obtain ⟨a, xs, rfl, hl, hzrs, rs⟩ := r1.lstH gs3
  exact ⟨a, xs, rfl, SqL.of hl, fun q hq => out_fresh gr3 gs3 o3 hq (Nat.le_trans (cutA_len _ _ _) hzrs) (rs.cut l u)⟩⟩
/-- xs[::-1] -/
def mRevo (me : M D) : M (List D) := mbind me fun d => match d with
  | .lst xs => mret xs.reverse
  | _ => mstuck
theorem pmo_rev {k : Nat} {p1 p2 p3 : Pos} (he : PM X Wx e m) : PMo X Wx (.Subscript e (.Slice none none (some (.UnaryOp .USub (.Constant (.int 1) k p1) p2)) p3) pos) (mRevo m) := ⟨(pe_revL he.pe).imp fun σ H Q ⟨F, pa, p, ρ, gs, s, o⟩ => by
  refine TM.of gs s ((Out.bindS .refl o).mono fun d p1 F1 H1 pa1 _ gs1 ⟨gr1, o1⟩ s1 v1 r1 => ?_)
  cases d <;> first | exact o1.elim | skip
  obtain ⟨a, xs, rfl, hl, hzrs, rs⟩ := r1.lstH gs1
  exact ⟨a, xs, rfl, SqL.of hl, fun q hq => out_fresh gr1 gs1 o1 hq (by rw [List.length_reverse]; exact hzrs) rs.reverse⟩⟩

/-! ### calls of built-ins -/
def CallS (X : Cx) (r : List V → Hp → VK → Prop) (f : List D → Option D) : Prop := ∀ (xs : List V) (ds : List D) (z : D) (F H : Hp) (p : Pst) (pa : Option Addr) (Q : VK), GS F H pa p → Reps X.K F p.g pa xs ds → f ds = some z →
  (∀ v F' H', Gr F H p.g pa F' H' p.g pa → GS F' H' pa p → Rep X.K F' p.g pa v z → Q v H') → r xs H Q
def mCall (f : List D → Option D) (ms : M (List D)) : M D := mbind ms fun ds => mopt (f ds)
theorem tm_call {r : List V → Hp → VK → Prop} {f : List D → Option D} (hs : CallS X r f) : ∀ σ H Q, TM X.K X.mg Wx (mCall f ms) σ H Q → tCB r (TMa X.K X.mg Wx ms) σ H Q := fun σ H Q ⟨F, pa, p, ρ, gs, s, o⟩ => by
  refine TMa.of gs s (o.bind.mono fun ds p1 F1 H1 pa1 gr1 gs1 o1 s1 vs rs => ?_)
  obtain ⟨z, ez, o2⟩ := o1.opt
  exact hs vs ds z F1 H1 p1 pa1 Q gs1 rs ez fun v F3 H3 gr3 gs3 r3 => o2 F3 H3 pa1 gr3 gs3 v r3
variable {bid T : String} {x : Str} {p : Pos}
theorem pm_callB {r : List V → Hp → VK → Prop} {f : List D → Option D} (hc : CallR X (.builtin bid) r) (hs : CallS X r f) (hg : Gl X x) (hm : X.mg x = none) (hv : bootBuiltins x = some (.builtin bid)) (ha : PMa X Wx (e :: es) ms) (hn : x ≠ "__name__" := by decide) (hdb : (x == ("__debug__" : Str)) = false := by decide)
    (he : starEach (e :: es) X.env = (false, eval e X.env) :: starEach es X.env := by rfl) (hpl : (backTo pos (starEach es X.env)).any (·.1) = false := by rfl) : PM X Wx (.Call (.Name x p) (e :: es) [] pos) (mCall f ms) :=
  ⟨(pe_callB hc hg hm hv ha.pa hn hdb he hpl).imp (tm_call hs)⟩
theorem pm_callTy {r : List V → Hp → VK → Prop} {f : List D → Option D} (hc : CallR X (.type T) r) (hs : CallS X r f) (hg : Gl X x) (hm : X.mg x = none) (hv : bootBuiltins x = some (.type T)) (ha : PMa X Wx (e :: es) ms) (hn : x ≠ "__name__" := by decide) (hdb : (x == ("__debug__" : Str)) = false := by decide)
    (he : starEach (e :: es) X.env = (false, eval e X.env) :: starEach es X.env := by rfl) (hpl : (backTo pos (starEach es X.env)).any (·.1) = false := by rfl) : PM X Wx (.Call (.Name x p) (e :: es) [] pos) (mCall f ms) :=
  ⟨(pe_callTy hc hg hm hv ha.pa hn hdb he hpl).imp (tm_call hs)⟩
theorem reps1 {K : PySem.W.Frag} {F : Hp} {g : Nat} {pa : Option Addr} {xs : List V} {d : D} (r : Reps K F g pa xs [d]) : ∃ v, xs = [v] ∧ Rep K F g pa v d := by
  rcases r.cases with ⟨_, h⟩ | ⟨x, y, xs', ys', rfl, h, r1, r2⟩
  · cases h
  · cases h
    rcases r2.cases with ⟨rfl, _⟩ | ⟨_, _, _, _, _, h, _⟩
    · exact ⟨x, rfl, r1⟩
    · cases h
theorem reps2 {K : PySem.W.Frag} {F : Hp} {g : Nat} {pa : Option Addr} {xs : List V} {d e : D} (r : Reps K F g pa xs [d, e]) : ∃ v w, xs = [v, w] ∧ Rep K F g pa v d ∧ Rep K F g pa w e := by
  rcases r.cases with ⟨_, h⟩ | ⟨x, y, xs', ys', rfl, h, r1, r2⟩
  · cases h
  · cases h
    obtain ⟨v, rfl, r3⟩ := reps1 r2
    exact ⟨x, v, rfl, r1, r3⟩
def dLen : List D → Option D
  | [.lst xs] => some (.int xs.length)
  | [.tup xs] => some (.int xs.length)
  | [.scr xs] => some (.int xs.length)
  | [.str x] => if x.length ≤ sizeLine then some (.int x.length) else none
  | _ => none
theorem calls_len : CallS X (fun xs H Q => ∃ x n, xs = [x] ∧ LenV X.K x H n ∧ Q (.int n) H) dLen := by
  intro xs ds z F H p pa Q gs rs ez k
  unfold dLen at ez
  split at ez <;> first | (cases ez; done) | skip
  · obtain ⟨v, rfl, r⟩ := reps1 rs
    obtain ⟨a, vs, rfl, h, hzr2, r2⟩ := r.lstH gs
    simp only [Option.some.injEq] at ez
    subst ez
    exact ⟨_, vs.length, rfl, .inl ⟨vs, SqL.of h, rfl⟩, by rw [r2.1]; exact k _ _ _ .refl gs (.int _)⟩
  · obtain ⟨v, rfl, r⟩ := reps1 rs
    obtain ⟨a, vs, rfl, h, hzr2, r2⟩ := r.tupH gs
    simp only [Option.some.injEq] at ez
    subst ez
    exact ⟨_, vs.length, rfl, .inr ⟨vs, SqT.of h, rfl⟩, by rw [r2.1]; exact k _ _ _ .refl gs (.int _)⟩
  · obtain ⟨v, rfl, r⟩ := reps1 rs
    simp only [Option.some.injEq] at ez
    subst ez
    cases r with
    | scr hs => exact ⟨_, _, rfl, .inl ⟨_, sqL_mono gs.sub hs, rfl⟩, by rw [List.length_map]; exact k _ _ _ .refl gs (.int _)⟩
  · split at ez
    · rename_i hc
      obtain ⟨v, rfl, r⟩ := reps1 rs
      cases r
      simp only [Option.some.injEq] at ez
      subst ez
      exact ⟨_, _, rfl, ⟨hc, rfl⟩, k _ _ _ .refl gs (.int _)⟩
    · cases ez
def dAbs : List D → Option D
  | [.int i] => some (.int (if i < 0 then -i else i))
  | _ => none
theorem calls_abs : CallS X (fun xs H Q => ∃ i, xs = [.int i] ∧ Q (.int (if i < 0 then -i else i)) H) dAbs := by
  intro xs ds z F H p pa Q gs rs ez k
  unfold dAbs at ez
  split at ez <;> first | (cases ez; done) | skip
  obtain ⟨v, rfl, r⟩ := reps1 rs
  cases r
  simp only [Option.some.injEq] at ez
  subst ez
  exact ⟨_, rfl, k _ _ _ .refl gs (.int _)⟩
def dInt : List D → Option D
  | [.int i] => some (.int i)
  | [.bl b] => some (.int (if b then 1 else 0))
  | _ => none
theorem calls_int : CallS X (fun xs H Q => (∃ i, xs = [.int i] ∧ Q (.int i) H) ∨ ∃ k, xs = [.bl k] ∧ Q (.int (if k then 1 else 0)) H) dInt := by
  intro xs ds z F H p pa Q gs rs ez k
  unfold dInt at ez
  split at ez <;> first | (cases ez; done) | skip
  · obtain ⟨v, rfl, r⟩ := reps1 rs
    cases r
    simp only [Option.some.injEq] at ez
    subst ez
    exact .inl ⟨_, rfl, k _ _ _ .refl gs (.int _)⟩
  · obtain ⟨v, rfl, r⟩ := reps1 rs
    cases r
    simp only [Option.some.injEq] at ez
    subst ez
    exact .inr ⟨_, rfl, k _ _ _ .refl gs (.int _)⟩
def dDivmod : List D → Option D
  | [.int i, .int j] => if 0 < j ∧ j < 1073741824 then some (.tup [.int (i / j), .int (i % j)]) else none
  | _ => none
theorem calls_divmod : CallS X (fun xs H Q => ∃ i j, xs = [.int i, .int j] ∧ CDiv i j ∧ ∀ p, H p = none → Q (.ref p) (upd H p (.tup [.int (i / j), .int (i % j)]))) dDivmod := by
  intro xs ds z F H p pa Q gs rs ez k
  unfold dDivmod at ez
  split at ez <;> first | (cases ez; done) | skip
  split at ez
  · rename_i hc
    obtain ⟨v, w, rfl, r1, r2⟩ := reps2 rs
    cases r1; cases r2
    simp only [Option.some.injEq] at ez
    subst ez
    refine ⟨_, _, rfl, hc, fun q hq => ?_⟩
    exact k _ _ _ (Gr.alloc gs hq) (gs.alloc hq) (Rep.tup' upd_same (lim_size (by show 2 ≤ 4096; decide)) (.cons (.int _) (.cons (.int _) .nil)))
  · cases ez
def intsOf : List D → Option (List Int)
  | [] => some []
  | .int i :: r => (intsOf r).map (i :: ·)
  | _ :: _ => none
theorem intsOf_map (ns : List Int) : intsOf (ns.map .int) = some ns := by
  induction ns with
  | nil => rfl
  | cons n ns ih => simp [intsOf, ih]
theorem reps_ints {K : PySem.W.Frag} {F : Hp} {g : Nat} {pa : Option Addr} : ∀ {vs : List V} {ds : List D} {ns : List Int}, Reps K F g pa vs ds → intsOf ds = some ns → vs = ns.map V.int
  | [], [], ns, _, h => by simp [intsOf] at h; subst h; rfl
  | [], _ :: _, _, r, _ => by have := r.1; simp at this
  | _ :: _, [], _, r, _ => by have := r.1; simp at this
  | v :: vs, d :: ds, ns, r, h => by
    cases d <;> first | (simp [intsOf] at h; done) | skip
    simp only [intsOf] at h
    cases q : intsOf ds with
    | none => rw [q] at h; cases h
    | some ms =>
      rw [q] at h
      simp only [Option.map_some, Option.some.injEq] at h
      subst h
      have r1 := r.head
      cases r1
      rw [reps_ints r.tail q]; rfl
def bsOf : List D → Option (List Bool)
  | [] => some []
  | .bl i :: r => (bsOf r).map (i :: ·)
  | _ :: _ => none
theorem bsOf_map (ns : List Bool) : bsOf (ns.map .bl) = some ns := by
  induction ns with
  | nil => rfl
  | cons n ns ih => simp [bsOf, ih]
theorem reps_bs {K : PySem.W.Frag} {F : Hp} {g : Nat} {pa : Option Addr} : ∀ {vs : List V} {ds : List D} {ns : List Bool}, Reps K F g pa vs ds → bsOf ds = some ns → vs = ns.map V.bl
  | [], [], ns, _, h => by simp [bsOf] at h; subst h; rfl
  | [], _ :: _, _, r, _ => by have := r.1; simp at this
  | _ :: _, [], _, r, _ => by have := r.1; simp at this
  | v :: vs, d :: ds, ns, r, h => by
    cases d <;> first | (simp [bsOf] at h; done) | skip
    simp only [bsOf] at h
    cases q : bsOf ds with
    | none => rw [q] at h; cases h
    | some ms =>
      rw [q] at h
      simp only [Option.map_some, Option.some.injEq] at h
      subst h
      have r1 := r.head
      cases r1
      rw [reps_bs r.tail q]; rfl
def dSum : List D → Option D
  | [.lst xs] => (intsOf xs).map fun ns => .int ns.sum
  | _ => none
theorem calls_sum : CallS X (rSum X.K) dSum := by
  intro xs ds z F H p pa Q gs rs ez k
  unfold dSum at ez
  split at ez <;> first | (cases ez; done) | skip
  rename_i ys
  obtain ⟨v, rfl, r⟩ := reps1 rs
  obtain ⟨a, vs, rfl, h, hzr2, r2⟩ := r.lstH gs
  cases q : intsOf ys with
  | none => rw [q] at ez; cases ez
  | some ns =>
    rw [q] at ez
    simp only [Option.map_some, Option.some.injEq] at ez
    subst ez
    exact ⟨a, ns, rfl, SqL.of (by rw [← reps_ints r2 q]; exact h), k _ _ _ .refl gs (.int _)⟩
def dAll : List D → Option D
  | [.lst xs] => (bsOf xs).map fun ns => .bl (ns.all id)
  | _ => none
def dAny : List D → Option D
  | [.lst xs] => (bsOf xs).map fun ns => .bl (ns.any id)
  | _ => none
theorem calls_all : CallS X (rAll X.K) dAll := by
  intro xs ds z F H p pa Q gs rs ez k
  unfold dAll at ez
  split at ez <;> first | (cases ez; done) | skip
  rename_i ys
  obtain ⟨v, rfl, r⟩ := reps1 rs
  obtain ⟨a, vs, rfl, h, hzr2, r2⟩ := r.lstH gs
  cases q : bsOf ys with
  | none => rw [q] at ez; cases ez
  | some ns =>
    rw [q] at ez
    simp only [Option.map_some, Option.some.injEq] at ez
    subst ez
    exact ⟨a, ns, rfl, SqL.of (by rw [← reps_bs r2 q]; exact h), k _ _ _ .refl gs (.bl _)⟩
theorem calls_any : CallS X (rAny X.K) dAny := by
  intro xs ds z F H p pa Q gs rs ez k
  unfold dAny at ez
  split at ez <;> first | (cases ez; done) | skip
  rename_i ys
  obtain ⟨v, rfl, r⟩ := reps1 rs
  obtain ⟨a, vs, rfl, h, hzr2, r2⟩ := r.lstH gs
  cases q : bsOf ys with
  | none => rw [q] at ez; cases ez
  | some ns =>
    rw [q] at ez
    simp only [Option.map_some, Option.some.injEq] at ez
    subst ez
    exact ⟨a, ns, rfl, SqL.of (by rw [← reps_bs r2 q]; exact h), k _ _ _ .refl gs (.bl _)⟩
/-- greatest, least -/
def maxI : List Int → Int
  | [] => 0
  | [x] => x
  | x :: xs => max x (maxI xs)
def minI : List Int → Int
  | [] => 0
  | [x] => x
  | x :: xs => min x (minI xs)
theorem maxI_spec : ∀ {ns : List Int}, ns ≠ [] → maxI ns ∈ ns ∧ ∀ y ∈ ns, y ≤ maxI ns
  | [], h => absurd rfl h
  | [x], _ => by simp [maxI]
  | x :: y :: r, _ => by
    obtain ⟨h1, h2⟩ := maxI_spec (ns := y :: r) (by simp)
    have e : maxI (x :: y :: r) = max x (maxI (y :: r)) := by simp [maxI]
    rw [e]
    constructor
    · by_cases hx : x ≤ maxI (y :: r)
      · rw [show max x (maxI (y :: r)) = maxI (y :: r) by omega]; exact List.mem_cons_of_mem _ h1
      · rw [show max x (maxI (y :: r)) = x by omega]; exact List.mem_cons_self
    · intro z hz
      rcases List.mem_cons.mp hz with rfl | hz
      · omega
      · have := h2 z hz; omega
theorem minI_spec : ∀ {ns : List Int}, ns ≠ [] → minI ns ∈ ns ∧ ∀ y ∈ ns, minI ns ≤ y
  | [], h => absurd rfl h
  | [x], _ => by simp [minI]
  | x :: y :: r, _ => by
    obtain ⟨h1, h2⟩ := minI_spec (ns := y :: r) (by simp)
    have e : minI (x :: y :: r) = min x (minI (y :: r)) := by simp [minI]
    rw [e]
    constructor
    · by_cases hx : minI (y :: r) ≤ x
      · rw [show min x (minI (y :: r)) = minI (y :: r) by omega]; exact List.mem_cons_of_mem _ h1
      · rw [show min x (minI (y :: r)) = x by omega]; exact List.mem_cons_self
    · intro z hz
      rcases List.mem_cons.mp hz with rfl | hz
      · omega
      · have := h2 z hz; omega
def dMax1 : List D → Option D
  | [.lst xs] => (intsOf xs).bind fun ns => if ns = [] then none else some (.int (maxI ns))
  | _ => none
def dMin1 : List D → Option D
  | [.lst xs] => (intsOf xs).bind fun ns => if ns = [] then none else some (.int (minI ns))
  | _ => none
theorem calls_max1 : CallS X (rMax X.K) dMax1 := by
  intro xs ds z F H p pa Q gs rs ez k
  unfold dMax1 at ez
  split at ez <;> first | (cases ez; done) | skip
  rename_i ys
  obtain ⟨v, rfl, r⟩ := reps1 rs
  obtain ⟨a, vs, rfl, h, hzr2, r2⟩ := r.lstH gs
  cases q : intsOf ys with
  | none => rw [q] at ez; cases ez
  | some ns =>
    rw [q] at ez
    simp only [Option.bind_some] at ez
    split at ez
    · cases ez
    · rename_i hne
      simp only [Option.some.injEq] at ez
      subst ez
      refine ⟨a, ns, rfl, SqL.of (by rw [← reps_ints r2 q]; exact h), List.length_pos_iff.mpr hne, fun m hm hle => ?_⟩
      obtain ⟨h1, h2⟩ := maxI_spec hne
      have : m = maxI ns := by have a1 := hle _ h1; have a2 := h2 _ hm; omega
      rw [this]
      exact k _ _ _ .refl gs (.int _)
theorem calls_min1 : CallS X (rMin X.K) dMin1 := by
  intro xs ds z F H p pa Q gs rs ez k
  unfold dMin1 at ez
  split at ez <;> first | (cases ez; done) | skip
  rename_i ys
  obtain ⟨v, rfl, r⟩ := reps1 rs
  obtain ⟨a, vs, rfl, h, hzr2, r2⟩ := r.lstH gs
  cases q : intsOf ys with
  | none => rw [q] at ez; cases ez
  | some ns =>
    rw [q] at ez
    simp only [Option.bind_some] at ez
    split at ez
    · cases ez
    · rename_i hne
      simp only [Option.some.injEq] at ez
      subst ez
      refine ⟨a, ns, rfl, SqL.of (by rw [← reps_ints r2 q]; exact h), List.length_pos_iff.mpr hne, fun m hm hle => ?_⟩
      obtain ⟨h1, h2⟩ := minI_spec hne
      have : m = minI ns := by have a1 := hle _ h1; have a2 := h2 _ hm; omega
      rw [this]
      exact k _ _ _ .refl gs (.int _)
def dMax2 : List D → Option D
  | [.int i, .int j] => some (.int (if j > i then j else i))
  | _ => none
def dMin2 : List D → Option D
  | [.int i, .int j] => some (.int (if j < i then j else i))
  | _ => none
theorem calls_max2 : CallS X (fun xs H Q => ∃ i j, xs = [.int i, .int j] ∧ Q (.int (if j > i then j else i)) H) dMax2 := by
  intro xs ds z F H p pa Q gs rs ez k
  unfold dMax2 at ez
  split at ez <;> first | (cases ez; done) | skip
  obtain ⟨v, w, rfl, r1, r2⟩ := reps2 rs
  cases r1; cases r2
  simp only [Option.some.injEq] at ez
  subst ez
  exact ⟨_, _, rfl, k _ _ _ .refl gs (.int _)⟩
theorem calls_min2 : CallS X (fun xs H Q => ∃ i j, xs = [.int i, .int j] ∧ Q (.int (if j < i then j else i)) H) dMin2 := by
  intro xs ds z F H p pa Q gs rs ez k
  unfold dMin2 at ez
  split at ez <;> first | (cases ez; done) | skip
  obtain ⟨v, w, rfl, r1, r2⟩ := reps2 rs
  cases r1; cases r2
  simp only [Option.some.injEq] at ez
  subst ez
  exact ⟨_, _, rfl, k _ _ _ .refl gs (.int _)⟩
/-- tuple(x) -/
def dTuple : List D → Option D
  | [.lst xs] => some (.tup xs)
  | [.tup xs] => some (.tup xs)
  | _ => none
theorem calls_tuple : CallS X (fun xs H Q => ∃ p ys, xs = [.ref p] ∧ ((SqL X.K H p ys ∧ ∀ l, H l = none → Q (.ref l) (upd H l (.tup ys))) ∨ (SqT X.K H p ys ∧ Q (.ref p) H))) dTuple := by
  intro xs ds z F H p pa Q gs rs ez k
  unfold dTuple at ez
  split at ez <;> first | (cases ez; done) | skip
  · obtain ⟨v, rfl, r⟩ := reps1 rs
    obtain ⟨a, vs, rfl, h, hzr2, r2⟩ := r.lstH gs
    simp only [Option.some.injEq] at ez
    subst ez
    exact ⟨a, vs, rfl, .inl ⟨SqL.of h, fun q hq => k _ _ _ (Gr.alloc gs hq) (gs.alloc hq) (Rep.tup' upd_same hzr2 (r2.mono (Fz.upd (gs.fnone hq))))⟩⟩
  · obtain ⟨v, rfl, r⟩ := reps1 rs
    have r' := r
    obtain ⟨a, vs, rfl, h, hzr2, r2⟩ := r.tupH gs
    simp only [Option.some.injEq] at ez
    subst ez
    exact ⟨a, vs, rfl, .inr ⟨SqT.of h, k _ _ _ .refl gs r'⟩⟩
end
end PF

namespace PF
open PySem PySem.Spec PyProof.Rows L2

section
variable {X : Cx} {Wx : WX} {a b c e : Expr} {es rest : List Expr} {ma mb mc m : M D} {mo ms mi : M (List D)} {ta tb : M Bool} {pos : Pos} {x : Str} {p : Pos} {tg : Expr}
/-! ### fresh lists from built-ins -/
def mLst (f : List D → Option (List D)) (ms : M (List D)) : M (List D) := mbind ms fun ds => mopt (f ds)
def CallSo (X : Cx) (r : List V → Hp → VK → Prop) (f : List D → Option (List D)) : Prop := ∀ (xs : List V) (ds zs : List D) (F H : Hp) (p : Pst) (pa : Option Addr) (Q : VK), GS F H pa p → Reps X.K F p.g pa xs ds → f ds = some zs →
  (∀ q vs, H q = none → zs.length ≤ sizeLine → Reps X.K F p.g pa vs zs → Q (.ref q) (upd H q (.lst vs))) → r xs H Q
theorem tm_callo {r : List V → Hp → VK → Prop} {f : List D → Option (List D)} (hs : CallSo X r f) : ∀ σ H Q, TMo X.K X.mg Wx (mLst f ms) σ H Q → tCB r (TMa X.K X.mg Wx ms) σ H Q := fun σ H Q ⟨F, pa, p, ρ, gs, s, o⟩ => by
  refine TMa.of gs s ((Out.bindS .refl o).mono fun ds p1 F1 H1 pa1 _ gs1 ⟨gr1, o1⟩ s1 vs rs => ?_)
  obtain ⟨z, ez, o2⟩ := o1.opt
  exact hs vs ds z F1 H1 p1 pa1 Q gs1 rs ez fun q ws hq hz rz => out_fresh gr1 gs1 o2 hq hz rz
theorem pmo_callB {bid : String} {r : List V → Hp → VK → Prop} {f : List D → Option (List D)} (hc : CallR X (.builtin bid) r) (hs : CallSo X r f) (hg : Gl X x) (hm : X.mg x = none) (hv : bootBuiltins x = some (.builtin bid)) (ha : PMa X Wx (e :: es) ms) (hn : x ≠ "__name__" := by decide) (hdb : (x == ("__debug__" : Str)) = false := by decide)
    (he : starEach (e :: es) X.env = (false, eval e X.env) :: starEach es X.env := by rfl) (hpl : (backTo pos (starEach es X.env)).any (·.1) = false := by rfl) : PMo X Wx (.Call (.Name x p) (e :: es) [] pos) (mLst f ms) :=
  ⟨(pe_callB hc hg hm hv ha.pa hn hdb he hpl).imp (tm_callo hs)⟩
theorem pmo_callTy {T : String} {r : List V → Hp → VK → Prop} {f : List D → Option (List D)} (hc : CallR X (.type T) r) (hs : CallSo X r f) (hg : Gl X x) (hm : X.mg x = none) (hv : bootBuiltins x = some (.type T)) (ha : PMa X Wx (e :: es) ms) (hn : x ≠ "__name__" := by decide) (hdb : (x == ("__debug__" : Str)) = false := by decide)
    (he : starEach (e :: es) X.env = (false, eval e X.env) :: starEach es X.env := by rfl) (hpl : (backTo pos (starEach es X.env)).any (·.1) = false := by rfl) : PMo X Wx (.Call (.Name x p) (e :: es) [] pos) (mLst f ms) :=
  ⟨(pe_callTy hc hg hm hv ha.pa hn hdb he hpl).imp (tm_callo hs)⟩
/-- list(x) of a list, a tuple -/
def dList : List D → Option (List D)
  | [.lst xs] => some xs
  | [.tup xs] => some xs
  | _ => none
theorem calls_list : CallSo X (fun xs H Q => ∃ p ys, xs = [.ref p] ∧ (SqL X.K H p ys ∨ SqT X.K H p ys) ∧ ∀ l, H l = none → Q (.ref l) (upd H l (.lst ys))) dList := by
  intro xs ds z F H p pa Q gs rs ez k
  unfold dList at ez
  split at ez <;> first | (cases ez; done) | skip
  · obtain ⟨v, rfl, r⟩ := reps1 rs
    obtain ⟨a, vs, rfl, h, hz, r2⟩ := r.lstH gs
    simp only [Option.some.injEq] at ez
    subst ez
    exact ⟨a, vs, rfl, .inl (SqL.of h), fun l hl => k l vs hl hz r2⟩
  · obtain ⟨v, rfl, r⟩ := reps1 rs
    obtain ⟨a, vs, rfl, h, hz, r2⟩ := r.tupH gs
    simp only [Option.some.injEq] at ez
    subst ez
    exact ⟨a, vs, rfl, .inr (SqT.of h), fun l hl => k l vs hl hz r2⟩
/-- sorted(x) of a list of ints -/
def ins (x : Int) : List Int → List Int
  | [] => [x]
  | y :: ys => if x ≤ y then x :: y :: ys else y :: ins x ys
def srt : List Int → List Int
  | [] => []
  | x :: xs => ins x (srt xs)
theorem ins_perm (x : Int) : ∀ l, (ins x l).Perm (x :: l)
  | [] => .refl _
  | y :: ys => by
    unfold ins
    split
    · exact .refl _
    · exact ((ins_perm x ys).cons y).trans (.swap x y ys)
theorem srt_perm : ∀ ns : List Int, (srt ns).Perm ns
  | [] => .refl _
  | x :: xs => (ins_perm x (srt xs)).trans ((srt_perm xs).cons x)
theorem ins_sorted (x : Int) : ∀ l : List Int, l.Pairwise (· ≤ ·) → (ins x l).Pairwise (· ≤ ·)
  | [], _ => by simp [ins]
  | y :: ys, h => by
    rw [List.pairwise_cons] at h
    unfold ins
    split
    · rename_i hc
      refine List.Pairwise.cons (fun z hz => ?_) (List.Pairwise.cons h.1 h.2)
      rcases List.mem_cons.mp hz with rfl | hz
      · exact hc
      · exact Int.le_trans hc (h.1 z hz)
    · rename_i hc
      refine List.Pairwise.cons (fun z hz => ?_) (ins_sorted x ys h.2)
      have hz' := (ins_perm x ys).mem_iff.mp hz
      rcases List.mem_cons.mp hz' with rfl | hz'
      · omega
      · exact h.1 z hz'
theorem srt_sorted : ∀ ns : List Int, (srt ns).Pairwise (· ≤ ·)
  | [] => .nil
  | x :: xs => ins_sorted x (srt xs) (srt_sorted xs)
theorem sorted_unique : ∀ {xs ys : List Int}, xs.Perm ys → xs.Pairwise (· ≤ ·) → ys.Pairwise (· ≤ ·) → xs = ys := by
  intro xs ys hp h1 h2
  exact List.Perm.eq_of_pairwise (le := (· ≤ ·)) (fun a b _ _ h3 h4 => by omega) h1 h2 hp
def dSorted : List D → Option (List D)
  | [.lst xs] => (intsOf xs).map fun ns => (srt ns).map .int
  | _ => none
theorem reps_int_map {K : PySem.W.Frag} {F : Hp} {g : Nat} {pa : Option Addr} : ∀ ns : List Int, Reps K F g pa (ns.map V.int) (ns.map D.int)
  | [] => .nil
  | n :: ns => .cons (.int n) (reps_int_map ns)
theorem intsOf_len : ∀ {ds : List D} {ns : List Int}, intsOf ds = some ns → ns.length = ds.length
  | [], ns, h => by simp [intsOf] at h; subst h; rfl
  | d :: ds, ns, h => by
    cases d <;> first | (simp [intsOf] at h; done) | skip
    simp only [intsOf] at h
    cases q : intsOf ds with
    | none => rw [q] at h; cases h
    | some ms =>
      rw [q] at h
      simp only [Option.map_some, Option.some.injEq] at h
      subst h
      simp [intsOf_len q]
theorem calls_sorted : CallSo X (rSortedI X.K) dSorted := by
  intro xs ds z F H p pa Q gs rs ez k
  unfold dSorted at ez
  split at ez <;> first | (cases ez; done) | skip
  rename_i ys
  obtain ⟨v, rfl, r⟩ := reps1 rs
  obtain ⟨a, vs, rfl, h, hz, r2⟩ := r.lstH gs
  cases q : intsOf ys with
  | none => rw [q] at ez; cases ez
  | some ns =>
    rw [q] at ez
    simp only [Option.map_some, Option.some.injEq] at ez
    subst ez
    refine ⟨a, ns, rfl, SqL.of (by rw [← reps_ints r2 q]; exact h), fun ns' l hp hs hl => ?_⟩
    have e : ns' = srt ns := sorted_unique (hp.trans (srt_perm ns).symm) hs (srt_sorted ns)
    subst e
    exact k l _ hl (by rw [List.length_map, (srt_perm ns).length_eq, intsOf_len q]; exact hz) (reps_int_map _)

/-! ### isinstance -/
inductive Ty | int | bool | str | list | tuple | dict
def Ty.name : Ty → String
  | .int => "int" | .bool => "bool" | .str => "str" | .list => "list" | .tuple => "tuple" | .dict => "dict"
def isTy : Ty → D → Bool
  | .int, .int _ => true
  | .int, .bl _ => true
  | .bool, .bl _ => true
  | .str, .str _ => true
  | .list, .lst _ => true
  | .list, .scr _ => true
  | .tuple, .tup _ => true
  | .dict, .emp => true
  | _, _ => false
def tyOf : D → String
  | .non => "NoneType" | .bl _ => "bool" | .int _ => "int" | .str _ => "str" | .lst _ => "list" | .scr _ => "list" | .pot _ => "list" | .tup _ => "tuple" | .emp => "dict"
theorem Rep.ty {K : PySem.W.Frag} {F H : Hp} {p : Pst} {pa : Option Addr} {v : V} {d : D} (gs : GS F H pa p) (r : Rep K F p.g pa v d) (hnp : noPot d = true) : TyX K H v (.type (tyOf d)) := by
  cases r with
  | non => exact .base .non
  | bl b => exact .base (.bl b)
  | int i => exact .base (.int i)
  | str s => exact .base (.str s)
  | lst h _ _ _ => exact .base (.lst (gs.sub _ _ h))
  | tup h _ _ _ => exact .base (.tup (gs.sub _ _ h))
  | scr h =>
    rcases h with (h | ⟨o, h⟩) | ⟨o, its, n, h1, h2, _⟩
    · exact .base (.lst (gs.sub _ _ h))
    · exact .base (.frz (gs.sub _ _ h))
    · exact .kList h1 h2
  | pot _ _ => simp [noPot] at hnp
  | emp h => exact .base (.dK (gs.sub _ _ h))
theorem kit_tab (t : Ty) (d : D) : kitB (tyOf d) t.name = some (isTy t d) ∨ noPot d = false := by
  cases d <;> cases t <;> first | exact .inr rfl | (left; simp only [tyOf, Ty.name, isTy]; decide +kernel)
def mIsi (t : Ty) (m : M D) : M D := mbind m fun d => if noPot d = true then mret (.bl (isTy t d)) else mstuck
def isTys (ts : List Ty) (d : D) : Bool := ts.any fun t => isTy t d
def mIsis (ts : List Ty) (m : M D) : M D := mbind m fun d => if noPot d = true then mret (.bl (isTys ts d)) else mstuck
theorem pm_isi {y : Str} {p2 : Pos} (t : Ty) (hg : Gl X "isinstance") (hm : X.mg "isinstance" = none) (ha : PM X Wx a m) (hgy : Gl X y) (hmy : X.mg y = none) (hvy : bootBuiltins y = some (.type t.name)) (hny : y ≠ "__name__" := by decide) (hdy : (y == ("__debug__" : Str)) = false := by decide)
    (hs : starEach (a :: [.Name y p2]) X.env = (false, eval a X.env) :: starEach [.Name y p2] X.env := by rfl) (hs2 : starEach [.Name y p2] X.env = (false, eval (.Name y p2) X.env) :: starEach [] X.env := by rfl)
    (hpl : (backTo pos (starEach [.Name y p2] X.env)).any (·.1) = false := by rfl) : PM X Wx (.Call (.Name "isinstance" p) [a, .Name y p2] [] pos) (mIsi t m) :=
  ⟨(pe_callB call_isi hg hm PyProof.Rows.boot_isinstance (pa_cons ha.pe (pa_cons (pe_bltn (v := .ty t.name) hgy hmy hvy rfl hny hdy) pa_nil hs2) hs) (by decide) (by decide) hs hpl).imp fun σ H Q ⟨F, pa, p, ρ, gs, s, o⟩ => by
    refine TM.of gs s (o.bind.mono fun d p1 F1 H1 pa1 gr1 gs1 o1 s1 v1 r1 => ?_)
    by_cases hn : noPot d = true
    · rw [if_pos hn] at o1
      refine ⟨v1, .ty t.name, _, _, isTy t d, rfl, .ty _, r1.ty gs1 hn, ?_, o1.ret gs1 _ (.bl _)⟩
      rcases kit_tab t d with h | h
      · exact kit_ty h
      · rw [h] at hn; cases hn
    · rw [if_neg hn] at o1; exact o1.elim⟩
theorem kitAny_tys {K : PySem.W.Frag} {d : D} (hn : noPot d = true) : ∀ ts : List Ty, PySem.W.kitAny K (.type (tyOf d)) (ts.map fun t => Value.type t.name) = some (isTys ts d)
  | [] => kitAny_nil
  | t :: ts => by
    have h : PySem.W.kitOne K (.type (tyOf d)) (.type t.name) = some (isTy t d) := by
      rcases kit_tab t d with h | h
      · exact kit_ty h
      · rw [h] at hn; cases hn
    refine kitAny_cons h (fun e => ?_) fun e => ?_
    · rw [kitAny_tys hn ts]; simp [isTys, e]
    · simp [isTys, e]
theorem pm_isi2 {y z : Str} {p2 p3 p4 : Pos} {kk} (t u : Ty) (hg : Gl X "isinstance") (hm : X.mg "isinstance" = none) (ha : PM X Wx a m) (hgy : Gl X y) (hmy : X.mg y = none) (hvy : bootBuiltins y = some (.type t.name)) (hgz : Gl X z) (hmz : X.mg z = none) (hvz : bootBuiltins z = some (.type u.name))
    (hny : y ≠ "__name__" := by decide) (hdy : (y == ("__debug__" : Str)) = false := by decide) (hnz : z ≠ "__name__" := by decide) (hdz : (z == ("__debug__" : Str)) = false := by decide)
    (hs : starEach (a :: [.Tuple [.Name y p2, .Name z p3] kk p4]) X.env = (false, eval a X.env) :: starEach [.Tuple [.Name y p2, .Name z p3] kk p4] X.env := by rfl)
    (hs2 : starEach [.Tuple [.Name y p2, .Name z p3] kk p4] X.env = (false, eval (.Tuple [.Name y p2, .Name z p3] kk p4) X.env) :: starEach [] X.env := by rfl)
    (hs3 : starEach [.Name y p2, .Name z p3] X.env = (false, eval (.Name y p2) X.env) :: starEach [.Name z p3] X.env := by rfl) (hs4 : starEach [.Name z p3] X.env = (false, eval (.Name z p3) X.env) :: starEach [] X.env := by rfl)
    (hpl : (backTo pos (starEach [.Tuple [.Name y p2, .Name z p3] kk p4] X.env)).any (·.1) = false := by rfl) : PM X Wx (.Call (.Name "isinstance" p) [a, .Tuple [.Name y p2, .Name z p3] kk p4] [] pos) (mIsis [t, u] m) :=
  ⟨(pe_callB call_isiT hg hm PyProof.Rows.boot_isinstance (pa_cons ha.pe (pa_cons (pe_tup (pa_cons (pe_bltn (v := .ty t.name) hgy hmy hvy rfl hny hdy) (pa_cons (pe_bltn (v := .ty u.name) hgz hmz hvz rfl hnz hdz) pa_nil hs4) hs3)) pa_nil hs2) hs) (by decide) (by decide) hs hpl).imp fun σ H Q ⟨F, pa, p, ρ, gs, s, o⟩ => by
    refine TM.of gs s (o.bind.mono fun d p1 F1 H1 pa1 gr1 gs1 o1 s1 v1 r1 => ?_)
    by_cases hn : noPot d = true
    · rw [if_pos hn] at o1
      refine ⟨lim_size (by show 2 ≤ 4096; decide), fun q hq => ?_⟩
      have gs2 := gs1.allocO (o := .tup [.ty t.name, .ty u.name]) hq
      have gr2 : Gr F1 H1 p1.g pa1 F1 (upd H1 q (.tup [.ty t.name, .ty u.name])) p1.g pa1 := Gr.allocO hq
      refine ⟨v1, q, _, _, _, isTys [t, u] d, rfl, upd_same, .cons (.ty _) (.cons (.ty _) .nil), r1.ty gs2 hn, kitAny_tys hn [t, u], o1 _ _ pa1 gr2 gs2 _ (.bl _)⟩
    · rw [if_neg hn] at o1; exact o1.elim⟩

/-! ### what is walked -/
def IterOk (K : PySem.W.Frag) (F0 : Hp) (g0 : Nat) (pa0 : Option Addr) (J : It) (items : List D) : Prop := ∀ (i : Nat) (F H : Hp) (pa : Option Addr) (p : Pst), Fz F0 g0 pa0 F p.g pa → GS F H pa p →
  (items.length ≤ i → J.stop i H) ∧ ∀ d, items[i]? = some d → J.go i H ∧ ∀ x H', J.yld i H x H' → ∃ F', Gr F H p.g pa F' H' p.g pa ∧ GS F' H' pa p ∧ Rep K F' p.g pa x d
def TMi (K : PySem.W.Frag) (mg : Str → Option Value) (Wx : WX) (m : M (List D)) : TI := fun σ H R => At K mg Wx m σ H fun _ _ items p' F' H' pa' => ∀ J, IterOk K F' p'.g pa' J items → items.length ≤ sizeLine → R J H'
structure PMi (X : Cx) (Wx : WX) (tg e : Expr) (m : M (List D)) : Prop where
  pi : PI X tg e (TMi X.K X.mg Wx m)
theorem _root_.L2.PI.imp {X : Cx} {tg e : Expr} {t t' : TI} (h : PI X tg e t) (f : ∀ σ H R, t' σ H R → t σ H R) : PI X tg e t' := ⟨fun pins s σ H R I q => h.run pins s σ H R I (f σ H R q)⟩
theorem iter_list {K : PySem.W.Frag} {F : Hp} {g : Nat} {pa : Option Addr} {a : Addr} {vs : List V} {ds : List D} (h : F a = some (.lst vs)) (r : Reps K F g pa vs ds) : IterOk K F g pa (Itl K a) ds := by
  intro i F1 H1 pa1 p1 fz gs1
  have h1 : SqL K H1 a vs := SqL.of (gs1.sub _ _ (fz.sub _ _ h))
  have r1 := r.mono fz
  refine ⟨fun hi => ⟨vs, h1, by rw [r.1]; exact hi⟩, fun d hd => ?_⟩
  obtain ⟨v, hv, rv⟩ := r1.get hd
  refine ⟨⟨vs, v, h1, hv⟩, fun x H' ⟨e, hx⟩ => ?_⟩
  subst e
  have := hx vs h1
  rw [hv] at this
  cases this
  exact ⟨F1, .refl, gs1, rv⟩
theorem iter_tup {K : PySem.W.Frag} {F : Hp} {g : Nat} {pa : Option Addr} {a : Addr} {vs : List V} {ds : List D} (h : F a = some (.tup vs)) (r : Reps K F g pa vs ds) : IterOk K F g pa (Itt K a) ds := by
  intro i F1 H1 pa1 p1 fz gs1
  have h1 : SqT K H1 a vs := SqT.of (gs1.sub _ _ (fz.sub _ _ h))
  have r1 := r.mono fz
  refine ⟨fun hi => ⟨vs, h1, by rw [r.1]; exact hi⟩, fun d hd => ?_⟩
  obtain ⟨v, hv, rv⟩ := r1.get hd
  refine ⟨⟨vs, v, h1, hv⟩, fun x H' ⟨e, hx⟩ => ?_⟩
  subst e
  have := hx vs h1
  rw [hv] at this
  cases this
  exact ⟨F1, .refl, gs1, rv⟩
theorem iter_scr {K : PySem.W.Frag} {F : Hp} {g : Nat} {pa : Option Addr} {a : Addr} {ns : List Int} (h : SqL K F a (ns.map V.int)) : IterOk K F g pa (Itl K a) (ns.map .int) := by
  intro i F1 H1 pa1 p1 fz gs1
  have h1 : SqL K H1 a (ns.map V.int) := sqL_mono gs1.sub (sqL_mono fz.sub h)
  refine ⟨fun hi => ⟨_, h1, by simpa using hi⟩, fun d hd => ?_⟩
  rw [List.getElem?_map] at hd
  cases q : ns[i]? with
  | none => rw [q] at hd; cases hd
  | some n =>
    rw [q] at hd
    cases hd
    have hv : (ns.map V.int)[i]? = some (.int n) := by rw [List.getElem?_map, q]; rfl
    refine ⟨⟨_, _, h1, hv⟩, fun x H' ⟨e, hx⟩ => ?_⟩
    subst e
    have := hx _ h1
    rw [hv] at this
    cases this
    exact ⟨F1, .refl, gs1, .int n⟩
/-- a list or a tuple -/
theorem pi_lt {l : Expr} {tl : TE} (hl : PE X l tl) : PI X tg l (fun σ H R => tl σ H fun x H1 => (∃ a, x = .ref a ∧ (∃ xs, SqL X.K H1 a xs) ∧ R (Itl X.K a) H1) ∨ (∃ a, x = .ref a ∧ (∃ xs, SqT X.K H1 a xs) ∧ R (Itt X.K a) H1)) := by
  refine ⟨fun pins s σ H R I h => ?_⟩
  refine thn (hl.run pins s σ H _ I h) fun v s1 ⟨x, H1, I1, r1, q1⟩ => ?_
  rcases q1 with ⟨a, e, ⟨xs, hq⟩, q⟩ | ⟨a, e, ⟨xs, hq⟩, q⟩
  · subst e
    cases r1
    obtain ⟨its, rv, p, hz⟩ := I1.list hq
    refine wpAny_pyIter_list p.isList ?_
    refine ⟨s1.heap.objs.size, [s1.heap.objs.size], _, _, H1, rfl, I1.kept (t' := s1.toks) fun b o e => Heap.get?_push_of_some _ e, turn_list a _, ⟨_, Heap.get?_push_size _ rfl, rfl, rfl⟩, fun b hb => ?_, q⟩
    have e : b = s1.heap.objs.size := by simpa using hb
    subst e
    exact I1.fpOk (Nat.le_refl _) (I1.hok.fresh (Nat.le_refl _))
  · subst e
    cases r1
    obtain ⟨its, rv, p, hz⟩ := I1.tuple hq
    refine wpAny_pyIter_tuple (show s1.heap.IsTuple a its.toArray from p) ?_
    refine ⟨s1.heap.objs.size, [s1.heap.objs.size], _, _, H1, rfl, I1.kept (t' := s1.toks) fun b o e => Heap.get?_push_of_some _ e, turn_tuple a _, ⟨_, Heap.get?_push_size _ rfl, rfl, rfl⟩, fun b hb => ?_, q⟩
    have e : b = s1.heap.objs.size := by simpa using hb
    subst e
    exact I1.fpOk (Nat.le_refl _) (I1.hok.fresh (Nat.le_refl _))
def seqD : D → M (List D)
  | .lst xs => mret xs
  | .tup xs => mret xs
  | .scr ns => if ns.length ≤ 4096 then mret (ns.map .int) else mstuck
  | _ => mstuck
def mSeq (m : M D) : M (List D) := mbind m seqD
theorem pmi_seq (he : PM X Wx e m) : PMi X Wx tg e (mSeq m) := ⟨(pi_lt he.pe).imp fun σ H R ⟨F, pa, p, ρ, gs, s, o⟩ => by
  refine TM.of gs s (o.bind.mono fun d p1 F1 H1 pa1 gr1 gs1 o1 s1 v1 r1 => ?_)
  cases d <;> first | exact o1.elim | skip
  · obtain ⟨a, vs, rfl, h, hz, rs⟩ := r1.lst_inv
    exact .inl ⟨a, rfl, ⟨vs, SqL.of (gs1.sub _ _ h)⟩, o1.ret gs1 _ (iter_list h rs) hz⟩
  · obtain ⟨a, vs, rfl, h, hz, rs⟩ := r1.tup_inv
    exact .inr ⟨a, rfl, ⟨vs, SqT.of (gs1.sub _ _ h)⟩, o1.ret gs1 _ (iter_tup h rs) hz⟩
  · rename_i ns
    cases r1 with
    | scr h =>
      simp only [seqD] at o1
      by_cases hc : ns.length ≤ 4096
      · rw [if_pos hc] at o1
        exact .inl ⟨_, rfl, ⟨_, sqL_mono gs1.sub h⟩, o1.ret gs1 _ (iter_scr h) (by rw [List.length_map]; exact lim_size hc)⟩
      · rw [if_neg hc] at o1; exact o1.elim⟩
/-- ranges -/
def rgL (lo : Int) (n : Nat) : List D := (List.range n).map fun (k : Nat) => D.int (lo + k)
theorem iter_rng {K : PySem.W.Frag} {F : Hp} {g : Nat} {pa : Option Addr} {lo : Int} {n : Nat} : IterOk K F g pa (Itr lo n) (rgL lo n) := by
  intro i F1 H1 pa1 p1 fz gs1
  refine ⟨fun hi => by simpa [rgL, Itr] using hi, fun d hd => ?_⟩
  unfold rgL at hd
  rw [List.getElem?_map] at hd
  by_cases hi : i < n
  · rw [List.getElem?_range hi] at hd
    cases hd
    exact ⟨hi, fun x H' ⟨e, hx⟩ => by subst e hx; exact ⟨F1, .refl, gs1, .int _⟩⟩
  · rw [List.getElem?_eq_none (by simpa using hi)] at hd
    cases hd
theorem sz16 {n : Nat} (h : n ≤ 16000000) : n ≤ sizeLine := by rw [sizeLine_eq]; omega
theorem rgL_len (lo : Int) (n : Nat) : (rgL lo n).length = n := by simp [rgL]
def dRange1 : List D → Option (List D)
  | [.int j] => if j ≤ 16000000 ∧ -(2 ^ 60) ≤ j then some (rgL 0 j.toNat) else none
  | _ => none
def dRange2 : List D → Option (List D)
  | [.int i, .int j] => if -(2 ^ 60) ≤ i ∧ i < 2 ^ 60 ∧ -(2 ^ 60) ≤ j ∧ j < 2 ^ 60 ∧ j - i ≤ 16000000 then some (rgL i (j - i).toNat) else none
  | _ => none
def mRange1 (ms : M (List D)) : M (List D) := mbind ms fun ds => mopt (dRange1 ds)
def mRange2 (ms : M (List D)) : M (List D) := mbind ms fun ds => mopt (dRange2 ds)
theorem pmi_range1 (hg : Gl X "range") (hm : X.mg "range" = none) (ha : PMa X Wx [a] ms) (hs : starEach [a] X.env = [(false, eval a X.env)] := by rfl) : PMi X Wx tg (.Call (.Name "range" p) [a] [] pos) (mRange1 ms) := ⟨(pi_range1 hg hm ha.pa hs).imp fun σ H R ⟨F, pa, p, ρ, gs, s, o⟩ => by
  refine TMa.of gs s (o.bind.mono fun ds p1 F1 H1 pa1 gr1 gs1 o1 s1 vs rs => ?_)
  obtain ⟨z, ez, o2⟩ := o1.opt
  unfold dRange1 at ez
  split at ez <;> first | (cases ez; done) | skip
  split at ez <;> first | (cases ez; done) | skip
  rename_i hc
  simp only [Option.some.injEq] at ez
  subst ez
  obtain ⟨v, rfl, r⟩ := reps1 rs
  cases r
  exact ⟨_, rfl, by omega, by omega, o2.ret gs1 _ iter_rng (by rw [rgL_len]; exact sz16 (by omega))⟩⟩
theorem pmi_range2 (hg : Gl X "range") (hm : X.mg "range" = none) (ha : PMa X Wx [a, b] ms) (hs : starEach [a, b] X.env = [(false, eval a X.env), (false, eval b X.env)] := by rfl) (hs2 : starEach [b] X.env = [(false, eval b X.env)] := by rfl) : PMi X Wx tg (.Call (.Name "range" p) [a, b] [] pos) (mRange2 ms) := ⟨(pi_range2 hg hm ha.pa hs hs2).imp fun σ H R ⟨F, pa, p, ρ, gs, s, o⟩ => by
  refine TMa.of gs s (o.bind.mono fun ds p1 F1 H1 pa1 gr1 gs1 o1 s1 vs rs => ?_)
  obtain ⟨z, ez, o2⟩ := o1.opt
  unfold dRange2 at ez
  split at ez <;> first | (cases ez; done) | skip
  split at ez <;> first | (cases ez; done) | skip
  rename_i hc
  simp only [Option.some.injEq] at ez
  subst ez
  obtain ⟨v, w, rfl, r1, r2⟩ := reps2 rs
  cases r1; cases r2
  exact ⟨_, _, rfl, ⟨by omega, by omega, by omega, by omega⟩, o2.ret gs1 _ iter_rng (by rw [rgL_len]; exact sz16 (by omega))⟩⟩
/-- enumerate(list) -/
def enumL (xs : List D) : List D := xs.mapIdx fun i x => .tup [.int (i : Nat), x]
theorem two_line : 2 ≤ sizeLine := lim_size (by decide)
theorem iter_enum {K : PySem.W.Frag} {F : Hp} {g : Nat} {pa : Option Addr} {a : Addr} {vs : List V} {ds : List D} (h : F a = some (.lst vs)) (r : Reps K F g pa vs ds) : IterOk K F g pa (Ite K a) (enumL ds) := by
  intro i F1 H1 pa1 p1 fz gs1
  have h1 : SqL K H1 a vs := SqL.of (gs1.sub _ _ (fz.sub _ _ h))
  have r1 := r.mono fz
  refine ⟨fun hi => ⟨vs, h1, by rw [r.1]; simpa [enumL] using hi⟩, fun d hd => ?_⟩
  unfold enumL at hd
  rw [List.getElem?_mapIdx] at hd
  cases q : ds[i]? with
  | none => rw [q] at hd; cases hd
  | some e =>
    rw [q] at hd
    cases hd
    obtain ⟨v, hv, rv⟩ := r1.get q
    refine ⟨⟨vs, v, h1, hv⟩, fun x H' ⟨T, y, e1, e2, e3, hx⟩ => ?_⟩
    subst e1 e3
    have := hx vs h1
    rw [hv] at this
    cases this
    have fu : Fz F1 p1.g pa1 (upd F1 T (.tup [.int (i : Nat), v])) p1.g pa1 := Fz.upd (gs1.fnone e2)
    exact ⟨_, Gr.alloc gs1 e2, gs1.alloc e2, Rep.tup' upd_same two_line (.cons (.int _) (.cons (rv.mono fu) .nil))⟩
def mEnum (ms : M (List D)) : M (List D) := mbind ms fun ds => match ds with
  | [.lst xs] => mret (enumL xs)
  | _ => mstuck
theorem pmi_enum {elts : List Expr} {kk : Nat} {tpos : Pos} (hg : Gl X "enumerate") (hm : X.mg "enumerate" = none) (ha : PMa X Wx [e] ms) (hs : starEach [e] X.env = [(false, eval e X.env)] := by rfl) : PMi X Wx (.Tuple elts kk tpos) (.Call (.Name "enumerate" p) [e] [] pos) (mEnum ms) := ⟨(pi_enum hg hm ha.pa hs).imp fun σ H R ⟨F, pa, p, ρ, gs, s, o⟩ => by
  refine TMa.of gs s (o.bind.mono fun ds p1 F1 H1 pa1 gr1 gs1 o1 s1 vs rs => ?_)
  split at o1 <;> first | exact o1.elim | skip
  obtain ⟨v, rfl, r⟩ := reps1 rs
  obtain ⟨a, vs, rfl, h, hz, r2⟩ := r.lst_inv
  exact ⟨a, vs, rfl, SqL.of (gs1.sub _ _ h), o1.ret gs1 _ (iter_enum h r2) (by simpa [enumL] using hz)⟩⟩
/-- zip of two lists, of two tuples -/
def zipL (xs ys : List D) : List D := List.zipWith (fun x y => .tup [x, y]) xs ys
theorem zip_item {K : PySem.W.Frag} {F H : Hp} {p : Pst} {pa : Option Addr} {T : Addr} {v w : V} {d e : D} (gs : GS F H pa p) (hT : H T = none) (r1 : Rep K F p.g pa v d) (r2 : Rep K F p.g pa w e) :
    ∃ F', Gr F H p.g pa F' (upd H T (.tup [v, w])) p.g pa ∧ GS F' (upd H T (.tup [v, w])) pa p ∧ Rep K F' p.g pa (.ref T) (.tup [d, e]) :=
  have fu : Fz F p.g pa (upd F T (.tup [v, w])) p.g pa := Fz.upd (gs.fnone hT)
  ⟨_, Gr.alloc gs hT, gs.alloc hT, Rep.tup' upd_same two_line (.cons (r1.mono fu) (.cons (r2.mono fu) .nil))⟩
theorem zipL_get {ds es : List D} {i : Nat} {z : D} (h : (zipL ds es)[i]? = some z) : ∃ d e, ds[i]? = some d ∧ es[i]? = some e ∧ z = .tup [d, e] := by
  unfold zipL at h
  rw [List.getElem?_zipWith] at h
  cases q : ds[i]? with
  | none => rw [q] at h; cases h
  | some d =>
    cases q2 : es[i]? with
    | none => rw [q, q2] at h; cases h
    | some e => rw [q, q2] at h; cases h; exact ⟨d, e, rfl, rfl, rfl⟩
theorem iter_zipL {K : PySem.W.Frag} {F : Hp} {g : Nat} {pa : Option Addr} {a b : Addr} {vs ws : List V} {ds es : List D} (h : F a = some (.lst vs)) (r : Reps K F g pa vs ds) (h' : F b = some (.lst ws)) (r' : Reps K F g pa ws es) : IterOk K F g pa (Itz K a b) (zipL ds es) := by
  intro i F1 H1 pa1 p1 fz gs1
  have h1 : SqL K H1 a vs := SqL.of (gs1.sub _ _ (fz.sub _ _ h))
  have h2 : SqL K H1 b ws := SqL.of (gs1.sub _ _ (fz.sub _ _ h'))
  refine ⟨fun hi => ⟨vs, ws, h1, h2, ?_⟩, fun z hz => ?_⟩
  · simp only [zipL, List.length_zipWith] at hi
    rw [r.1, r'.1]; omega
  · obtain ⟨d, e, q1, q2, rfl⟩ := zipL_get hz
    obtain ⟨v, hv, rv⟩ := (r.mono fz).get q1
    obtain ⟨w, hw, rw'⟩ := (r'.mono fz).get q2
    refine ⟨⟨vs, ws, v, w, h1, h2, hv, hw⟩, fun x H' ⟨T, y1, y2, e1, e2, e3, hx, hy⟩ => ?_⟩
    subst e1 e3
    have t1 := hx vs h1
    rw [hv] at t1
    cases t1
    have t2 := hy ws h2
    rw [hw] at t2
    cases t2
    exact zip_item gs1 e2 rv rw'
theorem iter_zipT {K : PySem.W.Frag} {F : Hp} {g : Nat} {pa : Option Addr} {a b : Addr} {vs ws : List V} {ds es : List D} (h : F a = some (.tup vs)) (r : Reps K F g pa vs ds) (h' : F b = some (.tup ws)) (r' : Reps K F g pa ws es) : IterOk K F g pa (RZ.ItzT K a b) (zipL ds es) := by
  intro i F1 H1 pa1 p1 fz gs1
  have h1 : SqT K H1 a vs := SqT.of (gs1.sub _ _ (fz.sub _ _ h))
  have h2 : SqT K H1 b ws := SqT.of (gs1.sub _ _ (fz.sub _ _ h'))
  refine ⟨fun hi => ⟨vs, ws, h1, h2, ?_⟩, fun z hz => ?_⟩
  · simp only [zipL, List.length_zipWith] at hi
    rw [r.1, r'.1]; omega
  · obtain ⟨d, e, q1, q2, rfl⟩ := zipL_get hz
    obtain ⟨v, hv, rv⟩ := (r.mono fz).get q1
    obtain ⟨w, hw, rw'⟩ := (r'.mono fz).get q2
    refine ⟨⟨vs, ws, v, w, h1, h2, hv, hw⟩, fun x H' ⟨T, y1, y2, e1, e2, e3, hx, hy⟩ => ?_⟩
    subst e1 e3
    have t1 := hx vs h1
    rw [hv] at t1
    cases t1
    have t2 := hy ws h2
    rw [hw] at t2
    cases t2
    exact zip_item gs1 e2 rv rw'
def mZip (ms : M (List D)) : M (List D) := mbind ms fun ds => match ds with
  | [.lst xs, .lst ys] => mret (zipL xs ys)
  | [.tup xs, .tup ys] => mret (zipL xs ys)
  | _ => mstuck
theorem zipL_len (xs ys : List D) : (zipL xs ys).length ≤ xs.length := by
  unfold zipL; rw [List.length_zipWith]; omega
theorem pmi_zip {elts : List Expr} {kk : Nat} {tpos : Pos} (hg : Gl X "zip") (hm : X.mg "zip" = none) (ha : PMa X Wx [a, b] ms) (hs : starEach [a, b] X.env = (false, eval a X.env) :: starEach [b] X.env := by rfl) (hpl : (backTo pos (starEach [b] X.env)).any (·.1) = false := by rfl) :
    PMi X Wx (.Tuple elts kk tpos) (.Call (.Name "zip" p) [a, b] [] pos) (mZip ms) := ⟨(RZ.pi_zipA hg hm ha.pa hs hpl).imp fun σ H R ⟨F, pa, p, ρ, gs, s, o⟩ => by
  refine TMa.of gs s (o.bind.mono fun ds p1 F1 H1 pa1 gr1 gs1 o1 s1 vs rs => ?_)
  split at o1 <;> first | exact o1.elim | skip
  · obtain ⟨v, w, rfl, r1, r2⟩ := reps2 rs
    obtain ⟨a, vs, rfl, h, hz, r3⟩ := r1.lst_inv
    obtain ⟨b, ws, rfl, h', hz', r4⟩ := r2.lst_inv
    exact ⟨a, b, vs, ws, rfl, .inl ⟨SqL.of (gs1.sub _ _ h), SqL.of (gs1.sub _ _ h'), o1.ret gs1 _ (iter_zipL h r3 h' r4) (Nat.le_trans (zipL_len _ _) hz)⟩⟩
  · obtain ⟨v, w, rfl, r1, r2⟩ := reps2 rs
    obtain ⟨a, vs, rfl, h, hz, r3⟩ := r1.tup_inv
    obtain ⟨b, ws, rfl, h', hz', r4⟩ := r2.tup_inv
    exact ⟨a, b, vs, ws, rfl, .inr ⟨SqT.of (gs1.sub _ _ h), SqT.of (gs1.sub _ _ h'), o1.ret gs1 _ (iter_zipT h r3 h' r4) (Nat.le_trans (zipL_len _ _) hz)⟩⟩⟩

/-! ### targets -/
/-- the target's store is f, on slots of vs alone -/
def GOk (K : PySem.W.Frag) (vs : List Nat) (g : TG) (f : D → Sl → Option Sl) : Prop := ∀ (F H : Hp) (gg : Nat) (pa : Option Addr) (x : V) (d : D) (σ : L2.St) (ρ ρ' : Sl) (Q : L2.St → Hp → Prop), (∀ a o, F a = some o → H a = some o) → Rep K F gg pa x d → SRel K F H gg pa σ ρ → f d ρ = some ρ' →
  (∀ σ', SRel K F H gg pa σ' ρ' → σ'.length = σ.length → (∀ j, j ∉ vs → σ'[j]? = σ[j]?) → Q σ' H) → g x σ H Q
theorem SRel.set {K : PySem.W.Frag} {F H : Hp} {g : Nat} {pa : Option Addr} {σ : L2.St} {ρ : Sl} (s : SRel K F H g pa σ ρ) {x : V} {d : D} (r : Rep K F g pa x d) (i : Nat) : SRel K F H g pa (σ.set i (some x)) (ρ.set i (some (.val d))) := by
  refine ⟨by simp [s.len], fun j w h => ?_, fun j k xs ys v h1 h2 h3 h4 => ?_⟩
  · rw [List.getElem?_set] at h ⊢
    by_cases e : i = j
    · subst e
      simp only [if_true] at h ⊢
      by_cases hi : i < ρ.length
      · rw [if_pos hi] at h
        rw [if_pos (by rw [← s.len]; exact hi)]
        cases h
        exact ⟨x, rfl, r⟩
      · rw [if_neg hi] at h; cases h
    · rw [if_neg e] at h ⊢
      exact s.rep j w h
  · rw [List.getElem?_set] at h1 h2 h3 h4
    by_cases e : i = j
    · subst e
      simp only [if_true] at h1
      split at h1 <;> cases h1
    · by_cases e2 : i = k
      · subst e2
        simp only [if_true] at h2
        split at h2 <;> cases h2
      · rw [if_neg e] at h1 h3
        rw [if_neg e2] at h2 h4
        exact s.apart j k xs ys v h1 h2 h3 h4
def fName (i : Nat) : D → Sl → Option Sl := fun d ρ => some (ρ.set i (some (.val d)))
theorem gok_name {K : PySem.W.Frag} {vs : List Nat} {i : Nat} (h : i ∈ vs := by decide) : GOk K vs (gName i) (fName i) := by
  intro F H gg pa x d σ ρ ρ' Q sub r s e k
  cases e
  exact k _ (s.set r i) (by simp) fun j hj => by
    have z : i ≠ j := fun e => hj (e ▸ h)
    exact List.getElem?_set_ne z
/-- several targets -/
def GsOk (K : PySem.W.Frag) (vs : List Nat) (g : TGs) (f : List D → Sl → Option Sl) : Prop := ∀ (F H : Hp) (gg : Nat) (pa : Option Addr) (xs : List V) (ds : List D) (σ : L2.St) (ρ ρ' : Sl) (Q : L2.St → Hp → Prop), (∀ a o, F a = some o → H a = some o) → Reps K F gg pa xs ds → SRel K F H gg pa σ ρ → f ds ρ = some ρ' →
  (∀ σ', SRel K F H gg pa σ' ρ' → σ'.length = σ.length → (∀ j, j ∉ vs → σ'[j]? = σ[j]?) → Q σ' H) → g xs σ H Q
def fNil : List D → Sl → Option Sl := fun ds ρ => match ds with
  | [] => some ρ
  | _ => none
def fCons (f : D → Sl → Option Sl) (fs : List D → Sl → Option Sl) : List D → Sl → Option Sl := fun ds ρ => match ds with
  | d :: r => (f d ρ).bind fun ρ1 => fs r ρ1
  | [] => none
theorem gsok_nil {K : PySem.W.Frag} {vs : List Nat} : GsOk K vs gNil fNil := by
  intro F H gg pa xs ds σ ρ ρ' Q sub r s e k
  cases ds with
  | nil =>
    have hx := List.eq_nil_of_length_eq_zero r.1
    cases e
    exact ⟨hx, k σ s rfl fun _ _ => rfl⟩
  | cons d ds => cases e
theorem gsok_cons {K : PySem.W.Frag} {vs : List Nat} {g : TG} {gs : TGs} {f : D → Sl → Option Sl} {fs : List D → Sl → Option Sl} (h1 : GOk K vs g f) (h2 : GsOk K vs gs fs) : GsOk K vs (gCons g gs) (fCons f fs) := by
  intro F H gg pa xs ds σ ρ ρ' Q sub r s e k
  cases ds with
  | nil => cases e
  | cons d ds =>
    rcases r.cases with ⟨_, z⟩ | ⟨x, y, xs', ys', rfl, z, r1, r2⟩
    · cases z
    · cases z
      simp only [fCons] at e
      cases q : f d ρ with
      | none => rw [q] at e; cases e
      | some ρ1 =>
        rw [q] at e
        refine ⟨x, xs', rfl, h1 F H gg pa x d σ ρ ρ1 _ sub r1 s q fun σ1 s1 l1 n1 => ?_⟩
        exact h2 F H gg pa xs' ds σ1 ρ1 ρ' Q sub r2 s1 e fun σ2 s2 l2 n2 => k σ2 s2 (l2.trans l1) fun j hj => (n2 j hj).trans (n1 j hj)
def fTup (fs : List D → Sl → Option Sl) : D → Sl → Option Sl := fun d ρ => match d with
  | .tup xs => fs xs ρ
  | _ => none
theorem fs_len_cons {f : D → Sl → Option Sl} {fs : List D → Sl → Option Sl} {n : Nat} (h : ∀ ds ρ ρ', fs ds ρ = some ρ' → ds.length = n) : ∀ ds ρ ρ', fCons f fs ds ρ = some ρ' → ds.length = n + 1 := by
  intro ds ρ ρ' e
  cases ds with
  | nil => cases e
  | cons d ds =>
    simp only [fCons] at e
    cases q : f d ρ with
    | none => rw [q] at e; cases e
    | some ρ1 =>
      rw [q] at e
      simp [h ds ρ1 ρ' e]
theorem fs_len_nil : ∀ ds ρ ρ', fNil ds ρ = some ρ' → ds.length = 0 := by
  intro ds ρ ρ' e
  cases ds with
  | nil => rfl
  | cons d ds => cases e
theorem gok_tup {K : PySem.W.Frag} {vs : List Nat} {n : Nat} {g : TGs} {fs : List D → Sl → Option Sl} (h : GsOk K vs g fs) (hn : ∀ ds ρ ρ', fs ds ρ = some ρ' → ds.length = n) : GOk K vs (gTup K n g) (fTup fs) := by
  intro F H gg pa x d σ ρ ρ' Q sub r s e k
  cases d <;> first | (simp [fTup] at e; done) | skip
  simp only [fTup] at e
  obtain ⟨a, ws, rfl, h1, hz, rs⟩ := r.tup_inv
  exact ⟨a, ws, rfl, SqT.of (sub _ _ h1), by rw [rs.1]; exact hn _ _ _ e, h F H gg pa ws _ σ ρ ρ' Q sub rs s e k⟩
end
end PF

namespace PF
open PySem PySem.Spec PyProof.Rows L2

section
variable {X : Cx} {Wx : WX} {a b c e : Expr} {es rest : List Expr} {ma mb mc m : M D} {mo ms mi : M (List D)} {ta tb : M Bool} {pos : Pos} {x : Str} {p : Pos} {tg : Expr}
/-! ### list comprehensions -/
/-- the slots of vs forgotten -/
def wipeS (ρ : Sl) : List Nat → Sl
  | [] => ρ
  | v :: vs => (wipeS ρ vs).set v none
theorem wipeS_len (ρ : Sl) : ∀ vs, (wipeS ρ vs).length = ρ.length
  | [] => rfl
  | v :: vs => by simp [wipeS, wipeS_len ρ vs]
theorem SRel.none {K : PySem.W.Frag} {F H : Hp} {g : Nat} {pa : Option Addr} {σ : L2.St} {ρ : Sl} (s : SRel K F H g pa σ ρ) (i : Nat) : SRel K F H g pa (σ.set i none) (ρ.set i none) := by
  refine ⟨by simp [s.len], fun j w h => ?_, fun j k xs ys v h1 h2 h3 h4 => ?_⟩
  · rw [List.getElem?_set] at h ⊢
    by_cases e : i = j
    · subst e
      simp only [if_true] at h
      split at h <;> cases h
    · rw [if_neg e] at h ⊢
      exact s.rep j w h
  · rw [List.getElem?_set] at h1 h2 h3 h4
    by_cases e : i = j
    · subst e
      simp only [if_true] at h1
      split at h1 <;> cases h1
    · by_cases e2 : i = k
      · subst e2
        simp only [if_true] at h2
        split at h2 <;> cases h2
      · rw [if_neg e] at h1 h3
        rw [if_neg e2] at h2 h4
        exact s.apart j k xs ys v h1 h2 h3 h4
theorem SRel.wipe {K : PySem.W.Frag} {F H : Hp} {g : Nat} {pa : Option Addr} {σ : L2.St} {ρ : Sl} (s : SRel K F H g pa σ ρ) : ∀ vs, SRel K F H g pa (wipe σ vs) (wipeS ρ vs)
  | [] => s
  | v :: vs => (s.wipe vs).none v
theorem wipe_get {σ : L2.St} {j : Nat} : ∀ {vs : List Nat}, j ∈ vs → (wipe σ vs)[j]? = some none ∨ (wipe σ vs)[j]? = none
  | v :: vs, h => by
    unfold wipe
    rw [List.getElem?_set]
    by_cases e : v = j
    · rw [if_pos e]
      split
      · exact .inl rfl
      · exact .inr rfl
    · rw [if_neg e]
      rcases List.mem_cons.mp h with q | q
      · exact absurd q.symm e
      · exact wipe_get q
theorem wipe_out' {σ : L2.St} {j : Nat} : ∀ {vs : List Nat}, j ∉ vs → (wipe σ vs)[j]? = σ[j]?
  | [], _ => rfl
  | v :: vs, h => by
    unfold wipe
    have h1 : v ≠ j := fun e => h (e ▸ List.mem_cons_self)
    rw [List.getElem?_set_ne h1]
    exact wipe_out' fun q => h (List.mem_cons_of_mem _ q)
theorem wipe_eq {σ σ' : L2.St} {vs : List Nat} (hl : σ'.length = σ.length) (h : ∀ j, j ∉ vs → σ'[j]? = (wipe σ vs)[j]?) : wipe σ' vs = wipe σ vs := by
  apply List.ext_getElem?
  intro j
  by_cases hj : j ∈ vs
  · by_cases hlt : j < σ.length
    · rcases wipe_get (σ := σ') hj with q | q
      · rcases wipe_get (σ := σ) hj with q2 | q2
        · rw [q, q2]
        · have := List.getElem?_eq_none_iff.mp q2
          rw [wipe_length] at this
          omega
      · have := List.getElem?_eq_none_iff.mp q
        rw [wipe_length] at this
        omega
    · rw [List.getElem?_eq_none (by rw [wipe_length]; omega), List.getElem?_eq_none (by rw [wipe_length]; omega)]
  · rw [wipe_out' hj, h j hj]
/-- the block, item by item -/
def lcGo (f : D → Sl → Option Sl) (tt : M Bool) (el : M D) : List D → M (List D)
  | [] => mret []
  | x :: xs => fun ρ p => match f x ρ with
    | some ρ1 => (match tt ρ1 p with
      | .ok true p1 => (match el ρ1 p1 with
        | .ok y p2 => (match lcGo f tt el xs ρ p2 with
          | .ok ys p3 => .ok (y :: ys) p3
          | _ => .stuck)
        | _ => .stuck)
      | .ok false p1 => lcGo f tt el xs ρ p1
      | _ => .stuck)
    | none => .stuck
def mLc (vs : List Nat) (mi : M (List D)) (f : D → Sl → Option Sl) (tt : M Bool) (el : M D) : M (List D) := mbind mi fun items ρ p => match lcGo f tt el items (wipeS ρ vs) p with
  | .ok ys p' => .ok ys p'
  | _ => .stuck
/-- inside a comprehension nothing is raised -/
abbrev W0 : WX := fun _ _ _ _ => False
def mYes : M Bool := mret true
structure PMts (X : Cx) (Wx : WX) (es : List Expr) (m : M Bool) : Prop where
  pt : PTs X es (TMt X.K X.mg Wx m)
theorem pmts_nil : PMts X Wx [] mYes := ⟨⟨fun pins s σ H Q I ⟨F, pa, p, ρ, gs, sr, o⟩ => pts_nil.run pins s σ H Q I (o.ret gs)⟩⟩
theorem pmts_one (h : PMt X Wx e ta) : PMts X Wx [e] ta := ⟨pts_one h.pt⟩
theorem lc_inv {K : PySem.W.Frag} {mg : Str → Option Value} {f : D → Sl → Option Sl} {tt : M Bool} {el : M D} {g : TG} {vs : List Nat} {items all : List D} {σ : L2.St} {ρ : Sl} {F0 H0 F1 H1 : Hp} {g0 : Nat} {pa0 pa1 : Option Addr} {p1 pend : Pst} {J : It} {Q : VK} {Dd : Addr}
    (hg : GOk K vs g f) (gr1 : Gr F0 H0 g0 pa0 F1 H1 p1.g pa1) (gs1 : GS F1 H1 pa1 p1) (s1 : SRel K F1 H1 p1.g pa1 σ ρ) (ij : IterOk K F1 p1.g pa1 J items) (hz : items.length ≤ sizeLine) (hD : H1 Dd = none)
    (e : lcGo f tt el items (wipeS ρ vs) p1 = .ok all pend)
    (k : ∀ F' H' pa' ws, Gr F0 H0 g0 pa0 F' H' pend.g pa' → GS F' H' pa' pend → H' Dd = some (.lst ws) → F' Dd = none → pa' ≠ some Dd → all.length ≤ sizeLine → Reps K F' pend.g pa' ws all → Q (.ref Dd) H') :
    ∃ W : Nat → Nat → Hp → Prop, (∃ m, W 0 m (upd H1 Dd (.lst []))) ∧ ∀ i m H, W i m H →
      (J.stop i H ∧ Q (.ref Dd) H) ∨ (J.go i H ∧ ∃ Nx : Hp → Prop, (∀ H', Nx H' → ∃ m', m' < m ∧ W (i + 1) m' H') ∧ ∀ x H', J.yld i H x H' → g x (wipe σ vs) H' fun σ2 H2 => wipe σ2 vs = wipe σ vs ∧ TMt K mg W0 tt σ2 H2 fun b H3 =>
        if b = true then TM K mg W0 el σ2 H3 fun y H4 => ∃ acc, H4 Dd = some (.lst acc) ∧ acc.length < sizeLine ∧ Nx (upd H4 Dd (.lst (acc ++ [y]))) else Nx H3) := by
  refine ⟨fun i m H => m = items.length - i ∧ i ≤ items.length ∧ ∃ F pa p acc ds ys, Gr F0 H0 g0 pa0 F H p.g pa ∧ Fz F1 p1.g pa1 F p.g pa ∧ GS F H pa p ∧ SRel K F H p.g pa (wipe σ vs) (wipeS ρ vs) ∧ H Dd = some (.lst acc) ∧ F Dd = none ∧ pa ≠ some Dd ∧ ds.length ≤ i ∧ Reps K F p.g pa acc ds ∧
      lcGo f tt el (items.drop i) (wipeS ρ vs) p = .ok ys pend ∧ ds ++ ys = all, ⟨items.length, by simp, Nat.zero_le _, F1, pa1, p1, [], [], all, gr1.trans (Gr.allocO hD), .refl, gs1.allocO hD, (s1.wipe vs).grow (Gr.allocO hD), upd_same, gs1.fnone hD, gs1.pne hD, Nat.le_refl _, .nil, by simpa using e, rfl⟩, ?_⟩
  rintro i m H ⟨rfl, hi, F, pa, p, acc, ds, ys, gr, fz, gs, sr, hH, hF, hp, hl, rs, el1, ea⟩
  obtain ⟨stop, go⟩ := ij i F H pa p fz gs
  by_cases hlt : i < items.length
  · -- a turn
    have hd : items[i]? = some items[i] := by simp [hlt]
    obtain ⟨hgo, hy⟩ := go _ hd
    have ed : items.drop i = items[i] :: items.drop (i + 1) := List.drop_eq_getElem_cons hlt
    rw [ed] at el1
    simp only [lcGo] at el1
    have hzd : ds.length < sizeLine := by omega
    cases q : f items[i] (wipeS ρ vs) with
    | none => rw [q] at el1; cases el1
    | some ρ1 =>
      rw [q] at el1
      simp only at el1
      refine .inr ⟨hgo, fun H' => ∃ F' pa' p' acc' ds' ys', Gr F0 H0 g0 pa0 F' H' p'.g pa' ∧ Fz F1 p1.g pa1 F' p'.g pa' ∧ GS F' H' pa' p' ∧ SRel K F' H' p'.g pa' (wipe σ vs) (wipeS ρ vs) ∧ H' Dd = some (.lst acc') ∧ F' Dd = none ∧ pa' ≠ some Dd ∧ ds'.length ≤ i + 1 ∧ Reps K F' p'.g pa' acc' ds' ∧
          lcGo f tt el (items.drop (i + 1)) (wipeS ρ vs) p' = .ok ys' pend ∧ ds' ++ ys' = all, fun H' n => ⟨items.length - (i + 1), by omega, rfl, hlt, n⟩, fun xv H' yl => ?_⟩
      obtain ⟨F2, gr2, gs2, r2⟩ := hy xv H' yl
      have sr2 := sr.grow gr2
      have hne : ∀ {F3 H3 : Hp} {p3 : Pst} {pa3 : Option Addr}, Gr F H p.g pa F3 H3 p3.g pa3 → H3 Dd = some (.lst acc) ∧ F3 Dd = none ∧ pa3 ≠ some Dd := fun {F3 H3 p3 pa3} gr3 => by
        refine ⟨gr3.keep _ _ hH hp, ?_, fun z => ?_⟩
        · cases q3 : F3 Dd with
          | none => rfl
          | some o =>
            rcases gr3.new _ _ q3 with z | z
            · rw [hF] at z; cases z
            · rw [hH] at z; cases z
        · rcases gr3.pot with z2 | ⟨b, z2, hb⟩
          · exact hp (by rw [← z2]; exact z)
          · rw [z2] at z; cases z; rw [hH] at hb; cases hb
      refine hg F2 H' _ _ xv _ _ _ ρ1 _ gs2.sub r2 sr2 q fun σ2 sr3 hl2 hn => ?_
      refine ⟨wipe_eq (by rw [hl2, wipe_length]) hn, F2, pa, p, ρ1, gs2, sr3, ?_⟩
      cases qt : tt ρ1 p with
      | stuck => rw [qt] at el1; cases el1
      | exc x' p' => rw [qt] at el1; cases el1
      | ok b p3 =>
        rw [qt] at el1
        intro F3 H3 pa3 gr3 gs3
        cases b with
        | false =>
          simp only [Bool.false_eq_true, if_false] at el1 ⊢
          have gr5 := gr2.trans gr3
          obtain ⟨n1, n2, n3⟩ := hne gr5
          exact ⟨F3, pa3, p3, acc, ds, ys, gr.trans gr5, fz.trans gr5.fz, gs3, sr.grow gr5, n1, n2, n3, Nat.le_succ_of_le hl, rs.mono gr5.fz, el1, ea⟩
        | true =>
          simp only [if_true] at el1 ⊢
          refine ⟨F3, pa3, p3, ρ1, gs3, sr3.grow gr3, ?_⟩
          cases qe : el ρ1 p3 with
          | stuck => rw [qe] at el1; cases el1
          | exc x' p' => rw [qe] at el1; cases el1
          | ok y p4 =>
            rw [qe] at el1
            simp only at el1
            intro F4 H4 pa4 gr4 gs4 yv ry
            have gr5 := (gr2.trans gr3).trans gr4
            obtain ⟨n1, n2, n3⟩ := hne gr5
            have rs4 := rs.mono gr5.fz
            cases ql : lcGo f tt el (items.drop (i + 1)) (wipeS ρ vs) p4 with
            | stuck => rw [ql] at el1; cases el1
            | exc x' p' => rw [ql] at el1; cases el1
            | ok zs p5 =>
              rw [ql] at el1
              simp only [Res.ok.injEq] at el1
              obtain ⟨e1, e2⟩ := el1
              subst e1 e2
              have gs5 : GS F4 (upd H4 Dd (.lst (acc ++ [yv]))) pa4 p4 := by
                refine ⟨fun a u h => ?_, fun a e => ?_⟩
                · rw [upd_ne fun z => ?_]; exact gs4.sub a u h
                  subst z; rw [n2] at h; cases h
                · have ha : a ≠ Dd := fun z => n3 (by rw [← z]; exact e)
                  rw [upd_ne ha]; exact gs4.pot a e
              have grA : Gr F0 H0 g0 pa0 F4 H4 p4.g pa4 := gr.trans gr5
              have hD0 : H0 Dd = none := gr1.free0 hD
              have grB : Gr F0 H0 g0 pa0 F4 (upd H4 Dd (.lst (acc ++ [yv]))) p4.g pa4 := by
                refine ⟨grA.fz, grA.new, fun a o h1 h2 => ?_, fun a o h1 => ?_, grA.pot⟩
                · rw [upd_ne (ne_of_none h1 hD0)]; exact grA.keep a o h1 h2
                · rw [upd_ne (ne_of_none h1 hD0)]; exact grA.there a o h1
              have srB : SRel K F4 (upd H4 Dd (.lst (acc ++ [yv]))) p4.g pa4 (wipe σ vs) (wipeS ρ vs) := by
                have sr5 := sr.grow gr5
                refine ⟨sr5.len, fun j w h => ?_, sr5.apart⟩
                obtain ⟨v, e, r⟩ := sr5.rep j w h
                refine ⟨v, e, ?_⟩
                cases w with
                | val d => exact r
                | own xs =>
                  obtain ⟨a, vs', z1, z2, z3, z4, z5, z6⟩ := r
                  refine ⟨a, vs', z1, ?_, z3, z4, z5, z6⟩
                  rw [upd_ne fun z => ?_]; exact z2
                  -- an own list of the frame is older than the block's
                  obtain ⟨v1, e1, r1⟩ := (s1.wipe vs).rep j _ h
                  obtain ⟨a1, vs1, y1, y2, _⟩ := r1
                  rw [e] at e1
                  cases e1
                  rw [z1] at y1
                  cases y1
                  rw [z, hD] at y2; cases y2
              exact ⟨acc, n1, by rw [rs4.1]; omega, F4, pa4, p4, acc ++ [yv], ds ++ [y], zs, grB, fz.trans gr5.fz, gs5, srB, upd_same, n2, n3, by simp; omega, rs4.append (.cons ry .nil), ql, by rw [← ea]; simp⟩
  · have e0 : items.drop i = [] := List.drop_eq_nil_of_le (by omega)
    rw [e0] at el1
    cases el1
    rw [List.append_nil] at ea
    subst ea
    exact .inl ⟨stop (by omega), k F H pa acc gr gs hH hF hp (by omega) rs⟩
theorem lc_out {K : PySem.W.Frag} {mg : Str → Option Value} {f : D → Sl → Option Sl} {tt : M Bool} {el : M D} {g : TG} {vs : List Nat} (hg : GOk K vs g f) : ∀ σ H Q, TMo K mg Wx (mLc vs mi f tt el) σ H Q → tLc (TMi K mg Wx mi) g (TMt K mg W0 tt) (TM K mg W0 el) vs σ H Q := by
  intro σ H Q ⟨F, pa, p, ρ, gs, s, o⟩
  refine ⟨F, pa, p, ρ, gs, s, (Out.bindS .refl o).mono fun items p1 F1 H1 pa1 gr gs1 ⟨gr1, o1⟩ J ij hz Dd hD => ?_⟩
  cases e : lcGo f tt el items (wipeS ρ vs) p1 with
  | stuck => simp only [e] at o1; exact o1.elim
  | exc x' p' => simp only [e] at o1; exact o1.elim
  | ok all pend =>
    simp only [e] at o1
    exact lc_inv hg gr1 gs1 (s.grow gr1) ij hz hD e fun F' H' pa' ws gr' gs' h1 h2 h3 h4 h5 => o1 F' H' pa' gr' gs' Dd ws (gr1.free0 hD) h1 h2 h3 h4 h5
theorem pmo_lc {f : D → Sl → Option Sl} {tt : M Bool} {el : M D} {g : TG} {elt iter : Expr} {ifs : List Expr} {scope : Scope} {own : List (Str × Nat)} (hc : X.calm = true) (hN : X.N.Nodup) (hi : PMi X Wx tg iter mi) (ok : BlkOk X.N X.env.scope scope own)
    (hg : ∀ (s : Shared) (H : Hp) (C : Addr) (cl : List (Str × Addr)) (fp : List Addr), PG (X.blk s H scope (compEnvC scope cl C X.env) fp) tg g) (hf : GOk X.K (own.map (·.2)) g f)
    (ht : ∀ (s : Shared) (H : Hp) (C : Addr) (cl : List (Str × Addr)) (fp : List Addr), PMts (X.blk s H scope (compEnvC scope cl C X.env) fp) W0 ifs tt)
    (he : ∀ (s : Shared) (H : Hp) (C : Addr) (cl : List (Str × Addr)) (fp : List Addr), PM (X.blk s H scope (compEnvC scope cl C X.env) fp) W0 elt el) (hs : ∀ x, foldedSetIterable iter X.env x = pure x := by intro _; rfl) :
    PMo X Wx (.ListComp elt [⟨tg, iter, ifs, 0⟩] scope pos) (mLc (own.map (·.2)) mi f tt el) :=
  ⟨(pe_lc hc hN hi.pi ok hg (fun s H C cl fp => (ht s H C cl fp).pt) (fun s H C cl fp => (he s H C cl fp).pe) hs).imp (lc_out hf)⟩
end
end PF

namespace PF
open PySem PySem.Spec PyProof.Rows L2

/-! ### functions -/
inductive FRes where
  | ok (d : D) (fr : Bool) (p : Pst) | exc (x : Ex) (p : Pst) | stuck
abbrev Fn := List D → Pst → FRes
/-- a def's result: fr: a fresh list -/
def ResRep (K : PySem.W.Frag) (F' H H' : Hp) (g : Nat) (pa : Option Addr) : Bool → V → D → Prop
  | false, v, d => Rep K F' g pa v d
  | true, v, d => ∃ a vs ds, v = .ref a ∧ d = .lst ds ∧ H a = none ∧ H' a = some (.lst vs) ∧ F' a = none ∧ pa ≠ some a ∧ ds.length ≤ sizeLine ∧ Reps K F' g pa vs ds
def FOut (K : PySem.W.Frag) (mg : Str → Option Value) (F H : Hp) (g : Nat) (pa : Option Addr) (Q : VK) (E : XK) : FRes → Prop
  | .ok d fr p' => ∀ v F' H' pa', Gr F H g pa F' H' p'.g pa' → GS F' H' pa' p' → ResRep K F' H H' p'.g pa' fr v d → Q v H'
  | .exc x p' => ∀ cls dd F' H' pa', Gr F H g pa F' H' p'.g pa' → GS F' H' pa' p' → ExRep K mg F' p'.g pa' cls dd x → E cls dd H'
  | .stuck => False
structure FnM (P : Program) (w : World) (K : PySem.W.Frag) (mg : Str → Option Value) (base : Heap) (k : Nat) (f : Addr) (fd : FuncData) (ps : List Str) (G : Fn) : Prop where
  len : ∀ ds p, G ds p ≠ .stuck → ds.length = ps.length
  run : ∀ (A : Around) (outer : List Env) (s : Shared) (H : Hp) (args : Args) (us : List Value) (vs : List V) (ds : List D) (F : Hp) (pa : Option Addr) (p : Pst) (Q : VK) (E : XK), Room k A → A.guards = some [] → Env0 P w K mg base A outer s H → BindsTo s fd args (ps.zip us) → Vals vs us →
    GS F H pa p → Reps K F p.g pa vs ds → FOut K mg F H p.g pa Q E (G ds p) → codeAny (model P w) A (.call (.ref f) args) (CR (L2.CX P w) outer P w H s Q E) s
/-- the def that the module's name x stands for -/
structure FnX (P : Program) (w : World) (K : PySem.W.Frag) (mg : Str → Option Value) (base : Heap) (x : Str) (params : Arguments) (k : Nat) (ps : List Str) (G : Fn) : Prop where
  ex : ∃ (f : Addr) (fd : FuncData), mg x = some (.ref f) ∧ PySem.W.keepIn K (.ref f) = true ∧ (∃ (body : List Stmt) (scope : Scope) (kV doc pm : Value) (an : Option Addr) (cdv ct : Value), fd = PySem.W.fnOf x x params body scope .none kV doc pm an cdv ct) ∧ FnM P w K mg base k f fd ps G
/-- the values at the places ix -/
def permL {α : Type} (ix : List Nat) (l : List α) : List α := ix.filterMap fun i => l[i]?
theorem permL_rep {α β : Type} {R : α → β → Prop} {xs : List α} {ys : List β} (r : AllR R xs ys) : ∀ ix, AllR R (permL ix xs) (permL ix ys)
  | [] => .nil
  | i :: ix => by
    have ih := permL_rep r ix
    unfold permL at ih ⊢
    simp only [List.filterMap_cons]
    cases q : xs[i]? with
    | none =>
      have : ys[i]? = none := by
        rw [List.getElem?_eq_none_iff] at q ⊢
        rw [← r.1]; exact q
      rw [this]
      exact ih
    | some v =>
      obtain ⟨d, hd, rv⟩ := r.get' q
      rw [hd]
      exact .cons rv ih
theorem permL_vals {xs : List V} {us : List Value} (r : Vals xs us) : ∀ ix, Vals (permL ix xs) (permL ix us)
  | [] => .nil
  | i :: ix => by
    have ih := permL_vals r ix
    unfold permL at ih ⊢
    simp only [List.filterMap_cons]
    cases q : xs[i]? with
    | none => rw [r.none_of q]; exact ih
    | some v =>
      obtain ⟨u, hu, ru⟩ := r.get q
      rw [hu]
      exact .cons ru ih
/-- how a call's arguments are bound: n positional ones, the keywords ks; ix: their places, parameter by parameter -/
def Bd (x : Str) (params : Arguments) (ps : List Str) (n : Nat) (ks : List Str) (ix : List Nat) : Prop := ∀ (body : List Stmt) (scope : Scope) (kV doc pm : Value) (an : Option Addr) (cdv ct : Value) (us ws : List Value), us.length = n → ws.length = ks.length →
  bindArgs (PySem.W.fnOf x x params body scope .none kV doc pm an cdv ct) ⟨us, ks.zip ws⟩ = pure (ps.zip (permL ix (us ++ ws)))

section
variable {X : Cx} {Wx : WX} {a b c e : Expr} {es rest : List Expr} {ma mb mc m : M D} {mo ms mk mi : M (List D)} {ta tb : M Bool} {pos : Pos} {x : Str} {p : Pos} {tg : Expr} {params : Arguments} {k : Nat} {ps ks : List Str} {ix : List Nat} {n : Nat} {G : Fn} {kws : List Keyword}
/-- keywords' values -/
structure PMk (X : Cx) (Wx : WX) (kws : List Keyword) (m : M (List D)) : Prop where
  pk : PK X kws (TMa X.K X.mg Wx m)
theorem _root_.L2.PK.imp {X : Cx} {e : List Keyword} {t t' : TA} (h : PK X e t) (f : ∀ σ H Q, t' σ H Q → t σ H Q) : PK X e t' := ⟨fun pos pins s σ H Q I q => h.run pos pins s σ H Q I (f σ H Q q)⟩
theorem pmk_nil : PMk X Wx [] (mret []) := ⟨pk_nil.imp fun σ H Q ⟨F, pa, p, ρ, gs, s, o⟩ => o.ret gs _ .nil⟩
theorem pmk_cons {nm : Option Str} {kpos : Pos} (ha : PM X Wx e ma) (hr : PMk X Wx kws ms) : PMk X Wx (⟨nm, e, kpos⟩ :: kws) (mcons ma ms) := ⟨(pk_cons ha.pe hr.pk).imp fun σ H Q ⟨F, pa, p, ρ, gs, s, o⟩ => by
  refine TM.of gs s (o.bind.mono fun d p1 F1 H1 pa1 gr1 gs1 o1 s1 v1 r1 => ?_)
  refine TMa.of gs1 s1 (o1.bind.mono fun ds p2 F2 H2 pa2 gr2 gs2 o2 s2 vs2 rs2 => ?_)
  exact o2.ret gs2 _ (.cons (r1.mono gr2.fz) rs2)⟩
/-- the callee runs; fr: what is made of its result -/
theorem run_fnM {f : Addr} {fd : FuncData} {pins : List (Addr × Obj)} {σ : L2.St} {H : Hp} {s : Shared} {Q : VK} {us : List Value} {vs : List V} {ds : List D} {F : Hp} {pa : Option Addr} {p : Pst} {args : Args} {E : XK} (Fm : FnM X.prog X.w X.K X.mg X.base k f fd ps G) (hr : Room k X.A) (hgd : X.A.guards = some []) (tk : Takes X Wx)
    (hb : BindsTo s fd args (ps.zip us)) (I : Inv X pins σ H s) (r : Vals vs us) (gs : GS F H pa p) (rs : Reps X.K F p.g pa vs ds) (hE : ∀ cls d H', E cls d H' → Wx cls d σ H') (o : FOut X.K X.mg F H p.g pa Q E (G ds p)) :
    codeAny (model X.prog X.w) X.A (.call (.ref f) args) (fun r s' => match r with
      | .ok (.ret u) => EP X pins σ Q u s'
      | .ok _ => False
      | .error e => X.xe e s') s := by
  refine codeAny_mono (Fm.run X.A X.stack s H args us vs ds F pa p Q E hr hgd I.env0 hb r gs rs o) fun r s' hq => ?_
  cases r with
  | error e => exact tk e s' (XE.of_call I hE hq)
  | ok fl =>
    cases fl with
    | ret u => exact I.after hq
    | next => exact False.elim hq
    | brk => exact False.elim hq
    | cont => exact False.elim hq
def outFn {α : Type} (f : D → Bool → Option α) : FRes → Res α
  | .ok d fr p' => (match f d fr with
    | some a => .ok a p'
    | none => .stuck)
  | .exc x p' => .exc x p'
  | .stuck => .stuck
/-- f(..): ms the positional arguments, mk the keywords' -/
def mFn (G : Fn) (n m : Nat) (ix : List Nat) (ms mk : M (List D)) : M D := mbind ms fun ds => mbind mk fun es _ p => if ds.length = n ∧ es.length = m then outFn (fun d _ => some d) (G (permL ix (ds ++ es)) p) else .stuck
def frOf (d : D) (fr : Bool) : Option (List D) := match d, fr with
  | .lst ds, true => some ds
  | _, _ => none
def mFno (G : Fn) (n m : Nat) (ix : List Nat) (ms mk : M (List D)) : M (List D) := mbind ms fun ds => mbind mk fun es _ p => if ds.length = n ∧ es.length = m then outFn frOf (G (permL ix (ds ++ es)) p) else .stuck
theorem AllR.len_perm {α β : Type} {R : α → β → Prop} {xs : List α} {ys : List β} (r : AllR R xs ys) (ix : List Nat) : (permL ix xs).length = (permL ix ys).length := (permL_rep r ix).1
/-- the common part of all forms of a call -/
theorem call_core {pins : List (Addr × Obj)} {s : Shared} {σ : L2.St} {H : Hp} {Q : VK} {f : Addr} {fd : FuncData} {us ws : List Value} {vs zs : List V} {ds es : List D} {F : Hp} {pa : Option Addr} {p : Pst} {E : XK}
    (hfd : ∃ (body : List Stmt) (scope : Scope) (kV doc pm : Value) (an : Option Addr) (cdv ct : Value), fd = PySem.W.fnOf x x params body scope .none kV doc pm an cdv ct) (Fm : FnM X.prog X.w X.K X.mg X.base k f fd ps G) (hr : Room k X.A) (hgd : X.A.guards = some []) (tk : Takes X Wx)
    (hb : Bd x params ps n ks ix) (hn : us.length = n) (hm : ws.length = ks.length) (I : Inv X pins σ H s) (r : Vals vs us) (rz : Vals zs ws) (gs : GS F H pa p) (rs : Reps X.K F p.g pa vs ds) (rz' : Reps X.K F p.g pa zs es)
    (hE : ∀ cls d H', E cls d H' → Wx cls d σ H') (o : FOut X.K X.mg F H p.g pa Q E (G (permL ix (ds ++ es)) p)) : wpAny (model X.prog X.w) X.A (call (.ref f) us (ks.zip ws)) (EP X pins σ Q) X.xe s := by
  obtain ⟨body, scope, kV, doc, pm, an, cdv, ct, rfl⟩ := hfd
  have hbt : BindsTo s (PySem.W.fnOf x x params body scope .none kV doc pm an cdv ct) ⟨us, ks.zip ws⟩ (ps.zip (permL ix (us ++ ws))) := .of_eq (hb _ _ _ _ _ _ _ _ us ws hn hm)
  exact wpAny_call (codeAny_mono (run_fnM Fm hr hgd tk hbt I (permL_vals (r.append rz) ix) gs (permL_rep (rs.append rz') ix) hE o) fun r s' h => by
    cases r with
    | error e => exact h
    | ok fl =>
      cases fl with
      | ret u => exact h
      | next => exact h
      | brk => exact h
      | cont => exact h)
theorem fout_val {K : PySem.W.Frag} {mg : Str → Option Value} {σ : L2.St} {F H F0 H0 : Hp} {pa pa0 : Option Addr} {g0 : Nat} {p : Pst} {Q : VK} {r : FRes} (gr : Gr F0 H0 g0 pa0 F H p.g pa)
    (o : Out K mg Wx σ F0 H0 g0 pa0 (fun d p' F' H' pa' => ∀ v, Rep K F' p'.g pa' v d → Q v H') (outFn (fun d _ => some d) r)) : FOut K mg F H p.g pa Q (fun cls dd H' => Wx cls dd σ H') r := by
  cases r with
  | stuck => exact o
  | exc x p' => exact fun cls dd F' H' pa' gr' gs' r => o cls dd F' H' pa' (gr.trans gr') gs' r
  | ok d fr p' =>
    intro v F' H' pa' gr' gs' rr
    cases fr with
    | false => exact o F' H' pa' (gr.trans gr') gs' v rr
    | true =>
      obtain ⟨a, vs, ds, rfl, rfl, h1, h2, h3, h4, h5, h6⟩ := rr
      have gr2 := (gr.trans gr')
      have h0 : H0 a = none := gr.free0 h1
      exact o _ H' pa' (gr2.freeze h0 h3) (gs'.freeze h2 h4) _ (Rep.lst' upd_same h5 (h6.mono (Fz.upd h3)))
theorem fout_o {K : PySem.W.Frag} {mg : Str → Option Value} {σ : L2.St} {F H F0 H0 : Hp} {pa pa0 : Option Addr} {g0 : Nat} {p : Pst} {Q : VK} {r : FRes} (gr : Gr F0 H0 g0 pa0 F H p.g pa)
    (o : Out K mg Wx σ F0 H0 g0 pa0 (fun ds p' F' H' pa' => ∀ a vs, H0 a = none → H' a = some (.lst vs) → F' a = none → pa' ≠ some a → ds.length ≤ sizeLine → Reps K F' p'.g pa' vs ds → Q (.ref a) H') (outFn frOf r)) : FOut K mg F H p.g pa Q (fun cls dd H' => Wx cls dd σ H') r := by
  cases r with
  | stuck => exact o
  | exc x p' => exact fun cls dd F' H' pa' gr' gs' r => o cls dd F' H' pa' (gr.trans gr') gs' r
  | ok d fr p' =>
    intro v F' H' pa' gr' gs' rr
    cases fr with
    | false => cases d <;> exact o.elim
    | true =>
      obtain ⟨a, vs, ds, rfl, rfl, h1, h2, h3, h4, h5, h6⟩ := rr
      exact o F' H' pa' (gr.trans gr') gs' a vs (gr.free0 h1) h2 h3 h4 h5 h6
/-- where the arguments have come: one transformer for both kinds of results -/
def tFn (n m : Nat) (ta tk : TA) (R : List V → List V → Hp → VK → Prop) : TE := fun σ H Q => ta σ H fun vs H1 => tk σ H1 fun zs H2 => vs.length = n ∧ zs.length = m ∧ R vs zs H2 Q
def FR (X : Cx) (Wx : WX) (G : Fn) (ix : List Nat) (σ : L2.St) : List V → List V → Hp → VK → Prop := fun vs zs H Q => ∃ F pa p ds es, GS F H pa p ∧ Reps X.K F p.g pa vs ds ∧ Reps X.K F p.g pa zs es ∧ FOut X.K X.mg F H p.g pa Q (fun cls dd H' => Wx cls dd σ H') (G (permL ix (ds ++ es)) p)
def tFnX (X : Cx) (Wx : WX) (G : Fn) (ix : List Nat) (n m : Nat) (ta tk : TA) : TE := fun σ H Q => tFn n m ta tk (FR X Wx G ix σ) σ H Q
theorem fr_run {pins : List (Addr × Obj)} {s : Shared} {σ : L2.St} {H : Hp} {Q : VK} {f : Addr} {fd : FuncData} {us ws : List Value} {vs zs : List V}
    (hfd : ∃ (body : List Stmt) (scope : Scope) (kV doc pm : Value) (an : Option Addr) (cdv ct : Value), fd = PySem.W.fnOf x x params body scope .none kV doc pm an cdv ct) (Fm : FnM X.prog X.w X.K X.mg X.base k f fd ps G) (hr : Room k X.A) (hgd : X.A.guards = some []) (tk : Takes X Wx)
    (hb : Bd x params ps n ks ix) (I : Inv X pins σ H s) (r : Vals vs us) (rz : Vals zs ws) (hn : vs.length = n) (hm : zs.length = ks.length) (h : FR X Wx G ix σ vs zs H Q) : wpAny (model X.prog X.w) X.A (call (.ref f) us (ks.zip ws)) (EP X pins σ Q) X.xe s := by
  obtain ⟨F, pa, p, ds, es, gs, rs, rz', o⟩ := h
  exact call_core hfd Fm hr hgd tk hb (by rw [← r.length]; exact hn) (by rw [← rz.length]; exact hm) I r rz gs rs rz' (fun _ _ _ h => h) o
theorem pe_fn1 (Fx : FnX X.prog X.w X.K X.mg X.base x params k ps G) (hr : Room k X.A) (hgd : X.A.guards = some []) (tk : Takes X Wx) (hb : Bd x params ps n [] ix) (hg : Gl X x) {t : TA} (ha : PA X (e :: es) t) (hdb : (x == ("__debug__" : Str)) = false := by decide)
    (he : starEach (e :: es) X.env = (false, eval e X.env) :: starEach es X.env := by rfl) (hpl : (backTo pos (starEach es X.env)).any (·.1) = false := by rfl) : PE X (.Call (.Name x p) (e :: es) [] pos) (tFnX X Wx G ix n 0 t tNil) := by
  obtain ⟨f, fd, hm, hk, hfd, Fm⟩ := Fx.ex
  refine ⟨fun pins s σ H Q I h => ?_⟩
  refine wpAny_Call_Name_kw (ld_glob I hg hm ?_ hdb)
  refine PySem.W.callWith_K (h₀ := X.base) I.ok.mod.kin hk (thn (ha.run pos pins s σ H _ I h) fun us s1 ⟨vs, H1, I1, r, h1, h2, q⟩ => ⟨I1.kIn, ?_⟩) he hpl
  exact fr_run (ks := []) (ws := []) hfd Fm hr hgd tk hb I1 r .nil h1 rfl q
theorem pe_fn0 (Fx : FnX X.prog X.w X.K X.mg X.base x params k ps G) (hr : Room k X.A) (hgd : X.A.guards = some []) (tk : Takes X Wx) (hb : Bd x params ps 0 [] ix) (hg : Gl X x) (hdb : (x == ("__debug__" : Str)) = false := by decide) : PE X (.Call (.Name x p) [] [] pos) (tFnX X Wx G ix 0 0 tNil tNil) := by
  obtain ⟨f, fd, hm, hk, hfd, Fm⟩ := Fx.ex
  refine ⟨fun pins s σ H Q I h => ?_⟩
  refine wpAny_Call_Name_kw (ld_glob I hg hm ?_ hdb)
  exact PySem.W.callWith_K0 I.kIn hk (fr_run (ks := []) (ws := []) (us := []) hfd Fm hr hgd tk hb I .nil .nil rfl rfl h.2.2)
theorem pe_fnk (Fx : FnX X.prog X.w X.K X.mg X.base x params k ps G) (hr : Room k X.A) (hgd : X.A.guards = some []) (tk : Takes X Wx) (hb : Bd x params ps n ks ix) (hg : Gl X x) {t t2 : TA} (ha : PA X (e :: es) t) (hkw : PK X kws t2)
    (hall : (backToKw pos (keywordEach kws X.env)).all (·.1.isSome) = true := by rfl) (hks : (backToKw pos (keywordEach kws X.env)).filterMap (·.1) = ks := by rfl) (hdb : (x == ("__debug__" : Str)) = false := by decide) (he : starEach (e :: es) X.env = (false, eval e X.env) :: starEach es X.env := by rfl)
    (hpl : ((backTo pos (starEach (e :: es) X.env)).any (·.1) || (backToKw pos (keywordEach kws X.env)).any (·.1.isNone)) = false := by rfl) : PE X (.Call (.Name x p) (e :: es) kws pos) (tFnX X Wx G ix n ks.length t t2) := by
  obtain ⟨f, fd, hm, hk, hfd, Fm⟩ := Fx.ex
  refine ⟨fun pins s σ H Q I h => ?_⟩
  refine wpAny_Call_Name_kw (ld_glob I hg hm ?_ hdb)
  refine PySem.W.callWith_KW (h₀ := X.base) I.ok.mod.kin hk hall (thn (ha.run pos pins s σ H _ I h) fun us s1 ⟨vs, H1, I1, r, q⟩ => ?_) hpl he
  refine thn (hkw.run pos pins s1 σ H1 _ I1 q) fun ws s2 ⟨zs, H2, I2, rz, h1, h2, q2⟩ => ⟨I2.kIn, ?_⟩
  rw [hks]
  exact fr_run hfd Fm hr hgd tk hb I2 r rz h1 h2 q2
theorem pe_fnk0 (Fx : FnX X.prog X.w X.K X.mg X.base x params k ps G) (hr : Room k X.A) (hgd : X.A.guards = some []) (tk : Takes X Wx) (hb : Bd x params ps 0 ks ix) (hg : Gl X x) {t2 : TA} (hkw : PK X kws t2)
    (hall : (backToKw pos (keywordEach kws X.env)).all (·.1.isSome) = true := by rfl) (hks : (backToKw pos (keywordEach kws X.env)).filterMap (·.1) = ks := by rfl) (hdb : (x == ("__debug__" : Str)) = false := by decide)
    (hpl : ((backTo pos (starEach [] X.env)).any (·.1) || (backToKw pos (keywordEach kws X.env)).any (·.1.isNone)) = false := by rfl) : PE X (.Call (.Name x p) [] kws pos) (tFnX X Wx G ix 0 ks.length tNil t2) := by
  obtain ⟨f, fd, hm, hk, hfd, Fm⟩ := Fx.ex
  refine ⟨fun pins s σ H Q I h => ?_⟩
  refine wpAny_Call_Name_kw (ld_glob I hg hm ?_ hdb)
  refine PySem.W.callWith_KW0 (h₀ := X.base) I.ok.mod.kin hk hall (thn (hkw.run pos pins s σ H _ I h) fun ws s2 ⟨zs, H2, I2, rz, h1, h2, q2⟩ => ⟨I2.kIn, ?_⟩) hpl
  rw [hks]
  exact fr_run (us := []) hfd Fm hr hgd tk hb I2 .nil rz h1 h2 q2
theorem tNil_of {K : PySem.W.Frag} {mg : Str → Option Value} {σ : L2.St} {H : Hp} {Q : List V → Hp → Prop} (h : Q [] H) : tNil σ H Q := h
/-- from the data to the transformer -/
theorem fn_tm {m' : Nat} {t2 : TA} (ht : ∀ σ H Q, TMa X.K X.mg Wx mk σ H Q → t2 σ H Q) : ∀ σ H Q, TM X.K X.mg Wx (mFn G n m' ix ms mk) σ H Q → tFnX X Wx G ix n m' (TMa X.K X.mg Wx ms) t2 σ H Q := by
  intro σ H Q ⟨F, pa, p, ρ, gs, s, o⟩
  refine TMa.of gs s ((Out.bindS .refl o).mono fun ds p1 F1 H1 pa1 gr1' gs1 ⟨gr1, o1⟩ s1 vs rs => ht _ _ _ ?_)
  refine TMa.of gs1 s1 ((Out.bindS gr1 o1).mono fun es p2 F2 H2 pa2 gr2' gs2 ⟨gr2, o2⟩ s2 zs rz => ?_)
  by_cases hc : ds.length = n ∧ es.length = m'
  · rw [if_pos hc] at o2
    exact ⟨by rw [rs.1]; exact hc.1, by rw [rz.1]; exact hc.2, F2, pa2, p2, ds, es, gs2, rs.mono gr2'.fz, rz, fout_val gr2 o2⟩
  · rw [if_neg hc] at o2; exact o2.elim
theorem fn_tmo {m' : Nat} {t2 : TA} (ht : ∀ σ H Q, TMa X.K X.mg Wx mk σ H Q → t2 σ H Q) : ∀ σ H Q, TMo X.K X.mg Wx (mFno G n m' ix ms mk) σ H Q → tFnX X Wx G ix n m' (TMa X.K X.mg Wx ms) t2 σ H Q := by
  intro σ H Q ⟨F, pa, p, ρ, gs, s, o⟩
  refine TMa.of gs s ((Out.bindS .refl o).mono fun ds p1 F1 H1 pa1 gr1' gs1 ⟨gr1, o1⟩ s1 vs rs => ht _ _ _ ?_)
  refine TMa.of gs1 s1 ((Out.bindS gr1 o1).mono fun es p2 F2 H2 pa2 gr2' gs2 ⟨gr2, o2⟩ s2 zs rz => ?_)
  by_cases hc : ds.length = n ∧ es.length = m'
  · rw [if_pos hc] at o2
    exact ⟨by rw [rs.1]; exact hc.1, by rw [rz.1]; exact hc.2, F2, pa2, p2, ds, es, gs2, rs.mono gr2'.fz, rz, fout_o gr2 o2⟩
  · rw [if_neg hc] at o2; exact o2.elim
theorem nil_tma : ∀ (σ : L2.St) (H : Hp) (Q : List V → Hp → Prop), TMa X.K X.mg Wx (mret []) σ H Q → tNil σ H Q := fun σ H Q ⟨F, pa, p, ρ, gs, s, o⟩ => o.ret gs _ .nil
theorem nil_fn {t2 : TA} {m' : Nat} : ∀ σ H Q, tFnX X Wx G ix n m' (TMa X.K X.mg Wx (mret [])) t2 σ H Q → tFnX X Wx G ix n m' tNil t2 σ H Q := fun σ H Q h => nil_tma _ _ _ h
theorem pm_fn1 (Fx : FnX X.prog X.w X.K X.mg X.base x params k ps G) (hr : Room k X.A) (hgd : X.A.guards = some []) (tk : Takes X Wx) (hb : Bd x params ps n [] ix) (hg : Gl X x) (ha : PMa X Wx (e :: es) ms) (hdb : (x == ("__debug__" : Str)) = false := by decide)
    (he : starEach (e :: es) X.env = (false, eval e X.env) :: starEach es X.env := by rfl) (hpl : (backTo pos (starEach es X.env)).any (·.1) = false := by rfl) : PM X Wx (.Call (.Name x p) (e :: es) [] pos) (mFn G n 0 ix ms (mret [])) := ⟨(pe_fn1 Fx hr hgd tk hb hg ha.pa hdb he hpl).imp (fn_tm nil_tma)⟩
theorem pm_fn0 (Fx : FnX X.prog X.w X.K X.mg X.base x params k ps G) (hr : Room k X.A) (hgd : X.A.guards = some []) (tk : Takes X Wx) (hb : Bd x params ps 0 [] ix) (hg : Gl X x) (hdb : (x == ("__debug__" : Str)) = false := by decide) : PM X Wx (.Call (.Name x p) [] [] pos) (mFn G 0 0 ix (mret []) (mret [])) :=
  ⟨(pe_fn0 Fx hr hgd tk hb hg hdb).imp fun σ H Q h => nil_fn _ _ _ (fn_tm nil_tma σ H Q h)⟩
theorem pm_fnk (Fx : FnX X.prog X.w X.K X.mg X.base x params k ps G) (hr : Room k X.A) (hgd : X.A.guards = some []) (tk : Takes X Wx) (hb : Bd x params ps n ks ix) (hg : Gl X x) (ha : PMa X Wx (e :: es) ms) (hkw : PMk X Wx kws mk)
    (hall : (backToKw pos (keywordEach kws X.env)).all (·.1.isSome) = true := by rfl) (hks : (backToKw pos (keywordEach kws X.env)).filterMap (·.1) = ks := by rfl) (hdb : (x == ("__debug__" : Str)) = false := by decide) (he : starEach (e :: es) X.env = (false, eval e X.env) :: starEach es X.env := by rfl)
    (hpl : ((backTo pos (starEach (e :: es) X.env)).any (·.1) || (backToKw pos (keywordEach kws X.env)).any (·.1.isNone)) = false := by rfl) : PM X Wx (.Call (.Name x p) (e :: es) kws pos) (mFn G n ks.length ix ms mk) := ⟨(pe_fnk Fx hr hgd tk hb hg ha.pa hkw.pk hall hks hdb he hpl).imp (fn_tm fun _ _ _ h => h)⟩
theorem pm_fnk0 (Fx : FnX X.prog X.w X.K X.mg X.base x params k ps G) (hr : Room k X.A) (hgd : X.A.guards = some []) (tk : Takes X Wx) (hb : Bd x params ps 0 ks ix) (hg : Gl X x) (hkw : PMk X Wx kws mk)
    (hall : (backToKw pos (keywordEach kws X.env)).all (·.1.isSome) = true := by rfl) (hks : (backToKw pos (keywordEach kws X.env)).filterMap (·.1) = ks := by rfl) (hdb : (x == ("__debug__" : Str)) = false := by decide)
    (hpl : ((backTo pos (starEach [] X.env)).any (·.1) || (backToKw pos (keywordEach kws X.env)).any (·.1.isNone)) = false := by rfl) : PM X Wx (.Call (.Name x p) [] kws pos) (mFn G 0 ks.length ix (mret []) mk) := ⟨(pe_fnk0 Fx hr hgd tk hb hg hkw.pk hall hks hdb hpl).imp fun σ H Q h => nil_fn _ _ _ (fn_tm (fun _ _ _ h => h) σ H Q h)⟩
theorem pmo_fn1 (Fx : FnX X.prog X.w X.K X.mg X.base x params k ps G) (hr : Room k X.A) (hgd : X.A.guards = some []) (tk : Takes X Wx) (hb : Bd x params ps n [] ix) (hg : Gl X x) (ha : PMa X Wx (e :: es) ms) (hdb : (x == ("__debug__" : Str)) = false := by decide)
    (he : starEach (e :: es) X.env = (false, eval e X.env) :: starEach es X.env := by rfl) (hpl : (backTo pos (starEach es X.env)).any (·.1) = false := by rfl) : PMo X Wx (.Call (.Name x p) (e :: es) [] pos) (mFno G n 0 ix ms (mret [])) := ⟨(pe_fn1 Fx hr hgd tk hb hg ha.pa hdb he hpl).imp (fn_tmo nil_tma)⟩
theorem pmo_fn0 (Fx : FnX X.prog X.w X.K X.mg X.base x params k ps G) (hr : Room k X.A) (hgd : X.A.guards = some []) (tk : Takes X Wx) (hb : Bd x params ps 0 [] ix) (hg : Gl X x) (hdb : (x == ("__debug__" : Str)) = false := by decide) : PMo X Wx (.Call (.Name x p) [] [] pos) (mFno G 0 0 ix (mret []) (mret [])) :=
  ⟨(pe_fn0 Fx hr hgd tk hb hg hdb).imp fun σ H Q h => nil_fn _ _ _ (fn_tmo nil_tma σ H Q h)⟩
theorem pmo_fnk (Fx : FnX X.prog X.w X.K X.mg X.base x params k ps G) (hr : Room k X.A) (hgd : X.A.guards = some []) (tk : Takes X Wx) (hb : Bd x params ps n ks ix) (hg : Gl X x) (ha : PMa X Wx (e :: es) ms) (hkw : PMk X Wx kws mk)
    (hall : (backToKw pos (keywordEach kws X.env)).all (·.1.isSome) = true := by rfl) (hks : (backToKw pos (keywordEach kws X.env)).filterMap (·.1) = ks := by rfl) (hdb : (x == ("__debug__" : Str)) = false := by decide) (he : starEach (e :: es) X.env = (false, eval e X.env) :: starEach es X.env := by rfl)
    (hpl : ((backTo pos (starEach (e :: es) X.env)).any (·.1) || (backToKw pos (keywordEach kws X.env)).any (·.1.isNone)) = false := by rfl) : PMo X Wx (.Call (.Name x p) (e :: es) kws pos) (mFno G n ks.length ix ms mk) := ⟨(pe_fnk Fx hr hgd tk hb hg ha.pa hkw.pk hall hks hdb he hpl).imp (fn_tmo fun _ _ _ h => h)⟩
end
end PF

namespace PF
open PySem PySem.Spec PyProof.Rows L2

/-! ### statements -/
inductive SRes where
  | nx (ρ : Sl) (p : Pst) | rt (d : D) (fr : Bool) (p : Pst) | bk (ρ : Sl) (p : Pst) | ct (ρ : Sl) (p : Pst) | exc (x : Ex) (ρ : Sl) (p : Pst) | stuck
abbrev C := Sl → Pst → SRes
/-- the def's entry -/
structure Ent where
  F : Hp
  H : Hp
  g : Nat
  pa : Option Addr
/-- a state within the def -/
structure SS (K : PySem.W.Frag) (En : Ent) (F H : Hp) (pa : Option Addr) (p : Pst) (σ : L2.St) (ρ : Sl) : Prop where
  gr : Gr En.F En.H En.g En.pa F H p.g pa
  gs : GS F H pa p
  sr : SRel K F H p.g pa σ ρ
  nw : ∀ (i : Nat) xs v, ρ[i]? = some (some (.own xs)) → σ[i]? = some (some v) → ∀ a, v = .ref a → En.H a = none
def SOut (K : PySem.W.Frag) (mg : Str → Option Value) (En : Ent) (Wx : WX) (F : Hp) (g : Nat) (pa : Option Addr) (Dn : Ends) : SRes → Prop
  | .nx ρ' p' => ∀ σ' F' H' pa', Fz F g pa F' p'.g pa' → SS K En F' H' pa' p' σ' ρ' → Dn.nx σ' H'
  | .bk ρ' p' => ∀ σ' F' H' pa', Fz F g pa F' p'.g pa' → SS K En F' H' pa' p' σ' ρ' → Dn.bk σ' H'
  | .ct ρ' p' => ∀ σ' F' H' pa', Fz F g pa F' p'.g pa' → SS K En F' H' pa' p' σ' ρ' → Dn.ct σ' H'
  | .rt d fr p' => ∀ v F' H' pa', Fz F g pa F' p'.g pa' → Gr En.F En.H En.g En.pa F' H' p'.g pa' → GS F' H' pa' p' → ResRep K F' En.H H' p'.g pa' fr v d → Dn.rt v H'
  | .exc x ρ' p' => ∀ cls dd σ' F' H' pa', Fz F g pa F' p'.g pa' → SS K En F' H' pa' p' σ' ρ' → ExRep K mg F' p'.g pa' cls dd x → Wx cls dd σ' H'
  | .stuck => False
def TC (K : PySem.W.Frag) (mg : Str → Option Value) (En : Ent) (Wx : WX) (m : C) : TS := fun Dn σ H => ∃ F pa p ρ, SS K En F H pa p σ ρ ∧ SOut K mg En Wx F p.g pa Dn (m ρ p)
structure PMs (X : Cx) (En : Ent) (Wx : WX) (st : Stmt) (m : C) : Prop where
  ps : PS X st (TC X.K X.mg En Wx m)
structure PMss (X : Cx) (En : Ent) (Wx : WX) (st : List Stmt) (m : C) : Prop where
  ps : PSs X st (TC X.K X.mg En Wx m)
theorem _root_.L2.PS.imp {X : Cx} {e : Stmt} {t t' : TS} (h : PS X e t) (f : ∀ D σ H, t' D σ H → t D σ H) : PS X e t' := ⟨fun pins s σ H D I q => h.run pins s σ H D I (f D σ H q)⟩
theorem _root_.L2.PSs.imp {X : Cx} {e : List Stmt} {t t' : TS} (h : PSs X e t) (f : ∀ D σ H, t' D σ H → t D σ H) : PSs X e t' := ⟨fun pins s σ H D I q => h.run pins s σ H D I (f D σ H q)⟩
section
variable {K : PySem.W.Frag} {mg : Str → Option Value} {En : Ent} {Wx : WX} {F H F' H' : Hp} {g g' : Nat} {pa pa' : Option Addr} {p p' : Pst} {σ : L2.St} {ρ : Sl} {Dn : Ends}
theorem SOut.later {r : SRes} (h : SOut K mg En Wx F g pa Dn r) (z : Fz F g pa F' g' pa') : SOut K mg En Wx F' g' pa' Dn r := by
  cases r with
  | nx ρ p => exact fun σ F2 H2 pa2 f s => h σ F2 H2 pa2 (z.trans f) s
  | bk ρ p => exact fun σ F2 H2 pa2 f s => h σ F2 H2 pa2 (z.trans f) s
  | ct ρ p => exact fun σ F2 H2 pa2 f s => h σ F2 H2 pa2 (z.trans f) s
  | rt d fr p => exact fun v F2 H2 pa2 f => h v F2 H2 pa2 (z.trans f)
  | exc x ρ p => exact fun cls dd σ F2 H2 pa2 f => h cls dd σ F2 H2 pa2 (z.trans f)
  | stuck => exact h
theorem SS.grow (s : SS K En F H pa p σ ρ) (gr : Gr F H p.g pa F' H' p'.g pa') (gs : GS F' H' pa' p') : SS K En F' H' pa' p' σ ρ := ⟨s.gr.trans gr, gs, s.sr.grow gr, s.nw⟩
end

/-! ### blocks -/
def cskip : C := fun ρ p => .nx ρ p
def cseq (a b : C) : C := fun ρ p => match a ρ p with
  | .nx ρ' p' => b ρ' p'
  | r => r
def cbrk : C := fun ρ p => .bk ρ p
def ccnt : C := fun ρ p => .ct ρ p
def cstuck : C := fun _ _ => .stuck
section
variable {X : Cx} {En : Ent} {Wx : WX} {st : Stmt} {sts : List Stmt} {m m' : C} {ms mi : M (List D)} {e a b : Expr} {me ma mb : M D} {mo : M (List D)} {mt : M Bool} {pos : Pos} {i : Nat} {x : Str}
theorem cs_nil : PMss X En Wx [] cskip := ⟨pss_nil.imp fun Dn σ H ⟨F, pa, p, ρ, s, o⟩ => o σ F H pa .refl s⟩
theorem cs_pass : PMs X En Wx (.Pass pos) cskip := ⟨ps_pass.imp fun Dn σ H ⟨F, pa, p, ρ, s, o⟩ => o σ F H pa .refl s⟩
theorem cs_break : PMs X En Wx (.Break pos) cbrk := ⟨ps_break.imp fun Dn σ H ⟨F, pa, p, ρ, s, o⟩ => o σ F H pa .refl s⟩
theorem cs_cont : PMs X En Wx (.Continue pos) ccnt := ⟨ps_continue.imp fun Dn σ H ⟨F, pa, p, ρ, s, o⟩ => o σ F H pa .refl s⟩
theorem cs_never : PMs X En Wx st cstuck := ⟨ps_never.imp fun Dn σ H ⟨F, pa, p, ρ, s, o⟩ => o⟩
theorem cs_one (h : PMs X En Wx st m) : PMss X En Wx [st] m := ⟨pss_one h.ps⟩
theorem cs_cons (h1 : PMs X En Wx st m) (h2 : PMss X En Wx sts m') : PMss X En Wx (st :: sts) (cseq m m') := ⟨(pss_cons h1.ps h2.ps).imp fun Dn σ H ⟨F, pa, p, ρ, s, o⟩ => by
  refine ⟨F, pa, p, ρ, s, ?_⟩
  unfold cseq at o
  cases q : m ρ p with
  | nx ρ1 p1 =>
    rw [q] at o
    exact fun σ1 F1 H1 pa1 f s1 => ⟨F1, pa1, p1, ρ1, s1, o.later f⟩
  | bk ρ1 p1 => rw [q] at o; exact o
  | ct ρ1 p1 => rw [q] at o; exact o
  | rt d fr p1 => rw [q] at o; exact o
  | exc y ρ1 p1 => rw [q] at o; exact o
  | stuck => rw [q] at o; exact o⟩

/-! ### an expression within a statement -/
def eout {α : Type} (m : M α) (k : α → C) : C := fun ρ p => match m ρ p with
  | .ok a p' => k a ρ p'
  | .exc x p' => .exc x ρ p'
  | .stuck => .stuck
theorem SOut.expr {α : Type} {K : PySem.W.Frag} {mg : Str → Option Value} {F H : Hp} {pa : Option Addr} {p : Pst} {σ : L2.St} {ρ : Sl} {Dn : Ends} {me : M α} {k : α → C} (s : SS K En F H pa p σ ρ) (o : SOut K mg En Wx F p.g pa Dn (eout me k ρ p)) :
    Out K mg Wx σ F H p.g pa (fun d p' F' H' pa' => SS K En F' H' pa' p' σ ρ ∧ SOut K mg En Wx F' p'.g pa' Dn (k d ρ p')) (me ρ p) := by
  unfold eout at o
  cases q : me ρ p with
  | ok d p' =>
    rw [q] at o
    exact fun F' H' pa' gr gs => ⟨s.grow gr gs, o.later gr.fz⟩
  | exc x p' =>
    rw [q] at o
    exact fun cls dd F' H' pa' gr gs r => o cls dd σ F' H' pa' gr.fz (s.grow gr gs) r
  | stuck => rw [q] at o; exact o
theorem tm_s {K : PySem.W.Frag} {mg : Str → Option Value} {F H : Hp} {pa : Option Addr} {p : Pst} {σ : L2.St} {ρ : Sl} {Dn : Ends} {k : D → C} {Q : VK} (s : SS K En F H pa p σ ρ) (o : SOut K mg En Wx F p.g pa Dn (eout me k ρ p))
    (h : ∀ v d p' F' H' pa', SS K En F' H' pa' p' σ ρ → Fz F p.g pa F' p'.g pa' → Rep K F' p'.g pa' v d → SOut K mg En Wx F' p'.g pa' Dn (k d ρ p') → Q v H') : TM K mg Wx me σ H Q :=
  ⟨F, pa, p, ρ, s.gs, s.sr, (o.expr s).mono fun d p' F' H' pa' gr gs ⟨s', o'⟩ v r => h v d p' F' H' pa' s' gr.fz r o'⟩
def cexpr (me : M D) : C := eout me fun _ => cskip
theorem cs_expr (he : PM X Wx e me) (hs : swapsWith e none pos.line X.env = pure false := by rfl) : PMs X En Wx (.Expr e pos) (cexpr me) := ⟨(ps_expr he.pe hs).imp fun Dn σ H ⟨F, pa, p, ρ, s, o⟩ => by
  exact tm_s s o fun v d p' F' H' pa' s' _ r o' => o' σ F' H' pa' .refl s'⟩
/-- return e -/
def cret (me : M D) : C := eout me fun d _ p => .rt d false p
theorem cs_ret (he : PM X Wx e me) : PMs X En Wx (.Return (some e) pos) (cret me) := ⟨(ps_ret he.pe).imp fun Dn σ H ⟨F, pa, p, ρ, s, o⟩ => by
  exact tm_s s o fun v d p' F' H' pa' s' _ r o' => o' v F' H' pa' .refl s'.gr s'.gs r⟩
def cretN : C := fun _ p => .rt .non false p
theorem cs_retN : PMs X En Wx (.Return none pos) cretN := ⟨ps_retN.imp fun Dn σ H ⟨F, pa, p, ρ, s, o⟩ => o _ F H pa .refl s.gr s.gs (show Rep _ _ _ _ _ _ from .non)⟩
/-- return a fresh list -/
def creto (mo : M (List D)) : C := eout mo fun ds _ p => .rt (.lst ds) true p
theorem Gr.enter {En : Ent} {F H : Hp} {g : Nat} {pa : Option Addr} {a : Addr} (x : Gr En.F En.H En.g En.pa F H g pa) (h : H a = none) : En.H a = none := x.free0 h
theorem tmo_s {K : PySem.W.Frag} {mg : Str → Option Value} {F H : Hp} {pa : Option Addr} {p : Pst} {σ : L2.St} {ρ : Sl} {Dn : Ends} {k : List D → C} {Q : VK} (s : SS K En F H pa p σ ρ) (o : SOut K mg En Wx F p.g pa Dn (eout mo k ρ p))
    (h : ∀ a vs ds p' F' H' pa', SS K En F' H' pa' p' σ ρ → Fz F p.g pa F' p'.g pa' → H a = none → H' a = some (.lst vs) → F' a = none → pa' ≠ some a → ds.length ≤ sizeLine → Reps K F' p'.g pa' vs ds → SOut K mg En Wx F' p'.g pa' Dn (k ds ρ p') → Q (.ref a) H') : TMo K mg Wx mo σ H Q :=
  ⟨F, pa, p, ρ, s.gs, s.sr, (o.expr s).mono fun d p' F' H' pa' gr gs ⟨s', o'⟩ a vs h1 h2 h3 h4 h5 h6 => h a vs d p' F' H' pa' s' gr.fz h1 h2 h3 h4 h5 h6 o'⟩
theorem cs_reto (he : PMo X Wx e mo) : PMs X En Wx (.Return (some e) pos) (creto mo) := ⟨(ps_ret he.pe).imp fun Dn σ H ⟨F, pa, p, ρ, s, o⟩ => by
  exact tmo_s s o fun a vs ds p' F' H' pa' s' _ h1 h2 h3 h4 h5 h6 o' => o' _ F' H' pa' .refl s'.gr s'.gs ⟨a, vs, ds, rfl, rfl, s.gr.enter h1, h2, h3, h4, h5, h6⟩⟩
/-- return x, x an own list -/
def cretown (i : Nat) : C := fun ρ p => match ρ[i]? with
  | some (some (.own xs)) => .rt (.lst xs) true p
  | _ => .stuck
theorem cs_retown (h : PE X (.Name x pos) (tVar i)) {pos'} : PMs X En Wx (.Return (some (.Name x pos)) pos') (cretown i) := ⟨(ps_ret h).imp fun Dn σ H ⟨F, pa, p, ρ, s, o⟩ => by
  unfold cretown at o
  cases q : ρ[i]? with
  | none => rw [q] at o; exact o.elim
  | some w =>
    rw [q] at o
    cases w with
    | none => exact o.elim
    | some w =>
      cases w with
      | val d => exact o.elim
      | own xs =>
        obtain ⟨v, e1, a, vs, rfl, h2, h3, h4, h5, h6⟩ := s.sr.rep i _ q
        exact ⟨_, e1, o _ F H pa .refl s.gr s.gs ⟨a, vs, xs, rfl, rfl, s.nw i xs _ q e1 a rfl, h2, h3, h4, h5, h6⟩⟩⟩
/-- if -/
def cif (t : M Bool) (a b : C) : C := eout t fun k => if k = true then a else b
theorem cs_if {c : Expr} {sa sb : List Stmt} {ca cb : C} (hc : PMt X Wx c mt) (ha : PMss X En Wx sa ca) (hb : PMss X En Wx sb cb) : PMs X En Wx (.If c sa sb pos) (cif mt ca cb) := ⟨(ps_if hc.pt ha.ps hb.ps).imp fun Dn σ H ⟨F, pa, p, ρ, s, o⟩ => by
  refine ⟨F, pa, p, ρ, s.gs, s.sr, (o.expr s).mono fun k p' F' H' pa' gr gs ⟨s', o'⟩ => ?_⟩
  cases k with
  | true => simp only [if_true] at o' ⊢; exact ⟨F', pa', p', ρ, s', o'⟩
  | false => simp only [Bool.false_eq_true, if_false] at o' ⊢; exact ⟨F', pa', p', ρ, s', o'⟩⟩

/-! ### stores -/
theorem SS.set {K : PySem.W.Frag} {F H : Hp} {pa : Option Addr} {p : Pst} {σ : L2.St} {ρ : Sl} (s : SS K En F H pa p σ ρ) {v : V} {d : D} (r : Rep K F p.g pa v d) (i : Nat) : SS K En F H pa p (σ.set i (some v)) (ρ.set i (some (.val d))) := by
  refine ⟨s.gr, s.gs, s.sr.set r i, fun j xs w h1 h2 => ?_⟩
  rw [List.getElem?_set] at h1 h2
  by_cases e : i = j
  · subst e
    simp only [if_true] at h1
    split at h1 <;> cases h1
  · rw [if_neg e] at h1 h2
    exact s.nw j xs w h1 h2
/-- a fresh list, into slot i -/
theorem SS.setO {K : PySem.W.Frag} {F H H0 : Hp} {pa : Option Addr} {p : Pst} {σ : L2.St} {ρ : Sl} (s : SS K En F H pa p σ ρ) {a : Addr} {vs : List V} {ds : List D} (i : Nat) (hE : En.H a = none) (hO : ∀ (j : Nat) ys, ρ[j]? = some (some (.own ys)) → σ[j]? ≠ some (some (.ref a))) (h2 : H a = some (.lst vs)) (h3 : F a = none) (h4 : pa ≠ some a) (h5 : ds.length ≤ sizeLine) (h6 : Reps K F p.g pa vs ds) :
    SS K En F H pa p (σ.set i (some (.ref a))) (ρ.set i (some (.own ds))) := by
  refine ⟨s.gr, s.gs, ⟨by simp [s.sr.len], fun j w h => ?_, fun j k xs ys v q1 q2 q3 q4 => ?_⟩, fun j xs w q1 q2 b hb => ?_⟩
  · rw [List.getElem?_set] at h ⊢
    by_cases e : i = j
    · subst e
      simp only [if_true] at h ⊢
      by_cases hi : i < ρ.length
      · rw [if_pos hi] at h
        rw [if_pos (by rw [← s.sr.len]; exact hi)]
        cases h
        exact ⟨_, rfl, a, vs, rfl, h2, h3, h4, h5, h6⟩
      · rw [if_neg hi] at h; cases h
    · rw [if_neg e] at h ⊢
      exact s.sr.rep j w h
  · rw [List.getElem?_set] at q1 q2 q3 q4
    by_cases e : i = j
    · by_cases e2 : i = k
      · omega
      · rw [if_pos e] at q1 q3
        rw [if_neg e2] at q2 q4
        split at q3
        · cases q3
          exact absurd q4 (hO k _ q2)
        · cases q3
    · by_cases e2 : i = k
      · rw [if_neg e] at q1 q3
        rw [if_pos e2] at q2 q4
        split at q4
        · cases q4
          exact absurd q3 (hO j _ q1)
        · cases q4
      · rw [if_neg e] at q1 q3
        rw [if_neg e2] at q2 q4
        exact s.sr.apart j k xs ys v q1 q2 q3 q4
  · rw [List.getElem?_set] at q1 q2
    by_cases e : i = j
    · rw [if_pos e] at q2
      split at q2
      · cases q2; cases hb; exact hE
      · cases q2
    · rw [if_neg e] at q1 q2
      exact s.nw j xs w q1 q2 b hb
def casg (i : Nat) (me : M D) : C := eout me fun d ρ p => .nx (ρ.set i (some (.val d))) p
def caso (i : Nat) (mo : M (List D)) : C := eout mo fun ds ρ p => .nx (ρ.set i (some (.own ds))) p
/-- what is stored is told by its transformer -/
theorem asg_tm : ∀ D σ H, TC X.K X.mg En Wx (casg i me) D σ H → tAsg (TM X.K X.mg Wx me) (gName i) D σ H := fun Dn σ H ⟨F, pa, p, ρ, s, o⟩ =>
  tm_s s o fun v d p' F' H' pa' s' _ r o' => o' _ F' H' pa' .refl (s'.set r i)
theorem fresh_ne {K : PySem.W.Frag} {F H : Hp} {pa : Option Addr} {p : Pst} {σ : L2.St} {ρ : Sl} (s : SS K En F H pa p σ ρ) {a : Addr} (h : H a = none) : ∀ (j : Nat) ys, ρ[j]? = some (some (.own ys)) → σ[j]? ≠ some (some (.ref a)) := fun j ys q e => by
  obtain ⟨v, e1, b, vs, rfl, h2, _⟩ := s.sr.rep j _ q
  rw [e] at e1
  cases e1
  rw [h] at h2; cases h2
theorem aso_tm : ∀ D σ H, TC X.K X.mg En Wx (caso i mo) D σ H → tAsg (TMo X.K X.mg Wx mo) (gName i) D σ H := fun Dn σ H ⟨F, pa, p, ρ, s, o⟩ =>
  tmo_s s o fun a vs ds p' F' H' pa' s' _ h1 h2 h3 h4 h5 h6 o' => o' _ F' H' pa' .refl (s'.setO (H0 := H) i (s.gr.enter h1) (fresh_ne s h1) h2 h3 h4 h5 h6)
theorem cs_set {pos' : Pos} (hN : X.N.Nodup) (hi : X.N[i]? = some x) (hx : Loc X.env.scope x) (he : PM X Wx e me) (hs : swapsWith e (some (.Name x pos')) pos.line X.env = pure false := by rfl) (hf : X.fn x = true ∨ X.env.scope.names.lookup x = some .local := by first | exact .inl rfl | exact .inr rfl) :
    PMs X En Wx (.Assign [.Name x pos'] e pos) (casg i me) := ⟨(ps_set hN hi hx he.pe hs hf).imp asg_tm⟩
theorem cs_seto {pos' : Pos} (hN : X.N.Nodup) (hi : X.N[i]? = some x) (hx : Loc X.env.scope x) (he : PMo X Wx e mo) (hs : swapsWith e (some (.Name x pos')) pos.line X.env = pure false := by rfl) (hf : X.fn x = true ∨ X.env.scope.names.lookup x = some .local := by first | exact .inl rfl | exact .inr rfl) :
    PMs X En Wx (.Assign [.Name x pos'] e pos) (caso i mo) := ⟨(ps_set hN hi hx he.pe hs hf).imp aso_tm⟩
/-- y = [..], on one line, y a plain local -/
theorem cs_setlc_gen {f : D → Sl → Option Sl} {tt : M Bool} {el : M D} {g : TG} {elt iter tg : Expr} {ifs : List Expr} {scope : Scope} {own : List (Str × Nat)} {py spos : Pos} (hc : X.calm = true) (hN : X.N.Nodup) (hy : X.N[i]? = some x) (hyl : X.env.scope.names.lookup x = some .local)
    (hsw : swapsWith (.ListComp elt [⟨tg, iter, ifs, 0⟩] scope pos) (some (.Name x py)) spos.line X.env = pure true) (hi : PMi X Wx tg iter mi) (ok : BlkOk X.N X.env.scope scope own)
    (hg : ∀ (s : Shared) (H : Hp) (C : Addr) (cl : List (Str × Addr)) (fp : List Addr), PG (X.blk s H scope (compEnvC scope cl C X.env) fp) tg g) (hf : GOk X.K (own.map (·.2)) g f)
    (ht : ∀ (s : Shared) (H : Hp) (C : Addr) (cl : List (Str × Addr)) (fp : List Addr), PMts (X.blk s H scope (compEnvC scope cl C X.env) fp) W0 ifs tt)
    (he : ∀ (s : Shared) (H : Hp) (C : Addr) (cl : List (Str × Addr)) (fp : List Addr), PM (X.blk s H scope (compEnvC scope cl C X.env) fp) W0 elt el) (hs : ∀ x, foldedSetIterable iter X.env x = pure x := by intro _; rfl) :
    PS X (.Assign [.Name x py] (.ListComp elt [⟨tg, iter, ifs, 0⟩] scope pos) spos) (tAsg (TMo X.K X.mg Wx (mLc (own.map (·.2)) mi f tt el)) (gName i)) :=
  (ps_setLc hc hN hy hyl hsw hi.pi ok hg (fun s H C cl fp => (ht s H C cl fp).pt) (fun s H C cl fp => (he s H C cl fp).pe) hs).imp fun D σ H h => lc_out hf σ H _ h
theorem cs_lco {st : Stmt} (h : PS X st (tAsg (TMo X.K X.mg Wx mo) (gName i))) : PMs X En Wx st (caso i mo) := ⟨h.imp aso_tm⟩
theorem mo_m : ∀ σ H Q, TM X.K X.mg Wx (mfrz mo) σ H Q → TMo X.K X.mg Wx mo σ H Q := fun σ H Q ⟨F, pa, p, ρ, gs, s, o⟩ => by
  refine ⟨F, pa, p, ρ, gs, s, ?_⟩
  unfold mfrz mbind at o
  cases q : mo ρ p with
  | stuck => rw [q] at o; exact o
  | exc x p' => rw [q] at o; exact o
  | ok ds p' =>
    rw [q] at o
    intro F1 H1 pa1 gr1 gs1 a vs ha hH hF hp hz rs
    have fz : Fz F1 p'.g pa1 (upd F1 a (.lst vs)) p'.g pa1 := Fz.upd hF
    exact o _ H1 pa1 (gr1.freeze ha hF) (gs1.freeze hH hp) _ (Rep.lst' upd_same hz (rs.mono fz))
theorem cs_lcv {st : Stmt} (h : PS X st (tAsg (TMo X.K X.mg Wx mo) (gName i))) : PMs X En Wx st (casg i (mfrz mo)) := ⟨h.imp fun D σ H q => mo_m σ H _ (asg_tm D σ H q)⟩
/-- an own list becomes a value -/
def cfrz (i : Nat) : C := fun ρ p => match ρ[i]? with
  | some (some (.own xs)) => .nx (ρ.set i (some (.val (.lst xs)))) p
  | some (some (.val _)) => .nx ρ p
  | _ => .stuck
theorem SS.freeze {K : PySem.W.Frag} {F H : Hp} {pa : Option Addr} {p : Pst} {σ : L2.St} {ρ : Sl} {xs : List D} (s : SS K En F H pa p σ ρ) (q : ρ[i]? = some (some (.own xs))) : ∃ F', Fz F p.g pa F' p.g pa ∧ SS K En F' H pa p σ (ρ.set i (some (.val (.lst xs)))) := by
  obtain ⟨v, e1, a, vs, rfl, h2, h3, h4, h5, h6⟩ := s.sr.rep i _ q
  have hE := s.nw i xs _ q e1 a rfl
  have fz : Fz F p.g pa (upd F a (.lst vs)) p.g pa := Fz.upd h3
  refine ⟨upd F a (.lst vs), fz, ⟨s.gr.freeze hE h3, s.gs.freeze h2 h4, ⟨by simp [s.sr.len], fun j w h => ?_, fun j k ys zs v q1 q2 q3 q4 => ?_⟩, fun j ys w q1 q2 => ?_⟩⟩
  · rw [List.getElem?_set] at h
    by_cases e : i = j
    · subst e
      rw [if_pos rfl] at h
      split at h
      · cases h
        exact ⟨_, e1, Rep.lst' upd_same h5 (h6.mono fz)⟩
      · cases h
    · rw [if_neg e] at h
      obtain ⟨v2, e2, r2⟩ := s.sr.rep j w h
      refine ⟨v2, e2, ?_⟩
      cases w with
      | val d => exact Rep.mono r2 fz
      | own ys =>
        obtain ⟨b, ws, z1, z2, z3, z4, z5, z6⟩ := r2
        refine ⟨b, ws, z1, z2, ?_, z4, z5, z6.mono fz⟩
        rw [upd_ne fun z => ?_]; exact z3
        subst z1 z
        exact e (s.sr.apart i j xs ys _ q h e1 e2)
  · rw [List.getElem?_set] at q1 q2
    by_cases e : i = j
    · rw [if_pos e] at q1
      split at q1 <;> cases q1
    · by_cases e2 : i = k
      · rw [if_pos e2] at q2
        split at q2 <;> cases q2
      · rw [if_neg e] at q1
        rw [if_neg e2] at q2
        exact s.sr.apart j k ys zs v q1 q2 q3 q4
  · rw [List.getElem?_set] at q1
    by_cases e : i = j
    · rw [if_pos e] at q1
      split at q1 <;> cases q1
    · rw [if_neg e] at q1
      exact s.nw j ys w q1 q2
theorem cs_frz (h : PMss X En Wx sts m) : PMss X En Wx sts (cseq (cfrz i) m) := ⟨h.ps.imp fun Dn σ H ⟨F, pa, p, ρ, s, o⟩ => by
  unfold cseq cfrz at o
  cases q : ρ[i]? with
  | none => rw [q] at o; exact o.elim
  | some w =>
    rw [q] at o
    cases w with
    | none => exact o.elim
    | some w =>
      cases w with
      | val d => exact ⟨F, pa, p, ρ, s, o⟩
      | own xs =>
        obtain ⟨F', fz, s'⟩ := s.freeze q
        exact ⟨F', pa, p, _, s', o.later fz⟩⟩
end
end PF

namespace PF
open PySem PySem.Spec PyProof.Rows L2

section
variable {X : Cx} {En : Ent} {Wx : WX} {st : Stmt} {sts : List Stmt} {m m' : C} {ms mi : M (List D)} {e a b : Expr} {me ma mb : M D} {mo : M (List D)} {mt : M Bool} {pos : Pos} {i : Nat} {x : Str}
/-! ### own lists change -/
theorem SS.upd {K : PySem.W.Frag} {F H : Hp} {pa : Option Addr} {p : Pst} {σ : L2.St} {ρ : Sl} (s : SS K En F H pa p σ ρ) {xs ys : List D} {a : Addr} {vs : List V} (q : ρ[i]? = some (some (.own xs))) (e : σ[i]? = some (some (.ref a))) (hz : ys.length ≤ sizeLine) (rs : Reps K F p.g pa vs ys) :
    SS K En F (L2.upd H a (.lst vs)) pa p σ (ρ.set i (some (.own ys))) := by
  obtain ⟨v, e1, b, ws, rfl, h2, h3, h4, h5, h6⟩ := s.sr.rep i _ q
  rw [e] at e1
  cases e1
  have hE := s.nw i xs _ q e a rfl
  refine ⟨⟨s.gr.fz, s.gr.new, fun b o z1 z2 => ?_, fun b o z1 => ?_, s.gr.pot⟩, ⟨fun b o z => ?_, fun b z => ?_⟩, ⟨by simp [s.sr.len], fun j w h => ?_, fun j k xs' ys' v q1 q2 q3 q4 => ?_⟩, fun j ys' w q1 q2 b hb => ?_⟩
  · rw [upd_ne (ne_of_none z1 hE)]; exact s.gr.keep b o z1 z2
  · rw [upd_ne (ne_of_none z1 hE)]; exact s.gr.there b o z1
  · rw [upd_ne fun t => ?_]; exact s.gs.sub b o z
    subst t; rw [h3] at z; cases z
  · have hb : b ≠ a := fun t => h4 (by rw [← t]; exact z)
    rw [upd_ne hb]; exact s.gs.pot b z
  · rw [List.getElem?_set] at h
    by_cases ej : i = j
    · subst ej
      rw [if_pos rfl] at h
      split at h
      · cases h
        exact ⟨_, e, a, vs, rfl, upd_same, h3, h4, hz, rs⟩
      · cases h
    · rw [if_neg ej] at h
      obtain ⟨v2, e2, r2⟩ := s.sr.rep j w h
      refine ⟨v2, e2, ?_⟩
      cases w with
      | val d => exact r2
      | own zs =>
        obtain ⟨b, ws2, z1, z2, z3, z4, z5, z6⟩ := r2
        refine ⟨b, ws2, z1, ?_, z3, z4, z5, z6⟩
        rw [upd_ne fun t => ?_]; exact z2
        subst z1 t
        exact ej (s.sr.apart i j xs zs _ q h e e2)
  · rw [List.getElem?_set] at q1 q2
    by_cases e1 : i = j
    · by_cases e2 : i = k
      · omega
      · rw [if_neg e2] at q2
        subst e1
        exact s.sr.apart i k xs ys' v q q2 q3 q4
    · by_cases e2 : i = k
      · rw [if_neg e1] at q1
        subst e2
        exact s.sr.apart j i xs' xs v q1 q q3 q4
      · rw [if_neg e1] at q1
        rw [if_neg e2] at q2
        exact s.sr.apart j k xs' ys' v q1 q2 q3 q4
  · rw [List.getElem?_set] at q1
    by_cases e1 : i = j
    · subst e1
      exact s.nw i xs w q q2 b hb
    · rw [if_neg e1] at q1
      exact s.nw j ys' w q1 q2 b hb
theorem SS.own {K : PySem.W.Frag} {F H : Hp} {pa : Option Addr} {p : Pst} {σ : L2.St} {ρ : Sl} (s : SS K En F H pa p σ ρ) {xs : List D} (q : ρ[i]? = some (some (.own xs))) : ∃ a vs, σ[i]? = some (some (.ref a)) ∧ H a = some (.lst vs) ∧ xs.length ≤ sizeLine ∧ Reps K F p.g pa vs xs := by
  obtain ⟨v, e1, b, ws, rfl, h2, h3, h4, h5, h6⟩ := s.sr.rep i _ q
  exact ⟨b, ws, e1, h2, h5, h6⟩
def capp (i : Nat) (me : M D) : C := fun ρ p => match ρ[i]? with
  | some (some (.own xs)) => eout me (fun d ρ p => if xs.length < 16000000 then .nx (ρ.set i (some (.own (xs ++ [d])))) p else .stuck) ρ p
  | _ => .stuck
theorem cs_append (h : PE X e (tBM X.K "list" rAppend (tVar i) (tCons (TM X.K X.mg Wx me) tNil))) (hs : swapsWith e none pos.line X.env = pure false := by rfl) : PMs X En Wx (.Expr e pos) (capp i me) := ⟨(ps_expr h hs).imp fun Dn σ H ⟨F, pa, p, ρ, s, o⟩ => by
  unfold capp at o
  cases q : ρ[i]? with
  | none => rw [q] at o; exact o.elim
  | some w =>
    rw [q] at o
    cases w with
    | none => exact o.elim
    | some w =>
      cases w with
      | val d => exact o.elim
      | own xs =>
        obtain ⟨a, vs, e1, h1, _, _⟩ := s.own q
        refine ⟨_, e1, .inl ⟨rfl, _, SqL.of h1⟩, ?_⟩
        refine tm_s s o fun v d p' F' H' pa' s' _ r o' => ?_
        obtain ⟨a', vs', e2, h2, h3, rs⟩ := s'.own q
        rw [e1] at e2
        cases e2
        by_cases hc : xs.length < 16000000
        · rw [if_pos hc] at o'
          refine ⟨a, vs', v, rfl, rfl, h2, by rw [rs.1, sizeLine_eq]; omega, ?_⟩
          exact o' σ F' _ pa' .refl (s'.upd q e1 (by rw [List.length_append, sizeLine_eq]; simp; omega) (rs.append (.cons r .nil)))
        · rw [if_neg hc] at o'; exact o'.elim⟩
def cext (i : Nat) (me : M D) : C := fun ρ p => match ρ[i]? with
  | some (some (.own xs)) => eout me (fun d ρ p => match d with
    | .lst ys => if xs.length + ys.length ≤ 16000000 then .nx (ρ.set i (some (.own (xs ++ ys)))) p else .stuck
    | _ => .stuck) ρ p
  | _ => .stuck
theorem cs_extend (h : PE X e (tBM X.K "list" rExtend (tVar i) (tCons (TM X.K X.mg Wx me) tNil))) (hs : swapsWith e none pos.line X.env = pure false := by rfl) : PMs X En Wx (.Expr e pos) (cext i me) := ⟨(ps_expr h hs).imp fun Dn σ H ⟨F, pa, p, ρ, s, o⟩ => by
  unfold cext at o
  cases q : ρ[i]? with
  | none => rw [q] at o; exact o.elim
  | some w =>
    rw [q] at o
    cases w with
    | none => exact o.elim
    | some w =>
      cases w with
      | val d => exact o.elim
      | own xs =>
        obtain ⟨a, vs, e1, h1, _, _⟩ := s.own q
        refine ⟨_, e1, .inl ⟨rfl, _, SqL.of h1⟩, ?_⟩
        refine tm_s s o fun v d p' F' H' pa' s' _ r o' => ?_
        obtain ⟨a', vs', e2, h2, h3, rs⟩ := s'.own q
        rw [e1] at e2
        cases e2
        cases d <;> first | exact o'.elim | skip
        rename_i ys
        simp only at o'
        by_cases hc : xs.length + ys.length ≤ 16000000
        · rw [if_pos hc] at o'
          obtain ⟨b, ws, rfl, hb, hz, rb⟩ := r.lstH s'.gs
          refine ⟨a, b, vs', ws, rfl, rfl, h2, hb, by rw [rs.1, rb.1, sizeLine_eq]; omega, ?_⟩
          exact o' σ F' _ pa' .refl (s'.upd q e1 (by rw [List.length_append, sizeLine_eq]; omega) (rs.append rb))
        · rw [if_neg hc] at o'; exact o'.elim⟩
theorem getLast_rep {K : PySem.W.Frag} {F : Hp} {g : Nat} {pa : Option Addr} {vs : List V} {xs : List D} (rs : Reps K F g pa vs xs) {d : D} (h : xs[xs.length - 1]? = some d) : ∃ v, vs[vs.length - 1]? = some v ∧ Rep K F g pa v d := by
  rw [rs.1]; exact rs.get h
theorem dropLast_rep {K : PySem.W.Frag} {F : Hp} {g : Nat} {pa : Option Addr} {vs : List V} {xs : List D} (rs : Reps K F g pa vs xs) : Reps K F g pa vs.dropLast xs.dropLast := by
  rw [List.dropLast_eq_take, List.dropLast_eq_take, rs.1]
  exact rs.take _
def cpop (i : Nat) : C := fun ρ p => match ρ[i]? with
  | some (some (.own xs)) => if xs = [] then .stuck else .nx (ρ.set i (some (.own xs.dropLast))) p
  | _ => .stuck
theorem cs_pop (h : PE X e (tBM0 X.K "list" rPop (tVar i))) (hs : swapsWith e none pos.line X.env = pure false := by rfl) : PMs X En Wx (.Expr e pos) (cpop i) := ⟨(ps_expr h hs).imp fun Dn σ H ⟨F, pa, p, ρ, s, o⟩ => by
  unfold cpop at o
  cases q : ρ[i]? with
  | none => rw [q] at o; exact o.elim
  | some w =>
    rw [q] at o
    cases w with
    | none => exact o.elim
    | some w =>
      cases w with
      | val d => exact o.elim
      | own xs =>
        simp only at o
        by_cases hc : xs = []
        · rw [if_pos hc] at o; exact o.elim
        · rw [if_neg hc] at o
          obtain ⟨a, vs, e1, h1, hz, rs⟩ := s.own q
          have hl : xs.length - 1 < xs.length := by have := List.length_pos_iff.mpr hc; omega
          obtain ⟨v, hv, _⟩ := getLast_rep rs (d := xs[xs.length - 1]) (by simp [hl])
          refine ⟨_, e1, .inl ⟨rfl, _, SqL.of h1⟩, a, vs, v, rfl, rfl, h1, hv, ?_⟩
          exact o σ F _ pa .refl (s.upd q e1 (by rw [List.length_dropLast]; omega) (dropLast_rep rs))⟩
/-- y = x.pop() -/
def casgpop (j i : Nat) : C := fun ρ p => match ρ[i]? with
  | some (some (.own xs)) => (match xs[xs.length - 1]? with
    | some d => .nx ((ρ.set i (some (.own xs.dropLast))).set j (some (.val d))) p
    | none => .stuck)
  | _ => .stuck
theorem cs_asgpop {j : Nat} {y : Str} {pos' : Pos} (h : PE X e (tBM0 X.K "list" rPop (tVar i))) (hN : X.N.Nodup) (hj : X.N[j]? = some y) (hx : Loc X.env.scope y) (hs : swapsWith e (some (.Name y pos')) pos.line X.env = pure false := by rfl) (hf : X.fn y = true ∨ X.env.scope.names.lookup y = some .local := by first | exact .inl rfl | exact .inr rfl) :
    PMs X En Wx (.Assign [.Name y pos'] e pos) (casgpop j i) := ⟨(ps_set hN hj hx h hs hf).imp fun Dn σ H ⟨F, pa, p, ρ, s, o⟩ => by
  unfold casgpop at o
  cases q : ρ[i]? with
  | none => rw [q] at o; exact o.elim
  | some w =>
    rw [q] at o
    cases w with
    | none => exact o.elim
    | some w =>
      cases w with
      | val d => exact o.elim
      | own xs =>
        simp only at o
        cases q2 : xs[xs.length - 1]? with
        | none => rw [q2] at o; exact o.elim
        | some d =>
          rw [q2] at o
          obtain ⟨a, vs, e1, h1, hz, rs⟩ := s.own q
          obtain ⟨v, hv, rv⟩ := getLast_rep rs q2
          refine ⟨_, e1, .inl ⟨rfl, _, SqL.of h1⟩, a, vs, v, rfl, rfl, h1, hv, ?_⟩
          have s2 := s.upd q e1 (by rw [List.length_dropLast]; omega) (dropLast_rep rs)
          exact o _ F _ pa .refl (s2.set rv j)⟩
/-- a fresh list to which an item is put, then dropped -/
def cdropapp (mo : M (List D)) (me : M D) : C := eout mo fun ds => eout me fun _ => if ds.length < 16000000 then cskip else cstuck
theorem cs_dropapp (h : PE X e (tBM X.K "list" rAppend (TMo X.K X.mg Wx mo) (tCons (TM X.K X.mg Wx me) tNil))) (hs : swapsWith e none pos.line X.env = pure false := by rfl) : PMs X En Wx (.Expr e pos) (cdropapp mo me) := ⟨(ps_expr h hs).imp fun Dn σ H ⟨F, pa, p, ρ, s, o⟩ => by
  unfold tDrop tBM
  refine tmo_s s o fun a vs ds p' F' H' pa' s' _ h1 h2 h3 h4 h5 h6 o' => ⟨.inl ⟨rfl, _, SqL.of h2⟩, ?_⟩
  refine ⟨F', pa', p', ρ, s'.gs, s'.sr, (o'.expr s').mono fun d p2 F2 H2 pa2 gr2 gs2 ⟨s2, o2⟩ v r => ?_⟩
  by_cases hc : ds.length < 16000000
  · rw [if_pos hc] at o2
    have h7 := gr2.keep _ _ h2 h4
    refine ⟨a, vs, v, rfl, rfl, h7, by rw [h6.1, sizeLine_eq]; omega, ?_⟩
    have hE := s.gr.enter h1
    have hF2 : F2 a = none := by
      cases q : F2 a with
      | none => rfl
      | some u =>
        rcases gr2.new _ _ q with z | z
        · rw [h3] at z; cases z
        · rw [h2] at z; cases z
    have hp2 : pa2 ≠ some a := fun z => by
      rcases gr2.pot with z2 | ⟨b, z2, hb⟩
      · exact h4 (by rw [← z2]; exact z)
      · rw [z2] at z; cases z; rw [h2] at hb; cases hb
    refine o2 σ F2 _ pa2 .refl ⟨⟨s2.gr.fz, s2.gr.new, fun b o z1 z2 => ?_, fun b o z1 => ?_, s2.gr.pot⟩, ⟨fun b o z => ?_, fun b z => ?_⟩, ⟨s2.sr.len, fun j w h => ?_, s2.sr.apart⟩, s2.nw⟩
    · rw [upd_ne (ne_of_none z1 hE)]; exact s2.gr.keep b o z1 z2
    · rw [upd_ne (ne_of_none z1 hE)]; exact s2.gr.there b o z1
    · rw [upd_ne fun t => ?_]; exact s2.gs.sub b o z
      subst t; rw [hF2] at z; cases z
    · have hb : b ≠ a := fun t => hp2 (by rw [← t]; exact z)
      rw [upd_ne hb]; exact s2.gs.pot b z
    · obtain ⟨v2, e2, r2⟩ := s2.sr.rep j w h
      refine ⟨v2, e2, ?_⟩
      cases w with
      | val d => exact r2
      | own zs =>
        obtain ⟨b, ws2, z1, z2, z3, z4, z5, z6⟩ := r2
        refine ⟨b, ws2, z1, ?_, z3, z4, z5, z6⟩
        rw [upd_ne fun t => ?_]; exact z2
        subst z1 t
        exact fresh_ne s h1 j zs h e2
  · rw [if_neg hc] at o2; exact o2.elim⟩

/-! ### targets of statements -/
def TgOk (K : PySem.W.Frag) (mg : Str → Option Value) (En : Ent) (Wx : WX) (g : TG) (G : D → Sl → Pst → Option (Sl × Pst)) : Prop := ∀ (F H : Hp) (pa : Option Addr) (p : Pst) (x : V) (d : D) (σ : L2.St) (ρ ρ' : Sl) (p' : Pst) (Q : L2.St → Hp → Prop), SS K En F H pa p σ ρ → Rep K F p.g pa x d → G d ρ p = some (ρ', p') →
  (∀ σ' F' H' pa', Fz F p.g pa F' p'.g pa' → SS K En F' H' pa' p' σ' ρ' → Q σ' H') → g x σ H Q
def tgName (i : Nat) : D → Sl → Pst → Option (Sl × Pst) := fun d ρ p => some (ρ.set i (some (.val d)), p)
theorem tg_name {K : PySem.W.Frag} {mg : Str → Option Value} : TgOk K mg En Wx (gName i) (tgName i) := by
  intro F H pa p x d σ ρ ρ' p' Q s r e k
  cases e
  exact k _ F H pa .refl (s.set r i)
def TgsOk (K : PySem.W.Frag) (mg : Str → Option Value) (En : Ent) (Wx : WX) (g : TGs) (G : List D → Sl → Pst → Option (Sl × Pst)) : Prop := ∀ (F H : Hp) (pa : Option Addr) (p : Pst) (xs : List V) (ds : List D) (σ : L2.St) (ρ ρ' : Sl) (p' : Pst) (Q : L2.St → Hp → Prop), SS K En F H pa p σ ρ → Reps K F p.g pa xs ds → G ds ρ p = some (ρ', p') →
  (∀ σ' F' H' pa', Fz F p.g pa F' p'.g pa' → SS K En F' H' pa' p' σ' ρ' → Q σ' H') → g xs σ H Q
def tgNil : List D → Sl → Pst → Option (Sl × Pst) := fun ds ρ p => match ds with
  | [] => some (ρ, p)
  | _ => none
def tgCons (f : D → Sl → Pst → Option (Sl × Pst)) (fs : List D → Sl → Pst → Option (Sl × Pst)) : List D → Sl → Pst → Option (Sl × Pst) := fun ds ρ p => match ds with
  | d :: r => (match f d ρ p with
    | some (ρ1, p1) => fs r ρ1 p1
    | none => none)
  | [] => none
theorem tgs_nil {K : PySem.W.Frag} {mg : Str → Option Value} : TgsOk K mg En Wx gNil tgNil := by
  intro F H pa p xs ds σ ρ ρ' p' Q s r e k
  cases ds with
  | nil =>
    have hx := List.eq_nil_of_length_eq_zero r.1
    cases e
    exact ⟨hx, k σ F H pa .refl s⟩
  | cons d ds => cases e
theorem tgs_cons {K : PySem.W.Frag} {mg : Str → Option Value} {g : TG} {gs : TGs} {f : D → Sl → Pst → Option (Sl × Pst)} {fs : List D → Sl → Pst → Option (Sl × Pst)} (h1 : TgOk K mg En Wx g f) (h2 : TgsOk K mg En Wx gs fs) : TgsOk K mg En Wx (gCons g gs) (tgCons f fs) := by
  intro F H pa p xs ds σ ρ ρ' p' Q s r e k
  cases ds with
  | nil => cases e
  | cons d ds =>
    rcases r.cases with ⟨_, z⟩ | ⟨x, y, xs', ys', rfl, z, r1, r2⟩
    · cases z
    · cases z
      simp only [tgCons] at e
      cases q : f d ρ p with
      | none => rw [q] at e; cases e
      | some w =>
        obtain ⟨ρ1, p1⟩ := w
        rw [q] at e
        refine ⟨x, xs', rfl, h1 F H pa p x d σ ρ ρ1 p1 _ s r1 q fun σ1 F1 H1 pa1 fz1 s1 => ?_⟩
        exact h2 F1 H1 pa1 p1 xs' ds σ1 ρ1 ρ' p' Q s1 (Reps.mono r2 fz1) e fun σ2 F2 H2 pa2 fz2 s2 => k σ2 F2 H2 pa2 (fz1.trans fz2) s2
def tgTup (n : Nat) (fs : List D → Sl → Pst → Option (Sl × Pst)) : D → Sl → Pst → Option (Sl × Pst) := fun d ρ p => match d with
  | .tup xs => if xs.length = n then fs xs ρ p else none
  | _ => none
theorem tg_tup {K : PySem.W.Frag} {mg : Str → Option Value} {n : Nat} {g : TGs} {fs : List D → Sl → Pst → Option (Sl × Pst)} (h : TgsOk K mg En Wx g fs) : TgOk K mg En Wx (gTup K n g) (tgTup n fs) := by
  intro F H pa p x d σ ρ ρ' p' Q s r e k
  cases d <;> first | (simp [tgTup] at e; done) | skip
  simp only [tgTup] at e
  split at e
  · rename_i hn
    obtain ⟨a, ws, rfl, h1, hz, rs⟩ := r.tupH s.gs
    exact ⟨a, ws, rfl, SqT.of h1, by rw [rs.1]; exact hn, h F H pa p ws _ σ ρ ρ' p' Q s rs e k⟩
  · cases e
/-- x[i] = d: an own list, or the pot -/
def setPot (p : Pst) : D → D → Option Pst
  | .int 0, .int n => some { p with a := n }
  | .int 1, .int n => some { p with b := n }
  | _, _ => none
def tgSub (r : Nat) (mi : M D) : D → Sl → Pst → Option (Sl × Pst) := fun d ρ p => match mi ρ p with
  | .ok k p1 => (match ρ[r]? with
    | some (some (.own xs)) => (match k with
      | .int k => (match ixN xs.length k with
        | some j => some (ρ.set r (some (.own (xs.set j d))), p1)
        | none => none)
      | _ => none)
    | some (some (.val (.pot g))) => if g = p1.g then (setPot p1 k d).map fun p2 => (ρ, p2) else none
    | _ => none)
  | _ => none
theorem SS.pot {K : PySem.W.Frag} {F H : Hp} {pa : Option Addr} {p p' : Pst} {σ : L2.St} {ρ : Sl} {a : Addr} (s : SS K En F H pa p σ ρ) (ha : pa = some a) (hg : p'.g = p.g) : SS K En F (L2.upd H a (.lst [.int p'.a, .int p'.b])) pa p' σ ρ := by
  obtain ⟨h1, h2⟩ := s.gs.pot a ha
  refine ⟨⟨by rw [hg]; exact s.gr.fz, s.gr.new, fun b o z1 z2 => ?_, fun b o z1 => ?_, s.gr.pot⟩, ⟨fun b o z => ?_, fun b z => ?_⟩, ⟨s.sr.len, fun j w h => ?_, s.sr.apart⟩, s.nw⟩
  · have hb : b ≠ a := fun t => by
      subst t
      rcases s.gr.pot with z | ⟨c, z, hc⟩
      · exact z2 (by rw [← z]; exact ha)
      · rw [ha] at z; cases z; rw [z1] at hc; cases hc
    rw [upd_ne hb]; exact s.gr.keep b o z1 z2
  · by_cases hb : b = a
    · exact ⟨_, by rw [hb]; exact upd_same⟩
    · rw [upd_ne hb]; exact s.gr.there b o z1
  · rw [upd_ne fun t => ?_]; exact s.gs.sub b o z
    subst t; rw [h2] at z; cases z
  · rw [ha] at z
    cases z
    exact ⟨upd_same, h2⟩
  · obtain ⟨v2, e2, r2⟩ := s.sr.rep j w h
    refine ⟨v2, e2, ?_⟩
    cases w with
    | val d => rw [hg]; exact r2
    | own zs =>
      obtain ⟨b, ws2, z1, z2, z3, z4, z5, z6⟩ := r2
      refine ⟨b, ws2, z1, ?_, z3, z4, z5, by rw [hg]; exact z6⟩
      rw [upd_ne fun t => ?_]; exact z2
      subst t
      exact z4 ha
theorem setPot_g {p p' : Pst} {k d : D} (h : setPot p k d = some p') : p'.g = p.g := by
  unfold setPot at h
  split at h <;> first | (cases h; rfl) | cases h
theorem tg_sub {r : Nat} {mi : M D} : TgOk X.K X.mg En Wx (gSub (tVar r) (TM X.K X.mg Wx mi) rSetL) (tgSub r mi) := by
  intro F H pa p x d σ ρ ρ' p' Q s rx e k
  unfold tgSub at e
  cases q0 : mi ρ p with
  | stuck => rw [q0] at e; cases e
  | exc y p1 => rw [q0] at e; cases e
  | ok kd p1 =>
    rw [q0] at e
    simp only at e
    have tm : ∀ (R : VK), (∀ v F' H' pa', Gr F H p.g pa F' H' p1.g pa' → GS F' H' pa' p1 → Rep X.K F' p1.g pa' v kd → R v H') → TM X.K X.mg Wx mi σ H R := fun R hR =>
      ⟨F, pa, p, ρ, s.gs, s.sr, by rw [q0]; exact fun F' H' pa' gr gs v r => hR v F' H' pa' gr gs r⟩
    split at e
    · rename_i xs q
      obtain ⟨a, vs, e1, _⟩ := s.own q
      refine ⟨_, e1, tm _ fun v F' H' pa' gr gs rk => ?_⟩
      have s' := s.grow gr gs
      obtain ⟨a', vs', e2, h2, hz, rs⟩ := s'.own q
      rw [e1] at e2
      cases e2
      split at e
      · rename_i kk
        cases rk
        split at e
        · rename_i j qj
          cases e
          refine ⟨a, vs', kk, j, rfl, rfl, h2, by rw [rs.1]; exact qj, ?_⟩
          exact k σ F' _ pa' gr.fz (s'.upd q e1 (by simpa using hz) (rs.set (rx.mono gr.fz) j))
        · cases e
      · cases e
    · rename_i g q
      split at e
      · rename_i hg
        cases q2 : setPot p1 kd d with
        | none => rw [q2] at e; cases e
        | some p2 =>
          rw [q2] at e
          cases e
          obtain ⟨v0, e1, r0⟩ := s.sr.rep r _ q
          refine ⟨_, e1, tm _ fun v F' H' pa' gr gs rk => ?_⟩
          have s' := s.grow gr gs
          have r0' : Rep X.K F' p1.g pa' v0 (.pot g) := Rep.mono r0 gr.fz
          cases r0' with
          | pot h1 h2 =>
            obtain ⟨a, ha, rfl⟩ := h2 hg
            obtain ⟨h3, _⟩ := gs.pot a ha
            have rx' := rx.mono gr.fz
            have hg2 := setPot_g q2
            have s2 := s'.pot ha hg2
            unfold setPot at q2
            split at q2 <;> first | (cases q2; done) | skip
            · cases rk; cases rx'
              cases q2
              exact ⟨a, _, 0, 0, rfl, rfl, h3, rfl, k σ F' _ pa' gr.fz s2⟩
            · cases rk; cases rx'
              cases q2
              exact ⟨a, _, 1, 1, rfl, rfl, h3, rfl, k σ F' _ pa' gr.fz s2⟩
      · cases e
    · cases e
def casgT (G : D → Sl → Pst → Option (Sl × Pst)) (me : M D) : C := eout me fun d ρ p => match G d ρ p with
  | some (ρ', p') => .nx ρ' p'
  | none => .stuck
theorem cs_asgT {g : TG} {G : D → Sl → Pst → Option (Sl × Pst)} {st : Stmt} (h : PS X st (tAsg (TM X.K X.mg Wx me) g)) (hG : TgOk X.K X.mg En Wx g G) : PMs X En Wx st (casgT G me) := ⟨h.imp fun Dn σ H ⟨F, pa, p, ρ, s, o⟩ => by
  refine tm_s s o fun v d p' F' H' pa' s' _ r o' => ?_
  cases q : G d ρ p' with
  | none => rw [q] at o'; exact o'.elim
  | some w =>
    obtain ⟨ρ1, p1⟩ := w
    rw [q] at o'
    exact hG F' H' pa' p' v d σ ρ ρ1 p1 _ s' r q fun σ2 F2 H2 pa2 fz2 s2 => o' σ2 F2 H2 pa2 fz2 s2⟩
end
end PF

namespace PF
open PySem PySem.Spec PyProof.Rows L2

section
variable {X : Cx} {En : Ent} {Wx : WX} {st : Stmt} {sts : List Stmt} {m m' : C} {ms mi : M (List D)} {e a b : Expr} {me ma mb : M D} {mo : M (List D)} {mt : M Bool} {pos : Pos} {i : Nat} {x : Str} {es : List Expr}
/-! ### loops -/
def cforGo (G : D → Sl → Pst → Option (Sl × Pst)) (body : C) : List D → C
  | [] => cskip
  | d :: ds => fun ρ p => match G d ρ p with
    | none => .stuck
    | some (ρ1, p1) => (match body ρ1 p1 with
      | .nx ρ' p' => cforGo G body ds ρ' p'
      | .ct ρ' p' => cforGo G body ds ρ' p'
      | .bk ρ' p' => .nx ρ' p'
      | r => r)
def cfor (mi : M (List D)) (G : D → Sl → Pst → Option (Sl × Pst)) (body : C) : C := eout mi fun items => cforGo G body items
theorem cs_for {iter tg : Expr} {body : List Stmt} {g : TG} {G : D → Sl → Pst → Option (Sl × Pst)} {cb : C} (hp : PassesOwn (model X.prog X.w) X.A X.env X.xe) (hc : X.calm = true) (hi : PMi X Wx tg iter mi) (hg : PG X tg g) (hG : TgOk X.K X.mg En Wx g G) (hb : PMss X En Wx body cb)
    (hs : ∀ x, foldedSetIterable iter X.env x = pure x := by intro _; rfl) : PMs X En Wx (.For tg iter body [] pos) (cfor mi G cb) := ⟨(ps_for hp hc hi.pi hg hb.ps hs).imp fun Dn σ H ⟨F, pa, p, ρ, s, o⟩ => by
  refine ⟨F, pa, p, ρ, s.gs, s.sr, (o.expr s).mono fun items p1 F1 H1 pa1 gr1 gs1 ⟨s1, o1⟩ J hJ hz => ?_⟩
  refine ⟨fun i m σ' H' => m = items.length - i ∧ i ≤ items.length ∧ ∃ F' pa' p' ρ', Fz F1 p1.g pa1 F' p'.g pa' ∧ SS X.K En F' H' pa' p' σ' ρ' ∧ SOut X.K X.mg En Wx F' p'.g pa' Dn (cforGo G cb (items.drop i) ρ' p'), ⟨_, rfl, Nat.zero_le _, F1, pa1, p1, ρ, .refl, s1, by simpa using o1⟩, ?_⟩
  rintro i m σ2 H2 ⟨rfl, hi, F2, pa2, p2, ρ2, fz2, s2, o2⟩
  obtain ⟨hst, hgo⟩ := hJ i F2 H2 pa2 p2 fz2 s2.gs
  by_cases hlt : i < items.length
  · obtain ⟨hg1, hy⟩ := hgo items[i] (by simp [hlt])
    rw [List.drop_eq_getElem_cons hlt] at o2
    simp only [cforGo] at o2
    cases q : G items[i] ρ2 p2 with
    | none => rw [q] at o2; exact o2.elim
    | some w =>
      obtain ⟨ρ3, p3⟩ := w
      rw [q] at o2
      simp only at o2
      refine .inr ⟨hg1, fun σ' H' => (i + 1 ≤ items.length ∧ ∃ F' pa' p' ρ', Fz F1 p1.g pa1 F' p'.g pa' ∧ SS X.K En F' H' pa' p' σ' ρ' ∧ SOut X.K X.mg En Wx F' p'.g pa' Dn (cforGo G cb (items.drop (i + 1)) ρ' p')), fun σ' H' ⟨h1, h2⟩ => ⟨_, by omega, rfl, h1, h2⟩, fun x H' yl => ?_⟩
      obtain ⟨F', gr', gs', rx⟩ := hy x H' yl
      have s' := s2.grow gr' gs'
      refine hG F' H' pa2 p2 x _ σ2 ρ2 ρ3 p3 _ s' rx q fun σ4 F4 H4 pa4 fz4 s4 => ?_
      refine ⟨F4, pa4, p3, ρ3, s4, ?_⟩
      have fzA : Fz F1 p1.g pa1 F4 p3.g pa4 := (fz2.trans gr'.fz).trans fz4
      have o4 := o2.later (gr'.fz.trans fz4)
      cases q5 : cb ρ3 p3 with
      | nx ρ5 p5 =>
        rw [q5] at o4
        exact fun σ5 F5 H5 pa5 fz5 s5 => ⟨hlt, F5, pa5, p5, ρ5, fzA.trans fz5, s5, o4.later fz5⟩
      | ct ρ5 p5 =>
        rw [q5] at o4
        exact fun σ5 F5 H5 pa5 fz5 s5 => ⟨hlt, F5, pa5, p5, ρ5, fzA.trans fz5, s5, o4.later fz5⟩
      | bk ρ5 p5 =>
        rw [q5] at o4
        exact fun σ5 F5 H5 pa5 fz5 s5 => o4 σ5 F5 H5 pa5 fz5 s5
      | rt d fr p5 => rw [q5] at o4; exact o4
      | exc y ρ5 p5 => rw [q5] at o4; exact o4
      | stuck => rw [q5] at o4; exact o4.elim
  · have hi2 : items.length ≤ i := by omega
    rw [List.drop_eq_nil_of_le hi2] at o2
    exact .inl ⟨hst hi2, o2 σ2 F2 H2 pa2 .refl s2⟩⟩
def cwhile (mt : M Bool) (body : C) : Nat → C
  | 0 => cstuck
  | n + 1 => eout mt fun k => if k = true then (fun ρ p => match body ρ p with
    | .nx ρ' p' => cwhile mt body n ρ' p'
    | .ct ρ' p' => cwhile mt body n ρ' p'
    | .bk ρ' p' => .nx ρ' p'
    | r => r) else cskip
theorem cs_while {c : Expr} {body : List Stmt} {cb : C} (n : Nat) (hp : PassesOwn (model X.prog X.w) X.A X.env X.xe) (hc : PMt X Wx c mt) (hb : PMss X En Wx body cb) : PMs X En Wx (.While c body [] pos) (cwhile mt cb n) := ⟨(ps_while hp hc.pt hb.ps).imp fun Dn σ H ⟨F, pa, p, ρ, s, o⟩ => by
  refine ⟨fun m σ' H' => ∃ F' pa' p' ρ', SS X.K En F' H' pa' p' σ' ρ' ∧ SOut X.K X.mg En Wx F' p'.g pa' Dn (cwhile mt cb m ρ' p'), ⟨n, F, pa, p, ρ, s, o⟩, ?_⟩
  rintro m σ1 H1 ⟨F1, pa1, p1, ρ1, s1, o1⟩
  cases m with
  | zero => exact o1.elim
  | succ m =>
    refine ⟨F1, pa1, p1, ρ1, s1.gs, s1.sr, (o1.expr s1).mono fun k p2 F2 H2 pa2 gr2 gs2 ⟨s2, o2⟩ => ?_⟩
    cases k with
    | false =>
      simp only [Bool.false_eq_true, if_false] at o2 ⊢
      exact o2 σ1 F2 H2 pa2 .refl s2
    | true =>
      simp only [if_true] at o2 ⊢
      refine ⟨fun σ' H' => ∃ F' pa' p' ρ', SS X.K En F' H' pa' p' σ' ρ' ∧ SOut X.K X.mg En Wx F' p'.g pa' Dn (cwhile mt cb m ρ' p'), fun σ' H' h => ⟨m, Nat.lt_succ_self m, h⟩, F2, pa2, p2, ρ1, s2, ?_⟩
      cases q5 : cb ρ1 p2 with
      | nx ρ5 p5 =>
        rw [q5] at o2
        exact fun σ5 F5 H5 pa5 fz5 s5 => ⟨F5, pa5, p5, ρ5, s5, o2.later fz5⟩
      | ct ρ5 p5 =>
        rw [q5] at o2
        exact fun σ5 F5 H5 pa5 fz5 s5 => ⟨F5, pa5, p5, ρ5, s5, o2.later fz5⟩
      | bk ρ5 p5 =>
        rw [q5] at o2
        exact fun σ5 F5 H5 pa5 fz5 s5 => o2 σ5 F5 H5 pa5 fz5 s5
      | rt d fr p5 => rw [q5] at o2; exact o2
      | exc y ρ5 p5 => rw [q5] at o2; exact o2
      | stuck => rw [q5] at o2; exact o2.elim⟩

/-! ### own lists are read -/
def mIxO (i : Nat) (mb : M D) : M D := fun ρ p => match ρ[i]? with
  | some (some (.own xs)) => mbind mb (fun y => mopt (match y with
    | .int k => atI xs k
    | _ => none)) ρ p
  | _ => .stuck
theorem pm_ixo (ha : PE X (.Name x pos) (tVar i)) (hb : PM X Wx b mb) {pos'} (hs : PlainIx b := by exact fun _ _ => rfl) : PM X Wx (.Subscript (.Name x pos) b pos') (mIxO i mb) := ⟨(pe_ix ix_seq ha hb.pe hs).imp fun σ H Q ⟨F, pa, p, ρ, gs, s, o⟩ => by
  unfold mIxO at o
  split at o <;> first | exact o.elim | skip
  rename_i xs q
  obtain ⟨v, e1, a, vs, rfl, h2, h3, h4, h5, h6⟩ := s.rep i _ q
  refine ⟨_, e1, TM.of gs s (o.bind.mono fun y p1 F1 H1 pa1 gr1 gs1 o1 s1 v1 r1 => ?_)⟩
  obtain ⟨z, ez, o2⟩ := o1.opt
  split at ez <;> first | (cases ez; done) | skip
  cases r1
  have h6' := h6.mono gr1.fz
  obtain ⟨v2, e2, r2⟩ := atI_rep h6' ez
  exact .inl ⟨a, vs, _, v2, rfl, rfl, SqL.of (gr1.keep _ _ h2 h4), e2, o2.ret gs1 _ r2⟩⟩
/-- the own lists stand as values, for a while -/
def thaw (ρ : Sl) : Sl := ρ.map fun o => o.map fun w => match w with
  | .own xs => .val (.lst xs)
  | .val d => .val d
theorem thaw_get {ρ : Sl} {i : Nat} {w : W} (h : (thaw ρ)[i]? = some (some w)) : ∃ w0, ρ[i]? = some (some w0) ∧ ((∃ xs, w0 = .own xs ∧ w = .val (.lst xs)) ∨ ∃ d, w0 = .val d ∧ w = .val d) := by
  unfold thaw at h
  rw [List.getElem?_map] at h
  cases q : ρ[i]? with
  | none => rw [q] at h; cases h
  | some o =>
    rw [q] at h
    cases o with
    | none => cases h
    | some w0 =>
      refine ⟨w0, rfl, ?_⟩
      cases w0 with
      | own xs => simp at h; exact .inl ⟨xs, rfl, h.symm⟩
      | val d => simp at h; exact .inr ⟨d, rfl, h.symm⟩
open Classical in
theorem thaw_state {K : PySem.W.Frag} {F H : Hp} {pa : Option Addr} {p : Pst} {σ : L2.St} {ρ : Sl} (gs : GS F H pa p) (s : SRel K F H p.g pa σ ρ) : ∃ F', Fz F p.g pa F' p.g pa ∧ GS F' H pa p ∧ SRel K F' H p.g pa σ (thaw ρ) := by
  let own : Addr → Prop := fun a => ∃ (i : Nat) (xs : List D), ρ[i]? = some (some (W.own xs)) ∧ σ[i]? = some (some (V.ref a))
  have hown : ∀ a, own a → F a = none ∧ pa ≠ some a ∧ ∃ o, H a = some o := fun a ⟨i, xs, h1, h2⟩ => by
    obtain ⟨v, e1, b, vs, rfl, z2, z3, z4, _⟩ := s.rep i _ h1
    rw [h2] at e1
    cases e1
    exact ⟨z3, z4, _, z2⟩
  have fz : Fz F p.g pa (fun a => if own a then H a else F a) p.g pa := ⟨fun a o h => by
    by_cases c : own a
    · rw [(hown a c).1] at h; cases h
    · simp only [c, if_false]; exact h, Nat.le_refl _, fun _ => rfl⟩
  refine ⟨_, fz, ⟨fun a o h => ?_, fun a h => ⟨(gs.pot a h).1, ?_⟩⟩, ⟨by rw [thaw, List.length_map]; exact s.len, fun i w h => ?_, fun i j xs ys v h1 => ?_⟩⟩
  · by_cases c : own a
    · simp only [c, if_true] at h; exact h
    · simp only [c, if_false] at h; exact gs.sub a o h
  · by_cases c : own a
    · exact absurd h (hown a c).2.1
    · simp only [c, if_false]; exact (gs.pot a h).2
  · obtain ⟨w0, h0, h⟩ := thaw_get h
    obtain ⟨v, e1, r⟩ := s.rep i _ h0
    refine ⟨v, e1, ?_⟩
    rcases h with ⟨xs, rfl, rfl⟩ | ⟨d, rfl, rfl⟩
    · obtain ⟨a, vs, rfl, h2, h3, h4, h5, h6⟩ := r
      have c : own a := ⟨i, xs, h0, e1⟩
      exact Rep.lst' (by simp only [c, if_true]; exact h2) h5 (h6.mono fz)
    · exact Rep.mono r fz
  · obtain ⟨w0, h0, h⟩ := thaw_get h1
    rcases h with ⟨_, _, z⟩ | ⟨_, _, z⟩ <;> cases z
def scal : D → Bool
  | .non | .bl _ | .int _ | .str _ => true
  | _ => false
theorem scal_rep {K : PySem.W.Frag} {F F' : Hp} {g g' : Nat} {pa pa' : Option Addr} {v : V} {d : D} (h : scal d = true) (r : Rep K F g pa v d) : Rep K F' g' pa' v d := by
  cases r <;> first | (cases h; done) | constructor
def mscal (m : M D) : M D := fun ρ p => match m (thaw ρ) p with
  | .ok d p' => if scal d = true then .ok d p' else .stuck
  | _ => .stuck
def mscalt (m : M Bool) : M Bool := fun ρ p => match m (thaw ρ) p with
  | .ok d p' => .ok d p'
  | _ => .stuck
theorem thaw_back {F F1 H F' H' : Hp} {g : Nat} {pa pa' : Option Addr} {p' : Pst} (fz : Fz F g pa F1 g pa) (gr : Gr F1 H g pa F' H' p'.g pa') (gs : GS F' H' pa' p') : Gr F H g pa F H' p'.g pa' ∧ GS F H' pa' p' :=
  ⟨⟨⟨fun _ _ h => h, gr.fz.gle, gr.fz.same⟩, fun a o h => .inl h, gr.keep, gr.there, gr.pot⟩, ⟨fun a o h => gs.sub a o (gr.fz.sub a o (fz.sub a o h)), fun a h => ⟨(gs.pot a h).1, by
    cases q : F a with
    | none => rfl
    | some o =>
      have z := (gs.pot a h).2
      rw [gr.fz.sub a o (fz.sub a o q)] at z
      cases z⟩⟩⟩
theorem pm_scal (h : PM X Wx e me) : PM X Wx e (mscal me) := ⟨h.pe.imp fun σ H Q ⟨F, pa, p, ρ, gs, s, o⟩ => by
  obtain ⟨F1, fz, gs1, s1⟩ := thaw_state gs s
  refine ⟨F1, pa, p, thaw ρ, gs1, s1, ?_⟩
  unfold mscal at o
  cases q : me (thaw ρ) p with
  | stuck => rw [q] at o; exact o
  | exc y p' => rw [q] at o; exact o.elim
  | ok d p' =>
    rw [q] at o
    simp only at o
    by_cases hd : scal d = true
    · rw [if_pos hd] at o
      intro F' H' pa' gr gs' v r
      obtain ⟨gr2, gs2⟩ := thaw_back fz gr gs'
      exact o F H' pa' gr2 gs2 v (scal_rep hd r)
    · rw [if_neg hd] at o; exact o.elim⟩
theorem pmt_scal (h : PMt X Wx e mt) : PMt X Wx e (mscalt mt) := ⟨h.pt.imp fun σ H Q ⟨F, pa, p, ρ, gs, s, o⟩ => by
  obtain ⟨F1, fz, gs1, s1⟩ := thaw_state gs s
  refine ⟨F1, pa, p, thaw ρ, gs1, s1, ?_⟩
  unfold mscalt at o
  cases q : mt (thaw ρ) p with
  | stuck => rw [q] at o; exact o
  | exc y p' => rw [q] at o; exact o.elim
  | ok d p' =>
    rw [q] at o
    intro F' H' pa' gr gs'
    obtain ⟨gr2, gs2⟩ := thaw_back fz gr gs'
    exact o F H' pa' gr2 gs2⟩

/-! ### several stores at once -/
def WF (K : PySem.W.Frag) (F H0 H : Hp) (g : Nat) (pa : Option Addr) (v : V) : W → Prop
  | .val d => Rep K F g pa v d
  | .own xs => ∃ a vs, v = .ref a ∧ H0 a = none ∧ H a = some (.lst vs) ∧ F a = none ∧ pa ≠ some a ∧ xs.length ≤ sizeLine ∧ Reps K F g pa vs xs
structure WReps (K : PySem.W.Frag) (F H0 H : Hp) (g : Nat) (pa : Option Addr) (vs : List V) (ws : List W) : Prop where
  rep : AllR (WF K F H0 H g pa) vs ws
  ne : ∀ (i j : Nat) xs ys v, ws[i]? = some (.own xs) → ws[j]? = some (.own ys) → vs[i]? = some v → vs[j]? = some v → i = j
def TMu (K : PySem.W.Frag) (mg : Str → Option Value) (Wx : WX) (m : M (List W)) : TA := fun σ H Q => At K mg Wx m σ H fun _ _ ws p' F' H' pa' => ∀ vs, WReps K F' H H' p'.g pa' vs ws → Q vs H'
structure PMu (X : Cx) (Wx : WX) (es : List Expr) (m : M (List W)) : Prop where
  pa : PA X es (TMu X.K X.mg Wx m)
theorem pmu_nil : PMu X Wx [] (mret []) := ⟨pa_nil.imp fun σ H Q ⟨F, pa, p, ρ, gs, s, o⟩ => o.ret gs _ ⟨.nil, fun i j xs ys v h => by cases h⟩⟩
def muV (ma : M D) (ms : M (List W)) : M (List W) := mbind ma fun d => mbind ms fun ws => mret (.val d :: ws)
def muO (ma : M (List D)) (ms : M (List W)) : M (List W) := mbind ma fun d => mbind ms fun ws => mret (.own d :: ws)
theorem WF.older {K : PySem.W.Frag} {F H0 H1 H : Hp} {g : Nat} {pa : Option Addr} {v : V} {w : W} (h : WF K F H1 H g pa v w) (t : ∀ a, H1 a = none → H0 a = none) : WF K F H0 H g pa v w := by
  cases w with
  | val d => exact h
  | own xs =>
    obtain ⟨a, vs, e, h0, r⟩ := h
    exact ⟨a, vs, e, t a h0, r⟩
theorem pmu_val {mu : M (List W)} (ha : PM X Wx e ma) (hr : PMu X Wx es mu) (hs : starEach (e :: es) X.env = (false, eval e X.env) :: starEach es X.env := by rfl) : PMu X Wx (e :: es) (muV ma mu) := ⟨(pa_cons ha.pe hr.pa hs).imp fun σ H Q ⟨F, pa, p, ρ, gs, s, o⟩ => by
  refine TM.of gs s (o.bind.mono fun d p1 F1 H1 pa1 gr1 gs1 o1 s1 v1 r1 => ?_)
  refine ⟨F1, pa1, p1, ρ, gs1, s1, o1.bind.mono fun ws p2 F2 H2 pa2 gr2 gs2 o2 vs rs => ?_⟩
  refine o2.ret gs2 _ ⟨.cons (show WF _ _ _ _ _ _ _ (.val d) from r1.mono gr2.fz) (rs.rep.mono fun v w h => h.older fun a z => gr1.free0 z), fun i j xs ys v h1 h2 h3 h4 => ?_⟩
  cases i with
  | zero => simp at h1
  | succ i =>
    cases j with
    | zero => simp at h2
    | succ j => simp at h1 h2 h3 h4; rw [rs.ne i j xs ys v h1 h2 h3 h4]⟩
theorem pmu_own {mu : M (List W)} (ha : PMo X Wx e mo) (hr : PMu X Wx es mu) (hs : starEach (e :: es) X.env = (false, eval e X.env) :: starEach es X.env := by rfl) : PMu X Wx (e :: es) (muO mo mu) := ⟨(pa_cons ha.pe hr.pa hs).imp fun σ H Q ⟨F, pa, p, ρ, gs, s, o⟩ => by
  refine ⟨F, pa, p, ρ, gs, s, o.bind.mono fun ds p1 F1 H1 pa1 gr1 gs1 o1 a vs0 h1 h2 h3 h4 h5 h6 => ?_⟩
  refine ⟨F1, pa1, p1, ρ, gs1, s.grow gr1, o1.bind.mono fun ws p2 F2 H2 pa2 gr2 gs2 o2 vs rs => ?_⟩
  have hF2 : F2 a = none := by
    cases q : F2 a with
    | none => rfl
    | some u =>
      rcases gr2.new _ _ q with z | z
      · rw [h3] at z; cases z
      · rw [h2] at z; cases z
  have hp2 : pa2 ≠ some a := fun z => by
    rcases gr2.pot with z2 | ⟨b, z2, hb⟩
    · exact h4 (by rw [← z2]; exact z)
    · rw [z2] at z; cases z; rw [h2] at hb; cases hb
  have later : ∀ (j : Nat) ys, ws[j]? = some (.own ys) → vs[j]? ≠ some (.ref a) := fun j ys q z => by
    obtain ⟨b, _, e, hb, _⟩ := rs.rep.2 j _ _ z q
    cases e
    rw [h2] at hb; cases hb
  refine o2.ret gs2 _ ⟨.cons (show WF _ _ _ _ _ _ _ (.own ds) from ⟨a, vs0, rfl, h1, gr2.keep _ _ h2 h4, hF2, hp2, h5, h6.mono gr2.fz⟩) (rs.rep.mono fun v w h => h.older fun a z => gr1.free0 z), fun i j xs ys v q1 q2 q3 q4 => ?_⟩
  cases i with
  | zero =>
    cases j with
    | zero => rfl
    | succ j => simp at q1 q2 q3 q4; subst q3; exact absurd q4 (later j ys q2)
  | succ i =>
    cases j with
    | zero => simp at q1 q2 q3 q4; subst q4; exact absurd q3 (later i xs q1)
    | succ j => simp at q1 q2 q3 q4; rw [rs.ne i j xs ys v q1 q2 q3 q4]⟩
def setsS : List Nat → List W → Sl → Sl
  | i :: is, w :: ws, ρ => setsS is ws (ρ.set i (some w))
  | _, _, ρ => ρ
def setsV : List Nat → List V → L2.St → L2.St
  | i :: is, v :: vs, σ => setsV is vs (σ.set i (some v))
  | _, _, σ => σ
def WFr (K : PySem.W.Frag) (En : Ent) (F H : Hp) (g : Nat) (pa : Option Addr) (v : V) : W → Prop
  | .val d => Rep K F g pa v d
  | .own xs => ∃ a vs, v = .ref a ∧ En.H a = none ∧ H a = some (.lst vs) ∧ F a = none ∧ pa ≠ some a ∧ xs.length ≤ sizeLine ∧ Reps K F g pa vs xs
theorem SS.sets {K : PySem.W.Frag} {F H : Hp} {pa : Option Addr} {p : Pst} : ∀ (is : List Nat) (vs : List V) (ws : List W) (σ : L2.St) (ρ : Sl), SS K En F H pa p σ ρ → AllR (WFr K En F H p.g pa) vs ws →
    (∀ (i j : Nat) xs ys v, ws[i]? = some (.own xs) → ws[j]? = some (.own ys) → vs[i]? = some v → vs[j]? = some v → i = j) →
    (∀ (k j : Nat) xs ys v, ws[k]? = some (.own xs) → vs[k]? = some v → ρ[j]? = some (some (.own ys)) → σ[j]? ≠ some (some v)) → SS K En F H pa p (setsV is vs σ) (setsS is ws ρ) := by
  intro is
  induction is with
  | nil => intro vs ws σ ρ s _ _ _; cases vs <;> cases ws <;> exact s
  | cons i is ih =>
    intro vs ws σ ρ s r hne hfr
    rcases r.cases with ⟨rfl, rfl⟩ | ⟨v, w, vs', ws', rfl, rfl, r1, r2⟩
    · exact s
    · simp only [setsV, setsS]
      have hne' : ∀ (a b : Nat) xs ys u, ws'[a]? = some (.own xs) → ws'[b]? = some (.own ys) → vs'[a]? = some u → vs'[b]? = some u → a = b := fun a b xs ys u h1 h2 h3 h4 => by
        have := hne (a + 1) (b + 1) xs ys u (by simpa using h1) (by simpa using h2) (by simpa using h3) (by simpa using h4)
        omega
      have hfr' : ∀ (k j : Nat) xs ys u, ws'[k]? = some (.own xs) → vs'[k]? = some u → (ρ.set i (some w))[j]? = some (some (.own ys)) → (σ.set i (some v))[j]? ≠ some (some u) := fun k j xs ys u h1 h2 h3 h4 => by
        rw [List.getElem?_set] at h3 h4
        by_cases e : i = j
        · rw [if_pos e] at h3 h4
          split at h3
          · split at h4
            · cases h3; cases h4
              have := hne 0 (k + 1) ys xs v rfl (by simpa using h1) rfl (by simpa using h2)
              omega
            · cases h4
          · cases h3
        · rw [if_neg e] at h3 h4
          exact hfr (k + 1) j xs ys u (by simpa using h1) (by simpa using h2) h3 h4
      refine ih vs' ws' _ _ ?_ r2 hne' hfr'
      cases w with
      | val d => exact s.set r1 i
      | own xs =>
        obtain ⟨a, us, rfl, h1, h2, h3, h4, h5, h6⟩ := r1
        exact s.setO (H0 := H) i h1 (fun j ys q => hfr 0 j xs ys _ rfl rfl q) h2 h3 h4 h5 h6
def casgW (is : List Nat) (mu : M (List W)) : C := eout mu fun ws ρ p => if ws.length = is.length then .nx (setsS is ws ρ) p else .stuck
theorem tmu_s {K : PySem.W.Frag} {mg : Str → Option Value} {F H : Hp} {pa : Option Addr} {p : Pst} {σ : L2.St} {ρ : Sl} {Dn : Ends} {is : List Nat} {mu : M (List W)} {Q : List V → Hp → Prop} (s : SS K En F H pa p σ ρ) (o : SOut K mg En Wx F p.g pa Dn (casgW is mu ρ p))
    (h : ∀ vs ws p' F' H' pa', SS K En F' H' pa' p' σ ρ → Fz F p.g pa F' p'.g pa' → vs.length = is.length → SS K En F' H' pa' p' (setsV is vs σ) (setsS is ws ρ) → SOut K mg En Wx F' p'.g pa' Dn (.nx (setsS is ws ρ) p') → Q vs H') : TMu K mg Wx mu σ H Q :=
  ⟨F, pa, p, ρ, s.gs, s.sr, (o.expr s).mono fun ws p' F' H' pa' gr gs ⟨s', o'⟩ vs r => by
    by_cases hc : ws.length = is.length
    · rw [if_pos hc] at o'
      refine h vs ws p' F' H' pa' s' gr.fz (by rw [r.rep.1]; exact hc) (SS.sets is vs ws σ ρ s' (r.rep.mono fun v w q => ?_) r.ne fun k j xs ys v h1 h2 h3 h4 => ?_) o'
      · cases w with
        | val d => exact q
        | own xs =>
          obtain ⟨a, us, rfl, z1, z⟩ := q
          exact ⟨a, us, rfl, s.gr.enter z1, z⟩
      · obtain ⟨a, us, rfl, z1, z⟩ := r.rep.2 k _ _ h2 h1
        exact fresh_ne s z1 j ys h3 h4
    · rw [if_neg hc] at o'; exact o'.elim⟩
theorem cs_par {i j : Nat} {mu : M (List W)} (h : PS X st (tPar i j (TMu X.K X.mg Wx mu))) : PMs X En Wx st (casgW [i, j] mu) := ⟨h.imp fun Dn σ H ⟨F, pa, p, ρ, s, o⟩ => tmu_s s o fun vs ws p' F' H' pa' s' fz hl s2 o2 => by
  match vs, hl with
  | [v, w], _ => exact ⟨v, w, rfl, o2 _ F' H' pa' .refl s2⟩⟩
theorem cs_par3 {i j l : Nat} {mu : M (List W)} (h : PS X st (tPar3 i j l (TMu X.K X.mg Wx mu))) : PMs X En Wx st (casgW [i, j, l] mu) := ⟨h.imp fun Dn σ H ⟨F, pa, p, ρ, s, o⟩ => tmu_s s o fun vs ws p' F' H' pa' s' fz hl s2 o2 => by
  match vs, hl with
  | [v, w, u], _ => exact ⟨v, w, u, rfl, o2 _ F' H' pa' .refl s2⟩⟩
def gNs : List Nat → TGs
  | [] => gNil
  | i :: is => gCons (gName i) (gNs is)
theorem gNs_of : ∀ (is : List Nat) (vs : List V) (σ : L2.St) (H : Hp) (Q : L2.St → Hp → Prop), vs.length = is.length → Q (setsV is vs σ) H → gNs is vs σ H Q
  | [], [], σ, H, Q, _, h => ⟨rfl, h⟩
  | i :: is, v :: vs, σ, H, Q, hl, h => ⟨v, vs, rfl, gNs_of is vs _ H Q (by simpa using hl) h⟩
theorem cs_parT {is : List Nat} {n : Nat} {mu : M (List W)} (hn : is.length = n) (hz : n ≤ 4096) (h : PS X st (tAsg (tTup (TMu X.K X.mg Wx mu)) (gTup X.K n (gNs is)))) : PMs X En Wx st (casgW is mu) := ⟨h.imp fun Dn σ H ⟨F, pa, p, ρ, s, o⟩ => tmu_s s o fun vs ws p' F' H' pa' s' fz hl s2 o2 => by
  refine ⟨by rw [hl, hn]; exact lim_size hz, fun q hq => ⟨q, vs, rfl, SqT.of upd_same, by rw [hl, hn], gNs_of is vs σ _ _ hl ?_⟩⟩
  exact o2 _ F' _ pa' .refl (s2.grow (Gr.allocO hq) (s2.gs.allocO hq))⟩
end
end PF

namespace PF
open PySem PySem.Spec PyProof.Rows L2

section
variable {X : Cx} {En : Ent} {Wx : WX} {st : Stmt} {sts : List Stmt} {m m' : C} {ms mi : M (List D)} {e a b c : Expr} {me ma mb : M D} {mo mo' : M (List D)} {mt : M Bool} {pos : Pos} {i : Nat} {x : Str} {es : List Expr}
/-! ### fresh lists by operators -/
def OpSo (X : Cx) (r : R2) (op : D → D → Option (List D)) : Prop := ∀ (x y : V) (d e : D) (z : List D) (F H : Hp) (p : Pst) (pa : Option Addr) (Q : VK), GS F H pa p → Rep X.K F p.g pa x d → Rep X.K F p.g pa y e → op d e = some z →
  (∀ q vs, H q = none → z.length ≤ sizeLine → Reps X.K F p.g pa vs z → Q (.ref q) (upd H q (.lst vs))) → r x y H Q
def mOpo (op : D → D → Option (List D)) (ma mb : M D) : M (List D) := mbind ma fun x => mbind mb fun y => mopt (op x y)
theorem pmo_op {op : Operator} {r : R2} {f : D → D → Option (List D)} (ho : OpR X (binaryOp op) r) (hs : OpSo X r f) (ha : PM X Wx a ma) (hb : PM X Wx b mb) : PMo X Wx (.BinOp a op b pos) (mOpo f ma mb) := ⟨(pe_op ho ha.pe hb.pe).imp fun σ H Q ⟨F, pa, p, ρ, gs, s, o⟩ => by
  refine TM.of gs s ((Out.bindS .refl o).mono fun d p1 F1 H1 pa1 gr1' gs1 ⟨gr1, o1⟩ s1 v1 r1 => ?_)
  refine TM.of gs1 s1 ((Out.bindS gr1 o1).mono fun y p2 F2 H2 pa2 gr2' gs2 ⟨gr2, o2⟩ s2 v2 r2 => ?_)
  obtain ⟨z, ez, o3⟩ := o2.opt
  refine hs v1 v2 d y z F2 H2 p2 pa2 Q gs2 (r1.mono gr2'.fz) r2 ez fun q vs hq hz rs => ?_
  exact o3 F2 _ pa2 (gr2.trans (Gr.allocO hq)) (gs2.allocO hq) q vs (gr2.free0 hq) upd_same (gs2.fnone hq) (gs2.pne hq) hz rs⟩
def dAddO : D → D → Option (List D)
  | .lst xs, .lst ys => if xs.length + ys.length ≤ sizeLine then some (xs ++ ys) else none
  | _, _ => none
theorem opso_cat : OpSo X rCat dAddO := by
  intro x y d e z F H p pa Q gs rx ry ez k
  cases d <;> cases e <;> first | (simp [dAddO] at ez; done) | skip
  simp only [dAddO] at ez
  split at ez
  · rename_i hc
    simp only [Option.some.injEq] at ez
    subst ez
    obtain ⟨l, xs, rfl, hl, hz1, r1⟩ := rx.lstH gs
    obtain ⟨m, ys, rfl, hm, hz2, r2⟩ := ry.lstH gs
    refine ⟨l, m, xs, ys, rfl, rfl, hl, hm, by rw [r1.1, r2.1]; exact hc, fun q hq => ?_⟩
    exact k _ _ hq (by rw [List.length_append]; exact hc) (AllR.append r1 r2)
  · cases ez
theorem pmo_add (ha : PM X Wx a ma) (hb : PM X Wx b mb) : PMo X Wx (.BinOp a .Add b pos) (mOpo dAddO ma mb) := pmo_op op_cat opso_cat ha hb
def dRepO : D → D → Option (List D)
  | .lst xs, .int k => if -(2 ^ 63) ≤ k ∧ k < 2 ^ 63 ∧ xs.length * k.toNat ≤ sizeLine then some (List.replicate k.toNat xs).flatten else none
  | _, _ => none
theorem opso_rep : OpSo X rRep dRepO := by
  intro x y d e z F H p pa Q gs rx ry ez k
  cases d <;> cases e <;> first | (simp [dRepO] at ez; done) | skip
  simp only [dRepO] at ez
  split at ez
  · rename_i hc
    simp only [Option.some.injEq] at ez
    subst ez
    cases ry
    obtain ⟨l, xs, rfl, hl, hz1, r1⟩ := rx.lstH gs
    refine ⟨l, _, xs, rfl, rfl, hl, hc.1, hc.2.1, by rw [r1.1]; exact hc.2.2, fun q hq => ?_⟩
    exact k _ _ hq (by simpa [Nat.mul_comm] using hc.2.2) (AllR.rep r1 _)
  · cases ez
theorem pmo_mul (ha : PM X Wx a ma) (hb : PM X Wx b mb) : PMo X Wx (.BinOp a .Mult b pos) (mOpo dRepO ma mb) := pmo_op op_rep opso_rep ha hb
theorem pmo_if (hc : PMt X Wx c mt) (ha : PMo X Wx a mo) (hb : PMo X Wx b mo') : PMo X Wx (.IfExp c a b pos) (mIf mt mo mo') := ⟨(pe_ifExp hc.pt ha.pe hb.pe).imp fun σ H Q ⟨F, pa, p, ρ, gs, s, o⟩ => by
  refine ⟨F, pa, p, ρ, gs, s, o.bind.mono fun k p1 F1 H1 pa1 gr1 gs1 o1 => ?_⟩
  cases k with
  | true =>
    simp only [if_true] at o1 ⊢
    refine ⟨F1, pa1, p1, ρ, gs1, s.grow gr1, Out.mono o1 fun ds p2 F2 H2 pa2 gr2 gs2 h a vs h1 => h a vs (gr1.free0 h1)⟩
  | false =>
    simp only [Bool.false_eq_true, if_false] at o1 ⊢
    refine ⟨F1, pa1, p1, ρ, gs1, s.grow gr1, Out.mono o1 fun ds p2 F2 H2 pa2 gr2 gs2 h a vs h1 => h a vs (gr1.free0 h1)⟩⟩

/-! ### the pot is made -/
def cretpot (ms : M (List D)) : C := eout ms fun ds _ p => match ds with
  | [.int a, .int b] => .rt (.pot (p.g + 1)) false ⟨p.g + 1, a, b⟩
  | _ => .stuck
theorem cs_retpot {lp : Pos} (h : PMa X Wx es ms) : PMs X En Wx (.Return (some (.List es lp)) pos) (cretpot ms) := ⟨(ps_ret (pe_lst h.pa)).imp fun Dn σ H ⟨F, pa, p, ρ, s, o⟩ => by
  refine ⟨F, pa, p, ρ, s.gs, s.sr, (o.expr s).mono fun ds p' F' H' pa' gr gs ⟨s', o'⟩ vs rs => ?_⟩
  split at o' <;> first | exact o'.elim | skip
  obtain ⟨v, w, rfl, r1, r2⟩ := reps2 rs
  cases r1; cases r2
  refine ⟨by show 2 ≤ sizeLine; exact two_line, fun q hq => ?_⟩
  have gs2 := s'.gs
  have hF : F' q = none := gs2.fnone hq
  have hz : ∀ a o, F' a = some o → a ≠ q := fun a o h e => by rw [e, hF] at h; cases h
  refine o' _ F' _ (some q) ⟨fun _ _ h => h, Nat.le_succ _, fun z => absurd z (Nat.ne_of_lt (Nat.lt_succ_self _))⟩ ?_ ⟨fun a o h => ?_, fun a h => ?_⟩ (show Rep _ _ _ _ _ _ from .pot (Nat.le_refl _) fun _ => ⟨q, rfl, rfl⟩)
  · have gr0 := s'.gr
    refine Gr.trans gr0 ⟨⟨fun _ _ h => h, Nat.le_succ _, fun z => absurd z (Nat.ne_of_lt (Nat.lt_succ_self _))⟩, fun a o h => .inl h, fun a o h _ => ?_, fun a o h => ?_, .inr ⟨q, rfl, hq⟩⟩
    · rw [upd_ne (ne_of_none h hq)]; exact h
    · exact ⟨o, by rw [upd_ne (ne_of_none h hq)]; exact h⟩
  · rw [upd_ne (hz a o h)]; exact gs2.sub a o h
  · cases h
    exact ⟨upd_same, hF⟩⟩
end

/-! ### the def -/
def sres (r : SRes) : FRes := match r with
  | .nx _ p => .ok .non false p
  | .rt d fr p => .ok d fr p
  | .exc x _ p => .exc x p
  | _ => .stuck
/-- what a def with n slots and k parameters does -/
def fres (n k : Nat) (c : C) : Fn := fun ds p => if ds.length = k then sres (c (ds.map (fun d => some (W.val d)) ++ List.replicate (n - k) none) p) else .stuck
abbrev EX (E : XK) : WX := fun cls d _ H => E cls d H
/-- the body within its context -/
def BodyOk (P : Program) (w : World) (K : PySem.W.Frag) (mg : Str → Option Value) (base : Heap) (k : Nat) (qual : Str) (body : List Stmt) (scope : Scope) (N : List Str) (c : C) : Prop :=
  ∀ (f : Addr) (cdv : Value) (A : Around) (outer : List Env) (s : Shared) (H : Hp) (E : XK) (En : Ent), Room k (A.deeper (envOfC qual scope s.heap.objs.size f cdv)) → (A.deeper (envOfC qual scope s.heap.objs.size f cdv)).guards = some [] →
    PMss (cxOf (L2.CX P w) P w K mg base N qual scope f cdv A outer s H E) En (EX E) body c
theorem srel_start {K : PySem.W.Frag} {F H : Hp} {g : Nat} {pa : Option Addr} {vs : List V} {ds : List D} {N : List Str} {k : Nat} (r : Reps K F g pa vs ds) (hk : ds.length = k) : SRel K F H g pa (L2.start N vs) (ds.map (fun d => some (W.val d)) ++ List.replicate (N.length - k) none) := by
  have hl : vs.length = ds.length := r.1
  unfold L2.start
  have key : ∀ (i : Nat) w, (ds.map (fun d => some (W.val d)) ++ List.replicate (N.length - k) none)[i]? = some (some w) → ∃ d, ds[i]? = some d ∧ w = .val d := fun i w h => by
    by_cases hi : i < ds.length
    · rw [List.getElem?_append_left (by simpa using hi), List.getElem?_map] at h
      cases q : ds[i]? with
      | none => rw [q] at h; cases h
      | some d => rw [q] at h; cases h; exact ⟨d, rfl, rfl⟩
    · rw [List.getElem?_append_right (by simpa using hi), List.getElem?_replicate] at h
      split at h <;> cases h
  refine ⟨by simp [hl, hk], fun i w h => ?_, fun i j xs ys v h => ?_⟩
  · obtain ⟨d, hd, rfl⟩ := key i w h
    obtain ⟨v, hv, rv⟩ := r.get hd
    refine ⟨v, ?_, rv⟩
    rw [List.getElem?_append_left (by have := (List.getElem?_eq_some_iff.mp hv).1; simpa using this), List.getElem?_map, hv]
    rfl
  · obtain ⟨d, hd, e⟩ := key i _ h
    cases e
theorem fnx {P : Program} {w : World} {K : PySem.W.Frag} {mg : Str → Option Value} {base : Heap} {x : Str} {params : Arguments} {body : List Stmt} {scope : Scope} {f : Addr} {fd : FuncData} {N ps : List Str} {k : Nat} {c : C}
    (F : FunD K x x params body scope [] [] f fd) (hm : mg x = some (.ref f)) (S : FnScope N ps scope) (hb : BodyOk P w K mg base k x body scope N c) : FnX P w K mg base x params (k + 1) ps (fres N.length ps.length c) := by
  obtain ⟨oc, od, dV, kV, doc, pm, an, cdv, ct, osl, rfl, lk, hcd, hD, _⟩ := F.ex
  obtain rfl : dV = .none := by
    rcases hD with ⟨_, h⟩ | ⟨h, _⟩
    · exact h
    · exact absurd rfl h
  refine ⟨f, _, hm, F.kp, ⟨body, scope, kV, doc, pm, an, cdv, ct, rfl⟩, ⟨fun ds p h => ?_, fun A outer s H args us vs ds Fz0 pa p Q E hr hgd e0 hbt rv gs rs o => ?_⟩⟩
  · unfold fres at h
    by_cases hc : ds.length = ps.length
    · exact hc
    · rw [if_neg hc] at h; exact absurd rfl h
  · have hc : ds.length = ps.length := by
      by_cases hc : ds.length = ps.length
      · exact hc
      · unfold fres at o; rw [if_neg hc] at o; exact o.elim
    unfold fres at o
    rw [if_pos hc] at o
    refine LamX.run_ofS (N := N) lk hcd S hr e0 hbt rv (by rw [rs.1]; exact hc) fun hr' => ?_
    let En : Ent := ⟨Fz0, H, p.g, pa⟩
    refine ⟨_, (hb f cdv A outer s H E En hr' (by show A.guards = some []; exact hgd)).ps, Fz0, pa, p, _, ⟨.refl, gs, srel_start rs hc, fun i xs v h => ?_⟩, ?_⟩
    · have := (srel_start (H := H) rs hc).rep i _ h
      exfalso
      have key : ∀ (i : Nat) w, (ds.map (fun d => some (W.val d)) ++ List.replicate (N.length - ps.length) none)[i]? = some (some w) → ∃ d, w = .val d := fun i w h => by
        by_cases hi : i < ds.length
        · rw [List.getElem?_append_left (by simpa using hi), List.getElem?_map] at h
          cases q : ds[i]? with
          | none => rw [q] at h; cases h
          | some d => rw [q] at h; cases h; exact ⟨d, rfl⟩
        · rw [List.getElem?_append_right (by simpa using hi), List.getElem?_replicate] at h
          split at h <;> cases h
      obtain ⟨d, e⟩ := key i _ h
      cases e
    · cases q : c (ds.map (fun d => some (W.val d)) ++ List.replicate (N.length - ps.length) none) p with
      | nx ρ' p' =>
        rw [q] at o
        exact fun σ' F' H' pa' fz s' => o .non F' H' pa' s'.gr s'.gs (show Rep _ _ _ _ _ _ from .non)
      | rt d fr p' =>
        rw [q] at o
        exact fun v F' H' pa' fz gr gs' r => o v F' H' pa' gr gs' r
      | exc y ρ' p' =>
        rw [q] at o
        exact fun cls dd σ' F' H' pa' fz s' r => o cls dd F' H' pa' s'.gr s'.gs r
      | bk ρ' p' => rw [q] at o; exact o.elim
      | ct ρ' p' => rw [q] at o; exact o.elim
      | stuck => rw [q] at o; exact o.elim
end PF

namespace PF
open PySem PySem.Spec PyProof.Rows L2

mutual
theorem noDict_pl : ∀ d : D, pl d = true → (toPy d).hasDict = false
  | .non, _ => by simp [toPy, PyData.hasDict]
  | .bl _, _ => by simp [toPy, PyData.hasDict]
  | .int _, _ => by simp [toPy, PyData.hasDict]
  | .str _, _ => by simp [toPy, PyData.hasDict]
  | .lst xs, h => by simp only [toPy, PyData.hasDict]; exact noDict_pls xs (by simpa [pl] using h)
  | .tup xs, h => by simp only [toPy, PyData.hasDict]; exact noDict_pls xs (by simpa [pl] using h)
  | .scr _, h => by simp [pl] at h
  | .pot _, h => by simp [pl] at h
  | .emp, h => by simp [pl] at h
theorem noDict_pls : ∀ ds : List D, pls ds = true → PyData.hasDictAll (toPys ds) = false
  | [], _ => by simp [toPys, PyData.hasDictAll]
  | x :: xs, h => by
    simp only [pls, Bool.and_eq_true] at h
    simp only [toPys, PyData.hasDictAll, Bool.or_eq_false_iff]
    exact ⟨noDict_pl x h.1, noDict_pls xs h.2⟩
end
def okRepr (d : D) : Bool := pl d && (toPy d).showable && decide ((toPy d).shown.length ≤ sizeLine) && decide (dep d ≤ 60)
theorem okRepr_iff {d : D} : okRepr d = true ↔ pl d = true ∧ (toPy d).showable = true ∧ (toPy d).shown.length ≤ sizeLine ∧ dep d ≤ 60 := by
  unfold okRepr
  simp only [Bool.and_eq_true, decide_eq_true_eq, and_assoc]
def rtext (d : D) : Str := (toPy d).shown
def dReprF : List D → Option D
  | [d] => if okRepr d = true then some (.str (rtext d)) else none
  | _ => none
def rReprD (X : Cx) : List V → Hp → VK → Prop := fun xs H Q => ∃ v d, xs = [v] ∧ okRepr d = true ∧ Dp X.K H v (toPy d) ∧ Q (.str (rtext d)) H
section
variable {X : Cx} {Wx : WX} {e : Expr} {m : M D}
theorem call_reprD (hu : Un X) (hg : X.A.guards = some []) : CallR X (.builtin "repr") (rReprD X) := by
  intro pins s σ H xs us Q I r h
  obtain ⟨v, d, rfl, hd, dp, q⟩ := h
  obtain ⟨h1, h2, h3, h4⟩ := okRepr_iff.mp hd
  have hu' : X.A.units + 65 < cLine := hu
  obtain ⟨u, rfl, ru⟩ : ∃ u, us = [u] ∧ L2.RelV v u := by
    cases r with
    | cons r r2 => cases r2; exact ⟨_, rfl, r⟩
  cases d with
  | non =>
    simp only [toPy] at dp
    cases dp
    cases ru
    exact PySem.P.repr_of_none ⟨.str (rtext .non), H, I.tok _, ⟨_, rfl⟩, q⟩
  | bl b =>
    simp only [toPy] at dp
    cases dp
    cases ru
    exact PySem.P.repr_of_bool ⟨.str (rtext (.bl b)), H, I.tok _, ⟨_, by cases b <;> rfl⟩, q⟩
  | int i =>
    simp only [toPy] at dp
    cases dp
    obtain ⟨t, rfl⟩ := ru
    have h5 : i.natAbs.log2 < 1920 := by simpa [toPy, PyData.showable] using h2
    exact PySem.P.repr_of_int h5 ⟨.str (rtext (.int i)), H, I.tok _, ⟨_, rfl⟩, q⟩
  | str x =>
    simp only [toPy] at dp
    cases dp
    obtain ⟨t, rfl⟩ := ru
    exact PySem.P.repr_of_str ⟨.str (rtext (.str x)), H, I.tok _, ⟨_, rfl⟩, q⟩ (by simpa [toPy, PyData.shown] using h3)
  | scr ns => simp [pl] at h1
  | pot k => simp [pl] at h1
  | emp => simp [pl] at h1
  | lst xs =>
    obtain ⟨as, rd⟩ := Dp.reads I _ v u dp ru
    simp only [toPy] at dp
    cases dp
    cases ru
    refine PySem.repr_of_reads' rd h2 (fun z => ?_) hg ?_ (fun _ _ z => z) (fun h' u' tk hk => ⟨.str (rtext _), H, I.kept (h' := h') (t' := tk) hk, ⟨u', rfl⟩, q⟩) h3
    · rw [noDict_pl _ h1] at z; cases z
    · rw [depth_dep _ h1]; omega
  | tup xs =>
    obtain ⟨as, rd⟩ := Dp.reads I _ v u dp ru
    simp only [toPy] at dp
    cases dp
    cases ru
    refine PySem.repr_of_reads' rd h2 (fun z => ?_) hg ?_ (fun _ _ z => z) (fun h' u' tk hk => ⟨.str (rtext _), H, I.kept (h' := h') (t' := tk) hk, ⟨u', rfl⟩, q⟩) h3
    · rw [noDict_pl _ h1] at z; cases z
    · rw [depth_dep _ h1]; omega
theorem calls_repr : CallS X (rReprD X) dReprF := by
  intro xs ds z F H p pa Q gs rs ez k
  unfold dReprF at ez
  split at ez <;> first | (cases ez; done) | skip
  split at ez <;> first | (cases ez; done) | skip
  rename_i d hd
  obtain ⟨v, rfl, r⟩ := reps1 rs
  simp only [Option.some.injEq] at ez
  subst ez
  exact ⟨v, d, rfl, hd, r.dp gs.sub (okRepr_iff.mp hd).1, k _ _ _ .refl gs (.str _)⟩
end
end PF

namespace PF
open PySem PySem.Spec PyProof.Rows L2

/-! ### the law's own call -/
section
variable {P : Program} {w : World} {K : PySem.W.Frag} {mg mb : Str → Option Value} {k : Nat} {fa a : Addr} {s₁ : Shared} {vs : List Value} {ns : List Int} {params : Arguments} {G : Fn} {x y : Str}
/-- at a heap H that tracks the script alone (or nothing) -/
theorem law_at {H : Hp} (hns : s₁.heap.Ns mainGlobals mg) (hb : s₁.heap.Ns builtinsNs mb) (hbb : ∀ x : Str, x ≠ "__name__" → mb x = bootBuiltins x) (hlim : s₁.heap.NoLimit) (hg : s₁.gens = #[])
    (ha : s₁.heap.get? a = some { cls := .type "list", data := .seq vs.toArray }) (KX : K.In s₁.heap) (hr : Room k callerA) (F : ∀ base : Heap, K.In base → base.Ns mainGlobals mg → FnX P w K mg base y params k [x] G) (hmg : mg y = some (.ref fa)) (hbd : Bd y params [x] 1 [] [0])
    (hG : ∃ p', G [.scr ns] ⟨0, 0, 0⟩ = .ok (.bl true) false p') (hS : SqL K H a (ns.map V.int)) (hok : HOk P w H s₁.heap) (only : ∀ b u, H b = some u → b = a ∧ K.lookup a = none ∧ ∃ o xs, u = .frz o (.lst xs)) :
    codeAny (model P w) callerA (.call (.ref fa) ⟨[.ref a], []⟩) (fun r s' => r = .ok (.ret (.bool true)) ∧ OldK s₁.heap s'.heap ∧ s'.os = s₁.os ∧ AllBare s'.gens) s₁ := by
  have free : ∀ {b : Addr} {o : Obj}, s₁.heap.get? b = some o → o ≠ { cls := .type "list", data := .seq vs.toArray } → H b = none := fun {b o} e hne => by
    cases q : H b with
    | none => rfl
    | some u =>
      obtain ⟨rfl, _⟩ := only b u q
      rw [ha] at e
      exact absurd (Option.some.inj e).symm hne
  have ns2 : ∀ {b : Addr} {m : Str → Option Value}, s₁.heap.Ns b m → (hidT s₁.heap H).Ns b m := fun {b m} ⟨o, es, ep, e, d, r⟩ =>
    ⟨o, es, ep, hidT_get e (free e fun z => by rw [z] at d; exact nomatch d), d, r⟩
  have kin : K.In (hidT s₁.heap H) := fun b o e => hidT_get (KX b o e) (by
    cases q : H b with
    | none => rfl
    | some u =>
      obtain ⟨rfl, z, _⟩ := only b u q
      rw [z] at e; exact nomatch e)
  obtain ⟨mc, hc1, hc2⟩ := hlim
  have e0 : Env0 P w K mg (hidT s₁.heap H) callerA [] s₁ H :=
    { frames := rfl, mod := ⟨kin, ns2 hns, ⟨mb, ns2 hb, hbb⟩, ⟨mc, ns2 hc1, hc2⟩⟩, bs := fun b o e => of_hidT e, bsz := Nat.le_of_eq (hidT_size _ _), funs := trivial, frf := fun b hb => (nomatch (show b ∈ ([] : List Addr) from hb)), hok := hok, bare := .of_eq hg }
  obtain ⟨f, fd, hm, hk, ⟨body, scope, kV, doc, pm, an, cdv, ct, rfl⟩, Fm⟩ := (F _ kin (ns2 hns)).ex
  rw [hmg] at hm
  cases hm
  obtain ⟨p', hp⟩ := hG
  have hbt : BindsTo s₁ (PySem.W.fnOf y y params body scope .none kV doc pm an cdv ct) ⟨[.ref a], []⟩ ([x].zip [.ref a]) := .of_eq (hbd _ _ _ _ _ _ _ _ [.ref a] [] rfl rfl)
  refine codeAny_mono (Fm.run callerA [] s₁ H _ [.ref a] [.ref a] [.scr ns] H none ⟨0, 0, 0⟩ (fun v _ => v = .bl true) (fun _ _ _ => False) hr rfl e0 hbt (.cons rfl .nil) ⟨fun _ _ h => h, fun _ h => nomatch h⟩ (.cons (.scr hS) .nil) ?_) fun r s' h => ?_
  · rw [hp]
    intro v F' H' pa' _ _ r
    cases (show Rep _ _ _ _ v (.bl true) from r)
    rfl
  · match r, h with
    | .error e, h =>
      obtain ⟨_, _, _, _, _, _, _, _, _, _, _, _, h⟩ := h
      exact h.elim
    | .ok .next, h => exact False.elim h
    | .ok .brk, h => exact False.elim h
    | .ok .cont, h => exact False.elim h
    | .ok (.ret u), h =>
      obtain ⟨v, H', os, bare, un, hok', r', q⟩ := h
      obtain rfl : v = .bl true := q
      obtain rfl : u = Value.bool true := r'
      refine ⟨rfl, OldK.of_keep fun b o e => ?_, os, bare⟩
      cases q : H b with
      | none => exact un.keep b o e q (fun z => nomatch (show b ∈ ([] : List Addr) from z)) (fun z => nomatch z)
      | some u =>
        obtain ⟨rfl, _, ob, xs, rfl⟩ := only b u q
        obtain ⟨e1, _⟩ := hok _ _ q
        obtain ⟨e2, _⟩ := hok' _ _ (un.frzs _ _ _ q)
        rw [e] at e1
        cases e1
        exact e2
theorem law_run (hns : s₁.heap.Ns mainGlobals mg) (hb : s₁.heap.Ns builtinsNs mb) (hbb : ∀ x : Str, x ≠ "__name__" → mb x = bootBuiltins x) (hlim : s₁.heap.NoLimit) (hg : s₁.gens = #[])
    (ha : s₁.heap.get? a = some { cls := .type "list", data := .seq vs.toArray }) (hi : IntsAre vs ns) (hl : ns.length ≤ sizeLine) (KX : K.In s₁.heap) (hr : Room k callerA) (F : ∀ base : Heap, K.In base → base.Ns mainGlobals mg → FnX P w K mg base y params k [x] G) (hmg : mg y = some (.ref fa)) (hbd : Bd y params [x] 1 [] [0])
    (hG : ∃ p', G [.scr ns] ⟨0, 0, 0⟩ = .ok (.bl true) false p') :
    codeAny (model P w) callerA (.call (.ref fa) ⟨[.ref a], []⟩) (fun r s' => r = .ok (.ret (.bool true)) ∧ OldK s₁.heap s'.heap ∧ s'.os = s₁.os ∧ AllBare s'.gens) s₁ := by
  have rv := vals_ints hi
  cases hk : K.lookup a with
  | some o =>
    have e := KX a o hk
    rw [ha] at e
    cases e
    exact law_at (H := fun _ => none) hns hb hbb hlim hg ha KX hr F hmg hbd hG (.inr ⟨_, vs.toArray, _, hk, rfl, rfl, rfl, by rw [List.size_toArray, hi.length]; exact hl, by simpa using rv⟩) (fun b u z => nomatch z) fun b u z => nomatch z
  | none =>
    refine law_at (H := upd (fun _ => none) a (.frz { cls := .type "list", data := .seq vs.toArray } (.lst (ns.map V.int)))) hns hb hbb hlim hg ha KX hr F hmg hbd hG (.inl (.inr ⟨_, upd_same⟩)) (fun b u z => ?_) fun b u z => ?_
    · by_cases hb : b = a
      · subst hb
        rw [upd_same] at z
        cases z
        exact ⟨ha, by rw [List.length_map]; exact hl, vs, _, rv, ha⟩
      · rw [upd_ne hb] at z; cases z
    · by_cases hb : b = a
      · subst hb
        rw [upd_same] at z
        cases z
        exact ⟨rfl, hk, _, _, rfl⟩
      · rw [upd_ne hb] at z; cases z
end
/-- the goal that the head leaves -/
theorem law_walk {l : PySem.W.OpenLaw} {n k : Nat} {q : Program} {loose : List Str} {XP : (Str → Option Value) → Heap → Prop} {YP : World → Heap → Prop} {d : DefRec} {x : Str} {params : Arguments} {G : Fn}
    (hn : l.most = some n) (hn2 : n ≤ sizeLine) (hdf : d.params.defaults = []) (hr : Room k callerA) (hbd : Bd d.name params [x] 1 [] [0])
    (F : ∀ (w : World) (mg : Str → Option Value) (fa : Addr) (h : Heap), YP w h → h.Ns mainGlobals mg → mg d.name = some (.ref fa) →
      ∃ K : PySem.W.Frag, K.In h ∧ ∀ base : Heap, K.In base → base.Ns mainGlobals mg → FnX l.prog w K mg base d.name params k [x] G)
    (hG : ∀ ns : List Int, ns.length ≤ n → ∃ p', G [.scr ns] ⟨0, 0, 0⟩ = .ok (.bl true) false p') :
    PySem.W.WalkO q loose XP YP l.row.toRowW d [] (fun f vs => PySem.call f vs) := by
  refine Att.attach_call hn hdf fun w s₀ s₁ mg mb fa o pm cd doc a vs ns G' Y ho hd hcd hmg hobj hints hlen hg => ?_
  obtain ⟨K, KX, hF⟩ := F w mg fa _ Y G'.T.g hmg
  exact law_run G'.T.g G'.T.b G'.T.builtins G'.T.nolimit hg hobj hints (Nat.le_trans hlen hn2) KX hr hF hmg hbd (hG ns hlen)
end PF

namespace PF
open PySem PySem.Spec PyProof.Rows L2
section
variable {X : Cx} {En : Ent} {Wx : WX} {e a b c : Expr} {me ma mb m : M D} {ms : M (List D)} {pos p : Pos} {es : List Expr}
theorem b_len (hm : X.mg "len" = none) (ha : PMa X Wx (e :: es) ms) (hg : Gl X "len" := by rfl) (he : starEach (e :: es) X.env = (false, eval e X.env) :: starEach es X.env := by rfl) (hpl : (backTo pos (starEach es X.env)).any (·.1) = false := by rfl) : PM X Wx (.Call (.Name "len" p) (e :: es) [] pos) (mCall dLen ms) := pm_callB call_len calls_len hg hm PySem.boot_len ha (by decide) (by decide) he hpl
theorem b_abs (hm : X.mg "abs" = none) (ha : PMa X Wx (e :: es) ms) (hg : Gl X "abs" := by rfl) (he : starEach (e :: es) X.env = (false, eval e X.env) :: starEach es X.env := by rfl) (hpl : (backTo pos (starEach es X.env)).any (·.1) = false := by rfl) : PM X Wx (.Call (.Name "abs" p) (e :: es) [] pos) (mCall dAbs ms) := pm_callB call_abs calls_abs hg hm boot_abs ha (by decide) (by decide) he hpl
theorem b_int (hm : X.mg "int" = none) (ha : PMa X Wx (e :: es) ms) (hg : Gl X "int" := by rfl) (he : starEach (e :: es) X.env = (false, eval e X.env) :: starEach es X.env := by rfl) (hpl : (backTo pos (starEach es X.env)).any (·.1) = false := by rfl) : PM X Wx (.Call (.Name "int" p) (e :: es) [] pos) (mCall dInt ms) := pm_callTy call_int1 calls_int hg hm boot_int ha (by decide) (by decide) he hpl
theorem b_divmod (hm : X.mg "divmod" = none) (ha : PMa X Wx (e :: es) ms) (hg : Gl X "divmod" := by rfl) (he : starEach (e :: es) X.env = (false, eval e X.env) :: starEach es X.env := by rfl) (hpl : (backTo pos (starEach es X.env)).any (·.1) = false := by rfl) : PM X Wx (.Call (.Name "divmod" p) (e :: es) [] pos) (mCall dDivmod ms) := pm_callB call_divmod calls_divmod hg hm boot_divmod ha (by decide) (by decide) he hpl
theorem b_sum (hc : X.calm = true) (hm : X.mg "sum" = none) (ha : PMa X Wx (e :: es) ms) (hg : Gl X "sum" := by rfl) (he : starEach (e :: es) X.env = (false, eval e X.env) :: starEach es X.env := by rfl) (hpl : (backTo pos (starEach es X.env)).any (·.1) = false := by rfl) : PM X Wx (.Call (.Name "sum" p) (e :: es) [] pos) (mCall dSum ms) := pm_callB (cr_sum hc) calls_sum hg hm boot_sum ha (by decide) (by decide) he hpl
theorem b_all (hc : X.calm = true) (hm : X.mg "all" = none) (ha : PMa X Wx (e :: es) ms) (hg : Gl X "all" := by rfl) (he : starEach (e :: es) X.env = (false, eval e X.env) :: starEach es X.env := by rfl) (hpl : (backTo pos (starEach es X.env)).any (·.1) = false := by rfl) : PM X Wx (.Call (.Name "all" p) (e :: es) [] pos) (mCall dAll ms) := pm_callB (cr_all hc) calls_all hg hm boot_all ha (by decide) (by decide) he hpl
theorem b_any (hc : X.calm = true) (hm : X.mg "any" = none) (ha : PMa X Wx (e :: es) ms) (hg : Gl X "any" := by rfl) (he : starEach (e :: es) X.env = (false, eval e X.env) :: starEach es X.env := by rfl) (hpl : (backTo pos (starEach es X.env)).any (·.1) = false := by rfl) : PM X Wx (.Call (.Name "any" p) (e :: es) [] pos) (mCall dAny ms) := pm_callB (cr_any hc) calls_any hg hm boot_any ha (by decide) (by decide) he hpl
theorem b_max1 (hc : X.calm = true) (hm : X.mg "max" = none) (ha : PMa X Wx (e :: es) ms) (hg : Gl X "max" := by rfl) (he : starEach (e :: es) X.env = (false, eval e X.env) :: starEach es X.env := by rfl) (hpl : (backTo pos (starEach es X.env)).any (·.1) = false := by rfl) : PM X Wx (.Call (.Name "max" p) (e :: es) [] pos) (mCall dMax1 ms) := pm_callB (cr_max hc) calls_max1 hg hm boot_max ha (by decide) (by decide) he hpl
theorem b_min1 (hc : X.calm = true) (hm : X.mg "min" = none) (ha : PMa X Wx (e :: es) ms) (hg : Gl X "min" := by rfl) (he : starEach (e :: es) X.env = (false, eval e X.env) :: starEach es X.env := by rfl) (hpl : (backTo pos (starEach es X.env)).any (·.1) = false := by rfl) : PM X Wx (.Call (.Name "min" p) (e :: es) [] pos) (mCall dMin1 ms) := pm_callB (cr_min hc) calls_min1 hg hm boot_min ha (by decide) (by decide) he hpl
theorem b_max2 (hc : X.calm = true) (hm : X.mg "max" = none) (ha : PMa X Wx (e :: es) ms) (hg : Gl X "max" := by rfl) (he : starEach (e :: es) X.env = (false, eval e X.env) :: starEach es X.env := by rfl) (hpl : (backTo pos (starEach es X.env)).any (·.1) = false := by rfl) : PM X Wx (.Call (.Name "max" p) (e :: es) [] pos) (mCall dMax2 ms) := pm_callB (call_max2 hc) calls_max2 hg hm boot_max ha (by decide) (by decide) he hpl
theorem b_min2 (hc : X.calm = true) (hm : X.mg "min" = none) (ha : PMa X Wx (e :: es) ms) (hg : Gl X "min" := by rfl) (he : starEach (e :: es) X.env = (false, eval e X.env) :: starEach es X.env := by rfl) (hpl : (backTo pos (starEach es X.env)).any (·.1) = false := by rfl) : PM X Wx (.Call (.Name "min" p) (e :: es) [] pos) (mCall dMin2 ms) := pm_callB (call_min2 hc) calls_min2 hg hm boot_min ha (by decide) (by decide) he hpl
theorem b_tuple (hm : X.mg "tuple" = none) (ha : PMa X Wx (e :: es) ms) (hg : Gl X "tuple" := by rfl) (he : starEach (e :: es) X.env = (false, eval e X.env) :: starEach es X.env := by rfl) (hpl : (backTo pos (starEach es X.env)).any (·.1) = false := by rfl) : PM X Wx (.Call (.Name "tuple" p) (e :: es) [] pos) (mCall dTuple ms) := pm_callTy call_tuple_of calls_tuple hg hm boot_tuple ha (by decide) (by decide) he hpl
theorem b_list (hm : X.mg "list" = none) (ha : PMa X Wx (e :: es) ms) (hg : Gl X "list" := by rfl) (he : starEach (e :: es) X.env = (false, eval e X.env) :: starEach es X.env := by rfl) (hpl : (backTo pos (starEach es X.env)).any (·.1) = false := by rfl) : PMo X Wx (.Call (.Name "list" p) (e :: es) [] pos) (mLst dList ms) := pmo_callTy call_list_of calls_list hg hm boot_list ha (by decide) (by decide) he hpl
theorem b_sorted (hm : X.mg "sorted" = none) (ha : PMa X Wx (e :: es) ms) (hg : Gl X "sorted" := by rfl) (he : starEach (e :: es) X.env = (false, eval e X.env) :: starEach es X.env := by rfl) (hpl : (backTo pos (starEach es X.env)).any (·.1) = false := by rfl) : PMo X Wx (.Call (.Name "sorted" p) (e :: es) [] pos) (mLst dSorted ms) := pmo_callB cr_sortedI calls_sorted hg hm boot_sorted ha (by decide) (by decide) he hpl
theorem b_repr (hu : Un X) (hgd : X.A.guards = some []) (hm : X.mg "repr" = none) (ha : PMa X Wx (e :: es) ms) (hg : Gl X "repr" := by rfl) (he : starEach (e :: es) X.env = (false, eval e X.env) :: starEach es X.env := by rfl) (hpl : (backTo pos (starEach es X.env)).any (·.1) = false := by rfl) : PM X Wx (.Call (.Name "repr" p) (e :: es) [] pos) (mCall dReprF ms) := pm_callB (call_reprD hu hgd) calls_repr hg hm boot_repr ha (by decide) (by decide) he hpl
/-- an item of what is no pot -/
theorem pm_ixd (ha : PM X Wx a ma) (hb : PM X Wx b mb) (hs : PlainIx b := by exact fun _ _ => rfl) : PM X Wx (.Subscript a b pos) (mOp dIx ma mb) := ⟨(pe_ix ix_seq ha.pe hb.pe hs).imp (tm_op ops_ix)⟩
/-- the types' names, for isinstance -/
theorem ty_int : bootBuiltins "int" = some (.type Ty.int.name) := boot_int
theorem ty_bool : bootBuiltins "bool" = some (.type Ty.bool.name) := boot_bool
theorem ty_str : bootBuiltins "str" = some (.type Ty.str.name) := boot_str
theorem ty_list : bootBuiltins "list" = some (.type Ty.list.name) := boot_list
theorem ty_tuple : bootBuiltins "tuple" = some (.type Ty.tuple.name) := boot_tuple
theorem ty_dict : bootBuiltins "dict" = some (.type Ty.dict.name) := boot_dict
def dI (k : Nat) : D := .int (k : Int)
theorem pm_nat {k : Nat} {j} : PM X Wx (.Constant (.int (k : Int)) j pos) (mret (dI k)) := pm_int
theorem pm_gnat {x : Str} {k : Nat} (hg : Gl X x) (hm : ∃ t, X.mg x = some (.int (k : Int) t)) (hd : (x == ("__debug__" : Str)) = false := by decide) : PM X Wx (.Name x pos) (mret (dI k)) := pm_gint hg hm hd
theorem un_of {k : Nat} (hr : Room k X.A) : Un X := by have := hr.un; show X.A.units + 65 < cLine; omega
theorem takes_w0 {X : Cx} : Takes X W0 := fun u s' ⟨_, _, _, _, _, _, _, _, _, _, _, _, _, _, _, _, h⟩ => h.elim
theorem loc_of {sc : Scope} {x : Str} (h : sc.names.lookup x = some .local) : Loc sc x := .inl h
end
end PF

namespace PF
open PySem PySem.Spec PyProof.Rows L2
/-! ### evaluation: printed by gen14.py -/
def Res.andThen {α β : Type} (r : Res α) (k : α → Pst → Res β) : Res β := match r with
  | .ok a p => k a p
  | .exc x p => .exc x p
  | .stuck => .stuck
def Res.andS {α : Type} (r : Res α) (ρ : Sl) (k : α → Pst → SRes) : SRes := match r with
  | .ok a p => k a p
  | .exc x p => .exc x ρ p
  | .stuck => .stuck
def SRes.andC (r : SRes) (b : C) : SRes := match r with
  | .nx ρ p => b ρ p
  | r => r
def blK {α : Type} (d : D) (k : Bool → M α) : M α := match d with
  | .bl b => k b
  | _ => mstuck
def inK {α : Type} (d : D) (k : Int → M α) : M α := match d with
  | .int b => k b
  | _ => mstuck
def rdO (o : Option (Option W)) (p : Pst) : Res D := match o with
  | some (some (.val d)) => .ok d p
  | _ => .stuck
def kM {α β : Type} (k : α → M β) (ρ : Sl) (a : α) (p : Pst) : Res β := k a ρ p
def kC {α : Type} (k : α → C) (ρ : Sl) (a : α) (p : Pst) : SRes := k a ρ p
@[simp] theorem kM_ap {α β : Type} (k : α → M β) (ρ : Sl) (a : α) (p : Pst) : kM k ρ a p = k a ρ p := rfl
@[simp] theorem kC_ap {α : Type} (k : α → C) (ρ : Sl) (a : α) (p : Pst) : kC k ρ a p = k a ρ p := rfl
@[simp] theorem andThen_ok {α β : Type} (a : α) (p : Pst) (k : α → Pst → Res β) : (Res.ok a p).andThen k = k a p := rfl
@[simp] theorem andS_ok {α : Type} (a : α) (p : Pst) (ρ : Sl) (k : α → Pst → SRes) : (Res.ok a p).andS ρ k = k a p := rfl
@[simp] theorem andC_nx (ρ : Sl) (p : Pst) (b : C) : (SRes.nx ρ p).andC b = b ρ p := rfl
@[simp] theorem andC_rt (d : D) (fr : Bool) (p : Pst) (b : C) : (SRes.rt d fr p).andC b = .rt d fr p := rfl
@[simp] theorem andC_bk (ρ : Sl) (p : Pst) (b : C) : (SRes.bk ρ p).andC b = .bk ρ p := rfl
@[simp] theorem andC_ct (ρ : Sl) (p : Pst) (b : C) : (SRes.ct ρ p).andC b = .ct ρ p := rfl
@[simp] theorem blK_bl {α : Type} (b : Bool) (k : Bool → M α) : blK (.bl b) k = k b := rfl
@[simp] theorem inK_int {α : Type} (b : Int) (k : Int → M α) : inK (.int b) k = k b := rfl
@[simp] theorem rdO_val (d : D) (p : Pst) : rdO (some (some (.val d))) p = .ok d p := rfl
section
variable {ρ : Sl} {p : Pst}
@[simp] theorem ev_mret {α : Type} (a : α) : mret a ρ p = Res.ok a p := by cases p; first | rfl | (unfold mret; rfl) | (unfold mret; exact congrFun (congrFun (congrArg _ (funext fun d => by cases d <;> rfl)) _) _)
@[simp] theorem ev_mstuck {α : Type} : (mstuck : M α) ρ p = (Res.stuck : Res α) := by cases p; first | rfl | (unfold mstuck; rfl) | (unfold mstuck; exact congrFun (congrFun (congrArg _ (funext fun d => by cases d <;> rfl)) _) _)
@[simp] theorem ev_mopt_some {α : Type} (a : α) : mopt (some a) ρ p = Res.ok a p := by cases p; first | rfl | (unfold mopt; rfl) | (unfold mopt; exact congrFun (congrFun (congrArg _ (funext fun d => by cases d <;> rfl)) _) _)
@[simp] theorem ev_mopt_none {α : Type} : mopt (none : Option α) ρ p = (Res.stuck : Res α) := by cases p; first | rfl | (unfold mopt; rfl) | (unfold mopt; exact congrFun (congrFun (congrArg _ (funext fun d => by cases d <;> rfl)) _) _)
@[simp] theorem ev_mbind {α β : Type} (m : M α) (k : α → M β) : mbind m k ρ p = (m ρ p).andThen (kM k ρ) := by cases p; first | rfl | (unfold mbind; rfl) | (unfold mbind; exact congrFun (congrFun (congrArg _ (funext fun d => by cases d <;> rfl)) _) _)
@[simp] theorem ev_mOp (f) (ma mb : M D) : mOp f ma mb ρ p = mbind ma (fun x => mbind mb fun y => mopt (f x y)) ρ p := by cases p; first | rfl | (unfold mOp; rfl) | (unfold mOp; exact congrFun (congrFun (congrArg _ (funext fun d => by cases d <;> rfl)) _) _)
@[simp] theorem ev_mOpo (f) (ma mb : M D) : mOpo f ma mb ρ p = mbind ma (fun x => mbind mb fun y => mopt (f x y)) ρ p := by cases p; first | rfl | (unfold mOpo; rfl) | (unfold mOpo; exact congrFun (congrFun (congrArg _ (funext fun d => by cases d <;> rfl)) _) _)
@[simp] theorem ev_mCmp (f) (ma mb : M D) : mCmp f ma mb ρ p = mbind ma (fun x => mbind mb fun y => mopt (f x y)) ρ p := by cases p; first | rfl | (unfold mCmp; rfl) | (unfold mCmp; exact congrFun (congrFun (congrArg _ (funext fun d => by cases d <;> rfl)) _) _)
@[simp] theorem ev_mB (m : M Bool) : mB m ρ p = mbind m (fun b => mret (.bl b)) ρ p := by cases p; first | rfl | (unfold mB; rfl) | (unfold mB; exact congrFun (congrFun (congrArg _ (funext fun d => by cases d <;> rfl)) _) _)
@[simp] theorem ev_mUn (f) (ma : M D) : mUn f ma ρ p = mbind ma (fun x => mopt (f x)) ρ p := by cases p; first | rfl | (unfold mUn; rfl) | (unfold mUn; exact congrFun (congrFun (congrArg _ (funext fun d => by cases d <;> rfl)) _) _)
@[simp] theorem ev_mAnd (t u : M Bool) : mAnd t u ρ p = mbind t (fun k => if k = true then u else mret false) ρ p := by cases p; first | rfl | (unfold mAnd; rfl) | (unfold mAnd; exact congrFun (congrFun (congrArg _ (funext fun d => by cases d <;> rfl)) _) _)
@[simp] theorem ev_mOr (t u : M Bool) : mOr t u ρ p = mbind t (fun k => if k = true then mret true else u) ρ p := by cases p; first | rfl | (unfold mOr; rfl) | (unfold mOr; exact congrFun (congrFun (congrArg _ (funext fun d => by cases d <;> rfl)) _) _)
@[simp] theorem ev_mNot (t : M Bool) : mNot t ρ p = mbind t (fun k => mret (!k)) ρ p := by cases p; first | rfl | (unfold mNot; rfl) | (unfold mNot; exact congrFun (congrFun (congrArg _ (funext fun d => by cases d <;> rfl)) _) _)
@[simp] theorem ev_mIf {α : Type} (t : M Bool) (ma mb : M α) : mIf t ma mb ρ p = mbind t (fun k => if k = true then ma else mb) ρ p := by cases p; first | rfl | (unfold mIf; rfl) | (unfold mIf; exact congrFun (congrFun (congrArg _ (funext fun d => by cases d <;> rfl)) _) _)
@[simp] theorem ev_mfrz (mo) : mfrz mo ρ p = mbind mo (fun ds => mret (.lst ds)) ρ p := by cases p; first | rfl | (unfold mfrz; rfl) | (unfold mfrz; exact congrFun (congrFun (congrArg _ (funext fun d => by cases d <;> rfl)) _) _)
@[simp] theorem ev_mcons (ma) (ms) : mcons ma ms ρ p = mbind ma (fun d => mbind ms fun ds => mret (d :: ds)) ρ p := by cases p; first | rfl | (unfold mcons; rfl) | (unfold mcons; exact congrFun (congrFun (congrArg _ (funext fun d => by cases d <;> rfl)) _) _)
@[simp] theorem ev_mlim (ms) : mlim ms ρ p = mbind ms (fun ds => if ds.length ≤ 4096 then mret ds else mstuck) ρ p := by cases p; first | rfl | (unfold mlim; rfl) | (unfold mlim; exact congrFun (congrFun (congrArg _ (funext fun d => by cases d <;> rfl)) _) _)
@[simp] theorem ev_mtup (ms) : mtup ms ρ p = mbind ms (fun ds => if ds.length ≤ 4096 then mret (.tup ds) else mstuck) ρ p := by cases p; first | rfl | (unfold mtup; rfl) | (unfold mtup; exact congrFun (congrFun (congrArg _ (funext fun d => by cases d <;> rfl)) _) _)
@[simp] theorem ev_mIx (ma mb) : mIx ma mb ρ p = mbind ma (fun x => mbind mb fun y => ixAny x y) ρ p := by cases p; first | rfl | (unfold mIx; rfl) | (unfold mIx; exact congrFun (congrFun (congrArg _ (funext fun d => by cases d <;> rfl)) _) _)
@[simp] theorem ev_mSl (me ml mh) : mSl me ml mh ρ p = mbind me (fun d => mbind ml fun lo => mbind mh fun hi => mopt (dSl d lo hi)) ρ p := by cases p; first | rfl | (unfold mSl; rfl) | (unfold mSl; exact congrFun (congrFun (congrArg _ (funext fun d => by cases d <;> rfl)) _) _)
@[simp] theorem ev_mCall (f) (ms) : mCall f ms ρ p = mbind ms (fun ds => mopt (f ds)) ρ p := by cases p; first | rfl | (unfold mCall; rfl) | (unfold mCall; exact congrFun (congrFun (congrArg _ (funext fun d => by cases d <;> rfl)) _) _)
@[simp] theorem ev_mLst (f) (ms) : mLst f ms ρ p = mbind ms (fun ds => mopt (f ds)) ρ p := by cases p; first | rfl | (unfold mLst; rfl) | (unfold mLst; exact congrFun (congrFun (congrArg _ (funext fun d => by cases d <;> rfl)) _) _)
@[simp] theorem ev_mIsi (t) (m) : mIsi t m ρ p = mbind m (fun d => if noPot d = true then mret (.bl (isTy t d)) else mstuck) ρ p := by cases p; first | rfl | (unfold mIsi; rfl) | (unfold mIsi; exact congrFun (congrFun (congrArg _ (funext fun d => by cases d <;> rfl)) _) _)
@[simp] theorem ev_mIsis (t) (m) : mIsis t m ρ p = mbind m (fun d => if noPot d = true then mret (.bl (isTys t d)) else mstuck) ρ p := by cases p; first | rfl | (unfold mIsis; rfl) | (unfold mIsis; exact congrFun (congrFun (congrArg _ (funext fun d => by cases d <;> rfl)) _) _)
@[simp] theorem ev_mIsN (m) : mIsN m ρ p = mbind m (fun x => if noPot x = true then mret (isNon x) else mstuck) ρ p := by cases p; first | rfl | (unfold mIsN; rfl) | (unfold mIsN; exact congrFun (congrFun (congrArg _ (funext fun d => by cases d <;> rfl)) _) _)
@[simp] theorem ev_mNotN (m) : mNotN m ρ p = mbind m (fun x => if noPot x = true then mret (!isNon x) else mstuck) ρ p := by cases p; first | rfl | (unfold mNotN; rfl) | (unfold mNotN; exact congrFun (congrFun (congrArg _ (funext fun d => by cases d <;> rfl)) _) _)
@[simp] theorem ev_mChain (f g) (ma mb mc) : mChain f g ma mb mc ρ p = mbind ma (fun x => mbind mb fun y => mbind (mopt (dI2b f x y)) fun k => if k = true then mbind mc fun z => mopt (dI2b g y z) else mret false) ρ p := by cases p; first | rfl | (unfold mChain; rfl) | (unfold mChain; exact congrFun (congrFun (congrArg _ (funext fun d => by cases d <;> rfl)) _) _)
@[simp] theorem ev_mSeq (m) : mSeq m ρ p = mbind m seqD ρ p := by cases p; first | rfl | (unfold mSeq; rfl) | (unfold mSeq; exact congrFun (congrFun (congrArg _ (funext fun d => by cases d <;> rfl)) _) _)
@[simp] theorem ev_mRange1 (ms) : mRange1 ms ρ p = mbind ms (fun ds => mopt (dRange1 ds)) ρ p := by cases p; first | rfl | (unfold mRange1; rfl) | (unfold mRange1; exact congrFun (congrFun (congrArg _ (funext fun d => by cases d <;> rfl)) _) _)
@[simp] theorem ev_mRange2 (ms) : mRange2 ms ρ p = mbind ms (fun ds => mopt (dRange2 ds)) ρ p := by cases p; first | rfl | (unfold mRange2; rfl) | (unfold mRange2; exact congrFun (congrFun (congrArg _ (funext fun d => by cases d <;> rfl)) _) _)
@[simp] theorem ev_muV (ma) (ms) : muV ma ms ρ p = mbind ma (fun d => mbind ms fun ws => mret (.val d :: ws)) ρ p := by cases p; first | rfl | (unfold muV; rfl) | (unfold muV; exact congrFun (congrFun (congrArg _ (funext fun d => by cases d <;> rfl)) _) _)
@[simp] theorem ev_muO (ma) (ms) : muO ma ms ρ p = mbind ma (fun d => mbind ms fun ws => mret (.own d :: ws)) ρ p := by cases p; first | rfl | (unfold muO; rfl) | (unfold muO; exact congrFun (congrFun (congrArg _ (funext fun d => by cases d <;> rfl)) _) _)
@[simp] theorem ev_mFn (G : Fn) (n m : Nat) (ix) (ms mk) : mFn G n m ix ms mk ρ p = mbind ms (fun ds => mbind mk fun es _ p => if ds.length = n ∧ es.length = m then outFn (fun d _ => some d) (G (permL ix (ds ++ es)) p) else .stuck) ρ p := by cases p; first | rfl | (unfold mFn; rfl) | (unfold mFn; exact congrFun (congrFun (congrArg _ (funext fun d => by cases d <;> rfl)) _) _)
@[simp] theorem ev_mFno (G : Fn) (n m : Nat) (ix) (ms mk) : mFno G n m ix ms mk ρ p = mbind ms (fun ds => mbind mk fun es _ p => if ds.length = n ∧ es.length = m then outFn frOf (G (permL ix (ds ++ es)) p) else .stuck) ρ p := by cases p; first | rfl | (unfold mFno; rfl) | (unfold mFno; exact congrFun (congrFun (congrArg _ (funext fun d => by cases d <;> rfl)) _) _)
@[simp] theorem ev_ixAny_lst (xs) (y) : ixAny (.lst xs) y ρ p = mopt (dIx (.lst xs) y) ρ p := by cases p; first | rfl | (unfold ixAny; rfl) | (unfold ixAny; exact congrFun (congrFun (congrArg _ (funext fun d => by cases d <;> rfl)) _) _)
@[simp] theorem ev_ixAny_tup (xs) (y) : ixAny (.tup xs) y ρ p = mopt (dIx (.tup xs) y) ρ p := by cases p; first | rfl | (unfold ixAny; rfl) | (unfold ixAny; exact congrFun (congrFun (congrArg _ (funext fun d => by cases d <;> rfl)) _) _)
@[simp] theorem ev_ixAny_scr (xs) (y) : ixAny (.scr xs) y ρ p = mopt (dIx (.scr xs) y) ρ p := by cases p; first | rfl | (unfold ixAny; rfl) | (unfold ixAny; exact congrFun (congrFun (congrArg _ (funext fun d => by cases d <;> rfl)) _) _)
@[simp] theorem ev_ixAny_str (xs) (y) : ixAny (.str xs) y ρ p = mopt (dIx (.str xs) y) ρ p := by cases p; first | rfl | (unfold ixAny; rfl) | (unfold ixAny; exact congrFun (congrFun (congrArg _ (funext fun d => by cases d <;> rfl)) _) _)
@[simp] theorem ev_seqD_lst (xs) : seqD (.lst xs) ρ p = Res.ok xs p := by cases p; first | rfl | (unfold seqD; rfl) | (unfold seqD; exact congrFun (congrFun (congrArg _ (funext fun d => by cases d <;> rfl)) _) _)
@[simp] theorem ev_seqD_tup (xs) : seqD (.tup xs) ρ p = Res.ok xs p := by cases p; first | rfl | (unfold seqD; rfl) | (unfold seqD; exact congrFun (congrFun (congrArg _ (funext fun d => by cases d <;> rfl)) _) _)
@[simp] theorem ev_mT (m) : mT m ρ p = mbind m (fun d => blK d mret) ρ p := by cases p; first | rfl | (unfold mT; rfl) | (unfold mT; exact congrFun (congrFun (congrArg _ (funext fun d => by cases d <;> rfl)) _) _)
@[simp] theorem ev_mAndV (t u) : mAndV t u ρ p = mbind t (fun d => blK d fun k => if k = true then u else mret (.bl false)) ρ p := by cases p; first | rfl | (unfold mAndV; rfl) | (unfold mAndV; exact congrFun (congrFun (congrArg _ (funext fun d => by cases d <;> rfl)) _) _)
@[simp] theorem ev_mOrV (t u) : mOrV t u ρ p = mbind t (fun d => blK d fun k => if k = true then mret (.bl true) else u) ρ p := by cases p; first | rfl | (unfold mOrV; rfl) | (unfold mOrV; exact congrFun (congrFun (congrArg _ (funext fun d => by cases d <;> rfl)) _) _)
@[simp] theorem ev_mNotV (t) : mNotV t ρ p = mbind t (fun d => blK d fun k => mret (.bl (!k))) ρ p := by cases p; first | rfl | (unfold mNotV; rfl) | (unfold mNotV; exact congrFun (congrFun (congrArg _ (funext fun d => by cases d <;> rfl)) _) _)
@[simp] theorem ev_mPart (t) : mPart t ρ p = mbind t (fun d => inK d fun i => mret (some i)) ρ p := by cases p; first | rfl | (unfold mPart; rfl) | (unfold mPart; exact congrFun (congrFun (congrArg _ (funext fun d => by cases d <;> rfl)) _) _)
@[simp] theorem ev_mYes  : mYes ρ p = Res.ok true p := by cases p; first | rfl | (unfold mYes; rfl) | (unfold mYes; exact congrFun (congrFun (congrArg _ (funext fun d => by cases d <;> rfl)) _) _)
@[simp] theorem ev_cskip  : cskip ρ p = SRes.nx ρ p := by cases p; first | rfl | (unfold cskip; rfl) | (unfold cskip; exact congrFun (congrFun (congrArg _ (funext fun d => by cases d <;> rfl)) _) _)
@[simp] theorem ev_cbrk  : cbrk ρ p = SRes.bk ρ p := by cases p; first | rfl | (unfold cbrk; rfl) | (unfold cbrk; exact congrFun (congrFun (congrArg _ (funext fun d => by cases d <;> rfl)) _) _)
@[simp] theorem ev_ccnt  : ccnt ρ p = SRes.ct ρ p := by cases p; first | rfl | (unfold ccnt; rfl) | (unfold ccnt; exact congrFun (congrFun (congrArg _ (funext fun d => by cases d <;> rfl)) _) _)
@[simp] theorem ev_cstuck  : cstuck ρ p = SRes.stuck := by cases p; first | rfl | (unfold cstuck; rfl) | (unfold cstuck; exact congrFun (congrFun (congrArg _ (funext fun d => by cases d <;> rfl)) _) _)
@[simp] theorem ev_cretN  : cretN ρ p = SRes.rt .non false p := by cases p; first | rfl | (unfold cretN; rfl) | (unfold cretN; exact congrFun (congrFun (congrArg _ (funext fun d => by cases d <;> rfl)) _) _)
@[simp] theorem ev_cseq (a b : C) : cseq a b ρ p = (a ρ p).andC b := by cases p; first | rfl | (unfold cseq; rfl) | (unfold cseq; exact congrFun (congrFun (congrArg _ (funext fun d => by cases d <;> rfl)) _) _)
@[simp] theorem ev_eout {α : Type} (m : M α) (k : α → C) : eout m k ρ p = (m ρ p).andS ρ (kC k ρ) := by cases p; first | rfl | (unfold eout; rfl) | (unfold eout; exact congrFun (congrFun (congrArg _ (funext fun d => by cases d <;> rfl)) _) _)
@[simp] theorem ev_cexpr (m) : cexpr m ρ p = eout m (fun _ => cskip) ρ p := by cases p; first | rfl | (unfold cexpr; rfl) | (unfold cexpr; exact congrFun (congrFun (congrArg _ (funext fun d => by cases d <;> rfl)) _) _)
@[simp] theorem ev_cret (m) : cret m ρ p = eout m (fun d _ p => .rt d false p) ρ p := by cases p; first | rfl | (unfold cret; rfl) | (unfold cret; exact congrFun (congrFun (congrArg _ (funext fun d => by cases d <;> rfl)) _) _)
@[simp] theorem ev_creto (m) : creto m ρ p = eout m (fun d _ p => .rt (.lst d) true p) ρ p := by cases p; first | rfl | (unfold creto; rfl) | (unfold creto; exact congrFun (congrFun (congrArg _ (funext fun d => by cases d <;> rfl)) _) _)
@[simp] theorem ev_cif (t a b) : cif t a b ρ p = eout t (fun k => if k = true then a else b) ρ p := by cases p; first | rfl | (unfold cif; rfl) | (unfold cif; exact congrFun (congrFun (congrArg _ (funext fun d => by cases d <;> rfl)) _) _)
@[simp] theorem ev_casg (i m) : casg i m ρ p = eout m (fun d ρ p => .nx (ρ.set i (some (.val d))) p) ρ p := by cases p; first | rfl | (unfold casg; rfl) | (unfold casg; exact congrFun (congrFun (congrArg _ (funext fun d => by cases d <;> rfl)) _) _)
@[simp] theorem ev_caso (i m) : caso i m ρ p = eout m (fun d ρ p => .nx (ρ.set i (some (.own d))) p) ρ p := by cases p; first | rfl | (unfold caso; rfl) | (unfold caso; exact congrFun (congrFun (congrArg _ (funext fun d => by cases d <;> rfl)) _) _)
@[simp] theorem ev_casgW (is m) : casgW is m ρ p = eout m (fun ws ρ p => if ws.length = is.length then .nx (setsS is ws ρ) p else .stuck) ρ p := by cases p; first | rfl | (unfold casgW; rfl) | (unfold casgW; exact congrFun (congrFun (congrArg _ (funext fun d => by cases d <;> rfl)) _) _)
@[simp] theorem ev_rd (i : Nat) : rd i ρ p = rdO ρ[i]? p := by
  unfold rd rdO
  cases ρ[i]? with
  | none => rfl
  | some o =>
    cases o with
    | none => rfl
    | some w => cases w <;> rfl
@[simp] theorem ev_pot0 : ixAny (.pot p.g) (.int 0) ρ p = .ok (.int p.a) p := by simp [ixAny, ixPot]
@[simp] theorem ev_pot1 : ixAny (.pot p.g) (.int 1) ρ p = .ok (.int p.b) p := by simp [ixAny, ixPot]
@[simp] theorem ev_outFn {α : Type} (f : D → Bool → Option α) (d : D) (fr : Bool) (p : Pst) : outFn f (.ok d fr p) = (match f d fr with | some a => .ok a p | none => .stuck) := rfl
@[simp] theorem ev_permL_nil {α : Type} (l : List α) : permL [] l = [] := rfl
@[simp] theorem ev_permL_cons {α : Type} (i : Nat) (ix : List Nat) (l : List α) : permL (i :: ix) l = (match l[i]? with | some x => x :: permL ix l | none => permL ix l) := by
  unfold permL
  rw [List.filterMap_cons]
  cases l[i]? <;> rfl
@[simp] theorem ev_frOf (ds : List D) : frOf (.lst ds) true = some ds := rfl
@[simp] theorem ev_sets_nil (ws : List W) : setsS [] ws ρ = ρ := by cases ws <;> rfl
@[simp] theorem ev_sets_cons (i : Nat) (is : List Nat) (w : W) (ws : List W) : setsS (i :: is) (w :: ws) ρ = setsS is ws (ρ.set i (some w)) := rfl
theorem ev_fres {n k : Nat} {c : C} {ds : List D} (h : ds.length = k) : fres n k c ds p = sres (c (ds.map (fun d => some (W.val d)) ++ List.replicate (n - k) none) p) := by unfold fres; rw [if_pos h]
@[simp] theorem ev_sres_nx : sres (.nx ρ p) = .ok .non false p := rfl
@[simp] theorem ev_sres_rt (d : D) (fr : Bool) : sres (.rt d fr p) = .ok d fr p := rfl
end
/-! ### operators on data -/
@[simp] theorem dAdd_int (i j : Int) : dAdd (.int i) (.int j) = some (.int (i + j)) := rfl
@[simp] theorem dSub_int (i j : Int) : dSub (.int i) (.int j) = some (.int (i - j)) := rfl
theorem dMul_int {i j : Int} (h : i.natAbs < 2 ^ 64 ∨ j.natAbs < 2 ^ 64) : dMul (.int i) (.int j) = some (.int (i * j)) := by
  have : okMul i j = true := by simpa [okMul] using h
  simp [dMul, dMulI, dI2c, this]
theorem dMod_int {i j : Int} (h : 0 < j) : dMod (.int i) (.int j) = some (.int (i % j)) := by
  have : j ≠ 0 := by omega
  simp [dMod, dI2c, this, Int.fmod_eq_emod_of_nonneg _ (Int.le_of_lt h)]
theorem dDiv_int {i j : Int} (h : 0 < j) (h2 : j < 1073741824) : dDiv (.int i) (.int j) = some (.int (i / j)) := by
  have h3 : j ≠ 0 := by omega
  have h4 : j.natAbs < 1073741824 := by omega
  simp [dDiv, dI2c, okDiv, h3, h4, Int.fdiv_eq_ediv_of_nonneg _ (Int.le_of_lt h)]
theorem dPow_int {i j : Int} (h : 0 ≤ j) (h2 : j ≤ 1000000) (h3 : i.natAbs < 2 ^ 64) : dPow (.int i) (.int j) = some (.int (i ^ j.toNat)) := by
  simp [dPow, dI2c, okPow, h, h2, h3]
@[simp] theorem dNeg_int (i : Int) : dNeg (.int i) = some (.int (-i)) := rfl
@[simp] theorem dLt_int (i j : Int) : dLt (.int i) (.int j) = some (decide (i < j)) := rfl
@[simp] theorem dLe_int (i j : Int) : dLe (.int i) (.int j) = some (decide (i ≤ j)) := rfl
@[simp] theorem dGt_int (i j : Int) : dGt (.int i) (.int j) = some (decide (j < i)) := rfl
@[simp] theorem dGe_int (i j : Int) : dGe (.int i) (.int j) = some (decide (j ≤ i)) := rfl
@[simp] theorem dI2b_int (f : Int → Int → Bool) (i j : Int) : dI2b f (.int i) (.int j) = some (f i j) := rfl
@[simp] theorem dEq_int (i j : Int) : dEq (.int i) (.int j) = some (decide (i = j)) := rfl
@[simp] theorem dNe_int (i j : Int) : dNe (.int i) (.int j) = some (!decide (i = j)) := rfl
@[simp] theorem dEq_str (i j : Str) : dEq (.str i) (.str j) = some (decide (i = j)) := rfl
@[simp] theorem dNe_str (i j : Str) : dNe (.str i) (.str j) = some (!decide (i = j)) := rfl
@[simp] theorem dIsB_bl (i j : Bool) : dIsB (.bl i) (.bl j) = some (decide (i = j)) := rfl
@[simp] theorem dNotB_bl (i j : Bool) : dNotB (.bl i) (.bl j) = some (!decide (i = j)) := rfl
@[simp] theorem dInt_int (i : Int) : dInt [.int i] = some (.int i) := rfl
@[simp] theorem dInt_bl (b : Bool) : dInt [.bl b] = some (.int (if b then 1 else 0)) := rfl
theorem dLen_lst (xs : List D) : dLen [.lst xs] = some (.int xs.length) := rfl
theorem dLen_tup (xs : List D) : dLen [.tup xs] = some (.int xs.length) := rfl
theorem dLen_scr (xs : List Int) : dLen [.scr xs] = some (.int xs.length) := rfl
@[simp] theorem dAbs_int (i : Int) : dAbs [.int i] = some (.int (if i < 0 then -i else i)) := rfl
@[simp] theorem dMax2_int (i j : Int) : dMax2 [.int i, .int j] = some (.int (if j > i then j else i)) := rfl
@[simp] theorem dMin2_int (i j : Int) : dMin2 [.int i, .int j] = some (.int (if j < i then j else i)) := rfl
theorem dDivmod_int {i j : Int} (h : 0 < j) (h2 : j < 1073741824) : dDivmod [.int i, .int j] = some (.tup [.int (i / j), .int (i % j)]) := by simp [dDivmod, h, h2]
theorem dIx_lst {xs : List D} {k : Nat} {d : D} (h : xs[k]? = some d) : dIx (.lst xs) (.int k) = some d := by
  have hk : k < xs.length := (List.getElem?_eq_some_iff.mp h).1
  have h1 : (k : Int) < (xs.length : Int) := by omega
  simp only [dIx, atI, ixN]
  rw [if_pos (by omega), if_pos h1]
  simpa using h
theorem dIx_tup {xs : List D} {k : Nat} {d : D} (h : xs[k]? = some d) : dIx (.tup xs) (.int k) = some d := dIx_lst (xs := xs) h
@[simp] theorem noPot_non : noPot .non = true := by simp [noPot]
@[simp] theorem noPot_bl (b : Bool) : noPot (.bl b) = true := by simp [noPot]
@[simp] theorem noPot_int (b : Int) : noPot (.int b) = true := by simp [noPot]
@[simp] theorem noPot_str (b : Str) : noPot (.str b) = true := by simp [noPot]
@[simp] theorem noPot_lst (b : List D) : noPot (.lst b) = true := by simp [noPot]
@[simp] theorem noPot_tup (b : List D) : noPot (.tup b) = true := by simp [noPot]
@[simp] theorem noPot_scr (b : List Int) : noPot (.scr b) = true := by simp [noPot]
@[simp] theorem noPot_emp : noPot .emp = true := by simp [noPot]
@[simp] theorem isNon_non : isNon .non = true := by simp [isNon]
@[simp] theorem isNon_bl (b : Bool) : isNon (.bl b) = false := by simp [isNon]
@[simp] theorem isNon_int (b : Int) : isNon (.int b) = false := by simp [isNon]
@[simp] theorem isNon_str (b : Str) : isNon (.str b) = false := by simp [isNon]
@[simp] theorem isNon_lst (b : List D) : isNon (.lst b) = false := by simp [isNon]
@[simp] theorem isNon_tup (b : List D) : isNon (.tup b) = false := by simp [isNon]
end PF

namespace PF
open PySem PySem.Spec PyProof.Rows L2

/-! ### rules for loops and comprehensions -/
theorem lcGo_pure {f : D → Sl → Option Sl} {tt : M Bool} {el : M D} {ρ : Sl} {p : Pst} (b : D → Bool) (g : D → D) : ∀ items : List D, (∀ d ∈ items, ∃ ρ1, f d ρ = some ρ1 ∧ tt ρ1 p = .ok (b d) p ∧ (b d = true → el ρ1 p = .ok (g d) p)) → lcGo f tt el items ρ p = .ok ((items.filter b).map g) p
  | [], _ => rfl
  | d :: ds, h => by
    obtain ⟨ρ1, e1, e2, e3⟩ := h d List.mem_cons_self
    have ih := lcGo_pure b g ds fun d hd => h d (List.mem_cons_of_mem _ hd)
    simp only [lcGo, e1, e2]
    cases hb : b d with
    | false => simp [ih, hb]
    | true => simp [ih, hb, e3 hb]
theorem mLc_pure {vs : List Nat} {mi : M (List D)} {f : D → Sl → Option Sl} {tt : M Bool} {el : M D} {ρ : Sl} {p p1 : Pst} {items : List D} (hi : mi ρ p = .ok items p1) (b : D → Bool) (g : D → D)
    (h : ∀ d ∈ items, ∃ ρ1, f d (wipeS ρ vs) = some ρ1 ∧ tt ρ1 p1 = .ok (b d) p1 ∧ (b d = true → el ρ1 p1 = .ok (g d) p1)) : mLc vs mi f tt el ρ p = .ok ((items.filter b).map g) p1 := by
  unfold mLc
  rw [ev_mbind, hi, andThen_ok, kM_ap]
  simp only [lcGo_pure b g items h]
theorem filter_map_rg (lo : Int) (n : Nat) (b : Nat → Bool) (g : Nat → D) (b' : D → Bool) (g' : D → D) (h : ∀ k, k < n → b' (.int (lo + k)) = b k ∧ (b k = true → g' (.int (lo + k)) = g k)) : ((rgL lo n).filter b').map g' = ((List.range n).filter b).map g := by
  unfold rgL
  rw [List.filter_map, List.map_map]
  have e1 : (List.range n).filter (b' ∘ fun (k : Nat) => D.int (lo + k)) = (List.range n).filter b := List.filter_congr fun k hk => (h k (List.mem_range.mp hk)).1
  rw [e1]
  refine List.map_congr_left fun k hk => ?_
  obtain ⟨h1, h2⟩ := List.mem_filter.mp hk
  exact (h k (List.mem_range.mp h1)).2 h2
/-- a comprehension over a range -/
theorem mLc_rng {i n : Nat} {lo : Int} {mi : M (List D)} {tt : M Bool} {el : M D} {ρ : Sl} {p p1 : Pst} (hi : mi ρ p = .ok (rgL lo n) p1) (b : Nat → Bool) (g : Nat → D)
    (h : ∀ k, k < n → tt ((wipeS ρ [i]).set i (some (.val (.int (lo + k))))) p1 = .ok (b k) p1 ∧ (b k = true → el ((wipeS ρ [i]).set i (some (.val (.int (lo + k))))) p1 = .ok (g k) p1)) : mLc [i] mi (fName i) tt el ρ p = .ok (((List.range n).filter b).map g) p1 := by
  unfold mLc
  rw [ev_mbind, hi, andThen_ok, kM_ap]
  have key : ∀ l : List Nat, (∀ k ∈ l, k < n) → lcGo (fName i) tt el (l.map fun (k : Nat) => D.int (lo + k)) (wipeS ρ [i]) p1 = .ok ((l.filter b).map g) p1 := by
    intro l
    induction l with
    | nil => intro _; rfl
    | cons k l ih =>
      intro hl
      obtain ⟨h1, h2⟩ := h k (hl k List.mem_cons_self)
      have ih' := ih fun k hk => hl k (List.mem_cons_of_mem _ hk)
      simp only [List.map_cons, lcGo, fName, h1]
      cases hb : b k with
      | false => simp [ih', hb, fName]
      | true => simp [ih', hb, h2 hb, fName]
  have := key (List.range n) fun k hk => List.mem_range.mp hk
  unfold rgL
  simp only [this]
theorem filter_yes {α : Type} (l : List α) : l.filter (fun _ => true) = l := List.filter_eq_self.mpr fun _ _ => rfl
theorem mLc_rngY {i n : Nat} {lo : Int} {mi : M (List D)} {el : M D} {ρ : Sl} {p p1 : Pst} (hi : mi ρ p = .ok (rgL lo n) p1) (g : Nat → D)
    (h : ∀ k, k < n → el ((wipeS ρ [i]).set i (some (.val (.int (lo + k))))) p1 = .ok (g k) p1) : mLc [i] mi (fName i) mYes el ρ p = .ok ((List.range n).map g) p1 := by
  have := mLc_rng (i := i) (tt := mYes) hi (fun _ => true) g fun k hk => ⟨rfl, fun _ => h k hk⟩
  rwa [filter_yes] at this
/-- a comprehension over a list of data, one name -/
theorem mLc_lst {i : Nat} {mi : M (List D)} {tt : M Bool} {el : M D} {ρ : Sl} {p p1 : Pst} {items : List D} (hi : mi ρ p = .ok items p1) (b : D → Bool) (g : D → D)
    (h : ∀ d ∈ items, tt ((wipeS ρ [i]).set i (some (.val d))) p1 = .ok (b d) p1 ∧ (b d = true → el ((wipeS ρ [i]).set i (some (.val d))) p1 = .ok (g d) p1)) : mLc [i] mi (fName i) tt el ρ p = .ok ((items.filter b).map g) p1 :=
  mLc_pure hi b g fun d hd => ⟨_, rfl, (h d hd).1, (h d hd).2⟩
/-- items of a mapped list -/
theorem mLc_map {α : Type} {i : Nat} {mi : M (List D)} {tt : M Bool} {el : M D} {ρ : Sl} {p p1 : Pst} {xs : List α} {c : α → D} (hi : mi ρ p = .ok (xs.map c) p1) (b : α → Bool) (g : α → D)
    (h : ∀ x ∈ xs, tt ((wipeS ρ [i]).set i (some (.val (c x)))) p1 = .ok (b x) p1 ∧ (b x = true → el ((wipeS ρ [i]).set i (some (.val (c x)))) p1 = .ok (g x) p1)) : mLc [i] mi (fName i) tt el ρ p = .ok ((xs.filter b).map g) p1 := by
  unfold mLc
  rw [ev_mbind, hi, andThen_ok, kM_ap]
  have key : ∀ l : List α, (∀ x ∈ l, x ∈ xs) → lcGo (fName i) tt el (l.map c) (wipeS ρ [i]) p1 = .ok ((l.filter b).map g) p1 := by
    intro l
    induction l with
    | nil => intro _; rfl
    | cons k l ih =>
      intro hl
      obtain ⟨h1, h2⟩ := h k (hl k List.mem_cons_self)
      have ih' := ih fun k hk => hl k (List.mem_cons_of_mem _ hk)
      simp only [List.map_cons, lcGo, fName, h1]
      cases hb : b k with
      | false => simp [ih', hb, fName]
      | true => simp [ih', hb, h2 hb, fName]
  simp only [key xs fun _ h => h]
theorem mLc_mapY {α : Type} {i : Nat} {mi : M (List D)} {el : M D} {ρ : Sl} {p p1 : Pst} {xs : List α} {c : α → D} (hi : mi ρ p = .ok (xs.map c) p1) (g : α → D)
    (h : ∀ x ∈ xs, el ((wipeS ρ [i]).set i (some (.val (c x)))) p1 = .ok (g x) p1) : mLc [i] mi (fName i) mYes el ρ p = .ok (xs.map g) p1 := by
  have := mLc_map (i := i) (tt := mYes) hi (fun _ => true) g fun x hx => ⟨rfl, fun _ => h x hx⟩
  rwa [filter_yes] at this
theorem dRange1_nat (n : Nat) (h : n ≤ 16000000) : dRange1 [.int (n : Int)] = some (rgL 0 n) := by
  show (if _ then _ else _) = _
  rw [if_pos ⟨by omega, by omega⟩, Int.toNat_natCast]
/-- a comprehension whose element draws: an invariant of the pot, a property of each item -/
theorem lcGo_draw {f : D → Sl → Option Sl} {el : M D} {ρ : Sl} (I : Pst → Prop) (R : D → D → Prop) : ∀ (items : List D) (p : Pst), I p → (∀ d ∈ items, ∀ p, I p → ∃ ρ1, f d ρ = some ρ1 ∧ ∃ y p', el ρ1 p = .ok y p' ∧ I p' ∧ R d y) → ∃ ys p', lcGo f mYes el items ρ p = .ok ys p' ∧ I p' ∧ AllR R items ys
  | [], p, hp, _ => ⟨[], p, rfl, hp, .nil⟩
  | d :: ds, p, hp, h => by
    obtain ⟨ρ1, e1, y, p1, e2, hp1, r⟩ := h d List.mem_cons_self p hp
    obtain ⟨ys, p2, e3, hp2, rs⟩ := lcGo_draw I R ds p1 hp1 fun d hd => h d (List.mem_cons_of_mem _ hd)
    refine ⟨y :: ys, p2, ?_, hp2, .cons r rs⟩
    simp only [lcGo, e1, ev_mYes, e2, e3]
theorem mLc_draw {vs : List Nat} {mi : M (List D)} {f : D → Sl → Option Sl} {el : M D} {ρ : Sl} {p p1 : Pst} {items : List D} (hi : mi ρ p = .ok items p1) (I : Pst → Prop) (R : D → D → Prop) (hp : I p1)
    (h : ∀ d ∈ items, ∀ p, I p → ∃ ρ1, f d (wipeS ρ vs) = some ρ1 ∧ ∃ y p', el ρ1 p = .ok y p' ∧ I p' ∧ R d y) : ∃ ys p', mLc vs mi f mYes el ρ p = .ok ys p' ∧ I p' ∧ AllR R items ys := by
  obtain ⟨ys, p2, e, h2, h3⟩ := lcGo_draw I R items p1 hp h
  refine ⟨ys, p2, ?_, h2, h3⟩
  unfold mLc
  rw [ev_mbind, hi, andThen_ok, kM_ap]
  simp only [e]
/-- for -/
theorem cforGo_rule {G : D → Sl → Pst → Option (Sl × Pst)} {body : C} (Q : SRes → Prop) : ∀ (items : List D) (I : Nat → Sl → Pst → Prop) (ρ : Sl) (p : Pst), I 0 ρ p →
    (∀ i d ρ p, items[i]? = some d → I i ρ p → ∃ ρ1 p1, G d ρ p = some (ρ1, p1) ∧ (match body ρ1 p1 with | .nx ρ' p' => I (i + 1) ρ' p' | .ct ρ' p' => I (i + 1) ρ' p' | .bk ρ' p' => Q (.nx ρ' p') | .stuck => False | r => Q r)) →
    (∀ ρ p, I items.length ρ p → Q (.nx ρ p)) → Q (cforGo G body items ρ p)
  | [], I, ρ, p, h0, _, hd => hd ρ p h0
  | d :: ds, I, ρ, p, h0, hs, hd => by
    obtain ⟨ρ1, p1, e, hb⟩ := hs 0 d ρ p rfl h0
    simp only [cforGo, e]
    have again : ∀ ρ' p', I 1 ρ' p' → Q (cforGo G body ds ρ' p') := fun ρ' p' h => cforGo_rule Q ds (fun i => I (i + 1)) ρ' p' h (fun i d ρ p hi hI => hs (i + 1) d ρ p (by simpa using hi) hI) fun ρ p h => hd ρ p h
    cases q : body ρ1 p1 with
    | nx ρ' p' => rw [q] at hb; exact again ρ' p' hb
    | ct ρ' p' => rw [q] at hb; exact again ρ' p' hb
    | bk ρ' p' => rw [q] at hb; exact hb
    | rt d fr p' => rw [q] at hb; exact hb
    | exc x ρ' p' => rw [q] at hb; exact hb
    | stuck => rw [q] at hb; exact hb.elim
/-- while, by a measure -/
theorem cwhile_rule {mt : M Bool} {body : C} (Q : SRes → Prop) (I : Sl → Pst → Prop) (μ : Sl → Pst → Nat)
    (step : ∀ ρ p, I ρ p → ∃ k p1, mt ρ p = .ok k p1 ∧ (k = false → Q (.nx ρ p1)) ∧ (k = true → (match body ρ p1 with | .nx ρ' p' => I ρ' p' ∧ μ ρ' p' < μ ρ p | .ct ρ' p' => I ρ' p' ∧ μ ρ' p' < μ ρ p | .bk ρ' p' => Q (.nx ρ' p') | .stuck => False | r => Q r))) :
    ∀ (n : Nat) (ρ : Sl) (p : Pst), I ρ p → μ ρ p < n → Q (cwhile mt body n ρ p)
  | 0, ρ, p, _, h => absurd h (Nat.not_lt_zero _)
  | n + 1, ρ, p, hI, hm => by
    obtain ⟨k, p1, e, h0, h1⟩ := step ρ p hI
    simp only [cwhile, ev_eout, e, andS_ok, kC_ap]
    cases k with
    | false => simpa using h0 rfl
    | true =>
      have hb := h1 rfl
      simp only [if_true]
      cases q : body ρ p1 with
      | nx ρ' p' =>
        rw [q] at hb
        exact cwhile_rule Q I μ step n ρ' p' hb.1 (by have := hb.2; omega)
      | ct ρ' p' =>
        rw [q] at hb
        exact cwhile_rule Q I μ step n ρ' p' hb.1 (by have := hb.2; omega)
      | bk ρ' p' => rw [q] at hb; exact hb
      | rt d fr p' => rw [q] at hb; exact hb
      | exc x ρ' p' => rw [q] at hb; exact hb
      | stuck => rw [q] at hb; exact hb.elim
/-- while, by the number of turns: s the states turn by turn -/
theorem cwhile_step {mt : M Bool} {body : C} {n : Nat} {ρ ρ' : Sl} {p p1 p' : Pst} (h : mt ρ p = .ok true p1) (h2 : body ρ p1 = .nx ρ' p') : cwhile mt body (n + 1) ρ p = cwhile mt body n ρ' p' := by
  simp [cwhile, h, h2]
theorem cwhile_end {mt : M Bool} {body : C} {n : Nat} {ρ : Sl} {p p1 : Pst} (h : mt ρ p = .ok false p1) : cwhile mt body (n + 1) ρ p = .nx ρ p1 := by
  simp [cwhile, h]

/-! ### the pot -/
structure Good (g : Nat) (p : Pst) : Prop where
  g : p.g = g
  a : 0 ≤ p.a
  b : 0 ≤ p.b
  bl : p.b < 4294967296
/-- _law_draw, with its numbers -/
def drawC (A B M1 M2 S : Int) : C := cseq (cif (mCmp dGt (mIx (rd 0) (mret (.int 0))) (mret (.int 0))) (cseq (casgT (tgTup 2 (tgCons (tgSub 0 (mret (.int 0))) (tgCons (tgName 2) (tgNil)))) (mCall dDivmod (mcons (mIx (rd 0) (mret (.int 0))) (mcons (rd 1) (mret []))))) (cret (rd 2))) (cskip)) (cseq (casgT (tgSub 0 (mret (.int 1))) (mOp dMod (mCall dInt (mcons (mOp dAdd (mOp dMul (mIx (rd 0) (mret (.int 1))) (mret (.int A))) (mret (.int B))) (mret []))) (mret (.int M1)))) (cret (mOp dMod (mCall dInt (mcons (mOp dDiv (mOp dMod (mCall dInt (mcons (mOp dMul (mIx (rd 0) (mret (.int 1))) (mIx (rd 0) (mret (.int 1)))) (mret []))) (mret (.int M2))) (mret (.int S))) (mret []))) (rd 1))))
theorem draw_ok {A B M1 M2 S : Int} (hM1 : 0 < M1) (hM1' : M1 ≤ 4294967296) (hM2 : 0 < M2) (hS : 0 < S) (hS' : S < 1073741824) {g : Nat} {m : Int} {p : Pst} (hm : 0 < m) (hm2 : m < 1073741824) (hp : Good g p) :
    ∃ d p', fres 3 2 (drawC A B M1 M2 S) [.pot g, .int m] p = .ok (.int d) false p' ∧ 0 ≤ d ∧ d < m ∧ Good g p' := by
  obtain ⟨rfl, h1, h2, h3⟩ := hp
  have en : fres 3 2 (drawC A B M1 M2 S) [.pot p.g, .int m] p = sres (drawC A B M1 M2 S [some (.val (.pot p.g)), some (.val (.int m)), none] p) := rfl
  rw [en]
  unfold drawC
  by_cases hc : 0 < p.a
  · refine ⟨p.a % m, ⟨p.g, p.a / m, p.b⟩, ?_, Int.emod_nonneg _ (by omega), Int.emod_lt_of_pos _ hm, rfl, Int.ediv_nonneg h1 (by omega), h2, h3⟩
    simp [hc, casgT, dDivmod_int hm hm2, tgTup, tgCons, tgSub, tgName, tgNil, setPot]
  · have q1 := Int.emod_nonneg (p.b * A + B) (show M1 ≠ 0 by omega)
    have q2 := Int.emod_lt_of_pos (p.b * A + B) hM1
    refine ⟨((p.b * A + B) % M1 * ((p.b * A + B) % M1)) % M2 / S % m, ⟨p.g, p.a, (p.b * A + B) % M1⟩, ?_, Int.emod_nonneg _ (by omega), Int.emod_lt_of_pos _ hm, rfl, h1, q1, (by show (p.b * A + B) % M1 < 4294967296; omega)⟩
    have e1 : dMul (.int p.b) (.int A) = some (.int (p.b * A)) := dMul_int (.inl (by omega))
    have e2 : dMul (.int ((p.b * A + B) % M1)) (.int ((p.b * A + B) % M1)) = some (.int ((p.b * A + B) % M1 * ((p.b * A + B) % M1))) := dMul_int (.inl (by omega))
    have e3 : ∀ (q : Pst) (ρ : Sl), q.g = p.g → ixAny (.pot p.g) (.int 1) ρ q = .ok (.int q.b) q := fun q ρ h => by rw [← h]; exact ev_pot1
    simp [hc, casgT, tgSub, setPot, e1, e2, e3, dMod_int hM1, dMod_int hM2, dMod_int hm, dDiv_int hS hS']
/-- _law_pick -/
def pickC (dr : Fn) : C := cret (mOp dIx (rd 1) (mFn dr 2 0 [0, 1] (mcons (rd 0) (mcons (mCall dLen (mcons (rd 1) (mret []))) (mret []))) (mret [])))
theorem pick_ok {dr : Fn} (hd : ∀ {g : Nat} {m : Int} {p : Pst}, 0 < m → m < 1073741824 → Good g p → ∃ d p', dr [.pot g, .int m] p = .ok (.int d) false p' ∧ 0 ≤ d ∧ d < m ∧ Good g p') {g : Nat} {p : Pst} {xs : List D} (h0 : xs ≠ []) (hl : xs.length < 1073741824) (hp : Good g p) :
    ∃ d p', fres 2 2 (pickC dr) [.pot g, .lst xs] p = .ok d false p' ∧ d ∈ xs ∧ Good g p' := by
  have hpos : 0 < xs.length := List.length_pos_iff.mpr h0
  obtain ⟨i, p', e, h1, h2, h3⟩ := hd (m := (xs.length : Int)) (by omega) (by omega) hp
  have hi : i.toNat < xs.length := by omega
  have hx : xs[i.toNat]? = some xs[i.toNat] := by simp [hi]
  have hix : dIx (.lst xs) (.int i) = some xs[i.toNat] := by
    have := dIx_lst hx
    rwa [Int.toNat_of_nonneg h1] at this
  refine ⟨xs[i.toNat], p', ?_, List.getElem_mem _, h3⟩
  have en : fres 2 2 (pickC dr) [.pot g, .lst xs] p = sres (pickC dr [some (.val (.pot g)), some (.val (.lst xs))] p) := rfl
  rw [en]
  unfold pickC
  simp [dLen_lst, e, hix]
/-- _law_pot, the usual one -/
def potC (A B U V W M1 M2 Z : Int) : C := cseq (casg 2 (mIf (mCmp dLt (rd 1) (mCall dLen (mcons (rd 0) (mret [])))) (mCall dAbs (mcons (mOp dIx (rd 0) (rd 1)) (mret []))) (mOp dAdd (mOp dMul (mret (.int A)) (rd 1)) (mret (.int B))))) (cretpot (mcons (mCall dMax2 (mcons (mret (.int 0)) (mcons (mOp dSub (rd 2) (mOp dPow (mret (.int 10)) (mret (.int 18)))) (mret [])))) (mcons (mOp dAdd (mOp dMod (mCall dInt (mcons (mOp dAdd (mOp dAdd (mOp dMul (mOp dMod (mCall dInt (mcons (rd 2) (mret []))) (mret (.int M1))) (mret (.int U))) (mOp dMul (mret (.int V)) (rd 1))) (mret (.int W))) (mret []))) (mret (.int M2))) (mret (.int Z))) (mret []))))
theorem pot_ok {A B U V W M1 M2 Z : Int} (hM1 : 0 < M1) (hM1' : M1 ≤ 4294967296) (hM2 : 0 < M2) (hM2' : M2 + Z ≤ 4294967296) (hZ : 0 ≤ Z) (hA : A.natAbs < 2 ^ 64) (hV : V.natAbs < 2 ^ 64) {ns : List Int} {k : Nat} {p : Pst} :
    ∃ g p', fres 3 2 (potC A B U V W M1 M2 Z) [.scr ns, .int k] p = .ok (.pot g) false p' ∧ Good g p' := by
  have en : fres 3 2 (potC A B U V W M1 M2 Z) [.scr ns, .int k] p = sres (potC A B U V W M1 M2 Z [some (.val (.scr ns)), some (.val (.int k)), none] p) := rfl
  rw [en]
  obtain ⟨c, hc⟩ : ∃ c : Int, mIf (mCmp dLt (rd 1) (mCall dLen (mcons (rd 0) (mret [])))) (mCall dAbs (mcons (mOp dIx (rd 0) (rd 1)) (mret []))) (mOp dAdd (mOp dMul (mret (.int A)) (rd 1)) (mret (.int B))) [some (.val (.scr ns)), some (.val (.int k)), none] p = .ok (.int c) p := by
    by_cases h : k < ns.length
    · have h1 : (k : Int) < (ns.length : Int) := by omega
      have e : dIx (.scr ns) (.int k) = some (.int ns[k]) := by
        simp only [dIx, atI, ixN]
        rw [if_pos (by omega), if_pos h1]
        simp [h]
      exact ⟨if ns[k] < 0 then -ns[k] else ns[k], by simp [dLen_scr, h, e]⟩
    · exact ⟨A * k + B, by simp [dLen_scr, h, dMul_int (.inl hA)]⟩
  have q1 := Int.emod_nonneg (c % M1 * U + V * k + W) (show M2 ≠ 0 by omega)
  have q2 := Int.emod_lt_of_pos (c % M1 * U + V * k + W) hM2
  have q3 := Int.emod_nonneg c (show M1 ≠ 0 by omega)
  have q4 := Int.emod_lt_of_pos c hM1
  have e1 : dMul (.int (c % M1)) (.int U) = some (.int (c % M1 * U)) := dMul_int (.inl (by omega))
  have e2 : dMul (.int V) (.int k) = some (.int (V * k)) := dMul_int (.inl hV)
  have e3 : dPow (.int 10) (.int 18) = some (.int (10 ^ 18)) := dPow_int (by decide) (by decide) (by decide)
  refine ⟨p.g + 1, ⟨p.g + 1, if 0 < c - 10 ^ 18 then c - 10 ^ 18 else 0, (c % M1 * U + V * k + W) % M2 + Z⟩, ?_, rfl, ?_, ?_, ?_⟩
  · unfold potC
    rw [ev_cseq, ev_casg, ev_eout, hc]
    simp [cretpot, e1, e2, e3, dMod_int hM1, dMod_int hM2]
  · show 0 ≤ (if 0 < c - 10 ^ 18 then c - 10 ^ 18 else 0)
    split <;> omega
  · show 0 ≤ (c % M1 * U + V * k + W) % M2 + Z
    omega
  · show (c % M1 * U + V * k + W) % M2 + Z < 4294967296
    omega
end PF

namespace PF
open PySem PySem.Spec PyProof.Rows L2

/-! ### code that neither looks at the pot nor changes it -/
def Res.at {α : Type} (r : Res α) (q : Pst) : Res α := match r with
  | .ok a _ => .ok a q
  | .exc x _ => .exc x q
  | .stuck => .stuck
def SRes.at (r : SRes) (q : Pst) : SRes := match r with
  | .nx ρ _ => .nx ρ q
  | .rt d fr _ => .rt d fr q
  | .bk ρ _ => .bk ρ q
  | .ct ρ _ => .ct ρ q
  | .exc x ρ _ => .exc x ρ q
  | .stuck => .stuck
def FRes.at (r : FRes) (q : Pst) : FRes := match r with
  | .ok d fr _ => .ok d fr q
  | .exc x _ => .exc x q
  | .stuck => .stuck
def IM {α : Type} (m : M α) : Prop := ∀ ρ p q, m ρ q = (m ρ p).at q
def IC (c : C) : Prop := ∀ ρ p q, c ρ q = (c ρ p).at q
def IF (G : Fn) : Prop := ∀ ds p q, G ds q = (G ds p).at q
section
variable {α β : Type}
theorem im_ret (a : α) : IM (mret a) := fun _ _ _ => rfl
theorem im_stuck : IM (mstuck : M α) := fun _ _ _ => rfl
theorem im_opt (o : Option α) : IM (mopt o) := fun _ _ _ => by cases o <;> rfl
theorem im_bind {m : M α} {k : α → M β} (h : IM m) (hk : ∀ a, IM (k a)) : IM (mbind m k) := fun ρ p q => by
  rw [ev_mbind, ev_mbind, h ρ p q]
  cases e : m ρ p with
  | ok a p' =>
    simp only [Res.at]
    have : p' = p := by
      have := h ρ p p
      rw [e] at this
      simp only [Res.at, Res.ok.injEq] at this
      exact this.2
    subst this
    exact hk a ρ _ q
  | exc x p' => rfl
  | stuck => rfl
theorem im_rd (i : Nat) : IM (rd i) := fun ρ p q => by
  simp only [ev_rd]
  cases ρ[i]? with
  | none => rfl
  | some o =>
    cases o with
    | none => rfl
    | some w => cases w <;> rfl
theorem im_ite {c : Prop} [Decidable c] {m m' : M α} (h : IM m) (h' : IM m') : IM (if c then m else m') := by split <;> assumption
theorem im_op (f) {ma mb : M D} (ha : IM ma) (hb : IM mb) : IM (mOp f ma mb) := im_bind ha fun _ => im_bind hb fun _ => im_opt _
theorem im_opo (f) {ma mb : M D} (ha : IM ma) (hb : IM mb) : IM (mOpo f ma mb) := im_bind ha fun _ => im_bind hb fun _ => im_opt _
theorem im_cmp (f) {ma mb : M D} (ha : IM ma) (hb : IM mb) : IM (mCmp f ma mb) := im_bind ha fun _ => im_bind hb fun _ => im_opt _
theorem im_b {m : M Bool} (h : IM m) : IM (mB m) := im_bind h fun _ => im_ret _
theorem im_un (f) {ma : M D} (ha : IM ma) : IM (mUn f ma) := im_bind ha fun _ => im_opt _
theorem im_and {t u : M Bool} (h : IM t) (h' : IM u) : IM (mAnd t u) := im_bind h fun _ => im_ite h' (im_ret _)
theorem im_or {t u : M Bool} (h : IM t) (h' : IM u) : IM (mOr t u) := im_bind h fun _ => im_ite (im_ret _) h'
theorem im_not {t : M Bool} (h : IM t) : IM (mNot t) := im_bind h fun _ => im_ret _
theorem im_if {t : M Bool} {m m' : M α} (h : IM t) (h1 : IM m) (h2 : IM m') : IM (mIf t m m') := im_bind h fun _ => im_ite h1 h2
theorem im_frz {mo : M (List D)} (h : IM mo) : IM (mfrz mo) := im_bind h fun _ => im_ret _
theorem im_cons {ma : M D} {ms : M (List D)} (h : IM ma) (h' : IM ms) : IM (mcons ma ms) := im_bind h fun _ => im_bind h' fun _ => im_ret _
theorem im_lim {ms : M (List D)} (h : IM ms) : IM (mlim ms) := im_bind h fun _ => im_ite (im_ret _) im_stuck
theorem im_tup {ms : M (List D)} (h : IM ms) : IM (mtup ms) := im_bind h fun _ => im_ite (im_ret _) im_stuck
theorem im_call (f) {ms : M (List D)} (h : IM ms) : IM (mCall f ms) := im_bind h fun _ => im_opt _
theorem im_lst (f) {ms : M (List D)} (h : IM ms) : IM (mLst f ms) := im_bind h fun _ => im_opt _
theorem im_isi (t) {m : M D} (h : IM m) : IM (mIsi t m) := im_bind h fun _ => im_ite (im_ret _) im_stuck
theorem im_isis (t) {m : M D} (h : IM m) : IM (mIsis t m) := im_bind h fun _ => im_ite (im_ret _) im_stuck
theorem im_isN {m : M D} (h : IM m) : IM (mIsN m) := im_bind h fun _ => im_ite (im_ret _) im_stuck
theorem im_notN {m : M D} (h : IM m) : IM (mNotN m) := im_bind h fun _ => im_ite (im_ret _) im_stuck
theorem im_chain (f g) {ma mb mc : M D} (ha : IM ma) (hb : IM mb) (hc : IM mc) : IM (mChain f g ma mb mc) := im_bind ha fun _ => im_bind hb fun _ => im_bind (im_opt _) fun _ => im_ite (im_bind hc fun _ => im_opt _) (im_ret _)
theorem im_seq {m : M D} (h : IM m) : IM (mSeq m) := im_bind h fun d => by
  cases d <;> first | exact im_ret _ | exact im_stuck | (unfold seqD; exact im_ite (im_ret _) im_stuck)
theorem im_range1 {m : M (List D)} (h : IM m) : IM (mRange1 m) := im_bind h fun _ => im_opt _
theorem im_range2 {m : M (List D)} (h : IM m) : IM (mRange2 m) := im_bind h fun _ => im_opt _
theorem im_enum {m : M (List D)} (h : IM m) : IM (mEnum m) := im_bind h fun d => by split <;> first | exact im_ret _ | exact im_stuck
theorem im_zip {m : M (List D)} (h : IM m) : IM (mZip m) := im_bind h fun d => by split <;> first | exact im_ret _ | exact im_stuck
theorem im_t {m : M D} (h : IM m) : IM (mT m) := im_bind h fun d => by cases d <;> first | exact im_ret _ | exact im_stuck
theorem im_notV {m : M D} (h : IM m) : IM (mNotV m) := im_bind h fun d => by cases d <;> first | exact im_ret _ | exact im_stuck
theorem im_andV {t u : M D} (h : IM t) (h' : IM u) : IM (mAndV t u) := im_bind h fun d => by cases d <;> first | exact im_stuck | exact im_ite h' (im_ret _)
theorem im_orV {t u : M D} (h : IM t) (h' : IM u) : IM (mOrV t u) := im_bind h fun d => by cases d <;> first | exact im_stuck | exact im_ite (im_ret _) h'
theorem im_part {m : M D} (h : IM m) : IM (mPart m) := im_bind h fun d => by cases d <;> first | exact im_ret _ | exact im_stuck
theorem im_sl {me : M D} {ml mh : M (Option Int)} (h : IM me) (hl : IM ml) (hh : IM mh) : IM (mSl me ml mh) := im_bind h fun _ => im_bind hl fun _ => im_bind hh fun _ => im_opt _
theorem im_slo {me : M D} {ml mh : M (Option Int)} (h : IM me) (hl : IM ml) (hh : IM mh) : IM (mSlo me ml mh) := im_bind h fun d => im_bind hl fun _ => im_bind hh fun _ => by cases d <;> first | exact im_ret _ | exact im_stuck
theorem im_rev {me : M D} (h : IM me) : IM (mRevo me) := im_bind h fun d => by cases d <;> first | exact im_ret _ | exact im_stuck
theorem im_uV {ma : M D} {ms : M (List W)} (h : IM ma) (h' : IM ms) : IM (muV ma ms) := im_bind h fun _ => im_bind h' fun _ => im_ret _
theorem im_uO {ma : M (List D)} {ms : M (List W)} (h : IM ma) (h' : IM ms) : IM (muO ma ms) := im_bind h fun _ => im_bind h' fun _ => im_ret _
theorem im_outFn {f : D → Bool → Option α} {G : Fn} (h : IF G) (ds : List D) : IM fun _ p => outFn f (G ds p) := fun ρ p q => by
  show outFn f (G ds q) = (outFn f (G ds p)).at q
  rw [h ds p q]
  cases G ds p with
  | ok d fr p' =>
    simp only [FRes.at, ev_outFn]
    cases f d fr <;> rfl
  | exc x p' => rfl
  | stuck => rfl
theorem im_fn {G : Fn} (h : IF G) (n m ix) {ms mk : M (List D)} (hs : IM ms) (hk : IM mk) : IM (mFn G n m ix ms mk) := im_bind hs fun ds => im_bind hk fun es ρ p q => by
  show (if _ then _ else _) = (if _ then _ else _ : Res D).at q
  split
  · exact im_outFn h _ ρ p q
  · rfl
theorem im_fno {G : Fn} (h : IF G) (n m ix) {ms mk : M (List D)} (hs : IM ms) (hk : IM mk) : IM (mFno G n m ix ms mk) := im_bind hs fun ds => im_bind hk fun es ρ p q => by
  show (if _ then _ else _) = (if _ then _ else _ : Res (List D)).at q
  split
  · exact im_outFn h _ ρ p q
  · rfl
/-- items of what is no pot -/
theorem im_ixO (i) {mb : M D} (h : IM mb) : IM (mIxO i mb) := fun ρ p q => by
  unfold mIxO
  split
  · exact im_bind h (fun _ => im_opt _) ρ p q
  · rfl
theorem im_scal {m : M D} (h : IM m) : IM (mscal m) := fun ρ p q => by
  unfold mscal
  rw [h (thaw ρ) p q]
  cases m (thaw ρ) p with
  | ok a p' => simp only [Res.at]; split <;> rfl
  | exc x p' => rfl
  | stuck => rfl
theorem im_scalt {m : M Bool} (h : IM m) : IM (mscalt m) := fun ρ p q => by
  unfold mscalt
  rw [h (thaw ρ) p q]
  cases m (thaw ρ) p with
  | ok a p' => rfl
  | exc x p' => rfl
  | stuck => rfl
theorem im_same {m : M α} (h : IM m) {ρ : Sl} {p p' : Pst} {a : α} (e : m ρ p = .ok a p') : p' = p := by
  have := h ρ p p
  rw [e] at this
  simp only [Res.at, Res.ok.injEq] at this
  exact this.2
theorem im_lcGo {f : D → Sl → Option Sl} {tt : M Bool} {el : M D} (ht : IM tt) (he : IM el) : ∀ items, IM (lcGo f tt el items)
  | [] => im_ret _
  | x :: xs => fun ρ p q => by
    have ih := im_lcGo (f := f) ht he xs
    simp only [lcGo]
    cases f x ρ with
    | none => rfl
    | some ρ1 =>
      simp only
      rw [ht ρ1 p q]
      cases e1 : tt ρ1 p with
      | stuck => rfl
      | exc y p' => rfl
      | ok b p1 =>
        obtain rfl := im_same ht e1
        cases b with
        | false => simp only [Res.at]; exact ih ρ _ q
        | true =>
          simp only [Res.at]
          rw [he ρ1 p1 q]
          cases e2 : el ρ1 p1 with
          | stuck => rfl
          | exc y p' => rfl
          | ok y p2 =>
            obtain rfl := im_same he e2
            simp only [Res.at]
            rw [ih ρ p2 q]
            cases e3 : lcGo f tt el xs ρ p2 <;> rfl
theorem im_lc (vs) {mi : M (List D)} (f) {tt : M Bool} {el : M D} (hi : IM mi) (ht : IM tt) (he : IM el) : IM (mLc vs mi f tt el) := im_bind hi fun items ρ p q => by
  show (match lcGo f tt el items (wipeS ρ vs) q with | .ok ys p' => .ok ys p' | _ => Res.stuck) = Res.at (match lcGo f tt el items (wipeS ρ vs) p with | .ok ys p' => .ok ys p' | _ => Res.stuck) q
  rw [im_lcGo ht he items (wipeS ρ vs) p q]
  cases lcGo f tt el items (wipeS ρ vs) p <;> rfl
theorem im_yes : IM mYes := im_ret _
/-- blocks -/
theorem ic_skip : IC cskip := fun _ _ _ => rfl
theorem ic_brk : IC cbrk := fun _ _ _ => rfl
theorem ic_cnt : IC ccnt := fun _ _ _ => rfl
theorem ic_stuck : IC cstuck := fun _ _ _ => rfl
theorem ic_retN : IC cretN := fun _ _ _ => rfl
theorem ic_seq {a b : C} (ha : IC a) (hb : IC b) : IC (cseq a b) := fun ρ p q => by
  rw [ev_cseq, ev_cseq, ha ρ p q]
  cases e : a ρ p with
  | nx ρ' p' =>
    have := ha ρ p p
    rw [e] at this
    simp only [SRes.at, SRes.nx.injEq, true_and] at this
    subst this
    exact hb ρ' _ q
  | rt d fr p' => rfl
  | bk ρ' p' => rfl
  | ct ρ' p' => rfl
  | exc x ρ' p' => rfl
  | stuck => rfl
theorem ic_eout {m : M α} {k : α → C} (h : IM m) (hk : ∀ a, IC (k a)) : IC (eout m k) := fun ρ p q => by
  rw [ev_eout, ev_eout, h ρ p q]
  cases e : m ρ p with
  | ok a p' =>
    obtain rfl := im_same h e
    exact hk a ρ _ q
  | exc x p' => rfl
  | stuck => rfl
theorem ic_ite {c : Prop} [Decidable c] {m m' : C} (h : IC m) (h' : IC m') : IC (if c then m else m') := by split <;> assumption
theorem ic_expr {m : M D} (h : IM m) : IC (cexpr m) := ic_eout h fun _ => ic_skip
theorem ic_ret {m : M D} (h : IM m) : IC (cret m) := ic_eout h fun _ _ _ _ => rfl
theorem ic_reto {m : M (List D)} (h : IM m) : IC (creto m) := ic_eout h fun _ _ _ _ => rfl
theorem ic_retown (i) : IC (cretown i) := fun ρ p q => by unfold cretown; split <;> rfl
theorem ic_if {t : M Bool} {a b : C} (h : IM t) (ha : IC a) (hb : IC b) : IC (cif t a b) := ic_eout h fun _ => ic_ite ha hb
theorem ic_asg (i) {m : M D} (h : IM m) : IC (casg i m) := ic_eout h fun _ _ _ _ => rfl
theorem ic_aso (i) {m : M (List D)} (h : IM m) : IC (caso i m) := ic_eout h fun _ _ _ _ => rfl
theorem ic_frz (i) : IC (cfrz i) := fun ρ p q => by unfold cfrz; split <;> rfl
theorem ic_asgW (is) {m : M (List W)} (h : IM m) : IC (casgW is m) := ic_eout h fun ws ρ p q => by
  show (if _ then _ else _) = SRes.at (if _ then _ else _) q
  split <;> rfl
theorem ic_app (i) {m : M D} (h : IM m) : IC (capp i m) := fun ρ p q => by
  unfold capp
  split
  · exact ic_eout h (fun a ρ p q => by show (if _ then _ else _) = SRes.at (if _ then _ else _) q; split <;> rfl) ρ p q
  · rfl
theorem ic_pop (i) : IC (cpop i) := fun ρ p q => by
  unfold cpop
  split
  · split <;> rfl
  · rfl
def ITg (G : D → Sl → Pst → Option (Sl × Pst)) : Prop := ∀ d ρ p q, G d ρ q = (G d ρ p).map fun x => (x.1, q)
def ITgs (G : List D → Sl → Pst → Option (Sl × Pst)) : Prop := ∀ d ρ p q, G d ρ q = (G d ρ p).map fun x => (x.1, q)
theorem it_name (i) : ITg (tgName i) := fun _ _ _ _ => rfl
theorem it_nil : ITgs tgNil := fun d ρ p q => by cases d <;> rfl
theorem it_cons {f fs} (h : ITg f) (h' : ITgs fs) : ITgs (tgCons f fs) := fun d ρ p q => by
  cases d with
  | nil => rfl
  | cons d r =>
    simp only [tgCons]
    rw [h d ρ p q]
    cases e : f d ρ p with
    | none => rfl
    | some w =>
      obtain ⟨ρ1, p1⟩ := w
      have := h d ρ p p
      rw [e] at this
      simp only [Option.map_some, Option.some.injEq, Prod.mk.injEq, true_and] at this
      subst this
      exact h' r ρ1 _ q
theorem it_tup (n) {fs} (h : ITgs fs) : ITg (tgTup n fs) := fun d ρ p q => by
  cases d <;> first | rfl | skip
  simp only [tgTup]
  split
  · exact h _ ρ p q
  · rfl
theorem ic_forGo {G} {body : C} (hG : ITg G) (hb : IC body) : ∀ items, IC (cforGo G body items)
  | [] => ic_skip
  | d :: ds => fun ρ p q => by
    have ih := ic_forGo hG hb ds
    simp only [cforGo]
    rw [hG d ρ p q]
    cases e : G d ρ p with
    | none => rfl
    | some w =>
      obtain ⟨ρ1, p1⟩ := w
      have := hG d ρ p p
      rw [e] at this
      simp only [Option.map_some, Option.some.injEq, Prod.mk.injEq, true_and] at this
      subst this
      simp only [Option.map_some]
      rw [hb ρ1 p1 q]
      have same := hb ρ1 p1 p1
      cases e2 : body ρ1 p1 with
      | nx ρ' p' =>
        rw [e2] at same
        simp only [SRes.at, SRes.nx.injEq, true_and] at same
        subst same
        exact ih ρ' _ q
      | ct ρ' p' =>
        rw [e2] at same
        simp only [SRes.at, SRes.ct.injEq, true_and] at same
        subst same
        exact ih ρ' _ q
      | bk ρ' p' => rfl
      | rt d fr p' => rfl
      | exc x ρ' p' => rfl
      | stuck => rfl
theorem ic_for {mi : M (List D)} {G} {body : C} (h : IM mi) (hG : ITg G) (hb : IC body) : IC (cfor mi G body) := ic_eout h fun _ => ic_forGo hG hb _
theorem ic_while {mt : M Bool} {body : C} (h : IM mt) (hb : IC body) : ∀ n, IC (cwhile mt body n)
  | 0 => ic_stuck
  | n + 1 => ic_eout h fun k => ic_ite (fun ρ p q => by
    have ih := ic_while h hb n
    show (match body ρ q with | .nx ρ' p' => cwhile mt body n ρ' p' | .ct ρ' p' => cwhile mt body n ρ' p' | .bk ρ' p' => .nx ρ' p' | r => r) = SRes.at (match body ρ p with | .nx ρ' p' => cwhile mt body n ρ' p' | .ct ρ' p' => cwhile mt body n ρ' p' | .bk ρ' p' => .nx ρ' p' | r => r) q
    rw [hb ρ p q]
    have same := hb ρ p p
    cases e2 : body ρ p with
    | nx ρ' p' =>
      rw [e2] at same
      simp only [SRes.at, SRes.nx.injEq, true_and] at same
      subst same
      exact ih ρ' _ q
    | ct ρ' p' =>
      rw [e2] at same
      simp only [SRes.at, SRes.ct.injEq, true_and] at same
      subst same
      exact ih ρ' _ q
    | bk ρ' p' => rfl
    | rt d fr p' => rfl
    | exc x ρ' p' => rfl
    | stuck => rfl) ic_skip
theorem if_fres (n k) {c : C} (h : IC c) : IF (fres n k c) := fun ds p q => by
  unfold fres
  split
  · rw [h _ p q]
    cases c (ds.map (fun d => some (W.val d)) ++ List.replicate (n - k) none) p <;> rfl
  · rfl
/-- what is seen at one state of the pot holds at all -/
theorem IF.use {G : Fn} (h : IF G) {ds : List D} {p0 p1 : Pst} {d : D} {fr : Bool} (e : G ds p0 = .ok d fr p1) (p : Pst) : G ds p = .ok d fr p := by
  rw [h ds p0 p, e]; rfl
end
/-- a function's own list of ints, looked at -/
def intsR : FRes → Option (List Int)
  | .ok (.lst xs) true _ => intsOf xs
  | _ => none
theorem intsOf_eq : ∀ {ds : List D} {ns : List Int}, intsOf ds = some ns → ds = ns.map .int
  | [], ns, h => by simp [intsOf] at h; subst h; rfl
  | d :: ds, ns, h => by
    cases d <;> simp [intsOf] at h
    obtain ⟨l, h1, rfl⟩ := h
    rw [List.map_cons, ← intsOf_eq h1]
theorem IF.ints {G : Fn} (h : IF G) {ds : List D} {p0 : Pst} {l : List Int} (e : intsR (G ds p0) = some l) (p : Pst) : G ds p = .ok (.lst (l.map .int)) true p := by
  unfold intsR at e
  split at e
  · rename_i xs p1 q
    rw [intsOf_eq e] at q
    exact h.use q p
  · cases e
end PF

namespace PF
open PySem PySem.Spec PyProof.Rows L2

/-! ### texts of data: bounds -/
structure RL (n k : Nat) (d : D) : Prop where
  pl : pl d = true
  sh : (toPy d).showable = true
  len : (toPy d).shown.length ≤ n
  dep : dep d ≤ k
theorem RL.ok {n k : Nat} {d : D} (h : RL n k d) (hn : n ≤ 16000000) (hk : k ≤ 60) : okRepr d = true := okRepr_iff.mpr ⟨h.pl, h.sh, by have := h.len; rw [sizeLine_eq]; omega, Nat.le_trans h.dep hk⟩
theorem RL.mono {n k n' k' : Nat} {d : D} (h : RL n k d) (hn : n ≤ n') (hk : k ≤ k') : RL n' k' d := ⟨h.pl, h.sh, Nat.le_trans h.len hn, Nat.le_trans h.dep hk⟩
theorem rl_non : RL 4 0 .non := ⟨rfl, rfl, by decide, Nat.le_refl _⟩
theorem rl_bl (b : Bool) : RL 5 0 (.bl b) := ⟨rfl, rfl, by cases b <;> decide, Nat.le_refl _⟩
theorem rl_int {i : Int} (h : i.natAbs < 10 ^ 12) : RL 13 0 (.int i) := by
  refine ⟨rfl, ?_, PyData.shown_int_le h, Nat.le_refl _⟩
  simp only [toPy, PyData.showable, decide_eq_true_eq]
  by_cases h0 : i.natAbs = 0
  · rw [h0]; decide
  · have h1 : i.natAbs < 2 ^ 40 := Nat.lt_trans h (by decide)
    have h2 : i.natAbs.log2 < 40 := (Nat.log2_lt h0).mpr h1
    omega
theorem showableAll_map : ∀ xs : List D, (∀ x ∈ xs, (toPy x).showable = true) → PyData.showableAll (toPys xs) = true
  | [], _ => by simp [toPys, PyData.showableAll]
  | x :: xs, h => by
    simp only [toPys, PyData.showableAll, Bool.and_eq_true]
    exact ⟨h x List.mem_cons_self, showableAll_map xs fun y hy => h y (List.mem_cons_of_mem _ hy)⟩
theorem shownAll_sum (n : Nat) : ∀ xs : List D, (∀ x ∈ xs, (toPy x).shown.length ≤ n) → ((PyData.shownAll (toPys xs)).map (·.length)).sum ≤ xs.length * n ∧ (PyData.shownAll (toPys xs)).length = xs.length
  | [], _ => by simp [toPys, PyData.shownAll]
  | x :: xs, h => by
    obtain ⟨h1, h2⟩ := shownAll_sum n xs fun y hy => h y (List.mem_cons_of_mem _ hy)
    have h3 := h x List.mem_cons_self
    simp only [toPys, PyData.shownAll, List.map_cons, List.sum_cons, List.length_cons, h2]
    refine ⟨?_, trivial⟩
    rw [Nat.add_mul]; omega
theorem deps_le (k : Nat) : ∀ xs : List D, (∀ x ∈ xs, dep x ≤ k) → deps xs ≤ k
  | [], _ => by simp [deps]
  | x :: xs, h => by
    simp only [deps]
    exact Nat.max_le.mpr ⟨h x List.mem_cons_self, deps_le k xs fun y hy => h y (List.mem_cons_of_mem _ hy)⟩
theorem rl_lst {n k : Nat} {xs : List D} (h : ∀ x ∈ xs, RL n k x) : RL (xs.length * (n + 2) + 3) (k + 1) (.lst xs) := by
  obtain ⟨h1, h2⟩ := shownAll_sum n xs fun x hx => (h x hx).len
  refine ⟨?_, ?_, ?_, ?_⟩
  · simp only [PF.pl, pls_all, List.all_eq_true]; exact fun x hx => (h x hx).pl
  · simp only [toPy, PyData.showable]; exact showableAll_map xs fun x hx => (h x hx).sh
  · have := listText_len_le (PyData.shownAll (toPys xs))
    simp only [toPy, PyData.shown]
    rw [h2] at this
    rw [Nat.mul_add]; omega
  · simp only [PF.dep]; have := deps_le k xs fun x hx => (h x hx).dep; omega
theorem rl_tup {n k : Nat} {xs : List D} (h : ∀ x ∈ xs, RL n k x) : RL (xs.length * (n + 2) + 3) (k + 1) (.tup xs) := by
  obtain ⟨h1, h2⟩ := shownAll_sum n xs fun x hx => (h x hx).len
  refine ⟨?_, ?_, ?_, ?_⟩
  · simp only [PF.pl, pls_all, List.all_eq_true]; exact fun x hx => (h x hx).pl
  · simp only [toPy, PyData.showable]; exact showableAll_map xs fun x hx => (h x hx).sh
  · have := tupleText_len_le (PyData.shownAll (toPys xs))
    simp only [toPy, PyData.shown]
    rw [h2] at this
    rw [Nat.mul_add]; omega
  · simp only [PF.dep]; have := deps_le k xs fun x hx => (h x hx).dep; omega
theorem dReprF_ok {d : D} (h : okRepr d = true) : dReprF [d] = some (.str (rtext d)) := by simp [dReprF, h]
/-! ### == on data -/
theorem okEq_bl (b : Bool) : okEq (.bl b) = true := by cases b <;> rfl
theorem okEq_non : okEq .non = true := rfl
theorem okEq_int (i : Int) : okEq (.int i) = true := by simp [okEq, pl, dep]
theorem dep_ints (ns : List Int) : deps (ns.map .int) = 0 := by
  induction ns with
  | nil => simp [deps]
  | cons n ns ih => simp [deps, dep, ih]
theorem pls_ints (ns : List Int) : pls (ns.map .int) = true := by
  rw [pls_all, List.all_eq_true]
  intro x hx
  obtain ⟨n, _, rfl⟩ := List.mem_map.mp hx
  rfl
theorem okEq_ints (ns : List Int) : okEq (.lst (ns.map .int)) = true := by simp [okEq, pl, dep, dep_ints, pls_ints]
theorem okEq_intsT (ns : List Int) : okEq (.tup (ns.map .int)) = true := by simp [okEq, pl, dep, dep_ints, pls_ints]
@[simp] theorem dEq_bl (a b : Bool) : dEq (.bl a) (.bl b) = some (decide (a = b)) := by cases a <;> cases b <;> rfl
@[simp] theorem dNe_bl (a b : Bool) : dNe (.bl a) (.bl b) = some (!decide (a = b)) := by cases a <;> cases b <;> rfl
theorem eqvAll_ints : ∀ ms ns : List Int, PyData.eqvAll (toPys (ms.map .int)) (toPys (ns.map .int)) = decide (ms = ns)
  | [], [] => by simp [toPys, PyData.eqvAll]
  | [], n :: ns => by simp [toPys, PyData.eqvAll]
  | m :: ms, [] => by simp [toPys, PyData.eqvAll]
  | m :: ms, n :: ns => by
    simp only [List.map_cons, toPys, PyData.eqvAll, toPy, PyData.eqv, eqvAll_ints ms ns]
    by_cases h1 : m = n <;> by_cases h2 : ms = ns <;> simp [h1, h2]
theorem dEq_ints (ms ns : List Int) : dEq (.lst (ms.map .int)) (.lst (ns.map .int)) = some (decide (ms = ns)) := by
  simp only [dEq, okEq_ints, Bool.and_self, if_true, toPy, PyData.eqv, eqvAll_ints]
theorem dNe_ints (ms ns : List Int) : dNe (.lst (ms.map .int)) (.lst (ns.map .int)) = some (!decide (ms = ns)) := by simp [dNe, dEq_ints]
theorem dEq_intsT (ms ns : List Int) : dEq (.tup (ms.map .int)) (.tup (ns.map .int)) = some (decide (ms = ns)) := by
  simp only [dEq, okEq_intsT, Bool.and_self, if_true, toPy, PyData.eqv, eqvAll_ints]
theorem dNe_intsT (ms ns : List Int) : dNe (.tup (ms.map .int)) (.tup (ns.map .int)) = some (!decide (ms = ns)) := by simp [dNe, dEq_intsT]
theorem dEq_nil {xs : List D} (h : okEq (.lst xs) = true) : dEq (.lst xs) (.lst []) = some xs.isEmpty := by
  have h0 : okEq (.lst []) = true := rfl
  simp only [dEq, h, h0, Bool.and_self, if_true, toPy, PyData.eqv]
  cases xs <;> simp [toPys, PyData.eqvAll]
theorem dNe_nil {xs : List D} (h : okEq (.lst xs) = true) : dNe (.lst xs) (.lst []) = some (!xs.isEmpty) := by simp [dNe, dEq_nil h]
theorem dIn_ints (i : Int) (ns : List Int) : dIn (.int i) (.lst (ns.map .int)) = some (decide (i ∈ ns)) := by
  simp only [dIn, okEq_int, okEq_ints, Bool.and_self, if_true, List.any_map]
  congr 1
  induction ns with
  | nil => simp
  | cons n ns ih =>
    rw [List.any_cons, ih]
    simp only [Function.comp, toPy, PyData.eqv, List.mem_cons]
    by_cases h1 : n = i
    · simp [h1]
    · have h2 : ¬ i = n := fun e => h1 e.symm
      simp [h1, h2]
theorem dNotIn_ints (i : Int) (ns : List Int) : dNotIn (.int i) (.lst (ns.map .int)) = some (!decide (i ∈ ns)) := by simp [dNotIn, dIn_ints]
theorem dIn_non (ns : List Int) : dIn .non (.lst (ns.map .int)) = some false := by
  simp only [dIn, okEq_non, okEq_ints, Bool.and_self, if_true, List.any_map]
  congr 1
  rw [List.any_eq_false]
  intro n _
  simp [toPy, PyData.eqv]
theorem dNotIn_non (ns : List Int) : dNotIn .non (.lst (ns.map .int)) = some true := by simp [dNotIn, dIn_non]
theorem dAny_bls (bs : List Bool) : dAny [.lst (bs.map .bl)] = some (.bl (bs.any id)) := by simp [dAny, bsOf_map]
theorem dAll_bls (bs : List Bool) : dAll [.lst (bs.map .bl)] = some (.bl (bs.all id)) := by simp [dAll, bsOf_map]
theorem dAny_map {α : Type} (f : α → Bool) (l : List α) : dAny [.lst (l.map fun x => .bl (f x))] = some (.bl (l.any f)) := by
  have h := dAny_bls (l.map f)
  rw [List.map_map, List.any_map] at h
  exact h
theorem dAll_map {α : Type} (f : α → Bool) (l : List α) : dAll [.lst (l.map fun x => .bl (f x))] = some (.bl (l.all f)) := by
  have h := dAll_bls (l.map f)
  rw [List.map_map, List.all_map] at h
  exact h
/-! ### whole numbers from 0 on -/
abbrev iN (k : Nat) : Int := (k : Int)
theorem dI_eq (k : Nat) : D.int (k : Int) = dI k := rfl
theorem lit (n : Nat) : D.int (@OfNat.ofNat Int n _) = dI n := rfl
theorem dI_map (l : List Nat) : l.map dI = (l.map iN).map .int := by rw [List.map_map]; rfl
theorem dI_toNat {i : Int} (h : 0 ≤ i) : D.int i = dI i.toNat := by unfold dI; rw [Int.toNat_of_nonneg h]
@[simp] theorem noPot_dI (k : Nat) : noPot (dI k) = true := by simp [dI]
@[simp] theorem isNon_dI (k : Nat) : isNon (dI k) = false := by simp [dI]
@[simp] theorem isTy_dI (k : Nat) : isTy .int (dI k) = true := by simp [dI, isTy]
@[simp] theorem isTyb_dI (k : Nat) : isTy .bool (dI k) = false := by simp [dI, isTy]
theorem nMod {a c : Nat} (h : 0 < c) : dMod (dI a) (dI c) = some (dI (a % c)) := by
  unfold dI; rw [dMod_int (by omega)]; norm_cast
theorem nDiv {a c : Nat} (h : 0 < c) (h2 : c < 1073741824) : dDiv (dI a) (dI c) = some (dI (a / c)) := by
  unfold dI; rw [dDiv_int (by omega) (by omega)]; norm_cast
theorem nMul {a b : Nat} (h : a < 2 ^ 64 ∨ b < 2 ^ 64) : dMul (dI a) (dI b) = some (dI (a * b)) := by
  unfold dI; rw [dMul_int (by omega)]; norm_cast
@[simp] theorem nAdd {a b : Nat} : dAdd (dI a) (dI b) = some (dI (a + b)) := by
  unfold dI; rw [dAdd_int]; norm_cast
theorem nSub {a b : Nat} (h : b ≤ a) : dSub (dI a) (dI b) = some (dI (a - b)) := by
  unfold dI; rw [dSub_int]; norm_cast
@[simp] theorem nEq {a b : Nat} : dEq (dI a) (dI b) = some (decide (a = b)) := by
  unfold dI; rw [dEq_int]; norm_cast
@[simp] theorem nNe {a b : Nat} : dNe (dI a) (dI b) = some (!decide (a = b)) := by
  unfold dI; rw [dNe_int]; norm_cast
@[simp] theorem nLt {a b : Nat} : dLt (dI a) (dI b) = some (decide (a < b)) := by
  unfold dI; rw [dLt_int]; norm_cast
@[simp] theorem nLe {a b : Nat} : dLe (dI a) (dI b) = some (decide (a ≤ b)) := by
  unfold dI; rw [dLe_int]; norm_cast
@[simp] theorem nGt {a b : Nat} : dGt (dI a) (dI b) = some (decide (b < a)) := by
  unfold dI; rw [dGt_int]; norm_cast
@[simp] theorem nGe {a b : Nat} : dGe (dI a) (dI b) = some (decide (b ≤ a)) := by
  unfold dI; rw [dGe_int]; norm_cast
@[simp] theorem niLt {a b : Nat} : dI2b iLt (dI a) (dI b) = some (decide (a < b)) := by
  unfold dI; rw [dI2b_int]; unfold iLt; norm_cast
@[simp] theorem niLe {a b : Nat} : dI2b iLe (dI a) (dI b) = some (decide (a ≤ b)) := by
  unfold dI; rw [dI2b_int]; unfold iLe; norm_cast
@[simp] theorem nInt {a : Nat} : dInt [dI a] = some (dI a) := rfl
@[simp] theorem nAbs {a : Nat} : dAbs [dI a] = some (dI a) := by
  unfold dI; rw [dAbs_int, if_neg (by omega)]
@[simp] theorem nLen_lst (xs : List D) : dLen [.lst xs] = some (dI xs.length) := rfl
@[simp] theorem nLen_tup (xs : List D) : dLen [.tup xs] = some (dI xs.length) := rfl
@[simp] theorem nLen_scr (xs : List Int) : dLen [.scr xs] = some (dI xs.length) := rfl
theorem nMax2 {a b : Nat} : dMax2 [dI a, dI b] = some (dI (max a b)) := by
  unfold dI; rw [dMax2_int]; congr 2; split <;> omega
theorem nMin2 {a b : Nat} : dMin2 [dI a, dI b] = some (dI (min a b)) := by
  unfold dI; rw [dMin2_int]; congr 2; split <;> omega
theorem nIx_lst {xs : List D} {k : Nat} {d : D} (h : xs[k]? = some d) : dIx (.lst xs) (dI k) = some d := dIx_lst h
theorem nIx_tup {xs : List D} {k : Nat} {d : D} (h : xs[k]? = some d) : dIx (.tup xs) (dI k) = some d := dIx_tup h
theorem nRange1 {n : Nat} (h : n ≤ 16000000) : dRange1 [dI n] = some (rgL 0 n) := dRange1_nat n h
theorem rgL_dI (n : Nat) : rgL 0 n = (List.range n).map dI := by
  unfold rgL dI
  refine List.map_congr_left fun k _ => ?_
  rw [Int.zero_add]
theorem rgL_from (lo n : Nat) : rgL (lo : Int) n = (List.range n).map fun k => dI (lo + k) := by
  unfold rgL dI
  refine List.map_congr_left fun k _ => ?_
  norm_cast
theorem nRange2 {a b : Nat} (h : b ≤ 16000000) (ha : a < 2 ^ 60) : dRange2 [dI a, dI b] = some ((List.range (b - a)).map fun k => dI (a + k)) := by
  rw [← rgL_from]
  have hc : -(2 ^ 60) ≤ (a : Int) ∧ (a : Int) < 2 ^ 60 ∧ -(2 ^ 60) ≤ (b : Int) ∧ (b : Int) < 2 ^ 60 ∧ (b : Int) - a ≤ 16000000 := ⟨by omega, by omega, by omega, by omega, by omega⟩
  have e : ((b : Int) - a).toNat = b - a := by omega
  have : dRange2 [.int (a : Int), .int (b : Int)] = some (rgL a ((b : Int) - a).toNat) := by
    simp only [dRange2]
    rw [if_pos hc]
  rw [e] at this
  exact this
/-- ints as lists of whole numbers -/
theorem map_iN_inj (ms ns : List Nat) : (ms.map iN = ns.map iN) ↔ ms = ns := by
  constructor
  · intro h
    have := congrArg (fun l => l.map Int.toNat) h
    simp only [List.map_map] at this
    have e : (Int.toNat ∘ iN) = id := by funext k; simp [iN]
    simpa [e] using this
  · rintro rfl; rfl
theorem nEqL (ms ns : List Nat) : dEq (.lst (ms.map dI)) (.lst (ns.map dI)) = some (decide (ms = ns)) := by
  rw [dI_map, dI_map, dEq_ints]; congr 1; exact decide_eq_decide.mpr (map_iN_inj ms ns)
theorem nNeL (ms ns : List Nat) : dNe (.lst (ms.map dI)) (.lst (ns.map dI)) = some (!decide (ms = ns)) := by simp [dNe, nEqL]
theorem nEqNil (ms : List Nat) : dEq (.lst (ms.map dI)) (.lst []) = some (decide (ms = [])) := nEqL ms []
theorem nNeNil (ms : List Nat) : dNe (.lst (ms.map dI)) (.lst []) = some (!decide (ms = [])) := nNeL ms []
theorem nIn (k : Nat) (ns : List Nat) : dIn (dI k) (.lst (ns.map dI)) = some (decide (k ∈ ns)) := by
  rw [dI_map]
  show dIn (.int (k : Int)) _ = _
  rw [dIn_ints]; congr 1; refine decide_eq_decide.mpr ?_
  constructor
  · intro h
    obtain ⟨n, h1, h2⟩ := List.mem_map.mp h
    have : n = k := Int.ofNat.inj h2
    rwa [this] at h1
  · intro h; exact List.mem_map.mpr ⟨k, h, rfl⟩
theorem nNotIn (k : Nat) (ns : List Nat) : dNotIn (dI k) (.lst (ns.map dI)) = some (!decide (k ∈ ns)) := by simp [dNotIn, nIn]
theorem rl_dI {k : Nat} (h : k < 10 ^ 12) : RL 13 0 (dI k) := rl_int (by simpa using h)
/-- while, over states of some type -/
theorem cwhile_st {α : Type} {mt : M Bool} {body : C} {p : Pst} (st : α → Sl) (μ : α → Nat) (Inv : α → Prop) (t : α → Bool) (ht : ∀ a, Inv a → mt (st a) p = .ok (t a) p)
    (hb : ∀ a, Inv a → t a = true → ∃ a', body (st a) p = .nx (st a') p ∧ Inv a' ∧ μ a' < μ a) : ∀ (n : Nat) (a : α), Inv a → μ a < n → ∃ a', cwhile mt body n (st a) p = .nx (st a') p ∧ Inv a' ∧ t a' = false
  | 0, a, _, h => absurd h (Nat.not_lt_zero _)
  | n + 1, a, hI, hm => by
    cases e : t a with
    | false => exact ⟨a, cwhile_end (by rw [ht a hI, e]), hI, e⟩
    | true =>
      obtain ⟨a', h1, h2, h3⟩ := hb a hI e
      obtain ⟨a2, h4, h5⟩ := cwhile_st st μ Inv t ht hb n a' h2 (by omega)
      exact ⟨a2, by rw [cwhile_step (by rw [ht a hI, e]) h1]; exact h4, h5⟩
end PF

namespace PF
open PySem PySem.Spec PyProof.Rows L2
section
variable {X : Cx} {En : Ent} {Wx : WX} {e a b o : Expr} {me ma mb m : M D} {ms : M (List D)} {pos p : Pos} {es : List Expr}
/-! ### the first place of an equal item -/
def firstAt (z : D) : List D → Option Nat
  | [] => none
  | x :: xs => if PyData.eqv (toPy x) (toPy z) then some 0 else (firstAt z xs).map (· + 1)
theorem firstAt_spec {z : D} : ∀ {xs : List D} {j : Nat}, firstAt z xs = some j → ∃ y, (toPys xs)[j]? = some y ∧ PyData.eqv y (toPy z) = true ∧ ∀ (m : Nat) (y' : PyData), m < j → (toPys xs)[m]? = some y' → PyData.eqv y' (toPy z) = false
  | [], j, h => by simp [firstAt] at h
  | x :: xs, j, h => by
    unfold firstAt at h
    split at h
    · rename_i hc
      simp only [Option.some.injEq] at h
      subst h
      exact ⟨toPy x, by simp [toPys], hc, fun m y' hm => absurd hm (Nat.not_lt_zero _)⟩
    · rename_i hc
      cases q : firstAt z xs with
      | none => rw [q] at h; simp at h
      | some k =>
        rw [q] at h
        simp only [Option.map_some, Option.some.injEq] at h
        subst h
        obtain ⟨y, h1, h2, h3⟩ := firstAt_spec q
        refine ⟨y, by simpa [toPys] using h1, h2, fun m y' hm hy => ?_⟩
        cases m with
        | zero =>
          have : y' = toPy x := by simpa [toPys] using hy.symm
          rw [this]
          simpa using hc
        | succ m => exact h3 m y' (by omega) (by simpa [toPys] using hy)
def dIndex : D → D → Option D
  | .lst xs, z => if okEq z && okEq (.lst xs) then (firstAt z xs).map fun j => .int (j : Nat) else none
  | _, _ => none
theorem dIndex_some {xs : List D} {y z : D} (h : dIndex (.lst xs) y = some z) : okEq y = true ∧ okEq (.lst xs) = true ∧ ∃ j, firstAt y xs = some j ∧ z = .int (j : Nat) := by
  simp only [dIndex] at h
  split at h
  · rename_i hc
    simp only [Bool.and_eq_true] at hc
    cases q : firstAt y xs with
    | none => rw [q] at h; cases h
    | some j =>
      rw [q] at h
      simp only [Option.map_some, Option.some.injEq] at h
      exact ⟨hc.1, hc.2, j, rfl, h.symm⟩
  · cases h
def lstK {α : Type} (d : D) (k : List D → M α) : M α := match d with
  | .lst xs => k xs
  | _ => mstuck
@[simp] theorem lstK_lst {α : Type} (xs : List D) (k : List D → M α) : lstK (.lst xs) k = k xs := rfl
def mIndex (ma mb : M D) : M D := mbind ma fun d => lstK d fun xs => mbind mb fun y => mopt (dIndex (.lst xs) y)
@[simp] theorem ev_mIndex (ma mb : M D) (ρ : Sl) (p : Pst) : mIndex ma mb ρ p = mbind ma (fun d => lstK d fun xs => mbind mb fun y => mopt (dIndex (.lst xs) y)) ρ p := by cases p; rfl
theorem im_lstK {α : Type} (d : D) {k : List D → M α} (h : ∀ xs, IM (k xs)) : IM (lstK d k) := by
  cases d <;> first | exact h _ | exact im_stuck
theorem im_index {ma mb : M D} (ha : IM ma) (hb : IM mb) : IM (mIndex ma mb) := im_bind ha fun d => im_lstK d fun xs => im_bind hb fun _ => im_opt _
theorem pm_index {ap cp : Pos} (hu : Un X) (ho : PM X Wx o ma) (ha : PM X Wx e mb) (hbase : attributeBase o "index" X.env (eval o X.env) = eval o X.env := by rfl)
    (hfew : ((backTo cp (starEach [e] X.env)).all (fun x => !x.1) && (backToKw cp (keywordEach [] X.env)).all (fun x => x.1.isSome) && decide (([e] : List Expr).length + ([] : List Keyword).length + (if ([] : List Keyword).isEmpty then 0 else 1) < 30)) = true := by rfl)
    (hline : (ap.endLine == cp.line) = true := by rfl) (hs : starEach [e] X.env = (false, eval e X.env) :: starEach [] X.env := by rfl) (hpl : (backTo cp (starEach [] X.env)).any (·.1) = false := by rfl) :
    PM X Wx (.Call (.Attribute o "index" ap) [e] [] cp) (mIndex ma mb) :=
  ⟨(pe_bm PySem.F.plainAttrs_list PySem.F.slot_list_index PySem.F.type_list_index (mt_indexD hu) ho.pe (pa_cons ha.pe pa_nil hs) hbase hfew hline hs hpl).imp fun σ H Q ⟨F, pa, p, ρ, gs, s, o⟩ => by
    refine TM.of gs s (o.bind.mono fun d p1 F1 H1 pa1 gr1 gs1 o1 s1 v1 r1 => ?_)
    cases d <;> first | exact o1.elim | skip
    obtain ⟨a, vs, rfl, h1, hz, rs⟩ := r1.lstH gs1
    refine ⟨.inl ⟨rfl, _, SqL.of h1⟩, ?_⟩
    refine TM.of gs1 s1 (o1.bind.mono fun y p2 F2 H2 pa2 gr2 gs2 o2 s2 v2 r2 => ?_)
    obtain ⟨z, ez, o3⟩ := o2.opt
    rename_i xs
    obtain ⟨hy, hx, j, q, rfl⟩ := dIndex_some ez
    obtain ⟨y', e1, e2, e3⟩ := firstAt_spec q
    have r1' := r1.mono gr2.fz
    have d1 := r1'.dp gs2.sub (pl_of hx)
    have sl := shaped_ok hx
    simp only [toPy] at d1 sl
    exact ⟨a, v2, toPy y, toPys xs, j, y', rfl, rfl, d1, r2.dp gs2.sub (pl_of hy), sl, shaped_ok hy, e1, e2, e3, o3.ret gs2 _ (.int _)⟩⟩
/-! ### list(range(..)) -/
theorem rgV_map (a : Int) (n : Nat) : ((List.range n).map fun i => V.int (a + (i : Nat))) = ((List.range n).map fun (k : Nat) => a + (k : Int)).map V.int := by rw [List.map_map]; rfl
theorem rgL_map (a : Int) (n : Nat) : rgL a n = ((List.range n).map fun (k : Nat) => a + (k : Int)).map D.int := by unfold rgL; rw [List.map_map]; rfl
theorem dRange1_some {x : D} {z : List D} (h : dRange1 [x] = some z) : ∃ j, x = .int j ∧ (j ≤ 16000000 ∧ -(2 ^ 60) ≤ j) ∧ z = rgL 0 j.toNat := by
  cases x <;> first | (simp [dRange1] at h; done) | skip
  rename_i j
  simp only [dRange1] at h
  split at h
  · rename_i hc; exact ⟨j, rfl, hc, by simpa using h.symm⟩
  · cases h
theorem dRange2_some {x y : D} {z : List D} (h : dRange2 [x, y] = some z) : ∃ i j, x = .int i ∧ y = .int j ∧ (-(2 ^ 60) ≤ i ∧ i < 2 ^ 60 ∧ -(2 ^ 60) ≤ j ∧ j < 2 ^ 60 ∧ j - i ≤ 16000000) ∧ z = rgL i (j - i).toNat := by
  cases x <;> cases y <;> first | (simp [dRange2] at h; done) | skip
  rename_i i j
  simp only [dRange2] at h
  split at h
  · rename_i hc; exact ⟨i, j, rfl, rfl, hc, by simpa using h.symm⟩
  · cases h
def mLrg1 (ma : M D) : M (List D) := mbind ma fun x => mopt (dRange1 [x])
def mLrg2 (ma mb : M D) : M (List D) := mbind ma fun x => mbind mb fun y => mopt (dRange2 [x, y])
@[simp] theorem ev_mLrg1 (ma : M D) (ρ : Sl) (p : Pst) : mLrg1 ma ρ p = mbind ma (fun x => mopt (dRange1 [x])) ρ p := by cases p; rfl
@[simp] theorem ev_mLrg2 (ma mb : M D) (ρ : Sl) (p : Pst) : mLrg2 ma mb ρ p = mbind ma (fun x => mbind mb fun y => mopt (dRange2 [x, y])) ρ p := by cases p; rfl
theorem im_lrg1 {ma : M D} (ha : IM ma) : IM (mLrg1 ma) := im_bind ha fun _ => im_opt _
theorem im_lrg2 {ma mb : M D} (ha : IM ma) (hb : IM mb) : IM (mLrg2 ma mb) := im_bind ha fun _ => im_bind hb fun _ => im_opt _
theorem pmo_lrg1 {p2 pos2 : Pos} (hc : X.calm = true) (hl : X.mg "list" = none) (hr : X.mg "range" = none) (ha : PM X Wx a ma) (hgl : Gl X "list" := by rfl) (hgr : Gl X "range" := by rfl) (na : starEach [a] X.env = (false, eval a X.env) :: starEach [] X.env := by rfl)
    (nl : starEach [.Call (.Name "range" p2) [a] [] pos2] X.env = (false, eval (.Call (.Name "range" p2) [a] [] pos2) X.env) :: starEach [] X.env := by rfl) :
    PMo X Wx (.Call (.Name "list" p) [.Call (.Name "range" p2) [a] [] pos2] [] pos) (mLrg1 ma) := ⟨(pe_listRg hc hgl hl (prg_1 hgr hr ha.pe na) nl).imp fun σ H Q ⟨F, pa, p, ρ, gs, s, o⟩ => by
  refine TM.of gs s ((Out.bindS .refl o).mono fun d p1 F1 H1 pa1 gr1' gs1 ⟨gr1, o1⟩ s1 v1 r1 => ?_)
  obtain ⟨z, ez, o2⟩ := o1.opt
  obtain ⟨j, rfl, hcc, rfl⟩ := dRange1_some ez
  cases r1
  refine ⟨_, rfl, ?_⟩
  refine ⟨⟨by omega, by omega, by omega, by omega, by rw [Int.sub_zero]; omega⟩, fun q hq => ?_⟩
  have h0 : ∀ n : Nat, ((List.range n).map fun i => V.int (0 + (i : Nat))) = ((List.range n).map fun (k : Nat) => (0 : Int) + (k : Int)).map V.int := rgV_map 0
  refine o2 F1 _ pa1 (gr1.trans (Gr.allocO hq)) (gs1.allocO hq) q _ (gr1.free0 hq) upd_same (gs1.fnone hq) (gs1.pne hq) (by rw [rgL_len]; exact sz16 (by omega)) ?_
  unfold rgV
  rw [Int.sub_zero, rgV_map, rgL_map]
  exact reps_int_map _⟩
theorem pmo_lrg2 {pos2 : Pos} (hc : X.calm = true) (hl : X.mg "list" = none) (hr : X.mg "range" = none) (ha : PM X Wx a ma) (hb : PM X Wx b mb) (hgl : Gl X "list" := by rfl) (hgr : Gl X "range" := by rfl) (na : starEach [a, b] X.env = (false, eval a X.env) :: starEach [b] X.env := by rfl)
    (nb : starEach [b] X.env = (false, eval b X.env) :: starEach [] X.env := by rfl) (hp : (backTo pos2 (starEach [b] X.env)).any (·.1) = false := by rfl) {p2 : Pos}
    (nl : starEach [.Call (.Name "range" p2) [a, b] [] pos2] X.env = (false, eval (.Call (.Name "range" p2) [a, b] [] pos2) X.env) :: starEach [] X.env := by rfl) :
    PMo X Wx (.Call (.Name "list" p) [.Call (.Name "range" p2) [a, b] [] pos2] [] pos) (mLrg2 ma mb) := ⟨(pe_listRg hc hgl hl (prg_2 hgr hr ha.pe hb.pe na nb hp) nl).imp fun σ H Q ⟨F, pa, p, ρ, gs, s, o⟩ => by
  refine TM.of gs s ((Out.bindS .refl o).mono fun d p1 F1 H1 pa1 gr1' gs1 ⟨gr1, o1⟩ s1 v1 r1 => ?_)
  refine TM.of gs1 s1 ((Out.bindS gr1 o1).mono fun y p2 F2 H2 pa2 gr2' gs2 ⟨gr2, o2⟩ s2 v2 r2 => ?_)
  obtain ⟨z, ez, o3⟩ := o2.opt
  have r1' := r1.mono gr2'.fz
  clear r1
  obtain ⟨i, j, rfl, rfl, hcc, rfl⟩ := dRange2_some ez
  cases r1'; cases r2
  refine ⟨_, _, rfl, rfl, ?_⟩
  refine ⟨⟨by omega, by omega, by omega, by omega, by omega⟩, fun q hq => ?_⟩
  refine o3 F2 _ pa2 (gr2.trans (Gr.allocO hq)) (gs2.allocO hq) q _ (gr2.free0 hq) upd_same (gs2.fnone hq) (gs2.pne hq) (by rw [rgL_len]; exact sz16 (by omega)) ?_
  unfold rgV
  rw [rgV_map, rgL_map]
  exact reps_int_map _⟩
/-! ### more that is independent of the pot -/
theorem ic_ext (i) {m : M D} (h : IM m) : IC (cext i m) := fun ρ p q => by
  unfold cext
  split
  · refine ic_eout h (fun a ρ p q => ?_) ρ p q
    cases a <;> first | rfl | skip
    show (if _ then _ else _) = SRes.at (if _ then _ else _) q
    split <;> rfl
  · rfl
theorem ic_asgT {G} {m : M D} (hG : ITg G) (h : IM m) : IC (casgT G m) := ic_eout h fun d ρ p q => by
  show (match G d ρ q with | some (ρ', p') => SRes.nx ρ' p' | none => .stuck) = SRes.at (match G d ρ p with | some (ρ', p') => SRes.nx ρ' p' | none => .stuck) q
  rw [hG d ρ p q]
  cases G d ρ p with
  | none => rfl
  | some w => rfl
/-- an own list's item is stored -/
def tgSubO (r : Nat) (mi : M D) : D → Sl → Pst → Option (Sl × Pst) := fun d ρ p => match ρ[r]? with
  | some (some (.own _)) => tgSub r mi d ρ p
  | _ => none
theorem tg_subO {r : Nat} {mi : M D} : TgOk X.K X.mg En Wx (gSub (tVar r) (TM X.K X.mg Wx mi) rSetL) (tgSubO r mi) := by
  intro F H pa p x d σ ρ ρ' p' Q s rx e k
  unfold tgSubO at e
  split at e
  · exact tg_sub F H pa p x d σ ρ ρ' p' Q s rx e k
  · cases e
theorem it_subO (r) {mi : M D} (h : IM mi) : ITg (tgSubO r mi) := fun d ρ p q => by
  unfold tgSubO
  cases e : ρ[r]? with
  | none => rfl
  | some o =>
    cases o with
    | none => rfl
    | some w =>
      cases w with
      | val d => rfl
      | own xs =>
        simp only [tgSub, e]
        rw [h ρ p q]
        cases e2 : mi ρ p with
        | stuck => rfl
        | exc y p1 => rfl
        | ok kd p1 =>
          obtain rfl := im_same h e2
          simp only [Res.at]
          cases kd <;> first | rfl | skip
          simp only
          split <;> rfl
end
end PF

namespace PF
open PySem PySem.Spec PyProof.Rows L2
/-! ### repr where an empty dict stands within tuples -/
mutual
def pe : D → Bool
  | .non | .bl _ | .int _ | .emp => true
  | .str x => PyData.strOk x
  | .tup xs => pes xs
  | .lst _ | .scr _ | .pot _ => false
def pes : List D → Bool
  | [] => true
  | x :: xs => pe x && pes xs
end
def okE (d : D) : Bool := pe d && (toPy d).showable && decide ((toPy d).shown.length ≤ sizeLine) && decide ((toPy d).depth ≤ 60)
theorem okE_iff {d : D} : okE d = true ↔ pe d = true ∧ (toPy d).showable = true ∧ (toPy d).shown.length ≤ sizeLine ∧ (toPy d).depth ≤ 60 := by
  unfold okE
  simp only [Bool.and_eq_true, decide_eq_true_eq, and_assoc]
theorem readsE {X : Cx} {pins : List (Addr × Obj)} {σ : L2.St} {s : Shared} {F H : Hp} {g : Nat} {pa : Option Addr} (I : L2.Inv X pins σ H s) (sub : ∀ a o, F a = some o → H a = some o) {v : V} {d : D} (r : Rep X.K F g pa v d) :
    pe d = true → ∀ u, L2.RelV v u → ∃ as, Reads s.heap u (toPy d) as ∧ sysModules ∉ as := by
  induction r with
  | non => intro _ u ru; cases ru; exact ⟨_, by simpa only [toPy] using Reads.none, by simp⟩
  | bl b => intro _ u ru; cases ru; exact ⟨_, by simpa only [toPy] using Reads.bool b, by simp⟩
  | int i => intro _ u ru; obtain ⟨t, rfl⟩ := ru; exact ⟨_, by simpa only [toPy] using Reads.int i t, by simp⟩
  | str x => intro _ u ru; obtain ⟨t, rfl⟩ := ru; exact ⟨_, by simpa only [toPy] using Reads.str x t, by simp⟩
  | lst _ _ _ _ _ => intro hp; simp [pe] at hp
  | scr _ => intro hp; simp [pe] at hp
  | pot _ _ => intro hp; simp [pe] at hp
  | emp h =>
    intro _ u ru
    cases ru
    obtain ⟨_, hne, vs, kv, o, es, ep, ho, ⟨hc, _, _⟩, hd, _, hp, _⟩ := I.hok _ _ (sub _ _ h)
    cases kv
    have he : es.toList = [] := by
      generalize es.toList = l at hp
      cases hp
      rfl
    have q : Reads s.heap (.ref _) (.dict []) (_ :: [] ++ []) := Reads.dict (kvs := []) (as := []) (bs := []) ho hc hd (by rw [he]; exact .nil) (by rw [he]; exact .nil)
    refine ⟨_, by simpa only [toPy] using q, ?_⟩
    simp only [List.cons_append, List.nil_append, List.mem_singleton]
    exact fun e => by rw [← e] at hne; simp at hne
  | @tup a vs ds h hz hl hr ih =>
    intro hp u ru
    cases ru
    obtain ⟨its, rv, ⟨o, ho, hc, n, hd⟩, _⟩ := I.tuple (SqT.of (sub _ _ h))
    have all : ∀ (ds : List D) (vs : List V) (us : List Value), pes ds = true → vs.length = ds.length → (∀ (i : Nat) v d, vs[i]? = some v → ds[i]? = some d → pe d = true → ∀ u, L2.RelV v u → ∃ as, Reads s.heap u (toPy d) as ∧ sysModules ∉ as) → Vals vs us → ∃ as, ReadsAll s.heap us (toPys ds) as ∧ sysModules ∉ as := by
      intro ds
      induction ds with
      | nil =>
        intro vs us _ hl _ rv
        have : vs = [] := List.eq_nil_of_length_eq_zero hl
        subst this
        cases rv
        exact ⟨_, by simpa only [toPys] using ReadsAll.nil, by simp⟩
      | cons d ds ih2 =>
        intro vs us hp hl hh rv
        cases rv with
        | nil => simp at hl
        | cons r t =>
          simp only [pes, Bool.and_eq_true] at hp
          obtain ⟨as, q1, n1⟩ := hh 0 _ _ rfl rfl hp.1 _ r
          obtain ⟨bs, q2, n2⟩ := ih2 _ _ hp.2 (by simpa using hl) (fun i v d h1 h2 => hh (i + 1) v d (by simpa using h1) (by simpa using h2)) t
          exact ⟨_, by simpa only [toPys] using ReadsAll.cons q1 q2, by simp [n1, n2]⟩
    obtain ⟨as, q, n⟩ := all ds vs its (by simpa [pe] using hp) hl (fun i v d h1 h2 => ih i v d h1 h2) rv
    exact ⟨_, by simpa only [toPy] using Reads.tuple ho hc hd q, n⟩
def rReprE (X : Cx) : List V → Hp → VK → Prop := fun xs H Q => ∃ v d, xs = [v] ∧ okE d = true ∧ (∃ (F : Hp) (g : Nat) (pa : Option Addr), (∀ a o, F a = some o → H a = some o) ∧ Rep X.K F g pa v d) ∧ Q (.str (rtext d)) H
def rReprX (X : Cx) : List V → Hp → VK → Prop := fun xs H Q => rReprD X xs H Q ∨ rReprE X xs H Q
/-- repr of plain data, and of tuples with an empty dict -/
def dReprE : List D → Option D
  | [d] => if okRepr d = true then some (.str (rtext d)) else if okE d = true then some (.str (rtext d)) else none
  | _ => none
section
variable {X : Cx} {Wx : WX} {e : Expr} {es : List Expr} {m : M D} {ms : M (List D)} {p pos : Pos}
theorem call_reprE (hu : Un X) (hg : X.A.guards = some []) : CallR X (.builtin "repr") (rReprE X) := by
  intro pins s σ H xs us Q I r h
  obtain ⟨v, d, rfl, hd, ⟨F, g, pa, sub, rp⟩, q⟩ := h
  obtain ⟨h1, h2, h3, h4⟩ := okE_iff.mp hd
  have hu' : X.A.units + 65 < cLine := hu
  obtain ⟨u, rfl, ru⟩ : ∃ u, us = [u] ∧ L2.RelV v u := by
    cases r with
    | cons r r2 => cases r2; exact ⟨_, rfl, r⟩
  obtain ⟨as, rd, nm⟩ := readsE I sub rp h1 u ru
  cases rp with
  | non =>
    cases ru
    exact PySem.P.repr_of_none ⟨.str (rtext .non), H, I.tok _, ⟨_, rfl⟩, q⟩
  | bl b =>
    cases ru
    exact PySem.P.repr_of_bool ⟨.str (rtext (.bl b)), H, I.tok _, ⟨_, by cases b <;> rfl⟩, q⟩
  | int i =>
    obtain ⟨t, rfl⟩ := ru
    have h5 : i.natAbs.log2 < 1920 := by simpa [toPy, PyData.showable] using h2
    exact PySem.P.repr_of_int h5 ⟨.str (rtext (.int i)), H, I.tok _, ⟨_, rfl⟩, q⟩
  | str x =>
    obtain ⟨t, rfl⟩ := ru
    exact PySem.P.repr_of_str ⟨.str (rtext (.str x)), H, I.tok _, ⟨_, rfl⟩, q⟩ (by simpa [toPy, PyData.shown] using h3)
  | lst _ _ _ _ => simp [pe] at h1
  | scr _ => simp [pe] at h1
  | pot _ _ => simp [pe] at h1
  | tup _ _ _ _ =>
    cases ru
    exact PySem.repr_of_reads' rd h2 (fun _ => nm) hg (by omega) (fun _ _ z => z) (fun h' u' tk hk => ⟨.str (rtext _), H, I.kept (h' := h') (t' := tk) hk, ⟨u', rfl⟩, q⟩) h3
  | emp _ =>
    cases ru
    exact PySem.repr_of_reads' rd h2 (fun _ => nm) hg (by omega) (fun _ _ z => z) (fun h' u' tk hk => ⟨.str (rtext _), H, I.kept (h' := h') (t' := tk) hk, ⟨u', rfl⟩, q⟩) h3
theorem call_reprX (hu : Un X) (hg : X.A.guards = some []) : CallR X (.builtin "repr") (rReprX X) := by
  intro pins s σ H xs us Q I r h
  rcases h with h | h
  · exact call_reprD hu hg pins s σ H xs us Q I r h
  · exact call_reprE hu hg pins s σ H xs us Q I r h
theorem calls_reprX : CallS X (rReprX X) dReprE := by
  intro xs ds z F H p pa Q gs rs ez k
  unfold dReprE at ez
  split at ez <;> first | (cases ez; done) | skip
  rename_i d
  obtain ⟨v, rfl, r⟩ := reps1 rs
  split at ez
  · rename_i hd
    simp only [Option.some.injEq] at ez
    subst ez
    exact .inl ⟨v, d, rfl, hd, r.dp gs.sub (okRepr_iff.mp hd).1, k _ _ _ .refl gs (.str _)⟩
  · split at ez <;> first | (cases ez; done) | skip
    rename_i hd
    simp only [Option.some.injEq] at ez
    subst ez
    exact .inr ⟨v, d, rfl, hd, ⟨F, _, _, gs.sub, r⟩, k _ _ _ .refl gs (.str _)⟩
theorem b_reprE (hu : Un X) (hgd : X.A.guards = some []) (hm : X.mg "repr" = none) (ha : PMa X Wx (e :: es) ms) (hg : Gl X "repr" := by rfl) (he : starEach (e :: es) X.env = (false, eval e X.env) :: starEach es X.env := by rfl) (hpl : (backTo pos (starEach es X.env)).any (·.1) = false := by rfl) : PM X Wx (.Call (.Name "repr" p) (e :: es) [] pos) (mCall dReprE ms) := pm_callB (call_reprX hu hgd) calls_reprX hg hm boot_repr ha (by decide) (by decide) he hpl
end
/-- what repr shows, either way -/
def okX (d : D) : Bool := okRepr d || okE d
theorem dReprE_ok {d : D} (h : okX d = true) : dReprE [d] = some (.str (rtext d)) := by
  unfold okX at h
  simp only [Bool.or_eq_true] at h
  rcases h with h | h
  · simp [dReprE, h]
  · simp [dReprE, h]
theorem okX_of {d : D} (h : okRepr d = true) : okX d = true := by simp [okX, h]
end PF

namespace PF
open PySem PySem.Spec PyProof.Rows L2
/-! ### equal texts, equal data: numbers, truth values, None, within lists and tuples -/
mutual
def rp : D → Bool
  | .non | .bl _ | .int _ => true
  | .lst xs => rps xs
  | .tup xs => rps xs
  | .str _ | .scr _ | .pot _ | .emp => false
def rps : List D → Bool
  | [] => true
  | x :: xs => rp x && rps xs
end
theorem rps_all (xs : List D) : rps xs = xs.all rp := by
  induction xs with
  | nil => simp [rps]
  | cons x xs ih => simp [rps, ih]
def intc (i : Int) : List Nat := (toString i).toList.map Char.toNat
mutual
def ct : D → List Nat
  | .non => [78, 111, 110, 101]
  | .bl b => if b then [84, 114, 117, 101] else [70, 97, 108, 115, 101]
  | .int i => intc i
  | .lst xs => 91 :: (cj xs ++ [93])
  | .tup xs => 40 :: (cj xs ++ (if xs.length = 1 then [44, 41] else [41]))
  | .str _ | .scr _ | .pot _ | .emp => []
def cj : List D → List Nat
  | [] => []
  | x :: xs => ct x ++ cjt xs
def cjt : List D → List Nat
  | [] => []
  | x :: xs => 44 :: 32 :: (ct x ++ cjt xs)
end
theorem cj_cons (x : D) (xs : List D) : cj (x :: xs) = ct x ++ cjt xs := by simp only [cj]
theorem cp_lit (s : String) : (Str.ofString s).cps.toList = s.toList.map Char.toNat := signs_ofString s
theorem cp_app (a b : Str) : (a ++ b).cps.toList = a.cps.toList ++ b.cps.toList := by simp [Str.cps_append]
theorem cp_join (f : D → Str) : ∀ (xs : List D) (x : D), (∀ y ∈ x :: xs, (f y).cps.toList = ct y) → (Str.join ", " ((x :: xs).map f)).cps.toList = ct x ++ cjt xs
  | [], x, h => by
    show (Str.join ", " [f x]).cps.toList = _
    rw [join_one, h x List.mem_cons_self]; simp [cjt]
  | y :: ys, x, h => by
    show (Str.join ", " (f x :: f y :: ys.map f)).cps.toList = _
    rw [join_cons_cons, cp_app, cp_app, h x List.mem_cons_self]
    have := cp_join f ys y fun z hz => h z (List.mem_cons_of_mem _ hz)
    rw [List.map_cons] at this
    rw [this, cp_lit]
    simp [cjt]
theorem shownAll_map : ∀ xs : List D, PyData.shownAll (toPys xs) = xs.map rtext
  | [] => by simp [toPys, PyData.shownAll]
  | x :: xs => by simp [toPys, PyData.shownAll, shownAll_map xs, rtext]
mutual
theorem cp_rtext : ∀ d : D, rp d = true → (rtext d).cps.toList = ct d
  | .non, _ => by simp only [rtext, toPy, PyData.shown, ct, cp_lit]; decide
  | .bl b, _ => by cases b <;> simp only [rtext, toPy, PyData.shown, ct, cp_lit] <;> decide
  | .int i, _ => by simp only [rtext, toPy, PyData.shown, ct, cp_lit, intc]
  | .str _, h => by simp [rp] at h
  | .scr _, h => by simp [rp] at h
  | .pot _, h => by simp [rp] at h
  | .emp, h => by simp [rp] at h
  | .lst xs, h => by
    have hx : rps xs = true := by simpa [rp] using h
    have ih := cp_rtexts xs hx
    simp only [rtext, toPy, PyData.shown, ct, listText_eq_join, shownAll_map, cp_app, cp_lit]
    cases xs with
    | nil => simp only [List.map_nil, join_nil, cj]; decide
    | cons x xs => rw [cp_join rtext xs x ih, cj_cons]; simp
  | .tup xs, h => by
    have hx : rps xs = true := by simpa [rp] using h
    have ih := cp_rtexts xs hx
    simp only [rtext, toPy, PyData.shown, ct, tupleText, shownAll_map, cp_app, cp_lit, List.length_map]
    cases xs with
    | nil => simp only [List.map_nil, join_nil, cj]; decide
    | cons x xs =>
      rw [cp_join rtext xs x ih, cj_cons]
      by_cases hl : (x :: xs).length = 1
      · have : xs = [] := by simpa using hl
        subst this; simp
      · have : ¬ xs = [] := fun z => hl (by rw [z]; rfl)
        simp [this]
theorem cp_rtexts : ∀ ds : List D, rps ds = true → ∀ y ∈ ds, (rtext y).cps.toList = ct y
  | [], _ => fun y h => by cases h
  | x :: xs, h => by
    simp only [rps, Bool.and_eq_true] at h
    intro y hy
    rcases List.mem_cons.mp hy with e | hy
    · rw [e]; exact cp_rtext x h.1
    · exact cp_rtexts xs h.2 y hy
end
/-! ints -/
def isIc (c : Nat) : Bool := decide (c = 45) || (decide (48 ≤ c) && decide (c ≤ 57))
theorem intc_all (i : Int) : ∀ c ∈ intc i, isIc c = true := by
  intro c hc
  obtain ⟨ch, h1, rfl⟩ := List.mem_map.mp hc
  rcases int_sign i ch h1 with h | h
  · have := digit_range h
    unfold isIc
    simp [this]
  · subst h; decide
theorem intc_ne (i : Int) : intc i ≠ [] := by
  intro h
  have h1 : (toString i).toList = [] := List.map_eq_nil_iff.mp h
  rw [Int.toString_eq_repr, Int.repr_eq_if] at h1
  split at h1
  · rw [Nat.toList_repr] at h1
    exact absurd h1 (by simp)
  · simp at h1
theorem intc_inj {i j : Int} (h : intc i = intc j) : i = j := by
  have h1 : (toString i).toList = (toString j).toList := by
    have inj : ∀ a b : List Char, a.map Char.toNat = b.map Char.toNat → a = b := by
      intro a
      induction a with
      | nil => intro b e; cases b with
        | nil => rfl
        | cons _ _ => cases e
      | cons x a ih => intro b e; cases b with
        | nil => cases e
        | cons y b =>
          rw [List.map_cons, List.map_cons, List.cons.injEq] at e
          have : x = y := Char.toNat_inj.mp e.1
          rw [this, ih b e.2]
    exact inj _ _ h
  have h2 : toString i = toString j := String.toList_inj.mp h1
  rw [Int.toString_eq_repr, Int.toString_eq_repr] at h2
  exact Int.repr_injective h2
/-- what may follow -/
def Del (s : List Nat) : Prop := ∀ c r, s = c :: r → c = 44 ∨ c = 41 ∨ c = 93
theorem del_nil : Del [] := fun c r h => by cases h
theorem del_cons {c : Nat} {r : List Nat} (h : c = 44 ∨ c = 41 ∨ c = 93) : Del (c :: r) := fun c' r' e => by cases e; exact h
theorem tw_app {p : Nat → Bool} : ∀ (l s : List Nat), (∀ c ∈ l, p c = true) → (∀ c r, s = c :: r → p c = false) → (l ++ s).takeWhile p = l
  | [], s, _, h => by
    cases s with
    | nil => rfl
    | cons c r => simp [h c r rfl]
  | x :: l, s, h, h' => by
    rw [List.cons_append, List.takeWhile_cons, h x List.mem_cons_self]
    simp only [if_true]
    rw [tw_app l s (fun c hc => h c (List.mem_cons_of_mem _ hc)) h']
theorem del_ic {s : List Nat} (h : Del s) : ∀ c r, s = c :: r → isIc c = false := fun c r e => by
  rcases h c r e with rfl | rfl | rfl <;> decide
theorem int_cut {i j : Int} {s t : List Nat} (hs : Del s) (ht : Del t) (h : intc i ++ s = intc j ++ t) : i = j ∧ s = t := by
  have h1 := congrArg (List.takeWhile isIc) h
  rw [tw_app _ _ (intc_all i) (del_ic hs), tw_app _ _ (intc_all j) (del_ic ht)] at h1
  exact ⟨intc_inj h1, List.append_cancel_left (by rw [h1] at h; exact h)⟩
theorem intc_head (i : Int) : ∃ c r, intc i = c :: r ∧ isIc c = true := by
  cases e : intc i with
  | nil => exact absurd e (intc_ne i)
  | cons c r => exact ⟨c, r, rfl, intc_all i c (by rw [e]; exact List.mem_cons_self)⟩
/-- the first sign -/
def kd : D → Nat
  | .non => 78
  | .bl true => 84
  | .bl false => 70
  | .int _ => 0
  | .lst _ => 91
  | .tup _ => 40
  | _ => 1
def kc (c : Nat) : Nat := if isIc c = true then 0 else c
theorem ct_head : ∀ d : D, rp d = true → ∃ c r, ct d = c :: r ∧ kc c = kd d
  | .non, _ => ⟨_, _, by simp only [ct]; rfl, by decide⟩
  | .bl true, _ => ⟨_, _, by simp only [ct]; rfl, by decide⟩
  | .bl false, _ => ⟨_, _, by simp only [ct]; rfl, by decide⟩
  | .int i, _ => by
    obtain ⟨c, r, e, h⟩ := intc_head i
    exact ⟨c, r, by simp only [ct]; exact e, by simp [kc, h, kd]⟩
  | .lst xs, _ => ⟨91, _, by simp only [ct]; rfl, by simp [kc, kd, isIc]⟩
  | .tup xs, _ => ⟨40, _, by simp only [ct]; rfl, by simp [kc, kd, isIc]⟩
  | .str _, h => by simp [rp] at h
  | .scr _, h => by simp [rp] at h
  | .pot _, h => by simp [rp] at h
  | .emp, h => by simp [rp] at h
theorem ct_del {d : D} (h : rp d = true) {s : List Nat} {c : Nat} {r : List Nat} (hc : c = 44 ∨ c = 41 ∨ c = 93) (e : ct d ++ s = c :: r) : False := by
  obtain ⟨c', r', e1, e2⟩ := ct_head d h
  rw [e1, List.cons_append, List.cons.injEq] at e
  rw [e.1] at e2
  rcases hc with rfl | rfl | rfl <;> (revert e2; cases d <;> first | (rename_i b; cases b <;> simp [kc, kd, isIc]) | simp [kc, kd, isIc])
theorem same_kd {a b : D} (ha : rp a = true) (hb : rp b = true) {s t : List Nat} (h : ct a ++ s = ct b ++ t) : kd a = kd b := by
  obtain ⟨c, r, e, k⟩ := ct_head a ha
  obtain ⟨c', r', e', k'⟩ := ct_head b hb
  rw [e, e', List.cons_append, List.cons_append, List.cons.injEq] at h
  rw [← k, ← k', h.1]
mutual
theorem ct_cut : ∀ a b : D, rp a = true → rp b = true → ∀ s t : List Nat, Del s → Del t → ct a ++ s = ct b ++ t → a = b ∧ s = t
  | .non, b, ha, hb, s, t, hs, ht, h => by
    have k := same_kd ha hb h
    cases b <;> first | (simp only [kd] at k; contradiction) | skip
    · exact ⟨rfl, List.append_cancel_left h⟩
    · rename_i b; cases b <;> (simp only [kd] at k; contradiction)
  | .bl x, b, ha, hb, s, t, hs, ht, h => by
    have k := same_kd ha hb h
    cases b with
    | bl y => cases x <;> cases y <;> first | (simp only [kd] at k; contradiction) | exact ⟨rfl, List.append_cancel_left h⟩
    | non => cases x <;> (simp only [kd] at k; contradiction)
    | int i => cases x <;> (simp only [kd] at k; contradiction)
    | lst i => cases x <;> (simp only [kd] at k; contradiction)
    | tup i => cases x <;> (simp only [kd] at k; contradiction)
    | str i => simp [rp] at hb
    | scr i => simp [rp] at hb
    | pot i => simp [rp] at hb
    | emp => simp [rp] at hb
  | .int i, b, ha, hb, s, t, hs, ht, h => by
    have k := same_kd ha hb h
    cases b with
    | int j =>
      simp only [ct] at h
      obtain ⟨h1, h2⟩ := int_cut hs ht h
      exact ⟨by rw [h1], h2⟩
    | bl y => cases y <;> (simp only [kd] at k; contradiction)
    | non => simp only [kd] at k; contradiction
    | lst i => simp only [kd] at k; contradiction
    | tup i => simp only [kd] at k; contradiction
    | str i => simp [rp] at hb
    | scr i => simp [rp] at hb
    | pot i => simp [rp] at hb
    | emp => simp [rp] at hb
  | .lst xs, b, ha, hb, s, t, hs, ht, h => by
    have k := same_kd ha hb h
    cases b with
    | lst ys =>
      simp only [ct, List.cons_append, List.append_assoc, List.cons.injEq, true_and, List.nil_append] at h
      obtain ⟨h1, h2⟩ := cj_cut xs ys (by simpa [rp] using ha) (by simpa [rp] using hb) 93 (.inr (.inr rfl)) s t h
      exact ⟨by rw [h1], h2⟩
    | bl y => cases y <;> (simp only [kd] at k; contradiction)
    | non => simp only [kd] at k; contradiction
    | int i => simp only [kd] at k; contradiction
    | tup i => simp only [kd] at k; contradiction
    | str i => simp [rp] at hb
    | scr i => simp [rp] at hb
    | pot i => simp [rp] at hb
    | emp => simp [rp] at hb
  | .tup xs, b, ha, hb, s, t, hs, ht, h => by
    have k := same_kd ha hb h
    cases b with
    | tup ys =>
      have hx : rps xs = true := by simpa [rp] using ha
      have hy : rps ys = true := by simpa [rp] using hb
      simp only [ct, List.cons_append, List.append_assoc, List.cons.injEq, true_and] at h
      by_cases lx : xs.length = 1
      · by_cases ly : ys.length = 1
        · simp only [lx, ly, if_true, List.cons_append, List.nil_append] at h
          obtain ⟨h1, h2⟩ := cj_cut xs ys hx hy 44 (.inl ⟨⟨lx, ly⟩, rfl⟩) (41 :: s) (41 :: t) h
          exact ⟨by rw [h1], by simpa using h2⟩
        · exfalso
          simp only [lx, ly, if_true, if_false, List.cons_append, List.nil_append] at h
          match xs, lx, hx, h with
          | [x], _, hx, h =>
            have hx1 : rp x = true := by simpa [rps] using hx
            simp only [cj, cjt, List.append_nil] at h
            match ys, ly, hy, h with
            | [], _, _, h =>
              simp only [cj, List.nil_append] at h
              exact ct_del hx1 (.inr (.inl rfl)) h
            | [y], ly, _, _ => exact absurd rfl ly
            | y :: y2 :: ys, _, hy, h =>
              simp only [rps, Bool.and_eq_true] at hy
              simp only [cj, cjt, List.append_assoc, List.cons_append] at h
              have := (ct_cut x y hx1 hy.1 _ _ (del_cons (.inl rfl)) (del_cons (.inl rfl)) h).2
              simp at this
      · by_cases ly : ys.length = 1
        · exfalso
          simp only [lx, ly, if_true, if_false, List.cons_append, List.nil_append] at h
          match ys, ly, hy, h with
          | [y], _, hy, h =>
            have hy1 : rp y = true := by simpa [rps] using hy
            simp only [cj, cjt, List.append_nil] at h
            match xs, lx, hx, h with
            | [], _, _, h =>
              simp only [cj, List.nil_append] at h
              exact ct_del hy1 (.inr (.inl rfl)) h.symm
            | [x], lx, _, _ => exact absurd rfl lx
            | x :: x2 :: xs, _, hx, h =>
              simp only [rps, Bool.and_eq_true] at hx
              simp only [cj, cjt, List.append_assoc, List.cons_append] at h
              have := (ct_cut x y hx.1 hy1 _ _ (del_cons (.inl rfl)) (del_cons (.inl rfl)) h).2
              simp at this
        · simp only [lx, ly, if_false, List.cons_append, List.nil_append] at h
          obtain ⟨h1, h2⟩ := cj_cut xs ys hx hy 41 (.inr (.inl rfl)) s t h
          exact ⟨by rw [h1], h2⟩
    | bl y => cases y <;> (simp only [kd] at k; contradiction)
    | non => simp only [kd] at k; contradiction
    | int i => simp only [kd] at k; contradiction
    | lst i => simp only [kd] at k; contradiction
    | str i => simp [rp] at hb
    | scr i => simp [rp] at hb
    | pot i => simp [rp] at hb
    | emp => simp [rp] at hb
  | .str _, _, ha, _, _, _, _, _, _ => by simp [rp] at ha
  | .scr _, _, ha, _, _, _, _, _, _ => by simp [rp] at ha
  | .pot _, _, ha, _, _, _, _, _, _ => by simp [rp] at ha
  | .emp, _, ha, _, _, _, _, _, _ => by simp [rp] at ha
theorem cj_cut : ∀ xs ys : List D, rps xs = true → rps ys = true → ∀ e : Nat, ((xs.length = 1 ∧ ys.length = 1) ∧ e = 44) ∨ (e = 41 ∨ e = 93) → ∀ s t : List Nat, cj xs ++ e :: s = cj ys ++ e :: t → xs = ys ∧ s = t
  | [], [], _, _, e, he, s, t, h => by simpa [cj] using h
  | [], y :: ys, _, hy, e, he, s, t, h => by
    simp only [rps, Bool.and_eq_true] at hy
    simp only [cj, List.nil_append, List.append_assoc] at h
    exact (ct_del hy.1 (by rcases he with he | he <;> omega) h.symm).elim
  | x :: xs, [], hx, _, e, he, s, t, h => by
    simp only [rps, Bool.and_eq_true] at hx
    simp only [cj, List.nil_append, List.append_assoc] at h
    exact (ct_del hx.1 (by rcases he with he | he <;> omega) h).elim
  | x :: xs, y :: ys, hx, hy, e, he, s, t, h => by
    simp only [rps, Bool.and_eq_true] at hx hy
    simp only [cj, List.append_assoc] at h
    have de : e = 44 ∨ e = 41 ∨ e = 93 := by rcases he with he | he <;> omega
    have dl : ∀ (zs : List D) (r : List Nat), Del (cjt zs ++ e :: r) := fun zs r => by
      cases zs with
      | nil => exact del_cons de
      | cons z zs => simp only [cjt, List.cons_append]; exact del_cons (.inl rfl)
    obtain ⟨h1, h2⟩ := ct_cut x y hx.1 hy.1 _ _ (dl xs s) (dl ys t) h
    obtain ⟨h3, h4⟩ := cjt_cut xs ys hx.2 hy.2 e (by
      rcases he with he | he
      · exact .inl ⟨List.eq_nil_of_length_eq_zero (by simpa using he.1.1), List.eq_nil_of_length_eq_zero (by simpa using he.1.2)⟩
      · exact .inr he) s t h2
    exact ⟨by rw [h1, h3], h4⟩
theorem cjt_cut : ∀ xs ys : List D, rps xs = true → rps ys = true → ∀ e : Nat, (xs = [] ∧ ys = []) ∨ (e = 41 ∨ e = 93) → ∀ s t : List Nat, cjt xs ++ e :: s = cjt ys ++ e :: t → xs = ys ∧ s = t
  | [], [], _, _, e, he, s, t, h => by simpa [cjt] using h
  | [], y :: ys, _, hy, e, he, s, t, h => by
    simp only [cjt, List.nil_append, List.cons_append, List.cons.injEq] at h
    rcases he with he | he
    · cases he.2
    · omega
  | x :: xs, [], hx, _, e, he, s, t, h => by
    simp only [cjt, List.nil_append, List.cons_append, List.cons.injEq] at h
    rcases he with he | he
    · cases he.1
    · omega
  | x :: xs, y :: ys, hx, hy, e, he, s, t, h => by
    simp only [rps, Bool.and_eq_true] at hx hy
    simp only [cjt, List.cons_append, List.append_assoc, List.cons.injEq, true_and] at h
    have he' : e = 41 ∨ e = 93 := by
      rcases he with he | he
      · cases he.1
      · exact he
    have dl : ∀ (zs : List D) (r : List Nat), Del (cjt zs ++ e :: r) := fun zs r => by
      cases zs with
      | nil => exact del_cons (.inr he')
      | cons z zs => simp only [cjt, List.cons_append]; exact del_cons (.inl rfl)
    obtain ⟨h1, h2⟩ := ct_cut x y hx.1 hy.1 _ _ (dl xs s) (dl ys t) h
    obtain ⟨h3, h4⟩ := cjt_cut xs ys hx.2 hy.2 e (.inr he') s t h2
    exact ⟨by rw [h1, h3], h4⟩
end
/-- equal texts, equal data -/
theorem rtext_inj {a b : D} (ha : rp a = true) (hb : rp b = true) (h : rtext a = rtext b) : a = b := by
  have h1 := cp_rtext a ha
  have h2 := cp_rtext b hb
  rw [h] at h1
  exact (ct_cut a b ha hb [] [] del_nil del_nil (by rw [← h1, ← h2])).1
end PF

namespace PF
open PySem PySem.Spec PyProof.Rows L2
/-! ### in, in a tuple of flat items -/
def vOf : D → V
  | .bl b => .bl b
  | .int i => .int i
  | .str x => .str x
  | _ => .non
def flatD : D → Bool
  | .non | .bl _ | .int _ | .str _ => true
  | _ => false
theorem vOf_rep {K : PySem.W.Frag} {F : Hp} {g : Nat} {pa : Option Addr} {v : V} {d : D} (r : Rep K F g pa v d) (h : flatD d = true) : v = vOf d ∧ flatV v = true := by
  cases r <;> first | (simp [flatD] at h; done) | exact ⟨rfl, rfl⟩
theorem vOf_reps {K : PySem.W.Frag} {F : Hp} {g : Nat} {pa : Option Addr} : ∀ {vs : List V} {ds : List D}, Reps K F g pa vs ds → ds.all flatD = true → vs = ds.map vOf ∧ vs.all flatV = true
  | [], [], _, _ => ⟨rfl, rfl⟩
  | [], _ :: _, h, _ => by have := h.1; simp at this
  | _ :: _, [], h, _ => by have := h.1; simp at this
  | v :: vs, d :: ds, h, hp => by
    simp only [List.all_cons, Bool.and_eq_true] at hp
    obtain ⟨h1, h2⟩ := vOf_rep h.head hp.1
    obtain ⟨h3, h4⟩ := vOf_reps h.tail hp.2
    exact ⟨by rw [h1, h3]; rfl, by simp [h2, h4]⟩
/-- in, in a list of data or a tuple of flat data -/
def dInX : D → D → Option Bool
  | d, .tup xs => if flatD d && xs.all flatD then some (inV (vOf d) (xs.map vOf)) else none
  | d, e => dIn d e
def dNotInX : D → D → Option Bool := fun d e => (dInX d e).map fun b => !b
@[simp] theorem dInX_lst (d : D) (xs : List D) : dInX d (.lst xs) = dIn d (.lst xs) := rfl
@[simp] theorem dNotInX_lst (d : D) (xs : List D) : dNotInX d (.lst xs) = dNotIn d (.lst xs) := rfl
section
variable {X : Cx} {Wx : WX} {a b : Expr} {ma mb : M D} {pos : Pos}
theorem dIn_lst {d e : D} {z : Bool} (h : dIn d e = some z) : ∃ xs, e = .lst xs := by
  cases e <;> first | exact ⟨_, rfl⟩ | (simp [dIn] at h)
theorem dInX_cases {d e : D} {z : Bool} (h : dInX d e = some z) : dIn d e = some z ∨ ∃ xs, e = .tup xs ∧ flatD d = true ∧ xs.all flatD = true ∧ z = inV (vOf d) (xs.map vOf) := by
  unfold dInX at h
  split at h
  · rename_i d xs
    split at h
    · rename_i hc
      simp only [Bool.and_eq_true] at hc
      simp only [Option.some.injEq] at h
      exact .inr ⟨xs, rfl, hc.1, hc.2, h.symm⟩
    · cases h
  · exact .inl h
theorem cmps_inX : CmpS X (fun x y H Q => rInD X.K x y H Q ∨ rIn X.K false x y H Q) dInX := by
  intro x y d e z F H p pa Q gs rx ry ez k
  rcases dInX_cases ez with h | ⟨xs, rfl, h1, h2, h3⟩
  · exact .inl (cmps_in x y d e z F H p pa Q gs rx ry h k)
  · obtain ⟨a, vs, rfl, ha, _, rs⟩ := ry.tup_inv
    obtain ⟨e1, f1⟩ := vOf_rep rx h1
    obtain ⟨e2, f2⟩ := vOf_reps rs h2
    refine .inr ⟨a, vs, rfl, .inr (SqT.of (gs.sub _ _ ha)), f1, f2, ?_⟩
    rw [e1, e2]
    simp only [Bool.false_eq_true, if_false]
    rw [← h3]; exact k
theorem cmps_notInX : CmpS X (fun x y H Q => rNotInD X.K x y H Q ∨ rIn X.K true x y H Q) dNotInX := by
  intro x y d e z F H p pa Q gs rx ry ez k
  unfold dNotInX at ez
  cases q : dInX d e with
  | none => rw [q] at ez; cases ez
  | some w =>
    rw [q] at ez
    have ez : (!w) = z := by simpa using ez
    rcases dInX_cases q with h | ⟨xs, rfl, h1, h2, h3⟩
    · exact .inl (cmps_notIn x y d e z F H p pa Q gs rx ry (by unfold dNotIn; rw [h]; simp [ez]) k)
    · obtain ⟨a, vs, rfl, ha, _, rs⟩ := ry.tup_inv
      obtain ⟨e1, f1⟩ := vOf_rep rx h1
      obtain ⟨e2, f2⟩ := vOf_reps rs h2
      refine .inr ⟨a, vs, rfl, .inr (SqT.of (gs.sub _ _ ha)), f1, f2, ?_⟩
      rw [e1, e2]
      simp only [if_true]
      rw [← h3, ez]; exact k
theorem pmt_inX (hu : Un X) (ha : PM X Wx a ma) (hb : PM X Wx b mb) (hm : behindInMarks .In b = false := by rfl) : PMt X Wx (.Compare a [.In] [b] pos) (mCmp dInX ma mb) := pmt_cmp ((op_inD hu).or op_in_seq) cmps_inX ha hb hm
theorem pmt_notInX (hu : Un X) (ha : PM X Wx a ma) (hb : PM X Wx b mb) (hm : behindInMarks .NotIn b = false := by rfl) : PMt X Wx (.Compare a [.NotIn] [b] pos) (mCmp dNotInX ma mb) := pmt_cmp ((op_notInD hu).or op_notIn_seq) cmps_notInX ha hb hm
theorem pm_inX (hu : Un X) (ha : PM X Wx a ma) (hb : PM X Wx b mb) (hm : behindInMarks .In b = false := by rfl) : PM X Wx (.Compare a [.In] [b] pos) (mB (mCmp dInX ma mb)) := pm_cmp ((op_inD hu).or op_in_seq) cmps_inX ha hb hm
theorem pm_notInX (hu : Un X) (ha : PM X Wx a ma) (hb : PM X Wx b mb) (hm : behindInMarks .NotIn b = false := by rfl) : PM X Wx (.Compare a [.NotIn] [b] pos) (mB (mCmp dNotInX ma mb)) := pm_cmp ((op_notInD hu).or op_notIn_seq) cmps_notInX ha hb hm
end
/-- whole numbers in a tuple of whole numbers -/
theorem nInT (k : Nat) (ns : List Nat) : dInX (dI k) (.tup (ns.map dI)) = some (decide (k ∈ ns)) := by
  have h : flatD (dI k) = true := rfl
  have h2 : (ns.map dI).all flatD = true := by
    rw [List.all_eq_true]; intro x hx; obtain ⟨n, _, rfl⟩ := List.mem_map.mp hx; rfl
  simp only [dInX, h, h2, Bool.and_self, if_true]
  congr 1
  unfold inV
  rw [List.map_map]
  induction ns with
  | nil => rfl
  | cons n ns ih =>
    have h2' : (ns.map dI).all flatD = true := by simp only [List.map_cons, List.all_cons, Bool.and_eq_true] at h2; exact h2.2
    rw [List.map_cons, List.any_cons, ih h2']
    have e : eqV ((vOf ∘ dI) n) (vOf (dI k)) = decide (k = n) := by
      show ((n : Int) == (k : Int)) = _
      by_cases z : k = n
      · subst z; simp
      · have : ¬ (n : Int) = (k : Int) := by omega
        simp [z, this]
    rw [e]
    by_cases z : k = n <;> simp [z]
end PF

namespace PF
open PySem PySem.Spec PyProof.Rows L2
/-! ### sorted(dict(pairs)): the keys, each once, rising -/
/-- what is put into a dict's keys, in the order of first sight -/
def seen : List Int → List Int → List Int
  | acc, [] => acc
  | acc, k :: ks => seen (if k ∈ acc then acc else acc ++ [k]) ks
theorem keys_put (acc : List (Key × V)) (ks : List Int) (h : acc.map (·.1) = ks.map Sum.inl) (k : Int) (v : V) : (putK acc (Sum.inl k) v).map (·.1) = (if k ∈ ks then ks else ks ++ [k]).map Sum.inl := by
  have hany : (acc.any fun kv => decide (kv.1 = (Sum.inl k : Key))) = decide (k ∈ ks) := by
    have e1 : (acc.any fun kv => decide (kv.1 = (Sum.inl k : Key))) = (acc.map (·.1)).any fun x => decide (x = (Sum.inl k : Key)) := by rw [List.any_map]; rfl
    rw [e1, h, List.any_map, Bool.eq_iff_iff]
    simp only [List.any_eq_true, Function.comp, decide_eq_true_eq, Sum.inl.injEq]
    constructor
    · rintro ⟨x, hx, rfl⟩; exact hx
    · exact fun hk => ⟨k, hk, rfl⟩
  unfold putK
  rw [hany]
  by_cases hk : k ∈ ks
  · simp only [hk, decide_true, if_true]
    rw [List.map_map, ← h]
    refine List.map_congr_left fun kv _ => ?_
    simp only [Function.comp]
    split <;> rfl
  · simp only [hk, decide_false, Bool.false_eq_true, if_false]
    rw [List.map_append, h, List.map_append]
    rfl
theorem keys_merge : ∀ (kvs : List (Key × V)) (ns : List Int) (acc : List (Key × V)) (ks : List Int), kvs.map (·.1) = ns.map Sum.inl → acc.map (·.1) = ks.map Sum.inl → (mergeK acc kvs).map (·.1) = (seen ks ns).map Sum.inl
  | [], [], acc, ks, _, h => h
  | [], _ :: _, _, _, h, _ => by cases h
  | _ :: _, [], _, _, h, _ => by cases h
  | (k', v) :: kvs, n :: ns, acc, ks, h, h' => by
    simp only [List.map_cons, List.cons.injEq] at h
    have e : k' = Sum.inl n := h.1
    subst e
    have ih := keys_merge kvs ns (putK acc (Sum.inl n) v) (if n ∈ ks then ks else ks ++ [n]) h.2 (keys_put acc ks h' n v)
    unfold mergeK at ih ⊢
    rw [List.foldl_cons]
    exact ih
/-- sorted of a dict whose keys are ints, however many -/
theorem call_sortedDX {X : Cx} (hcalm : X.calm = true) : CallR X (.builtin "sorted") (fun xs H Q => ∃ (a : Addr) (kvs : List (Key × V)) (ks : List Int), xs = [.ref a] ∧ H a = some (.dK kvs) ∧ kvs.map (·.1) = ks.map Sum.inl ∧
    ∀ (ys : List Int) (p : Addr), ys.Perm ks → ys.Pairwise (· ≤ ·) → H p = none → Q (.ref p) (upd H p (.lst (ys.map V.int)))) := by
  intro pins s σ H xs us Q I r q
  obtain ⟨a, kvs, ks, rfl, hd, hks, q⟩ := q
  obtain ⟨u, rfl, rx⟩ := vals1 r
  cases rx
  obtain ⟨z, lo, vs, rel, dd⟩ := dk_rd I.hok (.inl hd)
  obtain ⟨ep, hat⟩ := dd.dictAt
  have hkeys : vs.map (·.1) = ks.map Sum.inl := rel.keys.symm.trans hks
  have hl : vs.length = ks.length := by simpa using congrArg List.length hkeys
  have hl2 : kvs.length = ks.length := by simpa using congrArg List.length hks
  have h16 : vs.length ≤ sizeLine := by omega
  refine Calls.call_function_entry PyProof.Rows.kind_sorted PyProof.Rows.plain_sorted PyProof.Rows.entry_sorted (PyProof.Rows.args_sorted1 _) ?_
  unfold Builtin.«sorted»
  refine wpAny_bind (m := checkCount "sorted" 1 1 _) (wpAny_pure ?_)
  refine wpAny_bind (PySem.W.kdu_collect (A := X.A.in1) (PySem.W.kdl_dict (knd := mixKind X.prog X.w) (kvs := vs) (ep := ep) lo) (I.ok.hd hcalm) hat h16
    fun h' tk acc hk hacc => ?_)
  have hal : acc.toList.length = ks.length := by rw [Array.length_toList, hacc.1]; exact hl
  have hS : IntsAre acc.toList ks := ints_each hal fun j v e => by
    obtain ⟨k, x, e1, e2⟩ := hacc.2 j v (by rw [← Array.getElem?_toList]; exact e)
    have e3 : (vs.map (·.1))[j]? = some k := by rw [List.getElem?_map, e1]; rfl
    rw [hkeys, List.getElem?_map] at e3
    cases e4 : ks[j]? with
    | none => rw [e4] at e3; cases e3
    | some y =>
      rw [e4] at e3
      obtain rfl : Sum.inl y = k := Option.some.inj e3
      rcases keyIs_shape (show keyIs (Sum.inl y) v = true from e2) with ⟨i, t, ek, ev⟩ | ⟨z, t, ek, ev⟩ <;> cases ek
      exact ⟨y, t, rfl, ev⟩
  have I1 : Inv X pins σ H { s with heap := h', toks := tk } := I.kept hk
  have hz2 : acc.toList.length ≤ sizeLine := by omega
  refine wpAny_bind (wpAny_newList ?_ hz2)
  have hoL : (h'.push (seqObj "list" acc.toList.toArray 0)).get? h'.objs.size = some (seqObj "list" acc.toList.toArray 0) :=
    Heap.get?_push_size _ rfl
  show wpAny _ _ _ _ _ { s with heap := h'.push (seqObj "list" acc.toList.toArray 0), toks := tk }
  refine wpAny_bind (wpAny_holding (wpAny_call_entry PyProof.Rows.slot_list_sort ⟨_, hoL, rfl⟩ PyProof.Rows.entry_list_sort
    (SrtO.list_sort_ord SrtO.swo_int (s := { s with heap := h'.push (seqObj "list" acc.toList.toArray 0), toks := tk }) hoL hz2 (fun h2 => SrtO.ints_sortable hS h2) fun out g1 g2 => ⟨.none, rfl, ?_⟩) (PyProof.Rows.args_list_sort _)))
  obtain ⟨k1, k2, k3⟩ := SrtO.ints_out hS g1 g2
  obtain ⟨e', he'⟩ := PyProof.Rows.sortedHeap_at (vs := acc.toList) (out := out.toArray) hoL
  have hlen : ((out.map SrtO.iv).map V.int).length ≤ sizeLine := by
    rw [List.length_map, k2.length_eq, ← hl]; exact h16
  refine wpAny_pure ⟨_, rfl, .ref h'.objs.size, upd H h'.objs.size (.lst ((out.map SrtO.iv).map V.int)), I1.laid (t' := tk) (fun b u e => ?_) (Nat.le_refl _)
    (show ObjOk X.prog X.w _ _ _ (.lst ((out.map SrtO.iv).map V.int)) from ⟨hlen, out, e', vals_of_ints k1, he'⟩), rfl, q _ _ k2 k3 (I1.hok.fresh (Nat.le_refl _))⟩
  have hb : b < h'.objs.size := Heap.lt_size e
  rw [PyProof.Rows.sortedHeap_old (Nat.ne_of_lt hb) (by rw [size_push']; exact Nat.lt_succ_of_lt hb)]
  exact Heap.get?_push_of_some _ e
/-- the first parts of pairs -/
def fsts : List D → Option (List Int)
  | [] => some []
  | .tup [.int k, _] :: r => (fsts r).map (k :: ·)
  | _ => none
def dSdict : List D → Option (List D)
  | [.lst xs] => (fsts xs).map fun ns => (srt (seen [] ns)).map .int
  | _ => none
theorem fsts_cons {x : D} {xs : List D} {ns : List Int} (h : fsts (x :: xs) = some ns) : ∃ k v ms, x = .tup [.int k, v] ∧ fsts xs = some ms ∧ ns = k :: ms := by
  unfold fsts at h
  split at h
  · rename_i e; cases e
  · rename_i k v r e
    cases e
    cases q : fsts xs with
    | none => rw [q] at h; cases h
    | some ms => rw [q] at h; simp only [Option.map_some, Option.some.injEq] at h; exact ⟨k, v, ms, rfl, rfl, h.symm⟩
  · cases h
theorem fsts_pairs {K : PySem.W.Frag} {F H : Hp} {g : Nat} {pa : Option Addr} (sub : ∀ a o, F a = some o → H a = some o) : ∀ {xs : List D} {vs : List V} {ns : List Int}, Reps K F g pa vs xs → fsts xs = some ns →
    ∃ (ps : List Addr) (kvs : List (Key × V)), vs = ps.map V.ref ∧ Paired (fun p kv => SqT K H p [kV kv.1, kv.2]) ps kvs ∧ kvs.map (·.1) = ns.map Sum.inl
  | [], [], ns, _, h => by
    simp only [fsts, Option.some.injEq] at h
    subst h
    exact ⟨[], [], rfl, .nil, rfl⟩
  | [], _ :: _, _, r, _ => by have := r.1; simp at this
  | _ :: _, [], _, r, _ => by have := r.1; simp at this
  | x :: xs, v :: vs, ns, r, h => by
    obtain ⟨k, y, ms, rfl, h1, rfl⟩ := fsts_cons h
    obtain ⟨ps, kvs, rfl, hp, hk⟩ := fsts_pairs sub r.tail h1
    obtain ⟨a, ws, rfl, ha, _, rs⟩ := r.head.tup_inv
    rcases rs.cases with ⟨_, z⟩ | ⟨w1, y1, ws1, ys1, rfl, z, r1, rs1⟩
    · cases z
    cases z
    rcases rs1.cases with ⟨_, z⟩ | ⟨w2, y2, ws2, ys2, rfl, z, r2, rs2⟩
    · cases z
    cases z
    have e2 : ws2 = [] := by
      rcases rs2.cases with ⟨e, _⟩ | ⟨_, _, _, _, _, z, _⟩
      · exact e
      · cases z
    subst e2
    cases r1
    exact ⟨a :: ps, (Sum.inl k, w2) :: kvs, rfl, .cons (SqT.of (sub _ _ ha)) hp, by simp [hk]⟩
theorem dSdict_some {ds z : List D} (h : dSdict ds = some z) : ∃ xs ns, ds = [.lst xs] ∧ fsts xs = some ns ∧ z = (srt (seen [] ns)).map .int := by
  unfold dSdict at h
  split at h
  · rename_i xs
    cases q : fsts xs with
    | none => rw [q] at h; cases h
    | some ns => rw [q] at h; simp only [Option.map_some, Option.some.injEq] at h; exact ⟨xs, ns, rfl, q, h.symm⟩
  · cases h
theorem fsts_len : ∀ {xs : List D} {ns : List Int}, fsts xs = some ns → ns.length = xs.length
  | [], ns, h => by simp only [fsts, Option.some.injEq] at h; subst h; rfl
  | x :: xs, ns, h => by
    obtain ⟨k, y, ms, rfl, h1, rfl⟩ := fsts_cons h
    simp [fsts_len h1]
theorem seen_len : ∀ (ns acc : List Int), (seen acc ns).length ≤ acc.length + ns.length
  | [], acc => Nat.le_refl _
  | n :: ns, acc => by
    have := seen_len ns (if n ∈ acc then acc else acc ++ [n])
    simp only [seen, List.length_cons]
    split at this <;> simp at this ⊢ <;> simp_all <;> omega
section
variable {X : Cx} {Wx : WX} {e : Expr} {ms : M (List D)} {p p2 pos pos2 : Pos}
theorem pmo_sdict (hc : X.calm = true) (hm : X.mg "sorted" = none) (hm2 : X.mg "dict" = none) (ha : PMa X Wx [e] ms) (hg : Gl X "sorted" := by rfl) (hg2 : Gl X "dict" := by rfl)
    (he : starEach [e] X.env = (false, eval e X.env) :: starEach [] X.env := by rfl) (hpl : (backTo pos2 (starEach [] X.env)).any (·.1) = false := by rfl)
    (he2 : starEach [.Call (.Name "dict" p2) [e] [] pos2] X.env = (false, eval (.Call (.Name "dict" p2) [e] [] pos2) X.env) :: starEach [] X.env := by rfl) (hpl2 : (backTo pos (starEach [] X.env)).any (·.1) = false := by rfl) :
    PMo X Wx (.Call (.Name "sorted" p) [.Call (.Name "dict" p2) [e] [] pos2] [] pos) (mLst dSdict ms) :=
  ⟨(pe_callB (call_sortedDX hc) hg hm boot_sorted (pa_cons (pe_callTy (call_dictP hc) hg2 hm2 PyProof.Rows.boot_dict ha.pa (by decide) (by decide) he hpl) pa_nil he2) (by decide) (by decide) he2 hpl2).imp fun σ H Q ⟨F, pa, p, ρ, gs, s, o⟩ => by
    refine TMa.of gs s ((Out.bindS .refl o).mono fun ds p1 F1 H1 pa1 _ gs1 ⟨gr1, o1⟩ s1 vs rs => ?_)
    obtain ⟨z, ez, o2⟩ := o1.opt
    obtain ⟨xs, ns, rfl, q, rfl⟩ := dSdict_some ez
    obtain ⟨v, rfl, r⟩ := reps1 rs
    obtain ⟨a, ws, rfl, h1, hz, rw1⟩ := r.lstH gs1
    obtain ⟨ps, kvs, rfl, hp, hk⟩ := fsts_pairs gs1.sub rw1 q
    refine ⟨a, ps, kvs, rfl, SqL.of h1, hp, fun dd hdd => ?_⟩
    have hkey := keys_merge kvs ns [] [] hk rfl
    refine ⟨dd, mergeK [] kvs, seen [] ns, rfl, upd_same, hkey, fun ys l hperm hsort hl => ?_⟩
    have e : ys = srt (seen [] ns) := sorted_unique (hperm.trans (srt_perm _).symm) hsort (srt_sorted _)
    subst e
    have gs2 := gs1.allocO (o := HO.dK (mergeK [] kvs)) hdd
    have gr2 := gr1.trans (Gr.allocO (o := HO.dK (mergeK [] kvs)) hdd)
    refine out_fresh gr2 gs2 o2 hl ?_ (reps_int_map _)
    rw [List.length_map, (srt_perm _).length_eq]
    have h3 := seen_len ns []
    have h4 := fsts_len q
    simp only [List.length_nil] at h3
    omega⟩
end
end PF

namespace PF
open PySem PySem.Spec PyProof.Rows L2
section
variable {X : Cx} {En : Ent} {Wx : WX} {c a : Expr} {mt : M Bool} {ma : M D} {x : Str} {i : Nat} {p1 p2 p3 : Pos}
/-! ### return a if c else x, x an own list -/
theorem own_ret {K : PySem.W.Frag} {F H : Hp} {pa : Option Addr} {p : Pst} {σ : L2.St} {ρ : Sl} {Dn : Ends} (s : SS K En F H pa p σ ρ) {mg : Str → Option Value} (o : SOut K mg En Wx F p.g pa Dn (cretown i ρ p)) : ∃ v, σ[i]? = some (some v) ∧ Dn.rt v H := by
  unfold cretown at o
  cases q : ρ[i]? with
  | none => rw [q] at o; exact o.elim
  | some w =>
    rw [q] at o
    cases w with
    | none => exact o.elim
    | some w =>
      cases w with
      | val d => exact o.elim
      | own xs =>
        obtain ⟨v, e1, a, vs, rfl, h2, h3, h4, h5, h6⟩ := s.sr.rep i _ q
        exact ⟨_, e1, o _ F H pa .refl s.gr s.gs ⟨a, vs, xs, rfl, rfl, s.nw i xs _ q e1 a rfl, h2, h3, h4, h5, h6⟩⟩
theorem cs_retif_vo (hc : PMt X Wx c mt) (ha : PM X Wx a ma) (h : PE X (.Name x p1) (tVar i)) : PMs X En Wx (.Return (some (.IfExp c a (.Name x p1) p2)) p3) (cif mt (cret ma) (cretown i)) :=
  ⟨(ps_ret (pe_ifExp hc.pt ha.pe h)).imp fun Dn σ H ⟨F, pa, p, ρ, s, o⟩ => by
    refine ⟨F, pa, p, ρ, s.gs, s.sr, (o.expr s).mono fun k p' F' H' pa' gr gs ⟨s', o'⟩ => ?_⟩
    cases k with
    | true =>
      simp only [if_true] at o' ⊢
      exact tm_s s' o' fun v d p' F' H' pa' s' _ r o' => o' v F' H' pa' .refl s'.gr s'.gs r
    | false =>
      simp only [Bool.false_eq_true, if_false] at o' ⊢
      exact own_ret s' o'⟩
theorem cs_retif_ov (hc : PMt X Wx c mt) (h : PE X (.Name x p1) (tVar i)) (ha : PM X Wx a ma) : PMs X En Wx (.Return (some (.IfExp c (.Name x p1) a p2)) p3) (cif mt (cretown i) (cret ma)) :=
  ⟨(ps_ret (pe_ifExp hc.pt h ha.pe)).imp fun Dn σ H ⟨F, pa, p, ρ, s, o⟩ => by
    refine ⟨F, pa, p, ρ, s.gs, s.sr, (o.expr s).mono fun k p' F' H' pa' gr gs ⟨s', o'⟩ => ?_⟩
    cases k with
    | true =>
      simp only [if_true] at o' ⊢
      exact own_ret s' o'
    | false =>
      simp only [Bool.false_eq_true, if_false] at o' ⊢
      exact tm_s s' o' fun v d p' F' H' pa' s' _ r o' => o' v F' H' pa' .refl s'.gr s'.gs r⟩
end
end PF

namespace PF
open PySem PySem.Spec PyProof.Rows L2
/-! ### a def that gets a fresh list for its own: f(e), e a fresh list -/
abbrev FnO := List D → Pst → FRes
structure FnMo (P : Program) (w : World) (K : PySem.W.Frag) (mg : Str → Option Value) (base : Heap) (k : Nat) (f : Addr) (fd : FuncData) (ps : List Str) (G : FnO) : Prop where
  run : ∀ (A : Around) (outer : List Env) (s : Shared) (H : Hp) (args : Args) (u : Value) (a : Addr) (ws : List V) (xs : List D) (F Hm : Hp) (pa : Option Addr) (p : Pst) (Q : VK) (E : XK), Room k A → A.guards = some [] → Env0 P w K mg base A outer s H → BindsTo s fd args (ps.zip [u]) → RelV (.ref a) u →
    GS F H pa p → Gr F Hm p.g pa F H p.g pa → Hm a = none → H a = some (.lst ws) → F a = none → pa ≠ some a → xs.length ≤ sizeLine → Reps K F p.g pa ws xs → FOut K mg F Hm p.g pa Q E (G xs p) →
    codeAny (model P w) A (.call (.ref f) args) (CR (L2.CX P w) outer P w H s Q E) s
structure FnXo (P : Program) (w : World) (K : PySem.W.Frag) (mg : Str → Option Value) (base : Heap) (x : Str) (params : Arguments) (k : Nat) (ps : List Str) (G : FnO) : Prop where
  ex : ∃ (f : Addr) (fd : FuncData), mg x = some (.ref f) ∧ PySem.W.keepIn K (.ref f) = true ∧ (∃ (body : List Stmt) (scope : Scope) (kV doc pm : Value) (an : Option Addr) (cdv ct : Value), fd = PySem.W.fnOf x x params body scope .none kV doc pm an cdv ct) ∧ FnMo P w K mg base k f fd ps G
/-- what a def with n slots and one parameter does, the parameter its own list -/
def freso (n : Nat) (c : C) : FnO := fun xs p => sres (c (some (.own xs) :: List.replicate (n - 1) none) p)
theorem srel_own {K : PySem.W.Frag} {F H : Hp} {g : Nat} {pa : Option Addr} {a : Addr} {ws : List V} {xs : List D} {N : List Str} (h1 : H a = some (.lst ws)) (h2 : F a = none) (h3 : pa ≠ some a) (h4 : xs.length ≤ sizeLine) (r : Reps K F g pa ws xs) :
    SRel K F H g pa (L2.start N [.ref a]) (some (.own xs) :: List.replicate (N.length - 1) none) := by
  unfold L2.start
  have key : ∀ (i : Nat) w, (some (W.own xs) :: List.replicate (N.length - 1) none)[i]? = some (some w) → i = 0 ∧ w = .own xs := fun i w h => by
    cases i with
    | zero => simp at h; exact ⟨rfl, h.symm⟩
    | succ i =>
      rw [List.getElem?_cons_succ, List.getElem?_replicate] at h
      split at h <;> cases h
  refine ⟨by simp, fun i w h => ?_, fun i j xs' ys' v hi hj _ _ => ?_⟩
  · obtain ⟨rfl, rfl⟩ := key i w h
    exact ⟨.ref a, by simp, a, ws, rfl, h1, h2, h3, h4, r⟩
  · rw [(key i _ hi).1, (key j _ hj).1]
theorem fnxo {P : Program} {w : World} {K : PySem.W.Frag} {mg : Str → Option Value} {base : Heap} {x : Str} {params : Arguments} {body : List Stmt} {scope : Scope} {f : Addr} {fd : FuncData} {N ps : List Str} {k : Nat} {c : C}
    (F : FunD K x x params body scope [] [] f fd) (hm : mg x = some (.ref f)) (S : FnScope N ps scope) (h1 : ps.length = 1) (hb : BodyOk P w K mg base k x body scope N c) : FnXo P w K mg base x params (k + 1) ps (freso N.length c) := by
  obtain ⟨oc, od, dV, kV, doc, pm, an, cdv, ct, osl, rfl, lk, hcd, hD, _⟩ := F.ex
  obtain rfl : dV = .none := by
    rcases hD with ⟨_, h⟩ | ⟨h, _⟩
    · exact h
    · exact absurd rfl h
  refine ⟨f, _, hm, F.kp, ⟨body, scope, kV, doc, pm, an, cdv, ct, rfl⟩, ⟨fun A outer s H args u a ws xs Fz0 Hm pa p Q E hr hgd e0 hbt rv gs gr ha1 ha2 ha3 ha4 ha5 rs o => ?_⟩⟩
  refine LamX.run_ofS (N := N) lk hcd S hr e0 hbt (.cons rv .nil) (by rw [h1]; rfl) fun hr' => ?_
  let En : Ent := ⟨Fz0, Hm, p.g, pa⟩
  refine ⟨_, (hb f cdv A outer s H E En hr' (by show A.guards = some []; exact hgd)).ps, Fz0, pa, p, _, ⟨gr, gs, srel_own ha2 ha3 ha4 ha5 rs, fun i ys v h hv => ?_⟩, ?_⟩
  · cases i with
    | zero =>
      intro b e
      have : v = .ref a := by
        unfold L2.start at hv
        simpa using hv.symm
      rw [this] at e
      cases e
      exact ha1
    | succ i =>
      rw [List.getElem?_cons_succ, List.getElem?_replicate] at h
      split at h <;> cases h
  · unfold freso at o
    cases q : c (some (.own xs) :: List.replicate (N.length - 1) none) p with
    | nx ρ' p' =>
      rw [q] at o
      exact fun σ' F' H' pa' fz s' => o .non F' H' pa' s'.gr s'.gs (show Rep _ _ _ _ _ _ from .non)
    | rt d fr p' =>
      rw [q] at o
      exact fun v F' H' pa' fz gr gs' r => o v F' H' pa' gr gs' r
    | exc y ρ' p' =>
      rw [q] at o
      exact fun cls dd σ' F' H' pa' fz s' r => o cls dd F' H' pa' s'.gr s'.gs r
    | bk ρ' p' => rw [q] at o; exact o.elim
    | ct ρ' p' => rw [q] at o; exact o.elim
    | stuck => rw [q] at o; exact o.elim
section
variable {X : Cx} {Wx : WX} {e : Expr} {mo : M (List D)} {pos p : Pos} {x : Str} {params : Arguments} {k : Nat} {ps : List Str} {G : FnO}
def FRo (X : Cx) (Wx : WX) (G : FnO) (σ : L2.St) : V → Hp → VK → Prop := fun v H Q => ∃ a ws xs F Hm pa p, v = .ref a ∧ GS F H pa p ∧ Gr F Hm p.g pa F H p.g pa ∧ Hm a = none ∧ H a = some (.lst ws) ∧ F a = none ∧ pa ≠ some a ∧ xs.length ≤ sizeLine ∧ Reps X.K F p.g pa ws xs ∧ FOut X.K X.mg F Hm p.g pa Q (fun cls dd H' => Wx cls dd σ H') (G xs p)
theorem pe_fnO (Fx : FnXo X.prog X.w X.K X.mg X.base x params k ps G) (hr : Room k X.A) (hgd : X.A.guards = some []) (tk : Takes X Wx) (hb : Bd x params ps 1 [] [0]) (hg : Gl X x) {te : TE} (ha : PA X [e] (tCons te tNil)) (hdb : (x == ("__debug__" : Str)) = false := by decide)
    (he : starEach [e] X.env = (false, eval e X.env) :: starEach [] X.env := by rfl) (hpl : (backTo pos (starEach [] X.env)).any (·.1) = false := by rfl) : PE X (.Call (.Name x p) [e] [] pos) (fun σ H Q => tCons te tNil σ H fun vs H1 => ∃ v, vs = [v] ∧ FRo X Wx G σ v H1 Q) := by
  obtain ⟨f, fd, hm, hk, hfd, Fm⟩ := Fx.ex
  refine ⟨fun pins s σ H Q I h => ?_⟩
  refine wpAny_Call_Name_kw (ld_glob I hg hm ?_ hdb)
  refine PySem.W.callWith_K (h₀ := X.base) I.ok.mod.kin hk (thn (ha.run pos pins s σ H _ I h) fun us s1 ⟨vs, H1, I1, r, q⟩ => ⟨I1.kIn, ?_⟩) he hpl
  obtain ⟨v, rfl, a, ws, xs, F, Hm, pa, p, rfl, gs, gr, h1, h2, h3, h4, h5, rs, o⟩ := q
  obtain ⟨body, scope, kV, doc, pm, an, cdv, ct, rfl⟩ := hfd
  obtain ⟨u, rfl, ru⟩ := vals1 r
  have hbt : BindsTo s1 (PySem.W.fnOf x x params body scope .none kV doc pm an cdv ct) ⟨[u], []⟩ (ps.zip [u]) := .of_eq (hb _ _ _ _ _ _ _ _ [u] [] rfl rfl)
  exact wpAny_call (codeAny_mono (Fm.run X.A X.stack s1 H1 ⟨[u], []⟩ u a ws xs F Hm pa p Q (fun cls dd H' => Wx cls dd σ H') hr hgd I1.env0 hbt ru gs gr h1 h2 h3 h4 h5 rs o) fun r s' hq => by
    cases r with
    | error e => exact tk e s' (XE.of_call I1 (fun _ _ _ h => h) hq)
    | ok fl =>
      cases fl with
      | ret u => exact I1.after hq
      | next => exact False.elim hq
      | brk => exact False.elim hq
      | cont => exact False.elim hq)
def mFnO (G : FnO) (mo : M (List D)) : M D := mbind mo fun xs _ p => outFn (fun d _ => some d) (G xs p)
def mFnOo (G : FnO) (mo : M (List D)) : M (List D) := mbind mo fun xs _ p => outFn frOf (G xs p)
@[simp] theorem ev_mFnO (G : FnO) (mo : M (List D)) (ρ : Sl) (p : Pst) : mFnO G mo ρ p = mbind mo (fun xs _ p => outFn (fun d _ => some d) (G xs p)) ρ p := by cases p; rfl
@[simp] theorem ev_mFnOo (G : FnO) (mo : M (List D)) (ρ : Sl) (p : Pst) : mFnOo G mo ρ p = mbind mo (fun xs _ p => outFn frOf (G xs p)) ρ p := by cases p; rfl
/-- the heap without what was made last -/
def less (H : Hp) (a : Addr) : Hp := fun b => if b = a then none else H b
theorem less_gr {F0 H0 F H : Hp} {g0 g : Nat} {pa0 pa : Option Addr} {a : Addr} (gr : Gr F0 H0 g0 pa0 F H g pa) (h0 : H0 a = none) (hp : pa ≠ some a) : Gr F0 H0 g0 pa0 F (less H a) g pa := by
  refine ⟨gr.fz, gr.new, fun b o h n => ?_, fun b o h => ?_, gr.pot⟩
  · have : b ≠ a := fun e => by rw [e, h0] at h; cases h
    unfold less; rw [if_neg this]; exact gr.keep b o h n
  · have : b ≠ a := fun e => by rw [e, h0] at h; cases h
    unfold less; rw [if_neg this]; exact gr.there b o h
theorem gr_less {F H : Hp} {g : Nat} {pa : Option Addr} {a : Addr} : Gr F (less H a) g pa F H g pa := by
  refine ⟨.refl, fun b o h => .inl h, fun b o h _ => ?_, fun b o h => ?_, .inl rfl⟩
  · unfold less at h; split at h
    · cases h
    · exact h
  · unfold less at h; split at h
    · cases h
    · exact ⟨o, h⟩
theorem fno_tm : ∀ σ H Q, TM X.K X.mg Wx (mFnO G mo) σ H Q → tCons (TMo X.K X.mg Wx mo) tNil σ H fun vs H1 => ∃ v, vs = [v] ∧ FRo X Wx G σ v H1 Q := by
  intro σ H Q ⟨F, pa, p, ρ, gs, s, o⟩
  refine ⟨F, pa, p, ρ, gs, s, (Out.bindS .refl o).mono fun xs p1 F1 H1 pa1 gr1 gs1 ⟨gr, o1⟩ a ws h1 h2 h3 h4 h5 rs => ?_⟩
  refine ⟨_, rfl, a, ws, xs, F1, less H1 a, pa1, p1, rfl, gs1, gr_less, by simp [less], h2, h3, h4, h5, rs, ?_⟩
  exact fout_val (less_gr gr h1 h4) o1
theorem fno_tmo : ∀ σ H Q, TMo X.K X.mg Wx (mFnOo G mo) σ H Q → tCons (TMo X.K X.mg Wx mo) tNil σ H fun vs H1 => ∃ v, vs = [v] ∧ FRo X Wx G σ v H1 Q := by
  intro σ H Q ⟨F, pa, p, ρ, gs, s, o⟩
  refine ⟨F, pa, p, ρ, gs, s, (Out.bindS .refl o).mono fun xs p1 F1 H1 pa1 gr1 gs1 ⟨gr, o1⟩ a ws h1 h2 h3 h4 h5 rs => ?_⟩
  refine ⟨_, rfl, a, ws, xs, F1, less H1 a, pa1, p1, rfl, gs1, gr_less, by simp [less], h2, h3, h4, h5, rs, ?_⟩
  exact fout_o (less_gr gr h1 h4) o1
theorem pm_fnO (Fx : FnXo X.prog X.w X.K X.mg X.base x params k ps G) (hr : Room k X.A) (hgd : X.A.guards = some []) (tk : Takes X Wx) (hb : Bd x params ps 1 [] [0]) (hg : Gl X x) (ha : PMo X Wx e mo) (hdb : (x == ("__debug__" : Str)) = false := by decide)
    (he : starEach [e] X.env = (false, eval e X.env) :: starEach [] X.env := by rfl) (hpl : (backTo pos (starEach [] X.env)).any (·.1) = false := by rfl) : PM X Wx (.Call (.Name x p) [e] [] pos) (mFnO G mo) := ⟨(pe_fnO Fx hr hgd tk hb hg (pa_cons ha.pe pa_nil he) hdb he hpl).imp fno_tm⟩
theorem pmo_fnO (Fx : FnXo X.prog X.w X.K X.mg X.base x params k ps G) (hr : Room k X.A) (hgd : X.A.guards = some []) (tk : Takes X Wx) (hb : Bd x params ps 1 [] [0]) (hg : Gl X x) (ha : PMo X Wx e mo) (hdb : (x == ("__debug__" : Str)) = false := by decide)
    (he : starEach [e] X.env = (false, eval e X.env) :: starEach [] X.env := by rfl) (hpl : (backTo pos (starEach [] X.env)).any (·.1) = false := by rfl) : PMo X Wx (.Call (.Name x p) [e] [] pos) (mFnOo G mo) := ⟨(pe_fnO Fx hr hgd tk hb hg (pa_cons ha.pe pa_nil he) hdb he hpl).imp fno_tmo⟩
end
/-- code without the pot -/
def IFo (G : FnO) : Prop := ∀ xs p q, G xs q = (G xs p).at q
theorem ifo_fres (n : Nat) {c : C} (h : IC c) : IFo (freso n c) := fun xs p q => by
  unfold freso
  rw [h _ p q]
  cases c (some (.own xs) :: List.replicate (n - 1) none) p <;> rfl
theorem im_outO {α : Type} {f : D → Bool → Option α} {G : FnO} (h : IFo G) (xs : List D) : IM fun _ p => outFn f (G xs p) := fun ρ p q => by
  show outFn f (G xs q) = (outFn f (G xs p)).at q
  rw [h xs p q]
  cases G xs p with
  | ok d fr p' =>
    simp only [FRes.at, ev_outFn]
    cases f d fr <;> rfl
  | exc x p' => rfl
  | stuck => rfl
theorem im_fnO {G : FnO} (h : IFo G) {mo : M (List D)} (hm : IM mo) : IM (mFnO G mo) := im_bind hm fun xs => im_outO h xs
theorem im_fnOo {G : FnO} (h : IFo G) {mo : M (List D)} (hm : IM mo) : IM (mFnOo G mo) := im_bind hm fun xs => im_outO h xs
end PF

namespace PF
open PySem PySem.Spec PyProof.Rows L2
/-! ### zip over lists, tuples, ranges in any mix -/
section
variable {prog : Program} {w : World} {A : Around} {E : Value → Shared → Prop} {s : Shared}
theorem nextOf_range_item {it : Addr} {x left step : Int} {Q : Value → Shared → Prop} (hit : IsRangeIter s.heap it x left step) (hleft : 0 < left)
    (hQ : ∀ h', IsRangeIter h' it (x + step) (left - 1) step → Heap.SameBut it s.heap h' → Q (.int x s.toks) { s with heap := h', toks := s.toks + 1 }) :
    wpAny (model prog w) A (Builtin.SmallTypes.nextOf (.ref it)) Q E s := by
  have hT : s.TypeIs (.ref it) "range_iterator" := ⟨_, hit, rfl⟩
  unfold Builtin.SmallTypes.nextOf
  refine wpAny_bind (wpAny_callSpecial?_slot (name := Str.ofString "__next__") hT F.slot_range_iterator_next
    (call_meets F.slot_range_iterator_next hT F.entry_range_iterator_next (F.args_range_iterator_next_1 _) (AutoRange.range_iterator___next___range_iterator_1 it x left step (by omega)) ⟨hit, ?_⟩))
  exact wpAny_pure (hQ _ (Heap.get?_update_self _ (Heap.get?_update_self _ hit rfl) rfl) ((Heap.SameBut.update ..).trans (Heap.SameBut.update ..)))
theorem nextOf_range_end {it : Addr} {x left step : Int} {Q : Value → Shared → Prop} (hh : A.handled = none) (hit : IsRangeIter s.heap it x left step) (hleft : left ≤ 0)
    (hE : ∀ h' e, Heap.ExtBut it s.heap h' → (∃ o, h'.get? e = some o ∧ o.cls = .type "StopIteration") → E (.ref e) { s with heap := h' }) : wpAny (model prog w) A (Builtin.SmallTypes.nextOf (.ref it)) Q E s := by
  have hT : s.TypeIs (.ref it) "range_iterator" := ⟨_, hit, rfl⟩
  unfold Builtin.SmallTypes.nextOf
  refine wpAny_bind (wpAny_callSpecial?_slot (name := Str.ofString "__next__") hT F.slot_range_iterator_next
    (wpAny_call_entry F.slot_range_iterator_next hT F.entry_range_iterator_next ?_ (F.args_range_iterator_next_1 _)))
  show wpAny _ _ (field (.ref it) 0 >>= _) _ _ s
  refine wpAny_bind (wpAny_field hit rfl (x := rawInt x) rfl ?_)
  show wpAny _ _ (field (.ref it) 1 >>= _) _ _ s
  refine wpAny_bind (wpAny_field hit rfl (x := rawInt left) rfl ?_)
  show wpAny _ _ (field (.ref it) 2 >>= _) _ _ s
  refine wpAny_bind (wpAny_field hit rfl (x := rawInt step) rfl ?_)
  show wpAny _ _ (if left ≤ 0 then _ else _) _ _ s
  rw [if_pos hleft]
  refine wpAny_bind (wpAny_rule ?_)
  refine wpAny_bind ?_
  show wpAny _ _ (newExc (.type "StopIteration") [] >>= _) _ _ _
  refine wpAny_bind ?_
  simp only [newExc, newTuple]
  refine wpAny_bind (wpAny_newObj_type ?_ (by size_fits))
  refine wpAny_bind (m := firstArgMember _ _) (wpAny_of_eq (a := Value.none) (by first | rfl | (simp only [firstArgMember]; rfl)) ?_)
  refine wpAny_newObj_type ?_ (by size_fits)
  simp only [raiseNew]
  refine wpAny_bind (wpAny_handled ?_)
  first | rw [show A.in1.handled = none from hh] | rw [hh]
  refine wpAny_bind (wpAny_pure (wpAny_throw ?_))
  exact hE _ _ (((Heap.ExtBut.refl it s.heap).push _).push _) ⟨_, Heap.get?_push_size _ rfl, rfl⟩
theorem draws_range (hh : A.handled = none) (it : Addr) (a : Int) (n : Nat) :
    Draws prog w A it [it] n (fun i v => i < n ∧ ∃ t, v = .int (a + (i : Nat)) t) (fun i h => IsRangeIter h it (a + (i : Nat)) ((n : Int) - (i : Nat)) 1) where
  live := fun _ _ st => ⟨_, st⟩
  frame := fun _ _ _ st hk => hk it (by simp) _ st
  item := fun i s Q E hi st hQ => nextOf_range_item st (by omega) fun h' hit' hs' => hQ _ h' (s.toks + 1) ⟨hi, _, rfl⟩ (by
    have e1 : a + ((i + 1 : Nat) : Int) = a + (i : Int) + 1 := by omega
    have e2 : (n : Int) - ((i + 1 : Nat) : Int) = (n : Int) - (i : Int) - 1 := by omega
    show IsRangeIter h' it (a + ((i + 1 : Nat) : Int)) ((n : Int) - ((i + 1 : Nat) : Int)) 1
    rw [e1, e2]; exact hit') hs'
  done := fun s Q E st hE => nextOf_range_end hh st (by omega) hE
theorem begins_range (r : Addr) (a b : Int) (t u v : Tok) (hs : Builtin.Range.small a b 1 = true) : Begins (.ref r) { cls := .type "range_iterator", data := .fields #[rawInt a, rawInt (Builtin.Range.rangeSize a b 1), rawInt 1] } fun h => IsRange h r a b 1 t u v where
  iter := fun prog w A E s Q hr h => wpAny_pyIter_range hr hs h
  keeps := fun h h' x hk => hk r _ x
  free := rfl
end
inductive Src | l (a : Addr) | t (a : Addr) | r (lo : Int) (n : Nat)
def srcV (K : PySem.W.Frag) (H : Hp) : Src → List V → Prop
  | .l a, xs => SqL K H a xs
  | .t a, xs => SqT K H a xs
  | .r lo n, xs => xs = (List.range n).map fun (k : Nat) => V.int (lo + k)
def srcA : Src → List Addr
  | .l a => [a]
  | .t a => [a]
  | .r _ _ => []
def srcSt (it : Addr) (i : Nat) (h : Heap) : Src → Prop
  | .l a => h.IsListIter it a i
  | .t a => h.IsTupleIter it a i
  | .r lo n => IsRangeIter h it (lo + (i : Nat)) ((n : Int) - (i : Nat)) 1
theorem srcSt_obj {it : Addr} {i : Nat} {h : Heap} : ∀ {q : Src}, srcSt it i h q → ∃ o, h.get? it = some o ∧ ∀ v, o.data ≠ .cell v
  | .l _, ⟨o, e, _, d⟩ => ⟨o, e, fun v z => by rw [d] at z; cases z⟩
  | .t _, ⟨o, e, _, d⟩ => ⟨o, e, fun v z => by rw [d] at z; cases z⟩
  | .r _ _, st => ⟨_, st, fun v z => by cases z⟩
theorem srcSt_keep {it : Addr} {i : Nat} {h h' : Heap} (k : ∀ o, h.get? it = some o → h'.get? it = some o) : ∀ {q : Src}, srcSt it i h q → srcSt it i h' q
  | .l _, st => Heap.IsListIter.at st k
  | .t _, st => Heap.IsTupleIter.at st k
  | .r _ _, st => k _ st
section
variable {X : Cx} {pins : List (Addr × Obj)} {σ : L2.St} {H : Hp} {s : Shared}
theorem src_inj (I : Inv X pins σ H s) {q : Src} {xs ys : List V} (h : srcV X.K H q xs) (h' : srcV X.K H q ys) : xs = ys := by
  cases q with
  | l a => exact I.list_inj h h'
  | t a => exact I.tuple_inj h h'
  | r lo n => rw [show xs = _ from h, show ys = _ from h']
theorem vals_get {xs : List V} {us : List Value} (r : Vals xs us) {i : Nat} {u : Value} (h : us[i]? = some u) : ∃ x, xs[i]? = some x ∧ RelV x u := by
  have hl := r.length
  obtain ⟨hi, _⟩ := List.getElem?_eq_some_iff.mp h
  have hx : xs[i]? = some (xs[i]'(by omega)) := List.getElem?_eq_getElem (by omega)
  obtain ⟨u', hu', ru⟩ := r.get hx
  rw [h] at hu'
  cases hu'
  exact ⟨_, hx, ru⟩
/-- what an iterator of a source draws, as its source stands -/
theorem src_draws {A : Around} (hh : A.handled = none) (I : Inv X pins σ H s) {q : Src} {it : Addr} (hne : ∀ b ∈ srcA q, b ≠ it) {xs : List V} (hq : srcV X.K H q xs) :
    ∃ Pd St, Draws X.prog X.w A it (it :: srcA q) xs.length Pd St ∧ (∀ i, srcSt it i s.heap q → St i s.heap) ∧ (∀ i h, St i h → srcSt it i h q) ∧ ∀ i v, Pd i v → ∃ x, xs[i]? = some x ∧ RelV x v := by
  cases q with
  | l a =>
    obtain ⟨its, rv, p, _⟩ := I.list hq
    have e : xs.length = its.toArray.size := by rw [rv.length]; simp
    rw [e]
    exact ⟨_, _, Draws.list hh it a (hne a (by simp [srcA])) its.toArray, fun i st => ⟨st, p.isList⟩, fun i h st => st.1, fun i v hv => vals_get rv (by simpa using hv)⟩
  | t a =>
    obtain ⟨its, rv, p, _⟩ := I.tuple hq
    have e : xs.length = its.toArray.size := by rw [rv.length]; simp
    rw [e]
    exact ⟨_, _, Draws.tuple hh it a (hne a (by simp [srcA])) its.toArray, fun i st => ⟨st, p⟩, fun i h st => st.1, fun i v hv => vals_get rv (by simpa using hv)⟩
  | r lo n =>
    have e : xs = (List.range n).map fun (k : Nat) => V.int (lo + k) := hq
    subst e
    rw [List.length_map, List.length_range]
    refine ⟨_, _, draws_range hh it lo n, fun i st => st, fun i h st => st, fun i v hv => ?_⟩
    obtain ⟨hi, t, rfl⟩ := hv
    exact ⟨.int (lo + i), by rw [List.getElem?_map, List.getElem?_range hi]; rfl, ⟨t, rfl⟩⟩
end
theorem wr_fp {z TI TO i1 i2 b : Addr} (m : b ∈ [z, TO, i1, i2]) : b ∈ [z, TI, TO, i1, i2] := by
  simp only [List.mem_cons, List.not_mem_nil, or_false] at m ⊢
  rcases m with h | h | h | h <;> simp [h]
/-- zip over two sources, N turns -/
def ItS (K : PySem.W.Frag) (q1 q2 : Src) (N : Nat) : It :=
  ⟨fun i H => i < N ∧ ∃ xs ys, srcV K H q1 xs ∧ srcV K H q2 ys ∧ N = min xs.length ys.length,
    fun i H v H' => ∃ T x y, v = .ref T ∧ H T = none ∧ H' = upd H T (.tup [x, y]) ∧ (∀ xs, srcV K H q1 xs → xs[i]? = some x) ∧ ∀ ys, srcV K H q2 ys → ys[i]? = some y,
    fun i H => N ≤ i ∧ ∃ xs ys, srcV K H q1 xs ∧ srcV K H q2 ys ∧ N = min xs.length ys.length⟩
theorem turn_zipS {P : Program} {w : World} {K : PySem.W.Frag} {elts : List Expr} {kk : Nat} {tpos : Pos} {q1 q2 : Src} {z TI TO i1 i2 : Addr} {N : Nat} (S : ZipSep2 z TI TO i1 i2 (i1 :: srcA q1) (i2 :: srcA q2)) (n1 : ∀ b ∈ srcA q1, b ≠ i1) (n2 : ∀ b ∈ srcA q2, b ≠ i2) :
    Turn P w K (.Tuple elts kk tpos) (ItS K q1 q2 N) [z, TI, TO, i1, i2] z (fun i h => i ≤ N ∧ IsZip h z TI TO .none ∧ IsTupOf2 h TI (.ref i1) (.ref i2) ∧ (∃ x y, IsTupOf2 h TO x y) ∧ srcSt i1 i h q1 ∧ srcSt i2 i h q2) where
  mem := by simp
  obj := fun i h st c hc => by
    obtain ⟨_, hz, hTI, ⟨x, y, hTO⟩, h1, h2⟩ := st
    have e' : c = z ∨ c = TI ∨ c = TO ∨ c = i1 ∨ c = i2 := by simpa using hc
    rcases e' with q | q | q | q | q
    · rw [q]; exact ⟨_, hz, fun v q => nomatch q⟩
    · rw [q]; exact ⟨_, hTI, fun v q => nomatch q⟩
    · rw [q]; exact ⟨_, hTO, fun v q => nomatch q⟩
    · rw [q]; exact srcSt_obj h1
    · rw [q]; exact srcSt_obj h2
  keep := fun i h h' st k => by
    obtain ⟨hN, hz, hTI, ⟨x, y, hTO⟩, h1, h2⟩ := st
    exact ⟨hN, k z (by simp) _ hz, k TI (by simp) _ hTI, ⟨x, y, k TO (by simp) _ hTO⟩, srcSt_keep (fun o q => k i1 (by simp) o q) h1, srcSt_keep (fun o q => k i2 (by simp) o q) h2⟩
  item := by
    intro X hP hw hK hc i pins s σ H E I hf st hg
    subst hP hw hK
    obtain ⟨hN, hz, hTI, ⟨x0, y0, hTO⟩, h1, h2⟩ := st
    obtain ⟨hlt, xs, ys, hx, hy, hn⟩ := hg
    obtain ⟨P1, St1, D1, a1, b1, c1⟩ := src_draws (A := X.A.in1) (I.ok.hd hc) I n1 hx
    obtain ⟨P2, St2, D2, a2, b2, c2⟩ := src_draws (A := X.A.in1) (I.ok.hd hc) I n2 hy
    have W := WalksT.zipD2 S D1 D2
    refine W.item i s _ _ (by omega) ⟨hz, hTI, ⟨x0, y0, hTO⟩, a1 i h1, a2 i h2⟩ fun T vals h' tk hP hT hIs hMid hk => ⟨.ref T, rfl, W.go elts kk tpos i T { s with heap := h', toks := tk } _ _ hMid fun h'' st'' hk'' => ?_⟩
    obtain ⟨u1, u2, p1, p2, rfl⟩ := hP
    obtain ⟨x, gx, rx⟩ := c1 i u1 p1
    obtain ⟨y, gy, ry⟩ := c2 i u2 p2
    have hIs2 : h''.IsTuple T #[u1, u2] := hIs.at fun o e => hk'' T o (W.apart i T h' hMid) e
    have new : ObjOk X.prog X.w (upd H T (.tup [x, y])) h'' T (.tup [x, y]) := ⟨by show 2 ≤ sizeLine; decide, [u1, u2], .cons rx (.cons ry .nil), hIs2⟩
    have kk' : ∀ b o, b ∉ [z, TI, TO, i1, i2] → s.heap.get? b = some o → h''.get? b = some o := fun b o hb e =>
      hk'' b o (fun m => hb (wr_fp m)) (hk b o (fun m => hb (wr_fp m)) e)
    have I1 : Inv X pins σ (upd H T (.tup [x, y])) { s with heap := h'', toks := tk } := I.turnedNew (t' := tk) kk' hf hT new
    obtain ⟨z1, z2, z3, z4, z5⟩ := st''
    refine ⟨.ref T, _, I1, rfl, ⟨T, x, y, rfl, I.hok.fresh hT, rfl, fun l hl => by rw [src_inj I hl hx]; exact gx, fun l hl => by rw [src_inj I hl hy]; exact gy⟩, ⟨hlt, z1, z2, z3, b1 _ _ z4, b2 _ _ z5⟩, fun c hcm => ?_⟩
    have hlt : c < s.heap.objs.size := by
      have e' : c = z ∨ c = TI ∨ c = TO ∨ c = i1 ∨ c = i2 := by simpa using hcm
      rcases e' with q | q | q | q | q
      · rw [q]; exact Heap.lt_size hz
      · rw [q]; exact Heap.lt_size hTI
      · rw [q]; exact Heap.lt_size hTO
      · rw [q]; obtain ⟨_, e1, _⟩ := srcSt_obj h1; exact Heap.lt_size e1
      · rw [q]; obtain ⟨_, e2, _⟩ := srcSt_obj h2; exact Heap.lt_size e2
    rw [upd_ne (Nat.ne_of_lt (Nat.lt_of_lt_of_le hlt hT))]
    exact (hf c hcm).1
  done := by
    intro X hP hw hK hc i pins s σ H E I hf st hg
    subst hP hw hK
    obtain ⟨hN, hz, hTI, ⟨x0, y0, hTO⟩, h1, h2⟩ := st
    obtain ⟨hge, xs, ys, hx, hy, hn⟩ := hg
    obtain ⟨P1, St1, D1, a1, b1, c1⟩ := src_draws (A := X.A.in1) (I.ok.hd hc) I n1 hx
    obtain ⟨P2, St2, D2, a2, b2, c2⟩ := src_draws (A := X.A.in1) (I.ok.hd hc) I n2 hy
    have W := WalksT.zipD2 S D1 D2
    have e : i = min xs.length ys.length := by omega
    subst e
    exact W.done s _ _ ⟨hz, hTI, ⟨x0, y0, hTO⟩, a1 _ h1, a2 _ h2⟩ fun h' tk hk => ⟨rfl, I.turnedL (t' := tk) (ch := [z, TI, TO, i1, i2]) (fun c o hb q => hk c o (fun m => hb (wr_fp m)) q) hf⟩
  self := fun A i s Q E st h => wpAny_pyIter_zip st.2.1 h

section
variable {X : Cx} {pins : List (Addr × Obj)} {σ : L2.St} {H : Hp} {s : Shared}
/-- a list's, a tuple's iterator begins -/
theorem src_begins (I : Inv X pins σ H s) {a : Addr} {q : Src} (hq : q = .l a ∨ q = .t a) {xs : List V} (h : srcV X.K H q xs) :
    ∃ o Hb, Begins (.ref a) o Hb ∧ Hb s.heap ∧ (∀ h' it, h'.get? it = some o → srcSt it 0 h' q) ∧ ∀ b ∈ srcA q, b < s.heap.objs.size := by
  rcases hq with rfl | rfl
  · obtain ⟨its, rv, p, _⟩ := I.list h
    exact ⟨_, _, begins_list a its.toArray, p.isList, fun h' it e => ⟨_, e, rfl, rfl⟩, fun b hb => by
      have : b = a := by simpa [srcA] using hb
      subst this; exact p.lt⟩
  · obtain ⟨its, rv, p, _⟩ := I.tuple h
    exact ⟨_, _, begins_tuple a its.toArray, p, fun h' it e => ⟨_, e, rfl, rfl⟩, fun b hb => by
      have : b = a := by simpa [srcA] using hb
      subst this
      obtain ⟨o, e, _⟩ := id p
      exact Heap.lt_size e⟩
theorem fresh5 (I : Inv X pins σ H s) : ∀ c, c ∈ [s.heap.objs.size + 4, s.heap.objs.size + 2, s.heap.objs.size + 3, s.heap.objs.size, s.heap.objs.size + 1] → FpOk X pins H c := fun c hcm => by
  have e' : c = s.heap.objs.size + 4 ∨ c = s.heap.objs.size + 2 ∨ c = s.heap.objs.size + 3 ∨ c = s.heap.objs.size ∨ c = s.heap.objs.size + 1 := by simpa using hcm
  have hle : s.heap.objs.size ≤ c := by
    rcases e' with z | z | z | z | z <;> rw [z]
    · exact Nat.le_add_right _ _
    · exact Nat.le_add_right _ _
    · exact Nat.le_add_right _ _
    · exact Nat.le_refl _
    · exact Nat.le_add_right _ _
  exact I.fpOk hle (I.hok.fresh hle)
/-- zip of two values, each with an iterator of its own -/
theorem zip_start {E : Value → Shared → Prop} {elts : List Expr} {kk : Nat} {tpos : Pos} {R : It → Hp → Prop} {v1 v2 : Value} {q1 q2 : Src} {o1 o2 : Obj} {H1 H2 : Heap → Prop} {N : Nat} (I : Inv X pins σ H s) (B1 : Begins v1 o1 H1) (B2 : Begins v2 o2 H2) (h1 : H1 s.heap) (h2 : H2 s.heap)
    (t1 : ∀ h' it, h'.get? it = some o1 → srcSt it 0 h' q1) (t2 : ∀ h' it, h'.get? it = some o2 → srcSt it 0 h' q2) (l1 : ∀ b ∈ srcA q1, b < s.heap.objs.size) (l2 : ∀ b ∈ srcA q2, b < s.heap.objs.size) (q : R (ItS X.K q1 q2 N) H) :
    wpAny (model X.prog X.w) X.A (call (.type "zip") [v1, v2]) (fun v s1 => wpAny (model X.prog X.w) X.A (pyIter v) (PIE X pins σ (.Tuple elts kk tpos) R) E s1) E s := by
  refine zip_begins2 B1 B2 h1 h2 fun h' hz hTI hTO e1 e2 hsz hk => wpAny_pyIter_zip hz ?_
  have I2 : Inv X pins σ H { s with heap := h' } := I.kept (t' := s.toks) hk
  exact ⟨s.heap.objs.size + 4, [s.heap.objs.size + 4, s.heap.objs.size + 2, s.heap.objs.size + 3, s.heap.objs.size, s.heap.objs.size + 1], _, _, H, rfl, I2,
    turn_zipS (N := N) (zip_sep2 l1 l2) (fun b hb => Nat.ne_of_lt (l1 b hb)) (fun b hb => Nat.ne_of_lt (Nat.lt_succ_of_lt (l2 b hb))), ⟨Nat.zero_le _, hz, hTI, ⟨_, _, hTO⟩, t1 _ _ e1, t2 _ _ e2⟩, fresh5 I, q⟩
end
def iZipS (K : PySem.W.Frag) (ta : TA) : TI := fun σ H R => ta σ H fun vs H1 => ∃ a b xs ys q1 q2, vs = [.ref a, .ref b] ∧ (q1 = .l a ∨ q1 = .t a) ∧ (q2 = .l b ∨ q2 = .t b) ∧ srcV K H1 q1 xs ∧ srcV K H1 q2 ys ∧ R (ItS K q1 q2 (min xs.length ys.length)) H1
theorem pi_zipS {X : Cx} {e e2 : Expr} {ta : TA} {p pos tpos : Pos} {elts : List Expr} {kk : Nat} (hg : Gl X "zip") (hm : X.mg "zip" = none) (ha : PA X [e, e2] ta)
    (hs : starEach [e, e2] X.env = (false, eval e X.env) :: starEach [e2] X.env := by rfl) (hpl : (backTo pos (starEach [e2] X.env)).any (·.1) = false := by rfl) :
    PI X (.Tuple elts kk tpos) (.Call (.Name "zip" p) [e, e2] [] pos) (iZipS X.K ta) := by
  refine ⟨fun pins s σ H R I h => ?_⟩
  refine Call_ (ld_blt I hg hm PyProof.Rows.boot_zip (PyProof.Rows.callWith_type1 (thn (ha.run pos pins s σ H _ I h) fun us s1 ⟨vs, H1, I1, r1, q1⟩ => ?_) hs hpl))
  obtain ⟨a, b, xs, ys, qa, qb, ex, ea, eb, hx, hy, q⟩ := q1
  subst ex
  obtain ⟨o1, B1, b1, c1, d1, f1⟩ := src_begins I1 ea hx
  obtain ⟨o2, B2, b2, c2, d2, f2⟩ := src_begins I1 eb hy
  cases r1 with
  | cons r rr =>
    cases rr with
    | cons r' rr =>
      cases rr
      cases r
      cases r'
      exact zip_start I1 b1 b2 c1 c2 d1 d2 f1 f2 q
/-- zip(range(a, b), e) -/
def iZipR (K : PySem.W.Frag) (ta : TA) (te : TE) : TI := fun σ H R => ta σ H fun vs H1 => ∃ i j : Int, vs = [.int i, .int j] ∧ (-(2 ^ 62) ≤ i ∧ i < 2 ^ 62 ∧ -(2 ^ 62) ≤ j ∧ j < 2 ^ 62) ∧ te σ H1 fun v H2 => ∃ a xs q2, v = .ref a ∧ (q2 = .l a ∨ q2 = .t a) ∧ srcV K H2 q2 xs ∧ R (ItS K (.r i (j - i).toNat) q2 (min (j - i).toNat xs.length)) H2
theorem pi_zipR {X : Cx} {e0 e1 e2 : Expr} {ta : TA} {te : TE} {p p2 pos pos2 tpos : Pos} {elts : List Expr} {kk : Nat} (hg : Gl X "zip") (hm : X.mg "zip" = none) (hgr : Gl X "range") (hmr : X.mg "range" = none) (ha : PA X [e0, e1] ta) (he : PE X e2 te)
    (hs : starEach [e0, e1] X.env = [(false, eval e0 X.env), (false, eval e1 X.env)] := by rfl) (hs2 : starEach [e1] X.env = [(false, eval e1 X.env)] := by rfl)
    (hz : starEach [.Call (.Name "range" p2) [e0, e1] [] pos2, e2] X.env = (false, eval (.Call (.Name "range" p2) [e0, e1] [] pos2) X.env) :: starEach [e2] X.env := by rfl) (hz2 : starEach [e2] X.env = (false, eval e2 X.env) :: starEach [] X.env := by rfl)
    (hpl : (backTo pos (starEach [e2] X.env)).any (·.1) = false := by rfl) :
    PI X (.Tuple elts kk tpos) (.Call (.Name "zip" p) [.Call (.Name "range" p2) [e0, e1] [] pos2, e2] [] pos) (iZipR X.K ta te) := by
  refine ⟨fun pins s σ H R I h => ?_⟩
  refine Call_ (ld_blt I hg hm PyProof.Rows.boot_zip (PyProof.Rows.callWith_type1 ?_ hz hpl))
  refine PyProof.Rows.args_cons ?_ hz
  refine Call_ (ld_blt I hgr hmr boot_range (PyProof.Rows.callWith_type1 (thn (ha.run pos2 pins s σ H _ I h) fun us s1 ⟨vs, H1, I1, r1, q1⟩ => ?_) (by rw [hs, hs2]) (by rw [hs2]; rfl)))
  obtain ⟨i, j, ev, ⟨w1, w2, w3, w4⟩, q1⟩ := q1
  subst ev
  cases r1 with
  | cons r rr =>
    cases rr with
    | cons r' rr =>
      cases rr
      obtain ⟨t, rfl⟩ := r
      obtain ⟨t', rfl⟩ := r'
      refine call_range_2 ?_
      have I2 : Inv X pins σ H1 { s1 with heap := s1.heap.push { cls := .type "range", data := .fields #[.int i t, .int j t', .int 1 s1.toks] }, toks := s1.toks + 1 } := I1.kept fun b o e => Heap.get?_push_of_some _ e
      have hr0 := IsRange.new s1.heap i j 1 t t' s1.toks
      have hfree := I1.fpOk (Nat.le_refl _) (I1.hok.fresh (Nat.le_refl _))
      let r0 : Addr := s1.heap.objs.size
      let ob : Obj := { cls := .type "range", data := .fields #[.int i t, .int j t', .int 1 s1.toks] }
      have I3 : Inv X ((r0, ob) :: pins) σ H1 { s1 with heap := s1.heap.push { cls := .type "range", data := .fields #[.int i t, .int j t', .int 1 s1.toks] }, toks := s1.toks + 1 } := I2.pins_of fun q hq => by
        rcases List.mem_cons.mp hq with rfl | hq
        · exact ⟨hr0, hfree.1, hfree.2.1, hfree.2.2.1, fun v z => by cases z⟩
        · exact I2.pin q (List.mem_append_right _ hq)
      refine PyProof.Rows.args_cons (thn (he.run ((r0, ob) :: pins) _ σ H1 _ I3 q1) fun u s3 ⟨v, H2, I4, rv, q2⟩ => PyProof.Rows.args_nil ?_) hz2
      have hr : IsRange s3.heap r0 i j 1 t t' s1.toks := (I4.pin (r0, ob) (List.mem_append_right _ List.mem_cons_self)).1
      have I5 : Inv X pins σ H2 s3 := I4.pins_of fun q hq => I4.pin q (List.mem_append_right _ (List.mem_cons_of_mem _ hq))
      obtain ⟨b, ys, qb, ev, eb, hy, q⟩ := q2
      subst ev
      cases rv
      obtain ⟨o2, B2, b2, c2, d2, f2⟩ := src_begins I5 eb hy
      have hsm := small_one w1 w2 w3 w4
      refine zip_start I5 (begins_range r0 i j t t' s1.toks hsm) b2 hr c2 (fun h' it e => ?_) d2 (fun b hb => by cases hb) f2 q
      have e1 : i + ((0 : Nat) : Int) = i := by simp
      have e2 : (((j - i).toNat : Nat) : Int) - ((0 : Nat) : Int) = Builtin.Range.rangeSize i j 1 := by rw [rangeSize_one]; split <;> omega
      show IsRangeIter h' it (i + ((0 : Nat) : Int)) ((((j - i).toNat : Nat) : Int) - ((0 : Nat) : Int)) 1
      rw [e1, e2]
      exact e
/-! ### as data -/
def sqD : D → Option (List D)
  | .lst xs => some xs
  | .tup xs => some xs
  | _ => none
@[simp] theorem sqD_lst (xs : List D) : sqD (.lst xs) = some xs := rfl
@[simp] theorem sqD_tup (xs : List D) : sqD (.tup xs) = some xs := rfl
def zipS : List D → Option (List D)
  | [d, e] => (sqD d).bind fun xs => (sqD e).map fun ys => zipL xs ys
  | _ => none
@[simp] theorem zipS_two (d e : D) : zipS [d, e] = (sqD d).bind fun xs => (sqD e).map fun ys => zipL xs ys := rfl
def mZipS (ms : M (List D)) : M (List D) := mbind ms fun ds => mopt (zipS ds)
def mZipR (mr : M (List D)) (me : M D) : M (List D) := mbind (mRange2 mr) fun xs => mbind me fun d => mopt ((sqD d).map fun ys => zipL xs ys)
@[simp] theorem ev_mZipS (ms : M (List D)) (ρ : Sl) (p : Pst) : mZipS ms ρ p = mbind ms (fun ds => mopt (zipS ds)) ρ p := by cases p; rfl
@[simp] theorem ev_mZipR (mr : M (List D)) (me : M D) (ρ : Sl) (p : Pst) : mZipR mr me ρ p = mbind (mRange2 mr) (fun xs => mbind me fun d => mopt ((sqD d).map fun ys => zipL xs ys)) ρ p := by cases p; rfl
theorem im_zipS {m : M (List D)} (h : IM m) : IM (mZipS m) := im_bind h fun _ => im_opt _
theorem im_zipR {m : M (List D)} {me : M D} (h : IM m) (h2 : IM me) : IM (mZipR m me) := im_bind (im_range2 h) fun _ => im_bind h2 fun _ => im_opt _
def SrcF (F : Hp) (q : Src) (vs : List V) : Prop := (∃ a, q = .l a ∧ F a = some (.lst vs)) ∨ (∃ a, q = .t a ∧ F a = some (.tup vs)) ∨ ∃ lo n, q = .r lo n ∧ vs = (List.range n).map fun (k : Nat) => V.int (lo + k)
theorem SrcF.v {K : PySem.W.Frag} {F H : Hp} {q : Src} {vs : List V} (h : SrcF F q vs) (sub : ∀ a o, F a = some o → H a = some o) : srcV K H q vs := by
  rcases h with ⟨a, rfl, h⟩ | ⟨a, rfl, h⟩ | ⟨lo, n, rfl, h⟩
  · exact SqL.of (sub _ _ h)
  · exact SqT.of (sub _ _ h)
  · exact h
/-- a source as data -/
theorem sq_src {K : PySem.W.Frag} {F H : Hp} {g : Nat} {pa : Option Addr} {p : Pst} {v : V} {d : D} {xs : List D} (r : Rep K F g pa v d) (e : sqD d = some xs) : ∃ (a : Addr) (q : Src) (vs : List V), v = .ref a ∧ (q = .l a ∨ q = .t a) ∧ SrcF F q vs ∧ xs.length ≤ sizeLine ∧ Reps K F g pa vs xs := by
  cases d <;> first | (cases e; done) | skip
  · cases e
    obtain ⟨a, vs, rfl, h, hz, rs⟩ := r.lst_inv
    exact ⟨a, .l a, vs, rfl, .inl rfl, .inl ⟨a, rfl, h⟩, hz, rs⟩
  · cases e
    obtain ⟨a, vs, rfl, h, hz, rs⟩ := r.tup_inv
    exact ⟨a, .t a, vs, rfl, .inr rfl, .inr (.inl ⟨a, rfl, h⟩), hz, rs⟩
theorem iter_zipS {K : PySem.W.Frag} {F : Hp} {g : Nat} {pa : Option Addr} {q1 q2 : Src} {vs ws : List V} {ds es : List D} (h : SrcF F q1 vs) (r : Reps K F g pa vs ds) (h' : SrcF F q2 ws) (r' : Reps K F g pa ws es) : IterOk K F g pa (ItS K q1 q2 (min vs.length ws.length)) (zipL ds es) := by
  intro i F1 H1 pa1 p1 fz gs1
  have h1 : srcV K H1 q1 vs := h.v fun a o e => gs1.sub _ _ (fz.sub _ _ e)
  have h2 : srcV K H1 q2 ws := h'.v fun a o e => gs1.sub _ _ (fz.sub _ _ e)
  have hl : (zipL ds es).length = min vs.length ws.length := by simp only [zipL, List.length_zipWith]; rw [r.1, r'.1]
  refine ⟨fun hi => ⟨by omega, vs, ws, h1, h2, rfl⟩, fun z hz => ?_⟩
  have hlt : i < (zipL ds es).length := (List.getElem?_eq_some_iff.mp hz).1
  obtain ⟨d, e, q1, q2, rfl⟩ := zipL_get hz
  obtain ⟨v, hv, rv⟩ := (r.mono fz).get q1
  obtain ⟨w, hw, rw'⟩ := (r'.mono fz).get q2
  refine ⟨⟨by omega, vs, ws, h1, h2, rfl⟩, fun x H' ⟨T, y1, y2, e1, e2, e3, hx, hy⟩ => ?_⟩
  subst e1 e3
  have t1 := hx vs h1
  rw [hv] at t1
  cases t1
  have t2 := hy ws h2
  rw [hw] at t2
  cases t2
  exact zip_item gs1 e2 rv rw'
theorem reps_rng {K : PySem.W.Frag} {F : Hp} {g : Nat} {pa : Option Addr} (lo : Int) (n : Nat) : Reps K F g pa ((List.range n).map fun (k : Nat) => V.int (lo + k)) (rgL lo n) := by
  refine ⟨by simp [rgL], fun i x y hx hy => ?_⟩
  unfold rgL at hy
  rw [List.getElem?_map] at hx hy
  cases q : (List.range n)[i]? with
  | none => rw [q] at hx; cases hx
  | some k =>
    rw [q] at hx hy
    cases hx; cases hy
    exact .int _
section
variable {X : Cx} {Wx : WX} {a b e2 : Expr} {ms mr : M (List D)} {me : M D} {p p2 pos pos2 : Pos}
theorem pmi_zipS {elts : List Expr} {kk : Nat} {tpos : Pos} (hg : Gl X "zip") (hm : X.mg "zip" = none) (ha : PMa X Wx [a, b] ms) (hs : starEach [a, b] X.env = (false, eval a X.env) :: starEach [b] X.env := by rfl) (hpl : (backTo pos (starEach [b] X.env)).any (·.1) = false := by rfl) :
    PMi X Wx (.Tuple elts kk tpos) (.Call (.Name "zip" p) [a, b] [] pos) (mZipS ms) := ⟨(pi_zipS hg hm ha.pa hs hpl).imp fun σ H R ⟨F, pa, p, ρ, gs, s, o⟩ => by
  refine TMa.of gs s (o.bind.mono fun ds p1 F1 H1 pa1 gr1 gs1 o1 s1 vs rs => ?_)
  obtain ⟨z, ez, o2⟩ := o1.opt
  unfold zipS at ez
  split at ez <;> first | (cases ez; done) | skip
  rename_i d e
  cases q : sqD d with
  | none => rw [q] at ez; cases ez
  | some xs =>
    cases q2 : sqD e with
    | none => rw [q, q2] at ez; cases ez
    | some ys =>
      rw [q, q2] at ez
      cases ez
      obtain ⟨v, w, rfl, r1, r2⟩ := reps2 rs
      obtain ⟨a, s1, vs, rfl, ea, f1, hz, ra⟩ := sq_src (H := H1) (p := p1) r1 q
      obtain ⟨b, s2, ws, rfl, eb, f2, hz', rb⟩ := sq_src (H := H1) (p := p1) r2 q2
      exact ⟨a, b, vs, ws, s1, s2, rfl, ea, eb, f1.v gs1.sub, f2.v gs1.sub, o2.ret gs1 _ (iter_zipS f1 ra f2 rb) (Nat.le_trans (zipL_len _ _) hz)⟩⟩
theorem pmi_zipR {e0 e1 : Expr} {elts : List Expr} {kk : Nat} {tpos : Pos} (hg : Gl X "zip") (hm : X.mg "zip" = none) (hgr : Gl X "range") (hmr : X.mg "range" = none) (ha : PMa X Wx [e0, e1] mr) (he : PM X Wx e2 me)
    (hs : starEach [e0, e1] X.env = [(false, eval e0 X.env), (false, eval e1 X.env)] := by rfl) (hs2 : starEach [e1] X.env = [(false, eval e1 X.env)] := by rfl)
    (hz : starEach [.Call (.Name "range" p2) [e0, e1] [] pos2, e2] X.env = (false, eval (.Call (.Name "range" p2) [e0, e1] [] pos2) X.env) :: starEach [e2] X.env := by rfl) (hz2 : starEach [e2] X.env = (false, eval e2 X.env) :: starEach [] X.env := by rfl)
    (hpl : (backTo pos (starEach [e2] X.env)).any (·.1) = false := by rfl) :
    PMi X Wx (.Tuple elts kk tpos) (.Call (.Name "zip" p) [.Call (.Name "range" p2) [e0, e1] [] pos2, e2] [] pos) (mZipR mr me) := ⟨(pi_zipR hg hm hgr hmr ha.pa he.pe hs hs2 hz hz2 hpl).imp fun σ H R ⟨F, pa, p, ρ, gs, s, o⟩ => by
  unfold mZipR mRange2 at o
  refine TMa.of gs s ((o.bind.bind).mono fun ds p1 F1 H1 pa1 gr1 gs1 o1 s1 vs rs => ?_)
  obtain ⟨z, ez, o2⟩ := o1.opt
  unfold dRange2 at ez
  split at ez <;> first | (cases ez; done) | skip
  split at ez <;> first | (cases ez; done) | skip
  rename_i hc
  simp only [Option.some.injEq] at ez
  subst ez
  obtain ⟨v, w, rfl, r1, r2⟩ := reps2 rs
  cases r1; cases r2
  refine ⟨_, _, rfl, ⟨by omega, by omega, by omega, by omega⟩, ?_⟩
  rename_i i0 j0
  have o3 := o2.ret gs1
  refine TM.of gs1 s1 (o3.bind.mono fun d p2 F2 H2 pa2 gr2 gs2 o4 s2 v r => ?_)
  obtain ⟨z, ez, o5⟩ := o4.opt
  cases q : sqD d with
  | none => rw [q] at ez; cases ez
  | some ys =>
    rw [q] at ez
    cases ez
    obtain ⟨a, q2, ws, rfl, ea, f2, hz, rb⟩ := sq_src (H := H2) (p := p2) r q
    have f1 : SrcF F2 (.r i0 (j0 - i0).toNat) ((List.range (j0 - i0).toNat).map fun (k : Nat) => V.int (i0 + k)) := .inr (.inr ⟨_, _, rfl, rfl⟩)
    have it := iter_zipS f1 (reps_rng (K := X.K) (F := F2) (g := p2.g) (pa := pa2) i0 (j0 - i0).toNat) f2 rb
    rw [List.length_map, List.length_range] at it
    refine ⟨a, ws, q2, rfl, ea, f2.v gs2.sub, o5.ret gs2 _ it (Nat.le_trans (zipL_len _ _) ?_)⟩
    rw [rgL_len]
    exact sz16 (by omega)⟩
end
end PF

namespace PF
open PySem PySem.Spec PyProof.Rows L2
/-! ### in, in a tuple of any data -/
def rInT (K : PySem.W.Frag) : R2 := fun x y H Q => ∃ d ds, Dp K H x d ∧ Dp K H y (.tuple ds) ∧ SeqAt.shaped d = true ∧ SeqAt.shaped (.tuple ds) = true ∧ Q (.bl (ds.any fun z => PyData.eqv z d)) H
section
variable {X : Cx} {Wx : WX} {a b : Expr} {ma mb : M D} {pos : Pos}
theorem op_inT (hu : X.A.units + 65 < cLine) : OpR X (compareOp .In) (rInT X.K) := by
  intro pins s σ H x y v u Q I rx ry h
  obtain ⟨d, ds, hd, he, sd, se, q⟩ := h
  obtain ⟨as, r1⟩ := Dp.reads I d x v hd rx
  obtain ⟨bs, r2⟩ := Dp.reads I (.tuple ds) y u he ry
  exact SeqAt.in_tuple_reads r2 r1 (SeqAt.canLay_of_shaped se) (SeqAt.canLay_of_shaped sd) (room_in_shaped sd hu) ⟨.bl _, H, I, rfl, q⟩
def dInT : D → D → Option Bool
  | d, .tup xs => if okEq d && okEq (.tup xs) then some (xs.any fun z => PyData.eqv (toPy z) (toPy d)) else none
  | _, _ => none
theorem cmps_inT : CmpS X (rInT X.K) dInT := by
  intro x y d e z F H p pa Q gs rx ry ez k
  cases e <;> first | (simp [dInT] at ez; done) | skip
  rename_i xs
  simp only [dInT] at ez
  split at ez
  · rename_i hc
    simp only [Bool.and_eq_true] at hc
    have h2 := ry.dp gs.sub (pl_of hc.2)
    have s2 := shaped_ok hc.2
    simp only [toPy] at h2 s2
    refine ⟨_, _, rx.dp gs.sub (pl_of hc.1), h2, shaped_ok hc.1, s2, ?_⟩
    rw [any_toPys]
    simp only [Option.some.injEq] at ez
    rw [ez]; exact k
  · cases ez
theorem pmt_inT (hu : Un X) (ha : PM X Wx a ma) (hb : PM X Wx b mb) (hm : behindInMarks .In b = false := by rfl) : PMt X Wx (.Compare a [.In] [b] pos) (mCmp dInT ma mb) := pmt_cmp (op_inT hu) cmps_inT ha hb hm
theorem pm_inT (hu : Un X) (ha : PM X Wx a ma) (hb : PM X Wx b mb) (hm : behindInMarks .In b = false := by rfl) : PM X Wx (.Compare a [.In] [b] pos) (mB (mCmp dInT ma mb)) := pm_cmp (op_inT hu) cmps_inT ha hb hm
end
end PF

namespace PF
open PySem PySem.Spec PyProof.Rows L2
/-! ### sorted of a list of pairs of ints -/
def le2 (p q : Int × Int) : Bool := decide (p.1 < q.1) || (decide (p.1 = q.1) && decide (p.2 ≤ q.2))
theorem le2_iff {p q : Int × Int} : le2 p q = true ↔ p.1 < q.1 ∨ (p.1 = q.1 ∧ p.2 ≤ q.2) := by simp [le2]
def insP (x : Int × Int) : List (Int × Int) → List (Int × Int)
  | [] => [x]
  | y :: ys => if le2 x y = true then x :: y :: ys else y :: insP x ys
def srtP : List (Int × Int) → List (Int × Int)
  | [] => []
  | x :: xs => insP x (srtP xs)
theorem insP_perm (x : Int × Int) : ∀ l, (insP x l).Perm (x :: l)
  | [] => .refl _
  | y :: ys => by
    unfold insP
    split
    · exact .refl _
    · exact ((insP_perm x ys).cons y).trans (.swap x y ys)
theorem srtP_perm : ∀ ns : List (Int × Int), (srtP ns).Perm ns
  | [] => .refl _
  | x :: xs => (insP_perm x (srtP xs)).trans ((srtP_perm xs).cons x)
theorem insP_sorted (x : Int × Int) : ∀ l : List (Int × Int), l.Pairwise (fun a b => le2 a b = true) → (insP x l).Pairwise (fun a b => le2 a b = true)
  | [], _ => by simp [insP]
  | y :: ys, h => by
    rw [List.pairwise_cons] at h
    unfold insP
    split
    · rename_i hc
      refine List.Pairwise.cons (fun z hz => ?_) (List.Pairwise.cons h.1 h.2)
      rcases List.mem_cons.mp hz with rfl | hz
      · exact hc
      · have := le2_iff.mp hc; have := le2_iff.mp (h.1 z hz); exact le2_iff.mpr (by omega)
    · rename_i hc
      refine List.Pairwise.cons (fun z hz => ?_) (insP_sorted x ys h.2)
      have hz' := (insP_perm x ys).mem_iff.mp hz
      rcases List.mem_cons.mp hz' with rfl | hz'
      · have : ¬ (z.1 < y.1 ∨ (z.1 = y.1 ∧ z.2 ≤ y.2)) := fun q => hc (le2_iff.mpr q)
        exact le2_iff.mpr (by omega)
      · exact h.1 z hz'
theorem srtP_sorted : ∀ ns : List (Int × Int), (srtP ns).Pairwise (fun a b => le2 a b = true)
  | [] => .nil
  | x :: xs => insP_sorted x (srtP xs) (srtP_sorted xs)
theorem sortedP_unique {xs ys : List (Int × Int)} (hp : xs.Perm ys) (h1 : xs.Pairwise (fun a b => le2 a b = true)) (h2 : ys.Pairwise (fun a b => le2 a b = true)) : xs = ys :=
  List.Perm.eq_of_pairwise (le := fun a b => le2 a b = true) (fun a b _ _ h3 h4 => by
    have := le2_iff.mp h3; have := le2_iff.mp h4; exact Prod.ext (by omega) (by omega)) h1 h2 hp
theorem srtP_congr {xs ys : List (Int × Int)} (h : xs.Perm ys) : srtP xs = srtP ys := sortedP_unique ((srtP_perm xs).trans (h.trans (srtP_perm ys).symm)) (srtP_sorted xs) (srtP_sorted ys)
def pairD (q : Int × Int) : D := .tup [.int q.1, .int q.2]
def pairsOf : List D → Option (List (Int × Int))
  | [] => some []
  | .tup [.int a, .int b] :: r => (pairsOf r).map ((a, b) :: ·)
  | _ => none
theorem pairsOf_map (qs : List (Int × Int)) : pairsOf (qs.map pairD) = some qs := by
  induction qs with
  | nil => rfl
  | cons q qs ih => simp [pairsOf, pairD] at ih ⊢; rw [ih]
theorem pairsOf_eq : ∀ {ds : List D} {qs : List (Int × Int)}, pairsOf ds = some qs → ds = qs.map pairD
  | [], qs, h => by simp [pairsOf] at h; subst h; rfl
  | d :: ds, qs, h => by
    unfold pairsOf at h
    split at h
    · rename_i e; cases e
    · rename_i a b r e
      cases e
      cases q : pairsOf ds with
      | none => rw [q] at h; cases h
      | some ms =>
        rw [q] at h
        simp only [Option.map_some, Option.some.injEq] at h
        subst h
        rw [List.map_cons, ← pairsOf_eq q]; rfl
    · cases h
def dSortP : List D → Option (List D)
  | [.lst xs] => (pairsOf xs).map fun qs => (srtP qs).map pairD
  | _ => none
/-- the pair at a tuple as it stands -/
def pairAt (H : Hp) : V → Int × Int
  | .ref t => (match H t with | some (.tup [.int a, .int b]) => (a, b) | _ => (0, 0))
  | _ => (0, 0)
section
variable {X : Cx} {Wx : WX} {e : Expr} {es : List Expr} {ms : M (List D)} {p pos : Pos}
theorem calls_sortP : CallSo X (rSortedPO X.K) dSortP := by
  intro xs ds z F H p pa Q gs rs ez k
  unfold dSortP at ez
  split at ez <;> first | (cases ez; done) | skip
  rename_i ys
  obtain ⟨v, rfl, r⟩ := reps1 rs
  obtain ⟨a, vs, rfl, h, hz, r2⟩ := r.lstH gs
  cases q : pairsOf ys with
  | none => rw [q] at ez; cases ez
  | some qs =>
    rw [q] at ez
    simp only [Option.map_some, Option.some.injEq] at ez
    subst ez
    have eys := pairsOf_eq q
    subst eys
    -- each one is a tuple of two ints
    have key : ∀ (i : Nat) (x : V), vs[i]? = some x → ∃ pr, qs[i]? = some pr ∧ pairAt H x = pr ∧ (∃ t, x = V.ref t ∧ H t = some (.tup [.int pr.1, .int pr.2])) ∧ Rep X.K F p.g pa x (pairD pr) := fun i x hx => by
      obtain ⟨d, hd, rd⟩ := r2.get' hx
      rw [List.getElem?_map] at hd
      cases qi : qs[i]? with
      | none => rw [qi] at hd; cases hd
      | some pr =>
        rw [qi] at hd
        cases hd
        obtain ⟨t, ws, rfl, ht, _, rw'⟩ := rd.tupH gs
        obtain ⟨w1, w2, rfl, q1, q2⟩ := reps2 rw'
        cases q1; cases q2
        exact ⟨pr, rfl, (by simp only [pairAt, ht]), ⟨t, rfl, ht⟩, rd⟩
    have hmap : vs.map (pairAt H) = qs := by
      apply List.ext_getElem?
      intro i
      rw [List.getElem?_map]
      cases hv : vs[i]? with
      | none =>
        have l1 := r2.1
        rw [List.length_map] at l1
        have : qs[i]? = none := List.getElem?_eq_none (by have := List.getElem?_eq_none_iff.mp hv; omega)
        rw [this]; rfl
      | some x =>
        obtain ⟨pr, h1, h2, _, _⟩ := key i x hv
        rw [h1, ← h2]; rfl
    have hmem : ∀ x ∈ vs, (∃ t, x = V.ref t ∧ H t = some (.tup [.int (pairAt H x).1, .int (pairAt H x).2])) ∧ Rep X.K F p.g pa x (pairD (pairAt H x)) := fun x hx => by
      obtain ⟨i, hi⟩ := List.mem_iff_getElem?.mp hx
      obtain ⟨pr, _, h2, h3, h4⟩ := key i x hi
      rw [h2]
      exact ⟨h3, h4⟩
    refine ⟨a, vs, pairAt H, rfl, SqL.of h, fun x hx => (hmem x hx).1, fun zs l hs hst hl => ?_⟩
    have hperm := hst.perm
    have e : zs.map (pairAt H) = srtP qs := by
      refine sortedP_unique (((hperm.map (pairAt H)).trans (by rw [hmap])).trans (srtP_perm qs).symm) ?_ (srtP_sorted qs)
      rw [List.pairwise_map]
      exact hs.imp fun {x y} hxy => by
        have := SrtO.lexB_no.mp hxy
        exact le2_iff.mpr (by omega)
    refine k l zs hl (by rw [List.length_map, (srtP_perm qs).length_eq]; rw [List.length_map] at hz; exact hz) ?_
    rw [← e, List.map_map]
    have hall : ∀ x ∈ zs, Rep X.K F p.g pa x (pairD (pairAt H x)) := fun x hx => (hmem x (hperm.mem_iff.mp hx)).2
    refine ⟨by simp, fun i x d hx hd => ?_⟩
    rw [List.getElem?_map, hx] at hd
    cases hd
    exact hall x (List.mem_of_getElem? hx)
theorem b_sortP (hm : X.mg "sorted" = none) (ha : PMa X Wx (e :: es) ms) (hg : Gl X "sorted" := by rfl) (he : starEach (e :: es) X.env = (false, eval e X.env) :: starEach es X.env := by rfl) (hpl : (backTo pos (starEach es X.env)).any (·.1) = false := by rfl) : PMo X Wx (.Call (.Name "sorted" p) (e :: es) [] pos) (mLst dSortP ms) := pmo_callB cr_sortedPO calls_sortP hg hm boot_sorted ha (by decide) (by decide) he hpl
end
end PF

namespace HT
open PySem PyProof.Rows
section
variable {prog : Program} {w : World} {A : Around} {E : Value → Shared → Prop} {s : Shared}
theorem sliceApplied_rev2 {sl : Addr} {vl vu vs : Value} {Q : Int × Int × Nat → Shared → Prop} (hs : s.heap.IsSliceOf sl vl vu vs) (pl : IsPart vl none) (pu : IsPart vu none) (ps : IsPart vs (some (-1)))
    (h : Q (1, -1, 2) s) : wpAny (model prog w) A (Builtin.Slice.sliceApplied (.ref sl) (pure ((2 : Nat) : Int))) Q E s := by
  obtain ⟨os, hos, hcs, hds⟩ := id hs
  unfold Builtin.Slice.sliceApplied Builtin.Slice.sliceFields
  refine wpAny_bind (wpAny_bind (wpAny_field hos hds (x := vl) rfl (wpAny_bind (wpAny_field hos hds (x := vu) rfl (wpAny_bind (wpAny_field hos hds (x := vs) rfl (wpAny_pure ?_)))))))
  refine wpAny_bind (slicePart_ ps ?_)
  show wpAny _ _ (if ((-1 : Int) == 0) = true then _ else _) _ _ s
  rw [if_neg (by decide)]
  refine wpAny_bind (slicePart_ pl (wpAny_bind (slicePart_ pu (wpAny_bind (wpAny_pure ?_)))))
  exact wpAny_pure h
theorem getItem_tuple_rev2 {t sl : Addr} {x y : Value} {vl vu vs : Value} {Q : Value → Shared → Prop} (ht : IsTup s.heap t #[x, y]) (hs : s.heap.IsSliceOf sl vl vu vs) (pl : IsPart vl none) (pu : IsPart vu none) (ps : IsPart vs (some (-1)))
    (h : Q (.ref s.heap.objs.size) { s with heap := s.heap.push { cls := .type "tuple", data := .seq #[y, x] } }) : wpAny (model prog w) A (getItem (.ref t) (.ref sl)) Q E s := by
  have htake : sizeOk (.seq #[y, x]) := by show 2 ≤ sizeLine; decide
  obtain ⟨os, hos, hcs, hds⟩ := id hs
  have hTs : s.TypeIs (.ref sl) "slice" := ⟨os, hos, hcs⟩
  unfold getItem
  try with_reducible refine wpAny_holding ?_
  first | refine wpAny_bind (wpAny_pure ?_) | skip
  refine wpAny_bind (wpAny_sequenceKey ht.typeIs (by decide) ?_)
  refine wpAny_bind (wpAny_callSpecial?_slot (name := Str.ofString "__getitem__") ht.typeIs PyProof.Rows.slot_tuple_getitem
    (wpAny_call_entry PyProof.Rows.slot_tuple_getitem ht.typeIs entry_tuple_getitem ?_ (args_tuple_getitem _ _)))
  show wpAny _ _ (Builtin.Tuple.tupleItemsOf (.ref t) >>= _) _ _ s
  refine wpAny_bind (tupleItemsOf_ ht ?_)
  refine wpAny_bind (wpAny_typeOf hTs ?_)
  rw [if_pos (by decide)]
  refine wpAny_bind (sliceApplied_rev2 hs pl pu ps ?_)
  show wpAny _ _ (if (((1 : Int)) == 0 && (-1 : Int) == 1 && 2 == 2) = true then _ else _) _ _ s
  rw [if_neg (by decide)]
  first
    | exact wpAny_bind (m := Builtin.Tuple.tupleExact _) (wpAny_newObj_type (wpAny_pure ⟨_, rfl, wpAny_pure h⟩) htake)
    | exact wpAny_bind (m := Builtin.Tuple.tupleExact _) (wpAny_newObj_type (wpAny_bind (wpAny_pure (wpAny_pure ⟨_, rfl, wpAny_pure h⟩))) htake)
    | exact wpAny_bind (wpAny_bind (m := Builtin.Tuple.tupleExact _) (wpAny_newObj_type (wpAny_pure (wpAny_pure ⟨_, rfl, wpAny_pure h⟩)) htake))
    | exact wpAny_bind (wpAny_bind (m := Builtin.Tuple.tupleExact _) (wpAny_newObj_type (wpAny_pure ⟨_, rfl, wpAny_pure h⟩) htake))
end
end HT
namespace PF
open PySem PySem.Spec PyProof.Rows L2
/-! ### xy[::-1], xy a tuple of two -/
def tRev2 (K : PySem.W.Frag) (te : TE) : TE := fun σ H Q => te σ H fun x H1 => ∃ a v w, x = .ref a ∧ SqT K H1 a [v, w] ∧ ∀ p, H1 p = none → Q (.ref p) (upd H1 p (.tup [w, v]))
theorem pe_rev2 {X : Cx} {e : Expr} {te : TE} {k : Nat} {p1 p2 p3 pos : Pos} (he : PE X e te) : PE X (.Subscript e (.Slice none none (some (.UnaryOp .USub (.Constant (.int 1) k p1) p2)) p3) pos) (tRev2 X.K te) := by
  refine ⟨fun pins s σ H Q I h => ?_⟩
  refine Subscript_ (thn (he.run pins s σ H _ I h) fun v s1 ⟨x, H1, I1, r1, q1⟩ => ?_)
  obtain ⟨a, y1, y2, ex, hx, q⟩ := q1
  subst ex
  cases r1
  have hst : PO X (some (.UnaryOp .USub (.Constant (.int 1) k p1) p2)) (tPart (tUn (rU fun i => .int (-i)) (tC (.int 1)))) := po_some (pe_un un_neg pe_int)
  refine wpAny_Slice (thn (po_none.run pins s1 σ H1 (fun o H2 => o = none ∧ H2 = H1) I1 ⟨rfl, rfl⟩) fun vl s2 ⟨l, H2, I2, pl, el, e2⟩ => ?_)
  subst el e2
  refine thn (po_none.run pins s2 σ H2 (fun o H3 => o = none ∧ H3 = H2) I2 ⟨rfl, rfl⟩) fun vu s3 ⟨u, H3, I3, pu, eu, e3⟩ => ?_
  subst eu e3
  refine thn (hst.run pins s3 σ H3 (fun o H4 => o = some (-1) ∧ H4 = H3) I3 ⟨1, rfl, -1, rfl, rfl, rfl⟩) fun vs s4 ⟨o, H4, I4, ps, eo, e4⟩ => ?_
  subst eo e4
  have I5 : Inv X pins σ H4 { s4 with heap := s4.heap.push { cls := .type "slice", data := .fields #[vl, vu, vs] } } := I4.kept (t' := s4.toks) fun b ob q => Heap.get?_push_of_some _ q
  obtain ⟨its, r, ht, hz⟩ := I5.tuple hx
  obtain ⟨u1, u2, rfl, ru1, ru2⟩ := vals2 r
  show wpAny (model X.prog X.w) X.A (subscriptTail e (.Slice none none (some (.UnaryOp .USub (.Constant (.int 1) k p1) p2)) p3) (.ref a) (.ref s4.heap.objs.size)) (EP X pins σ Q) X.xe { s4 with heap := s4.heap.push { cls := .type "slice", data := .fields #[vl, vu, vs] } }
  refine tail_any (ops := [.ref a, .ref s4.heap.objs.size]) ht.typeIs (PyProof.Rows.slot_tuple_getitem.lookup) ?_ (by with_unfolding_all rfl)
  refine HT.getItem_tuple_rev2 ht (Heap.IsSliceOf.new _ vl vu vs) pl pu ps ?_
  refine ⟨.ref _, _, I5.laid (t' := s4.toks) (o := .tup [y2, y1]) (fun b ob q => Heap.get?_push_of_some _ q) (Nat.le_refl _) ?_, rfl, q _ (I5.hok.fresh (Nat.le_refl _))⟩
  exact ⟨by show 2 ≤ sizeLine; decide, [u2, u1], .cons ru2 (.cons ru1 .nil), ⟨_, Heap.get?_push_size _ rfl, rfl, _, rfl⟩⟩
def rev2D : D → Option D
  | .tup [a, b] => some (.tup [b, a])
  | _ => none
@[simp] theorem rev2D_two (a b : D) : rev2D (.tup [a, b]) = some (.tup [b, a]) := rfl
def mRev2 (me : M D) : M D := mbind me fun d => mopt (rev2D d)
@[simp] theorem ev_mRev2 (me : M D) (ρ : Sl) (p : Pst) : mRev2 me ρ p = mbind me (fun d => mopt (rev2D d)) ρ p := by cases p; rfl
theorem im_rev2 {me : M D} (h : IM me) : IM (mRev2 me) := im_bind h fun _ => im_opt _
theorem pm_rev2 {X : Cx} {Wx : WX} {e : Expr} {me : M D} {k : Nat} {p1 p2 p3 pos : Pos} (he : PM X Wx e me) : PM X Wx (.Subscript e (.Slice none none (some (.UnaryOp .USub (.Constant (.int 1) k p1) p2)) p3) pos) (mRev2 me) := ⟨(pe_rev2 he.pe).imp fun σ H Q ⟨F, pa, p, ρ, gs, s, o⟩ => by
  refine TM.of gs s (o.bind.mono fun d p1 F1 H1 pa1 gr1 gs1 o1 s1 v1 r1 => ?_)
  obtain ⟨z, ez, o2⟩ := o1.opt
  unfold rev2D at ez
  split at ez <;> first | (cases ez; done) | skip
  rename_i a b
  cases ez
  obtain ⟨t, ws, rfl, ht, _, rw'⟩ := r1.tup_inv
  obtain ⟨w1, w2, rfl, q1, q2⟩ := reps2 rw'
  refine ⟨t, w1, w2, rfl, SqT.of (gs1.sub _ _ ht), fun q hq => ?_⟩
  obtain ⟨F', gr2, gs2, r2⟩ := zip_item gs1 hq q2 q1
  exact o2 _ _ pa1 gr2 gs2 _ r2⟩
end PF

namespace HeadT
open PySem PySem.Spec PyProof.Rows L2
def top (i : Nat) : Stmt := PySem.Challenge.pw_wholegrids_k67_whole_bounds_told_otherwi.main.body.getD i (.Pass ⟨0, 0, 0, 0⟩)
abbrev s_is_integer : Stmt := top 8
def d_is_integer : He.DefD := ⟨("is_integer", none), "is_integer", "is_integer", defArgs s_is_integer, defBody s_is_integer, defScope s_is_integer, [], []⟩
abbrev s_is_within : Stmt := top 9
def d_is_within : He.DefD := ⟨("is_within", none), "is_within", "is_within", defArgs s_is_within, defBody s_is_within, defScope s_is_within, [], []⟩
abbrev s_is_list : Stmt := top 10
def d_is_list : He.DefD := ⟨("is_list", none), "is_list", "is_list", defArgs s_is_list, defBody s_is_list, defScope s_is_list, [], []⟩
abbrev s_picks_of : Stmt := top 12
def d_picks_of : He.DefD := ⟨("picks_of", none), "picks_of", "picks_of", defArgs s_picks_of, defBody s_picks_of, defScope s_picks_of, [], []⟩
abbrev s_is_bound_of : Stmt := top 19
def d_is_bound_of : He.DefD := ⟨("is_bound_of", none), "is_bound_of", "is_bound_of", defArgs s_is_bound_of, defBody s_is_bound_of, defScope s_is_bound_of, [], []⟩
abbrev s_are_bounds_of : Stmt := top 20
def d_are_bounds_of : He.DefD := ⟨("are_bounds_of", none), "are_bounds_of", "are_bounds_of", defArgs s_are_bounds_of, defBody s_are_bounds_of, defScope s_are_bounds_of, [], []⟩
abbrev s_check_bounds : Stmt := top 21
def d_check_bounds : He.DefD := ⟨("check_bounds", none), "check_bounds", "check_bounds", defArgs s_check_bounds, defBody s_check_bounds, defScope s_check_bounds, [], []⟩
abbrev s_is_point_of : Stmt := top 22
def d_is_point_of : He.DefD := ⟨("is_point_of", none), "is_point_of", "is_point_of", defArgs s_is_point_of, defBody s_is_point_of, defScope s_is_point_of, [], []⟩
abbrev s_all_columns : Stmt := top 23
def d_all_columns : He.DefD := ⟨("all_columns", none), "all_columns", "all_columns", defArgs s_all_columns, defBody s_all_columns, defScope s_all_columns, [], []⟩
abbrev s_top_of : Stmt := top 24
def d_top_of : He.DefD := ⟨("top_of", none), "top_of", "top_of", defArgs s_top_of, defBody s_top_of, defScope s_top_of, [], []⟩
abbrev s_floor_of : Stmt := top 25
def d_floor_of : He.DefD := ⟨("floor_of", none), "floor_of", "floor_of", defArgs s_floor_of, defBody s_floor_of, defScope s_floor_of, [], []⟩
abbrev s_is_out_at : Stmt := top 26
def d_is_out_at : He.DefD := ⟨("is_out_at", none), "is_out_at", "is_out_at", defArgs s_is_out_at, defBody s_is_out_at, defScope s_is_out_at, [], []⟩
abbrev s_span_at : Stmt := top 27
def d_span_at : He.DefD := ⟨("span_at", none), "span_at", "span_at", defArgs s_span_at, defBody s_span_at, defScope s_span_at, [], []⟩
abbrev s_points_at : Stmt := top 28
def d_points_at : He.DefD := ⟨("points_at", none), "points_at", "points_at", defArgs s_points_at, defBody s_points_at, defScope s_points_at, [], []⟩
abbrev s_points_of : Stmt := top 29
def d_points_of : He.DefD := ⟨("points_of", none), "points_of", "points_of", defArgs s_points_of, defBody s_points_of, defScope s_points_of, [], []⟩
abbrev s_have_none : Stmt := top 30
def d_have_none : He.DefD := ⟨("have_none", none), "have_none", "have_none", defArgs s_have_none, defBody s_have_none, defScope s_have_none, [], []⟩
abbrev s_is_within_bounds : Stmt := top 31
def d_is_within_bounds : He.DefD := ⟨("is_within_bounds", none), "is_within_bounds", "is_within_bounds", defArgs s_is_within_bounds, defBody s_is_within_bounds, defScope s_is_within_bounds, [], []⟩
abbrev s_least_point : Stmt := top 32
def d_least_point : He.DefD := ⟨("least_point", none), "least_point", "least_point", defArgs s_least_point, defBody s_least_point, defScope s_least_point, [], []⟩
abbrev s_count_points : Stmt := top 33
def d_count_points : He.DefD := ⟨("count_points", none), "count_points", "count_points", defArgs s_count_points, defBody s_count_points, defScope s_count_points, [], []⟩
abbrev s_few_bar : Stmt := top 34
def d_few_bar : He.DefD := ⟨("few_bar", none), "few_bar", "few_bar", defArgs s_few_bar, defBody s_few_bar, defScope s_few_bar, [], []⟩
abbrev s_check_wish : Stmt := top 36
def d_check_wish : He.DefD := ⟨("check_wish", none), "check_wish", "check_wish", defArgs s_check_wish, defBody s_check_wish, defScope s_check_wish, [], []⟩
abbrev s_want_points : Stmt := top 37
def d_want_points : He.DefD := ⟨("want_points", none), "want_points", "want_points", defArgs s_want_points, defBody s_want_points, defScope s_want_points, [], []⟩
abbrev s_worth_at : Stmt := top 38
def d_worth_at : He.DefD := ⟨("worth_at", none), "worth_at", "worth_at", defArgs s_worth_at, defBody s_worth_at, defScope s_worth_at, [], []⟩
abbrev s_best_of : Stmt := top 39
def d_best_of : He.DefD := ⟨("best_of", none), "best_of", "best_of", defArgs s_best_of, defBody s_best_of, defScope s_best_of, [], []⟩
abbrev s_turn_at : Stmt := top 40
def d_turn_at : He.DefD := ⟨("turn_at", none), "turn_at", "turn_at", defArgs s_turn_at, defBody s_turn_at, defScope s_turn_at, [], []⟩
abbrev s_half_hull : Stmt := top 41
def d_half_hull : He.DefD := ⟨("half_hull", none), "half_hull", "half_hull", defArgs s_half_hull, defBody s_half_hull, defScope s_half_hull, [], []⟩
abbrev s_corners_of : Stmt := top 42
def d_corners_of : He.DefD := ⟨("corners_of", none), "corners_of", "corners_of", defArgs s_corners_of, defBody s_corners_of, defScope s_corners_of, [], []⟩
abbrev s_best_worth : Stmt := top 43
def d_best_worth : He.DefD := ⟨("best_worth", none), "best_worth", "best_worth", defArgs s_best_worth, defBody s_best_worth, defScope s_best_worth, [], []⟩
abbrev s_corners : Stmt := top 44
def d_corners : He.DefD := ⟨("corners", none), "corners", "corners", defArgs s_corners, defBody s_corners, defScope s_corners, [], []⟩
abbrev s__law_pot : Stmt := top 46
def d__law_pot : He.DefD := ⟨("_law_pot", none), "_law_pot", "_law_pot", defArgs s__law_pot, defBody s__law_pot, defScope s__law_pot, [], []⟩
abbrev s__law_draw : Stmt := top 47
def d__law_draw : He.DefD := ⟨("_law_draw", none), "_law_draw", "_law_draw", defArgs s__law_draw, defBody s__law_draw, defScope s__law_draw, [], []⟩
abbrev s__law_pick : Stmt := top 48
def d__law_pick : He.DefD := ⟨("_law_pick", none), "_law_pick", "_law_pick", defArgs s__law_pick, defBody s__law_pick, defScope s__law_pick, [], []⟩
abbrev s__law_bounds : Stmt := top 49
def d__law_bounds : He.DefD := ⟨("_law_bounds", none), "_law_bounds", "_law_bounds", defArgs s__law_bounds, defBody s__law_bounds, defScope s__law_bounds, [], []⟩
abbrev s__law_triangle_right : Stmt := top 50
def d__law_triangle_right : He.DefD := ⟨("_law_triangle_right", none), "_law_triangle_right", "_law_triangle_right", defArgs s__law_triangle_right, defBody s__law_triangle_right, defScope s__law_triangle_right, [], []⟩
abbrev s__law_right : Stmt := top 51
def d__law_right : He.DefD := ⟨("_law_right", none), "_law_right", "_law_right", defArgs s__law_right, defBody s__law_right, defScope s__law_right, [], []⟩
abbrev s_law : Stmt := top 52
def d_law : He.DefD := ⟨("law", none), "law", "law", defArgs s_law, defBody s_law, defScope s_law, [], []⟩
def fn0 : List He.DefD := [d_is_integer, d_is_within, d_is_list, d_picks_of, d_is_bound_of, d_are_bounds_of, d_check_bounds, d_is_point_of, d_all_columns, d_top_of, d_floor_of, d_is_out_at, d_span_at, d_points_at, d_points_of, d_have_none, d_is_within_bounds, d_least_point, d_count_points, d_few_bar, d_check_wish, d_want_points, d_worth_at, d_best_of, d_turn_at, d_half_hull, d_corners_of, d_best_worth, d_corners, d__law_pot]
def fn1 : List He.DefD := [d__law_draw, d__law_pick, d__law_bounds, d__law_triangle_right, d__law_right, d_law]
def fn : List He.DefD := fn0 ++ fn1
def fa0 : List He.Fa := [.glo "is_integer", .glo "is_within", .glo "is_list", .glo "picks_of", .glo "is_bound_of", .glo "are_bounds_of", .glo "check_bounds", .glo "is_point_of", .glo "all_columns", .glo "top_of", .glo "floor_of", .glo "is_out_at", .glo "span_at", .glo "points_at", .glo "points_of", .glo "have_none", .glo "is_within_bounds", .glo "least_point", .glo "count_points", .glo "few_bar", .glo "check_wish", .glo "want_points", .glo "worth_at", .glo "best_of", .glo "turn_at", .glo "half_hull", .glo "corners_of", .glo "best_worth", .glo "corners", .glo "_law_pot"]
def fa1 : List He.Fa := [.glo "_law_draw", .glo "_law_pick", .glo "_law_bounds", .glo "_law_triangle_right", .glo "_law_right", .glo "law", .free "abs", .free "all", .free "any", .free "bool", .free "divmod", .free "int", .free "isinstance", .free "len", .free "list", .free "max", .free "min", .free "range", .free "sorted", .free "sum", .free "tuple", .int "MOST_BOUNDS" 8, .int "MOST_FACTOR" 99, .int "MOST_BOUND" 999, .int "MOST_PLACE" 20, .int "FEW" 4]
def fa : List He.Fa := fa0 ++ fa1
def loose0 : List Str := ["GridError", "StateError", "InvalidBounds", "InvalidPoint", "InvalidWish", "NoPoint", "is_integer", "is_within", "is_list", "picks_of", "MOST_BOUNDS", "MOST_FACTOR", "MOST_BOUND", "MOST_PLACE", "FEW", "is_bound_of", "are_bounds_of", "check_bounds", "is_point_of", "all_columns", "top_of", "floor_of", "is_out_at", "span_at", "points_at", "points_of", "have_none", "is_within_bounds", "least_point", "count_points"]
def loose1 : List Str := ["few_bar", "check_wish", "want_points", "worth_at", "best_of", "turn_at", "half_hull", "corners_of", "best_worth", "corners", "_law_pot", "_law_draw", "_law_pick", "_law_bounds", "_law_triangle_right", "_law_right"]
def loose : List Str := loose0 ++ loose1
abbrev R : PySem.W.OpenRow := PySem.W.OpenLaw.row PySem.Challenge.rw_wholegrids_k67_whole_bounds_told_otherwi
abbrev hk : PySem.W.Hook := He.hookD 4 fa fn
def ob (s : PySem.W.SharedT) : He.AlD := He.obsDG 4 fa fn (HandSHeadRun.getT s)
theorem ob_eq (s : PySem.W.SharedT) : ob s = hk.obs s.abs := He.obsDG_eq (HandSHeadRun.getT_eq s)
theorem run (w : World) : HandSHeadRun.RunEq R (PySem.W.view R.prog [52]) hk ob 4000 loose w := by
  intro os
  kernel_rfl
end HeadT

namespace PF
open PySem PySem.Spec PyProof.Rows L2
def FUEL : Nat := 2 ^ 80
/-- is_integer: slots 0 value -/
def N_is_integer : List Str := ["value"]
def ps_is_integer : List Str := ["value"]
def c_is_integer : C := cret (mAndV (mIsi .int (rd 0)) (mNotV (mIsi .bool (rd 0))))
def F_is_integer : Fn := fres 1 1 c_is_integer
theorem en_is_integer (a0 : D) (p : Pst) : F_is_integer [a0] p = sres (c_is_integer [some (.val a0)] p) := rfl
theorem ip_is_integer : IF F_is_integer := if_fres _ _ (by
  unfold c_is_integer
  repeat' first | with_reducible apply im_ret | with_reducible apply im_rd | with_reducible apply im_op | with_reducible apply im_cmp | with_reducible apply im_b | with_reducible apply im_cons | with_reducible apply ic_seq | with_reducible apply ic_if | with_reducible apply ic_ret | with_reducible apply ic_reto | with_reducible apply ic_retown | with_reducible apply ic_asg | with_reducible apply ic_aso | with_reducible apply ic_frz | with_reducible apply ic_asgW | with_reducible apply ic_app | with_reducible apply ic_pop | with_reducible apply ic_expr | with_reducible apply ic_skip | with_reducible apply ic_stuck | with_reducible apply ic_brk | with_reducible apply ic_cnt | with_reducible apply ic_retN | with_reducible apply ic_for | with_reducible apply ic_while | with_reducible apply it_name | with_reducible apply it_tup | with_reducible apply it_cons | with_reducible apply it_nil | with_reducible apply im_fn | with_reducible apply im_fno | with_reducible apply im_lc | with_reducible apply im_yes | with_reducible apply im_and | with_reducible apply im_or | with_reducible apply im_not | with_reducible apply im_if | with_reducible apply im_frz | with_reducible apply im_lim | with_reducible apply im_tup | with_reducible apply im_call | with_reducible apply im_lst | with_reducible apply im_isi | with_reducible apply im_isis | with_reducible apply im_isN | with_reducible apply im_notN | with_reducible apply im_chain | with_reducible apply im_seq | with_reducible apply im_range1 | with_reducible apply im_range2 | with_reducible apply im_enum | with_reducible apply im_zip | with_reducible apply im_t | with_reducible apply im_notV | with_reducible apply im_andV | with_reducible apply im_orV | with_reducible apply im_part | with_reducible apply im_sl | with_reducible apply im_slo | with_reducible apply im_rev | with_reducible apply im_uV | with_reducible apply im_uO | with_reducible apply im_un | with_reducible apply im_opo | with_reducible apply im_ixO | with_reducible apply im_scal | with_reducible apply im_scalt | with_reducible apply im_index | with_reducible apply im_lrg1 | with_reducible apply im_lrg2 | with_reducible apply ic_ext | with_reducible apply ic_asgT | with_reducible apply it_subO | with_reducible apply im_fnO | with_reducible apply im_fnOo | with_reducible apply im_zipS | with_reducible apply im_zipR | with_reducible apply im_rev2)
/-- is_within: slots 0 value, 1 least, 2 most -/
def N_is_within : List Str := ["value", "least", "most"]
def ps_is_within : List Str := ["value", "least", "most"]
def c_is_within : C := cret (mAndV (mFn F_is_integer 1 0 [0] (mcons (rd 0) (mret [])) (mret [])) (mB (mChain iLe iLe (rd 1) (rd 0) (rd 2))))
def F_is_within : Fn := fres 3 3 c_is_within
theorem en_is_within (a0 a1 a2 : D) (p : Pst) : F_is_within [a0, a1, a2] p = sres (c_is_within [some (.val a0), some (.val a1), some (.val a2)] p) := rfl
theorem ip_is_within : IF F_is_within := if_fres _ _ (by
  unfold c_is_within
  repeat' first | exact ip_is_integer | with_reducible apply im_ret | with_reducible apply im_rd | with_reducible apply im_op | with_reducible apply im_cmp | with_reducible apply im_b | with_reducible apply im_cons | with_reducible apply ic_seq | with_reducible apply ic_if | with_reducible apply ic_ret | with_reducible apply ic_reto | with_reducible apply ic_retown | with_reducible apply ic_asg | with_reducible apply ic_aso | with_reducible apply ic_frz | with_reducible apply ic_asgW | with_reducible apply ic_app | with_reducible apply ic_pop | with_reducible apply ic_expr | with_reducible apply ic_skip | with_reducible apply ic_stuck | with_reducible apply ic_brk | with_reducible apply ic_cnt | with_reducible apply ic_retN | with_reducible apply ic_for | with_reducible apply ic_while | with_reducible apply it_name | with_reducible apply it_tup | with_reducible apply it_cons | with_reducible apply it_nil | with_reducible apply im_fn | with_reducible apply im_fno | with_reducible apply im_lc | with_reducible apply im_yes | with_reducible apply im_and | with_reducible apply im_or | with_reducible apply im_not | with_reducible apply im_if | with_reducible apply im_frz | with_reducible apply im_lim | with_reducible apply im_tup | with_reducible apply im_call | with_reducible apply im_lst | with_reducible apply im_isi | with_reducible apply im_isis | with_reducible apply im_isN | with_reducible apply im_notN | with_reducible apply im_chain | with_reducible apply im_seq | with_reducible apply im_range1 | with_reducible apply im_range2 | with_reducible apply im_enum | with_reducible apply im_zip | with_reducible apply im_t | with_reducible apply im_notV | with_reducible apply im_andV | with_reducible apply im_orV | with_reducible apply im_part | with_reducible apply im_sl | with_reducible apply im_slo | with_reducible apply im_rev | with_reducible apply im_uV | with_reducible apply im_uO | with_reducible apply im_un | with_reducible apply im_opo | with_reducible apply im_ixO | with_reducible apply im_scal | with_reducible apply im_scalt | with_reducible apply im_index | with_reducible apply im_lrg1 | with_reducible apply im_lrg2 | with_reducible apply ic_ext | with_reducible apply ic_asgT | with_reducible apply it_subO | with_reducible apply im_fnO | with_reducible apply im_fnOo | with_reducible apply im_zipS | with_reducible apply im_zipR | with_reducible apply im_rev2)
/-- is_list: slots 0 value -/
def N_is_list : List Str := ["value"]
def ps_is_list : List Str := ["value"]
def c_is_list : C := cret (mIsis [.list, .tuple] (rd 0))
def F_is_list : Fn := fres 1 1 c_is_list
theorem en_is_list (a0 : D) (p : Pst) : F_is_list [a0] p = sres (c_is_list [some (.val a0)] p) := rfl
theorem ip_is_list : IF F_is_list := if_fres _ _ (by
  unfold c_is_list
  repeat' first | with_reducible apply im_ret | with_reducible apply im_rd | with_reducible apply im_op | with_reducible apply im_cmp | with_reducible apply im_b | with_reducible apply im_cons | with_reducible apply ic_seq | with_reducible apply ic_if | with_reducible apply ic_ret | with_reducible apply ic_reto | with_reducible apply ic_retown | with_reducible apply ic_asg | with_reducible apply ic_aso | with_reducible apply ic_frz | with_reducible apply ic_asgW | with_reducible apply ic_app | with_reducible apply ic_pop | with_reducible apply ic_expr | with_reducible apply ic_skip | with_reducible apply ic_stuck | with_reducible apply ic_brk | with_reducible apply ic_cnt | with_reducible apply ic_retN | with_reducible apply ic_for | with_reducible apply ic_while | with_reducible apply it_name | with_reducible apply it_tup | with_reducible apply it_cons | with_reducible apply it_nil | with_reducible apply im_fn | with_reducible apply im_fno | with_reducible apply im_lc | with_reducible apply im_yes | with_reducible apply im_and | with_reducible apply im_or | with_reducible apply im_not | with_reducible apply im_if | with_reducible apply im_frz | with_reducible apply im_lim | with_reducible apply im_tup | with_reducible apply im_call | with_reducible apply im_lst | with_reducible apply im_isi | with_reducible apply im_isis | with_reducible apply im_isN | with_reducible apply im_notN | with_reducible apply im_chain | with_reducible apply im_seq | with_reducible apply im_range1 | with_reducible apply im_range2 | with_reducible apply im_enum | with_reducible apply im_zip | with_reducible apply im_t | with_reducible apply im_notV | with_reducible apply im_andV | with_reducible apply im_orV | with_reducible apply im_part | with_reducible apply im_sl | with_reducible apply im_slo | with_reducible apply im_rev | with_reducible apply im_uV | with_reducible apply im_uO | with_reducible apply im_un | with_reducible apply im_opo | with_reducible apply im_ixO | with_reducible apply im_scal | with_reducible apply im_scalt | with_reducible apply im_index | with_reducible apply im_lrg1 | with_reducible apply im_lrg2 | with_reducible apply ic_ext | with_reducible apply ic_asgT | with_reducible apply it_subO | with_reducible apply im_fnO | with_reducible apply im_fnOo | with_reducible apply im_zipS | with_reducible apply im_zipR | with_reducible apply im_rev2)
/-- picks_of: slots 0 many, 1 some, 2 found, 3 turn, 4 longer, 5 row, 6 at -/
def N_picks_of : List Str := ["many", "some", "found", "turn", "longer", "row", "at"]
def ps_picks_of : List Str := ["many", "some"]
def m_picks_of_1 : M (List D) := mLc [6] (mRange2 (mcons (mIf (mCmp dNe (rd 5) (mtup (mret []))) (mOp dAdd (mOp dIx (rd 5) (mUn dNeg (mret (.int 1)))) (mret (.int 1))) (mret (.int 0))) (mcons (rd 0) (mret [])))) (fName 6) (mYes) (mOp dAdd (rd 5) (mtup (mcons (rd 6) (mret []))))
def b_picks_of_2 : C := cext 4 (mfrz (m_picks_of_1))
def b_picks_of_3 : C := cseq (caso 4 (mlim (mret []))) (cseq (cfor (mSeq (rd 2)) (tgName 5) (b_picks_of_2)) (cseq (cfrz 4) (casg 2 (rd 4))))
def c_picks_of : C := cseq (casg 2 (mfrz (mlim (mcons (mtup (mret [])) (mret []))))) (cseq (cfor (mRange1 (mcons (rd 1) (mret []))) (tgName 3) (b_picks_of_3)) (cret (rd 2)))
def F_picks_of : Fn := fres 7 2 c_picks_of
theorem en_picks_of (a0 a1 : D) (p : Pst) : F_picks_of [a0, a1] p = sres (c_picks_of [some (.val a0), some (.val a1), none, none, none, none, none] p) := rfl
theorem ip_picks_of : IF F_picks_of := if_fres _ _ (by
  unfold c_picks_of
  try unfold b_picks_of_3
  try unfold b_picks_of_2
  try unfold m_picks_of_1
  repeat' first | with_reducible apply im_ret | with_reducible apply im_rd | with_reducible apply im_op | with_reducible apply im_cmp | with_reducible apply im_b | with_reducible apply im_cons | with_reducible apply ic_seq | with_reducible apply ic_if | with_reducible apply ic_ret | with_reducible apply ic_reto | with_reducible apply ic_retown | with_reducible apply ic_asg | with_reducible apply ic_aso | with_reducible apply ic_frz | with_reducible apply ic_asgW | with_reducible apply ic_app | with_reducible apply ic_pop | with_reducible apply ic_expr | with_reducible apply ic_skip | with_reducible apply ic_stuck | with_reducible apply ic_brk | with_reducible apply ic_cnt | with_reducible apply ic_retN | with_reducible apply ic_for | with_reducible apply ic_while | with_reducible apply it_name | with_reducible apply it_tup | with_reducible apply it_cons | with_reducible apply it_nil | with_reducible apply im_fn | with_reducible apply im_fno | with_reducible apply im_lc | with_reducible apply im_yes | with_reducible apply im_and | with_reducible apply im_or | with_reducible apply im_not | with_reducible apply im_if | with_reducible apply im_frz | with_reducible apply im_lim | with_reducible apply im_tup | with_reducible apply im_call | with_reducible apply im_lst | with_reducible apply im_isi | with_reducible apply im_isis | with_reducible apply im_isN | with_reducible apply im_notN | with_reducible apply im_chain | with_reducible apply im_seq | with_reducible apply im_range1 | with_reducible apply im_range2 | with_reducible apply im_enum | with_reducible apply im_zip | with_reducible apply im_t | with_reducible apply im_notV | with_reducible apply im_andV | with_reducible apply im_orV | with_reducible apply im_part | with_reducible apply im_sl | with_reducible apply im_slo | with_reducible apply im_rev | with_reducible apply im_uV | with_reducible apply im_uO | with_reducible apply im_un | with_reducible apply im_opo | with_reducible apply im_ixO | with_reducible apply im_scal | with_reducible apply im_scalt | with_reducible apply im_index | with_reducible apply im_lrg1 | with_reducible apply im_lrg2 | with_reducible apply ic_ext | with_reducible apply ic_asgT | with_reducible apply it_subO | with_reducible apply im_fnO | with_reducible apply im_fnOo | with_reducible apply im_zipS | with_reducible apply im_zipR | with_reducible apply im_rev2)
/-- is_bound_of: slots 0 value, 1 one -/
def N_is_bound_of : List Str := ["value", "one"]
def ps_is_bound_of : List Str := ["value"]
def m_is_bound_of_1 : M (List D) := mLc [1] (mSeq (mSl (rd 0) (mret none) (mPart (mret (.int 2))))) (fName 1) (mYes) (mFn F_is_within 3 0 [0, 1, 2] (mcons (rd 1) (mcons (mOp dSub (mret (.int 0)) (mret (.int 99))) (mcons (mret (.int 99)) (mret [])))) (mret []))
def c_is_bound_of : C := cseq (cif (mOr (mNot (mT (mIsi .tuple (rd 0)))) (mCmp dNe (mCall dLen (mcons (rd 0) (mret []))) (mret (.int 3)))) (cret (mret (.bl false))) (cskip)) (cseq (cif (mOr (mNot (mT (mCall dAll (mcons (mfrz (m_is_bound_of_1)) (mret []))))) (mCmp dEq (mSl (rd 0) (mret none) (mPart (mret (.int 2)))) (mtup (mcons (mret (.int 0)) (mcons (mret (.int 0)) (mret [])))))) (cret (mret (.bl false))) (cskip)) (cret (mFn F_is_within 3 0 [0, 1, 2] (mcons (mOp dIx (rd 0) (mret (.int 2))) (mcons (mOp dSub (mret (.int 0)) (mret (.int 999))) (mcons (mret (.int 999)) (mret [])))) (mret []))))
def F_is_bound_of : Fn := fres 2 1 c_is_bound_of
theorem en_is_bound_of (a0 : D) (p : Pst) : F_is_bound_of [a0] p = sres (c_is_bound_of [some (.val a0), none] p) := rfl
theorem ip_is_bound_of : IF F_is_bound_of := if_fres _ _ (by
  unfold c_is_bound_of
  try unfold m_is_bound_of_1
  repeat' first | exact ip_is_within | with_reducible apply im_ret | with_reducible apply im_rd | with_reducible apply im_op | with_reducible apply im_cmp | with_reducible apply im_b | with_reducible apply im_cons | with_reducible apply ic_seq | with_reducible apply ic_if | with_reducible apply ic_ret | with_reducible apply ic_reto | with_reducible apply ic_retown | with_reducible apply ic_asg | with_reducible apply ic_aso | with_reducible apply ic_frz | with_reducible apply ic_asgW | with_reducible apply ic_app | with_reducible apply ic_pop | with_reducible apply ic_expr | with_reducible apply ic_skip | with_reducible apply ic_stuck | with_reducible apply ic_brk | with_reducible apply ic_cnt | with_reducible apply ic_retN | with_reducible apply ic_for | with_reducible apply ic_while | with_reducible apply it_name | with_reducible apply it_tup | with_reducible apply it_cons | with_reducible apply it_nil | with_reducible apply im_fn | with_reducible apply im_fno | with_reducible apply im_lc | with_reducible apply im_yes | with_reducible apply im_and | with_reducible apply im_or | with_reducible apply im_not | with_reducible apply im_if | with_reducible apply im_frz | with_reducible apply im_lim | with_reducible apply im_tup | with_reducible apply im_call | with_reducible apply im_lst | with_reducible apply im_isi | with_reducible apply im_isis | with_reducible apply im_isN | with_reducible apply im_notN | with_reducible apply im_chain | with_reducible apply im_seq | with_reducible apply im_range1 | with_reducible apply im_range2 | with_reducible apply im_enum | with_reducible apply im_zip | with_reducible apply im_t | with_reducible apply im_notV | with_reducible apply im_andV | with_reducible apply im_orV | with_reducible apply im_part | with_reducible apply im_sl | with_reducible apply im_slo | with_reducible apply im_rev | with_reducible apply im_uV | with_reducible apply im_uO | with_reducible apply im_un | with_reducible apply im_opo | with_reducible apply im_ixO | with_reducible apply im_scal | with_reducible apply im_scalt | with_reducible apply im_index | with_reducible apply im_lrg1 | with_reducible apply im_lrg2 | with_reducible apply ic_ext | with_reducible apply ic_asgT | with_reducible apply it_subO | with_reducible apply im_fnO | with_reducible apply im_fnOo | with_reducible apply im_zipS | with_reducible apply im_zipR | with_reducible apply im_rev2)
/-- are_bounds_of: slots 0 value, 1 one -/
def N_are_bounds_of : List Str := ["value", "one"]
def ps_are_bounds_of : List Str := ["value"]
def m_are_bounds_of_1 : M (List D) := mLc [1] (mSeq (rd 0)) (fName 1) (mYes) (mFn F_is_bound_of 1 0 [0] (mcons (rd 1) (mret [])) (mret []))
def c_are_bounds_of : C := cret (mAndV (mFn F_is_list 1 0 [0] (mcons (rd 0) (mret [])) (mret [])) (mAndV (mB (mChain iLe iLe (mret (.int 1)) (mCall dLen (mcons (rd 0) (mret []))) (mret (.int 8)))) (mCall dAll (mcons (mfrz (m_are_bounds_of_1)) (mret [])))))
def F_are_bounds_of : Fn := fres 2 1 c_are_bounds_of
theorem en_are_bounds_of (a0 : D) (p : Pst) : F_are_bounds_of [a0] p = sres (c_are_bounds_of [some (.val a0), none] p) := rfl
theorem ip_are_bounds_of : IF F_are_bounds_of := if_fres _ _ (by
  unfold c_are_bounds_of
  try unfold m_are_bounds_of_1
  repeat' first | exact ip_is_bound_of | exact ip_is_list | with_reducible apply im_ret | with_reducible apply im_rd | with_reducible apply im_op | with_reducible apply im_cmp | with_reducible apply im_b | with_reducible apply im_cons | with_reducible apply ic_seq | with_reducible apply ic_if | with_reducible apply ic_ret | with_reducible apply ic_reto | with_reducible apply ic_retown | with_reducible apply ic_asg | with_reducible apply ic_aso | with_reducible apply ic_frz | with_reducible apply ic_asgW | with_reducible apply ic_app | with_reducible apply ic_pop | with_reducible apply ic_expr | with_reducible apply ic_skip | with_reducible apply ic_stuck | with_reducible apply ic_brk | with_reducible apply ic_cnt | with_reducible apply ic_retN | with_reducible apply ic_for | with_reducible apply ic_while | with_reducible apply it_name | with_reducible apply it_tup | with_reducible apply it_cons | with_reducible apply it_nil | with_reducible apply im_fn | with_reducible apply im_fno | with_reducible apply im_lc | with_reducible apply im_yes | with_reducible apply im_and | with_reducible apply im_or | with_reducible apply im_not | with_reducible apply im_if | with_reducible apply im_frz | with_reducible apply im_lim | with_reducible apply im_tup | with_reducible apply im_call | with_reducible apply im_lst | with_reducible apply im_isi | with_reducible apply im_isis | with_reducible apply im_isN | with_reducible apply im_notN | with_reducible apply im_chain | with_reducible apply im_seq | with_reducible apply im_range1 | with_reducible apply im_range2 | with_reducible apply im_enum | with_reducible apply im_zip | with_reducible apply im_t | with_reducible apply im_notV | with_reducible apply im_andV | with_reducible apply im_orV | with_reducible apply im_part | with_reducible apply im_sl | with_reducible apply im_slo | with_reducible apply im_rev | with_reducible apply im_uV | with_reducible apply im_uO | with_reducible apply im_un | with_reducible apply im_opo | with_reducible apply im_ixO | with_reducible apply im_scal | with_reducible apply im_scalt | with_reducible apply im_index | with_reducible apply im_lrg1 | with_reducible apply im_lrg2 | with_reducible apply ic_ext | with_reducible apply ic_asgT | with_reducible apply it_subO | with_reducible apply im_fnO | with_reducible apply im_fnOo | with_reducible apply im_zipS | with_reducible apply im_zipR | with_reducible apply im_rev2)
/-- check_bounds: slots 0 value -/
def N_check_bounds : List Str := ["value"]
def ps_check_bounds : List Str := ["value"]
def c_check_bounds : C := cif (mNot (mT (mFn F_are_bounds_of 1 0 [0] (mcons (rd 0) (mret [])) (mret [])))) (cstuck) (cskip)
def F_check_bounds : Fn := fres 1 1 c_check_bounds
theorem en_check_bounds (a0 : D) (p : Pst) : F_check_bounds [a0] p = sres (c_check_bounds [some (.val a0)] p) := rfl
theorem ip_check_bounds : IF F_check_bounds := if_fres _ _ (by
  unfold c_check_bounds
  repeat' first | exact ip_are_bounds_of | with_reducible apply im_ret | with_reducible apply im_rd | with_reducible apply im_op | with_reducible apply im_cmp | with_reducible apply im_b | with_reducible apply im_cons | with_reducible apply ic_seq | with_reducible apply ic_if | with_reducible apply ic_ret | with_reducible apply ic_reto | with_reducible apply ic_retown | with_reducible apply ic_asg | with_reducible apply ic_aso | with_reducible apply ic_frz | with_reducible apply ic_asgW | with_reducible apply ic_app | with_reducible apply ic_pop | with_reducible apply ic_expr | with_reducible apply ic_skip | with_reducible apply ic_stuck | with_reducible apply ic_brk | with_reducible apply ic_cnt | with_reducible apply ic_retN | with_reducible apply ic_for | with_reducible apply ic_while | with_reducible apply it_name | with_reducible apply it_tup | with_reducible apply it_cons | with_reducible apply it_nil | with_reducible apply im_fn | with_reducible apply im_fno | with_reducible apply im_lc | with_reducible apply im_yes | with_reducible apply im_and | with_reducible apply im_or | with_reducible apply im_not | with_reducible apply im_if | with_reducible apply im_frz | with_reducible apply im_lim | with_reducible apply im_tup | with_reducible apply im_call | with_reducible apply im_lst | with_reducible apply im_isi | with_reducible apply im_isis | with_reducible apply im_isN | with_reducible apply im_notN | with_reducible apply im_chain | with_reducible apply im_seq | with_reducible apply im_range1 | with_reducible apply im_range2 | with_reducible apply im_enum | with_reducible apply im_zip | with_reducible apply im_t | with_reducible apply im_notV | with_reducible apply im_andV | with_reducible apply im_orV | with_reducible apply im_part | with_reducible apply im_sl | with_reducible apply im_slo | with_reducible apply im_rev | with_reducible apply im_uV | with_reducible apply im_uO | with_reducible apply im_un | with_reducible apply im_opo | with_reducible apply im_ixO | with_reducible apply im_scal | with_reducible apply im_scalt | with_reducible apply im_index | with_reducible apply im_lrg1 | with_reducible apply im_lrg2 | with_reducible apply ic_ext | with_reducible apply ic_asgT | with_reducible apply it_subO | with_reducible apply im_fnO | with_reducible apply im_fnOo | with_reducible apply im_zipS | with_reducible apply im_zipR | with_reducible apply im_rev2)
/-- is_point_of: slots 0 value, 1 one -/
def N_is_point_of : List Str := ["value", "one"]
def ps_is_point_of : List Str := ["value"]
def m_is_point_of_1 : M (List D) := mLc [1] (mSeq (rd 0)) (fName 1) (mYes) (mFn F_is_within 3 0 [0, 1, 2] (mcons (rd 1) (mcons (mOp dSub (mret (.int 0)) (mret (.int 20))) (mcons (mret (.int 20)) (mret [])))) (mret []))
def c_is_point_of : C := cseq (cif (mOr (mNot (mT (mIsi .tuple (rd 0)))) (mCmp dNe (mCall dLen (mcons (rd 0) (mret []))) (mret (.int 2)))) (cret (mret (.bl false))) (cskip)) (cret (mCall dAll (mcons (mfrz (m_is_point_of_1)) (mret []))))
def F_is_point_of : Fn := fres 2 1 c_is_point_of
theorem en_is_point_of (a0 : D) (p : Pst) : F_is_point_of [a0] p = sres (c_is_point_of [some (.val a0), none] p) := rfl
theorem ip_is_point_of : IF F_is_point_of := if_fres _ _ (by
  unfold c_is_point_of
  try unfold m_is_point_of_1
  repeat' first | exact ip_is_within | with_reducible apply im_ret | with_reducible apply im_rd | with_reducible apply im_op | with_reducible apply im_cmp | with_reducible apply im_b | with_reducible apply im_cons | with_reducible apply ic_seq | with_reducible apply ic_if | with_reducible apply ic_ret | with_reducible apply ic_reto | with_reducible apply ic_retown | with_reducible apply ic_asg | with_reducible apply ic_aso | with_reducible apply ic_frz | with_reducible apply ic_asgW | with_reducible apply ic_app | with_reducible apply ic_pop | with_reducible apply ic_expr | with_reducible apply ic_skip | with_reducible apply ic_stuck | with_reducible apply ic_brk | with_reducible apply ic_cnt | with_reducible apply ic_retN | with_reducible apply ic_for | with_reducible apply ic_while | with_reducible apply it_name | with_reducible apply it_tup | with_reducible apply it_cons | with_reducible apply it_nil | with_reducible apply im_fn | with_reducible apply im_fno | with_reducible apply im_lc | with_reducible apply im_yes | with_reducible apply im_and | with_reducible apply im_or | with_reducible apply im_not | with_reducible apply im_if | with_reducible apply im_frz | with_reducible apply im_lim | with_reducible apply im_tup | with_reducible apply im_call | with_reducible apply im_lst | with_reducible apply im_isi | with_reducible apply im_isis | with_reducible apply im_isN | with_reducible apply im_notN | with_reducible apply im_chain | with_reducible apply im_seq | with_reducible apply im_range1 | with_reducible apply im_range2 | with_reducible apply im_enum | with_reducible apply im_zip | with_reducible apply im_t | with_reducible apply im_notV | with_reducible apply im_andV | with_reducible apply im_orV | with_reducible apply im_part | with_reducible apply im_sl | with_reducible apply im_slo | with_reducible apply im_rev | with_reducible apply im_uV | with_reducible apply im_uO | with_reducible apply im_un | with_reducible apply im_opo | with_reducible apply im_ixO | with_reducible apply im_scal | with_reducible apply im_scalt | with_reducible apply im_index | with_reducible apply im_lrg1 | with_reducible apply im_lrg2 | with_reducible apply ic_ext | with_reducible apply ic_asgT | with_reducible apply it_subO | with_reducible apply im_fnO | with_reducible apply im_fnOo | with_reducible apply im_zipS | with_reducible apply im_zipR | with_reducible apply im_rev2)
/-- all_columns: slots  -/
def N_all_columns : List Str := []
def ps_all_columns : List Str := []
def c_all_columns : C := creto (mLrg2 (mOp dSub (mret (.int 0)) (mret (.int 20))) (mOp dAdd (mret (.int 20)) (mret (.int 1))))
def F_all_columns : Fn := fres 0 0 c_all_columns
theorem en_all_columns (p : Pst) : F_all_columns [] p = sres (c_all_columns [] p) := rfl
theorem ip_all_columns : IF F_all_columns := if_fres _ _ (by
  unfold c_all_columns
  repeat' first | with_reducible apply im_ret | with_reducible apply im_rd | with_reducible apply im_op | with_reducible apply im_cmp | with_reducible apply im_b | with_reducible apply im_cons | with_reducible apply ic_seq | with_reducible apply ic_if | with_reducible apply ic_ret | with_reducible apply ic_reto | with_reducible apply ic_retown | with_reducible apply ic_asg | with_reducible apply ic_aso | with_reducible apply ic_frz | with_reducible apply ic_asgW | with_reducible apply ic_app | with_reducible apply ic_pop | with_reducible apply ic_expr | with_reducible apply ic_skip | with_reducible apply ic_stuck | with_reducible apply ic_brk | with_reducible apply ic_cnt | with_reducible apply ic_retN | with_reducible apply ic_for | with_reducible apply ic_while | with_reducible apply it_name | with_reducible apply it_tup | with_reducible apply it_cons | with_reducible apply it_nil | with_reducible apply im_fn | with_reducible apply im_fno | with_reducible apply im_lc | with_reducible apply im_yes | with_reducible apply im_and | with_reducible apply im_or | with_reducible apply im_not | with_reducible apply im_if | with_reducible apply im_frz | with_reducible apply im_lim | with_reducible apply im_tup | with_reducible apply im_call | with_reducible apply im_lst | with_reducible apply im_isi | with_reducible apply im_isis | with_reducible apply im_isN | with_reducible apply im_notN | with_reducible apply im_chain | with_reducible apply im_seq | with_reducible apply im_range1 | with_reducible apply im_range2 | with_reducible apply im_enum | with_reducible apply im_zip | with_reducible apply im_t | with_reducible apply im_notV | with_reducible apply im_andV | with_reducible apply im_orV | with_reducible apply im_part | with_reducible apply im_sl | with_reducible apply im_slo | with_reducible apply im_rev | with_reducible apply im_uV | with_reducible apply im_uO | with_reducible apply im_un | with_reducible apply im_opo | with_reducible apply im_ixO | with_reducible apply im_scal | with_reducible apply im_scalt | with_reducible apply im_index | with_reducible apply im_lrg1 | with_reducible apply im_lrg2 | with_reducible apply ic_ext | with_reducible apply ic_asgT | with_reducible apply it_subO | with_reducible apply im_fnO | with_reducible apply im_fnOo | with_reducible apply im_zipS | with_reducible apply im_zipR | with_reducible apply im_rev2)
/-- top_of: slots 0 bound, 1 x -/
def N_top_of : List Str := ["bound", "x"]
def ps_top_of : List Str := ["bound", "x"]
def c_top_of : C := cret (mOp dDiv (mOp dSub (mOp dIx (rd 0) (mret (.int 2))) (mOp dMul (mOp dIx (rd 0) (mret (.int 0))) (rd 1))) (mOp dIx (rd 0) (mret (.int 1))))
def F_top_of : Fn := fres 2 2 c_top_of
theorem en_top_of (a0 a1 : D) (p : Pst) : F_top_of [a0, a1] p = sres (c_top_of [some (.val a0), some (.val a1)] p) := rfl
theorem ip_top_of : IF F_top_of := if_fres _ _ (by
  unfold c_top_of
  repeat' first | with_reducible apply im_ret | with_reducible apply im_rd | with_reducible apply im_op | with_reducible apply im_cmp | with_reducible apply im_b | with_reducible apply im_cons | with_reducible apply ic_seq | with_reducible apply ic_if | with_reducible apply ic_ret | with_reducible apply ic_reto | with_reducible apply ic_retown | with_reducible apply ic_asg | with_reducible apply ic_aso | with_reducible apply ic_frz | with_reducible apply ic_asgW | with_reducible apply ic_app | with_reducible apply ic_pop | with_reducible apply ic_expr | with_reducible apply ic_skip | with_reducible apply ic_stuck | with_reducible apply ic_brk | with_reducible apply ic_cnt | with_reducible apply ic_retN | with_reducible apply ic_for | with_reducible apply ic_while | with_reducible apply it_name | with_reducible apply it_tup | with_reducible apply it_cons | with_reducible apply it_nil | with_reducible apply im_fn | with_reducible apply im_fno | with_reducible apply im_lc | with_reducible apply im_yes | with_reducible apply im_and | with_reducible apply im_or | with_reducible apply im_not | with_reducible apply im_if | with_reducible apply im_frz | with_reducible apply im_lim | with_reducible apply im_tup | with_reducible apply im_call | with_reducible apply im_lst | with_reducible apply im_isi | with_reducible apply im_isis | with_reducible apply im_isN | with_reducible apply im_notN | with_reducible apply im_chain | with_reducible apply im_seq | with_reducible apply im_range1 | with_reducible apply im_range2 | with_reducible apply im_enum | with_reducible apply im_zip | with_reducible apply im_t | with_reducible apply im_notV | with_reducible apply im_andV | with_reducible apply im_orV | with_reducible apply im_part | with_reducible apply im_sl | with_reducible apply im_slo | with_reducible apply im_rev | with_reducible apply im_uV | with_reducible apply im_uO | with_reducible apply im_un | with_reducible apply im_opo | with_reducible apply im_ixO | with_reducible apply im_scal | with_reducible apply im_scalt | with_reducible apply im_index | with_reducible apply im_lrg1 | with_reducible apply im_lrg2 | with_reducible apply ic_ext | with_reducible apply ic_asgT | with_reducible apply it_subO | with_reducible apply im_fnO | with_reducible apply im_fnOo | with_reducible apply im_zipS | with_reducible apply im_zipR | with_reducible apply im_rev2)
/-- floor_of: slots 0 bound, 1 x -/
def N_floor_of : List Str := ["bound", "x"]
def ps_floor_of : List Str := ["bound", "x"]
def c_floor_of : C := cret (mOp dSub (mret (.int 0)) (mOp dDiv (mOp dSub (mOp dIx (rd 0) (mret (.int 2))) (mOp dMul (mOp dIx (rd 0) (mret (.int 0))) (rd 1))) (mOp dSub (mret (.int 0)) (mOp dIx (rd 0) (mret (.int 1))))))
def F_floor_of : Fn := fres 2 2 c_floor_of
theorem en_floor_of (a0 a1 : D) (p : Pst) : F_floor_of [a0, a1] p = sres (c_floor_of [some (.val a0), some (.val a1)] p) := rfl
theorem ip_floor_of : IF F_floor_of := if_fres _ _ (by
  unfold c_floor_of
  repeat' first | with_reducible apply im_ret | with_reducible apply im_rd | with_reducible apply im_op | with_reducible apply im_cmp | with_reducible apply im_b | with_reducible apply im_cons | with_reducible apply ic_seq | with_reducible apply ic_if | with_reducible apply ic_ret | with_reducible apply ic_reto | with_reducible apply ic_retown | with_reducible apply ic_asg | with_reducible apply ic_aso | with_reducible apply ic_frz | with_reducible apply ic_asgW | with_reducible apply ic_app | with_reducible apply ic_pop | with_reducible apply ic_expr | with_reducible apply ic_skip | with_reducible apply ic_stuck | with_reducible apply ic_brk | with_reducible apply ic_cnt | with_reducible apply ic_retN | with_reducible apply ic_for | with_reducible apply ic_while | with_reducible apply it_name | with_reducible apply it_tup | with_reducible apply it_cons | with_reducible apply it_nil | with_reducible apply im_fn | with_reducible apply im_fno | with_reducible apply im_lc | with_reducible apply im_yes | with_reducible apply im_and | with_reducible apply im_or | with_reducible apply im_not | with_reducible apply im_if | with_reducible apply im_frz | with_reducible apply im_lim | with_reducible apply im_tup | with_reducible apply im_call | with_reducible apply im_lst | with_reducible apply im_isi | with_reducible apply im_isis | with_reducible apply im_isN | with_reducible apply im_notN | with_reducible apply im_chain | with_reducible apply im_seq | with_reducible apply im_range1 | with_reducible apply im_range2 | with_reducible apply im_enum | with_reducible apply im_zip | with_reducible apply im_t | with_reducible apply im_notV | with_reducible apply im_andV | with_reducible apply im_orV | with_reducible apply im_part | with_reducible apply im_sl | with_reducible apply im_slo | with_reducible apply im_rev | with_reducible apply im_uV | with_reducible apply im_uO | with_reducible apply im_un | with_reducible apply im_opo | with_reducible apply im_ixO | with_reducible apply im_scal | with_reducible apply im_scalt | with_reducible apply im_index | with_reducible apply im_lrg1 | with_reducible apply im_lrg2 | with_reducible apply ic_ext | with_reducible apply ic_asgT | with_reducible apply it_subO | with_reducible apply im_fnO | with_reducible apply im_fnOo | with_reducible apply im_zipS | with_reducible apply im_zipR | with_reducible apply im_rev2)
/-- is_out_at: slots 0 bound, 1 x -/
def N_is_out_at : List Str := ["bound", "x"]
def ps_is_out_at : List Str := ["bound", "x"]
def c_is_out_at : C := cseq (cif (mCmp dEq (mOp dIx (rd 0) (mret (.int 1))) (mret (.int 0))) (cret (mB (mCmp dGt (mOp dMul (mOp dIx (rd 0) (mret (.int 0))) (rd 1)) (mOp dIx (rd 0) (mret (.int 2)))))) (cskip)) (cret (mIf (mCmp dGt (mOp dIx (rd 0) (mret (.int 1))) (mret (.int 0))) (mB (mCmp dLt (mFn F_top_of 2 0 [0, 1] (mcons (rd 0) (mcons (rd 1) (mret []))) (mret [])) (mOp dSub (mret (.int 0)) (mret (.int 20))))) (mB (mCmp dGt (mFn F_floor_of 2 0 [0, 1] (mcons (rd 0) (mcons (rd 1) (mret []))) (mret [])) (mret (.int 20))))))
def F_is_out_at : Fn := fres 2 2 c_is_out_at
theorem en_is_out_at (a0 a1 : D) (p : Pst) : F_is_out_at [a0, a1] p = sres (c_is_out_at [some (.val a0), some (.val a1)] p) := rfl
theorem ip_is_out_at : IF F_is_out_at := if_fres _ _ (by
  unfold c_is_out_at
  repeat' first | exact ip_floor_of | exact ip_top_of | with_reducible apply im_ret | with_reducible apply im_rd | with_reducible apply im_op | with_reducible apply im_cmp | with_reducible apply im_b | with_reducible apply im_cons | with_reducible apply ic_seq | with_reducible apply ic_if | with_reducible apply ic_ret | with_reducible apply ic_reto | with_reducible apply ic_retown | with_reducible apply ic_asg | with_reducible apply ic_aso | with_reducible apply ic_frz | with_reducible apply ic_asgW | with_reducible apply ic_app | with_reducible apply ic_pop | with_reducible apply ic_expr | with_reducible apply ic_skip | with_reducible apply ic_stuck | with_reducible apply ic_brk | with_reducible apply ic_cnt | with_reducible apply ic_retN | with_reducible apply ic_for | with_reducible apply ic_while | with_reducible apply it_name | with_reducible apply it_tup | with_reducible apply it_cons | with_reducible apply it_nil | with_reducible apply im_fn | with_reducible apply im_fno | with_reducible apply im_lc | with_reducible apply im_yes | with_reducible apply im_and | with_reducible apply im_or | with_reducible apply im_not | with_reducible apply im_if | with_reducible apply im_frz | with_reducible apply im_lim | with_reducible apply im_tup | with_reducible apply im_call | with_reducible apply im_lst | with_reducible apply im_isi | with_reducible apply im_isis | with_reducible apply im_isN | with_reducible apply im_notN | with_reducible apply im_chain | with_reducible apply im_seq | with_reducible apply im_range1 | with_reducible apply im_range2 | with_reducible apply im_enum | with_reducible apply im_zip | with_reducible apply im_t | with_reducible apply im_notV | with_reducible apply im_andV | with_reducible apply im_orV | with_reducible apply im_part | with_reducible apply im_sl | with_reducible apply im_slo | with_reducible apply im_rev | with_reducible apply im_uV | with_reducible apply im_uO | with_reducible apply im_un | with_reducible apply im_opo | with_reducible apply im_ixO | with_reducible apply im_scal | with_reducible apply im_scalt | with_reducible apply im_index | with_reducible apply im_lrg1 | with_reducible apply im_lrg2 | with_reducible apply ic_ext | with_reducible apply ic_asgT | with_reducible apply it_subO | with_reducible apply im_fnO | with_reducible apply im_fnOo | with_reducible apply im_zipS | with_reducible apply im_zipR | with_reducible apply im_rev2)
/-- span_at: slots 0 bounds, 1 x, 2 floors, 3 tops, 4 bound -/
def N_span_at : List Str := ["bounds", "x", "floors", "tops", "bound"]
def ps_span_at : List Str := ["bounds", "x"]
def m_span_at_1 : M (List D) := mLc [4] (mSeq (rd 0)) (fName 4) (mCmp dLt (mOp dIx (rd 4) (mret (.int 1))) (mret (.int 0))) (mFn F_floor_of 2 0 [0, 1] (mcons (rd 4) (mcons (rd 1) (mret []))) (mret []))
def m_span_at_2 : M (List D) := mLc [4] (mSeq (rd 0)) (fName 4) (mCmp dGt (mOp dIx (rd 4) (mret (.int 1))) (mret (.int 0))) (mFn F_top_of 2 0 [0, 1] (mcons (rd 4) (mcons (rd 1) (mret []))) (mret []))
def c_span_at : C := cseq (casg 2 (mfrz (m_span_at_1))) (cseq (casg 3 (mfrz (m_span_at_2))) (cret (mtup (mcons (mCall dMax1 (mcons (mOp dAdd (mfrz (mlim (mcons (mOp dSub (mret (.int 0)) (mret (.int 20))) (mret [])))) (rd 2)) (mret []))) (mcons (mCall dMin1 (mcons (mOp dAdd (mfrz (mlim (mcons (mret (.int 20)) (mret [])))) (rd 3)) (mret []))) (mret []))))))
def F_span_at : Fn := fres 5 2 c_span_at
theorem en_span_at (a0 a1 : D) (p : Pst) : F_span_at [a0, a1] p = sres (c_span_at [some (.val a0), some (.val a1), none, none, none] p) := rfl
theorem ip_span_at : IF F_span_at := if_fres _ _ (by
  unfold c_span_at
  try unfold m_span_at_2
  try unfold m_span_at_1
  repeat' first | exact ip_floor_of | exact ip_top_of | with_reducible apply im_ret | with_reducible apply im_rd | with_reducible apply im_op | with_reducible apply im_cmp | with_reducible apply im_b | with_reducible apply im_cons | with_reducible apply ic_seq | with_reducible apply ic_if | with_reducible apply ic_ret | with_reducible apply ic_reto | with_reducible apply ic_retown | with_reducible apply ic_asg | with_reducible apply ic_aso | with_reducible apply ic_frz | with_reducible apply ic_asgW | with_reducible apply ic_app | with_reducible apply ic_pop | with_reducible apply ic_expr | with_reducible apply ic_skip | with_reducible apply ic_stuck | with_reducible apply ic_brk | with_reducible apply ic_cnt | with_reducible apply ic_retN | with_reducible apply ic_for | with_reducible apply ic_while | with_reducible apply it_name | with_reducible apply it_tup | with_reducible apply it_cons | with_reducible apply it_nil | with_reducible apply im_fn | with_reducible apply im_fno | with_reducible apply im_lc | with_reducible apply im_yes | with_reducible apply im_and | with_reducible apply im_or | with_reducible apply im_not | with_reducible apply im_if | with_reducible apply im_frz | with_reducible apply im_lim | with_reducible apply im_tup | with_reducible apply im_call | with_reducible apply im_lst | with_reducible apply im_isi | with_reducible apply im_isis | with_reducible apply im_isN | with_reducible apply im_notN | with_reducible apply im_chain | with_reducible apply im_seq | with_reducible apply im_range1 | with_reducible apply im_range2 | with_reducible apply im_enum | with_reducible apply im_zip | with_reducible apply im_t | with_reducible apply im_notV | with_reducible apply im_andV | with_reducible apply im_orV | with_reducible apply im_part | with_reducible apply im_sl | with_reducible apply im_slo | with_reducible apply im_rev | with_reducible apply im_uV | with_reducible apply im_uO | with_reducible apply im_un | with_reducible apply im_opo | with_reducible apply im_ixO | with_reducible apply im_scal | with_reducible apply im_scalt | with_reducible apply im_index | with_reducible apply im_lrg1 | with_reducible apply im_lrg2 | with_reducible apply ic_ext | with_reducible apply ic_asgT | with_reducible apply it_subO | with_reducible apply im_fnO | with_reducible apply im_fnOo | with_reducible apply im_zipS | with_reducible apply im_zipR | with_reducible apply im_rev2)
/-- points_at: slots 0 bounds, 1 x, 2 low, 3 high, 4 y, 5 bound -/
def N_points_at : List Str := ["bounds", "x", "low", "high", "y", "bound"]
def ps_points_at : List Str := ["bounds", "x"]
def m_points_at_1 : M (List D) := mLc [5] (mSeq (rd 0)) (fName 5) (mYes) (mFn F_is_out_at 2 0 [0, 1] (mcons (rd 5) (mcons (rd 1) (mret []))) (mret []))
def m_points_at_2 : M (List D) := mLc [4] (mRange2 (mcons (rd 2) (mcons (mOp dAdd (rd 3) (mret (.int 1))) (mret [])))) (fName 4) (mYes) (mtup (mcons (rd 1) (mcons (rd 4) (mret []))))
def c_points_at : C := cseq (cif (mT (mCall dAny (mcons (mfrz (m_points_at_1)) (mret [])))) (creto (mlim (mret []))) (cskip)) (cseq (casgT (tgTup 2 (tgCons (tgName 2) (tgCons (tgName 3) (tgNil)))) (mFn F_span_at 2 0 [0, 1] (mcons (rd 0) (mcons (rd 1) (mret []))) (mret []))) (creto (m_points_at_2)))
def F_points_at : Fn := fres 6 2 c_points_at
theorem en_points_at (a0 a1 : D) (p : Pst) : F_points_at [a0, a1] p = sres (c_points_at [some (.val a0), some (.val a1), none, none, none, none] p) := rfl
theorem ip_points_at : IF F_points_at := if_fres _ _ (by
  unfold c_points_at
  try unfold m_points_at_2
  try unfold m_points_at_1
  repeat' first | exact ip_is_out_at | exact ip_span_at | with_reducible apply im_ret | with_reducible apply im_rd | with_reducible apply im_op | with_reducible apply im_cmp | with_reducible apply im_b | with_reducible apply im_cons | with_reducible apply ic_seq | with_reducible apply ic_if | with_reducible apply ic_ret | with_reducible apply ic_reto | with_reducible apply ic_retown | with_reducible apply ic_asg | with_reducible apply ic_aso | with_reducible apply ic_frz | with_reducible apply ic_asgW | with_reducible apply ic_app | with_reducible apply ic_pop | with_reducible apply ic_expr | with_reducible apply ic_skip | with_reducible apply ic_stuck | with_reducible apply ic_brk | with_reducible apply ic_cnt | with_reducible apply ic_retN | with_reducible apply ic_for | with_reducible apply ic_while | with_reducible apply it_name | with_reducible apply it_tup | with_reducible apply it_cons | with_reducible apply it_nil | with_reducible apply im_fn | with_reducible apply im_fno | with_reducible apply im_lc | with_reducible apply im_yes | with_reducible apply im_and | with_reducible apply im_or | with_reducible apply im_not | with_reducible apply im_if | with_reducible apply im_frz | with_reducible apply im_lim | with_reducible apply im_tup | with_reducible apply im_call | with_reducible apply im_lst | with_reducible apply im_isi | with_reducible apply im_isis | with_reducible apply im_isN | with_reducible apply im_notN | with_reducible apply im_chain | with_reducible apply im_seq | with_reducible apply im_range1 | with_reducible apply im_range2 | with_reducible apply im_enum | with_reducible apply im_zip | with_reducible apply im_t | with_reducible apply im_notV | with_reducible apply im_andV | with_reducible apply im_orV | with_reducible apply im_part | with_reducible apply im_sl | with_reducible apply im_slo | with_reducible apply im_rev | with_reducible apply im_uV | with_reducible apply im_uO | with_reducible apply im_un | with_reducible apply im_opo | with_reducible apply im_ixO | with_reducible apply im_scal | with_reducible apply im_scalt | with_reducible apply im_index | with_reducible apply im_lrg1 | with_reducible apply im_lrg2 | with_reducible apply ic_ext | with_reducible apply ic_asgT | with_reducible apply it_subO | with_reducible apply im_fnO | with_reducible apply im_fnOo | with_reducible apply im_zipS | with_reducible apply im_zipR | with_reducible apply im_rev2)
/-- points_of: slots 0 bounds, 1 found, 2 x -/
def N_points_of : List Str := ["bounds", "found", "x"]
def ps_points_of : List Str := ["bounds"]
def b_points_of_1 : C := cext 1 (mFn F_points_at 2 0 [0, 1] (mcons (rd 0) (mcons (rd 2) (mret []))) (mret []))
def c_points_of : C := cseq (caso 1 (mlim (mret []))) (cseq (cfor (mSeq (mFn F_all_columns 0 0 [] (mret []) (mret []))) (tgName 2) (b_points_of_1)) (cretown 1))
def F_points_of : Fn := fres 3 1 c_points_of
theorem en_points_of (a0 : D) (p : Pst) : F_points_of [a0] p = sres (c_points_of [some (.val a0), none, none] p) := rfl
theorem ip_points_of : IF F_points_of := if_fres _ _ (by
  unfold c_points_of
  try unfold b_points_of_1
  repeat' first | exact ip_all_columns | exact ip_points_at | with_reducible apply im_ret | with_reducible apply im_rd | with_reducible apply im_op | with_reducible apply im_cmp | with_reducible apply im_b | with_reducible apply im_cons | with_reducible apply ic_seq | with_reducible apply ic_if | with_reducible apply ic_ret | with_reducible apply ic_reto | with_reducible apply ic_retown | with_reducible apply ic_asg | with_reducible apply ic_aso | with_reducible apply ic_frz | with_reducible apply ic_asgW | with_reducible apply ic_app | with_reducible apply ic_pop | with_reducible apply ic_expr | with_reducible apply ic_skip | with_reducible apply ic_stuck | with_reducible apply ic_brk | with_reducible apply ic_cnt | with_reducible apply ic_retN | with_reducible apply ic_for | with_reducible apply ic_while | with_reducible apply it_name | with_reducible apply it_tup | with_reducible apply it_cons | with_reducible apply it_nil | with_reducible apply im_fn | with_reducible apply im_fno | with_reducible apply im_lc | with_reducible apply im_yes | with_reducible apply im_and | with_reducible apply im_or | with_reducible apply im_not | with_reducible apply im_if | with_reducible apply im_frz | with_reducible apply im_lim | with_reducible apply im_tup | with_reducible apply im_call | with_reducible apply im_lst | with_reducible apply im_isi | with_reducible apply im_isis | with_reducible apply im_isN | with_reducible apply im_notN | with_reducible apply im_chain | with_reducible apply im_seq | with_reducible apply im_range1 | with_reducible apply im_range2 | with_reducible apply im_enum | with_reducible apply im_zip | with_reducible apply im_t | with_reducible apply im_notV | with_reducible apply im_andV | with_reducible apply im_orV | with_reducible apply im_part | with_reducible apply im_sl | with_reducible apply im_slo | with_reducible apply im_rev | with_reducible apply im_uV | with_reducible apply im_uO | with_reducible apply im_un | with_reducible apply im_opo | with_reducible apply im_ixO | with_reducible apply im_scal | with_reducible apply im_scalt | with_reducible apply im_index | with_reducible apply im_lrg1 | with_reducible apply im_lrg2 | with_reducible apply ic_ext | with_reducible apply ic_asgT | with_reducible apply it_subO | with_reducible apply im_fnO | with_reducible apply im_fnOo | with_reducible apply im_zipS | with_reducible apply im_zipR | with_reducible apply im_rev2)
/-- have_none: slots 0 bounds, 1 places, 2 place -/
def N_have_none : List Str := ["bounds", "places", "place"]
def ps_have_none : List Str := ["bounds", "places"]
def m_have_none_1 : M (List D) := mLc [2] (mSeq (rd 1)) (fName 2) (mYes) (mOp dIx (rd 0) (rd 2))
def c_have_none : C := cret (mB (mCmp dEq (mFn F_points_of 1 0 [0] (mcons (mfrz (m_have_none_1)) (mret [])) (mret [])) (mfrz (mlim (mret [])))))
def F_have_none : Fn := fres 3 2 c_have_none
theorem en_have_none (a0 a1 : D) (p : Pst) : F_have_none [a0, a1] p = sres (c_have_none [some (.val a0), some (.val a1), none] p) := rfl
theorem ip_have_none : IF F_have_none := if_fres _ _ (by
  unfold c_have_none
  try unfold m_have_none_1
  repeat' first | exact ip_points_of | with_reducible apply im_ret | with_reducible apply im_rd | with_reducible apply im_op | with_reducible apply im_cmp | with_reducible apply im_b | with_reducible apply im_cons | with_reducible apply ic_seq | with_reducible apply ic_if | with_reducible apply ic_ret | with_reducible apply ic_reto | with_reducible apply ic_retown | with_reducible apply ic_asg | with_reducible apply ic_aso | with_reducible apply ic_frz | with_reducible apply ic_asgW | with_reducible apply ic_app | with_reducible apply ic_pop | with_reducible apply ic_expr | with_reducible apply ic_skip | with_reducible apply ic_stuck | with_reducible apply ic_brk | with_reducible apply ic_cnt | with_reducible apply ic_retN | with_reducible apply ic_for | with_reducible apply ic_while | with_reducible apply it_name | with_reducible apply it_tup | with_reducible apply it_cons | with_reducible apply it_nil | with_reducible apply im_fn | with_reducible apply im_fno | with_reducible apply im_lc | with_reducible apply im_yes | with_reducible apply im_and | with_reducible apply im_or | with_reducible apply im_not | with_reducible apply im_if | with_reducible apply im_frz | with_reducible apply im_lim | with_reducible apply im_tup | with_reducible apply im_call | with_reducible apply im_lst | with_reducible apply im_isi | with_reducible apply im_isis | with_reducible apply im_isN | with_reducible apply im_notN | with_reducible apply im_chain | with_reducible apply im_seq | with_reducible apply im_range1 | with_reducible apply im_range2 | with_reducible apply im_enum | with_reducible apply im_zip | with_reducible apply im_t | with_reducible apply im_notV | with_reducible apply im_andV | with_reducible apply im_orV | with_reducible apply im_part | with_reducible apply im_sl | with_reducible apply im_slo | with_reducible apply im_rev | with_reducible apply im_uV | with_reducible apply im_uO | with_reducible apply im_un | with_reducible apply im_opo | with_reducible apply im_ixO | with_reducible apply im_scal | with_reducible apply im_scalt | with_reducible apply im_index | with_reducible apply im_lrg1 | with_reducible apply im_lrg2 | with_reducible apply ic_ext | with_reducible apply ic_asgT | with_reducible apply it_subO | with_reducible apply im_fnO | with_reducible apply im_fnOo | with_reducible apply im_zipS | with_reducible apply im_zipR | with_reducible apply im_rev2)
/-- is_within_bounds: slots 0 bounds, 1 point, 2 a, 3 b, 4 c -/
def N_is_within_bounds : List Str := ["bounds", "point", "a", "b", "c"]
def ps_is_within_bounds : List Str := ["bounds", "point"]
def m_is_within_bounds_1 : M (List D) := mLc [2, 3, 4] (mSeq (rd 0)) (fTup (fCons (fName 2) (fCons (fName 3) (fCons (fName 4) (fNil))))) (mYes) (mB (mCmp dLe (mOp dAdd (mOp dMul (rd 2) (mOp dIx (rd 1) (mret (.int 0)))) (mOp dMul (rd 3) (mOp dIx (rd 1) (mret (.int 1))))) (rd 4)))
def c_is_within_bounds : C := cseq (cexpr (mFn F_check_bounds 1 0 [0] (mcons (rd 0) (mret [])) (mret []))) (cseq (cif (mNot (mT (mFn F_is_point_of 1 0 [0] (mcons (rd 1) (mret [])) (mret [])))) (cstuck) (cskip)) (cret (mCall dAll (mcons (mfrz (m_is_within_bounds_1)) (mret [])))))
def F_is_within_bounds : Fn := fres 5 2 c_is_within_bounds
theorem en_is_within_bounds (a0 a1 : D) (p : Pst) : F_is_within_bounds [a0, a1] p = sres (c_is_within_bounds [some (.val a0), some (.val a1), none, none, none] p) := rfl
theorem ip_is_within_bounds : IF F_is_within_bounds := if_fres _ _ (by
  unfold c_is_within_bounds
  try unfold m_is_within_bounds_1
  repeat' first | exact ip_check_bounds | exact ip_is_point_of | with_reducible apply im_ret | with_reducible apply im_rd | with_reducible apply im_op | with_reducible apply im_cmp | with_reducible apply im_b | with_reducible apply im_cons | with_reducible apply ic_seq | with_reducible apply ic_if | with_reducible apply ic_ret | with_reducible apply ic_reto | with_reducible apply ic_retown | with_reducible apply ic_asg | with_reducible apply ic_aso | with_reducible apply ic_frz | with_reducible apply ic_asgW | with_reducible apply ic_app | with_reducible apply ic_pop | with_reducible apply ic_expr | with_reducible apply ic_skip | with_reducible apply ic_stuck | with_reducible apply ic_brk | with_reducible apply ic_cnt | with_reducible apply ic_retN | with_reducible apply ic_for | with_reducible apply ic_while | with_reducible apply it_name | with_reducible apply it_tup | with_reducible apply it_cons | with_reducible apply it_nil | with_reducible apply im_fn | with_reducible apply im_fno | with_reducible apply im_lc | with_reducible apply im_yes | with_reducible apply im_and | with_reducible apply im_or | with_reducible apply im_not | with_reducible apply im_if | with_reducible apply im_frz | with_reducible apply im_lim | with_reducible apply im_tup | with_reducible apply im_call | with_reducible apply im_lst | with_reducible apply im_isi | with_reducible apply im_isis | with_reducible apply im_isN | with_reducible apply im_notN | with_reducible apply im_chain | with_reducible apply im_seq | with_reducible apply im_range1 | with_reducible apply im_range2 | with_reducible apply im_enum | with_reducible apply im_zip | with_reducible apply im_t | with_reducible apply im_notV | with_reducible apply im_andV | with_reducible apply im_orV | with_reducible apply im_part | with_reducible apply im_sl | with_reducible apply im_slo | with_reducible apply im_rev | with_reducible apply im_uV | with_reducible apply im_uO | with_reducible apply im_un | with_reducible apply im_opo | with_reducible apply im_ixO | with_reducible apply im_scal | with_reducible apply im_scalt | with_reducible apply im_index | with_reducible apply im_lrg1 | with_reducible apply im_lrg2 | with_reducible apply ic_ext | with_reducible apply ic_asgT | with_reducible apply it_subO | with_reducible apply im_fnO | with_reducible apply im_fnOo | with_reducible apply im_zipS | with_reducible apply im_zipR | with_reducible apply im_rev2)
/-- least_point: slots 0 bounds, 1 found -/
def N_least_point : List Str := ["bounds", "found"]
def ps_least_point : List Str := ["bounds"]
def c_least_point : C := cseq (cexpr (mFn F_check_bounds 1 0 [0] (mcons (rd 0) (mret [])) (mret []))) (cseq (casg 1 (mFn F_points_of 1 0 [0] (mcons (rd 0) (mret [])) (mret []))) (cret (mIf (mCmp dNe (rd 1) (mfrz (mlim (mret [])))) (mOp dIx (rd 1) (mret (.int 0))) (mret .non))))
def F_least_point : Fn := fres 2 1 c_least_point
theorem en_least_point (a0 : D) (p : Pst) : F_least_point [a0] p = sres (c_least_point [some (.val a0), none] p) := rfl
theorem ip_least_point : IF F_least_point := if_fres _ _ (by
  unfold c_least_point
  repeat' first | exact ip_check_bounds | exact ip_points_of | with_reducible apply im_ret | with_reducible apply im_rd | with_reducible apply im_op | with_reducible apply im_cmp | with_reducible apply im_b | with_reducible apply im_cons | with_reducible apply ic_seq | with_reducible apply ic_if | with_reducible apply ic_ret | with_reducible apply ic_reto | with_reducible apply ic_retown | with_reducible apply ic_asg | with_reducible apply ic_aso | with_reducible apply ic_frz | with_reducible apply ic_asgW | with_reducible apply ic_app | with_reducible apply ic_pop | with_reducible apply ic_expr | with_reducible apply ic_skip | with_reducible apply ic_stuck | with_reducible apply ic_brk | with_reducible apply ic_cnt | with_reducible apply ic_retN | with_reducible apply ic_for | with_reducible apply ic_while | with_reducible apply it_name | with_reducible apply it_tup | with_reducible apply it_cons | with_reducible apply it_nil | with_reducible apply im_fn | with_reducible apply im_fno | with_reducible apply im_lc | with_reducible apply im_yes | with_reducible apply im_and | with_reducible apply im_or | with_reducible apply im_not | with_reducible apply im_if | with_reducible apply im_frz | with_reducible apply im_lim | with_reducible apply im_tup | with_reducible apply im_call | with_reducible apply im_lst | with_reducible apply im_isi | with_reducible apply im_isis | with_reducible apply im_isN | with_reducible apply im_notN | with_reducible apply im_chain | with_reducible apply im_seq | with_reducible apply im_range1 | with_reducible apply im_range2 | with_reducible apply im_enum | with_reducible apply im_zip | with_reducible apply im_t | with_reducible apply im_notV | with_reducible apply im_andV | with_reducible apply im_orV | with_reducible apply im_part | with_reducible apply im_sl | with_reducible apply im_slo | with_reducible apply im_rev | with_reducible apply im_uV | with_reducible apply im_uO | with_reducible apply im_un | with_reducible apply im_opo | with_reducible apply im_ixO | with_reducible apply im_scal | with_reducible apply im_scalt | with_reducible apply im_index | with_reducible apply im_lrg1 | with_reducible apply im_lrg2 | with_reducible apply ic_ext | with_reducible apply ic_asgT | with_reducible apply it_subO | with_reducible apply im_fnO | with_reducible apply im_fnOo | with_reducible apply im_zipS | with_reducible apply im_zipR | with_reducible apply im_rev2)
/-- count_points: slots 0 bounds -/
def N_count_points : List Str := ["bounds"]
def ps_count_points : List Str := ["bounds"]
def c_count_points : C := cseq (cexpr (mFn F_check_bounds 1 0 [0] (mcons (rd 0) (mret [])) (mret []))) (cret (mCall dLen (mcons (mFn F_points_of 1 0 [0] (mcons (rd 0) (mret [])) (mret [])) (mret []))))
def F_count_points : Fn := fres 1 1 c_count_points
theorem en_count_points (a0 : D) (p : Pst) : F_count_points [a0] p = sres (c_count_points [some (.val a0)] p) := rfl
theorem ip_count_points : IF F_count_points := if_fres _ _ (by
  unfold c_count_points
  repeat' first | exact ip_check_bounds | exact ip_points_of | with_reducible apply im_ret | with_reducible apply im_rd | with_reducible apply im_op | with_reducible apply im_cmp | with_reducible apply im_b | with_reducible apply im_cons | with_reducible apply ic_seq | with_reducible apply ic_if | with_reducible apply ic_ret | with_reducible apply ic_reto | with_reducible apply ic_retown | with_reducible apply ic_asg | with_reducible apply ic_aso | with_reducible apply ic_frz | with_reducible apply ic_asgW | with_reducible apply ic_app | with_reducible apply ic_pop | with_reducible apply ic_expr | with_reducible apply ic_skip | with_reducible apply ic_stuck | with_reducible apply ic_brk | with_reducible apply ic_cnt | with_reducible apply ic_retN | with_reducible apply ic_for | with_reducible apply ic_while | with_reducible apply it_name | with_reducible apply it_tup | with_reducible apply it_cons | with_reducible apply it_nil | with_reducible apply im_fn | with_reducible apply im_fno | with_reducible apply im_lc | with_reducible apply im_yes | with_reducible apply im_and | with_reducible apply im_or | with_reducible apply im_not | with_reducible apply im_if | with_reducible apply im_frz | with_reducible apply im_lim | with_reducible apply im_tup | with_reducible apply im_call | with_reducible apply im_lst | with_reducible apply im_isi | with_reducible apply im_isis | with_reducible apply im_isN | with_reducible apply im_notN | with_reducible apply im_chain | with_reducible apply im_seq | with_reducible apply im_range1 | with_reducible apply im_range2 | with_reducible apply im_enum | with_reducible apply im_zip | with_reducible apply im_t | with_reducible apply im_notV | with_reducible apply im_andV | with_reducible apply im_orV | with_reducible apply im_part | with_reducible apply im_sl | with_reducible apply im_slo | with_reducible apply im_rev | with_reducible apply im_uV | with_reducible apply im_uO | with_reducible apply im_un | with_reducible apply im_opo | with_reducible apply im_ixO | with_reducible apply im_scal | with_reducible apply im_scalt | with_reducible apply im_index | with_reducible apply im_lrg1 | with_reducible apply im_lrg2 | with_reducible apply ic_ext | with_reducible apply ic_asgT | with_reducible apply it_subO | with_reducible apply im_fnO | with_reducible apply im_fnOo | with_reducible apply im_zipS | with_reducible apply im_zipR | with_reducible apply im_rev2)
/-- few_bar: slots 0 bounds, 1 many, 2 places -/
def N_few_bar : List Str := ["bounds", "many", "places"]
def ps_few_bar : List Str := ["bounds"]
def b_few_bar_1 : C := cif (mT (mFn F_have_none 2 0 [0, 1] (mcons (rd 0) (mcons (rd 2) (mret []))) (mret []))) (cret (rd 2)) (cskip)
def b_few_bar_2 : C := cfor (mSeq (mFn F_picks_of 2 0 [0, 1] (mcons (mCall dLen (mcons (rd 0) (mret []))) (mcons (rd 1) (mret []))) (mret []))) (tgName 2) (b_few_bar_1)
def c_few_bar : C := cseq (cexpr (mFn F_check_bounds 1 0 [0] (mcons (rd 0) (mret [])) (mret []))) (cseq (cfor (mRange2 (mcons (mret (.int 1)) (mcons (mOp dAdd (mCall dMin2 (mcons (mret (.int 4)) (mcons (mCall dLen (mcons (rd 0) (mret []))) (mret [])))) (mret (.int 1))) (mret [])))) (tgName 1) (b_few_bar_2)) (cret (mret .non)))
def F_few_bar : Fn := fres 3 1 c_few_bar
theorem en_few_bar (a0 : D) (p : Pst) : F_few_bar [a0] p = sres (c_few_bar [some (.val a0), none, none] p) := rfl
theorem ip_few_bar : IF F_few_bar := if_fres _ _ (by
  unfold c_few_bar
  try unfold b_few_bar_2
  try unfold b_few_bar_1
  repeat' first | exact ip_check_bounds | exact ip_have_none | exact ip_picks_of | with_reducible apply im_ret | with_reducible apply im_rd | with_reducible apply im_op | with_reducible apply im_cmp | with_reducible apply im_b | with_reducible apply im_cons | with_reducible apply ic_seq | with_reducible apply ic_if | with_reducible apply ic_ret | with_reducible apply ic_reto | with_reducible apply ic_retown | with_reducible apply ic_asg | with_reducible apply ic_aso | with_reducible apply ic_frz | with_reducible apply ic_asgW | with_reducible apply ic_app | with_reducible apply ic_pop | with_reducible apply ic_expr | with_reducible apply ic_skip | with_reducible apply ic_stuck | with_reducible apply ic_brk | with_reducible apply ic_cnt | with_reducible apply ic_retN | with_reducible apply ic_for | with_reducible apply ic_while | with_reducible apply it_name | with_reducible apply it_tup | with_reducible apply it_cons | with_reducible apply it_nil | with_reducible apply im_fn | with_reducible apply im_fno | with_reducible apply im_lc | with_reducible apply im_yes | with_reducible apply im_and | with_reducible apply im_or | with_reducible apply im_not | with_reducible apply im_if | with_reducible apply im_frz | with_reducible apply im_lim | with_reducible apply im_tup | with_reducible apply im_call | with_reducible apply im_lst | with_reducible apply im_isi | with_reducible apply im_isis | with_reducible apply im_isN | with_reducible apply im_notN | with_reducible apply im_chain | with_reducible apply im_seq | with_reducible apply im_range1 | with_reducible apply im_range2 | with_reducible apply im_enum | with_reducible apply im_zip | with_reducible apply im_t | with_reducible apply im_notV | with_reducible apply im_andV | with_reducible apply im_orV | with_reducible apply im_part | with_reducible apply im_sl | with_reducible apply im_slo | with_reducible apply im_rev | with_reducible apply im_uV | with_reducible apply im_uO | with_reducible apply im_un | with_reducible apply im_opo | with_reducible apply im_ixO | with_reducible apply im_scal | with_reducible apply im_scalt | with_reducible apply im_index | with_reducible apply im_lrg1 | with_reducible apply im_lrg2 | with_reducible apply ic_ext | with_reducible apply ic_asgT | with_reducible apply it_subO | with_reducible apply im_fnO | with_reducible apply im_fnOo | with_reducible apply im_zipS | with_reducible apply im_zipR | with_reducible apply im_rev2)
/-- check_wish: slots 0 bounds, 1 wish, 2 one -/
def N_check_wish : List Str := ["bounds", "wish", "one"]
def ps_check_wish : List Str := ["bounds", "wish"]
def m_check_wish_1 : M (List D) := mLc [2] (mSeq (rd 1)) (fName 2) (mYes) (mFn F_is_within 3 0 [0, 1, 2] (mcons (rd 2) (mcons (mOp dSub (mret (.int 0)) (mret (.int 99))) (mcons (mret (.int 99)) (mret [])))) (mret []))
def c_check_wish : C := cseq (cexpr (mFn F_check_bounds 1 0 [0] (mcons (rd 0) (mret [])) (mret []))) (cseq (cif (mOr (mNot (mT (mIsi .tuple (rd 1)))) (mCmp dNe (mCall dLen (mcons (rd 1) (mret []))) (mret (.int 2)))) (cstuck) (cskip)) (cif (mNot (mT (mCall dAll (mcons (mfrz (m_check_wish_1)) (mret []))))) (cstuck) (cskip)))
def F_check_wish : Fn := fres 3 2 c_check_wish
theorem en_check_wish (a0 a1 : D) (p : Pst) : F_check_wish [a0, a1] p = sres (c_check_wish [some (.val a0), some (.val a1), none] p) := rfl
theorem ip_check_wish : IF F_check_wish := if_fres _ _ (by
  unfold c_check_wish
  try unfold m_check_wish_1
  repeat' first | exact ip_check_bounds | exact ip_is_within | with_reducible apply im_ret | with_reducible apply im_rd | with_reducible apply im_op | with_reducible apply im_cmp | with_reducible apply im_b | with_reducible apply im_cons | with_reducible apply ic_seq | with_reducible apply ic_if | with_reducible apply ic_ret | with_reducible apply ic_reto | with_reducible apply ic_retown | with_reducible apply ic_asg | with_reducible apply ic_aso | with_reducible apply ic_frz | with_reducible apply ic_asgW | with_reducible apply ic_app | with_reducible apply ic_pop | with_reducible apply ic_expr | with_reducible apply ic_skip | with_reducible apply ic_stuck | with_reducible apply ic_brk | with_reducible apply ic_cnt | with_reducible apply ic_retN | with_reducible apply ic_for | with_reducible apply ic_while | with_reducible apply it_name | with_reducible apply it_tup | with_reducible apply it_cons | with_reducible apply it_nil | with_reducible apply im_fn | with_reducible apply im_fno | with_reducible apply im_lc | with_reducible apply im_yes | with_reducible apply im_and | with_reducible apply im_or | with_reducible apply im_not | with_reducible apply im_if | with_reducible apply im_frz | with_reducible apply im_lim | with_reducible apply im_tup | with_reducible apply im_call | with_reducible apply im_lst | with_reducible apply im_isi | with_reducible apply im_isis | with_reducible apply im_isN | with_reducible apply im_notN | with_reducible apply im_chain | with_reducible apply im_seq | with_reducible apply im_range1 | with_reducible apply im_range2 | with_reducible apply im_enum | with_reducible apply im_zip | with_reducible apply im_t | with_reducible apply im_notV | with_reducible apply im_andV | with_reducible apply im_orV | with_reducible apply im_part | with_reducible apply im_sl | with_reducible apply im_slo | with_reducible apply im_rev | with_reducible apply im_uV | with_reducible apply im_uO | with_reducible apply im_un | with_reducible apply im_opo | with_reducible apply im_ixO | with_reducible apply im_scal | with_reducible apply im_scalt | with_reducible apply im_index | with_reducible apply im_lrg1 | with_reducible apply im_lrg2 | with_reducible apply ic_ext | with_reducible apply ic_asgT | with_reducible apply it_subO | with_reducible apply im_fnO | with_reducible apply im_fnOo | with_reducible apply im_zipS | with_reducible apply im_zipR | with_reducible apply im_rev2)
/-- want_points: slots 0 bounds, 1 wish, 2 found -/
def N_want_points : List Str := ["bounds", "wish", "found"]
def ps_want_points : List Str := ["bounds", "wish"]
def c_want_points : C := cseq (cexpr (mFn F_check_wish 2 0 [0, 1] (mcons (rd 0) (mcons (rd 1) (mret []))) (mret []))) (cseq (casg 2 (mFn F_points_of 1 0 [0] (mcons (rd 0) (mret [])) (mret []))) (cseq (cif (mCmp dEq (rd 2) (mfrz (mlim (mret [])))) (cstuck) (cskip)) (cret (rd 2))))
def F_want_points : Fn := fres 3 2 c_want_points
theorem en_want_points (a0 a1 : D) (p : Pst) : F_want_points [a0, a1] p = sres (c_want_points [some (.val a0), some (.val a1), none] p) := rfl
theorem ip_want_points : IF F_want_points := if_fres _ _ (by
  unfold c_want_points
  repeat' first | exact ip_check_wish | exact ip_points_of | with_reducible apply im_ret | with_reducible apply im_rd | with_reducible apply im_op | with_reducible apply im_cmp | with_reducible apply im_b | with_reducible apply im_cons | with_reducible apply ic_seq | with_reducible apply ic_if | with_reducible apply ic_ret | with_reducible apply ic_reto | with_reducible apply ic_retown | with_reducible apply ic_asg | with_reducible apply ic_aso | with_reducible apply ic_frz | with_reducible apply ic_asgW | with_reducible apply ic_app | with_reducible apply ic_pop | with_reducible apply ic_expr | with_reducible apply ic_skip | with_reducible apply ic_stuck | with_reducible apply ic_brk | with_reducible apply ic_cnt | with_reducible apply ic_retN | with_reducible apply ic_for | with_reducible apply ic_while | with_reducible apply it_name | with_reducible apply it_tup | with_reducible apply it_cons | with_reducible apply it_nil | with_reducible apply im_fn | with_reducible apply im_fno | with_reducible apply im_lc | with_reducible apply im_yes | with_reducible apply im_and | with_reducible apply im_or | with_reducible apply im_not | with_reducible apply im_if | with_reducible apply im_frz | with_reducible apply im_lim | with_reducible apply im_tup | with_reducible apply im_call | with_reducible apply im_lst | with_reducible apply im_isi | with_reducible apply im_isis | with_reducible apply im_isN | with_reducible apply im_notN | with_reducible apply im_chain | with_reducible apply im_seq | with_reducible apply im_range1 | with_reducible apply im_range2 | with_reducible apply im_enum | with_reducible apply im_zip | with_reducible apply im_t | with_reducible apply im_notV | with_reducible apply im_andV | with_reducible apply im_orV | with_reducible apply im_part | with_reducible apply im_sl | with_reducible apply im_slo | with_reducible apply im_rev | with_reducible apply im_uV | with_reducible apply im_uO | with_reducible apply im_un | with_reducible apply im_opo | with_reducible apply im_ixO | with_reducible apply im_scal | with_reducible apply im_scalt | with_reducible apply im_index | with_reducible apply im_lrg1 | with_reducible apply im_lrg2 | with_reducible apply ic_ext | with_reducible apply ic_asgT | with_reducible apply it_subO | with_reducible apply im_fnO | with_reducible apply im_fnOo | with_reducible apply im_zipS | with_reducible apply im_zipR | with_reducible apply im_rev2)
/-- worth_at: slots 0 wish, 1 point -/
def N_worth_at : List Str := ["wish", "point"]
def ps_worth_at : List Str := ["wish", "point"]
def c_worth_at : C := cret (mOp dAdd (mOp dMul (mOp dIx (rd 0) (mret (.int 0))) (mOp dIx (rd 1) (mret (.int 0)))) (mOp dMul (mOp dIx (rd 0) (mret (.int 1))) (mOp dIx (rd 1) (mret (.int 1)))))
def F_worth_at : Fn := fres 2 2 c_worth_at
theorem en_worth_at (a0 a1 : D) (p : Pst) : F_worth_at [a0, a1] p = sres (c_worth_at [some (.val a0), some (.val a1)] p) := rfl
theorem ip_worth_at : IF F_worth_at := if_fres _ _ (by
  unfold c_worth_at
  repeat' first | with_reducible apply im_ret | with_reducible apply im_rd | with_reducible apply im_op | with_reducible apply im_cmp | with_reducible apply im_b | with_reducible apply im_cons | with_reducible apply ic_seq | with_reducible apply ic_if | with_reducible apply ic_ret | with_reducible apply ic_reto | with_reducible apply ic_retown | with_reducible apply ic_asg | with_reducible apply ic_aso | with_reducible apply ic_frz | with_reducible apply ic_asgW | with_reducible apply ic_app | with_reducible apply ic_pop | with_reducible apply ic_expr | with_reducible apply ic_skip | with_reducible apply ic_stuck | with_reducible apply ic_brk | with_reducible apply ic_cnt | with_reducible apply ic_retN | with_reducible apply ic_for | with_reducible apply ic_while | with_reducible apply it_name | with_reducible apply it_tup | with_reducible apply it_cons | with_reducible apply it_nil | with_reducible apply im_fn | with_reducible apply im_fno | with_reducible apply im_lc | with_reducible apply im_yes | with_reducible apply im_and | with_reducible apply im_or | with_reducible apply im_not | with_reducible apply im_if | with_reducible apply im_frz | with_reducible apply im_lim | with_reducible apply im_tup | with_reducible apply im_call | with_reducible apply im_lst | with_reducible apply im_isi | with_reducible apply im_isis | with_reducible apply im_isN | with_reducible apply im_notN | with_reducible apply im_chain | with_reducible apply im_seq | with_reducible apply im_range1 | with_reducible apply im_range2 | with_reducible apply im_enum | with_reducible apply im_zip | with_reducible apply im_t | with_reducible apply im_notV | with_reducible apply im_andV | with_reducible apply im_orV | with_reducible apply im_part | with_reducible apply im_sl | with_reducible apply im_slo | with_reducible apply im_rev | with_reducible apply im_uV | with_reducible apply im_uO | with_reducible apply im_un | with_reducible apply im_opo | with_reducible apply im_ixO | with_reducible apply im_scal | with_reducible apply im_scalt | with_reducible apply im_index | with_reducible apply im_lrg1 | with_reducible apply im_lrg2 | with_reducible apply ic_ext | with_reducible apply ic_asgT | with_reducible apply it_subO | with_reducible apply im_fnO | with_reducible apply im_fnOo | with_reducible apply im_zipS | with_reducible apply im_zipR | with_reducible apply im_rev2)
/-- best_of: slots 0 points, 1 wish, 2 most, 3 point -/
def N_best_of : List Str := ["points", "wish", "most", "point"]
def ps_best_of : List Str := ["points", "wish"]
def m_best_of_1 : M (List D) := mLc [3] (mSeq (rd 0)) (fName 3) (mYes) (mFn F_worth_at 2 0 [0, 1] (mcons (rd 1) (mcons (rd 3) (mret []))) (mret []))
def m_best_of_2 : M (List D) := mLc [3] (mSeq (rd 0)) (fName 3) (mCmp dEq (mFn F_worth_at 2 0 [0, 1] (mcons (rd 1) (mcons (rd 3) (mret []))) (mret [])) (rd 2)) (rd 3)
def c_best_of : C := cseq (casg 2 (mCall dMax1 (mcons (mfrz (m_best_of_1)) (mret [])))) (cret (mOp dIx (mfrz (m_best_of_2)) (mret (.int 0))))
def F_best_of : Fn := fres 4 2 c_best_of
theorem en_best_of (a0 a1 : D) (p : Pst) : F_best_of [a0, a1] p = sres (c_best_of [some (.val a0), some (.val a1), none, none] p) := rfl
theorem ip_best_of : IF F_best_of := if_fres _ _ (by
  unfold c_best_of
  try unfold m_best_of_2
  try unfold m_best_of_1
  repeat' first | exact ip_worth_at | with_reducible apply im_ret | with_reducible apply im_rd | with_reducible apply im_op | with_reducible apply im_cmp | with_reducible apply im_b | with_reducible apply im_cons | with_reducible apply ic_seq | with_reducible apply ic_if | with_reducible apply ic_ret | with_reducible apply ic_reto | with_reducible apply ic_retown | with_reducible apply ic_asg | with_reducible apply ic_aso | with_reducible apply ic_frz | with_reducible apply ic_asgW | with_reducible apply ic_app | with_reducible apply ic_pop | with_reducible apply ic_expr | with_reducible apply ic_skip | with_reducible apply ic_stuck | with_reducible apply ic_brk | with_reducible apply ic_cnt | with_reducible apply ic_retN | with_reducible apply ic_for | with_reducible apply ic_while | with_reducible apply it_name | with_reducible apply it_tup | with_reducible apply it_cons | with_reducible apply it_nil | with_reducible apply im_fn | with_reducible apply im_fno | with_reducible apply im_lc | with_reducible apply im_yes | with_reducible apply im_and | with_reducible apply im_or | with_reducible apply im_not | with_reducible apply im_if | with_reducible apply im_frz | with_reducible apply im_lim | with_reducible apply im_tup | with_reducible apply im_call | with_reducible apply im_lst | with_reducible apply im_isi | with_reducible apply im_isis | with_reducible apply im_isN | with_reducible apply im_notN | with_reducible apply im_chain | with_reducible apply im_seq | with_reducible apply im_range1 | with_reducible apply im_range2 | with_reducible apply im_enum | with_reducible apply im_zip | with_reducible apply im_t | with_reducible apply im_notV | with_reducible apply im_andV | with_reducible apply im_orV | with_reducible apply im_part | with_reducible apply im_sl | with_reducible apply im_slo | with_reducible apply im_rev | with_reducible apply im_uV | with_reducible apply im_uO | with_reducible apply im_un | with_reducible apply im_opo | with_reducible apply im_ixO | with_reducible apply im_scal | with_reducible apply im_scalt | with_reducible apply im_index | with_reducible apply im_lrg1 | with_reducible apply im_lrg2 | with_reducible apply ic_ext | with_reducible apply ic_asgT | with_reducible apply it_subO | with_reducible apply im_fnO | with_reducible apply im_fnOo | with_reducible apply im_zipS | with_reducible apply im_zipR | with_reducible apply im_rev2)
/-- turn_at: slots 0 one, 1 middle, 2 late -/
def N_turn_at : List Str := ["one", "middle", "late"]
def ps_turn_at : List Str := ["one", "middle", "late"]
def c_turn_at : C := cret (mOp dSub (mOp dMul (mOp dSub (mOp dIx (rd 1) (mret (.int 0))) (mOp dIx (rd 0) (mret (.int 0)))) (mOp dSub (mOp dIx (rd 2) (mret (.int 1))) (mOp dIx (rd 0) (mret (.int 1))))) (mOp dMul (mOp dSub (mOp dIx (rd 1) (mret (.int 1))) (mOp dIx (rd 0) (mret (.int 1)))) (mOp dSub (mOp dIx (rd 2) (mret (.int 0))) (mOp dIx (rd 0) (mret (.int 0))))))
def F_turn_at : Fn := fres 3 3 c_turn_at
theorem en_turn_at (a0 a1 a2 : D) (p : Pst) : F_turn_at [a0, a1, a2] p = sres (c_turn_at [some (.val a0), some (.val a1), some (.val a2)] p) := rfl
theorem ip_turn_at : IF F_turn_at := if_fres _ _ (by
  unfold c_turn_at
  repeat' first | with_reducible apply im_ret | with_reducible apply im_rd | with_reducible apply im_op | with_reducible apply im_cmp | with_reducible apply im_b | with_reducible apply im_cons | with_reducible apply ic_seq | with_reducible apply ic_if | with_reducible apply ic_ret | with_reducible apply ic_reto | with_reducible apply ic_retown | with_reducible apply ic_asg | with_reducible apply ic_aso | with_reducible apply ic_frz | with_reducible apply ic_asgW | with_reducible apply ic_app | with_reducible apply ic_pop | with_reducible apply ic_expr | with_reducible apply ic_skip | with_reducible apply ic_stuck | with_reducible apply ic_brk | with_reducible apply ic_cnt | with_reducible apply ic_retN | with_reducible apply ic_for | with_reducible apply ic_while | with_reducible apply it_name | with_reducible apply it_tup | with_reducible apply it_cons | with_reducible apply it_nil | with_reducible apply im_fn | with_reducible apply im_fno | with_reducible apply im_lc | with_reducible apply im_yes | with_reducible apply im_and | with_reducible apply im_or | with_reducible apply im_not | with_reducible apply im_if | with_reducible apply im_frz | with_reducible apply im_lim | with_reducible apply im_tup | with_reducible apply im_call | with_reducible apply im_lst | with_reducible apply im_isi | with_reducible apply im_isis | with_reducible apply im_isN | with_reducible apply im_notN | with_reducible apply im_chain | with_reducible apply im_seq | with_reducible apply im_range1 | with_reducible apply im_range2 | with_reducible apply im_enum | with_reducible apply im_zip | with_reducible apply im_t | with_reducible apply im_notV | with_reducible apply im_andV | with_reducible apply im_orV | with_reducible apply im_part | with_reducible apply im_sl | with_reducible apply im_slo | with_reducible apply im_rev | with_reducible apply im_uV | with_reducible apply im_uO | with_reducible apply im_un | with_reducible apply im_opo | with_reducible apply im_ixO | with_reducible apply im_scal | with_reducible apply im_scalt | with_reducible apply im_index | with_reducible apply im_lrg1 | with_reducible apply im_lrg2 | with_reducible apply ic_ext | with_reducible apply ic_asgT | with_reducible apply it_subO | with_reducible apply im_fnO | with_reducible apply im_fnOo | with_reducible apply im_zipS | with_reducible apply im_zipR | with_reducible apply im_rev2)
/-- half_hull: slots 0 points, 1 found, 2 point -/
def N_half_hull : List Str := ["points", "found", "point"]
def ps_half_hull : List Str := ["points"]
def b_half_hull_1 : C := cpop 1
def t_half_hull_2 : M Bool := mAnd (mCmp dGt (mscal (mCall dLen (mcons (rd 1) (mret [])))) (mret (.int 1))) (mCmp dLe (mFn F_turn_at 3 0 [0, 1, 2] (mcons (mIxO 1 (mUn dNeg (mret (.int 2)))) (mcons (mIxO 1 (mUn dNeg (mret (.int 1)))) (mcons (rd 2) (mret [])))) (mret [])) (mret (.int 0)))
def b_half_hull_3 : C := cseq (cwhile (t_half_hull_2) (b_half_hull_1) FUEL) (capp 1 (rd 2))
def c_half_hull : C := cseq (caso 1 (mlim (mret []))) (cseq (cfor (mSeq (rd 0)) (tgName 2) (b_half_hull_3)) (cretown 1))
def F_half_hull : Fn := fres 3 1 c_half_hull
theorem en_half_hull (a0 : D) (p : Pst) : F_half_hull [a0] p = sres (c_half_hull [some (.val a0), none, none] p) := rfl
theorem ip_half_hull : IF F_half_hull := if_fres _ _ (by
  unfold c_half_hull
  try unfold b_half_hull_3
  try unfold t_half_hull_2
  try unfold b_half_hull_1
  repeat' first | exact ip_turn_at | with_reducible apply im_ret | with_reducible apply im_rd | with_reducible apply im_op | with_reducible apply im_cmp | with_reducible apply im_b | with_reducible apply im_cons | with_reducible apply ic_seq | with_reducible apply ic_if | with_reducible apply ic_ret | with_reducible apply ic_reto | with_reducible apply ic_retown | with_reducible apply ic_asg | with_reducible apply ic_aso | with_reducible apply ic_frz | with_reducible apply ic_asgW | with_reducible apply ic_app | with_reducible apply ic_pop | with_reducible apply ic_expr | with_reducible apply ic_skip | with_reducible apply ic_stuck | with_reducible apply ic_brk | with_reducible apply ic_cnt | with_reducible apply ic_retN | with_reducible apply ic_for | with_reducible apply ic_while | with_reducible apply it_name | with_reducible apply it_tup | with_reducible apply it_cons | with_reducible apply it_nil | with_reducible apply im_fn | with_reducible apply im_fno | with_reducible apply im_lc | with_reducible apply im_yes | with_reducible apply im_and | with_reducible apply im_or | with_reducible apply im_not | with_reducible apply im_if | with_reducible apply im_frz | with_reducible apply im_lim | with_reducible apply im_tup | with_reducible apply im_call | with_reducible apply im_lst | with_reducible apply im_isi | with_reducible apply im_isis | with_reducible apply im_isN | with_reducible apply im_notN | with_reducible apply im_chain | with_reducible apply im_seq | with_reducible apply im_range1 | with_reducible apply im_range2 | with_reducible apply im_enum | with_reducible apply im_zip | with_reducible apply im_t | with_reducible apply im_notV | with_reducible apply im_andV | with_reducible apply im_orV | with_reducible apply im_part | with_reducible apply im_sl | with_reducible apply im_slo | with_reducible apply im_rev | with_reducible apply im_uV | with_reducible apply im_uO | with_reducible apply im_un | with_reducible apply im_opo | with_reducible apply im_ixO | with_reducible apply im_scal | with_reducible apply im_scalt | with_reducible apply im_index | with_reducible apply im_lrg1 | with_reducible apply im_lrg2 | with_reducible apply ic_ext | with_reducible apply ic_asgT | with_reducible apply it_subO | with_reducible apply im_fnO | with_reducible apply im_fnOo | with_reducible apply im_zipS | with_reducible apply im_zipR | with_reducible apply im_rev2)
/-- corners_of: slots 0 points -/
def N_corners_of : List Str := ["points"]
def ps_corners_of : List Str := ["points"]
def c_corners_of : C := cseq (cif (mCmp dLt (mCall dLen (mcons (rd 0) (mret []))) (mret (.int 2))) (cret (rd 0)) (cskip)) (creto (mOpo dAddO (mSl (mFn F_half_hull 1 0 [0] (mcons (rd 0) (mret [])) (mret [])) (mret none) (mPart (mUn dNeg (mret (.int 1))))) (mSl (mFn F_half_hull 1 0 [0] (mcons (mfrz (mRevo (rd 0))) (mret [])) (mret [])) (mret none) (mPart (mUn dNeg (mret (.int 1)))))))
def F_corners_of : Fn := fres 1 1 c_corners_of
theorem en_corners_of (a0 : D) (p : Pst) : F_corners_of [a0] p = sres (c_corners_of [some (.val a0)] p) := rfl
theorem ip_corners_of : IF F_corners_of := if_fres _ _ (by
  unfold c_corners_of
  repeat' first | exact ip_half_hull | with_reducible apply im_ret | with_reducible apply im_rd | with_reducible apply im_op | with_reducible apply im_cmp | with_reducible apply im_b | with_reducible apply im_cons | with_reducible apply ic_seq | with_reducible apply ic_if | with_reducible apply ic_ret | with_reducible apply ic_reto | with_reducible apply ic_retown | with_reducible apply ic_asg | with_reducible apply ic_aso | with_reducible apply ic_frz | with_reducible apply ic_asgW | with_reducible apply ic_app | with_reducible apply ic_pop | with_reducible apply ic_expr | with_reducible apply ic_skip | with_reducible apply ic_stuck | with_reducible apply ic_brk | with_reducible apply ic_cnt | with_reducible apply ic_retN | with_reducible apply ic_for | with_reducible apply ic_while | with_reducible apply it_name | with_reducible apply it_tup | with_reducible apply it_cons | with_reducible apply it_nil | with_reducible apply im_fn | with_reducible apply im_fno | with_reducible apply im_lc | with_reducible apply im_yes | with_reducible apply im_and | with_reducible apply im_or | with_reducible apply im_not | with_reducible apply im_if | with_reducible apply im_frz | with_reducible apply im_lim | with_reducible apply im_tup | with_reducible apply im_call | with_reducible apply im_lst | with_reducible apply im_isi | with_reducible apply im_isis | with_reducible apply im_isN | with_reducible apply im_notN | with_reducible apply im_chain | with_reducible apply im_seq | with_reducible apply im_range1 | with_reducible apply im_range2 | with_reducible apply im_enum | with_reducible apply im_zip | with_reducible apply im_t | with_reducible apply im_notV | with_reducible apply im_andV | with_reducible apply im_orV | with_reducible apply im_part | with_reducible apply im_sl | with_reducible apply im_slo | with_reducible apply im_rev | with_reducible apply im_uV | with_reducible apply im_uO | with_reducible apply im_un | with_reducible apply im_opo | with_reducible apply im_ixO | with_reducible apply im_scal | with_reducible apply im_scalt | with_reducible apply im_index | with_reducible apply im_lrg1 | with_reducible apply im_lrg2 | with_reducible apply ic_ext | with_reducible apply ic_asgT | with_reducible apply it_subO | with_reducible apply im_fnO | with_reducible apply im_fnOo | with_reducible apply im_zipS | with_reducible apply im_zipR | with_reducible apply im_rev2)
def c_o_corners_of : C := cseq (cif (mCmp dLt (mscal (mCall dLen (mcons (rd 0) (mret [])))) (mret (.int 2))) (cretown 0) (cskip)) (cseq (cfrz 0) (creto (mOpo dAddO (mSl (mFn F_half_hull 1 0 [0] (mcons (rd 0) (mret [])) (mret [])) (mret none) (mPart (mUn dNeg (mret (.int 1))))) (mSl (mFn F_half_hull 1 0 [0] (mcons (mfrz (mRevo (rd 0))) (mret [])) (mret [])) (mret none) (mPart (mUn dNeg (mret (.int 1))))))))
def G_corners_of : FnO := freso 1 c_o_corners_of
theorem eo_corners_of (xs : List D) (p : Pst) : G_corners_of xs p = sres (c_o_corners_of [some (.own xs)] p) := rfl
theorem ip_o_corners_of : IFo G_corners_of := ifo_fres _ (by
  unfold c_o_corners_of
  repeat' first | exact ip_half_hull | with_reducible apply im_ret | with_reducible apply im_rd | with_reducible apply im_op | with_reducible apply im_cmp | with_reducible apply im_b | with_reducible apply im_cons | with_reducible apply ic_seq | with_reducible apply ic_if | with_reducible apply ic_ret | with_reducible apply ic_reto | with_reducible apply ic_retown | with_reducible apply ic_asg | with_reducible apply ic_aso | with_reducible apply ic_frz | with_reducible apply ic_asgW | with_reducible apply ic_app | with_reducible apply ic_pop | with_reducible apply ic_expr | with_reducible apply ic_skip | with_reducible apply ic_stuck | with_reducible apply ic_brk | with_reducible apply ic_cnt | with_reducible apply ic_retN | with_reducible apply ic_for | with_reducible apply ic_while | with_reducible apply it_name | with_reducible apply it_tup | with_reducible apply it_cons | with_reducible apply it_nil | with_reducible apply im_fn | with_reducible apply im_fno | with_reducible apply im_lc | with_reducible apply im_yes | with_reducible apply im_and | with_reducible apply im_or | with_reducible apply im_not | with_reducible apply im_if | with_reducible apply im_frz | with_reducible apply im_lim | with_reducible apply im_tup | with_reducible apply im_call | with_reducible apply im_lst | with_reducible apply im_isi | with_reducible apply im_isis | with_reducible apply im_isN | with_reducible apply im_notN | with_reducible apply im_chain | with_reducible apply im_seq | with_reducible apply im_range1 | with_reducible apply im_range2 | with_reducible apply im_enum | with_reducible apply im_zip | with_reducible apply im_t | with_reducible apply im_notV | with_reducible apply im_andV | with_reducible apply im_orV | with_reducible apply im_part | with_reducible apply im_sl | with_reducible apply im_slo | with_reducible apply im_rev | with_reducible apply im_uV | with_reducible apply im_uO | with_reducible apply im_un | with_reducible apply im_opo | with_reducible apply im_ixO | with_reducible apply im_scal | with_reducible apply im_scalt | with_reducible apply im_index | with_reducible apply im_lrg1 | with_reducible apply im_lrg2 | with_reducible apply ic_ext | with_reducible apply ic_asgT | with_reducible apply it_subO | with_reducible apply im_fnO | with_reducible apply im_fnOo | with_reducible apply im_zipS | with_reducible apply im_zipR | with_reducible apply im_rev2)
/-- best_worth: slots 0 bounds, 1 wish, 2 points -/
def N_best_worth : List Str := ["bounds", "wish", "points"]
def ps_best_worth : List Str := ["bounds", "wish"]
def c_best_worth : C := cseq (casg 2 (mFn F_want_points 2 0 [0, 1] (mcons (rd 0) (mcons (rd 1) (mret []))) (mret []))) (cret (mFn F_worth_at 2 0 [0, 1] (mcons (rd 1) (mcons (mFn F_best_of 2 0 [0, 1] (mcons (rd 2) (mcons (rd 1) (mret []))) (mret [])) (mret []))) (mret [])))
def F_best_worth : Fn := fres 3 2 c_best_worth
theorem en_best_worth (a0 a1 : D) (p : Pst) : F_best_worth [a0, a1] p = sres (c_best_worth [some (.val a0), some (.val a1), none] p) := rfl
theorem ip_best_worth : IF F_best_worth := if_fres _ _ (by
  unfold c_best_worth
  repeat' first | exact ip_best_of | exact ip_want_points | exact ip_worth_at | with_reducible apply im_ret | with_reducible apply im_rd | with_reducible apply im_op | with_reducible apply im_cmp | with_reducible apply im_b | with_reducible apply im_cons | with_reducible apply ic_seq | with_reducible apply ic_if | with_reducible apply ic_ret | with_reducible apply ic_reto | with_reducible apply ic_retown | with_reducible apply ic_asg | with_reducible apply ic_aso | with_reducible apply ic_frz | with_reducible apply ic_asgW | with_reducible apply ic_app | with_reducible apply ic_pop | with_reducible apply ic_expr | with_reducible apply ic_skip | with_reducible apply ic_stuck | with_reducible apply ic_brk | with_reducible apply ic_cnt | with_reducible apply ic_retN | with_reducible apply ic_for | with_reducible apply ic_while | with_reducible apply it_name | with_reducible apply it_tup | with_reducible apply it_cons | with_reducible apply it_nil | with_reducible apply im_fn | with_reducible apply im_fno | with_reducible apply im_lc | with_reducible apply im_yes | with_reducible apply im_and | with_reducible apply im_or | with_reducible apply im_not | with_reducible apply im_if | with_reducible apply im_frz | with_reducible apply im_lim | with_reducible apply im_tup | with_reducible apply im_call | with_reducible apply im_lst | with_reducible apply im_isi | with_reducible apply im_isis | with_reducible apply im_isN | with_reducible apply im_notN | with_reducible apply im_chain | with_reducible apply im_seq | with_reducible apply im_range1 | with_reducible apply im_range2 | with_reducible apply im_enum | with_reducible apply im_zip | with_reducible apply im_t | with_reducible apply im_notV | with_reducible apply im_andV | with_reducible apply im_orV | with_reducible apply im_part | with_reducible apply im_sl | with_reducible apply im_slo | with_reducible apply im_rev | with_reducible apply im_uV | with_reducible apply im_uO | with_reducible apply im_un | with_reducible apply im_opo | with_reducible apply im_ixO | with_reducible apply im_scal | with_reducible apply im_scalt | with_reducible apply im_index | with_reducible apply im_lrg1 | with_reducible apply im_lrg2 | with_reducible apply ic_ext | with_reducible apply ic_asgT | with_reducible apply it_subO | with_reducible apply im_fnO | with_reducible apply im_fnOo | with_reducible apply im_zipS | with_reducible apply im_zipR | with_reducible apply im_rev2)
/-- corners: slots 0 bounds -/
def N_corners : List Str := ["bounds"]
def ps_corners : List Str := ["bounds"]
def c_corners : C := cseq (cexpr (mFn F_check_bounds 1 0 [0] (mcons (rd 0) (mret [])) (mret []))) (creto (mFnOo G_corners_of (mFno F_points_of 1 0 [0] (mcons (rd 0) (mret [])) (mret []))))
def F_corners : Fn := fres 1 1 c_corners
theorem en_corners (a0 : D) (p : Pst) : F_corners [a0] p = sres (c_corners [some (.val a0)] p) := rfl
theorem ip_corners : IF F_corners := if_fres _ _ (by
  unfold c_corners
  repeat' first | exact ip_check_bounds | exact ip_points_of | exact ip_o_corners_of | with_reducible apply im_ret | with_reducible apply im_rd | with_reducible apply im_op | with_reducible apply im_cmp | with_reducible apply im_b | with_reducible apply im_cons | with_reducible apply ic_seq | with_reducible apply ic_if | with_reducible apply ic_ret | with_reducible apply ic_reto | with_reducible apply ic_retown | with_reducible apply ic_asg | with_reducible apply ic_aso | with_reducible apply ic_frz | with_reducible apply ic_asgW | with_reducible apply ic_app | with_reducible apply ic_pop | with_reducible apply ic_expr | with_reducible apply ic_skip | with_reducible apply ic_stuck | with_reducible apply ic_brk | with_reducible apply ic_cnt | with_reducible apply ic_retN | with_reducible apply ic_for | with_reducible apply ic_while | with_reducible apply it_name | with_reducible apply it_tup | with_reducible apply it_cons | with_reducible apply it_nil | with_reducible apply im_fn | with_reducible apply im_fno | with_reducible apply im_lc | with_reducible apply im_yes | with_reducible apply im_and | with_reducible apply im_or | with_reducible apply im_not | with_reducible apply im_if | with_reducible apply im_frz | with_reducible apply im_lim | with_reducible apply im_tup | with_reducible apply im_call | with_reducible apply im_lst | with_reducible apply im_isi | with_reducible apply im_isis | with_reducible apply im_isN | with_reducible apply im_notN | with_reducible apply im_chain | with_reducible apply im_seq | with_reducible apply im_range1 | with_reducible apply im_range2 | with_reducible apply im_enum | with_reducible apply im_zip | with_reducible apply im_t | with_reducible apply im_notV | with_reducible apply im_andV | with_reducible apply im_orV | with_reducible apply im_part | with_reducible apply im_sl | with_reducible apply im_slo | with_reducible apply im_rev | with_reducible apply im_uV | with_reducible apply im_uO | with_reducible apply im_un | with_reducible apply im_opo | with_reducible apply im_ixO | with_reducible apply im_scal | with_reducible apply im_scalt | with_reducible apply im_index | with_reducible apply im_lrg1 | with_reducible apply im_lrg2 | with_reducible apply ic_ext | with_reducible apply ic_asgT | with_reducible apply it_subO | with_reducible apply im_fnO | with_reducible apply im_fnOo | with_reducible apply im_zipS | with_reducible apply im_zipR | with_reducible apply im_rev2)
/-- _law_pot: slots 0 script, 1 k, 2 cell -/
def N__law_pot : List Str := ["script", "k", "cell"]
def ps__law_pot : List Str := ["script", "k"]
def c__law_pot : C := cseq (casg 2 (mIf (mCmp dLt (rd 1) (mCall dLen (mcons (rd 0) (mret [])))) (mCall dAbs (mcons (mOp dIx (rd 0) (rd 1)) (mret []))) (mOp dAdd (mOp dMul (mret (.int 2689)) (rd 1)) (mret (.int 2022))))) (cretpot (mcons (mCall dMax2 (mcons (mret (.int 0)) (mcons (mOp dSub (rd 2) (mOp dPow (mret (.int 10)) (mret (.int 18)))) (mret [])))) (mcons (mOp dAdd (mOp dMod (mCall dInt (mcons (mOp dAdd (mOp dAdd (mOp dMul (mOp dMod (mCall dInt (mcons (rd 2) (mret []))) (mret (.int 2147483549))) (mret (.int 44351))) (mOp dMul (mret (.int 1207)) (rd 1))) (mret (.int 23400))) (mret []))) (mret (.int 2147483579))) (mret (.int 1))) (mret []))))
def F__law_pot : Fn := fres 3 2 c__law_pot
theorem en__law_pot (a0 a1 : D) (p : Pst) : F__law_pot [a0, a1] p = sres (c__law_pot [some (.val a0), some (.val a1), none] p) := rfl
/-- _law_draw: slots 0 pot, 1 many, 2 digit -/
def N__law_draw : List Str := ["pot", "many", "digit"]
def ps__law_draw : List Str := ["pot", "many"]
def c__law_draw : C := cseq (cif (mCmp dGt (mIx (rd 0) (mret (.int 0))) (mret (.int 0))) (cseq (casgT (tgTup 2 (tgCons (tgSub 0 (mret (.int 0))) (tgCons (tgName 2) (tgNil)))) (mCall dDivmod (mcons (mIx (rd 0) (mret (.int 0))) (mcons (rd 1) (mret []))))) (cret (rd 2))) (cskip)) (cseq (casgT (tgSub 0 (mret (.int 1))) (mOp dMod (mCall dInt (mcons (mOp dAdd (mOp dMul (mIx (rd 0) (mret (.int 1))) (mret (.int 44351))) (mret (.int 1207))) (mret []))) (mret (.int 2147483629)))) (cret (mOp dMod (mCall dInt (mcons (mOp dDiv (mOp dMod (mCall dInt (mcons (mOp dMul (mIx (rd 0) (mret (.int 1))) (mIx (rd 0) (mret (.int 1)))) (mret []))) (mret (.int 2147483587))) (mret (.int 13))) (mret []))) (rd 1))))
def F__law_draw : Fn := fres 3 2 c__law_draw
theorem en__law_draw (a0 a1 : D) (p : Pst) : F__law_draw [a0, a1] p = sres (c__law_draw [some (.val a0), some (.val a1), none] p) := rfl
/-- _law_pick: slots 0 pot, 1 some -/
def N__law_pick : List Str := ["pot", "some"]
def ps__law_pick : List Str := ["pot", "some"]
def c__law_pick : C := cret (mOp dIx (rd 1) (mFn F__law_draw 2 0 [0, 1] (mcons (rd 0) (mcons (mCall dLen (mcons (rd 1) (mret []))) (mret []))) (mret [])))
def F__law_pick : Fn := fres 2 2 c__law_pick
theorem en__law_pick (a0 a1 : D) (p : Pst) : F__law_pick [a0, a1] p = sres (c__law_pick [some (.val a0), some (.val a1)] p) := rfl
/-- _law_bounds: slots 0 pot, 1 most, 2 found, 3 turn, 4 x, 5 y, 6 wide, 7 a, 8 b -/
def N__law_bounds : List Str := ["pot", "most", "found", "turn", "x", "y", "wide", "a", "b"]
def ps__law_bounds : List Str := ["pot", "most"]
def b__law_bounds_1 : C := cseq (casgW [7, 8] (muV (mOp dSub (mFn F__law_draw 2 0 [0, 1] (mcons (rd 0) (mcons (mret (.int 11)) (mret []))) (mret [])) (mret (.int 5))) (muV (mOp dSub (mFn F__law_draw 2 0 [0, 1] (mcons (rd 0) (mcons (mret (.int 11)) (mret []))) (mret [])) (mret (.int 5))) (mret [])))) (cseq (casg 7 (mIf (mCmp dNe (mtup (mcons (rd 7) (mcons (rd 8) (mret [])))) (mtup (mcons (mret (.int 0)) (mcons (mret (.int 0)) (mret []))))) (rd 7) (mret (.int 1)))) (capp 2 (mtup (mcons (rd 7) (mcons (rd 8) (mcons (mOp dSub (mOp dAdd (mOp dAdd (mOp dMul (rd 7) (rd 4)) (mOp dMul (rd 8) (rd 5))) (mFn F__law_draw 2 0 [0, 1] (mcons (rd 0) (mcons (mOp dAdd (mOp dMul (mret (.int 6)) (rd 6)) (mret (.int 2))) (mret []))) (mret []))) (mret (.int 1))) (mret [])))))))
def c__law_bounds : C := cseq (casgW [4, 5, 6] (muV (mOp dSub (mFn F__law_draw 2 0 [0, 1] (mcons (rd 0) (mcons (mret (.int 25)) (mret []))) (mret [])) (mret (.int 12))) (muV (mOp dSub (mFn F__law_draw 2 0 [0, 1] (mcons (rd 0) (mcons (mret (.int 25)) (mret []))) (mret [])) (mret (.int 12))) (muV (mFn F__law_pick 2 0 [0, 1] (mcons (rd 0) (mcons (mfrz (mlim (mcons (mret (.int 0)) (mcons (mret (.int 1)) (mcons (mret (.int 3)) (mcons (mret (.int 8)) (mret []))))))) (mret []))) (mret [])) (mret []))))) (cseq (caso 2 (mlim (mret []))) (cseq (cfor (mRange1 (mcons (mOp dAdd (mret (.int 1)) (mFn F__law_draw 2 0 [0, 1] (mcons (rd 0) (mcons (rd 1) (mret []))) (mret []))) (mret []))) (tgName 3) (b__law_bounds_1)) (cretown 2)))
def F__law_bounds : Fn := fres 9 2 c__law_bounds
theorem en__law_bounds (a0 a1 : D) (p : Pst) : F__law_bounds [a0, a1] p = sres (c__law_bounds [some (.val a0), some (.val a1), none, none, none, none, none, none, none] p) := rfl
/-- _law_triangle_right: slots 0 pot, 1 bounds, 2 due, 3 wide, 4 high, 5 x -/
def N__law_triangle_right : List Str := ["pot", "bounds", "due", "wide", "high", "x"]
def ps__law_triangle_right : List Str := ["pot"]
def m__law_triangle_right_1 : M (List D) := mLc [5] (mRange1 (mcons (mOp dAdd (rd 3) (mret (.int 1))) (mret []))) (fName 5) (mYes) (mOp dAdd (mret (.int 1)) (mOp dDiv (mOp dMul (rd 4) (mOp dSub (rd 3) (rd 5))) (rd 3)))
def c__law_triangle_right : C := cseq (casgW [3, 4] (muV (mOp dAdd (mret (.int 1)) (mFn F__law_draw 2 0 [0, 1] (mcons (rd 0) (mcons (mret (.int 20)) (mret []))) (mret []))) (muV (mOp dAdd (mret (.int 1)) (mFn F__law_draw 2 0 [0, 1] (mcons (rd 0) (mcons (mret (.int 20)) (mret []))) (mret []))) (mret [])))) (cseq (casg 1 (mfrz (mlim (mcons (mtup (mcons (rd 4) (mcons (rd 3) (mcons (mOp dMul (rd 3) (rd 4)) (mret []))))) (mcons (mtup (mcons (mUn dNeg (mret (.int 1))) (mcons (mret (.int 0)) (mcons (mret (.int 0)) (mret []))))) (mcons (mtup (mcons (mret (.int 0)) (mcons (mUn dNeg (mret (.int 1))) (mcons (mret (.int 0)) (mret []))))) (mret []))))))) (cseq (casg 2 (mCall dSum (mcons (mfrz (m__law_triangle_right_1)) (mret [])))) (cseq (cif (mOr (mCmp dNe (mFn F_count_points 1 0 [0] (mcons (rd 1) (mret [])) (mret [])) (rd 2)) (mCmp dNe (mFn F_least_point 1 0 [0] (mcons (rd 1) (mret [])) (mret [])) (mtup (mcons (mret (.int 0)) (mcons (mret (.int 0)) (mret [])))))) (cret (mret (.bl false))) (cskip)) (cseq (cif (mOr (mCmp dNe (mFn F_best_worth 2 0 [0, 1] (mcons (rd 1) (mcons (mtup (mcons (mret (.int 1)) (mcons (mret (.int 0)) (mret [])))) (mret []))) (mret [])) (rd 3)) (mCmp dNe (mFn F_best_worth 0 2 [0, 1] (mret []) (mcons (rd 1) (mcons (mtup (mcons (mret (.int 0)) (mcons (mret (.int 1)) (mret [])))) (mret [])))) (rd 4))) (cret (mret (.bl false))) (cskip)) (cret (mB (mCmp dEq (mFn F_corners 1 0 [0] (mcons (rd 1) (mret [])) (mret [])) (mfrz (mlim (mcons (mtup (mcons (mret (.int 0)) (mcons (mret (.int 0)) (mret [])))) (mcons (mtup (mcons (rd 3) (mcons (mret (.int 0)) (mret [])))) (mcons (mtup (mcons (mret (.int 0)) (mcons (rd 4) (mret [])))) (mret [])))))))))))))
def F__law_triangle_right : Fn := fres 6 1 c__law_triangle_right
theorem en__law_triangle_right (a0 : D) (p : Pst) : F__law_triangle_right [a0] p = sres (c__law_triangle_right [some (.val a0), none, none, none, none, none] p) := rfl
/-- _law_right: slots 0 pot, 1 back, 2 turned, 3 late, 4 bounds, 5 wish, 6 many, 7 some, 8 best, 9 more, 10 a, 11 b, 12 c, 13 x, 14 y -/
def N__law_right : List Str := ["pot", "back", "turned", "late", "bounds", "wish", "many", "some", "best", "more", "a", "b", "c", "x", "y"]
def ps__law_right : List Str := ["pot"]
def m__law_right_1 : M (List D) := mLc [10, 11, 12] (mSeq (rd 4)) (fTup (fCons (fName 10) (fCons (fName 11) (fCons (fName 12) (fNil))))) (mYes) (mtup (mcons (mOp dSub (mret (.int 0)) (rd 10)) (mcons (rd 11) (mcons (rd 12) (mret [])))))
def m__law_right_2 : M (List D) := mLc [10, 11, 12] (mSeq (rd 4)) (fTup (fCons (fName 10) (fCons (fName 11) (fCons (fName 12) (fNil))))) (mYes) (mtup (mcons (rd 11) (mcons (rd 10) (mcons (rd 12) (mret [])))))
def m__law_right_3 : M (List D) := mLc [13, 14] (mSeq (rd 7)) (fTup (fCons (fName 13) (fCons (fName 14) (fNil)))) (mYes) (mtup (mcons (mOp dSub (mret (.int 0)) (rd 13)) (mcons (rd 14) (mret []))))
def m__law_right_4 : M (List D) := mLc [13, 14] (mSeq (rd 7)) (fTup (fCons (fName 13) (fCons (fName 14) (fNil)))) (mYes) (mtup (mcons (rd 14) (mcons (rd 13) (mret []))))
def c__law_right : C := cseq (casgW [4, 5] (muV (mFn F__law_bounds 2 0 [0, 1] (mcons (rd 0) (mcons (mret (.int 6)) (mret []))) (mret [])) (muV (mtup (mcons (mOp dSub (mFn F__law_draw 2 0 [0, 1] (mcons (rd 0) (mcons (mret (.int 19)) (mret []))) (mret [])) (mret (.int 9))) (mcons (mOp dSub (mFn F__law_draw 2 0 [0, 1] (mcons (rd 0) (mcons (mret (.int 19)) (mret []))) (mret [])) (mret (.int 9))) (mret [])))) (mret [])))) (cseq (casgW [6, 7] (muV (mFn F_count_points 1 0 [0] (mcons (rd 4) (mret [])) (mret [])) (muV (mFn F_corners 1 0 [0] (mcons (rd 4) (mret [])) (mret [])) (mret [])))) (cseq (casg 1 (mfrz (m__law_right_1))) (cseq (casg 2 (mfrz (m__law_right_2))) (cseq (cif (mCmp dNe (mfrz (mlim (mcons (mFn F_count_points 1 0 [0] (mcons (rd 1) (mret [])) (mret [])) (mcons (mFn F_count_points 1 0 [0] (mcons (rd 2) (mret [])) (mret [])) (mcons (mFn F_count_points 1 0 [0] (mcons (mfrz (mRevo (rd 4))) (mret [])) (mret [])) (mret [])))))) (mOp dMul (mfrz (mlim (mcons (rd 6) (mret [])))) (mret (.int 3)))) (cret (mret (.bl false))) (cskip)) (cseq (cif (mCmp dNe (mfrz (mLst dSortP (mcons (mFn F_corners 1 0 [0] (mcons (rd 1) (mret [])) (mret [])) (mret [])))) (mfrz (mLst dSortP (mcons (mfrz (m__law_right_3)) (mret []))))) (cret (mret (.bl false))) (cskip)) (cseq (cif (mCmp dNe (mfrz (mLst dSortP (mcons (mFn F_corners 1 0 [0] (mcons (rd 2) (mret [])) (mret [])) (mret [])))) (mfrz (mLst dSortP (mcons (mfrz (m__law_right_4)) (mret []))))) (cret (mret (.bl false))) (cskip)) (cseq (cif (mOr (mCmp dNe (mFn F_few_bar 1 0 [0] (mcons (rd 1) (mret [])) (mret [])) (mFn F_few_bar 1 0 [0] (mcons (rd 4) (mret [])) (mret []))) (mCmp dNe (mFn F_few_bar 1 0 [0] (mcons (rd 2) (mret [])) (mret [])) (mFn F_few_bar 1 0 [0] (mcons (rd 4) (mret [])) (mret [])))) (cret (mret (.bl false))) (cskip)) (cseq (cif (mCmp dGt (rd 6) (mret (.int 0))) (cseq (casg 8 (mFn F_best_worth 2 0 [0, 1] (mcons (rd 4) (mcons (rd 5) (mret []))) (mret []))) (cseq (cif (mOr (mCmp dNe (mFn F_best_worth 2 0 [0, 1] (mcons (rd 1) (mcons (mtup (mcons (mOp dSub (mret (.int 0)) (mOp dIx (rd 5) (mret (.int 0)))) (mcons (mOp dIx (rd 5) (mret (.int 1))) (mret [])))) (mret []))) (mret [])) (rd 8)) (mCmp dNe (mFn F_best_worth 2 0 [0, 1] (mcons (rd 2) (mcons (mRev2 (rd 5)) (mret []))) (mret [])) (rd 8))) (cret (mret (.bl false))) (cskip)) (cseq (casg 9 (mIf (mCmp dNe (rd 5) (mtup (mcons (mret (.int 0)) (mcons (mret (.int 0)) (mret []))))) (mOp dAdd (rd 4) (mfrz (mlim (mcons (mtup (mcons (mOp dSub (mret (.int 0)) (mOp dIx (rd 5) (mret (.int 0)))) (mcons (mOp dSub (mret (.int 0)) (mOp dIx (rd 5) (mret (.int 1)))) (mcons (mOp dSub (mret (.int 0)) (rd 8)) (mret []))))) (mret []))))) (rd 4))) (cseq (cif (mOr (mCmp dNe (mFn F_best_worth 2 0 [0, 1] (mcons (rd 9) (mcons (rd 5) (mret []))) (mret [])) (rd 8)) (mCmp dGt (mFn F_count_points 1 0 [0] (mcons (rd 9) (mret [])) (mret [])) (rd 6))) (cret (mret (.bl false))) (cskip)) (cif (mCmp dNotB (mFn F_is_within_bounds 2 0 [0, 1] (mcons (rd 9) (mcons (mFn F_least_point 1 0 [0] (mcons (rd 9) (mret [])) (mret [])) (mret []))) (mret [])) (mret (.bl true))) (cret (mret (.bl false))) (cskip)))))) (cskip)) (cseq (casg 3 (mOp dAdd (rd 4) (mfrz (mlim (mcons (mtup (mcons (mOp dAdd (mFn F__law_draw 2 0 [0, 1] (mcons (rd 0) (mcons (mret (.int 9)) (mret []))) (mret [])) (mret (.int 1))) (mcons (mOp dSub (mFn F__law_draw 2 0 [0, 1] (mcons (rd 0) (mcons (mret (.int 9)) (mret []))) (mret [])) (mret (.int 4))) (mcons (mOp dSub (mFn F__law_draw 2 0 [0, 1] (mcons (rd 0) (mcons (mret (.int 41)) (mret []))) (mret [])) (mret (.int 20))) (mret []))))) (mret [])))))) (cret (mAndV (mB (mCmp dLe (mFn F_count_points 1 0 [0] (mcons (rd 3) (mret [])) (mret [])) (rd 6))) (mFn F__law_triangle_right 1 0 [0] (mcons (rd 0) (mret [])) (mret [])))))))))))))
def F__law_right : Fn := fres 15 1 c__law_right
theorem en__law_right (a0 : D) (p : Pst) : F__law_right [a0] p = sres (c__law_right [some (.val a0), none, none, none, none, none, none, none, none, none, none, none, none, none, none] p) := rfl
/-- law: slots 0 script, 1 k -/
def N_law : List Str := ["script", "k"]
def ps_law : List Str := ["script"]
def m_law_1 : M (List D) := mLc [1] (mRange1 (mcons (mCall dMax2 (mcons (mret (.int 1)) (mcons (mCall dMin2 (mcons (mret (.int 2)) (mcons (mCall dLen (mcons (rd 0) (mret []))) (mret [])))) (mret [])))) (mret []))) (fName 1) (mYes) (mFn F__law_right 1 0 [0] (mcons (mFn F__law_pot 2 0 [0, 1] (mcons (rd 0) (mcons (rd 1) (mret []))) (mret [])) (mret [])) (mret []))
def c_law : C := cret (mCall dAll (mcons (mfrz (m_law_1)) (mret [])))
def F_law : Fn := fres 2 1 c_law
theorem en_law (a0 : D) (p : Pst) : F_law [a0] p = sres (c_law [some (.val a0), none] p) := rfl
end PF

namespace PF
/-! ### points, turns -/
abbrev Pt := Int × Int
/-- above 0 if o, a, b turn to the left -/
def tn (o a b : Pt) : Int := (a.1 - o.1) * (b.2 - o.2) - (a.2 - o.2) * (b.1 - o.1)
def plt (a b : Pt) : Prop := a.1 < b.1 ∨ (a.1 = b.1 ∧ a.2 < b.2)
def ple (a b : Pt) : Prop := plt a b ∨ a = b
def LP (u1 u2 : Int) : Prop := 0 < u1 ∨ (u1 = 0 ∧ 0 < u2)
theorem nonneg_of_mul {a b : Int} (h : 0 ≤ a * b) (ha : 0 < a) : 0 ≤ b := by
  apply Classical.byContradiction
  intro hb
  have : a * b < 0 := Int.mul_neg_of_pos_of_neg ha (by omega)
  omega
theorem T_weak {u1 u2 v1 v2 w1 w2 : Int} (hu : LP u1 u2) (hv : LP v1 v2) (hw : LP w1 w2) (h1 : 0 ≤ u1 * v2 - u2 * v1) (h2 : 0 ≤ v1 * w2 - v2 * w1) : 0 ≤ u1 * w2 - u2 * w1 := by
  have u0 : 0 ≤ u1 := by rcases hu with h | h <;> omega
  have w0 : 0 ≤ w1 := by rcases hw with h | h <;> omega
  rcases hv with h | ⟨h, h'⟩
  · have e : v1 * (u1 * w2 - u2 * w1) = u1 * (v1 * w2 - v2 * w1) + w1 * (u1 * v2 - u2 * v1) := by grind
    refine nonneg_of_mul (a := v1) ?_ h
    rw [e]
    exact Int.add_nonneg (Int.mul_nonneg u0 h2) (Int.mul_nonneg w0 h1)
  · subst h
    have hz : w1 = 0 := by
      have e : (0 : Int) * w2 - v2 * w1 = -(v2 * w1) := by grind
      rw [e] at h2
      rcases hw with q | q
      · have := Int.mul_pos h' q; omega
      · exact q.1
    subst hz
    have w2p : 0 < w2 := by rcases hw with q | q <;> omega
    have := Int.mul_nonneg u0 (Int.le_of_lt w2p)
    have e : u1 * w2 - u2 * 0 = u1 * w2 := by grind
    rw [e]; exact this
theorem lp_of {a b : Pt} (h : plt a b) : LP (b.1 - a.1) (b.2 - a.2) := by
  unfold LP; rcases h with h | h <;> omega
theorem plt_trans {a b c : Pt} (h : plt a b) (h' : plt b c) : plt a c := by
  unfold plt at *; omega
theorem ple_plt {a b c : Pt} (h : ple a b) (h' : plt b c) : plt a c := by
  rcases h with h | rfl
  · exact plt_trans h h'
  · exact h'
theorem ple_trans {a b c : Pt} (h : ple a b) (h' : ple b c) : ple a c := by
  rcases h' with h' | rfl
  · exact .inl (ple_plt h h')
  · exact h
theorem ple_antisymm {a b : Pt} (h : ple a b) (h' : ple b a) : a = b := by
  rcases h with h | h
  · rcases h' with h' | h'
    · unfold plt at *; omega
    · exact h'.symm
  · exact h
theorem plt_or (a b : Pt) : ple a b ∨ plt b a := by
  by_cases h1 : a.1 < b.1
  · exact .inl (.inl (.inl h1))
  · by_cases h2 : a.1 = b.1
    · by_cases h3 : a.2 < b.2
      · exact .inl (.inl (.inr ⟨h2, h3⟩))
      · by_cases h4 : a.2 = b.2
        · exact .inl (.inr (Prod.ext h2 h4))
        · exact .inr (.inr ⟨h2.symm, by omega⟩)
    · exact .inr (.inl (by omega))
/-- the three uses of T_weak -/
theorem turn_on {c b a z : Pt} (h1 : plt c b) (h2 : plt b a) (h3 : plt a z) (t1 : 0 < tn c b a) (t2 : 0 < tn b a z) : 0 < tn c b z := by
  have k1 : 0 ≤ (b.1 - c.1) * (a.2 - b.2) - (b.2 - c.2) * (a.1 - b.1) := by
    have e : (b.1 - c.1) * (a.2 - b.2) - (b.2 - c.2) * (a.1 - b.1) = tn c b a := by unfold tn; grind
    rw [e]; omega
  have k2 : 0 ≤ (a.1 - b.1) * (z.2 - a.2) - (a.2 - b.2) * (z.1 - a.1) := by
    have e : (a.1 - b.1) * (z.2 - a.2) - (a.2 - b.2) * (z.1 - a.1) = tn b a z := by unfold tn; grind
    rw [e]; omega
  have k3 := T_weak (lp_of h1) (lp_of h2) (lp_of h3) k1 k2
  have e : tn c b z = tn c b a + ((b.1 - c.1) * (z.2 - a.2) - (b.2 - c.2) * (z.1 - a.1)) := by unfold tn; grind
  rw [e]; omega
theorem turn_back {b a z s : Pt} (h1 : plt b a) (h2 : plt a z) (h3 : ple s a) (t1 : 0 ≤ tn b a s) (t2 : 0 < tn b a z) : 0 ≤ tn a z s := by
  rcases h3 with h3 | rfl
  · have k1 : 0 ≤ (a.1 - s.1) * (a.2 - b.2) - (a.2 - s.2) * (a.1 - b.1) := by
      have e : (a.1 - s.1) * (a.2 - b.2) - (a.2 - s.2) * (a.1 - b.1) = tn b a s := by unfold tn; grind
      rw [e]; exact t1
    have k2 : 0 ≤ (a.1 - b.1) * (z.2 - a.2) - (a.2 - b.2) * (z.1 - a.1) := by
      have e : (a.1 - b.1) * (z.2 - a.2) - (a.2 - b.2) * (z.1 - a.1) = tn b a z := by unfold tn; grind
      rw [e]; omega
    have k3 := T_weak (lp_of h3) (lp_of h1) (lp_of h2) k1 k2
    have e : tn a z s = (a.1 - s.1) * (z.2 - a.2) - (a.2 - s.2) * (z.1 - a.1) := by unfold tn; grind
    rw [e]; exact k3
  · have e : tn s z s = 0 := by unfold tn; grind
    rw [e]; exact Int.le_refl 0
theorem turn_pop {b a z s : Pt} (h1 : plt b a) (h2 : plt b z) (h3 : plt b s) (t1 : 0 ≤ tn b a s) (t2 : tn b a z ≤ 0) : 0 ≤ tn b z s := by
  have k1 : 0 ≤ (z.1 - b.1) * (a.2 - b.2) - (z.2 - b.2) * (a.1 - b.1) := by
    have e : (z.1 - b.1) * (a.2 - b.2) - (z.2 - b.2) * (a.1 - b.1) = -tn b a z := by unfold tn; grind
    rw [e]; omega
  have k2 : 0 ≤ (a.1 - b.1) * (s.2 - b.2) - (a.2 - b.2) * (s.1 - b.1) := t1
  exact T_weak (lp_of h2) (lp_of h1) (lp_of h3) k1 k2
/-! ### the band: a pile of points, the last one on top -/
def pops (z : Pt) : List Pt → List Pt
  | a :: b :: r => if tn b a z ≤ 0 then pops z (b :: r) else a :: b :: r
  | st => st
def band (pts : List Pt) : List Pt := pts.foldl (fun st z => z :: pops z st) []
/-- neighbours in a pile: b below a -/
def EC (P : Pt → Pt → Prop) : List Pt → Prop
  | a :: b :: r => P b a ∧ EC P (b :: r)
  | _ => True
def CV : List Pt → Prop
  | a :: b :: c :: r => 0 < tn c b a ∧ CV (b :: c :: r)
  | _ => True
theorem EC.imp {P P' : Pt → Pt → Prop} (f : ∀ b a, P b a → P' b a) : ∀ {st : List Pt}, EC P st → EC P' st
  | [], _ => trivial
  | [_], _ => trivial
  | a :: b :: r, h => ⟨f _ _ h.1, EC.imp f (st := b :: r) h.2⟩
theorem EC.tail {P : Pt → Pt → Prop} : ∀ {a : Pt} {r : List Pt}, EC P (a :: r) → EC P r
  | _, [], _ => trivial
  | _, _ :: _, h => h.2
theorem CV.tail : ∀ {a : Pt} {r : List Pt}, CV (a :: r) → CV r
  | _, [], _ => trivial
  | _, [_], _ => trivial
  | _, _ :: _ :: _, h => h.2
/-- left of it, and rising -/
def Lf (S : List Pt) (b a : Pt) : Prop := plt b a ∧ ∀ s ∈ S, 0 ≤ tn b a s
/-- what the top turns to, all below turn to -/
theorem all_turn {z : Pt} : ∀ {st : List Pt}, EC plt st → CV st → (∀ a ∈ st, plt a z) → (∀ a b r, st = a :: b :: r → 0 < tn b a z) → EC (fun b a => 0 < tn b a z) st
  | [], _, _, _, _ => trivial
  | [_], _, _, _, _ => trivial
  | [a, b], h, _, _, h4 => ⟨h4 a b [] rfl, trivial⟩
  | a :: b :: c :: r, h, hc, hz, h4 => by
    have t0 := h4 a b (c :: r) rfl
    have t1 : 0 < tn c b z := turn_on h.2.1 h.1 (hz a List.mem_cons_self) hc.1 t0
    refine ⟨t0, all_turn (st := b :: c :: r) h.2 hc.2 (fun x hx => hz x (List.mem_cons_of_mem _ hx)) ?_⟩
    intro a' b' r' e
    cases e
    exact t1
/-- one point more -/
theorem pops_ok {S : List Pt} {z m : Pt} : ∀ {st : List Pt}, EC (Lf S) st → CV st → st.getLast? = some m → (∀ s ∈ S, ple m s) → (∀ a ∈ st, plt a z) → (∀ a r, st = a :: r → ∀ s ∈ S, ple s a ∨ 0 ≤ tn a z s) →
    EC (Lf S) (pops z st) ∧ CV (z :: pops z st) ∧ (pops z st).getLast? = some m ∧ (∀ a ∈ pops z st, a ∈ st) ∧ (∀ a r, pops z st = a :: r → ∀ s ∈ S, 0 ≤ tn a z s) ∧ (∀ a b r, pops z st = a :: b :: r → 0 < tn b a z)
  | [], _, _, hm, _, _, _ => by simp at hm
  | [a], h, hc, hm, hS, hz, hu => by
    have e : a = m := by simpa using hm
    subst e
    refine ⟨trivial, trivial, rfl, fun x hx => hx, ?_, ?_⟩
    · intro a' r e s hs
      cases e
      rcases hu a [] rfl s hs with q | q
      · have : s = a := ple_antisymm q (hS s hs)
        subst this
        have e : tn s z s = 0 := by unfold tn; grind
        rw [e]; exact Int.le_refl 0
      · exact q
    · intro a' b' r e
      cases e
  | a :: b :: r, h, hc, hm, hS, hz, hu => by
    by_cases ht : tn b a z ≤ 0
    · have hp : pops z (a :: b :: r) = pops z (b :: r) := by simp [pops, ht]
      rw [hp]
      have ih := pops_ok (S := S) (z := z) (m := m) (st := b :: r) h.2 hc.tail (by simpa using hm) hS (fun x hx => hz x (List.mem_cons_of_mem _ hx)) (by
        intro b' r' e s hs
        cases e
        rcases plt_or s b with q | q
        · exact .inl q
        · exact .inr (turn_pop h.1.1 (hz b (List.mem_cons_of_mem _ List.mem_cons_self)) q (h.1.2 s hs) ht))
      obtain ⟨k1, k2, k3, k4, k5, k6⟩ := ih
      exact ⟨k1, k2, k3, fun x hx => List.mem_cons_of_mem _ (k4 x hx), k5, k6⟩
    · have hp : pops z (a :: b :: r) = a :: b :: r := by simp [pops, ht]
      rw [hp]
      have t0 : 0 < tn b a z := by omega
      refine ⟨h, ⟨t0, hc⟩, hm, fun x hx => hx, ?_, ?_⟩
      · intro a' r' e s hs
        cases e
        rcases hu a (b :: r) rfl s hs with q | q
        · exact turn_back h.1.1 (hz a List.mem_cons_self) q (h.1.2 s hs) t0
        · exact q
      · intro a' b' r' e
        cases e
        exact t0
structure Bnd (S st : List Pt) (m M : Pt) : Prop where
  ec : EC (Lf S) st
  cv : CV st
  last : st.getLast? = some m
  top : st.head? = some M
  lo : ∀ s ∈ S, ple m s
  hi : ∀ s ∈ S, ple s M
  sub : ∀ a ∈ st, a ∈ S
theorem EC.plt {S st : List Pt} (h : EC (Lf S) st) : EC plt st := h.imp fun _ _ q => q.1
theorem Bnd.push {S st : List Pt} {m M z : Pt} (h : Bnd S st m M) (hz : ∀ s ∈ S, plt s z) (hne : S ≠ []) : Bnd (S ++ [z]) (z :: pops z st) m z := by
  have hzs : ∀ a ∈ st, plt a z := fun a ha => hz a (h.sub a ha)
  obtain ⟨k1, k2, k3, k4, k5, k6⟩ := pops_ok (z := z) h.ec h.cv h.last h.lo hzs (by
    intro a r e s hs
    have : a = M := by have := h.top; rw [e] at this; simpa using this
    subst this
    exact .inl (h.hi s hs))
  have cv' : CV (pops z st) := k2.tail
  have at' := all_turn (z := z) k1.plt cv' (fun a ha => hzs a (k4 a ha)) k6
  have ec' : EC (Lf (S ++ [z])) (pops z st) := by
    have both : ∀ {l : List Pt}, EC (Lf S) l → EC (fun b a => 0 < tn b a z) l → EC (Lf (S ++ [z])) l := by
      intro l
      induction l with
      | nil => exact fun _ _ => trivial
      | cons a l ih =>
        cases l with
        | nil => exact fun _ _ => trivial
        | cons b l =>
          intro p q
          refine ⟨⟨p.1.1, fun s hs => ?_⟩, ih p.2 q.2⟩
          rcases List.mem_append.mp hs with y | y
          · exact p.1.2 s y
          · simp at y; subst y; exact Int.le_of_lt q.1
    exact both k1 at'
  obtain ⟨s0, hs0⟩ := List.exists_mem_of_ne_nil _ hne
  cases hp : pops z st with
  | nil => rw [hp] at k3; simp at k3
  | cons a r =>
    rw [hp] at ec' k2 k3 k4 k5
    refine ⟨⟨⟨hzs a (k4 a List.mem_cons_self), fun s hs => ?_⟩, ec'⟩, k2, by simpa using k3, rfl, fun s hs => ?_, fun s hs => ?_, fun x hx => ?_⟩
    · rcases List.mem_append.mp hs with y | y
      · exact k5 a r rfl s y
      · simp at y; subst y
        have e : tn a s s = 0 := by unfold tn; grind
        rw [e]; exact Int.le_refl 0
    · rcases List.mem_append.mp hs with y | y
      · exact h.lo s y
      · simp at y; subst y
        exact .inl (ple_plt (h.lo s0 hs0) (hz s0 hs0))
    · rcases List.mem_append.mp hs with y | y
      · exact .inl (hz s y)
      · simp at y; exact .inr y
    · rcases List.mem_cons.mp hx with y | y
      · rw [y]; simp
      · exact List.mem_append.mpr (.inl (h.sub x (k4 x y)))
theorem band_snoc (S : List Pt) (z : Pt) : band (S ++ [z]) = z :: pops z (band S) := by unfold band; rw [List.foldl_append]; rfl
theorem band_ok : ∀ (n : Nat) (S : List Pt), S.length = n + 1 → S.Pairwise plt → ∃ m M, S.head? = some m ∧ S.getLast? = some M ∧ Bnd S (band S) m M := by
  intro n
  induction n with
  | zero =>
    intro S hl hp
    match S, hl with
    | [a], _ =>
      exact ⟨a, a, rfl, rfl, trivial, trivial, rfl, rfl, fun s hs => .inr (by simp at hs; exact hs.symm), fun s hs => .inr (by simpa using hs), fun x hx => hx⟩
  | succ n ih =>
    intro S hl hp
    have hne : S ≠ [] := fun e => by rw [e] at hl; simp at hl
    have es := (List.dropLast_concat_getLast hne).symm
    generalize S.getLast hne = z at es
    generalize S.dropLast = T at es
    subst es
    have hT : T.length = n + 1 := by simpa using hl
    rw [List.pairwise_append] at hp
    obtain ⟨m, M, h1, h2, hb⟩ := ih T hT hp.1
    have hTne : T ≠ [] := fun e => by rw [e] at hT; simp at hT
    refine ⟨m, z, ?_, by simp, ?_⟩
    · cases T with
      | nil => exact absurd rfl hTne
      | cons t T => simpa using h1
    · rw [band_snoc]
      exact hb.push (fun s hs => hp.2.2 s hs z (by simp)) hTne
end PF

namespace PF
def dot (w p : Pt) : Int := w.1 * p.1 + w.2 * p.2
theorem edge_dot {w b a s : Pt} (hw : w.2 ≤ 0) (h1 : plt b s) (h2 : ple s a) (h3 : plt b a) (t : 0 ≤ tn b a s) : dot w s ≤ dot w b ∨ dot w s ≤ dot w a := by
  have s1 : b.1 ≤ s.1 := by rcases h1 with h | h <;> omega
  have s2 : s.1 ≤ a.1 := by
    rcases h2 with h | rfl
    · rcases h with h | h <;> omega
    · exact Int.le_refl _
  apply Classical.byContradiction
  intro hn
  have n1 : 1 ≤ dot w s - dot w b := by omega
  have n2 : 1 ≤ dot w s - dot w a := by omega
  by_cases hu : b.1 < a.1
  · have e : (a.1 - s.1) * (dot w s - dot w b) + (s.1 - b.1) * (dot w s - dot w a) = w.2 * tn b a s := by unfold dot tn; grind
    have p1 : (a.1 - s.1) * 1 ≤ (a.1 - s.1) * (dot w s - dot w b) := Int.mul_le_mul_of_nonneg_left n1 (by omega)
    have p2 : (s.1 - b.1) * 1 ≤ (s.1 - b.1) * (dot w s - dot w a) := Int.mul_le_mul_of_nonneg_left n2 (by omega)
    have p3 : w.2 * tn b a s ≤ 0 := Int.mul_nonpos_of_nonpos_of_nonneg hw t
    omega
  · have q1 : s.1 = b.1 := by omega
    have q2 : b.2 < s.2 := by rcases h1 with h | h <;> omega
    have e : dot w s - dot w b = w.2 * (s.2 - b.2) := by unfold dot; rw [q1]; grind
    have p3 : w.2 * (s.2 - b.2) ≤ 0 := Int.mul_nonpos_of_nonpos_of_nonneg hw (by omega)
    omega
theorem walk_dot {w m s : Pt} {S : List Pt} (hw : w.2 ≤ 0) (hs : s ∈ S) (hm : ple m s) : ∀ {st : List Pt}, EC (Lf S) st → st.getLast? = some m → (∀ a r, st = a :: r → ple s a) → ∃ c ∈ st, dot w s ≤ dot w c
  | [], _, h, _ => by simp at h
  | [a], _, h, h2 => by
    have e : a = m := by simpa using h
    subst e
    have : s = a := ple_antisymm (h2 a [] rfl) hm
    exact ⟨a, List.mem_cons_self, by rw [this]; exact Int.le_refl _⟩
  | a :: b :: r, h, hl, h2 => by
    rcases plt_or s b with q | q
    · obtain ⟨c, hc, hd⟩ := walk_dot hw hs hm (st := b :: r) h.2 (by simpa using hl) (by intro a' r' e; cases e; exact q)
      exact ⟨c, List.mem_cons_of_mem _ hc, hd⟩
    · rcases edge_dot hw q (h2 a _ rfl) h.1.1 (h.1.2 s hs) with y | y
      · exact ⟨b, by simp, y⟩
      · exact ⟨a, by simp, y⟩
theorem Bnd.dot {S st : List Pt} {m M w s : Pt} (h : Bnd S st m M) (hw : w.2 ≤ 0) (hs : s ∈ S) : ∃ c ∈ st, dot w s ≤ dot w c :=
  walk_dot hw hs (h.lo s hs) h.ec h.last fun a r e => by
    have : a = M := by have := h.top; rw [e] at this; simpa using this
    subst this
    exact h.hi s hs
/-! ### turned by half a round -/
def ng (p : Pt) : Pt := (-p.1, -p.2)
theorem ng_ng (p : Pt) : ng (ng p) = p := by simp [ng]
theorem tn_ng (o a b : Pt) : tn (ng o) (ng a) (ng b) = tn o a b := by unfold tn ng; grind
theorem plt_ng {a b : Pt} (h : plt (ng a) (ng b)) : plt b a := by unfold plt ng at *; simp only at h; omega
theorem ng_plt {a b : Pt} (h : plt b a) : plt (ng a) (ng b) := by unfold plt ng at *; simp only; omega
theorem dot_ng (w p : Pt) : dot (ng w) (ng p) = dot w p := by unfold dot ng; grind
theorem pops_map {f : Pt → Pt} (hf : ∀ o a b, tn (f o) (f a) (f b) = tn o a b) (z : Pt) : ∀ st : List Pt, pops (f z) (st.map f) = (pops z st).map f
  | [] => rfl
  | [a] => rfl
  | a :: b :: r => by
    have ih := pops_map hf z (b :: r)
    simp only [List.map_cons] at ih ⊢
    by_cases h : tn b a z ≤ 0
    · have h' : tn (f b) (f a) (f z) ≤ 0 := by rw [hf]; exact h
      simp only [pops, h, h', if_true, ih]
    · have h' : ¬ tn (f b) (f a) (f z) ≤ 0 := by rw [hf]; exact h
      simp only [pops, h, h', if_false, List.map_cons]
theorem band_map {f : Pt → Pt} (hf : ∀ o a b, tn (f o) (f a) (f b) = tn o a b) (S : List Pt) : band (S.map f) = (band S).map f := by
  unfold band
  have key : ∀ (S st : List Pt), (S.map f).foldl (fun st z => z :: pops z st) (st.map f) = (S.foldl (fun st z => z :: pops z st) st).map f := by
    intro S
    induction S with
    | nil => intro st; rfl
    | cons z S ih =>
      intro st
      simp only [List.map_cons, List.foldl_cons]
      rw [pops_map hf]
      exact ih (z :: pops z st)
  exact key S []
/-- the band of the points from behind -/
theorem band_rev {S : List Pt} (hl : 1 ≤ S.length) (hp : S.Pairwise plt) : ∃ m M, S.head? = some m ∧ S.getLast? = some M ∧ Bnd S (band S) m M ∧ Bnd (S.reverse.map ng) ((band S.reverse).map ng) (ng M) (ng m) := by
  obtain ⟨n, hn⟩ : ∃ n, S.length = n + 1 := ⟨S.length - 1, by omega⟩
  obtain ⟨m, M, h1, h2, hb⟩ := band_ok n S hn hp
  have hp' : (S.reverse.map ng).Pairwise plt := by
    rw [List.pairwise_map, List.pairwise_reverse]
    exact hp.imp fun h => ng_plt h
  obtain ⟨m', M', h3, h4, hb'⟩ := band_ok n (S.reverse.map ng) (by simpa using hn) hp'
  rw [band_map tn_ng] at hb'
  have e3 : m' = ng M := by
    rw [List.head?_map, List.head?_reverse, h2] at h3
    simpa using h3.symm
  have e4 : M' = ng m := by
    rw [List.getLast?_map, List.getLast?_reverse, h1] at h4
    simpa using h4.symm
  subst e3; subst e4
  exact ⟨m, M, h1, h2, hb, hb'⟩
/-! ### the corners, one behind another -/
def hl (S : List Pt) : List Pt := (band S).reverse
def cor (S : List Pt) : List Pt := (hl S).dropLast ++ (hl S.reverse).dropLast
def CH (R : Pt → Pt → Prop) : List Pt → Prop
  | a :: b :: r => R a b ∧ CH R (b :: r)
  | _ => True
theorem CH.snoc {R : Pt → Pt → Prop} : ∀ {l : List Pt} {b a : Pt}, CH R (l ++ [b]) → R b a → CH R (l ++ [b] ++ [a])
  | [], _, _, _, h => ⟨h, trivial⟩
  | [x], _, _, h, h' => ⟨h.1, h', trivial⟩
  | x :: y :: l, b, a, h, h' => ⟨h.1, CH.snoc (l := y :: l) h.2 h'⟩
theorem CH.join {R : Pt → Pt → Prop} : ∀ {l k : List Pt} {x : Pt}, CH R (l ++ [x]) → CH R (x :: k) → CH R (l ++ x :: k)
  | [], _, _, _, h => h
  | [y], _, _, h, h' => ⟨h.1, h'⟩
  | y :: z :: l, k, x, h, h' => ⟨h.1, CH.join (l := z :: l) h.2 h'⟩
theorem EC.ch {P : Pt → Pt → Prop} : ∀ {st : List Pt}, EC P st → CH P st.reverse
  | [], _ => trivial
  | [_], _ => trivial
  | a :: b :: r, h => by
    have ih := EC.ch (st := b :: r) h.2
    rw [List.reverse_cons] at ih ⊢
    rw [List.reverse_cons]
    exact ih.snoc h.1
theorem CH.imp {R R' : Pt → Pt → Prop} (f : ∀ a b, R a b → R' a b) : ∀ {l : List Pt}, CH R l → CH R' l
  | [], _ => trivial
  | [_], _ => trivial
  | _ :: b :: r, h => ⟨f _ _ h.1, CH.imp f (l := b :: r) h.2⟩
theorem CH.pairs {R : Pt → Pt → Prop} {h : Pt} : ∀ {C : List Pt}, CH R (C ++ [h]) → ∀ pq ∈ C.zip (C.drop 1 ++ [h]), R pq.1 pq.2
  | [], _, pq, hm => by simp at hm
  | [a], hc, pq, hm => by
    simp at hm; subst hm; exact hc.1
  | a :: b :: r, hc, pq, hm => by
    simp only [List.drop_succ_cons, List.drop_zero, List.cons_append, List.zip_cons_cons, List.mem_cons] at hm
    rcases hm with rfl | hm
    · exact hc.1
    · exact CH.pairs (C := b :: r) hc.2 pq (by simpa using hm)
theorem ec_ng {S st : List Pt} (h : EC (Lf (S.reverse.map ng)) (st.map ng)) : EC (fun b a => ∀ s ∈ S, 0 ≤ tn b a s) st := by
  induction st with
  | nil => trivial
  | cons a st ih =>
    cases st with
    | nil => trivial
    | cons b st =>
      refine ⟨fun s hs => ?_, ih h.2⟩
      have := h.1.2 (ng s) (List.mem_map.mpr ⟨s, by simpa using hs, rfl⟩)
      rwa [tn_ng] at this
theorem head_ne {S : List Pt} {m M : Pt} (hl : 2 ≤ S.length) (hp : S.Pairwise plt) (h1 : S.head? = some m) (h2 : S.getLast? = some M) : plt m M := by
  match S, hl with
  | a :: b :: r, _ =>
    have e : a = m := by simpa using h1
    subst e
    rw [List.pairwise_cons] at hp
    refine hp.1 M ?_
    have : (b :: r).getLast? = some M := by simpa using h2
    exact List.mem_of_getLast? this
theorem cor_facts {S : List Pt} (h2 : 2 ≤ S.length) (hp : S.Pairwise plt) :
    (∀ pq ∈ (cor S).zip ((cor S).drop 1 ++ (cor S).take 1), ∀ s ∈ S, 0 ≤ tn pq.1 pq.2 s) ∧ (∀ c ∈ cor S, c ∈ S) ∧ ∀ w : Pt, ∀ s ∈ S, ∃ c ∈ cor S, dot w s ≤ dot w c := by
  obtain ⟨m, M, hm, hM, hb, hr⟩ := band_rev (by omega) hp
  have hlt := head_ne h2 hp hm hM
  have hne : m ≠ M := fun e => by subst e; unfold plt at hlt; omega
  -- both bands as lists
  have l1 : ∃ k, hl S = m :: k ++ [M] := by
    unfold hl
    have t := hb.top
    have l := hb.last
    cases hst : band S with
    | nil => rw [hst] at t; simp at t
    | cons a st =>
      rw [hst] at t l
      have : a = M := by simpa using t
      subst this
      cases hr' : st.reverse with
      | nil =>
        have : st = [] := by simpa using hr'
        subst this
        have : a = m := by simpa using l
        exact absurd this.symm hne
      | cons x k =>
        have : st.getLast? = some x := by rw [← List.head?_reverse, hr']; rfl
        have e : x = m := by
          cases st with
          | nil => simp at hr'
          | cons y ys => rw [List.getLast?_cons_cons] at l; rw [this] at l; simpa using l
        subst e
        exact ⟨k, by simp [hr']⟩
  have hr2 : ∃ k, hl S.reverse = M :: k ++ [m] := by
    unfold hl
    have t := hr.top
    have l := hr.last
    cases hst : band S.reverse with
    | nil => rw [hst] at t; simp at t
    | cons a st =>
      rw [hst] at t l
      have : ng a = ng m := by simpa using t
      have ea : a = m := by have := congrArg ng this; rwa [ng_ng, ng_ng] at this
      subst ea
      cases hr' : st.reverse with
      | nil =>
        have : st = [] := by simpa using hr'
        subst this
        have : ng a = ng M := by simpa using l
        have := congrArg ng this
        rw [ng_ng, ng_ng] at this
        exact absurd this hne
      | cons x k =>
        have hx : st.getLast? = some x := by rw [← List.head?_reverse, hr']; rfl
        have e : x = M := by
          cases st with
          | nil => simp at hr'
          | cons y ys =>
            rw [List.map_cons, List.map_cons, List.getLast?_cons_cons, ← List.map_cons, List.getLast?_map, hx] at l
            have : ng x = ng M := by simpa using l
            have := congrArg ng this
            rwa [ng_ng, ng_ng] at this
        subst e
        exact ⟨k, by simp [hr']⟩
  obtain ⟨k1, e1⟩ := l1
  obtain ⟨k2, e2⟩ := hr2
  have ec : cor S = m :: k1 ++ M :: k2 := by
    unfold cor
    rw [e1, e2, List.dropLast_concat, List.dropLast_concat]
  have sub1 : ∀ c ∈ m :: k1 ++ [M], c ∈ band S := fun c hc => by
    rw [← e1] at hc; simpa [hl] using hc
  have sub2 : ∀ c ∈ M :: k2 ++ [m], c ∈ band S.reverse := fun c hc => by
    rw [← e2] at hc; simpa [hl] using hc
  have inS2 : ∀ c ∈ band S.reverse, c ∈ S := fun c hc => by
    have := hr.sub (ng c) (List.mem_map.mpr ⟨c, hc, rfl⟩)
    obtain ⟨d, hd, e⟩ := List.mem_map.mp this
    have := congrArg ng e
    rw [ng_ng, ng_ng] at this
    rw [← this]; simpa using hd
  refine ⟨fun pq hpq => ?_, fun c hc => ?_, fun w s hs => ?_⟩
  · have c1 : CH (fun b a => ∀ s ∈ S, 0 ≤ tn b a s) (m :: k1 ++ [M]) := by
      rw [← e1]
      exact (hb.ec.imp fun b a q => q.2).ch
    have c2 : CH (fun b a => ∀ s ∈ S, 0 ≤ tn b a s) (M :: k2 ++ [m]) := by
      rw [← e2]
      exact (ec_ng hr.ec).ch
    have c3 : CH (fun b a => ∀ s ∈ S, 0 ≤ tn b a s) (cor S ++ [m]) := by
      rw [ec]
      have := CH.join (l := m :: k1) (k := k2 ++ [m]) c1 c2
      simpa using this
    have ht : (cor S).take 1 = [m] := by rw [ec]; rfl
    rw [ht] at hpq
    exact CH.pairs c3 pq hpq
  · rw [ec] at hc
    rcases List.mem_append.mp hc with q | q
    · exact hb.sub c (sub1 c (List.mem_append.mpr (.inl q)))
    · exact inS2 c (sub2 c (by simp at q ⊢; rcases q with q | q <;> simp [q]))
  · by_cases hw : w.2 ≤ 0
    · obtain ⟨c, hc, hd⟩ := hb.dot hw hs
      refine ⟨c, ?_, hd⟩
      have : c ∈ hl S := by simpa [hl] using hc
      rw [e1] at this
      rw [ec]
      simp at this ⊢
      rcases this with q | q | q
      · exact .inl q
      · exact .inr (.inl q)
      · exact .inr (.inr (.inl q))
    · obtain ⟨c, hc, hd⟩ := hr.dot (w := ng w) (s := ng s) (by show -w.2 ≤ 0; omega) (List.mem_map.mpr ⟨s, by simpa using hs, rfl⟩)
      obtain ⟨d, hd', rfl⟩ := List.mem_map.mp hc
      rw [dot_ng, dot_ng] at hd
      refine ⟨d, ?_, hd⟩
      have : d ∈ hl S.reverse := by simpa [hl] using hd'
      rw [e2] at this
      rw [ec]
      simp at this ⊢
      rcases this with q | q | q
      · exact .inr (.inr (.inl q))
      · exact .inr (.inr (.inr q))
      · exact .inl q
theorem cor_two (p q : Pt) : cor [p, q] = [p, q] := rfl
/-! ### moved along -/
def sh (v p : Pt) : Pt := (p.1 + v.1, p.2 + v.2)
theorem tn_sh (v o a b : Pt) : tn (sh v o) (sh v a) (sh v b) = tn o a b := by unfold tn sh; grind
theorem cor_sh (v : Pt) (S : List Pt) : cor (S.map (sh v)) = (cor S).map (sh v) := by
  unfold cor hl
  rw [← List.map_reverse, band_map (tn_sh v), band_map (tn_sh v)]
  simp [List.map_reverse, List.map_dropLast]
end PF

namespace PF
/-! ### corners are the points that some wish has best, alone -/
def Ext (S : List Pt) (c : Pt) : Prop := c ∈ S ∧ ∃ w : Pt, ∀ s ∈ S, s ≠ c → dot w s < dot w c
theorem ext_turn {S : List Pt} {b c a : Pt} (hc : c ∈ S) (t : 0 < tn b c a) (h1 : ∀ s ∈ S, 0 ≤ tn b c s) (h2 : ∀ s ∈ S, 0 ≤ tn c a s) : Ext S c := by
  refine ⟨hc, ((c.2 - b.2) + (a.2 - c.2), -((c.1 - b.1) + (a.1 - c.1))), fun s hs hne => ?_⟩
  have e : dot ((c.2 - b.2) + (a.2 - c.2), -((c.1 - b.1) + (a.1 - c.1))) c - dot ((c.2 - b.2) + (a.2 - c.2), -((c.1 - b.1) + (a.1 - c.1))) s = tn b c s + tn c a s := by unfold dot tn; simp only; grind
  have k1 := h1 s hs
  have k2 := h2 s hs
  apply Classical.byContradiction
  intro hlt
  have z1 : tn b c s = 0 := by omega
  have z2 : tn c a s = 0 := by omega
  have i1 : tn b c a * (s.1 - c.1) = -(tn c a s) * (c.1 - b.1) + tn b c s * (a.1 - c.1) := by unfold tn; grind
  have i2 : tn b c a * (s.2 - c.2) = -(tn c a s) * (c.2 - b.2) + tn b c s * (a.2 - c.2) := by unfold tn; grind
  rw [z1, z2] at i1 i2
  have j1 : tn b c a * (s.1 - c.1) = 0 := by rw [i1]; simp
  have j2 : tn b c a * (s.2 - c.2) = 0 := by rw [i2]; simp
  have x1 : s.1 - c.1 = 0 := by
    rcases Int.mul_eq_zero.mp j1 with q | q
    · omega
    · exact q
  have x2 : s.2 - c.2 = 0 := by
    rcases Int.mul_eq_zero.mp j2 with q | q
    · omega
    · exact q
  exact hne (Prod.ext (by omega) (by omega))
def B20 (S : List Pt) : Prop := ∀ s ∈ S, -20 ≤ s.1 ∧ s.1 ≤ 20 ∧ -20 ≤ s.2 ∧ s.2 ≤ 20
theorem ext_lo {S : List Pt} {m : Pt} (hb : B20 S) (hm : m ∈ S) (h : ∀ s ∈ S, ple m s) : Ext S m := by
  refine ⟨hm, (-100, -1), fun s hs hne => ?_⟩
  have k1 := hb s hs
  have k2 := hb m hm
  rcases h s hs with q | q
  · unfold dot plt at *; simp only; omega
  · exact absurd q.symm hne
theorem ext_hi {S : List Pt} {m : Pt} (hb : B20 S) (hm : m ∈ S) (h : ∀ s ∈ S, ple s m) : Ext S m := by
  refine ⟨hm, (100, 1), fun s hs hne => ?_⟩
  have k1 := hb s hs
  have k2 := hb m hm
  rcases h s hs with q | q
  · unfold dot plt at *; simp only; omega
  · exact absurd q hne
theorem st_cases {P : Pt → Pt → Prop} : ∀ {st : List Pt}, EC P st → CV st → ∀ c ∈ st, st.head? = some c ∨ st.getLast? = some c ∨ ∃ a b, a ∈ st ∧ b ∈ st ∧ P b c ∧ P c a ∧ 0 < tn b c a
  | [], _, _, c, hc => by cases hc
  | [x], _, _, c, hc => by
    have : c = x := by simpa using hc
    subst this; exact .inl rfl
  | [x, y], _, _, c, hc => by
    rcases List.mem_cons.mp hc with rfl | hc
    · exact .inl rfl
    · have : c = y := by simpa using hc
      subst this; exact .inr (.inl rfl)
  | x :: y :: z :: r, h, hv, c, hc => by
    rcases List.mem_cons.mp hc with rfl | hc
    · exact .inl rfl
    · rcases st_cases (st := y :: z :: r) h.2 hv.2 c hc with q | q | ⟨a, b, ma, mb, q1, q2, q3⟩
      · have : y = c := by simpa using q
        subst this
        exact .inr (.inr ⟨x, z, by simp, by simp, h.2.1, h.1, hv.1⟩)
      · exact .inr (.inl (by rw [List.getLast?_cons_cons]; exact q))
      · exact .inr (.inr ⟨a, b, List.mem_cons_of_mem _ ma, List.mem_cons_of_mem _ mb, q1, q2, q3⟩)
theorem cv_ng : ∀ {st : List Pt}, CV (st.map ng) → CV st
  | [], _ => trivial
  | [_], _ => trivial
  | [_, _], _ => trivial
  | a :: b :: c :: r, h => ⟨by have := h.1; rwa [tn_ng] at this, cv_ng (st := b :: c :: r) h.2⟩
theorem ec_pw : ∀ {st : List Pt}, EC plt st → st.Pairwise (fun a b => plt b a)
  | [], _ => .nil
  | [_], _ => by simp
  | a :: b :: r, h => by
    have ih := ec_pw (st := b :: r) h.2
    refine List.Pairwise.cons (fun z hz => ?_) ih
    rcases List.mem_cons.mp hz with rfl | hz
    · exact h.1
    · exact plt_trans ((List.pairwise_cons.mp ih).1 z hz) h.1
theorem plt_irrefl {a : Pt} (h : plt a a) : False := by unfold plt at h; omega
/-- what both bands are -/
theorem two_bands {S : List Pt} (h2 : 2 ≤ S.length) (hp : S.Pairwise plt) : ∃ m M, m ∈ S ∧ M ∈ S ∧ (∀ s ∈ S, ple m s) ∧ (∀ s ∈ S, ple s M) ∧
    (∀ c ∈ band S, c ∈ S ∧ (c = m ∨ c = M ∨ ∃ a b, a ∈ S ∧ b ∈ S ∧ plt b c ∧ plt c a ∧ (∀ s ∈ S, 0 ≤ tn b c s) ∧ (∀ s ∈ S, 0 ≤ tn c a s) ∧ 0 < tn b c a)) ∧
    (∀ c ∈ band S.reverse, c ∈ S ∧ (c = m ∨ c = M ∨ ∃ e d, e ∈ S ∧ d ∈ S ∧ plt e c ∧ plt c d ∧ (∀ s ∈ S, 0 ≤ tn d c s) ∧ (∀ s ∈ S, 0 ≤ tn c e s) ∧ 0 < tn d c e)) ∧
    (hl S).Pairwise plt ∧ (hl S.reverse).Pairwise (fun a b => plt b a) ∧ (hl S).getLast? = some M ∧ (hl S.reverse).getLast? = some m := by
  obtain ⟨m, M, hm, hM, hb, hr⟩ := band_rev (by omega) hp
  have mS : m ∈ S := List.mem_of_head? hm
  have MS : M ∈ S := List.mem_of_getLast? hM
  have inS2 : ∀ c ∈ band S.reverse, c ∈ S := fun c hc => by
    have := hr.sub (ng c) (List.mem_map.mpr ⟨c, hc, rfl⟩)
    obtain ⟨d, hd, e⟩ := List.mem_map.mp this
    have := congrArg ng e
    rw [ng_ng, ng_ng] at this
    rw [← this]; simpa using hd
  have ngi : ∀ {x y : Pt}, ng x = ng y → x = y := fun {x y} e => by
    have := congrArg ng e
    rwa [ng_ng, ng_ng] at this
  refine ⟨m, M, mS, MS, hb.lo, hb.hi, fun c hc => ⟨hb.sub c hc, ?_⟩, fun c hc => ⟨inS2 c hc, ?_⟩, ?_, ?_, ?_, ?_⟩
  · rcases st_cases hb.ec hb.cv c hc with q | q | ⟨a, b, ma, mb, q1, q2, q3⟩
    · have := hb.top; rw [q] at this
      exact .inr (.inl (by simpa using this))
    · have := hb.last; rw [q] at this
      exact .inl (by simpa using this)
    · exact .inr (.inr ⟨a, b, hb.sub a ma, hb.sub b mb, q1.1, q2.1, q1.2, q2.2, q3⟩)
  · rcases st_cases hr.ec hr.cv (ng c) (List.mem_map.mpr ⟨c, hc, rfl⟩) with q | q | ⟨a, b, ma, mb, q1, q2, q3⟩
    · have := hr.top; rw [q] at this
      exact .inl (ngi (by simpa using this))
    · have := hr.last; rw [q] at this
      exact .inr (.inl (ngi (by simpa using this)))
    · obtain ⟨a', ha', rfl⟩ := List.mem_map.mp ma
      obtain ⟨b', hb', rfl⟩ := List.mem_map.mp mb
      have tS : ∀ {x y : Pt}, (∀ s ∈ S.reverse.map ng, 0 ≤ tn (ng x) (ng y) s) → ∀ s ∈ S, 0 ≤ tn x y s := fun {x y} h s hs => by
        have := h (ng s) (List.mem_map.mpr ⟨s, by simpa using hs, rfl⟩)
        rwa [tn_ng] at this
      rw [tn_ng] at q3
      exact .inr (.inr ⟨a', b', inS2 a' ha', inS2 b' hb', plt_ng q2.1, plt_ng q1.1, tS q1.2, tS q2.2, q3⟩)
  · unfold hl
    rw [List.pairwise_reverse]
    exact ec_pw hb.ec.plt
  · unfold hl
    rw [List.pairwise_reverse]
    have := ec_pw hr.ec.plt
    rw [List.pairwise_map] at this
    exact this.imp fun h => plt_ng h
  · unfold hl
    rw [List.getLast?_reverse]; exact hb.top
  · unfold hl
    rw [List.getLast?_reverse]
    have := hr.top
    cases q : band S.reverse with
    | nil => rw [q] at this; simp at this
    | cons x r =>
      rw [q] at this
      have : ng x = ng m := by simpa using this
      rw [ngi this]; rfl
theorem mem_dl {R : Pt → Pt → Prop} {l : List Pt} {M c : Pt} (hp : l.Pairwise R) (hl : l.getLast? = some M) (hc : c ∈ l.dropLast) : c ∈ l ∧ R c M := by
  obtain ⟨k, rfl⟩ : ∃ k, l = k ++ [M] := by
    obtain ⟨ys, h⟩ := List.getLast?_eq_some_iff.mp hl
    exact ⟨ys, h⟩
  rw [List.dropLast_concat] at hc
  rw [List.pairwise_append] at hp
  exact ⟨by simp [hc], hp.2.2 c hc M (by simp)⟩
theorem cor_ext {S : List Pt} (h2 : 2 ≤ S.length) (hp : S.Pairwise plt) (hb : B20 S) : (∀ c, c ∈ cor S ↔ Ext S c) ∧ (cor S).Nodup := by
  obtain ⟨m, M, mS, MS, lo, hi, k1, k2, p1, p2, g1, g2⟩ := two_bands h2 hp
  have sub1 : ∀ c ∈ hl S, c ∈ band S := fun c hc => by simpa [hl] using hc
  have sub2 : ∀ c ∈ hl S.reverse, c ∈ band S.reverse := fun c hc => by simpa [hl] using hc
  refine ⟨fun c => ⟨fun hc => ?_, fun ⟨hcS, w, hw⟩ => ?_⟩, ?_⟩
  · unfold cor at hc
    rcases List.mem_append.mp hc with q | q
    · obtain ⟨i, j⟩ := k1 c (sub1 c (mem_dl p1 g1 q).1)
      rcases j with rfl | rfl | ⟨a, b, _, _, _, _, t1, t2, t3⟩
      · exact ext_lo hb mS lo
      · exact ext_hi hb MS hi
      · exact ext_turn i t3 t1 t2
    · obtain ⟨i, j⟩ := k2 c (sub2 c (mem_dl p2 g2 q).1)
      rcases j with rfl | rfl | ⟨a, b, _, _, _, _, t1, t2, t3⟩
      · exact ext_lo hb mS lo
      · exact ext_hi hb MS hi
      · exact ext_turn i t3 t1 t2
  · obtain ⟨_, f2, f3⟩ := cor_facts h2 hp
    obtain ⟨d, hd, hle⟩ := f3 w c hcS
    apply Classical.byContradiction
    intro hn
    have hne : d ≠ c := fun e => hn (e ▸ hd)
    have := hw d (f2 d hd) hne
    omega
  · unfold cor
    rw [List.nodup_append]
    refine ⟨?_, ?_, fun c hc d hd e => ?_⟩
    · exact (p1.sublist (List.dropLast_sublist _)).imp fun {a b} h e => by subst e; exact plt_irrefl h
    · exact (p2.sublist (List.dropLast_sublist _)).imp fun {a b} h e => by subst e; exact plt_irrefl h
    · subst e
      obtain ⟨c1, c2⟩ := mem_dl p1 g1 hc
      obtain ⟨d1, d2⟩ := mem_dl p2 g2 hd
      have nM : c ≠ M := fun e => by subst e; exact plt_irrefl c2
      have nm : c ≠ m := fun e => by subst e; exact plt_irrefl d2
      obtain ⟨_, j⟩ := k1 c (sub1 c c1)
      obtain ⟨_, j'⟩ := k2 c (sub2 c d1)
      rcases j with q | q | ⟨a, b, _, _, x1, x2, x3, x4, x5⟩
      · exact nm q
      · exact nM q
      rcases j' with q | q | ⟨e, d, eS, dS, y1, y2, y3, y4, y5⟩
      · exact nm q
      · exact nM q
      -- the four neighbours
      have lu := lp_of x1
      have lv := lp_of x2
      have lpp := lp_of y2
      have lq := lp_of y1
      have t1 := x3 e eS
      have t2 := x4 d dS
      have z1 : 0 ≤ (c.1 - e.1) * (c.2 - b.2) - (c.2 - e.2) * (c.1 - b.1) := by
        have e' : (c.1 - e.1) * (c.2 - b.2) - (c.2 - e.2) * (c.1 - b.1) = tn b c e := by unfold tn; grind
        rw [e']; exact t1
      have z2 : 0 ≤ (c.1 - b.1) * (a.2 - c.2) - (c.2 - b.2) * (a.1 - c.1) := by
        have e' : (c.1 - b.1) * (a.2 - c.2) - (c.2 - b.2) * (a.1 - c.1) = tn b c a := by unfold tn; grind
        rw [e']; omega
      have z3 : 0 ≤ (a.1 - c.1) * (d.2 - c.2) - (a.2 - c.2) * (d.1 - c.1) := t2
      have z4 := T_weak lq lu lv z1 z2
      have z5 := T_weak lq lv lpp z4 z3
      have e' : (c.1 - e.1) * (d.2 - c.2) - (c.2 - e.2) * (d.1 - c.1) = - tn d c e := by unfold tn; grind
      rw [e'] at z5
      omega
theorem perm_of_mem {l1 l2 : List Pt} (h1 : l1.Nodup) (h2 : l2.Nodup) (h : ∀ x, x ∈ l1 ↔ x ∈ l2) : l1.Perm l2 := (List.perm_ext_iff_of_nodup h1 h2).mpr h
end PF

namespace PF
open PySem PySem.Spec PyProof.Rows L2
theorem cfor_st {α β : Type} {i : Nat} {body : C} {p : Pst} (st : Option W → α → Sl) (it : β → D) (hs : ∀ w a d, (st w a).set i (some (.val d)) = st (some (.val d)) a) (Inv : α → Prop) (f : α → β → α) : ∀ (l : List β) (w : Option W) (a : α), Inv a →
    (∀ a b, b ∈ l → Inv a → body (st (some (.val (it b))) a) p = .nx (st (some (.val (it b))) (f a b)) p ∧ Inv (f a b)) → ∃ w', cforGo (tgName i) body (l.map it) (st w a) p = .nx (st w' (l.foldl f a)) p ∧ Inv (l.foldl f a)
  | [], w, a, hI, _ => ⟨w, rfl, hI⟩
  | b :: l, w, a, hI, h => by
    obtain ⟨h1, h2⟩ := h a b List.mem_cons_self hI
    obtain ⟨w', h3, h4⟩ := cfor_st st it hs Inv f l (some (.val (it b))) (f a b) h2 fun a b hb => h a b (List.mem_cons_of_mem _ hb)
    refine ⟨w', ?_, h4⟩
    rw [List.map_cons]
    simp only [cforGo, tgName, hs, h1]
    exact h3
theorem mLc_lstY {i : Nat} {mi : M (List D)} {el : M D} {ρ : Sl} {p p1 : Pst} {items : List D} (hi : mi ρ p = .ok items p1) (g : D → D)
    (h : ∀ d ∈ items, el ((wipeS ρ [i]).set i (some (.val d))) p1 = .ok (g d) p1) : mLc [i] mi (fName i) mYes el ρ p = .ok (items.map g) p1 := by
  have := mLc_lst (i := i) (tt := mYes) hi (fun _ => true) g fun d hd => ⟨rfl, fun _ => h d hd⟩
  rwa [filter_yes] at this
/-! ### bounds -/
abbrev Bd3 := Int × Int × Int
def bD (b : Bd3) : D := .tup [.int b.1, .int b.2.1, .int b.2.2]
def pD (p : Pt) : D := .tup [.int p.1, .int p.2]
structure Bwk (b : Bd3) : Prop where
  a1 : -99 ≤ b.1
  a2 : b.1 ≤ 99
  b1 : -99 ≤ b.2.1
  b2 : b.2.1 ≤ 99
  c1 : -999 ≤ b.2.2
  c2 : b.2.2 ≤ 999
structure Bok (b : Bd3) : Prop extends Bwk b where
  ne : ¬ (b.1 = 0 ∧ b.2.1 = 0)
theorem e_is_integer (i : Int) (p : Pst) : F_is_integer [.int i] p = .ok (.bl true) false p := by
  rw [en_is_integer, c_is_integer]
  simp [isTy]
theorem e_is_within (i l m : Int) (p : Pst) : F_is_within [.int i, .int l, .int m] p = .ok (.bl (decide (l ≤ i) && decide (i ≤ m))) false p := by
  rw [en_is_within, c_is_within]
  by_cases h : l ≤ i <;> simp [e_is_integer, iLe, h]
theorem within_t {i l m : Int} (h1 : l ≤ i) (h2 : i ≤ m) (p : Pst) : F_is_within [.int i, .int l, .int m] p = .ok (.bl true) false p := by
  rw [e_is_within]; simp [h1, h2]
theorem e_is_bound_of (b : Bd3) (h : Bok b) (p : Pst) : F_is_bound_of [bD b] p = .ok (.bl true) false p := by
  rw [en_is_bound_of, c_is_bound_of]
  have sl : dSl (bD b) none (some 2) = some (.tup [.int b.1, .int b.2.1]) := rfl
  have hi : mSeq (mSl (rd 0) (mret none) (mPart (mret (.int 2)))) [some (.val (bD b)), none] p = .ok [.int b.1, .int b.2.1] p := by simp [sl]
  have e1 : m_is_bound_of_1 _ _ = _ := mLc_lstY (i := 1) (el := mFn F_is_within 3 0 [0, 1, 2] (mcons (rd 1) (mcons (mOp dSub (mret (.int 0)) (mret (.int 99))) (mcons (mret (.int 99)) (mret [])))) (mret [])) hi (fun _ => .bl true) fun d hd => by
    simp only [List.mem_cons, List.not_mem_nil, or_false] at hd
    rcases hd with rfl | rfl
    · simp [wipeS, within_t h.a1 h.a2]
    · simp [wipeS, within_t h.b1 h.b2]
  have a1 : dAll [.lst [.bl true, .bl true]] = some (.bl true) := rfl
  have e0 : dEq (.tup [.int b.1, .int b.2.1]) (.tup [.int 0, .int 0]) = some false := by
    have := dEq_intsT [b.1, b.2.1] [0, 0]
    have hne : ¬ ([b.1, b.2.1] = [0, 0]) := by simpa using fun x y => h.ne ⟨x, y⟩
    simpa [hne] using this
  have i2 : dIx (bD b) (.int 2) = some (.int b.2.2) := rfl
  have hl : dLen [bD b] = some (.int 3) := rfl
  have ty : isTy .tuple (bD b) = true := rfl
  have np : noPot (bD b) = true := rfl
  simp [ty, np, hl, e1, a1, sl, e0, i2, within_t h.c1 h.c2]
theorem bnds_all (Bs : List Bd3) (h : ∀ b ∈ Bs, Bok b) (d : D) (hd : d = .lst (Bs.map bD) ∨ d = .tup (Bs.map bD)) (p : Pst) : m_are_bounds_of_1 [some (.val d), none] p = .ok (Bs.map fun _ => .bl true) p := by
  have hi : mSeq (rd 0) [some (.val d), none] p = .ok (Bs.map bD) p := by rcases hd with rfl | rfl <;> simp
  exact mLc_mapY (i := 1) (el := mFn F_is_bound_of 1 0 [0] (mcons (rd 1) (mret [])) (mret [])) hi (fun _ => .bl true) fun b hb => by
    simp [wipeS, e_is_bound_of b (h b hb)]
theorem e_is_list (d : D) (h : noPot d = true) (p : Pst) : F_is_list [d] p = .ok (.bl (isTys [.list, .tuple] d)) false p := by
  rw [en_is_list, c_is_list]
  simp [h]
theorem e_check_bounds (Bs : List Bd3) (h : ∀ b ∈ Bs, Bok b) (h1 : 1 ≤ Bs.length) (h2 : Bs.length ≤ 8) (d : D) (hd : d = .lst (Bs.map bD) ∨ d = .tup (Bs.map bD)) (p : Pst) : F_check_bounds [d] p = .ok .non false p := by
  have e2 : F_are_bounds_of [d] p = .ok (.bl true) false p := by
    rw [en_are_bounds_of, c_are_bounds_of]
    have e1 := bnds_all Bs h d hd p
    have a1 := dAll_map (fun _ : Bd3 => true) Bs
    have a2 : (Bs.all fun _ => true) = true := by simp
    rw [a2] at a1
    have np : noPot d = true := by rcases hd with rfl | rfl <;> rfl
    have tl : isTys [.list, .tuple] d = true := by rcases hd with rfl | rfl <;> rfl
    have el := e_is_list d np p
    rw [tl] at el
    have hl : dLen [d] = some (.int Bs.length) := by
      rcases hd with rfl | rfl
      · rw [dLen_lst]; simp
      · rw [dLen_tup]; simp
    have w1 : iLe 1 (Bs.length : Int) = true := by unfold iLe; simp; omega
    have w2 : iLe (Bs.length : Int) 8 = true := by unfold iLe; simp; omega
    simp [el, hl, w1, w2, e1, a1]
  rw [en_check_bounds, c_check_bounds]
  simp [e2]
/-! ### columns -/
def topB (b : Bd3) (x : Int) : Int := (b.2.2 - b.1 * x) / b.2.1
def flrB (b : Bd3) (x : Int) : Int := 0 - (b.2.2 - b.1 * x) / (0 - b.2.1)
def outB (b : Bd3) (x : Int) : Bool := if b.2.1 = 0 then decide (b.2.2 < b.1 * x) else if 0 < b.2.1 then decide (topB b x < -20) else decide (20 < flrB b x)
def inB (b : Bd3) (x y : Int) : Bool := decide (b.1 * x + b.2.1 * y ≤ b.2.2)
theorem ix0 (b : Bd3) : dIx (bD b) (.int 0) = some (.int b.1) := rfl
theorem ix1 (b : Bd3) : dIx (bD b) (.int 1) = some (.int b.2.1) := rfl
theorem ix2 (b : Bd3) : dIx (bD b) (.int 2) = some (.int b.2.2) := rfl
theorem mul_s {i j : Int} (h : -1000000 ≤ i) (h' : i ≤ 1000000) : dMul (.int i) (.int j) = some (.int (i * j)) := dMul_int (.inl (by omega))
theorem e_top_of (b : Bd3) (h : Bwk b) (hp : 0 < b.2.1) (x : Int) (p : Pst) : F_top_of [bD b, .int x] p = .ok (.int (topB b x)) false p := by
  rw [en_top_of, c_top_of]
  have m1 := mul_s (i := b.1) (j := x) (by have := h.a1; omega) (by have := h.a2; omega)
  have d1 := dDiv_int (i := b.2.2 - b.1 * x) hp (by have := h.b2; omega)
  simp [ix0, ix1, ix2, m1, d1, topB]
theorem e_floor_of (b : Bd3) (h : Bwk b) (hp : b.2.1 < 0) (x : Int) (p : Pst) : F_floor_of [bD b, .int x] p = .ok (.int (flrB b x)) false p := by
  rw [en_floor_of, c_floor_of]
  have m1 := mul_s (i := b.1) (j := x) (by have := h.a1; omega) (by have := h.a2; omega)
  have d1 := dDiv_int (i := b.2.2 - b.1 * x) (j := 0 - b.2.1) (by omega) (by have := h.b1; omega)
  simp [ix0, ix1, ix2, m1, flrB] at d1 ⊢
  simp [d1]
theorem e_is_out_at (b : Bd3) (h : Bwk b) (x : Int) (p : Pst) : F_is_out_at [bD b, .int x] p = .ok (.bl (outB b x)) false p := by
  rw [en_is_out_at, c_is_out_at]
  have m1 := mul_s (i := b.1) (j := x) (by have := h.a1; omega) (by have := h.a2; omega)
  unfold outB
  by_cases h0 : b.2.1 = 0
  · simp [ix0, ix1, ix2, m1, h0]
  · by_cases hp : 0 < b.2.1
    · simp [ix1, h0, hp, e_top_of b h hp]
    · simp [ix1, h0, hp, e_floor_of b h (by omega)]
/-- what a column holds -/
theorem in_top {b : Bd3} (hp : 0 < b.2.1) (x y : Int) : b.1 * x + b.2.1 * y ≤ b.2.2 ↔ y ≤ topB b x := by
  unfold topB
  rw [Int.le_ediv_iff_mul_le hp, Int.mul_comm y]
  omega
theorem in_flr {b : Bd3} (hp : b.2.1 < 0) (x y : Int) : b.1 * x + b.2.1 * y ≤ b.2.2 ↔ flrB b x ≤ y := by
  unfold flrB
  have h1 := Int.le_ediv_iff_mul_le (a := -y) (b := b.2.2 - b.1 * x) (c := 0 - b.2.1) (by omega)
  have e : -y * (0 - b.2.1) = b.2.1 * y := by grind
  rw [e] at h1
  omega
end PF

namespace PF
open PySem PySem.Spec PyProof.Rows L2
theorem cfor_pre {α β : Type} {i : Nat} {body : C} {p : Pst} (st : Option W → α → Sl) (it : β → D) (hs : ∀ w a d, (st w a).set i (some (.val d)) = st (some (.val d)) a) (g : List β → α) : ∀ (l pre : List β) (w : Option W),
    (∀ pre' b post, pre ++ l = pre' ++ b :: post → body (st (some (.val (it b))) (g pre')) p = .nx (st (some (.val (it b))) (g (pre' ++ [b]))) p) → ∃ w', cforGo (tgName i) body (l.map it) (st w (g pre)) p = .nx (st w' (g (pre ++ l))) p
  | [], pre, w, _ => ⟨w, by rw [List.append_nil]; rfl⟩
  | b :: l, pre, w, h => by
    have h1 := h pre b l rfl
    obtain ⟨w', h3⟩ := cfor_pre st it hs g l (pre ++ [b]) (some (.val (it b))) (by
      intro pre' b' post e
      exact h pre' b' post (by rw [← e]; simp))
    refine ⟨w', ?_⟩
    rw [List.map_cons]
    simp only [cforGo, tgName, hs, h1]
    rw [h3]
    simp
theorem cat_ok {xs ys : List D} (h : xs.length + ys.length ≤ 16000000) : dAdd (.lst xs) (.lst ys) = some (.lst (xs ++ ys)) := by
  show dCatL (.lst xs) (.lst ys) = _
  simp only [dCatL]
  rw [if_pos (by rw [sizeLine_eq]; omega)]
/-! ### ranges -/
theorem iRange2 {a b : Int} (h : -1000000 ≤ a) (h2 : a ≤ 1000000) (h3 : -1000000 ≤ b) (h4 : b ≤ 1000000) : dRange2 [.int a, .int b] = some (rgL a (b - a).toNat) := by
  have hc : -(2 ^ 60) ≤ a ∧ a < 2 ^ 60 ∧ -(2 ^ 60) ≤ b ∧ b < 2 ^ 60 ∧ b - a ≤ 16000000 := ⟨by omega, by omega, by omega, by omega, by omega⟩
  simp only [dRange2]
  rw [if_pos hc]
def up (lo : Int) (n : Nat) : List Int := (List.range n).map fun (k : Nat) => lo + (k : Int)
theorem rgL_up (lo : Int) (n : Nat) : rgL lo n = (up lo n).map .int := by
  unfold rgL up
  rw [List.map_map]; rfl
def cols : List Int := up (-20) 41
theorem mem_up {lo : Int} {n : Nat} {y : Int} : y ∈ up lo n ↔ lo ≤ y ∧ y < lo + n := by
  unfold up
  simp only [List.mem_map, List.mem_range]
  constructor
  · rintro ⟨k, hk, rfl⟩; omega
  · rintro ⟨h1, h2⟩; exact ⟨(y - lo).toNat, by omega, by omega⟩
theorem mem_cols {y : Int} : y ∈ cols ↔ -20 ≤ y ∧ y ≤ 20 := by unfold cols; rw [mem_up]; omega
theorem up_app (lo : Int) (m n : Nat) : up lo (m + n) = up lo m ++ up (lo + m) n := by
  unfold up
  rw [List.range_add, List.map_append, List.map_map]
  congr 1
  refine List.map_congr_left fun k _ => ?_
  simp only [Function.comp]
  omega
theorem filt_none {l : List Int} {f : Int → Bool} (h : ∀ y ∈ l, f y = false) : l.filter f = [] := by
  rw [List.filter_eq_nil_iff]; intro y hy; rw [h y hy]; simp
theorem filt_all {l : List Int} {f : Int → Bool} (h : ∀ y ∈ l, f y = true) : l.filter f = l := List.filter_eq_self.mpr h
theorem filt_cols {lo hi : Int} (h1 : -20 ≤ lo) (h2 : hi ≤ 20) : cols.filter (fun y => decide (lo ≤ y) && decide (y ≤ hi)) = up lo (hi + 1 - lo).toNat := by
  by_cases h : hi < lo
  · have e : (hi + 1 - lo).toNat = 0 := by omega
    rw [e]
    refine filt_none fun y hy => ?_
    rw [Bool.and_eq_false_iff, decide_eq_false_iff_not, decide_eq_false_iff_not]; omega
  · have e : cols = up (-20) (lo + 20).toNat ++ (up lo (hi + 1 - lo).toNat ++ up (hi + 1) (20 - hi).toNat) := by
      unfold cols
      have e1 : 41 = (lo + 20).toNat + ((hi + 1 - lo).toNat + (20 - hi).toNat) := by omega
      rw [e1, up_app, up_app]
      have e2 : (-20 : Int) + ((lo + 20).toNat : Int) = lo := by omega
      rw [e2]
      have e3 : lo + ((hi + 1 - lo).toNat : Int) = hi + 1 := by omega
      rw [e3]
    rw [e, List.filter_append, List.filter_append]
    rw [filt_none (l := up (-20) (lo + 20).toNat), filt_none (l := up (hi + 1) (20 - hi).toNat), filt_all (l := up lo (hi + 1 - lo).toNat)]
    · simp
    · intro y hy; have := mem_up.mp hy; rw [Bool.and_eq_true, decide_eq_true_eq, decide_eq_true_eq]; omega
    · intro y hy; have := mem_up.mp hy; rw [Bool.and_eq_false_iff, decide_eq_false_iff_not, decide_eq_false_iff_not]; omega
    · intro y hy; have := mem_up.mp hy; rw [Bool.and_eq_false_iff, decide_eq_false_iff_not, decide_eq_false_iff_not]; omega
/-! ### points of a column -/
def pcol (Bs : List Bd3) (x : Int) : List Int := cols.filter fun y => Bs.all fun b => inB b x y
def flrs (Bs : List Bd3) (x : Int) : List Int := (Bs.filter fun b => decide (b.2.1 < 0)).map fun b => flrB b x
def tops (Bs : List Bd3) (x : Int) : List Int := (Bs.filter fun b => decide (0 < b.2.1)).map fun b => topB b x
def low (Bs : List Bd3) (x : Int) : Int := maxI (-20 :: flrs Bs x)
def high (Bs : List Bd3) (x : Int) : Int := minI (20 :: tops Bs x)
theorem low_le (Bs : List Bd3) (x y : Int) : low Bs x ≤ y ↔ -20 ≤ y ∧ ∀ b ∈ Bs, b.2.1 < 0 → flrB b x ≤ y := by
  obtain ⟨h1, h2⟩ := maxI_spec (ns := -20 :: flrs Bs x) (by simp)
  constructor
  · intro h
    refine ⟨Int.le_trans (h2 _ List.mem_cons_self) h, fun b hb hn => Int.le_trans (h2 _ (List.mem_cons_of_mem _ ?_)) h⟩
    exact List.mem_map.mpr ⟨b, List.mem_filter.mpr ⟨hb, by simpa using hn⟩, rfl⟩
  · rintro ⟨h3, h4⟩
    rcases List.mem_cons.mp h1 with e | e
    · unfold low; rw [e]; exact h3
    · obtain ⟨b, hb, eb⟩ := List.mem_map.mp e
      obtain ⟨k1, k2⟩ := List.mem_filter.mp hb
      unfold low; rw [← eb]; exact h4 b k1 (by simpa using k2)
theorem le_high (Bs : List Bd3) (x y : Int) : y ≤ high Bs x ↔ y ≤ 20 ∧ ∀ b ∈ Bs, 0 < b.2.1 → y ≤ topB b x := by
  obtain ⟨h1, h2⟩ := minI_spec (ns := 20 :: tops Bs x) (by simp)
  constructor
  · intro h
    refine ⟨Int.le_trans h (h2 _ List.mem_cons_self), fun b hb hn => Int.le_trans h (h2 _ (List.mem_cons_of_mem _ ?_))⟩
    exact List.mem_map.mpr ⟨b, List.mem_filter.mpr ⟨hb, by simpa using hn⟩, rfl⟩
  · rintro ⟨h3, h4⟩
    rcases List.mem_cons.mp h1 with e | e
    · unfold high; rw [e]; exact h3
    · obtain ⟨b, hb, eb⟩ := List.mem_map.mp e
      obtain ⟨k1, k2⟩ := List.mem_filter.mp hb
      unfold high; rw [← eb]; exact h4 b k1 (by simpa using k2)
theorem inB_iff {b : Bd3} {x y : Int} : inB b x y = true ↔ b.1 * x + b.2.1 * y ≤ b.2.2 := by unfold inB; rw [decide_eq_true_eq]
theorem pcol_in {Bs : List Bd3} {x : Int} (h : Bs.any (fun b => outB b x) = false) : pcol Bs x = up (low Bs x) (high Bs x + 1 - low Bs x).toNat := by
  rw [← filt_cols]
  · unfold pcol
    refine List.filter_congr fun y hy => ?_
    have hy' := mem_cols.mp hy
    rw [Bool.eq_iff_iff, Bool.and_eq_true, decide_eq_true_eq, decide_eq_true_eq, low_le, le_high, List.all_eq_true]
    constructor
    · intro hall
      exact ⟨⟨hy'.1, fun b hb hn => (in_flr hn x y).mp (inB_iff.mp (hall b hb))⟩, hy'.2, fun b hb hp => (in_top hp x y).mp (inB_iff.mp (hall b hb))⟩
    · rintro ⟨⟨_, h1⟩, _, h2⟩ b hb
      refine inB_iff.mpr ?_
      rcases Int.lt_trichotomy b.2.1 0 with q | q | q
      · exact (in_flr q x y).mpr (h1 b hb q)
      · have ho : outB b x = false := by simpa using List.any_eq_false.mp h b hb
        unfold outB at ho
        rw [if_pos q, decide_eq_false_iff_not] at ho
        rw [q]; omega
      · exact (in_top q x y).mpr (h2 b hb q)
  · exact ((low_le Bs x (low Bs x)).mp (Int.le_refl _)).1
  · exact ((le_high Bs x (high Bs x)).mp (Int.le_refl _)).1
theorem pcol_out {Bs : List Bd3} {x : Int} (h : Bs.any (fun b => outB b x) = true) : pcol Bs x = [] := by
  obtain ⟨b, hb, ho⟩ := List.any_eq_true.mp h
  refine filt_none fun y hy => ?_
  have hy' := mem_cols.mp hy
  rw [List.all_eq_false]
  refine ⟨b, hb, fun hin => ?_⟩
  have hin := inB_iff.mp hin
  unfold outB at ho
  rcases Int.lt_trichotomy b.2.1 0 with q | q | q
  · rw [if_neg (by omega), if_neg (by omega), decide_eq_true_eq] at ho
    have := (in_flr q x y).mp hin; omega
  · rw [if_pos q, decide_eq_true_eq] at ho
    rw [q] at hin; omega
  · rw [if_neg (by omega), if_pos q, decide_eq_true_eq] at ho
    have := (in_top q x y).mp hin; omega
theorem low_ge (Bs : List Bd3) (x : Int) : -20 ≤ low Bs x := ((low_le Bs x (low Bs x)).mp (Int.le_refl _)).1
theorem high_le (Bs : List Bd3) (x : Int) : high Bs x ≤ 20 := ((le_high Bs x (high Bs x)).mp (Int.le_refl _)).1
/-! ### the program's walk over a column -/
theorem out_any (Bs : List Bd3) (h : ∀ b ∈ Bs, Bwk b) (d : D) (hd : d = .lst (Bs.map bD) ∨ d = .tup (Bs.map bD)) (x : Int) (p : Pst) (s2 s3 s4 s5 : Option W) : m_points_at_1 [some (.val d), some (.val (.int x)), s2, s3, s4, s5] p = .ok (Bs.map fun b => .bl (outB b x)) p := by
  have hi : mSeq (rd 0) [some (.val d), some (.val (.int x)), s2, s3, s4, s5] p = .ok (Bs.map bD) p := by rcases hd with rfl | rfl <;> simp
  exact mLc_mapY (i := 5) (el := mFn F_is_out_at 2 0 [0, 1] (mcons (rd 5) (mcons (rd 1) (mret []))) (mret [])) hi (fun b => .bl (outB b x)) fun b hb => by
    simp [wipeS, e_is_out_at b (h b hb)]
theorem flrB_bd {b : Bd3} (h : Bwk b) {x : Int} (h1 : -20 ≤ x) (h2 : x ≤ 20) (hn : b.2.1 < 0) : -4000 ≤ flrB b x ∧ flrB b x ≤ 4000 := by
  unfold flrB
  have p1 : b.1 * x ≤ 1980 ∧ -1980 ≤ b.1 * x := by
    have := h.a1; have := h.a2
    have e1 : (b.1 * x).natAbs ≤ 99 * 20 := by rw [Int.natAbs_mul]; exact Nat.mul_le_mul (by omega) (by omega)
    omega
  have := h.c1; have := h.c2
  have k1 : (b.2.2 - b.1 * x) / (0 - b.2.1) ≤ 2979 := Int.le_trans (Int.ediv_le_ediv (a := b.2.2 - b.1 * x) (b := 2979) (by omega) (by omega)) (Int.ediv_le_self _ (by omega))
  have k2 : -2979 ≤ (b.2.2 - b.1 * x) / (0 - b.2.1) := by
    rw [Int.le_ediv_iff_mul_le (by omega)]
    have : (-2979 : Int) * (0 - b.2.1) ≤ -2979 * 1 := by omega
    omega
  omega
theorem e_span_at (Bs : List Bd3) (h : ∀ b ∈ Bs, Bwk b) (hl : Bs.length ≤ 8) (d : D) (hd : d = .lst (Bs.map bD) ∨ d = .tup (Bs.map bD)) (x : Int) (p : Pst) : F_span_at [d, .int x] p = .ok (.tup [.int (low Bs x), .int (high Bs x)]) false p := by
  rw [en_span_at, c_span_at]
  have hi : ∀ s2 s3 s4, mSeq (rd 0) [some (.val d), some (.val (.int x)), s2, s3, s4] p = .ok (Bs.map bD) p := by intro s2 s3 s4; rcases hd with rfl | rfl <;> simp
  have e1 : ∀ s2 s3 s4, m_span_at_1 [some (.val d), some (.val (.int x)), s2, s3, s4] p = .ok ((flrs Bs x).map .int) p := fun s2 s3 s4 => by
    have : m_span_at_1 _ _ = _ := mLc_map (i := 4) (tt := mCmp dLt (mOp dIx (rd 4) (mret (.int 1))) (mret (.int 0))) (el := mFn F_floor_of 2 0 [0, 1] (mcons (rd 4) (mcons (rd 1) (mret []))) (mret [])) (hi s2 s3 s4) (fun b => decide (b.2.1 < 0)) (fun b => .int (flrB b x)) fun b hb =>
      ⟨by simp [wipeS, ix1], fun hb2 => by simp [wipeS, e_floor_of b (h b hb) (by simpa using hb2)]⟩
    rw [this]; unfold flrs; rw [List.map_map]; rfl
  have e2 : ∀ s2 s3 s4, m_span_at_2 [some (.val d), some (.val (.int x)), s2, s3, s4] p = .ok ((tops Bs x).map .int) p := fun s2 s3 s4 => by
    have : m_span_at_2 _ _ = _ := mLc_map (i := 4) (tt := mCmp dGt (mOp dIx (rd 4) (mret (.int 1))) (mret (.int 0))) (el := mFn F_top_of 2 0 [0, 1] (mcons (rd 4) (mcons (rd 1) (mret []))) (mret [])) (hi s2 s3 s4) (fun b => decide (0 < b.2.1)) (fun b => .int (topB b x)) fun b hb =>
      ⟨by simp [wipeS, ix1], fun hb2 => by simp [wipeS, e_top_of b (h b hb) (by simpa using hb2)]⟩
    rw [this]; unfold tops; rw [List.map_map]; rfl
  have fl : (flrs Bs x).length ≤ 8 := by unfold flrs; rw [List.length_map]; exact Nat.le_trans (List.length_filter_le _ _) hl
  have tl : (tops Bs x).length ≤ 8 := by unfold tops; rw [List.length_map]; exact Nat.le_trans (List.length_filter_le _ _) hl
  have c1 : dAdd (.lst [.int (0 - 20)]) (.lst ((flrs Bs x).map .int)) = some (.lst ((-20 :: flrs Bs x).map .int)) := cat_ok (xs := [.int (0 - 20)]) (ys := (flrs Bs x).map .int) (by simp; omega)
  have c2 : dAdd (.lst [.int 20]) (.lst ((tops Bs x).map .int)) = some (.lst ((20 :: tops Bs x).map .int)) := cat_ok (xs := [.int 20]) (ys := (tops Bs x).map .int) (by simp; omega)
  have m1 : dMax1 [.lst ((-20 :: flrs Bs x).map .int)] = some (.int (low Bs x)) := by
    simp only [dMax1, intsOf_map, Option.bind_some]
    rw [if_neg (by simp)]; rfl
  have m2 : dMin1 [.lst ((20 :: tops Bs x).map .int)] = some (.int (high Bs x)) := by
    simp only [dMin1, intsOf_map, Option.bind_some]
    rw [if_neg (by simp)]; rfl
  generalize (flrs Bs x).map D.int = FL at *
  generalize (tops Bs x).map D.int = TL at *
  generalize (-20 :: flrs Bs x).map D.int = FL2 at *
  generalize (20 :: tops Bs x).map D.int = TL2 at *
  have c1' : dAdd (.lst [.int (-20)]) (.lst FL) = some (.lst FL2) := c1
  simp [e1, e2, c1', c2, m1, m2]
end PF

namespace PF
open PySem PySem.Spec PyProof.Rows L2
theorem topB_bd {b : Bd3} (h : Bwk b) {x : Int} (h1 : -20 ≤ x) (h2 : x ≤ 20) (hn : 0 < b.2.1) : -4000 ≤ topB b x ∧ topB b x ≤ 4000 := by
  unfold topB
  have p1 : b.1 * x ≤ 1980 ∧ -1980 ≤ b.1 * x := by
    have := h.a1; have := h.a2
    have e1 : (b.1 * x).natAbs ≤ 99 * 20 := by rw [Int.natAbs_mul]; exact Nat.mul_le_mul (by omega) (by omega)
    omega
  have := h.c1; have := h.c2
  have k1 : (b.2.2 - b.1 * x) / b.2.1 ≤ 2979 := Int.le_trans (Int.ediv_le_ediv (a := b.2.2 - b.1 * x) (b := 2979) (by omega) (by omega)) (Int.ediv_le_self _ (by omega))
  have k2 : -2979 ≤ (b.2.2 - b.1 * x) / b.2.1 := by
    rw [Int.le_ediv_iff_mul_le (by omega)]
    have : (-2979 : Int) * b.2.1 ≤ -2979 * 1 := by omega
    omega
  omega
theorem low_bd (Bs : List Bd3) (h : ∀ b ∈ Bs, Bwk b) {x : Int} (h1 : -20 ≤ x) (h2 : x ≤ 20) : low Bs x ≤ 4000 := by
  have hm := (maxI_spec (ns := -20 :: flrs Bs x) (by simp)).1
  unfold low
  rcases List.mem_cons.mp hm with e | e
  · rw [e]; omega
  · obtain ⟨b, hb, eb⟩ := List.mem_map.mp e
    obtain ⟨k1, k2⟩ := List.mem_filter.mp hb
    rw [← eb]; exact (flrB_bd (h b k1) h1 h2 (by simpa using k2)).2
theorem high_bd (Bs : List Bd3) (h : ∀ b ∈ Bs, Bwk b) {x : Int} (h1 : -20 ≤ x) (h2 : x ≤ 20) : -4000 ≤ high Bs x := by
  have hm := (minI_spec (ns := 20 :: tops Bs x) (by simp)).1
  unfold high
  rcases List.mem_cons.mp hm with e | e
  · rw [e]; omega
  · obtain ⟨b, hb, eb⟩ := List.mem_map.mp e
    obtain ⟨k1, k2⟩ := List.mem_filter.mp hb
    rw [← eb]; exact (topB_bd (h b k1) h1 h2 (by simpa using k2)).1
def colP (Bs : List Bd3) (x : Int) : List Pt := (pcol Bs x).map fun y => (x, y)
def brute (Bs : List Bd3) : List Pt := cols.flatMap (colP Bs)
theorem e_points_at (Bs : List Bd3) (h : ∀ b ∈ Bs, Bwk b) (hl : Bs.length ≤ 8) (d : D) (hd : d = .lst (Bs.map bD) ∨ d = .tup (Bs.map bD)) (x : Int) (h1 : -20 ≤ x) (h2 : x ≤ 20) (p : Pst) : F_points_at [d, .int x] p = .ok (.lst ((colP Bs x).map pD)) true p := by
  rw [en_points_at, c_points_at]
  have e1 := out_any Bs h d hd x p
  have a1 := dAny_map (fun b => outB b x) Bs
  cases ho : Bs.any fun b => outB b x with
  | true =>
    rw [ho] at a1
    have : colP Bs x = [] := by unfold colP; rw [pcol_out ho]; rfl
    rw [this]
    simp [e1, a1]
  | false =>
    rw [ho] at a1
    have sp := e_span_at Bs h hl d hd x p
    have lb := low_bd Bs h h1 h2
    have hb := high_bd Bs h h1 h2
    have lg := low_ge Bs x
    have hg := high_le Bs x
    have hi : mRange2 (mcons (rd 2) (mcons (mOp dAdd (rd 3) (mret (.int 1))) (mret []))) [some (.val d), some (.val (.int x)), some (.val (.int (low Bs x))), some (.val (.int (high Bs x))), none, none] p = .ok ((pcol Bs x).map .int) p := by
      have e : mcons (rd 2) (mcons (mOp dAdd (rd 3) (mret (.int 1))) (mret [])) [some (.val d), some (.val (.int x)), some (.val (.int (low Bs x))), some (.val (.int (high Bs x))), none, none] p = .ok [.int (low Bs x), .int (high Bs x + 1)] p := by simp
      rw [ev_mRange2, ev_mbind, e, andThen_ok, kM_ap, iRange2 (by omega) (by omega) (by omega) (by omega), ev_mopt_some, rgL_up, pcol_in ho]
    have e2 : m_points_at_2 _ _ = _ := mLc_mapY (i := 4) (el := mtup (mcons (rd 1) (mcons (rd 4) (mret [])))) hi (fun y => pD (x, y)) fun y hy => by simp [wipeS, pD]
    have e3 : (pcol Bs x).map (fun y => pD (x, y)) = (colP Bs x).map pD := by unfold colP; rw [List.map_map]; rfl
    rw [e3] at e2
    simp [e1, a1, sp, casgT, tgTup, tgCons, tgName, tgNil, e2]
theorem pcol_len (Bs : List Bd3) (x : Int) : (pcol Bs x).length ≤ 41 := by
  have := List.length_filter_le (fun y => Bs.all fun b => inB b x y) cols
  have e : cols.length = 41 := by unfold cols up; simp
  rw [e] at this
  exact this
theorem flat_len (Bs : List Bd3) (l : List Int) : (l.flatMap (colP Bs)).length ≤ 41 * l.length := by
  induction l with
  | nil => simp
  | cons x l ih =>
    have := pcol_len Bs x
    have e : (colP Bs x).length ≤ 41 := by unfold colP; rw [List.length_map]; exact this
    rw [List.flatMap_cons, List.length_append, List.length_cons]; omega
theorem cols_len : cols.length = 41 := by unfold cols up; simp
theorem e_all_columns (p : Pst) : F_all_columns [] p = .ok (.lst (cols.map .int)) true p := by
  rw [en_all_columns, c_all_columns]
  have r := iRange2 (a := -20) (b := 21) (by omega) (by omega) (by omega) (by omega)
  rw [rgL_up] at r
  have r' : dRange2 [.int (-20), .int 21] = some (cols.map .int) := r
  simp [r']
theorem e_points_of (Bs : List Bd3) (h : ∀ b ∈ Bs, Bwk b) (hl : Bs.length ≤ 8) (d : D) (hd : d = .lst (Bs.map bD) ∨ d = .tup (Bs.map bD)) (p : Pst) : F_points_of [d] p = .ok (.lst ((brute Bs).map pD)) true p := by
  rw [en_points_of, c_points_of]
  obtain ⟨w, e⟩ := cfor_pre (i := 2) (body := b_points_of_1) (p := p) (fun w (a : List Pt) => [some (.val d), some (.own (a.map pD)), w]) D.int (fun _ _ _ => rfl) (fun l => l.flatMap (colP Bs)) cols [] none (by
    intro pre x post e
    have hx : x ∈ cols := by rw [List.nil_append] at e; rw [e]; simp
    have hx' := mem_cols.mp hx
    have pl : pre.length ≤ 41 := by
      have := congrArg List.length e
      rw [List.nil_append, cols_len] at this
      simp at this; omega
    have f1 := flat_len Bs pre
    have f2 := flat_len Bs [x]
    have ep := e_points_at Bs h hl d hd x hx'.1 hx'.2 p
    have hlen : (pre.flatMap (colP Bs)).length + (colP Bs x).length ≤ 16000000 := by simp at f2; omega
    rw [List.flatMap_append]
    have e9 : [x].flatMap (colP Bs) = colP Bs x := by simp
    rw [e9]
    generalize pre.flatMap (colP Bs) = A at *
    simp [b_points_of_1, cext, ep, hlen])
  have e0 : ([] : List Int).flatMap (colP Bs) = [] := rfl
  rw [e0] at e
  simp only [List.nil_append, List.map_nil] at e
  have e' : cols.flatMap (colP Bs) = brute Bs := rfl
  rw [e'] at e
  simp [cfor, e_all_columns, e, cretown]
theorem up_sorted (lo : Int) (n : Nat) : (up lo n).Pairwise (· < ·) := by
  unfold up
  rw [List.pairwise_map]
  exact List.pairwise_lt_range.imp fun h => by omega
theorem brute_sorted (Bs : List Bd3) : (brute Bs).Pairwise plt := by
  unfold brute
  rw [List.pairwise_flatMap]
  refine ⟨fun x _ => ?_, ?_⟩
  · unfold colP
    rw [List.pairwise_map]
    exact ((up_sorted (-20) 41).filter _).imp fun h => .inr ⟨rfl, h⟩
  · refine (up_sorted (-20) 41).imp fun {x y} hxy a ha b hb => ?_
    obtain ⟨u, _, rfl⟩ := List.mem_map.mp ha
    obtain ⟨v, _, rfl⟩ := List.mem_map.mp hb
    exact .inl hxy
theorem brute_box {Bs : List Bd3} {q : Pt} (h : q ∈ brute Bs) : (-20 ≤ q.1 ∧ q.1 ≤ 20) ∧ (-20 ≤ q.2 ∧ q.2 ≤ 20) := by
  obtain ⟨x, hx, hq⟩ := List.mem_flatMap.mp h
  obtain ⟨y, hy, rfl⟩ := List.mem_map.mp hq
  exact ⟨mem_cols.mp hx, mem_cols.mp (List.mem_filter.mp hy).1⟩
theorem brute_len (Bs : List Bd3) : (brute Bs).length ≤ 1681 := by
  have := flat_len Bs cols
  rw [cols_len] at this
  exact this
end PF

namespace PF
open PySem PySem.Spec PyProof.Rows L2
/-! ### turns -/
def Box (p : Pt) : Prop := -1000 ≤ p.1 ∧ p.1 ≤ 1000 ∧ -1000 ≤ p.2 ∧ p.2 ≤ 1000
theorem px0 (p : Pt) : dIx (pD p) (.int 0) = some (.int p.1) := rfl
theorem px1 (p : Pt) : dIx (pD p) (.int 1) = some (.int p.2) := rfl
theorem e_turn_at (o a b : Pt) (ho : Box o) (ha : Box a) (p : Pst) : F_turn_at [pD o, pD a, pD b] p = .ok (.int (tn o a b)) false p := by
  rw [en_turn_at, c_turn_at]
  obtain ⟨o1, o2, o3, o4⟩ := ho
  obtain ⟨a1, a2, a3, a4⟩ := ha
  have m1 := mul_s (i := a.1 - o.1) (j := b.2 - o.2) (by omega) (by omega)
  have m2 := mul_s (i := a.2 - o.2) (j := b.1 - o.1) (by omega) (by omega)
  simp [px0, px1, m1, m2, tn]
/-! ### the pile as a list -/
def pl' (st : List Pt) : List D := (st.reverse).map pD
theorem pl_cons (a : Pt) (st : List Pt) : pl' (a :: st) = pl' st ++ [pD a] := by unfold pl'; simp
theorem pl_len (st : List Pt) : (pl' st).length = st.length := by unfold pl'; simp
theorem at_last (l : List D) (d : D) : atI (l ++ [d]) (-1) = some d := by
  have hlen : (l ++ [d]).length = l.length + 1 := by simp
  have i1 : ixN (l ++ [d]).length (-1) = some l.length := by
    simp only [ixN, hlen]
    rw [if_neg (by omega), if_pos (by omega)]
    congr 1; omega
  simp only [atI, i1, Option.bind_some]
  simp
theorem at_two (l : List D) (c d : D) : atI (l ++ [c] ++ [d]) (-2) = some c := by
  have hlen : (l ++ [c] ++ [d]).length = l.length + 2 := by simp
  have i1 : ixN (l ++ [c] ++ [d]).length (-2) = some l.length := by
    simp only [ixN, hlen]
    rw [if_neg (by omega), if_pos (by omega)]
    congr 1; omega
  simp only [atI, i1, Option.bind_some]
  simp
theorem pops_sub (z : Pt) : ∀ (st : List Pt), ∀ a ∈ pops z st, a ∈ st
  | [], a, h => h
  | [b], a, h => h
  | c :: b :: r, a, h => by
    by_cases ht : tn b c z ≤ 0
    · have e : pops z (c :: b :: r) = pops z (b :: r) := by simp [pops, ht]
      rw [e] at h
      exact List.mem_cons_of_mem _ (pops_sub z (b :: r) a h)
    · have e : pops z (c :: b :: r) = c :: b :: r := by simp [pops, ht]
      rw [e] at h; exact h
theorem pops_len (z : Pt) : ∀ (st : List Pt), (pops z st).length ≤ st.length
  | [] => Nat.le_refl _
  | [b] => Nat.le_refl _
  | c :: b :: r => by
    by_cases ht : tn b c z ≤ 0
    · have e : pops z (c :: b :: r) = pops z (b :: r) := by simp [pops, ht]
      rw [e]
      have := pops_len z (b :: r)
      simp at this ⊢; omega
    · have e : pops z (c :: b :: r) = c :: b :: r := by simp [pops, ht]
      rw [e]; exact Nat.le_refl _
theorem band_sub (S : List Pt) : (∀ a ∈ band S, a ∈ S) ∧ (band S).length ≤ S.length := by
  unfold band
  have key : ∀ (l st : List Pt), (∀ a ∈ l.foldl (fun st z => z :: pops z st) st, a ∈ st ∨ a ∈ l) ∧ (l.foldl (fun st z => z :: pops z st) st).length ≤ st.length + l.length := by
    intro l
    induction l with
    | nil => exact fun st => ⟨fun a h => .inl h, Nat.le_refl _⟩
    | cons z l ih =>
      intro st
      obtain ⟨h1, h2⟩ := ih (z :: pops z st)
      refine ⟨fun a ha => ?_, ?_⟩
      · rcases h1 a ha with q | q
        · rcases List.mem_cons.mp q with e | q
          · exact .inr (by rw [e]; exact List.mem_cons_self)
          · exact .inl (pops_sub z st a q)
        · exact .inr (List.mem_cons_of_mem _ q)
      · have := pops_len z st
        simp only [List.foldl_cons, List.length_cons] at h2 ⊢; omega
  obtain ⟨h1, h2⟩ := key S []
  refine ⟨fun a ha => ?_, by simpa using h2⟩
  rcases h1 a ha with q | q
  · cases q
  · exact q
/-- one point is put on: the program -/
theorem hull_push (s0 : Option W) (z : Pt) (hz : Box z) (p : Pst) : ∀ (st : List Pt), (∀ a ∈ st, Box a) → st.length < 10000 →
    b_half_hull_3 [s0, some (.own (pl' st)), some (.val (pD z))] p = .nx [s0, some (.own (pl' (z :: pops z st))), some (.val (pD z))] p := by
  intro st hb hl
  have wh : ∀ (n : Nat) (st : List Pt), (∀ a ∈ st, Box a) → st.length < n → cwhile t_half_hull_2 b_half_hull_1 n [s0, some (.own (pl' st)), some (.val (pD z))] p = .nx [s0, some (.own (pl' (pops z st))), some (.val (pD z))] p := by
    intro n
    induction n with
    | zero => intro st _ h; omega
    | succ n ih =>
      intro st hb hn
      match st, hb, hn with
      | [], _, _ =>
        refine cwhile_end ?_
        simp [t_half_hull_2, mscal, thaw, scal, pl', dI]
      | [a], _, _ =>
        refine cwhile_end ?_
        simp [t_half_hull_2, mscal, thaw, scal, pl', dI]
      | a :: b :: r, hb, hn =>
        have ba : Box a := hb a (by simp)
        have bb : Box b := hb b (by simp)
        have e0 : pl' (a :: b :: r) = pl' r ++ [pD b] ++ [pD a] := by rw [pl_cons, pl_cons]
        have ng1 : dNeg (.int 1) = some (.int (-1)) := rfl
        have ng2 : dNeg (.int 2) = some (.int (-2)) := rfl
        have i1 := at_last (pl' r ++ [pD b]) (pD a)
        have i2 := at_two (pl' r) (pD b) (pD a)
        have ll : (1 : Int) < ((pl' r ++ [pD b] ++ [pD a]).length : Int) := by simp; omega
        have tt : t_half_hull_2 [s0, some (.own (pl' (a :: b :: r))), some (.val (pD z))] p = .ok (decide (tn b a z ≤ 0)) p := by
          rw [e0]
          generalize pl' r ++ [pD b] ++ [pD a] = L at *
          have x2 : mIxO 1 (mUn dNeg (mret (.int 2))) [s0, some (.own L), some (.val (pD z))] p = .ok (pD b) p := by
            have : mIxO 1 (mUn dNeg (mret (.int 2))) [s0, some (.own L), some (.val (pD z))] p = mopt (atI L (-2)) [s0, some (.own L), some (.val (pD z))] p := rfl
            rw [this, i2]; simp
          have x1 : mIxO 1 (mUn dNeg (mret (.int 1))) [s0, some (.own L), some (.val (pD z))] p = .ok (pD a) p := by
            have : mIxO 1 (mUn dNeg (mret (.int 1))) [s0, some (.own L), some (.val (pD z))] p = mopt (atI L (-1)) [s0, some (.own L), some (.val (pD z))] p := rfl
            rw [this, i1]; simp
          simp [t_half_hull_2, mscal, thaw, scal, dI, ll, x1, x2, e_turn_at b a z bb ba]
        by_cases ht : tn b a z ≤ 0
        · have e : pops z (a :: b :: r) = pops z (b :: r) := by simp [pops, ht]
          rw [e]
          rw [show decide (tn b a z ≤ 0) = true by simpa using ht] at tt
          have hp : b_half_hull_1 [s0, some (.own (pl' (a :: b :: r))), some (.val (pD z))] p = .nx [s0, some (.own (pl' (b :: r))), some (.val (pD z))] p := by
            rw [pl_cons]
            simp [b_half_hull_1, cpop]
          rw [cwhile_step tt hp]
          exact ih (b :: r) (fun x hx => hb x (List.mem_cons_of_mem _ hx)) (by simp at hn ⊢; omega)
        · have e : pops z (a :: b :: r) = a :: b :: r := by simp [pops, ht]
          rw [e]
          rw [show decide (tn b a z ≤ 0) = false by simpa using ht] at tt
          exact cwhile_end tt
  have w := wh FUEL st hb (by unfold FUEL; omega)
  have pln : (pl' (pops z st)).length < 16000000 := by rw [pl_len]; have := pops_len z st; omega
  rw [pl_cons]
  unfold b_half_hull_3
  rw [ev_cseq, w]
  generalize pl' (pops z st) = L at *
  simp [capp, pln]
theorem e_half_hull (S : List Pt) (hS : ∀ a ∈ S, Box a) (hlen : S.length ≤ 5000) (p : Pst) : F_half_hull [.lst (S.map pD)] p = .ok (.lst ((PF.hl S).map pD)) true p := by
  rw [en_half_hull, c_half_hull]
  obtain ⟨w, e⟩ := cfor_pre (i := 2) (body := b_half_hull_3) (p := p) (fun w (a : List Pt) => [some (.val (.lst (S.map pD))), some (.own (pl' a)), w]) pD (fun _ _ _ => rfl) band S [] none (by
    intro pre z post e
    have e' : S = pre ++ z :: post := by simpa using e
    have sub := band_sub pre
    have hz : Box z := hS z (by rw [e']; simp)
    have hp : ∀ a ∈ band pre, Box a := fun a ha => hS a (by rw [e']; simp [sub.1 a ha])
    have pln : pre.length ≤ S.length := by rw [e']; simp
    have := hull_push (some (.val (.lst (S.map pD)))) z hz p (band pre) hp (by omega)
    rw [band_snoc]
    exact this)
  have e0 : band [] = [] := rfl
  rw [e0] at e
  have e1 : pl' [] = [] := rfl
  rw [e1, List.nil_append] at e
  have e2 : pl' (band S) = (PF.hl S).map pD := rfl
  rw [e2] at e
  simp [cfor, e, cretown]
end PF

namespace PF
open PySem PySem.Spec PyProof.Rows L2
theorem cut_last {α : Type} (xs : List α) : cutA xs none (some (-1)) = xs.dropLast := by
  unfold cutA
  have e : HT.sIx xs.length 0 none = 0 := rfl
  have e2 : HT.sIx xs.length xs.length (some (-1)) = xs.length - 1 := by
    show (if (-1 : Int) < 0 then ((-1 : Int) + (xs.length : Int)).toNat else min (-1 : Int).toNat xs.length) = _
    rw [if_pos (by decide)]; omega
  rw [e, e2, List.drop_zero, Nat.sub_zero, List.dropLast_eq_take]
theorem sl_last (xs : List D) : dSl (.lst xs) none (some (-1)) = some (.lst xs.dropLast) := by
  show some (D.lst (cutA xs none (some (-1)))) = _
  rw [cut_last]
@[simp] theorem ev_mRevo_lst (me : M D) (ρ : Sl) (p : Pst) : mRevo me ρ p = mbind me (fun d => lstK d fun xs => mret xs.reverse) ρ p := by
  unfold mRevo
  show mbind me _ ρ p = mbind me _ ρ p
  congr 1
  all_goals (funext d; cases d <;> rfl)
theorem adO (xs ys : List D) (h : xs.length + ys.length ≤ 16000000) : dAddO (.lst xs) (.lst ys) = some (xs ++ ys) := by
  show (if xs.length + ys.length ≤ sizeLine then some (xs ++ ys) else none) = _
  rw [if_pos (by rw [sizeLine_eq]; omega)]
theorem mapDL {α β : Type} (f : α → β) (l : List α) : (l.map f).dropLast = l.dropLast.map f := by
  rw [List.dropLast_eq_take, List.dropLast_eq_take, List.length_map, List.map_take]
def cor' (S : List Pt) : List Pt := if S.length < 2 then S else cor S
theorem hl_len (S : List Pt) : (hl S).length ≤ S.length := by
  unfold hl; rw [List.length_reverse]; exact (band_sub S).2
theorem Box.rev {S : List Pt} (h : ∀ a ∈ S, Box a) : ∀ a ∈ S.reverse, Box a := fun a ha => h a (List.mem_reverse.mp ha)
theorem e_hull_rev (S : List Pt) (hS : ∀ a ∈ S, Box a) (hlen : S.length ≤ 5000) (p : Pst) : F_half_hull [.lst ((S.map pD).reverse)] p = .ok (.lst ((PF.hl S.reverse).map pD)) true p := by
  rw [← List.map_reverse]
  exact e_half_hull S.reverse (Box.rev hS) (by rw [List.length_reverse]; exact hlen) p
theorem go_corners_of (S : List Pt) (hS : ∀ a ∈ S, Box a) (hlen : S.length ≤ 5000) (p : Pst) : G_corners_of (S.map pD) p = .ok (.lst ((cor' S).map pD)) true p := by
  have l1 := hl_len S
  have l2 := hl_len S.reverse
  rw [List.length_reverse] at l2
  unfold G_corners_of freso c_o_corners_of cor'
  by_cases h : S.length < 2
  · rw [if_pos h]
    have hi : ((S.map pD).length : Int) < 2 := by rw [List.length_map]; omega
    generalize S.map pD = L at *
    simp [mscal, thaw, scal, dLen, hi, cretown]
  · rw [if_neg h]
    have hi : ¬ ((S.map pD).length : Int) < 2 := by rw [List.length_map]; omega
    have e1 := e_half_hull S hS hlen p
    have e2 := e_hull_rev S hS hlen p
    have s1 := sl_last ((PF.hl S).map pD)
    have s2 := sl_last ((PF.hl S.reverse).map pD)
    have a1 := adO ((PF.hl S).map pD).dropLast ((PF.hl S.reverse).map pD).dropLast (by simp only [List.length_dropLast, List.length_map]; omega)
    have e3 : ((PF.hl S).map pD).dropLast ++ ((PF.hl S.reverse).map pD).dropLast = (cor S).map pD := by
      rw [mapDL, mapDL, ← List.map_append]; rfl
    rw [e3] at a1
    generalize S.map pD = L at *
    generalize (PF.hl S).map pD = L1 at *
    generalize (PF.hl S.reverse).map pD = L2 at *
    generalize (cor S).map pD = L3 at *
    simp [mscal, thaw, scal, dLen, hi, cfrz, e1, e2, s1, s2, a1]
theorem brute_Box (Bs : List Bd3) : ∀ a ∈ brute Bs, Box a := fun a ha => by
  have := brute_box ha
  unfold Box; omega
theorem e_corners (Bs : List Bd3) (h : ∀ b ∈ Bs, Bok b) (h1 : 1 ≤ Bs.length) (h2 : Bs.length ≤ 8) (d : D) (hd : d = .lst (Bs.map bD) ∨ d = .tup (Bs.map bD)) (p : Pst) : F_corners [d] p = .ok (.lst ((cor' (brute Bs)).map pD)) true p := by
  rw [en_corners, c_corners]
  have e1 := e_check_bounds Bs h h1 h2 d hd p
  have e2 := e_points_of Bs (fun b hb => (h b hb).toBwk) h2 d hd p
  have e3 := go_corners_of (brute Bs) (brute_Box Bs) (by have := brute_len Bs; omega) p
  simp [e1, e2, e3]
end PF

namespace PF
open PySem PySem.Spec PyProof.Rows L2
/-! ### lists of points: ==, in -/
theorem eqv_pt (a b : Pt) : PyData.eqv (toPy (pD a)) (toPy (pD b)) = decide (a = b) := by
  have := eqvAll_ints [a.1, a.2] [b.1, b.2]
  simp only [List.map_cons, List.map_nil] at this
  show PyData.eqvAll (toPys [.int a.1, .int a.2]) (toPys [.int b.1, .int b.2]) = _
  rw [this]
  obtain ⟨a1, a2⟩ := a
  obtain ⟨b1, b2⟩ := b
  by_cases h1 : a1 = b1 <;> by_cases h2 : a2 = b2 <;> simp [h1, h2]
theorem eqvAll_pts : ∀ S T : List Pt, PyData.eqvAll (toPys (S.map pD)) (toPys (T.map pD)) = decide (S = T)
  | [], [] => by simp [toPys, PyData.eqvAll]
  | [], n :: ns => by simp [toPys, PyData.eqvAll]
  | m :: ms, [] => by simp [toPys, PyData.eqvAll]
  | m :: ms, n :: ns => by
    simp only [List.map_cons, toPys, PyData.eqvAll, eqv_pt, eqvAll_pts ms ns]
    by_cases h1 : m = n <;> by_cases h2 : ms = ns <;> simp [h1, h2]
theorem okEq_pt (q : Pt) : okEq (pD q) = true := rfl
theorem okEq_pts (S : List Pt) : okEq (.lst (S.map pD)) = true := by
  have k1 : pls (S.map pD) = true := by
    induction S with
    | nil => rfl
    | cons b T ih => simp only [List.map_cons, pls, ih]; rfl
  have k2 : deps (S.map pD) ≤ 1 := by
    refine deps_le 1 _ fun x hx => ?_
    obtain ⟨b, _, rfl⟩ := List.mem_map.mp hx
    exact Nat.le_refl _
  simp only [okEq, pl, dep, k1]
  simp; omega
theorem dEq_pts (S T : List Pt) : dEq (.lst (S.map pD)) (.lst (T.map pD)) = some (decide (S = T)) := by
  simp only [dEq, okEq_pts, Bool.and_self, if_true, toPy, PyData.eqv, eqvAll_pts]
theorem dNe_pts (S T : List Pt) : dNe (.lst (S.map pD)) (.lst (T.map pD)) = some (!decide (S = T)) := by
  unfold dNe; rw [dEq_pts]; rfl
theorem dNotIn_pts (q : Pt) (S : List Pt) : dNotInX (pD q) (.lst (S.map pD)) = some (!decide (q ∈ S)) := by
  show (dIn (pD q) (.lst (S.map pD))).map _ = _
  simp only [dIn, okEq_pt, okEq_pts, Bool.and_self, if_true, List.any_map, Option.map_some]
  congr 2
  induction S with
  | nil => rfl
  | cons a S ih =>
    rw [List.any_cons, ih]
    simp only [Function.comp, eqv_pt]
    by_cases h1 : a = q
    · subst h1; simp
    · have : ¬ q = a := fun e => h1 e.symm
      simp [h1, this]
/-! ### wishes -/
def Wok (w : Pt) : Prop := -99 ≤ w.1 ∧ w.1 ≤ 99 ∧ -99 ≤ w.2 ∧ w.2 ≤ 99
theorem e_check_wish (Bs : List Bd3) (h : ∀ b ∈ Bs, Bok b) (h1 : 1 ≤ Bs.length) (h2 : Bs.length ≤ 8) (w : Pt) (hw : Wok w) (p : Pst) : F_check_wish [.lst (Bs.map bD), pD w] p = .ok .non false p := by
  rw [en_check_wish, c_check_wish]
  have e1 := e_check_bounds Bs h h1 h2 (.lst (Bs.map bD)) (.inl rfl) p
  obtain ⟨w1, w2, w3, w4⟩ := hw
  generalize Bs.map bD = L at *
  have ty : isTy .tuple (pD w) = true := rfl
  have np : noPot (pD w) = true := rfl
  have hl : dLen [pD w] = some (.int 2) := rfl
  have hi : mSeq (rd 1) [some (.val (.lst L)), some (.val (pD w)), none] p = .ok [.int w.1, .int w.2] p := by simp [pD]
  have em : m_check_wish_1 _ _ = _ := mLc_lstY (i := 2) (el := mFn F_is_within 3 0 [0, 1, 2] (mcons (rd 2) (mcons (mOp dSub (mret (.int 0)) (mret (.int 99))) (mcons (mret (.int 99)) (mret [])))) (mret [])) hi (fun _ => .bl true) fun d hd => by
    simp only [List.mem_cons, List.not_mem_nil, or_false] at hd
    rcases hd with rfl | rfl
    · simp [wipeS, within_t w1 w2]
    · simp [wipeS, within_t w3 w4]
  have a1 : dAll [.lst [.bl true, .bl true]] = some (.bl true) := rfl
  simp [e1, ty, np, hl, em, a1]
theorem dEq_nilP (S : List Pt) : dEq (.lst (S.map pD)) (.lst []) = some S.isEmpty := by
  cases S with
  | nil => rfl
  | cons a S =>
    have ok : okEq (.lst ((a :: S).map pD)) = true := by
      have k1 : pls ((a :: S).map pD) = true := by
        generalize a :: S = T
        induction T with
        | nil => rfl
        | cons b T ih => simp only [List.map_cons, pls, ih]; rfl
      have k2 : deps ((a :: S).map pD) ≤ 1 := by
        generalize a :: S = T
        refine deps_le 1 _ fun x hx => ?_
        obtain ⟨b, _, rfl⟩ := List.mem_map.mp hx
        exact Nat.le_refl _
      simp only [List.map_cons] at k1 k2 ⊢
      simp only [okEq, pl, dep, k1]
      simp; omega
    rw [dEq_nil ok]
    rfl
theorem dNe_nilP (S : List Pt) : dNe (.lst (S.map pD)) (.lst []) = some (!S.isEmpty) := by
  unfold dNe; rw [dEq_nilP]; rfl
theorem e_want_points (Bs : List Bd3) (h : ∀ b ∈ Bs, Bok b) (h1 : 1 ≤ Bs.length) (h2 : Bs.length ≤ 8) (w : Pt) (hw : Wok w) (hne : brute Bs ≠ []) (p : Pst) :
    F_want_points [.lst (Bs.map bD), pD w] p = .ok (.lst ((brute Bs).map pD)) false p := by
  rw [en_want_points, c_want_points]
  have e1 := e_check_wish Bs h h1 h2 w hw p
  have e2 := e_points_of Bs (fun b hb => (h b hb).toBwk) h2 (.lst (Bs.map bD)) (.inl rfl) p
  have e3 := dEq_nilP (brute Bs)
  have e4 : (brute Bs).isEmpty = false := by
    cases q : brute Bs with
    | nil => exact absurd q hne
    | cons a r => rfl
  rw [e4] at e3
  generalize Bs.map bD = L at *
  generalize (brute Bs).map pD = L2 at *
  simp [e1, e2, e3]
theorem e_worth_at (w q : Pt) (hw : Wok w) (p : Pst) : F_worth_at [pD w, pD q] p = .ok (.int (dot w q)) false p := by
  rw [en_worth_at, c_worth_at]
  obtain ⟨w1, w2, w3, w4⟩ := hw
  have m1 := mul_s (i := w.1) (j := q.1) (by omega) (by omega)
  have m2 := mul_s (i := w.2) (j := q.2) (by omega) (by omega)
  simp [px0, px1, m1, m2, dot]
theorem max1_map (S : List Pt) (f : Pt → Int) (hne : S ≠ []) : dMax1 [.lst (S.map fun q => .int (f q))] = some (.int (maxI (S.map f))) := by
  have e : (S.map fun q => D.int (f q)) = (S.map f).map .int := by rw [List.map_map]; rfl
  rw [e]
  show (intsOf ((S.map f).map .int)).bind _ = _
  rw [intsOf_map, Option.bind_some, if_neg (by simpa using hne)]
/-- the first best point -/
def bestP (S : List Pt) (w : Pt) : Pt := ((S.filter fun q => decide (dot w q = maxI (S.map (dot w)))).head?).getD (0, 0)
theorem bestP_ok {S : List Pt} (w : Pt) (hne : S ≠ []) : ∃ r, S.filter (fun q => decide (dot w q = maxI (S.map (dot w)))) = bestP S w :: r ∧ bestP S w ∈ S ∧ dot w (bestP S w) = maxI (S.map (dot w)) := by
  have hne' : S.map (dot w) ≠ [] := by simpa using hne
  obtain ⟨s1, s2⟩ := maxI_spec hne'
  obtain ⟨q0, hq0, hq1⟩ := List.mem_map.mp s1
  unfold bestP
  cases hf : S.filter (fun q => decide (dot w q = maxI (S.map (dot w)))) with
  | nil =>
    have : q0 ∈ S.filter (fun q => decide (dot w q = maxI (S.map (dot w)))) := List.mem_filter.mpr ⟨hq0, by simpa using hq1⟩
    rw [hf] at this; cases this
  | cons q r =>
    have hq : q ∈ S.filter (fun q => decide (dot w q = maxI (S.map (dot w)))) := by rw [hf]; exact List.mem_cons_self
    obtain ⟨g1, g2⟩ := List.mem_filter.mp hq
    exact ⟨r, rfl, g1, by simpa using g2⟩
theorem e_best_of (S : List Pt) (w : Pt) (hw : Wok w) (hne : S ≠ []) (p : Pst) : F_best_of [.lst (S.map pD), pD w] p = .ok (pD (bestP S w)) false p := by
  rw [en_best_of, c_best_of]
  have hi : mSeq (rd 0) [some (.val (.lst (S.map pD))), some (.val (pD w)), none, none] p = .ok (S.map pD) p := by simp
  have em : m_best_of_1 [some (.val (.lst (S.map pD))), some (.val (pD w)), none, none] p = _ := mLc_mapY (i := 3) (el := mFn F_worth_at 2 0 [0, 1] (mcons (rd 1) (mcons (rd 3) (mret []))) (mret [])) hi (fun q => .int (dot w q)) fun q hq => by
    simp [wipeS, e_worth_at w q hw]
  have mx := max1_map S (dot w) hne
  have hi2 : mSeq (rd 0) [some (.val (.lst (S.map pD))), some (.val (pD w)), some (.val (.int (maxI (S.map (dot w))))), none] p = .ok (S.map pD) p := by simp
  have em2 : m_best_of_2 [some (.val (.lst (S.map pD))), some (.val (pD w)), some (.val (.int (maxI (S.map (dot w))))), none] p = _ := mLc_map (i := 3) (tt := mCmp dEq (mFn F_worth_at 2 0 [0, 1] (mcons (rd 1) (mcons (rd 3) (mret []))) (mret [])) (rd 2)) (el := rd 3) hi2 (fun q => decide (dot w q = maxI (S.map (dot w)))) (fun q => pD q) fun q hq => by
    refine ⟨by simp [wipeS, e_worth_at w q hw], fun _ => by simp [wipeS]⟩
  obtain ⟨r, hf, _, _⟩ := bestP_ok w hne
  rw [hf] at em2
  have ix : dIx (.lst ((bestP S w :: r).map pD)) (.int 0) = some (pD (bestP S w)) := dIx_lst (k := 0) (by simp)
  generalize (bestP S w :: r).map pD = L2 at *
  generalize bestP S w = B at *
  generalize S.map pD = L at *
  generalize maxI (S.map (dot w)) = m at *
  simp [em, mx, em2, ix]
theorem e_best_worth (Bs : List Bd3) (h : ∀ b ∈ Bs, Bok b) (h1 : 1 ≤ Bs.length) (h2 : Bs.length ≤ 8) (w : Pt) (hw : Wok w) (hne : brute Bs ≠ []) (p : Pst) :
    F_best_worth [.lst (Bs.map bD), pD w] p = .ok (.int (maxI ((brute Bs).map (dot w)))) false p := by
  rw [en_best_worth, c_best_worth]
  have e1 := e_want_points Bs h h1 h2 w hw hne p
  have e2 := e_best_of (brute Bs) w hw hne p
  have e3 := e_worth_at w (bestP (brute Bs) w) hw p
  obtain ⟨_, _, _, hq⟩ := bestP_ok w hne
  rw [hq] at e3
  generalize Bs.map bD = L at *
  generalize (brute Bs).map pD = L2 at *
  simp [e1, e2, e3]
theorem mem_brute {Bs : List Bd3} {q : Pt} : q ∈ brute Bs ↔ (-20 ≤ q.1 ∧ q.1 ≤ 20 ∧ -20 ≤ q.2 ∧ q.2 ≤ 20) ∧ Bs.all (fun b => inB b q.1 q.2) = true := by
  unfold brute colP pcol
  rw [List.mem_flatMap]
  constructor
  · rintro ⟨x, hx, hq⟩
    obtain ⟨y, hy, rfl⟩ := List.mem_map.mp hq
    obtain ⟨k1, k2⟩ := List.mem_filter.mp hy
    have a := mem_cols.mp hx
    have b := mem_cols.mp k1
    exact ⟨⟨a.1, a.2, b.1, b.2⟩, k2⟩
  · rintro ⟨⟨a1, a2, a3, a4⟩, k⟩
    exact ⟨q.1, mem_cols.mpr ⟨a1, a2⟩, List.mem_map.mpr ⟨q.2, List.mem_filter.mpr ⟨mem_cols.mpr ⟨a3, a4⟩, k⟩, rfl⟩⟩
theorem e_is_point_pt (q : Pt) (hq : -20 ≤ q.1 ∧ q.1 ≤ 20 ∧ -20 ≤ q.2 ∧ q.2 ≤ 20) (p : Pst) : F_is_point_of [pD q] p = .ok (.bl true) false p := by
  rw [en_is_point_of, c_is_point_of]
  have it : isTy .tuple (pD q) = true := rfl
  have np : noPot (pD q) = true := rfl
  have hl : dLen [pD q] = some (.int 2) := rfl
  have hi : mSeq (rd 0) [some (.val (pD q)), none] p = .ok [.int q.1, .int q.2] p := by simp [pD]
  have em : m_is_point_of_1 [some (.val (pD q)), none] p = _ := mLc_lstY (i := 1) (el := mFn F_is_within 3 0 [0, 1, 2] (mcons (rd 1) (mcons (mOp dSub (mret (.int 0)) (mret (.int 20))) (mcons (mret (.int 20)) (mret [])))) (mret [])) hi (fun _ => .bl true) fun d hd => by
    simp only [List.mem_cons, List.not_mem_nil, or_false] at hd
    rcases hd with rfl | rfl
    · simp [wipeS, within_t hq.1 hq.2.1]
    · simp [wipeS, within_t hq.2.2.1 hq.2.2.2]
  have a1 : dAll [.lst [.bl true, .bl true]] = some (.bl true) := rfl
  generalize pD q = B at *
  simp [it, np, hl, em, a1]
/-! ### from outside -/
def leastD (S : List Pt) : D := match S with
  | [] => .non
  | q :: _ => pD q
theorem e_count_points (Bs : List Bd3) (h : ∀ b ∈ Bs, Bok b) (h1 : 1 ≤ Bs.length) (h2 : Bs.length ≤ 8) (d : D) (hd : d = .lst (Bs.map bD) ∨ d = .tup (Bs.map bD)) (p : Pst) : F_count_points [d] p = .ok (.int (brute Bs).length) false p := by
  rw [en_count_points, c_count_points]
  have e1 := e_check_bounds Bs h h1 h2 d hd p
  have e2 := e_points_of Bs (fun b hb => (h b hb).toBwk) h2 d hd p
  have e3 : dLen [.lst ((brute Bs).map pD)] = some (.int (brute Bs).length) := by rw [dLen_lst, List.length_map]
  generalize (brute Bs).map pD = L2 at *
  simp [-nLen_lst, e1, e2, e3]
theorem e_least_point (Bs : List Bd3) (h : ∀ b ∈ Bs, Bok b) (h1 : 1 ≤ Bs.length) (h2 : Bs.length ≤ 8) (d : D) (hd : d = .lst (Bs.map bD) ∨ d = .tup (Bs.map bD)) (p : Pst) : F_least_point [d] p = .ok (leastD (brute Bs)) false p := by
  rw [en_least_point, c_least_point]
  have e1 := e_check_bounds Bs h h1 h2 d hd p
  have e2 := e_points_of Bs (fun b hb => (h b hb).toBwk) h2 d hd p
  have e3 := dNe_nilP (brute Bs)
  cases hS : brute Bs with
  | nil =>
    rw [hS] at e2 e3
    simp only [List.map_nil, List.isEmpty_nil, Bool.not_true] at e2 e3
    simp [e1, e2, e3, leastD]
  | cons q r =>
    rw [hS] at e2 e3
    have ix : dIx (.lst ((q :: r).map pD)) (.int 0) = some (pD q) := dIx_lst (k := 0) (by simp)
    have e4 : (!(q :: r).isEmpty) = true := rfl
    rw [e4] at e3
    generalize (q :: r).map pD = L2 at *
    simp [e1, e2, e3, ix, leastD]
theorem e_is_within_bounds (Bs : List Bd3) (h : ∀ b ∈ Bs, Bok b) (h1 : 1 ≤ Bs.length) (h2 : Bs.length ≤ 8) (q : Pt) (hq : -20 ≤ q.1 ∧ q.1 ≤ 20 ∧ -20 ≤ q.2 ∧ q.2 ≤ 20) (p : Pst) : F_is_within_bounds [.lst (Bs.map bD), pD q] p = .ok (.bl (Bs.all fun b => inB b q.1 q.2)) false p := by
  rw [en_is_within_bounds, c_is_within_bounds]
  have e1 := e_check_bounds Bs h h1 h2 (.lst (Bs.map bD)) (.inl rfl) p
  have e2 := e_is_point_pt q hq p
  have key : ∀ (l : List Bd3) (s0 : Option W), (∀ b ∈ l, Bok b) → lcGo (fTup (fCons (fName 2) (fCons (fName 3) (fCons (fName 4) fNil)))) mYes (mB (mCmp dLe (mOp dAdd (mOp dMul (rd 2) (mOp dIx (rd 1) (mret (.int 0)))) (mOp dMul (rd 3) (mOp dIx (rd 1) (mret (.int 1))))) (rd 4))) (l.map bD) [s0, some (.val (pD q)), none, none, none] p = .ok (l.map fun b => .bl (inB b q.1 q.2)) p := by
    intro l s0
    induction l with
    | nil => intro _; rfl
    | cons b l ih =>
      intro hb
      have hk := (hb b List.mem_cons_self).toBwk
      have ih' := ih fun b hb' => hb b (List.mem_cons_of_mem _ hb')
      have m1 := mul_s (i := b.1) (j := q.1) (by have := hk.a1; omega) (by have := hk.a2; omega)
      have m2 := mul_s (i := b.2.1) (j := q.2) (by have := hk.b1; omega) (by have := hk.b2; omega)
      have eb : bD b = .tup [.int b.1, .int b.2.1, .int b.2.2] := rfl
      rw [List.map_cons, eb]
      simp [lcGo, fTup, fCons, fName, fNil, m1, m2, px0, px1] at ih' ⊢
      simp [ih', inB]
  have hi : mSeq (rd 0) [some (.val (.lst (Bs.map bD))), some (.val (pD q)), none, none, none] p = .ok (Bs.map bD) p := by simp
  have em : m_is_within_bounds_1 [some (.val (.lst (Bs.map bD))), some (.val (pD q)), none, none, none] p = .ok (Bs.map fun b => .bl (inB b q.1 q.2)) p := by
    have := key Bs (some (.val (.lst (Bs.map bD)))) h
    unfold m_is_within_bounds_1 mLc
    rw [ev_mbind, hi, andThen_ok, kM_ap]
    simp only [wipeS, List.foldl_cons, List.foldl_nil, List.set_cons_succ, List.set_cons_zero]
    simp only [this]
  have al := dAll_map (fun b => inB b q.1 q.2) Bs
  generalize Bs.map (fun b => D.bl (inB b q.1 q.2)) = M at *
  clear key hi
  generalize Bs.map bD = L at *
  generalize pD q = B at *
  simp [e1, e2, em, al]
theorem brute_congr {As Bs : List Bd3} (h : ∀ x y : Int, (As.all fun b => inB b x y) = Bs.all fun b => inB b x y) : brute As = brute Bs := by
  unfold brute colP pcol
  simp only [h]
end PF

namespace PF
open PySem PySem.Spec PyProof.Rows L2
theorem step {a b : C} {ρ ρ1 : Sl} {p p1 : Pst} {Q : SRes → Prop} (h : a ρ p = .nx ρ1 p1) (k : Q (b ρ1 p1)) : Q (cseq a b ρ p) := by
  rw [ev_cseq, h]; exact k
theorem step_if {t : M Bool} {a b : C} {ρ : Sl} {p p1 : Pst} {Q : SRes → Prop} (h : t ρ p = .ok false p1) (k : Q (b ρ p1)) : Q (cseq (cif t a cskip) b ρ p) := by
  rw [ev_cseq, ev_cif, ev_eout, h]; exact k
theorem repE {d : D} (h : okX d = true) : dReprE [d] = some (.str (rtext d)) := dReprE_ok h
theorem drw {g : Nat} {m : Int} {p : Pst} (hm : 0 < m) (hm2 : m < 1073741824) (hp : Good g p) : ∃ d p', F__law_draw [.pot g, .int m] p = .ok (.int d) false p' ∧ 0 ≤ d ∧ d < m ∧ Good g p' :=
  draw_ok (A := 44351) (B := 1207) (M1 := 2147483629) (M2 := 2147483587) (S := 13) (by decide) (by decide) (by decide) (by decide) (by decide) (g := g) (m := m) (p := p) hm hm2 hp
theorem pck {g : Nat} {p : Pst} {xs : List D} (h0 : xs ≠ []) (hl : xs.length < 1073741824) (hp : Good g p) : ∃ d p', F__law_pick [.pot g, .lst xs] p = .ok d false p' ∧ d ∈ xs ∧ Good g p' :=
  pick_ok (dr := F__law_draw) (fun {g m p} h1 h2 h3 => drw h1 h2 h3) h0 hl hp
structure Bs5 (b : Bd3) : Prop extends Bok b where
  s1 : -5 ≤ b.1
  s2 : b.1 ≤ 5
  s3 : -5 ≤ b.2.1
  s4 : b.2.1 ≤ 5
  s5 : -200 ≤ b.2.2
  s6 : b.2.2 ≤ 200
theorem mul_bd {a x : Int} (h1 : -5 ≤ a) (h2 : a ≤ 5) (h3 : -12 ≤ x) (h4 : x ≤ 12) : -60 ≤ a * x ∧ a * x ≤ 60 := by
  have : a = -5 ∨ a = -4 ∨ a = -3 ∨ a = -2 ∨ a = -1 ∨ a = 0 ∨ a = 1 ∨ a = 2 ∨ a = 3 ∨ a = 4 ∨ a = 5 := by omega
  rcases this with rfl | rfl | rfl | rfl | rfl | rfl | rfl | rfl | rfl | rfl | rfl <;> omega
theorem dNe_tup2 (a b c d : Int) : dNe (.tup [.int a, .int b]) (.tup [.int c, .int d]) = some (!(decide (a = c) && decide (b = d))) := by
  have := dNe_intsT [a, b] [c, d]
  simp only [List.map_cons, List.map_nil] at this
  rw [this]
  congr 2
  by_cases h1 : a = c <;> by_cases h2 : b = d <;> simp [h1, h2]
theorem bound_turn (g : Nat) (x y wide : Int) (hx : -12 ≤ x ∧ x ≤ 12) (hy : -12 ≤ y ∧ y ≤ 12) (hw : 0 ≤ wide ∧ wide ≤ 8) (p : Pst) (hp : Good g p) (Bs : List Bd3) (hl : Bs.length < 10000) (s1 s3 s7 s8 : Option W) :
    ∃ (b : Bd3) (t7 t8 : Option W) (p' : Pst), Bs5 b ∧ b__law_bounds_1 [some (.val (.pot g)), s1, some (.own (Bs.map bD)), s3, some (.val (.int x)), some (.val (.int y)), some (.val (.int wide)), s7, s8] p
      = .nx [some (.val (.pot g)), s1, some (.own ((Bs ++ [b]).map bD)), s3, some (.val (.int x)), some (.val (.int y)), some (.val (.int wide)), t7, t8] p' ∧ Good g p' := by
  unfold b__law_bounds_1
  obtain ⟨da, p1, e1, a1, a2, g1⟩ := drw (m := 11) (by omega) (by omega) hp
  obtain ⟨db, p2, e2, b1, b2, g2⟩ := drw (m := 11) (by omega) (by omega) g1
  obtain ⟨dc, p3, e3, c1, c2, g3⟩ := drw (m := 6 * wide + 2) (by omega) (by omega) g2
  have n1 := dNe_tup2 (da - 5) (db - 5) 0 0
  have hL : ((Bs.map bD).length) < 16000000 := by rw [List.length_map]; omega
  have ml := mul_s (i := 6) (j := wide) (by omega) (by omega)
  have m2 := mul_s (i := db - 5) (j := y) (by omega) (by omega)
  have k2 := mul_bd (a := db - 5) (x := y) (by omega) (by omega) (by omega) (by omega)
  by_cases hz : da - 5 = 0 ∧ db - 5 = 0
  · have m1 := mul_s (i := 1) (j := x) (by omega) (by omega)
    rw [show (!(decide (da - 5 = 0) && decide (db - 5 = 0))) = false by rw [hz.1, hz.2]; rfl] at n1
    refine ⟨(1, db - 5, 1 * x + (db - 5) * y + dc - 1), some (.val (.int 1)), some (.val (.int (db - 5))), p3, ⟨⟨⟨by simp only; omega, by simp only; omega, by simp only; omega, by simp only; omega, by simp only; omega, by simp only; omega⟩, by simp only; omega⟩, by simp only; omega, by simp only; omega, by simp only; omega, by simp only; omega, by simp only; omega, by simp only; omega⟩, ?_, g3⟩
    rw [List.map_append, List.map_cons, List.map_nil]
    have eb : bD (1, db - 5, 1 * x + (db - 5) * y + dc - 1) = .tup [.int 1, .int (db - 5), .int (1 * x + (db - 5) * y + dc - 1)] := rfl
    rw [eb]
    generalize Bs.map bD = L at *
    simp [e1, e2, n1, m1, m2, ml, e3, capp, hL]
  · have m1 := mul_s (i := da - 5) (j := x) (by omega) (by omega)
    have k1 := mul_bd (a := da - 5) (x := x) (by omega) (by omega) (by omega) (by omega)
    rw [show (!(decide (da - 5 = 0) && decide (db - 5 = 0))) = true by
      by_cases h1 : da - 5 = 0 <;> by_cases h2 : db - 5 = 0 <;> simp [h1, h2] at hz ⊢] at n1
    refine ⟨(da - 5, db - 5, (da - 5) * x + (db - 5) * y + dc - 1), some (.val (.int (da - 5))), some (.val (.int (db - 5))), p3, ⟨⟨⟨by simp only; omega, by simp only; omega, by simp only; omega, by simp only; omega, by simp only; omega, by simp only; omega⟩, by simp only; omega⟩, by simp only; omega, by simp only; omega, by simp only; omega, by simp only; omega, by simp only; omega, by simp only; omega⟩, ?_, g3⟩
    rw [List.map_append, List.map_cons, List.map_nil]
    have eb : bD (da - 5, db - 5, (da - 5) * x + (db - 5) * y + dc - 1) = .tup [.int (da - 5), .int (db - 5), .int ((da - 5) * x + (db - 5) * y + dc - 1)] := rfl
    rw [eb]
    generalize Bs.map bD = L at *
    simp [e1, e2, n1, m1, m2, ml, e3, capp, hL]
theorem bounds_for (g : Nat) (x y wide : Int) (hx : -12 ≤ x ∧ x ≤ 12) (hy : -12 ≤ y ∧ y ≤ 12) (hw : 0 ≤ wide ∧ wide ≤ 8) (s1 : Option W) : ∀ (items : List D) (p : Pst), Good g p → ∀ (Bs : List Bd3), (∀ b ∈ Bs, Bs5 b) → Bs.length + items.length < 10000 → ∀ (s3 s7 s8 : Option W),
    ∃ (Cs : List Bd3) (t3 t7 t8 : Option W) (p' : Pst), (∀ b ∈ Cs, Bs5 b) ∧ Cs.length = Bs.length + items.length ∧ cforGo (tgName 3) b__law_bounds_1 items [some (.val (.pot g)), s1, some (.own (Bs.map bD)), s3, some (.val (.int x)), some (.val (.int y)), some (.val (.int wide)), s7, s8] p
      = .nx [some (.val (.pot g)), s1, some (.own (Cs.map bD)), t3, some (.val (.int x)), some (.val (.int y)), some (.val (.int wide)), t7, t8] p' ∧ Good g p' := by
  intro items
  induction items with
  | nil => exact fun p hp Bs hB hl s3 s7 s8 => ⟨Bs, s3, s7, s8, p, hB, rfl, rfl, hp⟩
  | cons d ds ih =>
    intro p hp Bs hB hl s3 s7 s8
    simp only [List.length_cons] at hl
    obtain ⟨b, t7, t8, p1, kb, e1, g1⟩ := bound_turn g x y wide hx hy hw p hp Bs (by omega) s1 (some (.val d)) s7 s8
    obtain ⟨Cs, u3, u7, u8, p2, hC, lC, e2, g2⟩ := ih p1 g1 (Bs ++ [b]) (by
      intro c hc
      rcases List.mem_append.mp hc with h | h
      · exact hB c h
      · simp at h; subst h; exact kb) (by simp; omega) (some (.val d)) t7 t8
    refine ⟨Cs, u3, u7, u8, p2, hC, by simp at lC ⊢; omega, ?_, g2⟩
    simp only [cforGo, tgName, List.set_cons_succ, List.set_cons_zero, e1]
    exact e2
theorem e__law_bounds (g : Nat) (p : Pst) (hp : Good g p) : ∃ (Bs : List Bd3) (p' : Pst), (∀ b ∈ Bs, Bs5 b) ∧ 1 ≤ Bs.length ∧ Bs.length ≤ 6 ∧ F__law_bounds [.pot g, .int 6] p = .ok (.lst (Bs.map bD)) true p' ∧ Good g p' := by
  rw [en__law_bounds, c__law_bounds]
  obtain ⟨dx, p1, e1, a1, a2, g1⟩ := drw (m := 25) (by omega) (by omega) hp
  obtain ⟨dy, p2, e2, b1, b2, g2⟩ := drw (m := 25) (by omega) (by omega) g1
  obtain ⟨dw, p3, e3, m3, g3⟩ := pck (xs := [.int 0, .int 1, .int 3, .int 8]) (by simp) (by simp) g2
  obtain ⟨wide, rfl, w1, w2⟩ : ∃ w : Int, dw = .int w ∧ 0 ≤ w ∧ w ≤ 8 := by
    simp only [List.mem_cons, List.not_mem_nil, or_false] at m3
    rcases m3 with rfl | rfl | rfl | rfl <;> exact ⟨_, rfl, by omega, by omega⟩
  obtain ⟨dn, p4, e4, n1, n2, g4⟩ := drw (m := 6) (by omega) (by omega) g3
  have r1 : dRange1 [.int (1 + dn)] = some (rgL 0 (1 + dn).toNat) := by
    have := dRange1_nat (1 + dn).toNat (by omega)
    rwa [Int.toNat_of_nonneg (by omega)] at this
  obtain ⟨Cs, t3, t7, t8, p5, hC, lC, e5, g5⟩ := bounds_for g (dx - 12) (dy - 12) wide (by omega) (by omega) ⟨w1, w2⟩ (some (.val (.int 6))) (rgL 0 (1 + dn).toNat) p4 g4 [] (by simp) (by simp [rgL]; omega) none none none
  refine ⟨Cs, p5, hC, by simp [rgL] at lC; omega, by simp [rgL] at lC; omega, ?_, g5⟩
  simp at e5
  generalize rgL 0 (1 + dn).toNat = R at *
  simp [e1, e2, e3, e4, r1, cfor, e5, cretown]

end PF

namespace PF
open PySem PySem.Spec PyProof.Rows L2
/-! ### rising tuples of positions -/
def gd (n k : Nat) (d : D) : Prop := ∃ l : List Int, d = .tup (l.map .int) ∧ l.length = k ∧ (∀ i ∈ l, 0 ≤ i ∧ i < n)
theorem atT_last (l : List D) (d : D) : dIx (.tup (l ++ [d])) (.int (-1)) = some d := at_last l d
theorem catT (xs ys : List D) (h : xs.length + ys.length ≤ 100) : dAdd (.tup xs) (.tup ys) = some (.tup (xs ++ ys)) := by
  show dCatT (.tup xs) (.tup ys) = _
  simp only [dCatT]
  first
    | rw [if_pos (by rw [sizeLine_eq]; omega)]
    | (split <;> simp_all)
theorem pick_row (n k : Nat) (hn : n ≤ 8) (hk : k ≤ 9) (d : D) (hd : gd n k d) (s1 s2 s3 s4 s6 : Option W) (p : Pst) : ∃ ys, m_picks_of_1 [some (.val (.int n)), s1, s2, s3, s4, some (.val d), s6] p = .ok ys p ∧ (∀ y ∈ ys, gd n (k + 1) y) ∧ ys.length ≤ 8 := by
  obtain ⟨l, rfl, hl, hb⟩ := hd
  have ne : dNe (.tup (l.map .int)) (.tup []) = some (!decide (l = [])) := dNe_intsT l []
  -- where it begins
  obtain ⟨st, h0, h1, hs⟩ : ∃ st : Int, 0 ≤ st ∧ st ≤ n ∧ mIf (mCmp dNe (rd 5) (mtup (mret []))) (mOp dAdd (mOp dIx (rd 5) (mUn dNeg (mret (.int 1)))) (mret (.int 1))) (mret (.int 0)) [some (.val (.int n)), s1, s2, s3, s4, some (.val (.tup (l.map .int))), s6] p = .ok (.int st) p := by
    by_cases hz : l = []
    · rw [decide_eq_true hz, Bool.not_true] at ne
      refine ⟨0, by omega, by omega, ?_⟩
      generalize l.map D.int = L at *
      simp [ne]
    · rw [decide_eq_false hz, Bool.not_false] at ne
      obtain ⟨k', z, rfl⟩ : ∃ k z, l = k ++ [z] := ⟨l.dropLast, l.getLast hz, (List.dropLast_concat_getLast hz).symm⟩
      have hz2 := hb z (by simp)
      have ix := atT_last (k'.map .int) (.int z)
      have e : (k' ++ [z]).map D.int = k'.map .int ++ [.int z] := by simp
      rw [← e] at ix
      refine ⟨z + 1, by omega, by omega, ?_⟩
      generalize (k' ++ [z]).map D.int = L at *
      simp [ne, ix]
  have hi : mRange2 (mcons (mIf (mCmp dNe (rd 5) (mtup (mret []))) (mOp dAdd (mOp dIx (rd 5) (mUn dNeg (mret (.int 1)))) (mret (.int 1))) (mret (.int 0))) (mcons (rd 0) (mret []))) [some (.val (.int n)), s1, s2, s3, s4, some (.val (.tup (l.map .int))), s6] p = .ok (rgL st ((n : Int) - st).toNat) p := by
    have e : mcons (mIf (mCmp dNe (rd 5) (mtup (mret []))) (mOp dAdd (mOp dIx (rd 5) (mUn dNeg (mret (.int 1)))) (mret (.int 1))) (mret (.int 0))) (mcons (rd 0) (mret [])) [some (.val (.int n)), s1, s2, s3, s4, some (.val (.tup (l.map .int))), s6] p = .ok [.int st, .int n] p := by
      rw [ev_mcons, ev_mbind, hs, andThen_ok, kM_ap]
      simp
    rw [ev_mRange2, ev_mbind, e, andThen_ok, kM_ap, iRange2 (by omega) (by omega) (by omega) (by omega), ev_mopt_some]
  rw [rgL_up] at hi
  have em : m_picks_of_1 [some (.val (.int n)), s1, s2, s3, s4, some (.val (.tup (l.map .int))), s6] p = _ := mLc_mapY (i := 6) (el := mOp dAdd (rd 5) (mtup (mcons (rd 6) (mret [])))) hi (fun (z : Int) => .tup (l.map .int ++ [.int z])) fun z hz => by
    have c := catT (l.map .int) [.int z] (by simp; omega)
    generalize l.map D.int = L at *
    simp [wipeS, c]
  refine ⟨_, em, fun y hy => ?_, by rw [List.length_map, up, List.length_map, List.length_range]; omega⟩
  obtain ⟨z, hz, rfl⟩ := List.mem_map.mp hy
  have := mem_up.mp hz
  refine ⟨l ++ [z], by simp, by simp; omega, fun i hi => ?_⟩
  rcases List.mem_append.mp hi with q | q
  · exact hb i q
  · simp at q; subst q; omega
theorem picks_for (n k : Nat) (hn : n ≤ 8) (hk : k ≤ 9) (s1 s2 s3 s6 : Option W) (p : Pst) : ∀ (ds : List D), (∀ d ∈ ds, gd n k d) → ∀ (acc : List D) (s5 : Option W), acc.length + 8 * ds.length ≤ 1000000 → (∀ y ∈ acc, gd n (k + 1) y) →
    ∃ acc' s5', cforGo (tgName 5) b_picks_of_2 ds [some (.val (.int n)), s1, s2, s3, some (.own acc), s5, s6] p = .nx [some (.val (.int n)), s1, s2, s3, some (.own acc'), s5', s6] p ∧ (∀ y ∈ acc', gd n (k + 1) y) ∧ acc'.length ≤ acc.length + 8 * ds.length := by
  intro ds
  induction ds with
  | nil => exact fun _ acc s5 _ ha => ⟨acc, s5, rfl, ha, by simp⟩
  | cons d ds ih =>
    intro hds acc s5 hl ha
    simp only [List.length_cons] at hl
    obtain ⟨ys, e1, gy, ly⟩ := pick_row n k hn hk d (hds d List.mem_cons_self) s1 s2 s3 (some (.own acc)) s6 p
    obtain ⟨acc', s5', e2, g2, l2⟩ := ih (fun d hd => hds d (List.mem_cons_of_mem _ hd)) (acc ++ ys) (some (.val d)) (by simp; omega) (fun y hy => (List.mem_append.mp hy).elim (ha y) (gy y))
    refine ⟨acc', s5', ?_, g2, by simp at l2 ⊢; omega⟩
    have hlen : acc.length + ys.length ≤ 16000000 := by omega
    have e3 : b_picks_of_2 [some (.val (.int n)), s1, s2, s3, some (.own acc), some (.val d), s6] p = .nx [some (.val (.int n)), s1, s2, s3, some (.own (acc ++ ys)), some (.val d), s6] p := by
      simp [b_picks_of_2, cext, e1, hlen]
    simp only [cforGo, tgName, List.set_cons_succ, List.set_cons_zero, e3]
    exact e2
theorem picks_turn (n k : Nat) (hn : n ≤ 8) (hk : k ≤ 9) (ds : List D) (hd : ∀ d ∈ ds, gd n k d) (hl : 8 * ds.length ≤ 1000000) (s1 s3 s4 s5 s6 : Option W) (p : Pst) :
    ∃ ds' s4' s5', b_picks_of_3 [some (.val (.int n)), s1, some (.val (.lst ds)), s3, s4, s5, s6] p = .nx [some (.val (.int n)), s1, some (.val (.lst ds')), s3, s4', s5', s6] p ∧ (∀ y ∈ ds', gd n (k + 1) y) ∧ ds'.length ≤ 8 * ds.length := by
  obtain ⟨acc', s5', e2, g2, l2⟩ := picks_for n k hn hk s1 (some (.val (.lst ds))) s3 s6 p ds hd [] s5 (by simp; omega) (by simp)
  refine ⟨acc', some (.val (.lst acc')), s5', ?_, g2, by simpa using l2⟩
  simp [b_picks_of_3, cfor, e2, cfrz]
theorem picks_all (n : Nat) (hn : n ≤ 8) (s1 s6 : Option W) (p : Pst) : ∀ (its : List D) (k : Nat), k + its.length ≤ 4 → ∀ (ds : List D), (∀ d ∈ ds, gd n k d) → ds.length ≤ 8 ^ k → ∀ (s3 s4 s5 : Option W),
    ∃ ds' s3' s4' s5', cforGo (tgName 3) b_picks_of_3 its [some (.val (.int n)), s1, some (.val (.lst ds)), s3, s4, s5, s6] p = .nx [some (.val (.int n)), s1, some (.val (.lst ds')), s3', s4', s5', s6] p ∧ (∀ y ∈ ds', gd n (k + its.length) y) := by
  intro its
  induction its with
  | nil => exact fun k _ ds hd _ s3 s4 s5 => ⟨ds, s3, s4, s5, rfl, by simpa using hd⟩
  | cons d its ih =>
    intro k hk ds hd hl s3 s4 s5
    simp only [List.length_cons] at hk
    have pw : 8 ^ k ≤ 8 ^ 4 := Nat.pow_le_pow_right (by omega) (by omega)
    obtain ⟨ds', s4', s5', e1, g1, l1⟩ := picks_turn n k hn (by omega) ds hd (by omega) s1 (some (.val d)) s4 s5 s6 p
    obtain ⟨ds2, u3, u4, u5, e2, g2⟩ := ih (k + 1) (by omega) ds' g1 (by rw [Nat.pow_succ]; omega) (some (.val d)) s4' s5'
    refine ⟨ds2, u3, u4, u5, ?_, by rw [List.length_cons, show k + (its.length + 1) = k + 1 + its.length by omega]; exact g2⟩
    simp only [cforGo, tgName, List.set_cons_succ, List.set_cons_zero, e1]
    exact e2
theorem e_picks_of (n k : Nat) (hn : n ≤ 8) (hk : k ≤ 4) (p : Pst) : ∃ L, (∃ fr, F_picks_of [.int n, .int k] p = .ok (.lst L) fr p) ∧ ∀ d ∈ L, gd n k d := by
  rw [en_picks_of, c_picks_of]
  have r1 := dRange1_nat k (by omega)
  have rl : (rgL 0 k).length = k := by simp [rgL]
  obtain ⟨ds', u3, u4, u5, e2, g2⟩ := picks_all n hn (some (.val (.int k))) none p (rgL 0 k) 0 (by omega) [.tup []] (by
    intro d hd
    simp at hd; subst hd
    exact ⟨[], rfl, rfl, by simp⟩) (by simp) none none none
  rw [rl, Nat.zero_add] at g2
  refine ⟨ds', ⟨false, ?_⟩, g2⟩
  generalize rgL 0 k = R at *
  simp [r1, cfor, e2]
/-! ### bounds at positions -/
def bnAt (Bs : List Bd3) (i : Int) : Bd3 := Bs.getD i.toNat (0, 0, 0)
theorem ixB (Bs : List Bd3) {i : Int} (h0 : 0 ≤ i) (h1 : i < Bs.length) : dIx (.lst (Bs.map bD)) (.int i) = some (bD (bnAt Bs i)) ∧ bnAt Bs i ∈ Bs := by
  have hi : i.toNat < Bs.length := by omega
  have e : Bs[i.toNat]? = some Bs[i.toNat] := List.getElem?_eq_getElem hi
  have e2 : bnAt Bs i = Bs[i.toNat] := by unfold bnAt; rw [List.getD_eq_getElem?_getD, e]; rfl
  rw [e2]
  have h3 : (i.toNat : Int) = i := by omega
  refine ⟨?_, List.getElem_mem hi⟩
  have := dIx_lst (xs := Bs.map bD) (k := i.toNat) (d := bD Bs[i.toNat]) (by rw [List.getElem?_map, e]; rfl)
  rw [h3] at this
  exact this
def idx : D → List Int
  | .tup l => l.filterMap fun | .int i => some i | _ => none
  | _ => []
theorem idx_ints (l : List Int) : idx (.tup (l.map .int)) = l := by
  unfold idx
  simp only
  rw [List.filterMap_map]
  exact List.filterMap_some
def noneD (Bs : List Bd3) (d : D) : Bool := (brute ((idx d).map (bnAt Bs))).isEmpty
theorem e_have_none (Bs : List Bd3) (hB : ∀ b ∈ Bs, Bwk b) (k : Nat) (hk : k ≤ 4) (d : D) (hd : gd Bs.length k d) (p : Pst) : F_have_none [.lst (Bs.map bD), d] p = .ok (.bl (noneD Bs d)) false p := by
  obtain ⟨l, rfl, hl, hb⟩ := hd
  rw [en_have_none, c_have_none]
  unfold noneD
  rw [idx_ints]
  have hi : mSeq (rd 1) [some (.val (.lst (Bs.map bD))), some (.val (.tup (l.map .int))), none] p = .ok (l.map .int) p := by simp
  have em : m_have_none_1 [some (.val (.lst (Bs.map bD))), some (.val (.tup (l.map .int))), none] p = _ := mLc_mapY (i := 2) (el := mOp dIx (rd 0) (rd 2)) hi (fun (z : Int) => bD (bnAt Bs z)) fun z hz => by
    have ix := (ixB Bs (hb z hz).1 (hb z hz).2).1
    generalize Bs.map bD = L at *
    simp [wipeS, ix]
  have e0 : l.map (fun z => bD (bnAt Bs z)) = (l.map (bnAt Bs)).map bD := by rw [List.map_map]; rfl
  rw [e0] at em
  have e1 := e_points_of (l.map (bnAt Bs)) (by
    intro b hb'
    obtain ⟨z, hz, rfl⟩ := List.mem_map.mp hb'
    exact hB _ (ixB Bs (hb z hz).1 (hb z hz).2).2) (by rw [List.length_map]; omega) _ (.inl rfl) p
  have e2 := dEq_nilP (brute (l.map (bnAt Bs)))
  generalize (brute (l.map (bnAt Bs))).map pD = P at *
  generalize (l.map (bnAt Bs)).map bD = L2 at *
  generalize Bs.map bD = L at *
  simp [em, e1, e2]
/-! ### the few bar -/
theorem bar_inner (Bs : List Bd3) (hB : ∀ b ∈ Bs, Bwk b) (k : Nat) (hk : k ≤ 4) (s1 : Option W) (p : Pst) : ∀ (ds : List D), (∀ d ∈ ds, gd Bs.length k d) → ∀ s2 : Option W,
    (∀ d, ds.find? (noneD Bs) = some d → cforGo (tgName 2) b_few_bar_1 ds [some (.val (.lst (Bs.map bD))), s1, s2] p = .rt d false p) ∧
    (ds.find? (noneD Bs) = none → ∃ s2', cforGo (tgName 2) b_few_bar_1 ds [some (.val (.lst (Bs.map bD))), s1, s2] p = .nx [some (.val (.lst (Bs.map bD))), s1, s2'] p) := by
  intro ds
  induction ds with
  | nil => exact fun _ s2 => ⟨fun d h => by simp at h, fun _ => ⟨s2, rfl⟩⟩
  | cons d ds ih =>
    intro hds s2
    have e1 := e_have_none Bs hB k hk d (hds d List.mem_cons_self) p
    have ih' := ih (fun d hd => hds d (List.mem_cons_of_mem _ hd)) (some (.val d))
    cases hn : noneD Bs d with
    | true =>
      rw [hn] at e1
      have e3 : b_few_bar_1 [some (.val (.lst (Bs.map bD))), s1, some (.val d)] p = .rt d false p := by
        generalize Bs.map bD = L at *
        simp [b_few_bar_1, e1]
      rw [List.find?_cons_of_pos (by simpa using hn)]
      refine ⟨fun d' h => ?_, fun h => by simp at h⟩
      have : d = d' := by simpa using h
      subst this
      simp only [cforGo, tgName, List.set_cons_succ, List.set_cons_zero, e3]
    | false =>
      rw [hn] at e1
      have e3 : b_few_bar_1 [some (.val (.lst (Bs.map bD))), s1, some (.val d)] p = .nx [some (.val (.lst (Bs.map bD))), s1, some (.val d)] p := by
        generalize Bs.map bD = L at *
        simp [b_few_bar_1, e1]
      rw [List.find?_cons_of_neg (by simp [hn])]
      simp only [cforGo, tgName, List.set_cons_succ, List.set_cons_zero, e3]
      exact ih'
theorem bar_outer (Bs : List Bd3) (hB : ∀ b ∈ Bs, Bwk b) (hl : Bs.length ≤ 8) (LK : Nat → List D) (p : Pst) (hK : ∀ k : Nat, k ≤ 4 → (∃ fr, F_picks_of [.int Bs.length, .int k] p = .ok (.lst (LK k)) fr p) ∧ ∀ d ∈ LK k, gd Bs.length k d) : ∀ (ks : List Nat), (∀ k ∈ ks, k ≤ 4) → ∀ s1 s2 : Option W,
    (∀ d, ks.findSome? (fun k => (LK k).find? (noneD Bs)) = some d → cforGo (tgName 1) b_few_bar_2 (ks.map fun (k : Nat) => D.int (k : Int)) [some (.val (.lst (Bs.map bD))), s1, s2] p = .rt d false p) ∧
    (ks.findSome? (fun k => (LK k).find? (noneD Bs)) = none → ∃ s1' s2', cforGo (tgName 1) b_few_bar_2 (ks.map fun (k : Nat) => D.int (k : Int)) [some (.val (.lst (Bs.map bD))), s1, s2] p = .nx [some (.val (.lst (Bs.map bD))), s1', s2'] p) := by
  intro ks
  induction ks with
  | nil => exact fun _ s1 s2 => ⟨fun d h => by simp at h, fun _ => ⟨s1, s2, rfl⟩⟩
  | cons k ks ih =>
    intro hks s1 s2
    have hk4 := hks k List.mem_cons_self
    obtain ⟨⟨fr, eP⟩, gP⟩ := hK k hk4
    obtain ⟨i1, i2⟩ := bar_inner Bs hB k hk4 (some (.val (.int k))) p (LK k) gP s2
    have hlen : dLen [.lst (Bs.map bD)] = some (.int Bs.length) := by rw [dLen_lst, List.length_map]
    have eh : mSeq (mFn F_picks_of 2 0 [0, 1] (mcons (mCall dLen (mcons (rd 0) (mret []))) (mcons (rd 1) (mret []))) (mret [])) [some (.val (.lst (Bs.map bD))), some (.val (.int k)), s2] p = .ok (LK k) p := by
      generalize Bs.map bD = L at *
      simp [-nLen_lst, hlen, eP]
    rw [List.findSome?_cons]
    cases hf : (LK k).find? (noneD Bs) with
    | some d =>
      refine ⟨fun d' h => ?_, fun h => by simp at h⟩
      have : d = d' := by simpa using h
      subst this
      have e3 : b_few_bar_2 [some (.val (.lst (Bs.map bD))), some (.val (.int k)), s2] p = .rt d false p := by
        have := i1 d hf
        generalize Bs.map bD = L at *
        simp [-nLen_lst, hlen, eP, b_few_bar_2, cfor, this]
      rw [List.map_cons]
      simp only [cforGo, tgName, List.set_cons_succ, List.set_cons_zero, e3]
    | none =>
      obtain ⟨s2', e4⟩ := i2 hf
      have e3 : b_few_bar_2 [some (.val (.lst (Bs.map bD))), some (.val (.int k)), s2] p = .nx [some (.val (.lst (Bs.map bD))), some (.val (.int k)), s2'] p := by
        generalize Bs.map bD = L at *
        simp [-nLen_lst, hlen, eP, b_few_bar_2, cfor, e4]
      rw [List.map_cons]
      simp only [cforGo, tgName, List.set_cons_succ, List.set_cons_zero, e3]
      exact ih (fun k hk => hks k (List.mem_cons_of_mem _ hk)) (some (.val (.int k))) s2'
def ksOf (n : Nat) : List Nat := (List.range (min 4 n)).map (· + 1)
theorem mem_ks {n k : Nat} (h : k ∈ ksOf n) : k ≤ 4 := by
  unfold ksOf at h
  obtain ⟨j, hj, rfl⟩ := List.mem_map.mp h
  have := List.mem_range.mp hj
  omega
theorem ks_items (n : Nat) : rgL 1 (min 4 n) = (ksOf n).map fun (k : Nat) => D.int (k : Int) := by
  unfold rgL ksOf
  rw [List.map_map]
  refine List.map_congr_left fun k _ => ?_
  simp only [Function.comp]
  congr 1
  omega
theorem ks_range (n : Nat) : dRange2 [.int 1, .int (((min 4 n : Nat) : Int) + 1)] = some ((ksOf n).map fun (k : Nat) => D.int (k : Int)) := by
  rw [iRange2 (by omega) (by omega) (by omega) (by omega), ← ks_items]
  have e : (((min 4 n : Nat) : Int) + 1 - 1).toNat = min 4 n := by omega
  rw [e]
theorem min_four (n : Nat) : dMin2 [.int 4, .int (n : Int)] = some (.int ((min 4 n : Nat) : Int)) := by
  rw [dMin2_int]; congr 2; split <;> omega
def barOf (LK : Nat → List D) (n : Nat) (f : D → Bool) : D := ((ksOf n).findSome? (fun k => (LK k).find? f)).getD .non
theorem bar_walk (Bs : List Bd3) (hB : ∀ b ∈ Bs, Bok b) (h1 : 1 ≤ Bs.length) (hn : Bs.length ≤ 8) (LK : Nat → List D) (p : Pst) (hK : ∀ k : Nat, k ≤ 4 → (∃ fr, F_picks_of [.int Bs.length, .int k] p = .ok (.lst (LK k)) fr p) ∧ ∀ d ∈ LK k, gd Bs.length k d) :
    F_few_bar [.lst (Bs.map bD)] p = .ok (barOf LK Bs.length (noneD Bs)) false p := by
  rw [en_few_bar, c_few_bar]
  have ec := e_check_bounds Bs hB h1 hn (.lst (Bs.map bD)) (.inl rfl) p
  obtain ⟨o1, o2⟩ := bar_outer Bs (fun b hb => (hB b hb).toBwk) hn LK p hK (ksOf Bs.length) (fun k hk => mem_ks hk) none none
  have hlen : dLen [.lst (Bs.map bD)] = some (.int Bs.length) := by rw [dLen_lst, List.length_map]
  have mn := min_four Bs.length
  have rg := ks_range Bs.length
  have bo : barOf LK Bs.length (noneD Bs) = ((ksOf Bs.length).findSome? (fun k => (LK k).find? (noneD Bs))).getD .non := rfl
  clear hK
  generalize ((min 4 Bs.length : Nat) : Int) = mm at *
  cases hf : (ksOf Bs.length).findSome? (fun k => (LK k).find? (noneD Bs)) with
  | some d =>
    have e4 := o1 d hf
    rw [hf, Option.getD_some] at bo
    rw [bo]
    clear o1 o2 hf bo
    generalize (ksOf Bs.length).map (fun (k : Nat) => D.int (k : Int)) = K at *
    generalize Bs.map bD = L at *
    have ei : mRange2 (mcons (mret (.int 1)) (mcons (mOp dAdd (mCall dMin2 (mcons (mret (.int 4)) (mcons (mCall dLen (mcons (rd 0) (mret []))) (mret [])))) (mret (.int 1))) (mret []))) [some (.val (.lst L)), none, none] p = .ok K p := by
      have e : mcons (mret (.int 1)) (mcons (mOp dAdd (mCall dMin2 (mcons (mret (.int 4)) (mcons (mCall dLen (mcons (rd 0) (mret []))) (mret [])))) (mret (.int 1))) (mret [])) [some (.val (.lst L)), none, none] p = .ok [.int 1, .int (mm + 1)] p := by simp [-nLen_lst, hlen, mn]
      rw [ev_mRange2, ev_mbind, e, andThen_ok, kM_ap, rg, ev_mopt_some]
    simp [ec, cfor, -ev_mRange2, ei, e4]
  | none =>
    obtain ⟨u1, u2, e4⟩ := o2 hf
    rw [hf, Option.getD_none] at bo
    rw [bo]
    clear o1 o2 hf bo
    generalize (ksOf Bs.length).map (fun (k : Nat) => D.int (k : Int)) = K at *
    generalize Bs.map bD = L at *
    have ei : mRange2 (mcons (mret (.int 1)) (mcons (mOp dAdd (mCall dMin2 (mcons (mret (.int 4)) (mcons (mCall dLen (mcons (rd 0) (mret []))) (mret [])))) (mret (.int 1))) (mret []))) [some (.val (.lst L)), none, none] p = .ok K p := by
      have e : mcons (mret (.int 1)) (mcons (mOp dAdd (mCall dMin2 (mcons (mret (.int 4)) (mcons (mCall dLen (mcons (rd 0) (mret []))) (mret [])))) (mret (.int 1))) (mret [])) [some (.val (.lst L)), none, none] p = .ok [.int 1, .int (mm + 1)] p := by simp [-nLen_lst, hlen, mn]
      rw [ev_mRange2, ev_mbind, e, andThen_ok, kM_ap, rg, ev_mopt_some]
    simp [ec, cfor, -ev_mRange2, ei, e4]
theorem e_few_bar (n : Nat) (h1 : 1 ≤ n) (hn : n ≤ 8) (p : Pst) : ∃ bar : (D → Bool) → D, ∀ Bs : List Bd3, Bs.length = n → (∀ b ∈ Bs, Bok b) → F_few_bar [.lst (Bs.map bD)] p = .ok (bar (noneD Bs)) false p ∧ dNe (bar (noneD Bs)) (bar (noneD Bs)) = some false := by
  obtain ⟨LK, hK⟩ : ∃ LK : Nat → List D, ∀ k : Nat, k ≤ 4 → (∃ fr, F_picks_of [.int n, .int k] p = .ok (.lst (LK k)) fr p) ∧ ∀ d ∈ LK k, gd n k d := by
    have : ∀ k : Nat, ∃ L : List D, k ≤ 4 → (∃ fr, F_picks_of [.int n, .int k] p = .ok (.lst L) fr p) ∧ ∀ d ∈ L, gd n k d := fun k => by
      by_cases hk : k ≤ 4
      · obtain ⟨L, h⟩ := e_picks_of n k hn hk p
        exact ⟨L, fun _ => h⟩
      · exact ⟨[], fun h => absurd h hk⟩
    exact Classical.skolem.mp this
  refine ⟨barOf LK n, fun Bs hl hB => ?_⟩
  subst hl
  refine ⟨bar_walk Bs hB h1 hn LK p hK, ?_⟩
  have bo : barOf LK Bs.length (noneD Bs) = ((ksOf Bs.length).findSome? (fun k => (LK k).find? (noneD Bs))).getD .non := rfl
  cases hf : (ksOf Bs.length).findSome? (fun k => (LK k).find? (noneD Bs)) with
  | none =>
    rw [hf, Option.getD_none] at bo
    rw [bo]; rfl
  | some d =>
    rw [hf, Option.getD_some] at bo
    rw [bo]
    obtain ⟨k, hk, hd⟩ := List.exists_of_findSome?_eq_some hf
    obtain ⟨l, rfl, _, _⟩ := (hK k (mem_ks hk)).2 d (List.mem_of_find?_eq_some hd)
    rw [dNe_intsT]; simp
end PF

namespace PF
open PySem PySem.Spec PyProof.Rows L2
/-! ### bounds turned, plain -/
structure Sy (f : Pt → Pt) (g : Bd3 → Bd3) : Prop where
  inv : ∀ q, f (f q) = q
  box : ∀ q : Pt, (-20 ≤ q.1 ∧ q.1 ≤ 20 ∧ -20 ≤ q.2 ∧ q.2 ≤ 20) → (-20 ≤ (f q).1 ∧ (f q).1 ≤ 20 ∧ -20 ≤ (f q).2 ∧ (f q).2 ≤ 20)
  inb : ∀ (b : Bd3) (q : Pt), inB (g b) q.1 q.2 = inB b (f q).1 (f q).2
  dt : ∀ w q, dot (f w) (f q) = dot w q
  z : g (0, 0, 0) = (0, 0, 0)
def fB (q : Pt) : Pt := (0 - q.1, q.2)
def gB (b : Bd3) : Bd3 := (0 - b.1, b.2.1, b.2.2)
def fT (q : Pt) : Pt := (q.2, q.1)
def gT (b : Bd3) : Bd3 := (b.2.1, b.1, b.2.2)
theorem syB : Sy fB gB where
  inv q := by unfold fB; exact Prod.ext (by simp only; omega) rfl
  box q h := by unfold fB; simp only; omega
  inb b q := by
    unfold fB gB inB
    simp only
    have e : (0 - b.1) * q.1 = b.1 * (0 - q.1) := by grind
    rw [e]
  dt w q := by unfold fB dot; simp only; grind
  z := rfl
theorem syT : Sy fT gT where
  inv q := rfl
  box q h := by unfold fT; simp only; omega
  inb b q := by
    unfold fT gT inB
    simp only
    rw [Int.add_comm]
  dt w q := by unfold fT dot; simp only; omega
  z := rfl
section
variable {f : Pt → Pt} {g : Bd3 → Bd3} (y : Sy f g)
include y
theorem mem_sy {Bs : List Bd3} {q : Pt} : q ∈ brute (Bs.map g) ↔ f q ∈ brute Bs := by
  rw [mem_brute, mem_brute, List.all_map]
  have e : ((fun b => inB b q.1 q.2) ∘ g) = fun b => inB b (f q).1 (f q).2 := funext fun b => y.inb b q
  rw [e]
  constructor
  · rintro ⟨h1, h2⟩; exact ⟨y.box q h1, h2⟩
  · rintro ⟨h1, h2⟩
    refine ⟨?_, h2⟩
    have := y.box _ h1
    rwa [y.inv] at this
theorem f_inj {a b : Pt} (h : f a = f b) : a = b := by
  have := congrArg f h
  rwa [y.inv, y.inv] at this
theorem nodup_f {l : List Pt} (h : l.Nodup) : (l.map f).Nodup := by
  unfold List.Nodup
  rw [List.pairwise_map]
  exact h.imp fun hab e => hab (f_inj y e)
theorem mem_mapf {l : List Pt} {q : Pt} : q ∈ l.map f ↔ f q ∈ l := by
  constructor
  · intro h
    obtain ⟨r, hr, rfl⟩ := List.mem_map.mp h
    rwa [y.inv]
  · intro h
    exact List.mem_map.mpr ⟨f q, h, y.inv q⟩
end
theorem brute_nodup (Bs : List Bd3) : (brute Bs).Nodup := (brute_sorted Bs).imp fun h e => by subst e; exact plt_irrefl h
section
variable {f : Pt → Pt} {g : Bd3 → Bd3} (y : Sy f g)
include y
theorem perm_sy (Bs : List Bd3) : (brute (Bs.map g)).Perm ((brute Bs).map f) :=
  perm_of_mem (brute_nodup _) (nodup_f y (brute_nodup _)) fun q => (mem_sy y).trans (mem_mapf y).symm
theorem len_sy (Bs : List Bd3) : (brute (Bs.map g)).length = (brute Bs).length := by rw [(perm_sy y Bs).length_eq, List.length_map]
theorem emp_sy (Bs : List Bd3) : (brute (Bs.map g)).isEmpty = (brute Bs).isEmpty := by
  have h := len_sy y Bs
  cases q : brute Bs with
  | nil =>
    rw [q] at h
    have e : brute (Bs.map g) = [] := List.length_eq_zero_iff.mp (by simpa using h)
    rw [e]
  | cons a r =>
    rw [q] at h
    cases q2 : brute (Bs.map g) with
    | nil => rw [q2] at h; simp at h
    | cons b s => rfl
theorem none_sy (Bs : List Bd3) : noneD (Bs.map g) = noneD Bs := by
  funext d
  unfold noneD
  have e : (idx d).map (bnAt (Bs.map g)) = ((idx d).map (bnAt Bs)).map g := by
    rw [List.map_map]
    refine List.map_congr_left fun i _ => ?_
    simp only [Function.comp, bnAt, List.getD_eq_getElem?_getD, List.getElem?_map]
    cases Bs[i.toNat]? with
    | none => exact y.z.symm
    | some b => rfl
  rw [e, emp_sy y]
theorem best_sy (Bs : List Bd3) (w : Pt) (hne : brute Bs ≠ []) : maxI ((brute (Bs.map g)).map (dot (f w))) = maxI ((brute Bs).map (dot w)) := by
  have hne2 : brute (Bs.map g) ≠ [] := fun e => by
    have := len_sy y Bs
    rw [e] at this
    exact hne (List.length_eq_zero_iff.mp (by simpa using this.symm))
  obtain ⟨a1, a2⟩ := maxI_spec (ns := (brute (Bs.map g)).map (dot (f w))) (by simpa using hne2)
  obtain ⟨b1, b2⟩ := maxI_spec (ns := (brute Bs).map (dot w)) (by simpa using hne)
  obtain ⟨q, hq, eq⟩ := List.mem_map.mp a1
  obtain ⟨r, hr, er⟩ := List.mem_map.mp b1
  have k1 := b2 (dot w (f q)) (List.mem_map.mpr ⟨f q, (mem_sy y).mp hq, rfl⟩)
  have k2 := a2 (dot (f w) (f r)) (List.mem_map.mpr ⟨f r, (mem_sy y).mpr (by rwa [y.inv]), rfl⟩)
  rw [y.dt] at k2
  have e3 : dot (f w) q = dot w (f q) := by rw [← y.dt w (f q), y.inv]
  omega
theorem ext_sy {S S' : List Pt} (h : ∀ q, q ∈ S' ↔ f q ∈ S) {c : Pt} (hc : Ext S' c) : Ext S (f c) := by
  obtain ⟨h1, w, h2⟩ := hc
  refine ⟨(h c).mp h1, f w, fun s hs hne => ?_⟩
  have k := h2 (f s) ((h (f s)).mpr (by rwa [y.inv])) (fun e => hne (by rw [← e, y.inv]))
  rw [y.dt]
  have e3 : dot (f w) s = dot w (f s) := by rw [← y.dt w (f s), y.inv]
  omega
theorem cor_sy (Bs : List Bd3) : (cor' (brute (Bs.map g))).Perm ((cor' (brute Bs)).map f) := by
  have hl := len_sy y Bs
  unfold cor'
  rw [hl]
  by_cases h : (brute Bs).length < 2
  · rw [if_pos h, if_pos h]; exact perm_sy y Bs
  · rw [if_neg h, if_neg h]
    have b20 : ∀ Cs : List Bd3, B20 (brute Cs) := fun Cs q hq => (mem_brute.mp hq).1
    obtain ⟨e1, n1⟩ := cor_ext (S := brute (Bs.map g)) (by omega) (brute_sorted _) (b20 _)
    obtain ⟨e2, n2⟩ := cor_ext (S := brute Bs) (by omega) (brute_sorted _) (b20 _)
    refine perm_of_mem n1 (nodup_f y n2) fun q => ?_
    rw [mem_mapf y, e1, e2]
    refine ⟨fun hq => ext_sy y (fun q => mem_sy y) hq, fun hq => ?_⟩
    have := ext_sy y (S := brute (Bs.map g)) (S' := brute Bs) (fun q => by rw [mem_sy y, y.inv]) hq
    rwa [y.inv] at this
theorem srt_sy (Bs : List Bd3) : srtP (cor' (brute (Bs.map g))) = srtP ((cor' (brute Bs)).map f) := srtP_congr (cor_sy y Bs)
end
theorem brute_rev (Bs : List Bd3) : brute Bs.reverse = brute Bs := brute_congr fun x y => by rw [List.all_reverse]
theorem len_sub : ∀ {l m : List Pt}, l.Nodup → (∀ q ∈ l, q ∈ m) → l.length ≤ m.length
  | [], _, _, _ => Nat.zero_le _
  | a :: l, m, h, hs => by
    rw [List.nodup_cons] at h
    have ha := hs a List.mem_cons_self
    have hp := List.perm_cons_erase ha
    have := len_sub (l := l) (m := m.erase a) h.2 (fun q hq => by
      have hm := hs q (List.mem_cons_of_mem _ hq)
      have hne : q ≠ a := fun e => h.1 (e ▸ hq)
      exact (List.mem_erase_of_ne hne).mpr hm)
    have e := hp.length_eq
    simp only [List.length_cons] at e ⊢
    omega
theorem brute_more {Bs Cs : List Bd3} : (brute (Bs ++ Cs)).length ≤ (brute Bs).length := by
  refine len_sub (brute_nodup _) fun q hq => ?_
  rw [mem_brute, List.all_append, Bool.and_eq_true] at hq
  exact mem_brute.mpr ⟨hq.1, hq.2.1⟩
/-- a bound at the best worth leaves the best worth -/
theorem brute_best (Bs : List Bd3) (w : Pt) (hne : brute Bs ≠ []) :
    brute (Bs ++ [(0 - w.1, 0 - w.2, 0 - maxI ((brute Bs).map (dot w)))]) ≠ [] ∧ maxI ((brute (Bs ++ [(0 - w.1, 0 - w.2, 0 - maxI ((brute Bs).map (dot w)))])).map (dot w)) = maxI ((brute Bs).map (dot w)) := by
  obtain ⟨b1, b2⟩ := maxI_spec (ns := (brute Bs).map (dot w)) (by simpa using hne)
  obtain ⟨r, hr, er⟩ := List.mem_map.mp b1
  generalize maxI ((brute Bs).map (dot w)) = m at *
  have inb : ∀ q : Pt, inB (0 - w.1, 0 - w.2, 0 - m) q.1 q.2 = decide (m ≤ dot w q) := fun q => by
    unfold inB dot
    simp only
    have e : (0 - w.1) * q.1 + (0 - w.2) * q.2 = 0 - (w.1 * q.1 + w.2 * q.2) := by grind
    rw [e]
    congr 1
    exact propext ⟨fun h => by omega, fun h => by omega⟩
  have hr2 : r ∈ brute (Bs ++ [(0 - w.1, 0 - w.2, 0 - m)]) := by
    have k := mem_brute.mp hr
    refine mem_brute.mpr ⟨k.1, ?_⟩
    rw [List.all_append, k.2, List.all_cons, List.all_nil, inb, er]
    simp
  have hne2 : brute (Bs ++ [(0 - w.1, 0 - w.2, 0 - m)]) ≠ [] := fun e => by rw [e] at hr2; cases hr2
  refine ⟨hne2, ?_⟩
  obtain ⟨a1, a2⟩ := maxI_spec (ns := (brute (Bs ++ [(0 - w.1, 0 - w.2, 0 - m)])).map (dot w)) (by simpa using hne2)
  obtain ⟨q, hq, eq⟩ := List.mem_map.mp a1
  have k2 := a2 _ (List.mem_map.mpr ⟨r, hr2, rfl⟩)
  have hq' : q ∈ brute Bs := by
    rw [mem_brute, List.all_append, Bool.and_eq_true] at hq
    exact mem_brute.mpr ⟨hq.1, hq.2.1⟩
  have k1 := b2 _ (List.mem_map.mpr ⟨q, hq', rfl⟩)
  omega
theorem best_bd {Bs : List Bd3} {w : Pt} (hw : -9 ≤ w.1 ∧ w.1 ≤ 9 ∧ -9 ≤ w.2 ∧ w.2 ≤ 9) (hne : brute Bs ≠ []) : -360 ≤ maxI ((brute Bs).map (dot w)) ∧ maxI ((brute Bs).map (dot w)) ≤ 360 := by
  obtain ⟨b1, b2⟩ := maxI_spec (ns := (brute Bs).map (dot w)) (by simpa using hne)
  obtain ⟨r, hr, er⟩ := List.mem_map.mp b1
  have k := (mem_brute.mp hr).1
  have m1 : (w.1 * r.1).natAbs ≤ 9 * 20 := by rw [Int.natAbs_mul]; exact Nat.mul_le_mul (by omega) (by omega)
  have m2 : (w.2 * r.2).natAbs ≤ 9 * 20 := by rw [Int.natAbs_mul]; exact Nat.mul_le_mul (by omega) (by omega)
  rw [← er]
  unfold dot
  omega
end PF

namespace PF
open PySem PySem.Spec PyProof.Rows L2
/-! ### triangles, plain -/
theorem flat_filt {α β : Type} {l : List α} {f : α → List β} {P : α → Bool} (h : ∀ x ∈ l, P x = false → f x = []) : l.flatMap f = (l.filter P).flatMap f := by
  induction l with
  | nil => rfl
  | cons a l ih =>
    have ih' := ih fun x hx => h x (List.mem_cons_of_mem _ hx)
    rw [List.flatMap_cons, List.filter_cons, ih']
    by_cases hp : P a = true
    · rw [if_pos hp, List.flatMap_cons]
    · rw [if_neg hp, h a List.mem_cons_self (by simpa using hp), List.nil_append]
theorem flat_congr {α β : Type} {l : List α} {f g : α → List β} (h : ∀ x ∈ l, f x = g x) : l.flatMap f = l.flatMap g := by
  induction l with
  | nil => rfl
  | cons a l ih => rw [List.flatMap_cons, List.flatMap_cons, h a List.mem_cons_self, ih fun x hx => h x (List.mem_cons_of_mem _ hx)]
def thX (w h : Nat) (x : Int) : Int := (h : Int) * (w - x) / w
def triP (w h : Nat) : List Pt := (up 0 (w + 1)).flatMap fun x => (up 0 (thX w h x + 1).toNat).map fun y => (x, y)
def triB (w h : Nat) : List Bd3 := [(h, w, (w : Int) * h), (-1, 0, 0), (0, -1, 0)]
theorem thX_bd {w h : Nat} (hw : 1 ≤ w) {x : Int} (h0 : 0 ≤ x) (h1 : x ≤ w) : 0 ≤ thX w h x ∧ thX w h x ≤ h := by
  unfold thX
  have k : 0 ≤ (h : Int) * (w - x) := Int.mul_nonneg (by omega) (by omega)
  refine ⟨Int.ediv_nonneg k (by omega), ?_⟩
  apply Int.ediv_le_of_le_mul (by omega)
  exact Int.mul_le_mul_of_nonneg_left (by omega) (by omega)
theorem brute_tri {w h : Nat} (w1 : 1 ≤ w) (w2 : w ≤ 20) (h1 : 1 ≤ h) (h2 : h ≤ 20) : brute (triB w h) = triP w h := by
  have key : ∀ x' ∈ cols, colP (triB w h) x' = if decide (0 ≤ x') && decide (x' ≤ w) then (up 0 (thX w h x' + 1).toNat).map (fun y' => (x', y')) else [] := by
    intro x' hx
    have hf : (fun y' => (triB w h).all fun b => inB b x' y') = fun y' => (decide (0 ≤ x') && decide (x' ≤ w)) && (decide (0 ≤ y') && decide (y' ≤ thX w h x')) := by
      funext y'
      have e1 : y' ≤ thX w h x' ↔ (h : Int) * x' + w * y' ≤ w * h := by
        unfold thX
        rw [Int.le_ediv_iff_mul_le (by omega)]
        have a1 : y' * (w : Int) = w * y' := Int.mul_comm _ _
        have a2 : (h : Int) * (w - x') = w * h - h * x' := by grind
        rw [a1, a2]; omega
      rw [Bool.eq_iff_iff]
      simp only [triB, List.all_cons, List.all_nil, inB, Bool.and_eq_true, decide_eq_true_eq, Bool.and_true, e1]
      constructor
      · rintro ⟨k1, k2, k3⟩
        have q1 : 0 ≤ x' := by omega
        have q2 : 0 ≤ y' := by omega
        refine ⟨⟨q1, ?_⟩, q2, k1⟩
        apply Classical.byContradiction
        intro hlt
        have m1 : (w : Int) * 0 ≤ w * y' := Int.mul_le_mul_of_nonneg_left q2 (by omega)
        have m2 : (h : Int) * (w + 1) ≤ h * x' := Int.mul_le_mul_of_nonneg_left (by omega) (by omega)
        have m3 : (h : Int) * (w + 1) = w * h + h := by grind
        omega
      · rintro ⟨⟨k1, k2⟩, k3, k4⟩
        exact ⟨k4, by omega, by omega⟩
    unfold colP pcol
    rw [hf]
    by_cases hc : (decide (0 ≤ x') && decide (x' ≤ w)) = true
    · rw [if_pos hc]
      have hc2 : 0 ≤ x' ∧ x' ≤ w := by simpa using hc
      have tb := thX_bd (h := h) w1 hc2.1 hc2.2
      simp only [hc, Bool.true_and]
      rw [filt_cols (by omega) (by omega), Int.sub_zero]
    · rw [if_neg hc]
      have hc' : (decide (0 ≤ x') && decide (x' ≤ w)) = false := by simpa using hc
      simp only [hc', Bool.false_and]
      simp
  unfold brute
  rw [flat_congr key, flat_filt (P := fun (x' : Int) => decide (0 ≤ x') && decide (x' ≤ w)) fun x' _ hp => by
    show (if (decide (0 ≤ x') && decide (x' ≤ w)) = true then _ else _) = _
    have hp' : (decide (0 ≤ x') && decide (x' ≤ (w : Int))) = false := hp
    rw [hp']; rfl]
  rw [flat_congr (g := fun x' => (up 0 (thX w h x' + 1).toNat).map (fun y' => (x', y'))) fun x' hx => by
    have := (List.mem_filter.mp hx).2
    show (if (decide (0 ≤ x') && decide (x' ≤ w)) = true then _ else _) = _
    rw [if_pos this]]
  rw [filt_cols (by omega) (by omega)]
  have e : ((w : Int) + 1 - 0).toNat = w + 1 := by omega
  rw [e]; rfl
theorem flat_sum {β : Type} (f : Int → List β) : ∀ l : List Int, ((l.flatMap f).length : Int) = (l.map fun x => ((f x).length : Int)).sum
  | [] => rfl
  | a :: l => by
    rw [List.flatMap_cons, List.length_append, List.map_cons, List.sum_cons, ← flat_sum f l]
    omega
theorem tri_len {w h : Nat} (w1 : 1 ≤ w) : ((triP w h).length : Int) = ((up 0 (w + 1)).map fun x => 1 + thX w h x).sum := by
  unfold triP
  rw [flat_sum]
  congr 1
  refine List.map_congr_left fun x hx => ?_
  have k := mem_up.mp hx
  have tb := thX_bd (h := h) w1 (x := x) (by omega) (by omega)
  rw [List.length_map, up, List.length_map, List.length_range]
  omega
theorem up_cons (lo : Int) (n : Nat) : up lo (n + 1) = lo :: up (lo + 1) n := by
  unfold up
  rw [List.range_succ_eq_map, List.map_cons, List.map_map]
  congr 1
  · omega
  · refine List.map_congr_left fun k _ => ?_
    simp only [Function.comp]; omega
theorem tri_least {w h : Nat} (w1 : 1 ≤ w) : leastD (triP w h) = pD (0, 0) := by
  unfold triP
  have tb := thX_bd (h := h) w1 (x := 0) (by omega) (by omega)
  obtain ⟨n, hn⟩ : ∃ n, (thX w h 0 + 1).toNat = n + 1 := ⟨(thX w h 0).toNat, by omega⟩
  rw [up_cons, List.flatMap_cons, hn, up_cons]
  rfl
theorem tri_mem {w h : Nat} (w1 : 1 ≤ w) (w2 : w ≤ 20) (h1 : 1 ≤ h) (h2 : h ≤ 20) {q : Pt} : q ∈ triP w h ↔ 0 ≤ q.1 ∧ q.1 ≤ w ∧ 0 ≤ q.2 ∧ q.2 ≤ thX w h q.1 := by
  unfold triP
  rw [List.mem_flatMap]
  constructor
  · rintro ⟨x, hx, hq⟩
    have k := mem_up.mp hx
    obtain ⟨z, hz, rfl⟩ := List.mem_map.mp hq
    have k2 := mem_up.mp hz
    simp only
    omega
  · rintro ⟨k1, k2, k3, k4⟩
    exact ⟨q.1, mem_up.mpr (by omega), List.mem_map.mpr ⟨q.2, mem_up.mpr (by omega), rfl⟩⟩
theorem maxI_is {l : List Int} {m : Int} (h1 : m ∈ l) (h2 : ∀ x ∈ l, x ≤ m) : maxI l = m := by
  obtain ⟨a1, a2⟩ := maxI_spec (ns := l) (fun e => by rw [e] at h1; cases h1)
  have := a2 m h1
  have := h2 _ a1
  omega
theorem thX_w {w h : Nat} : thX w h w = 0 := by unfold thX; simp
theorem thX_0 {w h : Nat} (w1 : 1 ≤ w) : thX w h 0 = h := by
  unfold thX
  rw [Int.sub_zero, Int.mul_ediv_cancel _ (by omega)]
theorem tri_bestx {w h : Nat} (w1 : 1 ≤ w) (w2 : w ≤ 20) (h1 : 1 ≤ h) (h2 : h ≤ 20) : maxI ((triP w h).map (dot (1, 0))) = w := by
  refine maxI_is (List.mem_map.mpr ⟨(w, 0), (tri_mem w1 w2 h1 h2).mpr ?_, ?_⟩) fun x hx => ?_
  · simp only [thX_w]; omega
  · unfold dot; simp
  · obtain ⟨q, hq, rfl⟩ := List.mem_map.mp hx
    have := (tri_mem w1 w2 h1 h2).mp hq
    unfold dot; simp only; omega
theorem tri_besty {w h : Nat} (w1 : 1 ≤ w) (w2 : w ≤ 20) (h1 : 1 ≤ h) (h2 : h ≤ 20) : maxI ((triP w h).map (dot (0, 1))) = h := by
  refine maxI_is (List.mem_map.mpr ⟨(0, h), (tri_mem w1 w2 h1 h2).mpr ?_, ?_⟩) fun x hx => ?_
  · simp only [thX_0 w1]; omega
  · unfold dot; simp
  · obtain ⟨q, hq, rfl⟩ := List.mem_map.mp hx
    have k := (tri_mem w1 w2 h1 h2).mp hq
    have := thX_bd (h := h) w1 k.1 k.2.1
    unfold dot; simp only; omega
theorem tri_c0 : ∀ h, h < 20 → cor' (triP (0 + 1) (h + 1)) = [(0, 0), (((0 + 1 : Nat) : Int), 0), (0, ((h + 1 : Nat) : Int))] := by decide +kernel
theorem tri_c1 : ∀ h, h < 20 → cor' (triP (1 + 1) (h + 1)) = [(0, 0), (((1 + 1 : Nat) : Int), 0), (0, ((h + 1 : Nat) : Int))] := by decide +kernel
theorem tri_c2 : ∀ h, h < 20 → cor' (triP (2 + 1) (h + 1)) = [(0, 0), (((2 + 1 : Nat) : Int), 0), (0, ((h + 1 : Nat) : Int))] := by decide +kernel
theorem tri_c3 : ∀ h, h < 20 → cor' (triP (3 + 1) (h + 1)) = [(0, 0), (((3 + 1 : Nat) : Int), 0), (0, ((h + 1 : Nat) : Int))] := by decide +kernel
theorem tri_c4 : ∀ h, h < 20 → cor' (triP (4 + 1) (h + 1)) = [(0, 0), (((4 + 1 : Nat) : Int), 0), (0, ((h + 1 : Nat) : Int))] := by decide +kernel
theorem tri_c5 : ∀ h, h < 20 → cor' (triP (5 + 1) (h + 1)) = [(0, 0), (((5 + 1 : Nat) : Int), 0), (0, ((h + 1 : Nat) : Int))] := by decide +kernel
theorem tri_c6 : ∀ h, h < 20 → cor' (triP (6 + 1) (h + 1)) = [(0, 0), (((6 + 1 : Nat) : Int), 0), (0, ((h + 1 : Nat) : Int))] := by decide +kernel
theorem tri_c7 : ∀ h, h < 20 → cor' (triP (7 + 1) (h + 1)) = [(0, 0), (((7 + 1 : Nat) : Int), 0), (0, ((h + 1 : Nat) : Int))] := by decide +kernel
theorem tri_c8 : ∀ h, h < 20 → cor' (triP (8 + 1) (h + 1)) = [(0, 0), (((8 + 1 : Nat) : Int), 0), (0, ((h + 1 : Nat) : Int))] := by decide +kernel
theorem tri_c9 : ∀ h, h < 20 → cor' (triP (9 + 1) (h + 1)) = [(0, 0), (((9 + 1 : Nat) : Int), 0), (0, ((h + 1 : Nat) : Int))] := by decide +kernel
theorem tri_c10 : ∀ h, h < 20 → cor' (triP (10 + 1) (h + 1)) = [(0, 0), (((10 + 1 : Nat) : Int), 0), (0, ((h + 1 : Nat) : Int))] := by decide +kernel
theorem tri_c11 : ∀ h, h < 20 → cor' (triP (11 + 1) (h + 1)) = [(0, 0), (((11 + 1 : Nat) : Int), 0), (0, ((h + 1 : Nat) : Int))] := by decide +kernel
theorem tri_c12 : ∀ h, h < 20 → cor' (triP (12 + 1) (h + 1)) = [(0, 0), (((12 + 1 : Nat) : Int), 0), (0, ((h + 1 : Nat) : Int))] := by decide +kernel
theorem tri_c13 : ∀ h, h < 20 → cor' (triP (13 + 1) (h + 1)) = [(0, 0), (((13 + 1 : Nat) : Int), 0), (0, ((h + 1 : Nat) : Int))] := by decide +kernel
theorem tri_c14 : ∀ h, h < 20 → cor' (triP (14 + 1) (h + 1)) = [(0, 0), (((14 + 1 : Nat) : Int), 0), (0, ((h + 1 : Nat) : Int))] := by decide +kernel
theorem tri_c15 : ∀ h, h < 20 → cor' (triP (15 + 1) (h + 1)) = [(0, 0), (((15 + 1 : Nat) : Int), 0), (0, ((h + 1 : Nat) : Int))] := by decide +kernel
theorem tri_c16 : ∀ h, h < 20 → cor' (triP (16 + 1) (h + 1)) = [(0, 0), (((16 + 1 : Nat) : Int), 0), (0, ((h + 1 : Nat) : Int))] := by decide +kernel
theorem tri_c17 : ∀ h, h < 20 → cor' (triP (17 + 1) (h + 1)) = [(0, 0), (((17 + 1 : Nat) : Int), 0), (0, ((h + 1 : Nat) : Int))] := by decide +kernel
theorem tri_c18 : ∀ h, h < 20 → cor' (triP (18 + 1) (h + 1)) = [(0, 0), (((18 + 1 : Nat) : Int), 0), (0, ((h + 1 : Nat) : Int))] := by decide +kernel
theorem tri_c19 : ∀ h, h < 20 → cor' (triP (19 + 1) (h + 1)) = [(0, 0), (((19 + 1 : Nat) : Int), 0), (0, ((h + 1 : Nat) : Int))] := by decide +kernel
theorem tri_cor : ∀ w, w < 20 → ∀ h, h < 20 → cor' (triP (w + 1) (h + 1)) = [(0, 0), (((w + 1 : Nat) : Int), 0), (0, ((h + 1 : Nat) : Int))]
  | 0, _ => tri_c0
  | 1, _ => tri_c1
  | 2, _ => tri_c2
  | 3, _ => tri_c3
  | 4, _ => tri_c4
  | 5, _ => tri_c5
  | 6, _ => tri_c6
  | 7, _ => tri_c7
  | 8, _ => tri_c8
  | 9, _ => tri_c9
  | 10, _ => tri_c10
  | 11, _ => tri_c11
  | 12, _ => tri_c12
  | 13, _ => tri_c13
  | 14, _ => tri_c14
  | 15, _ => tri_c15
  | 16, _ => tri_c16
  | 17, _ => tri_c17
  | 18, _ => tri_c18
  | 19, _ => tri_c19
  | w + 20, hw => fun _ _ => absurd hw (by omega)
end PF

namespace PF
open PySem PySem.Spec PyProof.Rows L2
theorem rgUp (n : Nat) : rgL 0 n = (up 0 n).map .int := rgL_up 0 n
theorem e_triangle (g : Nat) (p : Pst) (hp : Good g p) : ∃ p', F__law_triangle_right [.pot g] p = .ok (.bl true) false p' ∧ Good g p' := by
  rw [en__law_triangle_right, c__law_triangle_right]
  let Q : SRes → Prop := fun r => ∃ p', sres r = .ok (.bl true) false p' ∧ Good g p'
  show Q _
  obtain ⟨dw, p1, f1, a1, a2, g1⟩ := drw (m := 20) (by omega) (by omega) hp
  obtain ⟨dh, p2, f2, b1, b2, g2⟩ := drw (m := 20) (by omega) (by omega) g1
  obtain ⟨w0, rfl⟩ : ∃ W : Nat, dw = W := ⟨dw.toNat, by omega⟩
  obtain ⟨h0, rfl⟩ : ∃ W : Nat, dh = W := ⟨dh.toNat, by omega⟩
  have eW : (1 : Int) + (w0 : Int) = ((w0 + 1 : Nat) : Int) := by omega
  have eH : (1 : Int) + (h0 : Int) = ((h0 + 1 : Nat) : Int) := by omega
  have tc := tri_cor w0 (by omega) h0 (by omega)
  apply step (ρ1 := [some (.val (.pot g)), none, none, some (.val (.int (w0 + 1 : Nat))), some (.val (.int (h0 + 1 : Nat))), none]) (p1 := p2)
  · simp [f1, f2]
    exact ⟨eW, eH⟩
  have w1 : 1 ≤ w0 + 1 := by omega
  have w2 : w0 + 1 ≤ 20 := by omega
  have h1 : 1 ≤ h0 + 1 := by omega
  have h2 : h0 + 1 ≤ 20 := by omega
  generalize w0 + 1 = W at *
  generalize h0 + 1 = Ht at *
  clear f1 f2 eW eH
  have hB : ∀ b ∈ triB W Ht, Bok b := fun b hb => by
    have ml : (W : Int) * Ht ≤ 20 * 20 := Int.mul_le_mul (by omega) (by omega) (by omega) (by omega)
    have m0 : (0 : Int) ≤ (W : Int) * Ht := Int.mul_nonneg (by omega) (by omega)
    simp only [triB, List.mem_cons, List.not_mem_nil, or_false] at hb
    rcases hb with rfl | rfl | rfl
    · exact ⟨⟨by simp only; omega, by simp only; omega, by simp only; omega, by simp only; omega, by simp only; omega, by simp only; omega⟩, by simp only; omega⟩
    · exact ⟨⟨by decide, by decide, by decide, by decide, by decide, by decide⟩, by decide⟩
    · exact ⟨⟨by decide, by decide, by decide, by decide, by decide, by decide⟩, by decide⟩
  have ml := mul_s (i := W) (j := Ht) (by omega) (by omega)
  have hl1 : 1 ≤ (triB W Ht).length := by simp [triB]
  have hl2 : (triB W Ht).length ≤ 8 := by simp [triB]
  have eB : (triB W Ht).map bD = [.tup [.int Ht, .int W, .int ((W : Int) * Ht)], .tup [.int (-1), .int 0, .int 0], .tup [.int 0, .int (-1), .int 0]] := rfl
  have et := brute_tri w1 w2 h1 h2
  have hne : brute (triB W Ht) ≠ [] := fun e => by
    have : ((0, 0) : Pt) ∈ triP W Ht := (tri_mem w1 w2 h1 h2).mpr ⟨by simp, by simp, by simp, by simp only; rw [thX_0 w1]; omega⟩
    rw [← et, e] at this; cases this
  have ec := e_count_points (triB W Ht) hB hl1 hl2 (.lst ((triB W Ht).map bD)) (.inl rfl) p2
  have el := e_least_point (triB W Ht) hB hl1 hl2 (.lst ((triB W Ht).map bD)) (.inl rfl) p2
  have ex := e_best_worth (triB W Ht) hB hl1 hl2 (1, 0) (by unfold Wok; decide) hne p2
  have ey := e_best_worth (triB W Ht) hB hl1 hl2 (0, 1) (by unfold Wok; decide) hne p2
  have eco := e_corners (triB W Ht) hB hl1 hl2 (.lst ((triB W Ht).map bD)) (.inl rfl) p2
  rw [et, tri_len w1] at ec
  rw [et, tri_least w1] at el
  rw [et, tri_bestx w1 w2 h1 h2] at ex
  rw [et, tri_besty w1 w2 h1 h2] at ey
  rw [et, tc] at eco
  have kc := dEq_pts [(0, 0), ((W : Int), 0), (0, (Ht : Int))] [(0, 0), ((W : Int), 0), (0, (Ht : Int))]
  rw [decide_eq_true rfl] at kc
  apply step (ρ1 := [some (.val (.pot g)), some (.val (.lst ((triB W Ht).map bD))), none, some (.val (.int W)), some (.val (.int Ht)), none]) (p1 := p2)
  · rw [eB]
    have n1 : dNeg (.int 1) = some (.int (-1)) := rfl
    simp [ml, n1]
  generalize (triB W Ht).map bD = L at *
  have r1 : dRange1 [.int ((W : Int) + 1)] = some ((up 0 (W + 1)).map .int) := by
    have hc : (W : Int) + 1 = ((W + 1 : Nat) : Int) := by omega
    rw [hc, dRange1_nat (W + 1) (by omega), rgUp]
  have hi : mRange1 (mcons (mOp dAdd (rd 3) (mret (.int 1))) (mret [])) [some (.val (.pot g)), some (.val (.lst L)), none, some (.val (.int W)), some (.val (.int Ht)), none] p2 = .ok ((up 0 (W + 1)).map .int) p2 := by
    have e : mcons (mOp dAdd (rd 3) (mret (.int 1))) (mret []) [some (.val (.pot g)), some (.val (.lst L)), none, some (.val (.int W)), some (.val (.int Ht)), none] p2 = .ok [.int ((W : Int) + 1)] p2 := by simp
    rw [ev_mRange1, ev_mbind, e, andThen_ok, kM_ap, r1, ev_mopt_some]
  have em : m__law_triangle_right_1 [some (.val (.pot g)), some (.val (.lst L)), none, some (.val (.int W)), some (.val (.int Ht)), none] p2 = _ := mLc_mapY (i := 5) (el := mOp dAdd (mret (.int 1)) (mOp dDiv (mOp dMul (rd 4) (mOp dSub (rd 3) (rd 5))) (rd 3))) hi (fun (x : Int) => .int (1 + thX W Ht x)) fun x hx => by
    have m1 := mul_s (i := Ht) (j := (W : Int) - x) (by omega) (by omega)
    have d1 := dDiv_int (i := (Ht : Int) * ((W : Int) - x)) (j := (W : Int)) (by omega) (by omega)
    simp [wipeS, m1, d1, thX]
  have e0 : (up 0 (W + 1)).map (fun x => D.int (1 + thX W Ht x)) = ((up 0 (W + 1)).map fun x => 1 + thX W Ht x).map .int := by rw [List.map_map]; rfl
  rw [e0] at em
  have es : dSum [.lst (((up 0 (W + 1)).map fun x => 1 + thX W Ht x).map .int)] = some (.int ((up 0 (W + 1)).map fun x => 1 + thX W Ht x).sum) := by
    simp only [dSum, intsOf_map, Option.map_some]
  clear e0 hi r1
  generalize ((up 0 (W + 1)).map fun x => 1 + thX W Ht x).sum = S at *
  generalize ((up 0 (W + 1)).map fun x => 1 + thX W Ht x).map D.int = SL at *
  apply step (ρ1 := [some (.val (.pot g)), some (.val (.lst L)), some (.val (.int S)), some (.val (.int W)), some (.val (.int Ht)), none]) (p1 := p2)
  · simp [em, es]
  apply step_if (p1 := p2)
  · have n0 : dNe (pD (0, 0)) (.tup [.int 0, .int 0]) = some false := by
      have := dNe_tup2 0 0 0 0
      exact this
    simp [ec, el, n0]
  have q1 : pD (1, 0) = .tup [.int 1, .int 0] := rfl
  have q2 : pD (0, 1) = .tup [.int 0, .int 1] := rfl
  rw [q1] at ex
  rw [q2] at ey
  apply step_if (p1 := p2)
  · simp [ex, ey]
  refine ⟨p2, ?_, g2⟩
  have k3 : [(0, 0), ((W : Int), 0), (0, (Ht : Int))].map pD = [.tup [.int 0, .int 0], .tup [.int W, .int 0], .tup [.int 0, .int Ht]] := rfl
  rw [k3] at eco kc
  simp [eco, kc]
end PF

namespace PF
open PySem PySem.Spec PyProof.Rows L2
theorem em_r1 (s0 s1 s2 s3 s5 s6 s7 s8 s9 : Option W) (Bs : List Bd3) (p : Pst) : m__law_right_1 [s0, s1, s2, s3, some (.val (.lst (Bs.map bD))), s5, s6, s7, s8, s9, none, none, none, none, none] p = .ok ((Bs.map gB).map bD) p := by
  have key : ∀ (l : List Bd3) (s4 : Option W), lcGo (fTup (fCons (fName 10) (fCons (fName 11) (fCons (fName 12) fNil)))) mYes (mtup (mcons (mOp dSub (mret (.int 0)) (rd 10)) (mcons (rd 11) (mcons (rd 12) (mret []))))) (l.map bD) [s0, s1, s2, s3, s4, s5, s6, s7, s8, s9, none, none, none, none, none] p = .ok ((l.map gB).map bD) p := by
    intro l s4
    induction l with
    | nil => rfl
    | cons b l ih =>
      have eb : bD b = .tup [.int b.1, .int b.2.1, .int b.2.2] := rfl
      have eg : bD (gB b) = .tup [.int (0 - b.1), .int b.2.1, .int b.2.2] := rfl
      rw [List.map_cons, List.map_cons, List.map_cons, eg, eb]
      generalize (l.map gB).map bD = R at *
      simp [lcGo, fTup, fCons, fName, fNil] at ih ⊢
      simp [ih]
  have hi : mSeq (rd 4) [s0, s1, s2, s3, some (.val (.lst (Bs.map bD))), s5, s6, s7, s8, s9, none, none, none, none, none] p = .ok (Bs.map bD) p := by simp
  have := key Bs (some (.val (.lst (Bs.map bD))))
  unfold m__law_right_1 mLc
  rw [ev_mbind, hi, andThen_ok, kM_ap]
  simp only [wipeS, List.foldl_cons, List.foldl_nil, List.set_cons_succ, List.set_cons_zero]
  simp only [this]
theorem em_r2 (s0 s1 s2 s3 s5 s6 s7 s8 s9 : Option W) (Bs : List Bd3) (p : Pst) : m__law_right_2 [s0, s1, s2, s3, some (.val (.lst (Bs.map bD))), s5, s6, s7, s8, s9, none, none, none, none, none] p = .ok ((Bs.map gT).map bD) p := by
  have key : ∀ (l : List Bd3) (s4 : Option W), lcGo (fTup (fCons (fName 10) (fCons (fName 11) (fCons (fName 12) fNil)))) mYes (mtup (mcons (rd 11) (mcons (rd 10) (mcons (rd 12) (mret []))))) (l.map bD) [s0, s1, s2, s3, s4, s5, s6, s7, s8, s9, none, none, none, none, none] p = .ok ((l.map gT).map bD) p := by
    intro l s4
    induction l with
    | nil => rfl
    | cons b l ih =>
      have eb : bD b = .tup [.int b.1, .int b.2.1, .int b.2.2] := rfl
      have eg : bD (gT b) = .tup [.int b.2.1, .int b.1, .int b.2.2] := rfl
      rw [List.map_cons, List.map_cons, List.map_cons, eg, eb]
      generalize (l.map gT).map bD = R at *
      simp [lcGo, fTup, fCons, fName, fNil] at ih ⊢
      simp [ih]
  have hi : mSeq (rd 4) [s0, s1, s2, s3, some (.val (.lst (Bs.map bD))), s5, s6, s7, s8, s9, none, none, none, none, none] p = .ok (Bs.map bD) p := by simp
  have := key Bs (some (.val (.lst (Bs.map bD))))
  unfold m__law_right_2 mLc
  rw [ev_mbind, hi, andThen_ok, kM_ap]
  simp only [wipeS, List.foldl_cons, List.foldl_nil, List.set_cons_succ, List.set_cons_zero]
  simp only [this]
theorem em_r3 (s0 s1 s2 s3 s4 s5 s6 s8 s9 : Option W) (S : List Pt) (p : Pst) : m__law_right_3 [s0, s1, s2, s3, s4, s5, s6, some (.val (.lst (S.map pD))), s8, s9, none, none, none, none, none] p = .ok ((S.map fB).map pD) p := by
  have key : ∀ (l : List Pt) (s7 : Option W), lcGo (fTup (fCons (fName 13) (fCons (fName 14) fNil))) mYes (mtup (mcons (mOp dSub (mret (.int 0)) (rd 13)) (mcons (rd 14) (mret [])))) (l.map pD) [s0, s1, s2, s3, s4, s5, s6, s7, s8, s9, none, none, none, none, none] p = .ok ((l.map fB).map pD) p := by
    intro l s7
    induction l with
    | nil => rfl
    | cons b l ih =>
      have eb : pD b = .tup [.int b.1, .int b.2] := rfl
      have eg : pD (fB b) = .tup [.int (0 - b.1), .int b.2] := rfl
      rw [List.map_cons, List.map_cons, List.map_cons, eg, eb]
      generalize (l.map fB).map pD = R at *
      simp [lcGo, fTup, fCons, fName, fNil] at ih ⊢
      simp [ih]
  have hi : mSeq (rd 7) [s0, s1, s2, s3, s4, s5, s6, some (.val (.lst (S.map pD))), s8, s9, none, none, none, none, none] p = .ok (S.map pD) p := by simp
  have := key S (some (.val (.lst (S.map pD))))
  unfold m__law_right_3 mLc
  rw [ev_mbind, hi, andThen_ok, kM_ap]
  simp only [wipeS, List.foldl_cons, List.foldl_nil, List.set_cons_succ, List.set_cons_zero]
  simp only [this]
theorem em_r4 (s0 s1 s2 s3 s4 s5 s6 s8 s9 : Option W) (S : List Pt) (p : Pst) : m__law_right_4 [s0, s1, s2, s3, s4, s5, s6, some (.val (.lst (S.map pD))), s8, s9, none, none, none, none, none] p = .ok ((S.map fT).map pD) p := by
  have key : ∀ (l : List Pt) (s7 : Option W), lcGo (fTup (fCons (fName 13) (fCons (fName 14) fNil))) mYes (mtup (mcons (rd 14) (mcons (rd 13) (mret [])))) (l.map pD) [s0, s1, s2, s3, s4, s5, s6, s7, s8, s9, none, none, none, none, none] p = .ok ((l.map fT).map pD) p := by
    intro l s7
    induction l with
    | nil => rfl
    | cons b l ih =>
      have eb : pD b = .tup [.int b.1, .int b.2] := rfl
      have eg : pD (fT b) = .tup [.int b.2, .int b.1] := rfl
      rw [List.map_cons, List.map_cons, List.map_cons, eg, eb]
      generalize (l.map fT).map pD = R at *
      simp [lcGo, fTup, fCons, fName, fNil] at ih ⊢
      simp [ih]
  have hi : mSeq (rd 7) [s0, s1, s2, s3, s4, s5, s6, some (.val (.lst (S.map pD))), s8, s9, none, none, none, none, none] p = .ok (S.map pD) p := by simp
  have := key S (some (.val (.lst (S.map pD))))
  unfold m__law_right_4 mLc
  rw [ev_mbind, hi, andThen_ok, kM_ap]
  simp only [wipeS, List.foldl_cons, List.foldl_nil, List.set_cons_succ, List.set_cons_zero]
  simp only [this]
theorem srtD (S : List Pt) : dSortP [.lst (S.map pD)] = some ((srtP S).map pD) := by
  have : pairsOf (S.map pD) = some S := pairsOf_map S
  simp only [dSortP, this, Option.map_some]; rfl
theorem revB (Bs : List Bd3) : (Bs.map bD).reverse = Bs.reverse.map bD := by rw [List.map_reverse]
theorem mul3 (n : Int) : dMul (.lst [.int n]) (.int 3) = some (.lst [.int n, .int n, .int n]) := rfl
/-- with a point: the inner part -/
theorem inner_ok (g : Nat) (Bs : List Bd3) (h : ∀ b ∈ Bs, Bs5 b) (h1 : 1 ≤ Bs.length) (h2 : Bs.length ≤ 6) (w : Pt) (hw : -9 ≤ w.1 ∧ w.1 ≤ 9 ∧ -9 ≤ w.2 ∧ w.2 ≤ 9) (hne : brute Bs ≠ []) (s7 : Option W) (p : Pst) :
    ∃ t8 t9, cseq (casg 8 (mFn F_best_worth 2 0 [0, 1] (mcons (rd 4) (mcons (rd 5) (mret []))) (mret []))) (cseq (cif (mOr (mCmp dNe (mFn F_best_worth 2 0 [0, 1] (mcons (rd 1) (mcons (mtup (mcons (mOp dSub (mret (.int 0)) (mOp dIx (rd 5) (mret (.int 0)))) (mcons (mOp dIx (rd 5) (mret (.int 1))) (mret [])))) (mret []))) (mret [])) (rd 8)) (mCmp dNe (mFn F_best_worth 2 0 [0, 1] (mcons (rd 2) (mcons (mRev2 (rd 5)) (mret []))) (mret [])) (rd 8))) (cret (mret (.bl false))) (cskip)) (cseq (casg 9 (mIf (mCmp dNe (rd 5) (mtup (mcons (mret (.int 0)) (mcons (mret (.int 0)) (mret []))))) (mOp dAdd (rd 4) (mfrz (mlim (mcons (mtup (mcons (mOp dSub (mret (.int 0)) (mOp dIx (rd 5) (mret (.int 0)))) (mcons (mOp dSub (mret (.int 0)) (mOp dIx (rd 5) (mret (.int 1)))) (mcons (mOp dSub (mret (.int 0)) (rd 8)) (mret []))))) (mret []))))) (rd 4))) (cseq (cif (mOr (mCmp dNe (mFn F_best_worth 2 0 [0, 1] (mcons (rd 9) (mcons (rd 5) (mret []))) (mret [])) (rd 8)) (mCmp dGt (mFn F_count_points 1 0 [0] (mcons (rd 9) (mret [])) (mret [])) (rd 6))) (cret (mret (.bl false))) (cskip)) (cif (mCmp dNotB (mFn F_is_within_bounds 2 0 [0, 1] (mcons (rd 9) (mcons (mFn F_least_point 1 0 [0] (mcons (rd 9) (mret [])) (mret [])) (mret []))) (mret [])) (mret (.bl true))) (cret (mret (.bl false))) (cskip)))))
      [some (.val (.pot g)), some (.val (.lst ((Bs.map gB).map bD))), some (.val (.lst ((Bs.map gT).map bD))), none, some (.val (.lst (Bs.map bD))), some (.val (pD w)), some (.val (.int (brute Bs).length)), s7, none, none, none, none, none, none, none] p
    = .nx [some (.val (.pot g)), some (.val (.lst ((Bs.map gB).map bD))), some (.val (.lst ((Bs.map gT).map bD))), none, some (.val (.lst (Bs.map bD))), some (.val (pD w)), some (.val (.int (brute Bs).length)), s7, t8, t9, none, none, none, none, none] p := by
  have hk : ∀ b ∈ Bs, Bok b := fun b hb => (h b hb).toBok
  have hgB : ∀ b ∈ Bs.map gB, Bok b := fun b hb => by
    obtain ⟨c, hc, rfl⟩ := List.mem_map.mp hb
    have k := h c hc
    have := k.s1; have := k.s2; have := k.s3; have := k.s4; have := k.s5; have := k.s6; have := k.ne
    unfold gB
    exact ⟨⟨by simp only; omega, by simp only; omega, by simp only; omega, by simp only; omega, by simp only; omega, by simp only; omega⟩, by simp only; omega⟩
  have hgT : ∀ b ∈ Bs.map gT, Bok b := fun b hb => by
    obtain ⟨c, hc, rfl⟩ := List.mem_map.mp hb
    have k := h c hc
    have := k.s1; have := k.s2; have := k.s3; have := k.s4; have := k.s5; have := k.s6; have := k.ne
    unfold gT
    exact ⟨⟨by simp only; omega, by simp only; omega, by simp only; omega, by simp only; omega, by simp only; omega, by simp only; omega⟩, by simp only; omega⟩
  have neg : ∀ {f : Pt → Pt} {g' : Bd3 → Bd3} (y : Sy f g'), brute (Bs.map g') ≠ [] := fun {f g'} y e => by
    have := len_sy y Bs
    rw [e] at this
    exact hne (List.length_eq_zero_iff.mp (by simpa using this.symm))
  have bd := best_bd hw hne
  have wok : Wok w := by unfold Wok; omega
  have eb := e_best_worth Bs hk h1 (by omega) w wok hne p
  have ebB := e_best_worth (Bs.map gB) hgB (by rw [List.length_map]; omega) (by rw [List.length_map]; omega) (fB w) (by unfold Wok fB; simp only; omega) (neg syB) p
  have ebT := e_best_worth (Bs.map gT) hgT (by rw [List.length_map]; omega) (by rw [List.length_map]; omega) (fT w) (by unfold Wok fT; simp only; omega) (neg syT) p
  rw [best_sy syB Bs w hne] at ebB
  rw [best_sy syT Bs w hne] at ebT
  -- the bound more
  obtain ⟨Cs, eC, hC, c1, c2, cne, cbest, clen⟩ : ∃ Cs : List Bd3, (mIf (mCmp dNe (rd 5) (mtup (mcons (mret (.int 0)) (mcons (mret (.int 0)) (mret []))))) (mOp dAdd (rd 4) (mfrz (mlim (mcons (mtup (mcons (mOp dSub (mret (.int 0)) (mOp dIx (rd 5) (mret (.int 0)))) (mcons (mOp dSub (mret (.int 0)) (mOp dIx (rd 5) (mret (.int 1)))) (mcons (mOp dSub (mret (.int 0)) (rd 8)) (mret []))))) (mret []))))) (rd 4)) [some (.val (.pot g)), some (.val (.lst ((Bs.map gB).map bD))), some (.val (.lst ((Bs.map gT).map bD))), none, some (.val (.lst (Bs.map bD))), some (.val (pD w)), some (.val (.int (brute Bs).length)), s7, some (.val (.int (maxI ((brute Bs).map (dot w))))), none, none, none, none, none, none] p = .ok (.lst (Cs.map bD)) p ∧
      (∀ b ∈ Cs, Bok b) ∧ 1 ≤ Cs.length ∧ Cs.length ≤ 8 ∧ brute Cs ≠ [] ∧ maxI ((brute Cs).map (dot w)) = maxI ((brute Bs).map (dot w)) ∧ (brute Cs).length ≤ (brute Bs).length := by
    have n1 : dNe (pD w) (.tup [.int 0, .int 0]) = _ := dNe_tup2 w.1 w.2 0 0
    by_cases hz : w.1 = 0 ∧ w.2 = 0
    · rw [show (!(decide (w.1 = 0) && decide (w.2 = 0))) = false by rw [hz.1, hz.2]; rfl] at n1
      refine ⟨Bs, ?_, hk, h1, by omega, hne, rfl, Nat.le_refl _⟩
      generalize (Bs.map gB).map bD = L1 at *
      generalize (Bs.map gT).map bD = L2 at *
      generalize Bs.map bD = L at *
      simp [n1]
    · rw [show (!(decide (w.1 = 0) && decide (w.2 = 0))) = true by
        by_cases q1 : w.1 = 0 <;> by_cases q2 : w.2 = 0 <;> simp [q1, q2] at hz ⊢] at n1
      obtain ⟨r1, r2⟩ := brute_best Bs w hne
      refine ⟨Bs ++ [(0 - w.1, 0 - w.2, 0 - maxI ((brute Bs).map (dot w)))], ?_, ?_, by simp, by simp; omega, r1, r2, brute_more⟩
      · have ca := cat_ok (xs := Bs.map bD) (ys := [bD (0 - w.1, 0 - w.2, 0 - maxI ((brute Bs).map (dot w)))]) (by simp; omega)
        have e9 : bD (0 - w.1, 0 - w.2, 0 - maxI ((brute Bs).map (dot w))) = .tup [.int (0 - w.1), .int (0 - w.2), .int (0 - maxI ((brute Bs).map (dot w)))] := rfl
        rw [List.map_append, List.map_cons, List.map_nil]
        rw [e9] at ca ⊢
        generalize maxI ((brute Bs).map (dot w)) = m at *
        generalize (Bs.map gB).map bD = L1 at *
        generalize (Bs.map gT).map bD = L2 at *
        generalize Bs.map bD = L at *
        have ca' : dAdd (.lst L) (.lst [.tup [.int (0 - w.1), .int (0 - w.2), .int (0 - m)]]) = some (.lst (L ++ [.tup [.int (0 - w.1), .int (0 - w.2), .int (0 - m)]])) := ca
        simp at ca'
        simp [n1, px0, px1, ca']
      · intro b hb
        rcases List.mem_append.mp hb with q | q
        · exact hk b q
        · simp only [List.mem_cons, List.not_mem_nil, or_false] at q
          subst q
          exact ⟨⟨by simp only; omega, by simp only; omega, by simp only; omega, by simp only; omega, by simp only; omega, by simp only; omega⟩, by simp only; omega⟩
  have eb2 := e_best_worth Cs hC c1 c2 w wok cne p
  rw [cbest] at eb2
  have ec2 := e_count_points Cs hC c1 c2 (.lst (Cs.map bD)) (.inl rfl) p
  have el2 := e_least_point Cs hC c1 c2 (.lst (Cs.map bD)) (.inl rfl) p
  obtain ⟨q, r, hq⟩ : ∃ q r, brute Cs = q :: r := by
    cases z : brute Cs with
    | nil => exact absurd z cne
    | cons q r => exact ⟨q, r, rfl⟩
  have hqm : q ∈ brute Cs := by rw [hq]; exact List.mem_cons_self
  have hqb := mem_brute.mp hqm
  have ew := e_is_within_bounds Cs hC c1 c2 q hqb.1 p
  rw [hqb.2] at ew
  have elq : leastD (brute Cs) = pD q := by rw [hq]; rfl
  rw [elq] at el2
  have ng : ¬ ((brute Bs).length : Int) < ((brute Cs).length : Int) := by omega
  have eB : D.tup [.int (0 - w.1), .int w.2] = pD (fB w) := rfl
  have eT : rev2D (pD w) = some (pD (fT w)) := rfl
  refine ⟨some (.val (.int (maxI ((brute Bs).map (dot w))))), some (.val (.lst (Cs.map bD))), ?_⟩
  generalize maxI ((brute Bs).map (dot w)) = m at *
  generalize hL1 : (Bs.map gB).map bD = L1 at *
  generalize hL2 : (Bs.map gT).map bD = L2 at *
  generalize hL : Bs.map bD = L at *
  generalize hLC : Cs.map bD = LC at *
  generalize (brute Cs).length = nC at *
  generalize (brute Bs).length = nB at *
  clear hgB hgT hk hC hL1 hL2 hL hLC
  have ebB' : F_best_worth [.lst L1, .tup [.int (0 - w.1), .int w.2]] p = .ok (.int m) false p := ebB
  let Q : SRes → Prop := fun r => r = .nx [some (.val (.pot g)), some (.val (.lst L1)), some (.val (.lst L2)), none, some (.val (.lst L)), some (.val (pD w)), some (.val (.int nB)), s7, some (.val (.int m)), some (.val (.lst LC)), none, none, none, none, none] p
  show Q _
  apply step (ρ1 := [some (.val (.pot g)), some (.val (.lst L1)), some (.val (.lst L2)), none, some (.val (.lst L)), some (.val (pD w)), some (.val (.int nB)), s7, some (.val (.int m)), none, none, none, none, none, none]) (p1 := p)
  · simp [eb]
  apply step_if (p1 := p)
  · simp [-Int.zero_sub, px0, px1, ebB', eT, ebT]
  apply step (ρ1 := [some (.val (.pot g)), some (.val (.lst L1)), some (.val (.lst L2)), none, some (.val (.lst L)), some (.val (pD w)), some (.val (.int nB)), s7, some (.val (.int m)), some (.val (.lst LC)), none, none, none, none, none]) (p1 := p)
  · rw [ev_casg, ev_eout, eC]; rfl
  apply step_if (p1 := p)
  · simp [eb2, ec2, ng]
  show _ = _
  simp [el2, ew]
/-- the law's own part -/
theorem e__law_right (g : Nat) (p : Pst) (hp : Good g p) : ∃ p', F__law_right [.pot g] p = .ok (.bl true) false p' ∧ Good g p' := by
  rw [en__law_right, c__law_right]
  let Q : SRes → Prop := fun r => ∃ p', sres r = .ok (.bl true) false p' ∧ Good g p'
  show Q _
  obtain ⟨Bs, p1, hB, h1, h2, e1, g1⟩ := e__law_bounds g p hp
  obtain ⟨dx, p2, f1, a1, a2, g2⟩ := drw (m := 19) (by omega) (by omega) g1
  obtain ⟨dy, p3, f2, b1, b2, g3⟩ := drw (m := 19) (by omega) (by omega) g2
  obtain ⟨w, ew⟩ : ∃ w : Pt, w = (dx - 9, dy - 9) := ⟨_, rfl⟩
  have epw : D.tup [.int (dx - 9), .int (dy - 9)] = pD w := by subst ew; rfl
  have hw : -9 ≤ w.1 ∧ w.1 ≤ 9 ∧ -9 ≤ w.2 ∧ w.2 ≤ 9 := by subst ew; simp only; omega
  have hk : ∀ b ∈ Bs, Bok b := fun b hb => (hB b hb).toBok
  have hgB : ∀ b ∈ Bs.map gB, Bok b := fun b hb => by
    obtain ⟨c, hc, rfl⟩ := List.mem_map.mp hb
    have k := hB c hc
    have := k.s1; have := k.s2; have := k.s3; have := k.s4; have := k.s5; have := k.s6; have := k.ne
    unfold gB
    exact ⟨⟨by simp only; omega, by simp only; omega, by simp only; omega, by simp only; omega, by simp only; omega, by simp only; omega⟩, by simp only; omega⟩
  have hgT : ∀ b ∈ Bs.map gT, Bok b := fun b hb => by
    obtain ⟨c, hc, rfl⟩ := List.mem_map.mp hb
    have k := hB c hc
    have := k.s1; have := k.s2; have := k.s3; have := k.s4; have := k.s5; have := k.s6; have := k.ne
    unfold gT
    exact ⟨⟨by simp only; omega, by simp only; omega, by simp only; omega, by simp only; omega, by simp only; omega, by simp only; omega⟩, by simp only; omega⟩
  have lB : 1 ≤ (Bs.map gB).length ∧ (Bs.map gB).length ≤ 8 := by rw [List.length_map]; omega
  have lT : 1 ≤ (Bs.map gT).length ∧ (Bs.map gT).length ≤ 8 := by rw [List.length_map]; omega
  have lR : 1 ≤ Bs.reverse.length ∧ Bs.reverse.length ≤ 8 := by rw [List.length_reverse]; omega
  have cn := e_count_points Bs hk h1 (by omega) (.lst (Bs.map bD)) (.inl rfl) p3
  have cnB := e_count_points (Bs.map gB) hgB lB.1 lB.2 (.lst ((Bs.map gB).map bD)) (.inl rfl) p3
  have cnT := e_count_points (Bs.map gT) hgT lT.1 lT.2 (.lst ((Bs.map gT).map bD)) (.inl rfl) p3
  have cnR := e_count_points Bs.reverse (fun b hb => hk b (List.mem_reverse.mp hb)) lR.1 lR.2 (.lst (Bs.reverse.map bD)) (.inl rfl) p3
  rw [len_sy syB] at cnB
  rw [len_sy syT] at cnT
  rw [brute_rev, ← revB] at cnR
  have co := e_corners Bs hk h1 (by omega) (.lst (Bs.map bD)) (.inl rfl) p3
  have coB := e_corners (Bs.map gB) hgB lB.1 lB.2 (.lst ((Bs.map gB).map bD)) (.inl rfl) p3
  have coT := e_corners (Bs.map gT) hgT lT.1 lT.2 (.lst ((Bs.map gT).map bD)) (.inl rfl) p3
  obtain ⟨bar, hbar⟩ := e_few_bar Bs.length h1 (by omega) p3
  obtain ⟨k1, k1n⟩ := hbar Bs rfl hk
  obtain ⟨k2, _⟩ := hbar (Bs.map gB) (List.length_map _) hgB
  obtain ⟨k3, _⟩ := hbar (Bs.map gT) (List.length_map _) hgT
  rw [none_sy syB] at k2
  rw [none_sy syT] at k3
  generalize bar (noneD Bs) = bd at *
  have sB := srtD (cor' (brute (Bs.map gB)))
  have sT := srtD (cor' (brute (Bs.map gT)))
  rw [srt_sy syB] at sB
  rw [srt_sy syT] at sT
  have sB' := srtD ((cor' (brute Bs)).map fB)
  have sT' := srtD ((cor' (brute Bs)).map fT)
  have nB := dNe_pts (srtP ((cor' (brute Bs)).map fB)) (srtP ((cor' (brute Bs)).map fB))
  have nT := dNe_pts (srtP ((cor' (brute Bs)).map fT)) (srtP ((cor' (brute Bs)).map fT))
  rw [decide_eq_true rfl] at nB nT
  apply step (ρ1 := [some (.val (.pot g)), none, none, none, some (.val (.lst (Bs.map bD))), some (.val (pD w)), none, none, none, none, none, none, none, none, none]) (p1 := p3)
  · generalize Bs.map bD = L at *
    simp [e1, f1, f2, epw]
  apply step (ρ1 := [some (.val (.pot g)), none, none, none, some (.val (.lst (Bs.map bD))), some (.val (pD w)), some (.val (.int (brute Bs).length)), some (.val (.lst ((cor' (brute Bs)).map pD))), none, none, none, none, none, none, none]) (p1 := p3)
  · generalize Bs.map bD = L at *
    generalize (cor' (brute Bs)).map pD = L3 at *
    simp [cn, co]
  apply step (ρ1 := [some (.val (.pot g)), some (.val (.lst ((Bs.map gB).map bD))), none, none, some (.val (.lst (Bs.map bD))), some (.val (pD w)), some (.val (.int (brute Bs).length)), some (.val (.lst ((cor' (brute Bs)).map pD))), none, none, none, none, none, none, none]) (p1 := p3)
  · have em := em_r1 (some (.val (.pot g))) none none none (some (.val (pD w))) (some (.val (.int (brute Bs).length))) (some (.val (.lst ((cor' (brute Bs)).map pD)))) none none Bs p3
    generalize (Bs.map gB).map bD = L1 at *
    generalize Bs.map bD = L at *
    generalize (cor' (brute Bs)).map pD = L3 at *
    simp [em]
  apply step (ρ1 := [some (.val (.pot g)), some (.val (.lst ((Bs.map gB).map bD))), some (.val (.lst ((Bs.map gT).map bD))), none, some (.val (.lst (Bs.map bD))), some (.val (pD w)), some (.val (.int (brute Bs).length)), some (.val (.lst ((cor' (brute Bs)).map pD))), none, none, none, none, none, none, none]) (p1 := p3)
  · have em := em_r2 (some (.val (.pot g))) (some (.val (.lst ((Bs.map gB).map bD)))) none none (some (.val (pD w))) (some (.val (.int (brute Bs).length))) (some (.val (.lst ((cor' (brute Bs)).map pD)))) none none Bs p3
    generalize (Bs.map gB).map bD = L1 at *
    generalize (Bs.map gT).map bD = L2 at *
    generalize Bs.map bD = L at *
    generalize (cor' (brute Bs)).map pD = L3 at *
    simp [em]
  apply step_if (p1 := p3)
  · have m3 := mul3 ((brute Bs).length : Int)
    have n3 := dNe_ints [((brute Bs).length : Int), ((brute Bs).length : Int), ((brute Bs).length : Int)] [((brute Bs).length : Int), ((brute Bs).length : Int), ((brute Bs).length : Int)]
    rw [decide_eq_true rfl] at n3
    simp only [List.map_cons, List.map_nil] at n3
    generalize (Bs.map gB).map bD = L1 at *
    generalize (Bs.map gT).map bD = L2 at *
    generalize Bs.map bD = L at *
    generalize (cor' (brute Bs)).map pD = L3 at *
    simp [cnB, cnT, cnR, m3, n3]
  apply step_if (p1 := p3)
  · have em := em_r3 (some (.val (.pot g))) (some (.val (.lst ((Bs.map gB).map bD)))) (some (.val (.lst ((Bs.map gT).map bD)))) none (some (.val (.lst (Bs.map bD)))) (some (.val (pD w))) (some (.val (.int (brute Bs).length))) none none (cor' (brute Bs)) p3
    generalize (cor' (brute (Bs.map gB))).map pD = K1 at *
    generalize ((cor' (brute Bs)).map fB).map pD = K2 at *
    generalize (srtP ((cor' (brute Bs)).map fB)).map pD = K3 at *
    generalize (Bs.map gB).map bD = L1 at *
    generalize (Bs.map gT).map bD = L2 at *
    generalize Bs.map bD = L at *
    generalize (cor' (brute Bs)).map pD = L3 at *
    simp [coB, em, sB, sB', nB]
  apply step_if (p1 := p3)
  · have em := em_r4 (some (.val (.pot g))) (some (.val (.lst ((Bs.map gB).map bD)))) (some (.val (.lst ((Bs.map gT).map bD)))) none (some (.val (.lst (Bs.map bD)))) (some (.val (pD w))) (some (.val (.int (brute Bs).length))) none none (cor' (brute Bs)) p3
    generalize (cor' (brute (Bs.map gT))).map pD = K1 at *
    generalize ((cor' (brute Bs)).map fT).map pD = K2 at *
    generalize (srtP ((cor' (brute Bs)).map fT)).map pD = K3 at *
    generalize (Bs.map gB).map bD = L1 at *
    generalize (Bs.map gT).map bD = L2 at *
    generalize Bs.map bD = L at *
    generalize (cor' (brute Bs)).map pD = L3 at *
    simp [coT, em, sT, sT', nT]
  apply step_if (p1 := p3)
  · generalize (Bs.map gB).map bD = L1 at *
    generalize (Bs.map gT).map bD = L2 at *
    generalize Bs.map bD = L at *
    generalize (cor' (brute Bs)).map pD = L3 at *
    simp [k1, k2, k3, k1n]
  -- the part with a point
  obtain ⟨t8, t9, ei⟩ : ∃ t8 t9 : Option W, cif (mCmp dGt (rd 6) (mret (.int 0))) (cseq (casg 8 (mFn F_best_worth 2 0 [0, 1] (mcons (rd 4) (mcons (rd 5) (mret []))) (mret []))) (cseq (cif (mOr (mCmp dNe (mFn F_best_worth 2 0 [0, 1] (mcons (rd 1) (mcons (mtup (mcons (mOp dSub (mret (.int 0)) (mOp dIx (rd 5) (mret (.int 0)))) (mcons (mOp dIx (rd 5) (mret (.int 1))) (mret [])))) (mret []))) (mret [])) (rd 8)) (mCmp dNe (mFn F_best_worth 2 0 [0, 1] (mcons (rd 2) (mcons (mRev2 (rd 5)) (mret []))) (mret [])) (rd 8))) (cret (mret (.bl false))) (cskip)) (cseq (casg 9 (mIf (mCmp dNe (rd 5) (mtup (mcons (mret (.int 0)) (mcons (mret (.int 0)) (mret []))))) (mOp dAdd (rd 4) (mfrz (mlim (mcons (mtup (mcons (mOp dSub (mret (.int 0)) (mOp dIx (rd 5) (mret (.int 0)))) (mcons (mOp dSub (mret (.int 0)) (mOp dIx (rd 5) (mret (.int 1)))) (mcons (mOp dSub (mret (.int 0)) (rd 8)) (mret []))))) (mret []))))) (rd 4))) (cseq (cif (mOr (mCmp dNe (mFn F_best_worth 2 0 [0, 1] (mcons (rd 9) (mcons (rd 5) (mret []))) (mret [])) (rd 8)) (mCmp dGt (mFn F_count_points 1 0 [0] (mcons (rd 9) (mret [])) (mret [])) (rd 6))) (cret (mret (.bl false))) (cskip)) (cif (mCmp dNotB (mFn F_is_within_bounds 2 0 [0, 1] (mcons (rd 9) (mcons (mFn F_least_point 1 0 [0] (mcons (rd 9) (mret [])) (mret [])) (mret []))) (mret [])) (mret (.bl true))) (cret (mret (.bl false))) (cskip)))))) (cskip)
      [some (.val (.pot g)), some (.val (.lst ((Bs.map gB).map bD))), some (.val (.lst ((Bs.map gT).map bD))), none, some (.val (.lst (Bs.map bD))), some (.val (pD w)), some (.val (.int (brute Bs).length)), some (.val (.lst ((cor' (brute Bs)).map pD))), none, none, none, none, none, none, none] p3
      = .nx [some (.val (.pot g)), some (.val (.lst ((Bs.map gB).map bD))), some (.val (.lst ((Bs.map gT).map bD))), none, some (.val (.lst (Bs.map bD))), some (.val (pD w)), some (.val (.int (brute Bs).length)), some (.val (.lst ((cor' (brute Bs)).map pD))), t8, t9, none, none, none, none, none] p3 := by
    by_cases hne : brute Bs = []
    · refine ⟨none, none, ?_⟩
      have hz : ¬ (0 : Int) < ((brute Bs).length : Int) := by rw [hne]; simp
      generalize (Bs.map gB).map bD = L1 at *
      generalize (Bs.map gT).map bD = L2 at *
      generalize Bs.map bD = L at *
      generalize (cor' (brute Bs)).map pD = L3 at *
      generalize ((brute Bs).length : Int) = nn at *
      simp [hz]
    · obtain ⟨t8, t9, ei⟩ := inner_ok g Bs hB h1 h2 w hw hne (some (.val (.lst ((cor' (brute Bs)).map pD)))) p3
      refine ⟨t8, t9, ?_⟩
      have hz : (0 : Int) < ((brute Bs).length : Int) := by
        have := List.length_pos_iff.mpr hne
        omega
      have ht : mCmp dGt (rd 6) (mret (.int 0)) [some (.val (.pot g)), some (.val (.lst ((Bs.map gB).map bD))), some (.val (.lst ((Bs.map gT).map bD))), none, some (.val (.lst (Bs.map bD))), some (.val (pD w)), some (.val (.int (brute Bs).length)), some (.val (.lst ((cor' (brute Bs)).map pD))), none, none, none, none, none, none, none] p3 = .ok true p3 := by
        generalize (Bs.map gB).map bD = L1 at *
        generalize (Bs.map gT).map bD = L2 at *
        generalize Bs.map bD = L at *
        generalize (cor' (brute Bs)).map pD = L3 at *
        generalize ((brute Bs).length : Int) = nn at *
        simp [hz]
      rw [ev_cif, ev_eout, ht]
      exact ei
  apply step (p1 := p3) ei
  obtain ⟨d1, p4, v1, c1, c2, g4⟩ := drw (m := 9) (by omega) (by omega) g3
  obtain ⟨d2, p5, v2, c3, c4, g5⟩ := drw (m := 9) (by omega) (by omega) g4
  obtain ⟨d3, p6, v3, c5, c6, g6⟩ := drw (m := 41) (by omega) (by omega) g5
  have ca := cat_ok (xs := Bs.map bD) (ys := [bD (d1 + 1, d2 - 4, d3 - 20)]) (by simp; omega)
  have ce : Bs.map bD ++ [bD (d1 + 1, d2 - 4, d3 - 20)] = (Bs ++ [(d1 + 1, d2 - 4, d3 - 20)]).map bD := by simp
  rw [ce] at ca
  have hL : ∀ b ∈ Bs ++ [(d1 + 1, d2 - 4, d3 - 20)], Bok b := fun b hb => by
    rcases List.mem_append.mp hb with q | q
    · exact hk b q
    · simp only [List.mem_cons, List.not_mem_nil, or_false] at q
      subst q
      exact ⟨⟨by simp only; omega, by simp only; omega, by simp only; omega, by simp only; omega, by simp only; omega, by simp only; omega⟩, by simp only; omega⟩
  have cl := e_count_points (Bs ++ [(d1 + 1, d2 - 4, d3 - 20)]) hL (by simp) (by simp; omega) (.lst ((Bs ++ [(d1 + 1, d2 - 4, d3 - 20)]).map bD)) (.inl rfl) p6
  have le := brute_more (Bs := Bs) (Cs := [(d1 + 1, d2 - 4, d3 - 20)])
  have eb : bD (d1 + 1, d2 - 4, d3 - 20) = .tup [.int (d1 + 1), .int (d2 - 4), .int (d3 - 20)] := rfl
  rw [eb] at ca
  apply step (ρ1 := [some (.val (.pot g)), some (.val (.lst ((Bs.map gB).map bD))), some (.val (.lst ((Bs.map gT).map bD))), some (.val (.lst ((Bs ++ [(d1 + 1, d2 - 4, d3 - 20)]).map bD))), some (.val (.lst (Bs.map bD))), some (.val (pD w)), some (.val (.int (brute Bs).length)), some (.val (.lst ((cor' (brute Bs)).map pD))), t8, t9, none, none, none, none, none]) (p1 := p6)
  · generalize (Bs.map gB).map bD = L1 at *
    generalize (Bs.map gT).map bD = L2 at *
    generalize (Bs ++ [(d1 + 1, d2 - 4, d3 - 20)]).map bD = L4 at *
    generalize Bs.map bD = L at *
    generalize (cor' (brute Bs)).map pD = L3 at *
    simp [v1, v2, v3, ca]
  obtain ⟨p7, et, g7⟩ := e_triangle g p6 g6
  refine ⟨p7, ?_, g7⟩
  have lei : ((brute (Bs ++ [(d1 + 1, d2 - 4, d3 - 20)])).length : Int) ≤ ((brute Bs).length : Int) := by omega
  generalize (Bs.map gB).map bD = L1 at *
  generalize (Bs.map gT).map bD = L2 at *
  generalize (Bs ++ [(d1 + 1, d2 - 4, d3 - 20)]).map bD = L4 at *
  generalize Bs.map bD = L at *
  generalize (cor' (brute Bs)).map pD = L3 at *
  generalize ((brute (Bs ++ [(d1 + 1, d2 - 4, d3 - 20)])).length : Int) = n1 at *
  generalize ((brute Bs).length : Int) = n2 at *
  simp [cl, lei, et]
theorem law_ok (ns : List Int) (hl : ns.length ≤ 63) : ∃ p', F_law [.scr ns] ⟨0, 0, 0⟩ = .ok (.bl true) false p' := by
  rw [en_law, c_law]
  have hi : mRange1 (mcons (mCall dMax2 (mcons (mret (.int 1)) (mcons (mCall dMin2 (mcons (mret (.int 2)) (mcons (mCall dLen (mcons (rd 0) (mret []))) (mret [])))) (mret [])))) (mret [])) [some (.val (.scr ns)), none] ⟨0, 0, 0⟩ = .ok ((List.range (max 1 (min 2 ns.length))).map dI) ⟨0, 0, 0⟩ := by
    show mRange1 (mcons (mCall dMax2 (mcons (mret (dI 1)) (mcons (mCall dMin2 (mcons (mret (dI 2)) (mcons (mCall dLen (mcons (rd 0) (mret []))) (mret [])))) (mret [])))) (mret [])) [some (.val (.scr ns)), none] ⟨0, 0, 0⟩ = _
    have e : mcons (mCall dMax2 (mcons (mret (dI 1)) (mcons (mCall dMin2 (mcons (mret (dI 2)) (mcons (mCall dLen (mcons (rd 0) (mret []))) (mret [])))) (mret [])))) (mret []) [some (.val (.scr ns)), none] ⟨0, 0, 0⟩ = .ok [dI (max 1 (min 2 ns.length))] ⟨0, 0, 0⟩ := by simp [nMin2, nMax2]
    rw [ev_mRange1, ev_mbind, e, andThen_ok, kM_ap, nRange1 (by omega), ev_mopt_some, rgL_dI]
  obtain ⟨ys, p', e, _, rs⟩ := mLc_draw (vs := [1]) (f := fName 1) (el := mFn F__law_right 1 0 [0] (mcons (mFn F__law_pot 2 0 [0, 1] (mcons (rd 0) (mcons (rd 1) (mret []))) (mret [])) (mret [])) (mret [])) hi (fun _ => True) (fun _ y => y = .bl true) trivial (by
    intro d hd p _
    obtain ⟨k, hk, rfl⟩ := List.mem_map.mp hd
    refine ⟨_, rfl, ?_⟩
    obtain ⟨g, p1, e1, g1⟩ := pot_ok (A := 2689) (B := 2022) (U := 44351) (V := 1207) (W := 23400) (M1 := 2147483549) (M2 := 2147483579) (Z := 1) (by decide) (by decide) (by decide) (by decide) (by decide) (by decide) (by decide) (ns := ns) (k := k) (p := p)
    have e1' : F__law_pot [.scr ns, dI k] p = .ok (.pot g) false p1 := e1
    obtain ⟨p2, e2, _⟩ := e__law_right g p1 g1
    exact ⟨_, p2, by simp [wipeS, e1', e2], trivial, rfl⟩)
  have e' : m_law_1 [some (.val (.scr ns)), none] ⟨0, 0, 0⟩ = .ok ys p' := e
  have hy : ys = (ys.map fun _ => true).map .bl := by
    apply List.ext_getElem?
    intro i
    rw [List.getElem?_map, List.getElem?_map]
    cases q : ys[i]? with
    | none => rfl
    | some y =>
      have hi2 : i < ((List.range (max 1 (min 2 ns.length))).map dI).length := by rw [rs.1]; exact (List.getElem?_eq_some_iff.mp q).1
      have := rs.2 i _ y (List.getElem?_eq_getElem hi2) q
      rw [this]; rfl
  have ha : dAll [.lst ys] = some (.bl true) := by
    rw [hy, dAll_bls]
    congr 2
    simp
  exact ⟨p', by simp [e', ha]⟩
end PF

namespace PF
open PySem PySem.Spec PyProof.Rows L2
theorem b_is_integer {P : Program} {w : World} {K : PySem.W.Frag} {mg : Str → Option Value} {base : Heap} (m_bool : mg "bool" = none) (m_int : mg "int" = none) (m_isinstance : mg "isinstance" = none) : BodyOk P w K mg base 0 "is_integer" (defBody HeadT.s_is_integer) (defScope HeadT.s_is_integer) N_is_integer c_is_integer := by
  intro f cdv A outer s H E En hr hgd
  have nd : N_is_integer.Nodup := by decide +kernel
  have tk : Takes (cxOf (L2.CX P w) P w K mg base N_is_integer "is_integer" (defScope HeadT.s_is_integer) f cdv A outer s H E) (EX E) := takes_of rfl rfl rfl rfl
  have hp : PassesOwn (model P w) (cxOf (L2.CX P w) P w K mg base N_is_integer "is_integer" (defScope HeadT.s_is_integer) f cdv A outer s H E).A (cxOf (L2.CX P w) P w K mg base N_is_integer "is_integer" (defScope HeadT.s_is_integer) f cdv A outer s H E).env (cxOf (L2.CX P w) P w K mg base N_is_integer "is_integer" (defScope HeadT.s_is_integer) f cdv A outer s H E).xe := passes_of rfl
  delta c_is_integer
  exact (cs_one (cs_ret (pm_and (pm_isi .int (by rfl) m_isinstance (pm_of (pv 0)) (by rfl) m_int ty_int) (pm_one (pm_not (pm_isi .bool (by rfl) m_isinstance (pm_of (pv 0)) (by rfl) m_bool ty_bool))))))
theorem sc_is_integer : FnScope N_is_integer ps_is_integer (defScope HeadT.s_is_integer) := ⟨rfl, rfl, rfl, by decide +kernel, rfl, by decide +kernel, by decide +kernel⟩
theorem b_is_within {P : Program} {w : World} {K : PySem.W.Frag} {mg : Str → Option Value} {base : Heap} (h_is_integer : FnX P w K mg base "is_integer" (defArgs HeadT.s_is_integer) 1 ps_is_integer F_is_integer) : BodyOk P w K mg base 1 "is_within" (defBody HeadT.s_is_within) (defScope HeadT.s_is_within) N_is_within c_is_within := by
  intro f cdv A outer s H E En hr hgd
  have nd : N_is_within.Nodup := by decide +kernel
  have tk : Takes (cxOf (L2.CX P w) P w K mg base N_is_within "is_within" (defScope HeadT.s_is_within) f cdv A outer s H E) (EX E) := takes_of rfl rfl rfl rfl
  have hp : PassesOwn (model P w) (cxOf (L2.CX P w) P w K mg base N_is_within "is_within" (defScope HeadT.s_is_within) f cdv A outer s H E).A (cxOf (L2.CX P w) P w K mg base N_is_within "is_within" (defScope HeadT.s_is_within) f cdv A outer s H E).env (cxOf (L2.CX P w) P w K mg base N_is_within "is_within" (defScope HeadT.s_is_within) f cdv A outer s H E).xe := passes_of rfl
  delta c_is_within
  exact (cs_one (cs_ret (pm_and (pm_fn1 h_is_integer (hr.mono (by decide)) hgd tk (fun _ _ _ _ _ _ _ _ us ws h1 h2 => match us, ws, h1, h2 with | [_], [], _, _ => rfl) (by rfl) (pma_cons (pm_of (pv 0)) pma_nil)) (pm_one (pm_chain (f := iLe) (g := iLe) op_le op_le (pm_of (pv 1)) (pm_of (pv 0)) (pm_of (pv 2)))))))
theorem sc_is_within : FnScope N_is_within ps_is_within (defScope HeadT.s_is_within) := ⟨rfl, rfl, rfl, by decide +kernel, rfl, by decide +kernel, by decide +kernel⟩
theorem b_is_list {P : Program} {w : World} {K : PySem.W.Frag} {mg : Str → Option Value} {base : Heap} (m_isinstance : mg "isinstance" = none) (m_list : mg "list" = none) (m_tuple : mg "tuple" = none) : BodyOk P w K mg base 0 "is_list" (defBody HeadT.s_is_list) (defScope HeadT.s_is_list) N_is_list c_is_list := by
  intro f cdv A outer s H E En hr hgd
  have nd : N_is_list.Nodup := by decide +kernel
  have tk : Takes (cxOf (L2.CX P w) P w K mg base N_is_list "is_list" (defScope HeadT.s_is_list) f cdv A outer s H E) (EX E) := takes_of rfl rfl rfl rfl
  have hp : PassesOwn (model P w) (cxOf (L2.CX P w) P w K mg base N_is_list "is_list" (defScope HeadT.s_is_list) f cdv A outer s H E).A (cxOf (L2.CX P w) P w K mg base N_is_list "is_list" (defScope HeadT.s_is_list) f cdv A outer s H E).env (cxOf (L2.CX P w) P w K mg base N_is_list "is_list" (defScope HeadT.s_is_list) f cdv A outer s H E).xe := passes_of rfl
  delta c_is_list
  exact (cs_one (cs_ret (pm_isi2 .list .tuple (by rfl) m_isinstance (pm_of (pv 0)) (by rfl) m_list ty_list (by rfl) m_tuple ty_tuple)))
theorem sc_is_list : FnScope N_is_list ps_is_list (defScope HeadT.s_is_list) := ⟨rfl, rfl, rfl, by decide +kernel, rfl, by decide +kernel, by decide +kernel⟩
theorem b_picks_of {P : Program} {w : World} {K : PySem.W.Frag} {mg : Str → Option Value} {base : Heap} (m_range : mg "range" = none) : BodyOk P w K mg base 0 "picks_of" (defBody HeadT.s_picks_of) (defScope HeadT.s_picks_of) N_picks_of c_picks_of := by
  intro f cdv A outer s H E En hr hgd
  have nd : N_picks_of.Nodup := by decide +kernel
  have tk : Takes (cxOf (L2.CX P w) P w K mg base N_picks_of "picks_of" (defScope HeadT.s_picks_of) f cdv A outer s H E) (EX E) := takes_of rfl rfl rfl rfl
  have hp : PassesOwn (model P w) (cxOf (L2.CX P w) P w K mg base N_picks_of "picks_of" (defScope HeadT.s_picks_of) f cdv A outer s H E).A (cxOf (L2.CX P w) P w K mg base N_picks_of "picks_of" (defScope HeadT.s_picks_of) f cdv A outer s H E).env (cxOf (L2.CX P w) P w K mg base N_picks_of "picks_of" (defScope HeadT.s_picks_of) f cdv A outer s H E).xe := passes_of rfl
  delta c_picks_of
  try delta b_picks_of_3
  try delta b_picks_of_2
  try delta m_picks_of_1
  exact (cs_cons (cs_set (i := 2) nd rfl (by first | exact Or.inl rfl | exact Or.inr rfl) (PMo.pm (pmo_lst (pma_cons (pm_tup pma_nil) pma_nil)))) (cs_cons (cs_for hp rfl (pmi_range1 (by rfl) m_range (pma_cons (pm_of (pv 1)) pma_nil)) (pg_name (i := 3) nd rfl (by first | exact Or.inl rfl | exact Or.inr rfl)) tg_name (cs_cons (cs_seto (i := 4) nd rfl (by first | exact Or.inl rfl | exact Or.inr rfl) (pmo_lst pma_nil)) (cs_cons (cs_for hp rfl (pmi_seq (pm_of (pv 2))) (pg_name (i := 5) nd rfl (by first | exact Or.inl rfl | exact Or.inr rfl)) tg_name (cs_one (cs_extend (pe_bm PySem.F.plainAttrs_list PySem.F.slot_list_extend PySem.F.type_list_extend mt_extend (pv 4) (pa_cons (PM.pe (PMo.pm (pmo_lc (own := [("at", 6)]) rfl nd (pmi_range2 (by rfl) m_range (pma_cons (pm_if (pmt_ne (un_of hr) (pm_of (pv 5)) (pm_tup pma_nil)) (pm_add (pm_ixd (pm_of (pv 5)) (pm_neg pm_int)) pm_int) pm_int) (pma_cons (pm_of (pv 0)) pma_nil))) (blkOk_by (by kernel_rfl)) (fun _ _ _ _ _ => (pg_name (i := 6) nd rfl (by first | exact Or.inl rfl | exact Or.inr rfl))) gok_name (fun _ _ _ _ _ => pmts_nil) (fun _ _ _ _ _ => (pm_add (pm_of (pv 5)) (pm_tup (pma_cons (pm_of (pv 6)) pma_nil))))))) pa_nil))))) (cs_frz (i := 4) (cs_one (cs_set (i := 2) nd rfl (by first | exact Or.inl rfl | exact Or.inr rfl) (pm_of (pv 4)))))))) (cs_one (cs_ret (pm_of (pv 2))))))
theorem sc_picks_of : FnScope N_picks_of ps_picks_of (defScope HeadT.s_picks_of) := ⟨rfl, rfl, rfl, by decide +kernel, rfl, by decide +kernel, by decide +kernel⟩
theorem b_is_bound_of {P : Program} {w : World} {K : PySem.W.Frag} {mg : Str → Option Value} {base : Heap} (m_MOST_BOUND : ∃ t, mg "MOST_BOUND" = some (.int 999 t)) (m_MOST_FACTOR : ∃ t, mg "MOST_FACTOR" = some (.int 99 t)) (h_is_within : FnX P w K mg base "is_within" (defArgs HeadT.s_is_within) 2 ps_is_within F_is_within) (m_all : mg "all" = none) (m_isinstance : mg "isinstance" = none) (m_len : mg "len" = none) (m_tuple : mg "tuple" = none) : BodyOk P w K mg base 2 "is_bound_of" (defBody HeadT.s_is_bound_of) (defScope HeadT.s_is_bound_of) N_is_bound_of c_is_bound_of := by
  intro f cdv A outer s H E En hr hgd
  have nd : N_is_bound_of.Nodup := by decide +kernel
  have tk : Takes (cxOf (L2.CX P w) P w K mg base N_is_bound_of "is_bound_of" (defScope HeadT.s_is_bound_of) f cdv A outer s H E) (EX E) := takes_of rfl rfl rfl rfl
  have hp : PassesOwn (model P w) (cxOf (L2.CX P w) P w K mg base N_is_bound_of "is_bound_of" (defScope HeadT.s_is_bound_of) f cdv A outer s H E).A (cxOf (L2.CX P w) P w K mg base N_is_bound_of "is_bound_of" (defScope HeadT.s_is_bound_of) f cdv A outer s H E).env (cxOf (L2.CX P w) P w K mg base N_is_bound_of "is_bound_of" (defScope HeadT.s_is_bound_of) f cdv A outer s H E).xe := passes_of rfl
  delta c_is_bound_of
  try delta m_is_bound_of_1
  exact (cs_cons (cs_if (PMw.pt (pmw_or (pmt_not (pmt_val (pm_isi .tuple (by rfl) m_isinstance (pm_of (pv 0)) (by rfl) m_tuple ty_tuple))) (pmw_or1 (pmt_ne (un_of hr) (b_len m_len (pma_cons (pm_of (pv 0)) pma_nil)) pm_int)))) (cs_one (cs_ret pm_bl)) cs_nil) (cs_cons (cs_if (PMw.pt (pmw_or (pmt_not (pmt_val (b_all rfl m_all (pma_cons (PMo.pm (pmo_lc (own := [("one", 1)]) rfl nd (pmi_seq (pm_sl (pm_of (pv 0)) pmO_none (pmO_some pm_int))) (blkOk_by (by kernel_rfl)) (fun _ _ _ _ _ => (pg_name (i := 1) nd rfl (by first | exact Or.inl rfl | exact Or.inr rfl))) gok_name (fun _ _ _ _ _ => pmts_nil) (fun _ _ _ _ _ => (pm_fn1 h_is_within (hr.mono (by decide)) hgd takes_w0 (fun _ _ _ _ _ _ _ _ us ws h1 h2 => match us, ws, h1, h2 with | [_, _, _], [], _, _ => rfl) (by rfl) (pma_cons (pm_of (pv 1)) (pma_cons (pm_sub pm_int (pm_gint (by rfl) m_MOST_FACTOR)) (pma_cons (pm_gint (by rfl) m_MOST_FACTOR) pma_nil))))))) pma_nil)))) (pmw_or1 (pmt_eq (un_of hr) (pm_sl (pm_of (pv 0)) pmO_none (pmO_some pm_int)) (pm_tup (pma_cons pm_int (pma_cons pm_int pma_nil))))))) (cs_one (cs_ret pm_bl)) cs_nil) (cs_one (cs_ret (pm_fn1 h_is_within (hr.mono (by decide)) hgd tk (fun _ _ _ _ _ _ _ _ us ws h1 h2 => match us, ws, h1, h2 with | [_, _, _], [], _, _ => rfl) (by rfl) (pma_cons (pm_ixd (pm_of (pv 0)) pm_int) (pma_cons (pm_sub pm_int (pm_gint (by rfl) m_MOST_BOUND)) (pma_cons (pm_gint (by rfl) m_MOST_BOUND) pma_nil))))))))
theorem sc_is_bound_of : FnScope N_is_bound_of ps_is_bound_of (defScope HeadT.s_is_bound_of) := ⟨rfl, rfl, rfl, by decide +kernel, rfl, by decide +kernel, by decide +kernel⟩
theorem b_are_bounds_of {P : Program} {w : World} {K : PySem.W.Frag} {mg : Str → Option Value} {base : Heap} (m_MOST_BOUNDS : ∃ t, mg "MOST_BOUNDS" = some (.int 8 t)) (h_is_bound_of : FnX P w K mg base "is_bound_of" (defArgs HeadT.s_is_bound_of) 3 ps_is_bound_of F_is_bound_of) (h_is_list : FnX P w K mg base "is_list" (defArgs HeadT.s_is_list) 1 ps_is_list F_is_list) (m_all : mg "all" = none) (m_len : mg "len" = none) : BodyOk P w K mg base 3 "are_bounds_of" (defBody HeadT.s_are_bounds_of) (defScope HeadT.s_are_bounds_of) N_are_bounds_of c_are_bounds_of := by
  intro f cdv A outer s H E En hr hgd
  have nd : N_are_bounds_of.Nodup := by decide +kernel
  have tk : Takes (cxOf (L2.CX P w) P w K mg base N_are_bounds_of "are_bounds_of" (defScope HeadT.s_are_bounds_of) f cdv A outer s H E) (EX E) := takes_of rfl rfl rfl rfl
  have hp : PassesOwn (model P w) (cxOf (L2.CX P w) P w K mg base N_are_bounds_of "are_bounds_of" (defScope HeadT.s_are_bounds_of) f cdv A outer s H E).A (cxOf (L2.CX P w) P w K mg base N_are_bounds_of "are_bounds_of" (defScope HeadT.s_are_bounds_of) f cdv A outer s H E).env (cxOf (L2.CX P w) P w K mg base N_are_bounds_of "are_bounds_of" (defScope HeadT.s_are_bounds_of) f cdv A outer s H E).xe := passes_of rfl
  delta c_are_bounds_of
  try delta m_are_bounds_of_1
  exact (cs_one (cs_ret (pm_and (pm_fn1 h_is_list (hr.mono (by decide)) hgd tk (fun _ _ _ _ _ _ _ _ us ws h1 h2 => match us, ws, h1, h2 with | [_], [], _, _ => rfl) (by rfl) (pma_cons (pm_of (pv 0)) pma_nil)) (pm_and (pm_chain (f := iLe) (g := iLe) op_le op_le pm_int (b_len m_len (pma_cons (pm_of (pv 0)) pma_nil)) (pm_gint (by rfl) m_MOST_BOUNDS)) (pm_one (b_all rfl m_all (pma_cons (PMo.pm (pmo_lc (own := [("one", 1)]) rfl nd (pmi_seq (pm_of (pv 0))) (blkOk_by (by kernel_rfl)) (fun _ _ _ _ _ => (pg_name (i := 1) nd rfl (by first | exact Or.inl rfl | exact Or.inr rfl))) gok_name (fun _ _ _ _ _ => pmts_nil) (fun _ _ _ _ _ => (pm_fn1 h_is_bound_of (hr.mono (by decide)) hgd takes_w0 (fun _ _ _ _ _ _ _ _ us ws h1 h2 => match us, ws, h1, h2 with | [_], [], _, _ => rfl) (by rfl) (pma_cons (pm_of (pv 1)) pma_nil))))) pma_nil)))))))
theorem sc_are_bounds_of : FnScope N_are_bounds_of ps_are_bounds_of (defScope HeadT.s_are_bounds_of) := ⟨rfl, rfl, rfl, by decide +kernel, rfl, by decide +kernel, by decide +kernel⟩
theorem b_check_bounds {P : Program} {w : World} {K : PySem.W.Frag} {mg : Str → Option Value} {base : Heap} (h_are_bounds_of : FnX P w K mg base "are_bounds_of" (defArgs HeadT.s_are_bounds_of) 4 ps_are_bounds_of F_are_bounds_of) : BodyOk P w K mg base 4 "check_bounds" (defBody HeadT.s_check_bounds) (defScope HeadT.s_check_bounds) N_check_bounds c_check_bounds := by
  intro f cdv A outer s H E En hr hgd
  have nd : N_check_bounds.Nodup := by decide +kernel
  have tk : Takes (cxOf (L2.CX P w) P w K mg base N_check_bounds "check_bounds" (defScope HeadT.s_check_bounds) f cdv A outer s H E) (EX E) := takes_of rfl rfl rfl rfl
  have hp : PassesOwn (model P w) (cxOf (L2.CX P w) P w K mg base N_check_bounds "check_bounds" (defScope HeadT.s_check_bounds) f cdv A outer s H E).A (cxOf (L2.CX P w) P w K mg base N_check_bounds "check_bounds" (defScope HeadT.s_check_bounds) f cdv A outer s H E).env (cxOf (L2.CX P w) P w K mg base N_check_bounds "check_bounds" (defScope HeadT.s_check_bounds) f cdv A outer s H E).xe := passes_of rfl
  delta c_check_bounds
  exact (cs_one (cs_if (pmt_not (pmt_val (pm_fn1 h_are_bounds_of (hr.mono (by decide)) hgd tk (fun _ _ _ _ _ _ _ _ us ws h1 h2 => match us, ws, h1, h2 with | [_], [], _, _ => rfl) (by rfl) (pma_cons (pm_of (pv 0)) pma_nil)))) (cs_one cs_never) cs_nil))
theorem sc_check_bounds : FnScope N_check_bounds ps_check_bounds (defScope HeadT.s_check_bounds) := ⟨rfl, rfl, rfl, by decide +kernel, rfl, by decide +kernel, by decide +kernel⟩
theorem b_is_point_of {P : Program} {w : World} {K : PySem.W.Frag} {mg : Str → Option Value} {base : Heap} (m_MOST_PLACE : ∃ t, mg "MOST_PLACE" = some (.int 20 t)) (h_is_within : FnX P w K mg base "is_within" (defArgs HeadT.s_is_within) 2 ps_is_within F_is_within) (m_all : mg "all" = none) (m_isinstance : mg "isinstance" = none) (m_len : mg "len" = none) (m_tuple : mg "tuple" = none) : BodyOk P w K mg base 2 "is_point_of" (defBody HeadT.s_is_point_of) (defScope HeadT.s_is_point_of) N_is_point_of c_is_point_of := by
  intro f cdv A outer s H E En hr hgd
  have nd : N_is_point_of.Nodup := by decide +kernel
  have tk : Takes (cxOf (L2.CX P w) P w K mg base N_is_point_of "is_point_of" (defScope HeadT.s_is_point_of) f cdv A outer s H E) (EX E) := takes_of rfl rfl rfl rfl
  have hp : PassesOwn (model P w) (cxOf (L2.CX P w) P w K mg base N_is_point_of "is_point_of" (defScope HeadT.s_is_point_of) f cdv A outer s H E).A (cxOf (L2.CX P w) P w K mg base N_is_point_of "is_point_of" (defScope HeadT.s_is_point_of) f cdv A outer s H E).env (cxOf (L2.CX P w) P w K mg base N_is_point_of "is_point_of" (defScope HeadT.s_is_point_of) f cdv A outer s H E).xe := passes_of rfl
  delta c_is_point_of
  try delta m_is_point_of_1
  exact (cs_cons (cs_if (PMw.pt (pmw_or (pmt_not (pmt_val (pm_isi .tuple (by rfl) m_isinstance (pm_of (pv 0)) (by rfl) m_tuple ty_tuple))) (pmw_or1 (pmt_ne (un_of hr) (b_len m_len (pma_cons (pm_of (pv 0)) pma_nil)) pm_int)))) (cs_one (cs_ret pm_bl)) cs_nil) (cs_one (cs_ret (b_all rfl m_all (pma_cons (PMo.pm (pmo_lc (own := [("one", 1)]) rfl nd (pmi_seq (pm_of (pv 0))) (blkOk_by (by kernel_rfl)) (fun _ _ _ _ _ => (pg_name (i := 1) nd rfl (by first | exact Or.inl rfl | exact Or.inr rfl))) gok_name (fun _ _ _ _ _ => pmts_nil) (fun _ _ _ _ _ => (pm_fn1 h_is_within (hr.mono (by decide)) hgd takes_w0 (fun _ _ _ _ _ _ _ _ us ws h1 h2 => match us, ws, h1, h2 with | [_, _, _], [], _, _ => rfl) (by rfl) (pma_cons (pm_of (pv 1)) (pma_cons (pm_sub pm_int (pm_gint (by rfl) m_MOST_PLACE)) (pma_cons (pm_gint (by rfl) m_MOST_PLACE) pma_nil))))))) pma_nil)))))
theorem sc_is_point_of : FnScope N_is_point_of ps_is_point_of (defScope HeadT.s_is_point_of) := ⟨rfl, rfl, rfl, by decide +kernel, rfl, by decide +kernel, by decide +kernel⟩
theorem b_all_columns {P : Program} {w : World} {K : PySem.W.Frag} {mg : Str → Option Value} {base : Heap} (m_MOST_PLACE : ∃ t, mg "MOST_PLACE" = some (.int 20 t)) (m_list : mg "list" = none) (m_range : mg "range" = none) : BodyOk P w K mg base 0 "all_columns" (defBody HeadT.s_all_columns) (defScope HeadT.s_all_columns) N_all_columns c_all_columns := by
  intro f cdv A outer s H E En hr hgd
  have nd : N_all_columns.Nodup := by decide +kernel
  have tk : Takes (cxOf (L2.CX P w) P w K mg base N_all_columns "all_columns" (defScope HeadT.s_all_columns) f cdv A outer s H E) (EX E) := takes_of rfl rfl rfl rfl
  have hp : PassesOwn (model P w) (cxOf (L2.CX P w) P w K mg base N_all_columns "all_columns" (defScope HeadT.s_all_columns) f cdv A outer s H E).A (cxOf (L2.CX P w) P w K mg base N_all_columns "all_columns" (defScope HeadT.s_all_columns) f cdv A outer s H E).env (cxOf (L2.CX P w) P w K mg base N_all_columns "all_columns" (defScope HeadT.s_all_columns) f cdv A outer s H E).xe := passes_of rfl
  delta c_all_columns
  exact (cs_one (cs_reto (pmo_lrg2 rfl m_list m_range (pm_sub pm_int (pm_gint (by rfl) m_MOST_PLACE)) (pm_add (pm_gint (by rfl) m_MOST_PLACE) pm_int))))
theorem sc_all_columns : FnScope N_all_columns ps_all_columns (defScope HeadT.s_all_columns) := ⟨rfl, rfl, rfl, by decide +kernel, rfl, by decide +kernel, by decide +kernel⟩
theorem b_top_of {P : Program} {w : World} {K : PySem.W.Frag} {mg : Str → Option Value} {base : Heap} : BodyOk P w K mg base 0 "top_of" (defBody HeadT.s_top_of) (defScope HeadT.s_top_of) N_top_of c_top_of := by
  intro f cdv A outer s H E En hr hgd
  have nd : N_top_of.Nodup := by decide +kernel
  have tk : Takes (cxOf (L2.CX P w) P w K mg base N_top_of "top_of" (defScope HeadT.s_top_of) f cdv A outer s H E) (EX E) := takes_of rfl rfl rfl rfl
  have hp : PassesOwn (model P w) (cxOf (L2.CX P w) P w K mg base N_top_of "top_of" (defScope HeadT.s_top_of) f cdv A outer s H E).A (cxOf (L2.CX P w) P w K mg base N_top_of "top_of" (defScope HeadT.s_top_of) f cdv A outer s H E).env (cxOf (L2.CX P w) P w K mg base N_top_of "top_of" (defScope HeadT.s_top_of) f cdv A outer s H E).xe := passes_of rfl
  delta c_top_of
  exact (cs_one (cs_ret (pm_div (pm_sub (pm_ixd (pm_of (pv 0)) pm_int) (pm_mul (pm_ixd (pm_of (pv 0)) pm_int) (pm_of (pv 1)))) (pm_ixd (pm_of (pv 0)) pm_int))))
theorem sc_top_of : FnScope N_top_of ps_top_of (defScope HeadT.s_top_of) := ⟨rfl, rfl, rfl, by decide +kernel, rfl, by decide +kernel, by decide +kernel⟩
theorem b_floor_of {P : Program} {w : World} {K : PySem.W.Frag} {mg : Str → Option Value} {base : Heap} : BodyOk P w K mg base 0 "floor_of" (defBody HeadT.s_floor_of) (defScope HeadT.s_floor_of) N_floor_of c_floor_of := by
  intro f cdv A outer s H E En hr hgd
  have nd : N_floor_of.Nodup := by decide +kernel
  have tk : Takes (cxOf (L2.CX P w) P w K mg base N_floor_of "floor_of" (defScope HeadT.s_floor_of) f cdv A outer s H E) (EX E) := takes_of rfl rfl rfl rfl
  have hp : PassesOwn (model P w) (cxOf (L2.CX P w) P w K mg base N_floor_of "floor_of" (defScope HeadT.s_floor_of) f cdv A outer s H E).A (cxOf (L2.CX P w) P w K mg base N_floor_of "floor_of" (defScope HeadT.s_floor_of) f cdv A outer s H E).env (cxOf (L2.CX P w) P w K mg base N_floor_of "floor_of" (defScope HeadT.s_floor_of) f cdv A outer s H E).xe := passes_of rfl
  delta c_floor_of
  exact (cs_one (cs_ret (pm_sub pm_int (pm_div (pm_sub (pm_ixd (pm_of (pv 0)) pm_int) (pm_mul (pm_ixd (pm_of (pv 0)) pm_int) (pm_of (pv 1)))) (pm_sub pm_int (pm_ixd (pm_of (pv 0)) pm_int))))))
theorem sc_floor_of : FnScope N_floor_of ps_floor_of (defScope HeadT.s_floor_of) := ⟨rfl, rfl, rfl, by decide +kernel, rfl, by decide +kernel, by decide +kernel⟩
theorem b_is_out_at {P : Program} {w : World} {K : PySem.W.Frag} {mg : Str → Option Value} {base : Heap} (m_MOST_PLACE : ∃ t, mg "MOST_PLACE" = some (.int 20 t)) (h_floor_of : FnX P w K mg base "floor_of" (defArgs HeadT.s_floor_of) 1 ps_floor_of F_floor_of) (h_top_of : FnX P w K mg base "top_of" (defArgs HeadT.s_top_of) 1 ps_top_of F_top_of) : BodyOk P w K mg base 1 "is_out_at" (defBody HeadT.s_is_out_at) (defScope HeadT.s_is_out_at) N_is_out_at c_is_out_at := by
  intro f cdv A outer s H E En hr hgd
  have nd : N_is_out_at.Nodup := by decide +kernel
  have tk : Takes (cxOf (L2.CX P w) P w K mg base N_is_out_at "is_out_at" (defScope HeadT.s_is_out_at) f cdv A outer s H E) (EX E) := takes_of rfl rfl rfl rfl
  have hp : PassesOwn (model P w) (cxOf (L2.CX P w) P w K mg base N_is_out_at "is_out_at" (defScope HeadT.s_is_out_at) f cdv A outer s H E).A (cxOf (L2.CX P w) P w K mg base N_is_out_at "is_out_at" (defScope HeadT.s_is_out_at) f cdv A outer s H E).env (cxOf (L2.CX P w) P w K mg base N_is_out_at "is_out_at" (defScope HeadT.s_is_out_at) f cdv A outer s H E).xe := passes_of rfl
  delta c_is_out_at
  exact (cs_cons (cs_if (pmt_eq (un_of hr) (pm_ixd (pm_of (pv 0)) pm_int) pm_int) (cs_one (cs_ret (pm_gt (pm_mul (pm_ixd (pm_of (pv 0)) pm_int) (pm_of (pv 1))) (pm_ixd (pm_of (pv 0)) pm_int)))) cs_nil) (cs_one (cs_ret (pm_if (pmt_gt (pm_ixd (pm_of (pv 0)) pm_int) pm_int) (pm_lt (pm_fn1 h_top_of (hr.mono (by decide)) hgd tk (fun _ _ _ _ _ _ _ _ us ws h1 h2 => match us, ws, h1, h2 with | [_, _], [], _, _ => rfl) (by rfl) (pma_cons (pm_of (pv 0)) (pma_cons (pm_of (pv 1)) pma_nil))) (pm_sub pm_int (pm_gint (by rfl) m_MOST_PLACE))) (pm_gt (pm_fn1 h_floor_of (hr.mono (by decide)) hgd tk (fun _ _ _ _ _ _ _ _ us ws h1 h2 => match us, ws, h1, h2 with | [_, _], [], _, _ => rfl) (by rfl) (pma_cons (pm_of (pv 0)) (pma_cons (pm_of (pv 1)) pma_nil))) (pm_gint (by rfl) m_MOST_PLACE))))))
theorem sc_is_out_at : FnScope N_is_out_at ps_is_out_at (defScope HeadT.s_is_out_at) := ⟨rfl, rfl, rfl, by decide +kernel, rfl, by decide +kernel, by decide +kernel⟩
theorem b_span_at {P : Program} {w : World} {K : PySem.W.Frag} {mg : Str → Option Value} {base : Heap} (m_MOST_PLACE : ∃ t, mg "MOST_PLACE" = some (.int 20 t)) (h_floor_of : FnX P w K mg base "floor_of" (defArgs HeadT.s_floor_of) 1 ps_floor_of F_floor_of) (h_top_of : FnX P w K mg base "top_of" (defArgs HeadT.s_top_of) 1 ps_top_of F_top_of) (m_max : mg "max" = none) (m_min : mg "min" = none) : BodyOk P w K mg base 1 "span_at" (defBody HeadT.s_span_at) (defScope HeadT.s_span_at) N_span_at c_span_at := by
  intro f cdv A outer s H E En hr hgd
  have nd : N_span_at.Nodup := by decide +kernel
  have tk : Takes (cxOf (L2.CX P w) P w K mg base N_span_at "span_at" (defScope HeadT.s_span_at) f cdv A outer s H E) (EX E) := takes_of rfl rfl rfl rfl
  have hp : PassesOwn (model P w) (cxOf (L2.CX P w) P w K mg base N_span_at "span_at" (defScope HeadT.s_span_at) f cdv A outer s H E).A (cxOf (L2.CX P w) P w K mg base N_span_at "span_at" (defScope HeadT.s_span_at) f cdv A outer s H E).env (cxOf (L2.CX P w) P w K mg base N_span_at "span_at" (defScope HeadT.s_span_at) f cdv A outer s H E).xe := passes_of rfl
  delta c_span_at
  try delta m_span_at_2
  try delta m_span_at_1
  exact (cs_cons (cs_lcv (cs_setlc_gen (i := 2) (own := [("bound", 4)]) rfl nd rfl rfl (sw_true rfl rfl rfl (by decide +kernel)) (pmi_seq (pm_of (pv 0))) (blkOk_by (by kernel_rfl)) (fun _ _ _ _ _ => (pg_name (i := 4) nd rfl (by first | exact Or.inl rfl | exact Or.inr rfl))) gok_name (fun _ _ _ _ _ => (pmts_one (pmt_lt (pm_ixd (pm_of (pv 4)) pm_int) pm_int))) (fun _ _ _ _ _ => (pm_fn1 h_floor_of (hr.mono (by decide)) hgd takes_w0 (fun _ _ _ _ _ _ _ _ us ws h1 h2 => match us, ws, h1, h2 with | [_, _], [], _, _ => rfl) (by rfl) (pma_cons (pm_of (pv 4)) (pma_cons (pm_of (pv 1)) pma_nil)))))) (cs_cons (cs_lcv (cs_setlc_gen (i := 3) (own := [("bound", 4)]) rfl nd rfl rfl (sw_true rfl rfl rfl (by decide +kernel)) (pmi_seq (pm_of (pv 0))) (blkOk_by (by kernel_rfl)) (fun _ _ _ _ _ => (pg_name (i := 4) nd rfl (by first | exact Or.inl rfl | exact Or.inr rfl))) gok_name (fun _ _ _ _ _ => (pmts_one (pmt_gt (pm_ixd (pm_of (pv 4)) pm_int) pm_int))) (fun _ _ _ _ _ => (pm_fn1 h_top_of (hr.mono (by decide)) hgd takes_w0 (fun _ _ _ _ _ _ _ _ us ws h1 h2 => match us, ws, h1, h2 with | [_, _], [], _, _ => rfl) (by rfl) (pma_cons (pm_of (pv 4)) (pma_cons (pm_of (pv 1)) pma_nil)))))) (cs_one (cs_ret (pm_tup (pma_cons (b_max1 rfl m_max (pma_cons (pm_add (PMo.pm (pmo_lst (pma_cons (pm_sub pm_int (pm_gint (by rfl) m_MOST_PLACE)) pma_nil))) (pm_of (pv 2))) pma_nil)) (pma_cons (b_min1 rfl m_min (pma_cons (pm_add (PMo.pm (pmo_lst (pma_cons (pm_gint (by rfl) m_MOST_PLACE) pma_nil))) (pm_of (pv 3))) pma_nil)) pma_nil)))))))
theorem sc_span_at : FnScope N_span_at ps_span_at (defScope HeadT.s_span_at) := ⟨rfl, rfl, rfl, by decide +kernel, rfl, by decide +kernel, by decide +kernel⟩
theorem b_points_at {P : Program} {w : World} {K : PySem.W.Frag} {mg : Str → Option Value} {base : Heap} (h_is_out_at : FnX P w K mg base "is_out_at" (defArgs HeadT.s_is_out_at) 2 ps_is_out_at F_is_out_at) (h_span_at : FnX P w K mg base "span_at" (defArgs HeadT.s_span_at) 2 ps_span_at F_span_at) (m_any : mg "any" = none) (m_range : mg "range" = none) : BodyOk P w K mg base 2 "points_at" (defBody HeadT.s_points_at) (defScope HeadT.s_points_at) N_points_at c_points_at := by
  intro f cdv A outer s H E En hr hgd
  have nd : N_points_at.Nodup := by decide +kernel
  have tk : Takes (cxOf (L2.CX P w) P w K mg base N_points_at "points_at" (defScope HeadT.s_points_at) f cdv A outer s H E) (EX E) := takes_of rfl rfl rfl rfl
  have hp : PassesOwn (model P w) (cxOf (L2.CX P w) P w K mg base N_points_at "points_at" (defScope HeadT.s_points_at) f cdv A outer s H E).A (cxOf (L2.CX P w) P w K mg base N_points_at "points_at" (defScope HeadT.s_points_at) f cdv A outer s H E).env (cxOf (L2.CX P w) P w K mg base N_points_at "points_at" (defScope HeadT.s_points_at) f cdv A outer s H E).xe := passes_of rfl
  delta c_points_at
  try delta m_points_at_2
  try delta m_points_at_1
  exact (cs_cons (cs_if (pmt_val (b_any rfl m_any (pma_cons (PMo.pm (pmo_lc (own := [("bound", 5)]) rfl nd (pmi_seq (pm_of (pv 0))) (blkOk_by (by kernel_rfl)) (fun _ _ _ _ _ => (pg_name (i := 5) nd rfl (by first | exact Or.inl rfl | exact Or.inr rfl))) gok_name (fun _ _ _ _ _ => pmts_nil) (fun _ _ _ _ _ => (pm_fn1 h_is_out_at (hr.mono (by decide)) hgd takes_w0 (fun _ _ _ _ _ _ _ _ us ws h1 h2 => match us, ws, h1, h2 with | [_, _], [], _, _ => rfl) (by rfl) (pma_cons (pm_of (pv 5)) (pma_cons (pm_of (pv 1)) pma_nil)))))) pma_nil))) (cs_one (cs_reto (pmo_lst pma_nil))) cs_nil) (cs_cons (cs_asgT (ps_asg (PM.pe (pm_fn1 h_span_at (hr.mono (by decide)) hgd tk (fun _ _ _ _ _ _ _ _ us ws h1 h2 => match us, ws, h1, h2 with | [_, _], [], _, _ => rfl) (by rfl) (pma_cons (pm_of (pv 0)) (pma_cons (pm_of (pv 1)) pma_nil)))) (pg_tup rfl (pgs_cons (pg_name (i := 2) nd rfl (by first | exact Or.inl rfl | exact Or.inr rfl)) (pgs_cons (pg_name (i := 3) nd rfl (by first | exact Or.inl rfl | exact Or.inr rfl)) pgs_nil)))) (tg_tup (tgs_cons tg_name (tgs_cons tg_name tgs_nil)))) (cs_one (cs_reto (pmo_lc (own := [("y", 4)]) rfl nd (pmi_range2 (by rfl) m_range (pma_cons (pm_of (pv 2)) (pma_cons (pm_add (pm_of (pv 3)) pm_int) pma_nil))) (blkOk_by (by kernel_rfl)) (fun _ _ _ _ _ => (pg_name (i := 4) nd rfl (by first | exact Or.inl rfl | exact Or.inr rfl))) gok_name (fun _ _ _ _ _ => pmts_nil) (fun _ _ _ _ _ => (pm_tup (pma_cons (pm_of (pv 1)) (pma_cons (pm_of (pv 4)) pma_nil)))))))))
theorem sc_points_at : FnScope N_points_at ps_points_at (defScope HeadT.s_points_at) := ⟨rfl, rfl, rfl, by decide +kernel, rfl, by decide +kernel, by decide +kernel⟩
theorem b_points_of {P : Program} {w : World} {K : PySem.W.Frag} {mg : Str → Option Value} {base : Heap} (h_all_columns : FnX P w K mg base "all_columns" (defArgs HeadT.s_all_columns) 1 ps_all_columns F_all_columns) (h_points_at : FnX P w K mg base "points_at" (defArgs HeadT.s_points_at) 3 ps_points_at F_points_at) : BodyOk P w K mg base 3 "points_of" (defBody HeadT.s_points_of) (defScope HeadT.s_points_of) N_points_of c_points_of := by
  intro f cdv A outer s H E En hr hgd
  have nd : N_points_of.Nodup := by decide +kernel
  have tk : Takes (cxOf (L2.CX P w) P w K mg base N_points_of "points_of" (defScope HeadT.s_points_of) f cdv A outer s H E) (EX E) := takes_of rfl rfl rfl rfl
  have hp : PassesOwn (model P w) (cxOf (L2.CX P w) P w K mg base N_points_of "points_of" (defScope HeadT.s_points_of) f cdv A outer s H E).A (cxOf (L2.CX P w) P w K mg base N_points_of "points_of" (defScope HeadT.s_points_of) f cdv A outer s H E).env (cxOf (L2.CX P w) P w K mg base N_points_of "points_of" (defScope HeadT.s_points_of) f cdv A outer s H E).xe := passes_of rfl
  delta c_points_of
  try delta b_points_of_1
  exact (cs_cons (cs_seto (i := 1) nd rfl (by first | exact Or.inl rfl | exact Or.inr rfl) (pmo_lst pma_nil)) (cs_cons (cs_for hp rfl (pmi_seq (pm_fn0 h_all_columns (hr.mono (by decide)) hgd tk (fun _ _ _ _ _ _ _ _ us ws h1 h2 => match us, ws, h1, h2 with | [], [], _, _ => rfl) (by rfl))) (pg_name (i := 2) nd rfl (by first | exact Or.inl rfl | exact Or.inr rfl)) tg_name (cs_one (cs_extend (pe_bm PySem.F.plainAttrs_list PySem.F.slot_list_extend PySem.F.type_list_extend mt_extend (pv 1) (pa_cons (PM.pe (pm_fn1 h_points_at (hr.mono (by decide)) hgd tk (fun _ _ _ _ _ _ _ _ us ws h1 h2 => match us, ws, h1, h2 with | [_, _], [], _, _ => rfl) (by rfl) (pma_cons (pm_of (pv 0)) (pma_cons (pm_of (pv 2)) pma_nil)))) pa_nil))))) (cs_one (cs_retown (pv 1)))))
theorem sc_points_of : FnScope N_points_of ps_points_of (defScope HeadT.s_points_of) := ⟨rfl, rfl, rfl, by decide +kernel, rfl, by decide +kernel, by decide +kernel⟩
theorem b_have_none {P : Program} {w : World} {K : PySem.W.Frag} {mg : Str → Option Value} {base : Heap} (h_points_of : FnX P w K mg base "points_of" (defArgs HeadT.s_points_of) 4 ps_points_of F_points_of) : BodyOk P w K mg base 4 "have_none" (defBody HeadT.s_have_none) (defScope HeadT.s_have_none) N_have_none c_have_none := by
  intro f cdv A outer s H E En hr hgd
  have nd : N_have_none.Nodup := by decide +kernel
  have tk : Takes (cxOf (L2.CX P w) P w K mg base N_have_none "have_none" (defScope HeadT.s_have_none) f cdv A outer s H E) (EX E) := takes_of rfl rfl rfl rfl
  have hp : PassesOwn (model P w) (cxOf (L2.CX P w) P w K mg base N_have_none "have_none" (defScope HeadT.s_have_none) f cdv A outer s H E).A (cxOf (L2.CX P w) P w K mg base N_have_none "have_none" (defScope HeadT.s_have_none) f cdv A outer s H E).env (cxOf (L2.CX P w) P w K mg base N_have_none "have_none" (defScope HeadT.s_have_none) f cdv A outer s H E).xe := passes_of rfl
  delta c_have_none
  try delta m_have_none_1
  exact (cs_one (cs_ret (pm_eq (un_of hr) (pm_fn1 h_points_of (hr.mono (by decide)) hgd tk (fun _ _ _ _ _ _ _ _ us ws h1 h2 => match us, ws, h1, h2 with | [_], [], _, _ => rfl) (by rfl) (pma_cons (PMo.pm (pmo_lc (own := [("place", 2)]) rfl nd (pmi_seq (pm_of (pv 1))) (blkOk_by (by kernel_rfl)) (fun _ _ _ _ _ => (pg_name (i := 2) nd rfl (by first | exact Or.inl rfl | exact Or.inr rfl))) gok_name (fun _ _ _ _ _ => pmts_nil) (fun _ _ _ _ _ => (pm_ixd (pm_of (pv 0)) (pm_of (pv 2)))))) pma_nil)) (PMo.pm (pmo_lst pma_nil)))))
theorem sc_have_none : FnScope N_have_none ps_have_none (defScope HeadT.s_have_none) := ⟨rfl, rfl, rfl, by decide +kernel, rfl, by decide +kernel, by decide +kernel⟩
theorem b_is_within_bounds {P : Program} {w : World} {K : PySem.W.Frag} {mg : Str → Option Value} {base : Heap} (h_check_bounds : FnX P w K mg base "check_bounds" (defArgs HeadT.s_check_bounds) 5 ps_check_bounds F_check_bounds) (h_is_point_of : FnX P w K mg base "is_point_of" (defArgs HeadT.s_is_point_of) 3 ps_is_point_of F_is_point_of) (m_all : mg "all" = none) : BodyOk P w K mg base 5 "is_within_bounds" (defBody HeadT.s_is_within_bounds) (defScope HeadT.s_is_within_bounds) N_is_within_bounds c_is_within_bounds := by
  intro f cdv A outer s H E En hr hgd
  have nd : N_is_within_bounds.Nodup := by decide +kernel
  have tk : Takes (cxOf (L2.CX P w) P w K mg base N_is_within_bounds "is_within_bounds" (defScope HeadT.s_is_within_bounds) f cdv A outer s H E) (EX E) := takes_of rfl rfl rfl rfl
  have hp : PassesOwn (model P w) (cxOf (L2.CX P w) P w K mg base N_is_within_bounds "is_within_bounds" (defScope HeadT.s_is_within_bounds) f cdv A outer s H E).A (cxOf (L2.CX P w) P w K mg base N_is_within_bounds "is_within_bounds" (defScope HeadT.s_is_within_bounds) f cdv A outer s H E).env (cxOf (L2.CX P w) P w K mg base N_is_within_bounds "is_within_bounds" (defScope HeadT.s_is_within_bounds) f cdv A outer s H E).xe := passes_of rfl
  delta c_is_within_bounds
  try delta m_is_within_bounds_1
  exact (cs_cons (cs_expr (pm_fn1 h_check_bounds (hr.mono (by decide)) hgd tk (fun _ _ _ _ _ _ _ _ us ws h1 h2 => match us, ws, h1, h2 with | [_], [], _, _ => rfl) (by rfl) (pma_cons (pm_of (pv 0)) pma_nil))) (cs_cons (cs_if (pmt_not (pmt_val (pm_fn1 h_is_point_of (hr.mono (by decide)) hgd tk (fun _ _ _ _ _ _ _ _ us ws h1 h2 => match us, ws, h1, h2 with | [_], [], _, _ => rfl) (by rfl) (pma_cons (pm_of (pv 1)) pma_nil)))) (cs_one cs_never) cs_nil) (cs_one (cs_ret (b_all rfl m_all (pma_cons (PMo.pm (pmo_lc (own := [("a", 2), ("b", 3), ("c", 4)]) rfl nd (pmi_seq (pm_of (pv 0))) (blkOk_by (by kernel_rfl)) (fun _ _ _ _ _ => (pg_tup rfl (pgs_cons (pg_name (i := 2) nd rfl (by first | exact Or.inl rfl | exact Or.inr rfl)) (pgs_cons (pg_name (i := 3) nd rfl (by first | exact Or.inl rfl | exact Or.inr rfl)) (pgs_cons (pg_name (i := 4) nd rfl (by first | exact Or.inl rfl | exact Or.inr rfl)) pgs_nil))))) (gok_tup (gsok_cons gok_name (gsok_cons gok_name (gsok_cons gok_name gsok_nil))) (fs_len_cons (fs_len_cons (fs_len_cons fs_len_nil)))) (fun _ _ _ _ _ => pmts_nil) (fun _ _ _ _ _ => (pm_le (pm_add (pm_mul (pm_of (pv 2)) (pm_ixd (pm_of (pv 1)) pm_int)) (pm_mul (pm_of (pv 3)) (pm_ixd (pm_of (pv 1)) pm_int))) (pm_of (pv 4)))))) pma_nil))))))
theorem sc_is_within_bounds : FnScope N_is_within_bounds ps_is_within_bounds (defScope HeadT.s_is_within_bounds) := ⟨rfl, rfl, rfl, by decide +kernel, rfl, by decide +kernel, by decide +kernel⟩
theorem b_least_point {P : Program} {w : World} {K : PySem.W.Frag} {mg : Str → Option Value} {base : Heap} (h_check_bounds : FnX P w K mg base "check_bounds" (defArgs HeadT.s_check_bounds) 5 ps_check_bounds F_check_bounds) (h_points_of : FnX P w K mg base "points_of" (defArgs HeadT.s_points_of) 4 ps_points_of F_points_of) : BodyOk P w K mg base 5 "least_point" (defBody HeadT.s_least_point) (defScope HeadT.s_least_point) N_least_point c_least_point := by
  intro f cdv A outer s H E En hr hgd
  have nd : N_least_point.Nodup := by decide +kernel
  have tk : Takes (cxOf (L2.CX P w) P w K mg base N_least_point "least_point" (defScope HeadT.s_least_point) f cdv A outer s H E) (EX E) := takes_of rfl rfl rfl rfl
  have hp : PassesOwn (model P w) (cxOf (L2.CX P w) P w K mg base N_least_point "least_point" (defScope HeadT.s_least_point) f cdv A outer s H E).A (cxOf (L2.CX P w) P w K mg base N_least_point "least_point" (defScope HeadT.s_least_point) f cdv A outer s H E).env (cxOf (L2.CX P w) P w K mg base N_least_point "least_point" (defScope HeadT.s_least_point) f cdv A outer s H E).xe := passes_of rfl
  delta c_least_point
  exact (cs_cons (cs_expr (pm_fn1 h_check_bounds (hr.mono (by decide)) hgd tk (fun _ _ _ _ _ _ _ _ us ws h1 h2 => match us, ws, h1, h2 with | [_], [], _, _ => rfl) (by rfl) (pma_cons (pm_of (pv 0)) pma_nil))) (cs_cons (cs_set (i := 1) nd rfl (by first | exact Or.inl rfl | exact Or.inr rfl) (pm_fn1 h_points_of (hr.mono (by decide)) hgd tk (fun _ _ _ _ _ _ _ _ us ws h1 h2 => match us, ws, h1, h2 with | [_], [], _, _ => rfl) (by rfl) (pma_cons (pm_of (pv 0)) pma_nil))) (cs_one (cs_ret (pm_if (pmt_ne (un_of hr) (pm_of (pv 1)) (PMo.pm (pmo_lst pma_nil))) (pm_ixd (pm_of (pv 1)) pm_int) pm_non)))))
theorem sc_least_point : FnScope N_least_point ps_least_point (defScope HeadT.s_least_point) := ⟨rfl, rfl, rfl, by decide +kernel, rfl, by decide +kernel, by decide +kernel⟩
theorem b_count_points {P : Program} {w : World} {K : PySem.W.Frag} {mg : Str → Option Value} {base : Heap} (h_check_bounds : FnX P w K mg base "check_bounds" (defArgs HeadT.s_check_bounds) 5 ps_check_bounds F_check_bounds) (h_points_of : FnX P w K mg base "points_of" (defArgs HeadT.s_points_of) 4 ps_points_of F_points_of) (m_len : mg "len" = none) : BodyOk P w K mg base 5 "count_points" (defBody HeadT.s_count_points) (defScope HeadT.s_count_points) N_count_points c_count_points := by
  intro f cdv A outer s H E En hr hgd
  have nd : N_count_points.Nodup := by decide +kernel
  have tk : Takes (cxOf (L2.CX P w) P w K mg base N_count_points "count_points" (defScope HeadT.s_count_points) f cdv A outer s H E) (EX E) := takes_of rfl rfl rfl rfl
  have hp : PassesOwn (model P w) (cxOf (L2.CX P w) P w K mg base N_count_points "count_points" (defScope HeadT.s_count_points) f cdv A outer s H E).A (cxOf (L2.CX P w) P w K mg base N_count_points "count_points" (defScope HeadT.s_count_points) f cdv A outer s H E).env (cxOf (L2.CX P w) P w K mg base N_count_points "count_points" (defScope HeadT.s_count_points) f cdv A outer s H E).xe := passes_of rfl
  delta c_count_points
  exact (cs_cons (cs_expr (pm_fn1 h_check_bounds (hr.mono (by decide)) hgd tk (fun _ _ _ _ _ _ _ _ us ws h1 h2 => match us, ws, h1, h2 with | [_], [], _, _ => rfl) (by rfl) (pma_cons (pm_of (pv 0)) pma_nil))) (cs_one (cs_ret (b_len m_len (pma_cons (pm_fn1 h_points_of (hr.mono (by decide)) hgd tk (fun _ _ _ _ _ _ _ _ us ws h1 h2 => match us, ws, h1, h2 with | [_], [], _, _ => rfl) (by rfl) (pma_cons (pm_of (pv 0)) pma_nil)) pma_nil)))))
theorem sc_count_points : FnScope N_count_points ps_count_points (defScope HeadT.s_count_points) := ⟨rfl, rfl, rfl, by decide +kernel, rfl, by decide +kernel, by decide +kernel⟩
theorem b_few_bar {P : Program} {w : World} {K : PySem.W.Frag} {mg : Str → Option Value} {base : Heap} (m_FEW : ∃ t, mg "FEW" = some (.int 4 t)) (h_check_bounds : FnX P w K mg base "check_bounds" (defArgs HeadT.s_check_bounds) 5 ps_check_bounds F_check_bounds) (h_have_none : FnX P w K mg base "have_none" (defArgs HeadT.s_have_none) 5 ps_have_none F_have_none) (h_picks_of : FnX P w K mg base "picks_of" (defArgs HeadT.s_picks_of) 1 ps_picks_of F_picks_of) (m_len : mg "len" = none) (m_min : mg "min" = none) (m_range : mg "range" = none) : BodyOk P w K mg base 5 "few_bar" (defBody HeadT.s_few_bar) (defScope HeadT.s_few_bar) N_few_bar c_few_bar := by
  intro f cdv A outer s H E En hr hgd
  have nd : N_few_bar.Nodup := by decide +kernel
  have tk : Takes (cxOf (L2.CX P w) P w K mg base N_few_bar "few_bar" (defScope HeadT.s_few_bar) f cdv A outer s H E) (EX E) := takes_of rfl rfl rfl rfl
  have hp : PassesOwn (model P w) (cxOf (L2.CX P w) P w K mg base N_few_bar "few_bar" (defScope HeadT.s_few_bar) f cdv A outer s H E).A (cxOf (L2.CX P w) P w K mg base N_few_bar "few_bar" (defScope HeadT.s_few_bar) f cdv A outer s H E).env (cxOf (L2.CX P w) P w K mg base N_few_bar "few_bar" (defScope HeadT.s_few_bar) f cdv A outer s H E).xe := passes_of rfl
  delta c_few_bar
  try delta b_few_bar_2
  try delta b_few_bar_1
  exact (cs_cons (cs_expr (pm_fn1 h_check_bounds (hr.mono (by decide)) hgd tk (fun _ _ _ _ _ _ _ _ us ws h1 h2 => match us, ws, h1, h2 with | [_], [], _, _ => rfl) (by rfl) (pma_cons (pm_of (pv 0)) pma_nil))) (cs_cons (cs_for hp rfl (pmi_range2 (by rfl) m_range (pma_cons pm_int (pma_cons (pm_add (b_min2 rfl m_min (pma_cons (pm_gint (by rfl) m_FEW) (pma_cons (b_len m_len (pma_cons (pm_of (pv 0)) pma_nil)) pma_nil))) pm_int) pma_nil))) (pg_name (i := 1) nd rfl (by first | exact Or.inl rfl | exact Or.inr rfl)) tg_name (cs_one (cs_for hp rfl (pmi_seq (pm_fn1 h_picks_of (hr.mono (by decide)) hgd tk (fun _ _ _ _ _ _ _ _ us ws h1 h2 => match us, ws, h1, h2 with | [_, _], [], _, _ => rfl) (by rfl) (pma_cons (b_len m_len (pma_cons (pm_of (pv 0)) pma_nil)) (pma_cons (pm_of (pv 1)) pma_nil)))) (pg_name (i := 2) nd rfl (by first | exact Or.inl rfl | exact Or.inr rfl)) tg_name (cs_one (cs_if (pmt_val (pm_fn1 h_have_none (hr.mono (by decide)) hgd tk (fun _ _ _ _ _ _ _ _ us ws h1 h2 => match us, ws, h1, h2 with | [_, _], [], _, _ => rfl) (by rfl) (pma_cons (pm_of (pv 0)) (pma_cons (pm_of (pv 2)) pma_nil)))) (cs_one (cs_ret (pm_of (pv 2)))) cs_nil))))) (cs_one (cs_ret pm_non))))
theorem sc_few_bar : FnScope N_few_bar ps_few_bar (defScope HeadT.s_few_bar) := ⟨rfl, rfl, rfl, by decide +kernel, rfl, by decide +kernel, by decide +kernel⟩
theorem b_check_wish {P : Program} {w : World} {K : PySem.W.Frag} {mg : Str → Option Value} {base : Heap} (m_MOST_FACTOR : ∃ t, mg "MOST_FACTOR" = some (.int 99 t)) (h_check_bounds : FnX P w K mg base "check_bounds" (defArgs HeadT.s_check_bounds) 5 ps_check_bounds F_check_bounds) (h_is_within : FnX P w K mg base "is_within" (defArgs HeadT.s_is_within) 2 ps_is_within F_is_within) (m_all : mg "all" = none) (m_isinstance : mg "isinstance" = none) (m_len : mg "len" = none) (m_tuple : mg "tuple" = none) : BodyOk P w K mg base 5 "check_wish" (defBody HeadT.s_check_wish) (defScope HeadT.s_check_wish) N_check_wish c_check_wish := by
  intro f cdv A outer s H E En hr hgd
  have nd : N_check_wish.Nodup := by decide +kernel
  have tk : Takes (cxOf (L2.CX P w) P w K mg base N_check_wish "check_wish" (defScope HeadT.s_check_wish) f cdv A outer s H E) (EX E) := takes_of rfl rfl rfl rfl
  have hp : PassesOwn (model P w) (cxOf (L2.CX P w) P w K mg base N_check_wish "check_wish" (defScope HeadT.s_check_wish) f cdv A outer s H E).A (cxOf (L2.CX P w) P w K mg base N_check_wish "check_wish" (defScope HeadT.s_check_wish) f cdv A outer s H E).env (cxOf (L2.CX P w) P w K mg base N_check_wish "check_wish" (defScope HeadT.s_check_wish) f cdv A outer s H E).xe := passes_of rfl
  delta c_check_wish
  try delta m_check_wish_1
  exact (cs_cons (cs_expr (pm_fn1 h_check_bounds (hr.mono (by decide)) hgd tk (fun _ _ _ _ _ _ _ _ us ws h1 h2 => match us, ws, h1, h2 with | [_], [], _, _ => rfl) (by rfl) (pma_cons (pm_of (pv 0)) pma_nil))) (cs_cons (cs_if (PMw.pt (pmw_or (pmt_not (pmt_val (pm_isi .tuple (by rfl) m_isinstance (pm_of (pv 1)) (by rfl) m_tuple ty_tuple))) (pmw_or1 (pmt_ne (un_of hr) (b_len m_len (pma_cons (pm_of (pv 1)) pma_nil)) pm_int)))) (cs_one cs_never) cs_nil) (cs_one (cs_if (pmt_not (pmt_val (b_all rfl m_all (pma_cons (PMo.pm (pmo_lc (own := [("one", 2)]) rfl nd (pmi_seq (pm_of (pv 1))) (blkOk_by (by kernel_rfl)) (fun _ _ _ _ _ => (pg_name (i := 2) nd rfl (by first | exact Or.inl rfl | exact Or.inr rfl))) gok_name (fun _ _ _ _ _ => pmts_nil) (fun _ _ _ _ _ => (pm_fn1 h_is_within (hr.mono (by decide)) hgd takes_w0 (fun _ _ _ _ _ _ _ _ us ws h1 h2 => match us, ws, h1, h2 with | [_, _, _], [], _, _ => rfl) (by rfl) (pma_cons (pm_of (pv 2)) (pma_cons (pm_sub pm_int (pm_gint (by rfl) m_MOST_FACTOR)) (pma_cons (pm_gint (by rfl) m_MOST_FACTOR) pma_nil))))))) pma_nil)))) (cs_one cs_never) cs_nil))))
theorem sc_check_wish : FnScope N_check_wish ps_check_wish (defScope HeadT.s_check_wish) := ⟨rfl, rfl, rfl, by decide +kernel, rfl, by decide +kernel, by decide +kernel⟩
theorem b_want_points {P : Program} {w : World} {K : PySem.W.Frag} {mg : Str → Option Value} {base : Heap} (h_check_wish : FnX P w K mg base "check_wish" (defArgs HeadT.s_check_wish) 6 ps_check_wish F_check_wish) (h_points_of : FnX P w K mg base "points_of" (defArgs HeadT.s_points_of) 4 ps_points_of F_points_of) : BodyOk P w K mg base 6 "want_points" (defBody HeadT.s_want_points) (defScope HeadT.s_want_points) N_want_points c_want_points := by
  intro f cdv A outer s H E En hr hgd
  have nd : N_want_points.Nodup := by decide +kernel
  have tk : Takes (cxOf (L2.CX P w) P w K mg base N_want_points "want_points" (defScope HeadT.s_want_points) f cdv A outer s H E) (EX E) := takes_of rfl rfl rfl rfl
  have hp : PassesOwn (model P w) (cxOf (L2.CX P w) P w K mg base N_want_points "want_points" (defScope HeadT.s_want_points) f cdv A outer s H E).A (cxOf (L2.CX P w) P w K mg base N_want_points "want_points" (defScope HeadT.s_want_points) f cdv A outer s H E).env (cxOf (L2.CX P w) P w K mg base N_want_points "want_points" (defScope HeadT.s_want_points) f cdv A outer s H E).xe := passes_of rfl
  delta c_want_points
  exact (cs_cons (cs_expr (pm_fn1 h_check_wish (hr.mono (by decide)) hgd tk (fun _ _ _ _ _ _ _ _ us ws h1 h2 => match us, ws, h1, h2 with | [_, _], [], _, _ => rfl) (by rfl) (pma_cons (pm_of (pv 0)) (pma_cons (pm_of (pv 1)) pma_nil)))) (cs_cons (cs_set (i := 2) nd rfl (by first | exact Or.inl rfl | exact Or.inr rfl) (pm_fn1 h_points_of (hr.mono (by decide)) hgd tk (fun _ _ _ _ _ _ _ _ us ws h1 h2 => match us, ws, h1, h2 with | [_], [], _, _ => rfl) (by rfl) (pma_cons (pm_of (pv 0)) pma_nil))) (cs_cons (cs_if (pmt_eq (un_of hr) (pm_of (pv 2)) (PMo.pm (pmo_lst pma_nil))) (cs_one cs_never) cs_nil) (cs_one (cs_ret (pm_of (pv 2)))))))
theorem sc_want_points : FnScope N_want_points ps_want_points (defScope HeadT.s_want_points) := ⟨rfl, rfl, rfl, by decide +kernel, rfl, by decide +kernel, by decide +kernel⟩
theorem b_worth_at {P : Program} {w : World} {K : PySem.W.Frag} {mg : Str → Option Value} {base : Heap} : BodyOk P w K mg base 0 "worth_at" (defBody HeadT.s_worth_at) (defScope HeadT.s_worth_at) N_worth_at c_worth_at := by
  intro f cdv A outer s H E En hr hgd
  have nd : N_worth_at.Nodup := by decide +kernel
  have tk : Takes (cxOf (L2.CX P w) P w K mg base N_worth_at "worth_at" (defScope HeadT.s_worth_at) f cdv A outer s H E) (EX E) := takes_of rfl rfl rfl rfl
  have hp : PassesOwn (model P w) (cxOf (L2.CX P w) P w K mg base N_worth_at "worth_at" (defScope HeadT.s_worth_at) f cdv A outer s H E).A (cxOf (L2.CX P w) P w K mg base N_worth_at "worth_at" (defScope HeadT.s_worth_at) f cdv A outer s H E).env (cxOf (L2.CX P w) P w K mg base N_worth_at "worth_at" (defScope HeadT.s_worth_at) f cdv A outer s H E).xe := passes_of rfl
  delta c_worth_at
  exact (cs_one (cs_ret (pm_add (pm_mul (pm_ixd (pm_of (pv 0)) pm_int) (pm_ixd (pm_of (pv 1)) pm_int)) (pm_mul (pm_ixd (pm_of (pv 0)) pm_int) (pm_ixd (pm_of (pv 1)) pm_int)))))
theorem sc_worth_at : FnScope N_worth_at ps_worth_at (defScope HeadT.s_worth_at) := ⟨rfl, rfl, rfl, by decide +kernel, rfl, by decide +kernel, by decide +kernel⟩
theorem b_best_of {P : Program} {w : World} {K : PySem.W.Frag} {mg : Str → Option Value} {base : Heap} (h_worth_at : FnX P w K mg base "worth_at" (defArgs HeadT.s_worth_at) 1 ps_worth_at F_worth_at) (m_max : mg "max" = none) : BodyOk P w K mg base 1 "best_of" (defBody HeadT.s_best_of) (defScope HeadT.s_best_of) N_best_of c_best_of := by
  intro f cdv A outer s H E En hr hgd
  have nd : N_best_of.Nodup := by decide +kernel
  have tk : Takes (cxOf (L2.CX P w) P w K mg base N_best_of "best_of" (defScope HeadT.s_best_of) f cdv A outer s H E) (EX E) := takes_of rfl rfl rfl rfl
  have hp : PassesOwn (model P w) (cxOf (L2.CX P w) P w K mg base N_best_of "best_of" (defScope HeadT.s_best_of) f cdv A outer s H E).A (cxOf (L2.CX P w) P w K mg base N_best_of "best_of" (defScope HeadT.s_best_of) f cdv A outer s H E).env (cxOf (L2.CX P w) P w K mg base N_best_of "best_of" (defScope HeadT.s_best_of) f cdv A outer s H E).xe := passes_of rfl
  delta c_best_of
  try delta m_best_of_2
  try delta m_best_of_1
  exact (cs_cons (cs_set (i := 2) nd rfl (by first | exact Or.inl rfl | exact Or.inr rfl) (b_max1 rfl m_max (pma_cons (PMo.pm (pmo_lc (own := [("point", 3)]) rfl nd (pmi_seq (pm_of (pv 0))) (blkOk_by (by kernel_rfl)) (fun _ _ _ _ _ => (pg_name (i := 3) nd rfl (by first | exact Or.inl rfl | exact Or.inr rfl))) gok_name (fun _ _ _ _ _ => pmts_nil) (fun _ _ _ _ _ => (pm_fn1 h_worth_at (hr.mono (by decide)) hgd takes_w0 (fun _ _ _ _ _ _ _ _ us ws h1 h2 => match us, ws, h1, h2 with | [_, _], [], _, _ => rfl) (by rfl) (pma_cons (pm_of (pv 1)) (pma_cons (pm_of (pv 3)) pma_nil)))))) pma_nil))) (cs_one (cs_ret (pm_ixd (PMo.pm (pmo_lc (own := [("point", 3)]) rfl nd (pmi_seq (pm_of (pv 0))) (blkOk_by (by kernel_rfl)) (fun _ _ _ _ _ => (pg_name (i := 3) nd rfl (by first | exact Or.inl rfl | exact Or.inr rfl))) gok_name (fun _ _ _ _ _ => (pmts_one (pmt_eq (un_of hr) (pm_fn1 h_worth_at (hr.mono (by decide)) hgd takes_w0 (fun _ _ _ _ _ _ _ _ us ws h1 h2 => match us, ws, h1, h2 with | [_, _], [], _, _ => rfl) (by rfl) (pma_cons (pm_of (pv 1)) (pma_cons (pm_of (pv 3)) pma_nil))) (pm_of (pv 2))))) (fun _ _ _ _ _ => (pm_of (pv 3))))) pm_int))))
theorem sc_best_of : FnScope N_best_of ps_best_of (defScope HeadT.s_best_of) := ⟨rfl, rfl, rfl, by decide +kernel, rfl, by decide +kernel, by decide +kernel⟩
theorem b_turn_at {P : Program} {w : World} {K : PySem.W.Frag} {mg : Str → Option Value} {base : Heap} : BodyOk P w K mg base 0 "turn_at" (defBody HeadT.s_turn_at) (defScope HeadT.s_turn_at) N_turn_at c_turn_at := by
  intro f cdv A outer s H E En hr hgd
  have nd : N_turn_at.Nodup := by decide +kernel
  have tk : Takes (cxOf (L2.CX P w) P w K mg base N_turn_at "turn_at" (defScope HeadT.s_turn_at) f cdv A outer s H E) (EX E) := takes_of rfl rfl rfl rfl
  have hp : PassesOwn (model P w) (cxOf (L2.CX P w) P w K mg base N_turn_at "turn_at" (defScope HeadT.s_turn_at) f cdv A outer s H E).A (cxOf (L2.CX P w) P w K mg base N_turn_at "turn_at" (defScope HeadT.s_turn_at) f cdv A outer s H E).env (cxOf (L2.CX P w) P w K mg base N_turn_at "turn_at" (defScope HeadT.s_turn_at) f cdv A outer s H E).xe := passes_of rfl
  delta c_turn_at
  exact (cs_one (cs_ret (pm_sub (pm_mul (pm_sub (pm_ixd (pm_of (pv 1)) pm_int) (pm_ixd (pm_of (pv 0)) pm_int)) (pm_sub (pm_ixd (pm_of (pv 2)) pm_int) (pm_ixd (pm_of (pv 0)) pm_int))) (pm_mul (pm_sub (pm_ixd (pm_of (pv 1)) pm_int) (pm_ixd (pm_of (pv 0)) pm_int)) (pm_sub (pm_ixd (pm_of (pv 2)) pm_int) (pm_ixd (pm_of (pv 0)) pm_int))))))
theorem sc_turn_at : FnScope N_turn_at ps_turn_at (defScope HeadT.s_turn_at) := ⟨rfl, rfl, rfl, by decide +kernel, rfl, by decide +kernel, by decide +kernel⟩
theorem b_half_hull {P : Program} {w : World} {K : PySem.W.Frag} {mg : Str → Option Value} {base : Heap} (h_turn_at : FnX P w K mg base "turn_at" (defArgs HeadT.s_turn_at) 1 ps_turn_at F_turn_at) (m_len : mg "len" = none) : BodyOk P w K mg base 1 "half_hull" (defBody HeadT.s_half_hull) (defScope HeadT.s_half_hull) N_half_hull c_half_hull := by
  intro f cdv A outer s H E En hr hgd
  have nd : N_half_hull.Nodup := by decide +kernel
  have tk : Takes (cxOf (L2.CX P w) P w K mg base N_half_hull "half_hull" (defScope HeadT.s_half_hull) f cdv A outer s H E) (EX E) := takes_of rfl rfl rfl rfl
  have hp : PassesOwn (model P w) (cxOf (L2.CX P w) P w K mg base N_half_hull "half_hull" (defScope HeadT.s_half_hull) f cdv A outer s H E).A (cxOf (L2.CX P w) P w K mg base N_half_hull "half_hull" (defScope HeadT.s_half_hull) f cdv A outer s H E).env (cxOf (L2.CX P w) P w K mg base N_half_hull "half_hull" (defScope HeadT.s_half_hull) f cdv A outer s H E).xe := passes_of rfl
  delta c_half_hull
  try delta b_half_hull_3
  try delta t_half_hull_2
  try delta b_half_hull_1
  exact (cs_cons (cs_seto (i := 1) nd rfl (by first | exact Or.inl rfl | exact Or.inr rfl) (pmo_lst pma_nil)) (cs_cons (cs_for hp rfl (pmi_seq (pm_of (pv 0))) (pg_name (i := 2) nd rfl (by first | exact Or.inl rfl | exact Or.inr rfl)) tg_name (cs_cons (cs_while FUEL hp (PMw.pt (pmw_and (pmt_gt (pm_scal (b_len m_len (pma_cons (pm_of (pv 1)) pma_nil))) pm_int) (pmw_and1 (pmt_le (pm_fn1 h_turn_at (hr.mono (by decide)) hgd tk (fun _ _ _ _ _ _ _ _ us ws h1 h2 => match us, ws, h1, h2 with | [_, _, _], [], _, _ => rfl) (by rfl) (pma_cons (pm_ixo (pv 1) (pm_neg pm_int)) (pma_cons (pm_ixo (pv 1) (pm_neg pm_int)) (pma_cons (pm_of (pv 2)) pma_nil)))) pm_int)))) (cs_one (cs_pop (pe_bm0 PySem.F.plainAttrs_list PySem.F.slot_list_pop PySem.F.type_list_pop mt_pop (pv 1))))) (cs_one (cs_append (pe_bm PySem.F.plainAttrs_list PySem.F.slot_list_append PySem.F.type_list_append mt_append (pv 1) (pa_cons (PM.pe (pm_of (pv 2))) pa_nil)))))) (cs_one (cs_retown (pv 1)))))
theorem sc_half_hull : FnScope N_half_hull ps_half_hull (defScope HeadT.s_half_hull) := ⟨rfl, rfl, rfl, by decide +kernel, rfl, by decide +kernel, by decide +kernel⟩
theorem b_corners_of {P : Program} {w : World} {K : PySem.W.Frag} {mg : Str → Option Value} {base : Heap} (h_half_hull : FnX P w K mg base "half_hull" (defArgs HeadT.s_half_hull) 2 ps_half_hull F_half_hull) (m_len : mg "len" = none) : BodyOk P w K mg base 2 "corners_of" (defBody HeadT.s_corners_of) (defScope HeadT.s_corners_of) N_corners_of c_corners_of := by
  intro f cdv A outer s H E En hr hgd
  have nd : N_corners_of.Nodup := by decide +kernel
  have tk : Takes (cxOf (L2.CX P w) P w K mg base N_corners_of "corners_of" (defScope HeadT.s_corners_of) f cdv A outer s H E) (EX E) := takes_of rfl rfl rfl rfl
  have hp : PassesOwn (model P w) (cxOf (L2.CX P w) P w K mg base N_corners_of "corners_of" (defScope HeadT.s_corners_of) f cdv A outer s H E).A (cxOf (L2.CX P w) P w K mg base N_corners_of "corners_of" (defScope HeadT.s_corners_of) f cdv A outer s H E).env (cxOf (L2.CX P w) P w K mg base N_corners_of "corners_of" (defScope HeadT.s_corners_of) f cdv A outer s H E).xe := passes_of rfl
  delta c_corners_of
  exact (cs_cons (cs_if (pmt_lt (b_len m_len (pma_cons (pm_of (pv 0)) pma_nil)) pm_int) (cs_one (cs_ret (pm_of (pv 0)))) cs_nil) (cs_one (cs_reto (pmo_add (pm_sl (pm_fn1 h_half_hull (hr.mono (by decide)) hgd tk (fun _ _ _ _ _ _ _ _ us ws h1 h2 => match us, ws, h1, h2 with | [_], [], _, _ => rfl) (by rfl) (pma_cons (pm_of (pv 0)) pma_nil)) pmO_none (pmO_some (pm_neg pm_int))) (pm_sl (pm_fn1 h_half_hull (hr.mono (by decide)) hgd tk (fun _ _ _ _ _ _ _ _ us ws h1 h2 => match us, ws, h1, h2 with | [_], [], _, _ => rfl) (by rfl) (pma_cons (PMo.pm (pmo_rev (pm_of (pv 0)))) pma_nil)) pmO_none (pmO_some (pm_neg pm_int)))))))
theorem sc_corners_of : FnScope N_corners_of ps_corners_of (defScope HeadT.s_corners_of) := ⟨rfl, rfl, rfl, by decide +kernel, rfl, by decide +kernel, by decide +kernel⟩
theorem b_o_corners_of {P : Program} {w : World} {K : PySem.W.Frag} {mg : Str → Option Value} {base : Heap} (h_half_hull : FnX P w K mg base "half_hull" (defArgs HeadT.s_half_hull) 2 ps_half_hull F_half_hull) (m_len : mg "len" = none) : BodyOk P w K mg base 2 "corners_of" (defBody HeadT.s_corners_of) (defScope HeadT.s_corners_of) N_corners_of c_o_corners_of := by
  intro f cdv A outer s H E En hr hgd
  have nd : N_corners_of.Nodup := by decide +kernel
  have tk : Takes (cxOf (L2.CX P w) P w K mg base N_corners_of "corners_of" (defScope HeadT.s_corners_of) f cdv A outer s H E) (EX E) := takes_of rfl rfl rfl rfl
  have hp : PassesOwn (model P w) (cxOf (L2.CX P w) P w K mg base N_corners_of "corners_of" (defScope HeadT.s_corners_of) f cdv A outer s H E).A (cxOf (L2.CX P w) P w K mg base N_corners_of "corners_of" (defScope HeadT.s_corners_of) f cdv A outer s H E).env (cxOf (L2.CX P w) P w K mg base N_corners_of "corners_of" (defScope HeadT.s_corners_of) f cdv A outer s H E).xe := passes_of rfl
  delta c_o_corners_of
  exact (cs_cons (cs_if (pmt_lt (pm_scal (b_len m_len (pma_cons (pm_of (pv 0)) pma_nil))) pm_int) (cs_one (cs_retown (pv 0))) cs_nil) (cs_frz (i := 0) (cs_one (cs_reto (pmo_add (pm_sl (pm_fn1 h_half_hull (hr.mono (by decide)) hgd tk (fun _ _ _ _ _ _ _ _ us ws h1 h2 => match us, ws, h1, h2 with | [_], [], _, _ => rfl) (by rfl) (pma_cons (pm_of (pv 0)) pma_nil)) pmO_none (pmO_some (pm_neg pm_int))) (pm_sl (pm_fn1 h_half_hull (hr.mono (by decide)) hgd tk (fun _ _ _ _ _ _ _ _ us ws h1 h2 => match us, ws, h1, h2 with | [_], [], _, _ => rfl) (by rfl) (pma_cons (PMo.pm (pmo_rev (pm_of (pv 0)))) pma_nil)) pmO_none (pmO_some (pm_neg pm_int))))))))
theorem b_best_worth {P : Program} {w : World} {K : PySem.W.Frag} {mg : Str → Option Value} {base : Heap} (h_best_of : FnX P w K mg base "best_of" (defArgs HeadT.s_best_of) 2 ps_best_of F_best_of) (h_want_points : FnX P w K mg base "want_points" (defArgs HeadT.s_want_points) 7 ps_want_points F_want_points) (h_worth_at : FnX P w K mg base "worth_at" (defArgs HeadT.s_worth_at) 1 ps_worth_at F_worth_at) : BodyOk P w K mg base 7 "best_worth" (defBody HeadT.s_best_worth) (defScope HeadT.s_best_worth) N_best_worth c_best_worth := by
  intro f cdv A outer s H E En hr hgd
  have nd : N_best_worth.Nodup := by decide +kernel
  have tk : Takes (cxOf (L2.CX P w) P w K mg base N_best_worth "best_worth" (defScope HeadT.s_best_worth) f cdv A outer s H E) (EX E) := takes_of rfl rfl rfl rfl
  have hp : PassesOwn (model P w) (cxOf (L2.CX P w) P w K mg base N_best_worth "best_worth" (defScope HeadT.s_best_worth) f cdv A outer s H E).A (cxOf (L2.CX P w) P w K mg base N_best_worth "best_worth" (defScope HeadT.s_best_worth) f cdv A outer s H E).env (cxOf (L2.CX P w) P w K mg base N_best_worth "best_worth" (defScope HeadT.s_best_worth) f cdv A outer s H E).xe := passes_of rfl
  delta c_best_worth
  exact (cs_cons (cs_set (i := 2) nd rfl (by first | exact Or.inl rfl | exact Or.inr rfl) (pm_fn1 h_want_points (hr.mono (by decide)) hgd tk (fun _ _ _ _ _ _ _ _ us ws h1 h2 => match us, ws, h1, h2 with | [_, _], [], _, _ => rfl) (by rfl) (pma_cons (pm_of (pv 0)) (pma_cons (pm_of (pv 1)) pma_nil)))) (cs_one (cs_ret (pm_fn1 h_worth_at (hr.mono (by decide)) hgd tk (fun _ _ _ _ _ _ _ _ us ws h1 h2 => match us, ws, h1, h2 with | [_, _], [], _, _ => rfl) (by rfl) (pma_cons (pm_of (pv 1)) (pma_cons (pm_fn1 h_best_of (hr.mono (by decide)) hgd tk (fun _ _ _ _ _ _ _ _ us ws h1 h2 => match us, ws, h1, h2 with | [_, _], [], _, _ => rfl) (by rfl) (pma_cons (pm_of (pv 2)) (pma_cons (pm_of (pv 1)) pma_nil))) pma_nil))))))
theorem sc_best_worth : FnScope N_best_worth ps_best_worth (defScope HeadT.s_best_worth) := ⟨rfl, rfl, rfl, by decide +kernel, rfl, by decide +kernel, by decide +kernel⟩
theorem b_corners {P : Program} {w : World} {K : PySem.W.Frag} {mg : Str → Option Value} {base : Heap} (h_check_bounds : FnX P w K mg base "check_bounds" (defArgs HeadT.s_check_bounds) 5 ps_check_bounds F_check_bounds) (h_points_of : FnX P w K mg base "points_of" (defArgs HeadT.s_points_of) 4 ps_points_of F_points_of) (h_o_corners_of : FnXo P w K mg base "corners_of" (defArgs HeadT.s_corners_of) 3 ps_corners_of G_corners_of) : BodyOk P w K mg base 5 "corners" (defBody HeadT.s_corners) (defScope HeadT.s_corners) N_corners c_corners := by
  intro f cdv A outer s H E En hr hgd
  have nd : N_corners.Nodup := by decide +kernel
  have tk : Takes (cxOf (L2.CX P w) P w K mg base N_corners "corners" (defScope HeadT.s_corners) f cdv A outer s H E) (EX E) := takes_of rfl rfl rfl rfl
  have hp : PassesOwn (model P w) (cxOf (L2.CX P w) P w K mg base N_corners "corners" (defScope HeadT.s_corners) f cdv A outer s H E).A (cxOf (L2.CX P w) P w K mg base N_corners "corners" (defScope HeadT.s_corners) f cdv A outer s H E).env (cxOf (L2.CX P w) P w K mg base N_corners "corners" (defScope HeadT.s_corners) f cdv A outer s H E).xe := passes_of rfl
  delta c_corners
  exact (cs_cons (cs_expr (pm_fn1 h_check_bounds (hr.mono (by decide)) hgd tk (fun _ _ _ _ _ _ _ _ us ws h1 h2 => match us, ws, h1, h2 with | [_], [], _, _ => rfl) (by rfl) (pma_cons (pm_of (pv 0)) pma_nil))) (cs_one (cs_reto (pmo_fnO h_o_corners_of (hr.mono (by decide)) hgd tk (fun _ _ _ _ _ _ _ _ us ws h1 h2 => match us, ws, h1, h2 with | [_], [], _, _ => rfl) (by rfl) (pmo_fn1 h_points_of (hr.mono (by decide)) hgd tk (fun _ _ _ _ _ _ _ _ us ws h1 h2 => match us, ws, h1, h2 with | [_], [], _, _ => rfl) (by rfl) (pma_cons (pm_of (pv 0)) pma_nil))))))
theorem sc_corners : FnScope N_corners ps_corners (defScope HeadT.s_corners) := ⟨rfl, rfl, rfl, by decide +kernel, rfl, by decide +kernel, by decide +kernel⟩
theorem b__law_pot {P : Program} {w : World} {K : PySem.W.Frag} {mg : Str → Option Value} {base : Heap} (m_abs : mg "abs" = none) (m_int : mg "int" = none) (m_len : mg "len" = none) (m_max : mg "max" = none) : BodyOk P w K mg base 0 "_law_pot" (defBody HeadT.s__law_pot) (defScope HeadT.s__law_pot) N__law_pot c__law_pot := by
  intro f cdv A outer s H E En hr hgd
  have nd : N__law_pot.Nodup := by decide +kernel
  have tk : Takes (cxOf (L2.CX P w) P w K mg base N__law_pot "_law_pot" (defScope HeadT.s__law_pot) f cdv A outer s H E) (EX E) := takes_of rfl rfl rfl rfl
  have hp : PassesOwn (model P w) (cxOf (L2.CX P w) P w K mg base N__law_pot "_law_pot" (defScope HeadT.s__law_pot) f cdv A outer s H E).A (cxOf (L2.CX P w) P w K mg base N__law_pot "_law_pot" (defScope HeadT.s__law_pot) f cdv A outer s H E).env (cxOf (L2.CX P w) P w K mg base N__law_pot "_law_pot" (defScope HeadT.s__law_pot) f cdv A outer s H E).xe := passes_of rfl
  delta c__law_pot
  exact (cs_cons (cs_set (i := 2) nd rfl (by first | exact Or.inl rfl | exact Or.inr rfl) (pm_if (pmt_lt (pm_of (pv 1)) (b_len m_len (pma_cons (pm_of (pv 0)) pma_nil))) (b_abs m_abs (pma_cons (pm_ixd (pm_of (pv 0)) (pm_of (pv 1))) pma_nil)) (pm_add (pm_mul pm_int (pm_of (pv 1))) pm_int))) (cs_one (cs_retpot (pma_cons (b_max2 rfl m_max (pma_cons pm_int (pma_cons (pm_sub (pm_of (pv 2)) (pm_pow pm_int pm_int)) pma_nil))) (pma_cons (pm_add (pm_mod (b_int m_int (pma_cons (pm_add (pm_add (pm_mul (pm_mod (b_int m_int (pma_cons (pm_of (pv 2)) pma_nil)) pm_int) pm_int) (pm_mul pm_int (pm_of (pv 1)))) pm_int) pma_nil)) pm_int) pm_int) pma_nil)))))
theorem sc__law_pot : FnScope N__law_pot ps__law_pot (defScope HeadT.s__law_pot) := ⟨rfl, rfl, rfl, by decide +kernel, rfl, by decide +kernel, by decide +kernel⟩
theorem b__law_draw {P : Program} {w : World} {K : PySem.W.Frag} {mg : Str → Option Value} {base : Heap} (m_divmod : mg "divmod" = none) (m_int : mg "int" = none) : BodyOk P w K mg base 0 "_law_draw" (defBody HeadT.s__law_draw) (defScope HeadT.s__law_draw) N__law_draw c__law_draw := by
  intro f cdv A outer s H E En hr hgd
  have nd : N__law_draw.Nodup := by decide +kernel
  have tk : Takes (cxOf (L2.CX P w) P w K mg base N__law_draw "_law_draw" (defScope HeadT.s__law_draw) f cdv A outer s H E) (EX E) := takes_of rfl rfl rfl rfl
  have hp : PassesOwn (model P w) (cxOf (L2.CX P w) P w K mg base N__law_draw "_law_draw" (defScope HeadT.s__law_draw) f cdv A outer s H E).A (cxOf (L2.CX P w) P w K mg base N__law_draw "_law_draw" (defScope HeadT.s__law_draw) f cdv A outer s H E).env (cxOf (L2.CX P w) P w K mg base N__law_draw "_law_draw" (defScope HeadT.s__law_draw) f cdv A outer s H E).xe := passes_of rfl
  delta c__law_draw
  exact (cs_cons (cs_if (pmt_gt (pm_ix (pm_of (pv 0)) pm_int) pm_int) (cs_cons (cs_asgT (ps_asg (PM.pe (b_divmod m_divmod (pma_cons (pm_ix (pm_of (pv 0)) pm_int) (pma_cons (pm_of (pv 1)) pma_nil)))) (pg_tup rfl (pgs_cons (pg_sub (pv 0) (PM.pe pm_int) set_list) (pgs_cons (pg_name (i := 2) nd rfl (by first | exact Or.inl rfl | exact Or.inr rfl)) pgs_nil)))) (tg_tup (tgs_cons tg_sub (tgs_cons tg_name tgs_nil)))) (cs_one (cs_ret (pm_of (pv 2))))) cs_nil) (cs_cons (cs_asgT (ps_asg (PM.pe (pm_mod (b_int m_int (pma_cons (pm_add (pm_mul (pm_ix (pm_of (pv 0)) pm_int) pm_int) pm_int) pma_nil)) pm_int)) (pg_sub (pv 0) (PM.pe pm_int) set_list)) tg_sub) (cs_one (cs_ret (pm_mod (b_int m_int (pma_cons (pm_div (pm_mod (b_int m_int (pma_cons (pm_mul (pm_ix (pm_of (pv 0)) pm_int) (pm_ix (pm_of (pv 0)) pm_int)) pma_nil)) pm_int) pm_int) pma_nil)) (pm_of (pv 1)))))))
theorem sc__law_draw : FnScope N__law_draw ps__law_draw (defScope HeadT.s__law_draw) := ⟨rfl, rfl, rfl, by decide +kernel, rfl, by decide +kernel, by decide +kernel⟩
theorem b__law_pick {P : Program} {w : World} {K : PySem.W.Frag} {mg : Str → Option Value} {base : Heap} (h__law_draw : FnX P w K mg base "_law_draw" (defArgs HeadT.s__law_draw) 1 ps__law_draw F__law_draw) (m_len : mg "len" = none) : BodyOk P w K mg base 1 "_law_pick" (defBody HeadT.s__law_pick) (defScope HeadT.s__law_pick) N__law_pick c__law_pick := by
  intro f cdv A outer s H E En hr hgd
  have nd : N__law_pick.Nodup := by decide +kernel
  have tk : Takes (cxOf (L2.CX P w) P w K mg base N__law_pick "_law_pick" (defScope HeadT.s__law_pick) f cdv A outer s H E) (EX E) := takes_of rfl rfl rfl rfl
  have hp : PassesOwn (model P w) (cxOf (L2.CX P w) P w K mg base N__law_pick "_law_pick" (defScope HeadT.s__law_pick) f cdv A outer s H E).A (cxOf (L2.CX P w) P w K mg base N__law_pick "_law_pick" (defScope HeadT.s__law_pick) f cdv A outer s H E).env (cxOf (L2.CX P w) P w K mg base N__law_pick "_law_pick" (defScope HeadT.s__law_pick) f cdv A outer s H E).xe := passes_of rfl
  delta c__law_pick
  exact (cs_one (cs_ret (pm_ixd (pm_of (pv 1)) (pm_fn1 h__law_draw (hr.mono (by decide)) hgd tk (fun _ _ _ _ _ _ _ _ us ws h1 h2 => match us, ws, h1, h2 with | [_, _], [], _, _ => rfl) (by rfl) (pma_cons (pm_of (pv 0)) (pma_cons (b_len m_len (pma_cons (pm_of (pv 1)) pma_nil)) pma_nil))))))
theorem sc__law_pick : FnScope N__law_pick ps__law_pick (defScope HeadT.s__law_pick) := ⟨rfl, rfl, rfl, by decide +kernel, rfl, by decide +kernel, by decide +kernel⟩
theorem b__law_bounds {P : Program} {w : World} {K : PySem.W.Frag} {mg : Str → Option Value} {base : Heap} (h__law_draw : FnX P w K mg base "_law_draw" (defArgs HeadT.s__law_draw) 1 ps__law_draw F__law_draw) (h__law_pick : FnX P w K mg base "_law_pick" (defArgs HeadT.s__law_pick) 2 ps__law_pick F__law_pick) (m_range : mg "range" = none) : BodyOk P w K mg base 2 "_law_bounds" (defBody HeadT.s__law_bounds) (defScope HeadT.s__law_bounds) N__law_bounds c__law_bounds := by
  intro f cdv A outer s H E En hr hgd
  have nd : N__law_bounds.Nodup := by decide +kernel
  have tk : Takes (cxOf (L2.CX P w) P w K mg base N__law_bounds "_law_bounds" (defScope HeadT.s__law_bounds) f cdv A outer s H E) (EX E) := takes_of rfl rfl rfl rfl
  have hp : PassesOwn (model P w) (cxOf (L2.CX P w) P w K mg base N__law_bounds "_law_bounds" (defScope HeadT.s__law_bounds) f cdv A outer s H E).A (cxOf (L2.CX P w) P w K mg base N__law_bounds "_law_bounds" (defScope HeadT.s__law_bounds) f cdv A outer s H E).env (cxOf (L2.CX P w) P w K mg base N__law_bounds "_law_bounds" (defScope HeadT.s__law_bounds) f cdv A outer s H E).xe := passes_of rfl
  delta c__law_bounds
  try delta b__law_bounds_1
  exact (cs_cons (cs_par3 (ps_par3 (i := 4) (j := 5) (l := 6) rfl nd rfl rfl rfl (by decide) (by decide) (by decide) rfl rfl rfl (PMu.pa (pmu_val (pm_sub (pm_fn1 h__law_draw (hr.mono (by decide)) hgd tk (fun _ _ _ _ _ _ _ _ us ws h1 h2 => match us, ws, h1, h2 with | [_, _], [], _, _ => rfl) (by rfl) (pma_cons (pm_of (pv 0)) (pma_cons pm_int pma_nil))) pm_int) (pmu_val (pm_sub (pm_fn1 h__law_draw (hr.mono (by decide)) hgd tk (fun _ _ _ _ _ _ _ _ us ws h1 h2 => match us, ws, h1, h2 with | [_, _], [], _, _ => rfl) (by rfl) (pma_cons (pm_of (pv 0)) (pma_cons pm_int pma_nil))) pm_int) (pmu_val (pm_fn1 h__law_pick (hr.mono (by decide)) hgd tk (fun _ _ _ _ _ _ _ _ us ws h1 h2 => match us, ws, h1, h2 with | [_, _], [], _, _ => rfl) (by rfl) (pma_cons (pm_of (pv 0)) (pma_cons (PMo.pm (pmo_lst (pma_cons pm_int (pma_cons pm_int (pma_cons pm_int (pma_cons pm_int pma_nil)))))) pma_nil))) pmu_nil)))) rfl)) (cs_cons (cs_seto (i := 2) nd rfl (by first | exact Or.inl rfl | exact Or.inr rfl) (pmo_lst pma_nil)) (cs_cons (cs_for hp rfl (pmi_range1 (by rfl) m_range (pma_cons (pm_add pm_int (pm_fn1 h__law_draw (hr.mono (by decide)) hgd tk (fun _ _ _ _ _ _ _ _ us ws h1 h2 => match us, ws, h1, h2 with | [_, _], [], _, _ => rfl) (by rfl) (pma_cons (pm_of (pv 0)) (pma_cons (pm_of (pv 1)) pma_nil)))) pma_nil)) (pg_name (i := 3) nd rfl (by first | exact Or.inl rfl | exact Or.inr rfl)) tg_name (cs_cons (cs_par (ps_par (i := 7) (j := 8) rfl nd rfl rfl (by decide) rfl rfl (PMu.pa (pmu_val (pm_sub (pm_fn1 h__law_draw (hr.mono (by decide)) hgd tk (fun _ _ _ _ _ _ _ _ us ws h1 h2 => match us, ws, h1, h2 with | [_, _], [], _, _ => rfl) (by rfl) (pma_cons (pm_of (pv 0)) (pma_cons pm_int pma_nil))) pm_int) (pmu_val (pm_sub (pm_fn1 h__law_draw (hr.mono (by decide)) hgd tk (fun _ _ _ _ _ _ _ _ us ws h1 h2 => match us, ws, h1, h2 with | [_, _], [], _, _ => rfl) (by rfl) (pma_cons (pm_of (pv 0)) (pma_cons pm_int pma_nil))) pm_int) pmu_nil))) rfl)) (cs_cons (cs_set (i := 7) nd rfl (by first | exact Or.inl rfl | exact Or.inr rfl) (pm_if (pmt_ne (un_of hr) (pm_tup (pma_cons (pm_of (pv 7)) (pma_cons (pm_of (pv 8)) pma_nil))) (pm_tup (pma_cons pm_int (pma_cons pm_int pma_nil)))) (pm_of (pv 7)) pm_int)) (cs_one (cs_append (pe_bm PySem.F.plainAttrs_list PySem.F.slot_list_append PySem.F.type_list_append mt_append (pv 2) (pa_cons (PM.pe (pm_tup (pma_cons (pm_of (pv 7)) (pma_cons (pm_of (pv 8)) (pma_cons (pm_sub (pm_add (pm_add (pm_mul (pm_of (pv 7)) (pm_of (pv 4))) (pm_mul (pm_of (pv 8)) (pm_of (pv 5)))) (pm_fn1 h__law_draw (hr.mono (by decide)) hgd tk (fun _ _ _ _ _ _ _ _ us ws h1 h2 => match us, ws, h1, h2 with | [_, _], [], _, _ => rfl) (by rfl) (pma_cons (pm_of (pv 0)) (pma_cons (pm_add (pm_mul pm_int (pm_of (pv 6))) pm_int) pma_nil)))) pm_int) pma_nil))))) pa_nil))))))) (cs_one (cs_retown (pv 2))))))
theorem sc__law_bounds : FnScope N__law_bounds ps__law_bounds (defScope HeadT.s__law_bounds) := ⟨rfl, rfl, rfl, by decide +kernel, rfl, by decide +kernel, by decide +kernel⟩
theorem b__law_triangle_right {P : Program} {w : World} {K : PySem.W.Frag} {mg : Str → Option Value} {base : Heap} (h__law_draw : FnX P w K mg base "_law_draw" (defArgs HeadT.s__law_draw) 1 ps__law_draw F__law_draw) (h_best_worth : FnX P w K mg base "best_worth" (defArgs HeadT.s_best_worth) 8 ps_best_worth F_best_worth) (h_corners : FnX P w K mg base "corners" (defArgs HeadT.s_corners) 6 ps_corners F_corners) (h_count_points : FnX P w K mg base "count_points" (defArgs HeadT.s_count_points) 6 ps_count_points F_count_points) (h_least_point : FnX P w K mg base "least_point" (defArgs HeadT.s_least_point) 6 ps_least_point F_least_point) (m_range : mg "range" = none) (m_sum : mg "sum" = none) : BodyOk P w K mg base 8 "_law_triangle_right" (defBody HeadT.s__law_triangle_right) (defScope HeadT.s__law_triangle_right) N__law_triangle_right c__law_triangle_right := by
  intro f cdv A outer s H E En hr hgd
  have nd : N__law_triangle_right.Nodup := by decide +kernel
  have tk : Takes (cxOf (L2.CX P w) P w K mg base N__law_triangle_right "_law_triangle_right" (defScope HeadT.s__law_triangle_right) f cdv A outer s H E) (EX E) := takes_of rfl rfl rfl rfl
  have hp : PassesOwn (model P w) (cxOf (L2.CX P w) P w K mg base N__law_triangle_right "_law_triangle_right" (defScope HeadT.s__law_triangle_right) f cdv A outer s H E).A (cxOf (L2.CX P w) P w K mg base N__law_triangle_right "_law_triangle_right" (defScope HeadT.s__law_triangle_right) f cdv A outer s H E).env (cxOf (L2.CX P w) P w K mg base N__law_triangle_right "_law_triangle_right" (defScope HeadT.s__law_triangle_right) f cdv A outer s H E).xe := passes_of rfl
  delta c__law_triangle_right
  try delta m__law_triangle_right_1
  exact (cs_cons (cs_parT (is := [3, 4]) (n := 2) rfl (by decide) (ps_asg (pe_tup (PMu.pa (pmu_val (pm_add pm_int (pm_fn1 h__law_draw (hr.mono (by decide)) hgd tk (fun _ _ _ _ _ _ _ _ us ws h1 h2 => match us, ws, h1, h2 with | [_, _], [], _, _ => rfl) (by rfl) (pma_cons (pm_of (pv 0)) (pma_cons pm_int pma_nil)))) (pmu_val (pm_add pm_int (pm_fn1 h__law_draw (hr.mono (by decide)) hgd tk (fun _ _ _ _ _ _ _ _ us ws h1 h2 => match us, ws, h1, h2 with | [_, _], [], _, _ => rfl) (by rfl) (pma_cons (pm_of (pv 0)) (pma_cons pm_int pma_nil)))) pmu_nil)))) (pg_tup rfl (pgs_cons (pg_name (i := 3) nd rfl (by first | exact Or.inl rfl | exact Or.inr rfl)) (pgs_cons (pg_name (i := 4) nd rfl (by first | exact Or.inl rfl | exact Or.inr rfl)) pgs_nil))))) (cs_cons (cs_set (i := 1) nd rfl (by first | exact Or.inl rfl | exact Or.inr rfl) (PMo.pm (pmo_lst (pma_cons (pm_tup (pma_cons (pm_of (pv 4)) (pma_cons (pm_of (pv 3)) (pma_cons (pm_mul (pm_of (pv 3)) (pm_of (pv 4))) pma_nil)))) (pma_cons (pm_tup (pma_cons (pm_neg pm_int) (pma_cons pm_int (pma_cons pm_int pma_nil)))) (pma_cons (pm_tup (pma_cons pm_int (pma_cons (pm_neg pm_int) (pma_cons pm_int pma_nil)))) pma_nil)))))) (cs_cons (cs_set (i := 2) nd rfl (by first | exact Or.inl rfl | exact Or.inr rfl) (b_sum rfl m_sum (pma_cons (PMo.pm (pmo_lc (own := [("x", 5)]) rfl nd (pmi_range1 (by rfl) m_range (pma_cons (pm_add (pm_of (pv 3)) pm_int) pma_nil)) (blkOk_by (by kernel_rfl)) (fun _ _ _ _ _ => (pg_name (i := 5) nd rfl (by first | exact Or.inl rfl | exact Or.inr rfl))) gok_name (fun _ _ _ _ _ => pmts_nil) (fun _ _ _ _ _ => (pm_add pm_int (pm_div (pm_mul (pm_of (pv 4)) (pm_sub (pm_of (pv 3)) (pm_of (pv 5)))) (pm_of (pv 3))))))) pma_nil))) (cs_cons (cs_if (PMw.pt (pmw_or (pmt_ne (un_of hr) (pm_fn1 h_count_points (hr.mono (by decide)) hgd tk (fun _ _ _ _ _ _ _ _ us ws h1 h2 => match us, ws, h1, h2 with | [_], [], _, _ => rfl) (by rfl) (pma_cons (pm_of (pv 1)) pma_nil)) (pm_of (pv 2))) (pmw_or1 (pmt_ne (un_of hr) (pm_fn1 h_least_point (hr.mono (by decide)) hgd tk (fun _ _ _ _ _ _ _ _ us ws h1 h2 => match us, ws, h1, h2 with | [_], [], _, _ => rfl) (by rfl) (pma_cons (pm_of (pv 1)) pma_nil)) (pm_tup (pma_cons pm_int (pma_cons pm_int pma_nil))))))) (cs_one (cs_ret pm_bl)) cs_nil) (cs_cons (cs_if (PMw.pt (pmw_or (pmt_ne (un_of hr) (pm_fn1 h_best_worth (hr.mono (by decide)) hgd tk (fun _ _ _ _ _ _ _ _ us ws h1 h2 => match us, ws, h1, h2 with | [_, _], [], _, _ => rfl) (by rfl) (pma_cons (pm_of (pv 1)) (pma_cons (pm_tup (pma_cons pm_int (pma_cons pm_int pma_nil))) pma_nil))) (pm_of (pv 3))) (pmw_or1 (pmt_ne (un_of hr) (pm_fnk0 (ks := ["bounds", "wish"]) h_best_worth (hr.mono (by decide)) hgd tk (fun _ _ _ _ _ _ _ _ us ws h1 h2 => match us, ws, h1, h2 with | [], [_, _], _, _ => rfl) (by rfl) (pmk_cons (pm_of (pv 1)) (pmk_cons (pm_tup (pma_cons pm_int (pma_cons pm_int pma_nil))) pmk_nil))) (pm_of (pv 4)))))) (cs_one (cs_ret pm_bl)) cs_nil) (cs_one (cs_ret (pm_eq (un_of hr) (pm_fn1 h_corners (hr.mono (by decide)) hgd tk (fun _ _ _ _ _ _ _ _ us ws h1 h2 => match us, ws, h1, h2 with | [_], [], _, _ => rfl) (by rfl) (pma_cons (pm_of (pv 1)) pma_nil)) (PMo.pm (pmo_lst (pma_cons (pm_tup (pma_cons pm_int (pma_cons pm_int pma_nil))) (pma_cons (pm_tup (pma_cons (pm_of (pv 3)) (pma_cons pm_int pma_nil))) (pma_cons (pm_tup (pma_cons pm_int (pma_cons (pm_of (pv 4)) pma_nil))) pma_nil)))))))))))))
theorem sc__law_triangle_right : FnScope N__law_triangle_right ps__law_triangle_right (defScope HeadT.s__law_triangle_right) := ⟨rfl, rfl, rfl, by decide +kernel, rfl, by decide +kernel, by decide +kernel⟩
theorem b__law_right {P : Program} {w : World} {K : PySem.W.Frag} {mg : Str → Option Value} {base : Heap} (h__law_bounds : FnX P w K mg base "_law_bounds" (defArgs HeadT.s__law_bounds) 3 ps__law_bounds F__law_bounds) (h__law_draw : FnX P w K mg base "_law_draw" (defArgs HeadT.s__law_draw) 1 ps__law_draw F__law_draw) (h__law_triangle_right : FnX P w K mg base "_law_triangle_right" (defArgs HeadT.s__law_triangle_right) 9 ps__law_triangle_right F__law_triangle_right) (h_best_worth : FnX P w K mg base "best_worth" (defArgs HeadT.s_best_worth) 8 ps_best_worth F_best_worth) (h_corners : FnX P w K mg base "corners" (defArgs HeadT.s_corners) 6 ps_corners F_corners) (h_count_points : FnX P w K mg base "count_points" (defArgs HeadT.s_count_points) 6 ps_count_points F_count_points) (h_few_bar : FnX P w K mg base "few_bar" (defArgs HeadT.s_few_bar) 6 ps_few_bar F_few_bar) (h_is_within_bounds : FnX P w K mg base "is_within_bounds" (defArgs HeadT.s_is_within_bounds) 6 ps_is_within_bounds F_is_within_bounds) (h_least_point : FnX P w K mg base "least_point" (defArgs HeadT.s_least_point) 6 ps_least_point F_least_point) (m_sorted : mg "sorted" = none) : BodyOk P w K mg base 9 "_law_right" (defBody HeadT.s__law_right) (defScope HeadT.s__law_right) N__law_right c__law_right := by
  intro f cdv A outer s H E En hr hgd
  have nd : N__law_right.Nodup := by decide +kernel
  have tk : Takes (cxOf (L2.CX P w) P w K mg base N__law_right "_law_right" (defScope HeadT.s__law_right) f cdv A outer s H E) (EX E) := takes_of rfl rfl rfl rfl
  have hp : PassesOwn (model P w) (cxOf (L2.CX P w) P w K mg base N__law_right "_law_right" (defScope HeadT.s__law_right) f cdv A outer s H E).A (cxOf (L2.CX P w) P w K mg base N__law_right "_law_right" (defScope HeadT.s__law_right) f cdv A outer s H E).env (cxOf (L2.CX P w) P w K mg base N__law_right "_law_right" (defScope HeadT.s__law_right) f cdv A outer s H E).xe := passes_of rfl
  delta c__law_right
  try delta m__law_right_4
  try delta m__law_right_3
  try delta m__law_right_2
  try delta m__law_right_1
  exact (cs_cons (cs_par (ps_par (i := 4) (j := 5) rfl nd rfl rfl (by decide) rfl rfl (PMu.pa (pmu_val (pm_fn1 h__law_bounds (hr.mono (by decide)) hgd tk (fun _ _ _ _ _ _ _ _ us ws h1 h2 => match us, ws, h1, h2 with | [_, _], [], _, _ => rfl) (by rfl) (pma_cons (pm_of (pv 0)) (pma_cons pm_int pma_nil))) (pmu_val (pm_tup (pma_cons (pm_sub (pm_fn1 h__law_draw (hr.mono (by decide)) hgd tk (fun _ _ _ _ _ _ _ _ us ws h1 h2 => match us, ws, h1, h2 with | [_, _], [], _, _ => rfl) (by rfl) (pma_cons (pm_of (pv 0)) (pma_cons pm_int pma_nil))) pm_int) (pma_cons (pm_sub (pm_fn1 h__law_draw (hr.mono (by decide)) hgd tk (fun _ _ _ _ _ _ _ _ us ws h1 h2 => match us, ws, h1, h2 with | [_, _], [], _, _ => rfl) (by rfl) (pma_cons (pm_of (pv 0)) (pma_cons pm_int pma_nil))) pm_int) pma_nil))) pmu_nil))) rfl)) (cs_cons (cs_par (ps_par (i := 6) (j := 7) rfl nd rfl rfl (by decide) rfl rfl (PMu.pa (pmu_val (pm_fn1 h_count_points (hr.mono (by decide)) hgd tk (fun _ _ _ _ _ _ _ _ us ws h1 h2 => match us, ws, h1, h2 with | [_], [], _, _ => rfl) (by rfl) (pma_cons (pm_of (pv 4)) pma_nil)) (pmu_val (pm_fn1 h_corners (hr.mono (by decide)) hgd tk (fun _ _ _ _ _ _ _ _ us ws h1 h2 => match us, ws, h1, h2 with | [_], [], _, _ => rfl) (by rfl) (pma_cons (pm_of (pv 4)) pma_nil)) pmu_nil))) rfl)) (cs_cons (cs_lcv (cs_setlc_gen (i := 1) (own := [("a", 10), ("b", 11), ("c", 12)]) rfl nd rfl rfl (sw_true rfl rfl rfl (by decide +kernel)) (pmi_seq (pm_of (pv 4))) (blkOk_by (by kernel_rfl)) (fun _ _ _ _ _ => (pg_tup rfl (pgs_cons (pg_name (i := 10) nd rfl (by first | exact Or.inl rfl | exact Or.inr rfl)) (pgs_cons (pg_name (i := 11) nd rfl (by first | exact Or.inl rfl | exact Or.inr rfl)) (pgs_cons (pg_name (i := 12) nd rfl (by first | exact Or.inl rfl | exact Or.inr rfl)) pgs_nil))))) (gok_tup (gsok_cons gok_name (gsok_cons gok_name (gsok_cons gok_name gsok_nil))) (fs_len_cons (fs_len_cons (fs_len_cons fs_len_nil)))) (fun _ _ _ _ _ => pmts_nil) (fun _ _ _ _ _ => (pm_tup (pma_cons (pm_sub pm_int (pm_of (pv 10))) (pma_cons (pm_of (pv 11)) (pma_cons (pm_of (pv 12)) pma_nil))))))) (cs_cons (cs_lcv (cs_setlc_gen (i := 2) (own := [("a", 10), ("b", 11), ("c", 12)]) rfl nd rfl rfl (sw_true rfl rfl rfl (by decide +kernel)) (pmi_seq (pm_of (pv 4))) (blkOk_by (by kernel_rfl)) (fun _ _ _ _ _ => (pg_tup rfl (pgs_cons (pg_name (i := 10) nd rfl (by first | exact Or.inl rfl | exact Or.inr rfl)) (pgs_cons (pg_name (i := 11) nd rfl (by first | exact Or.inl rfl | exact Or.inr rfl)) (pgs_cons (pg_name (i := 12) nd rfl (by first | exact Or.inl rfl | exact Or.inr rfl)) pgs_nil))))) (gok_tup (gsok_cons gok_name (gsok_cons gok_name (gsok_cons gok_name gsok_nil))) (fs_len_cons (fs_len_cons (fs_len_cons fs_len_nil)))) (fun _ _ _ _ _ => pmts_nil) (fun _ _ _ _ _ => (pm_tup (pma_cons (pm_of (pv 11)) (pma_cons (pm_of (pv 10)) (pma_cons (pm_of (pv 12)) pma_nil))))))) (cs_cons (cs_if (pmt_ne (un_of hr) (PMo.pm (pmo_lst (pma_cons (pm_fn1 h_count_points (hr.mono (by decide)) hgd tk (fun _ _ _ _ _ _ _ _ us ws h1 h2 => match us, ws, h1, h2 with | [_], [], _, _ => rfl) (by rfl) (pma_cons (pm_of (pv 1)) pma_nil)) (pma_cons (pm_fn1 h_count_points (hr.mono (by decide)) hgd tk (fun _ _ _ _ _ _ _ _ us ws h1 h2 => match us, ws, h1, h2 with | [_], [], _, _ => rfl) (by rfl) (pma_cons (pm_of (pv 2)) pma_nil)) (pma_cons (pm_fn1 h_count_points (hr.mono (by decide)) hgd tk (fun _ _ _ _ _ _ _ _ us ws h1 h2 => match us, ws, h1, h2 with | [_], [], _, _ => rfl) (by rfl) (pma_cons (PMo.pm (pmo_rev (pm_of (pv 4)))) pma_nil)) pma_nil))))) (pm_mul (PMo.pm (pmo_lst (pma_cons (pm_of (pv 6)) pma_nil))) pm_int)) (cs_one (cs_ret pm_bl)) cs_nil) (cs_cons (cs_if (pmt_ne (un_of hr) (PMo.pm (b_sortP m_sorted (pma_cons (pm_fn1 h_corners (hr.mono (by decide)) hgd tk (fun _ _ _ _ _ _ _ _ us ws h1 h2 => match us, ws, h1, h2 with | [_], [], _, _ => rfl) (by rfl) (pma_cons (pm_of (pv 1)) pma_nil)) pma_nil))) (PMo.pm (b_sortP m_sorted (pma_cons (PMo.pm (pmo_lc (own := [("x", 13), ("y", 14)]) rfl nd (pmi_seq (pm_of (pv 7))) (blkOk_by (by kernel_rfl)) (fun _ _ _ _ _ => (pg_tup rfl (pgs_cons (pg_name (i := 13) nd rfl (by first | exact Or.inl rfl | exact Or.inr rfl)) (pgs_cons (pg_name (i := 14) nd rfl (by first | exact Or.inl rfl | exact Or.inr rfl)) pgs_nil)))) (gok_tup (gsok_cons gok_name (gsok_cons gok_name gsok_nil)) (fs_len_cons (fs_len_cons fs_len_nil))) (fun _ _ _ _ _ => pmts_nil) (fun _ _ _ _ _ => (pm_tup (pma_cons (pm_sub pm_int (pm_of (pv 13))) (pma_cons (pm_of (pv 14)) pma_nil)))))) pma_nil)))) (cs_one (cs_ret pm_bl)) cs_nil) (cs_cons (cs_if (pmt_ne (un_of hr) (PMo.pm (b_sortP m_sorted (pma_cons (pm_fn1 h_corners (hr.mono (by decide)) hgd tk (fun _ _ _ _ _ _ _ _ us ws h1 h2 => match us, ws, h1, h2 with | [_], [], _, _ => rfl) (by rfl) (pma_cons (pm_of (pv 2)) pma_nil)) pma_nil))) (PMo.pm (b_sortP m_sorted (pma_cons (PMo.pm (pmo_lc (own := [("x", 13), ("y", 14)]) rfl nd (pmi_seq (pm_of (pv 7))) (blkOk_by (by kernel_rfl)) (fun _ _ _ _ _ => (pg_tup rfl (pgs_cons (pg_name (i := 13) nd rfl (by first | exact Or.inl rfl | exact Or.inr rfl)) (pgs_cons (pg_name (i := 14) nd rfl (by first | exact Or.inl rfl | exact Or.inr rfl)) pgs_nil)))) (gok_tup (gsok_cons gok_name (gsok_cons gok_name gsok_nil)) (fs_len_cons (fs_len_cons fs_len_nil))) (fun _ _ _ _ _ => pmts_nil) (fun _ _ _ _ _ => (pm_tup (pma_cons (pm_of (pv 14)) (pma_cons (pm_of (pv 13)) pma_nil)))))) pma_nil)))) (cs_one (cs_ret pm_bl)) cs_nil) (cs_cons (cs_if (PMw.pt (pmw_or (pmt_ne (un_of hr) (pm_fn1 h_few_bar (hr.mono (by decide)) hgd tk (fun _ _ _ _ _ _ _ _ us ws h1 h2 => match us, ws, h1, h2 with | [_], [], _, _ => rfl) (by rfl) (pma_cons (pm_of (pv 1)) pma_nil)) (pm_fn1 h_few_bar (hr.mono (by decide)) hgd tk (fun _ _ _ _ _ _ _ _ us ws h1 h2 => match us, ws, h1, h2 with | [_], [], _, _ => rfl) (by rfl) (pma_cons (pm_of (pv 4)) pma_nil))) (pmw_or1 (pmt_ne (un_of hr) (pm_fn1 h_few_bar (hr.mono (by decide)) hgd tk (fun _ _ _ _ _ _ _ _ us ws h1 h2 => match us, ws, h1, h2 with | [_], [], _, _ => rfl) (by rfl) (pma_cons (pm_of (pv 2)) pma_nil)) (pm_fn1 h_few_bar (hr.mono (by decide)) hgd tk (fun _ _ _ _ _ _ _ _ us ws h1 h2 => match us, ws, h1, h2 with | [_], [], _, _ => rfl) (by rfl) (pma_cons (pm_of (pv 4)) pma_nil)))))) (cs_one (cs_ret pm_bl)) cs_nil) (cs_cons (cs_if (pmt_gt (pm_of (pv 6)) pm_int) (cs_cons (cs_set (i := 8) nd rfl (by first | exact Or.inl rfl | exact Or.inr rfl) (pm_fn1 h_best_worth (hr.mono (by decide)) hgd tk (fun _ _ _ _ _ _ _ _ us ws h1 h2 => match us, ws, h1, h2 with | [_, _], [], _, _ => rfl) (by rfl) (pma_cons (pm_of (pv 4)) (pma_cons (pm_of (pv 5)) pma_nil)))) (cs_cons (cs_if (PMw.pt (pmw_or (pmt_ne (un_of hr) (pm_fn1 h_best_worth (hr.mono (by decide)) hgd tk (fun _ _ _ _ _ _ _ _ us ws h1 h2 => match us, ws, h1, h2 with | [_, _], [], _, _ => rfl) (by rfl) (pma_cons (pm_of (pv 1)) (pma_cons (pm_tup (pma_cons (pm_sub pm_int (pm_ixd (pm_of (pv 5)) pm_int)) (pma_cons (pm_ixd (pm_of (pv 5)) pm_int) pma_nil))) pma_nil))) (pm_of (pv 8))) (pmw_or1 (pmt_ne (un_of hr) (pm_fn1 h_best_worth (hr.mono (by decide)) hgd tk (fun _ _ _ _ _ _ _ _ us ws h1 h2 => match us, ws, h1, h2 with | [_, _], [], _, _ => rfl) (by rfl) (pma_cons (pm_of (pv 2)) (pma_cons (pm_rev2 (pm_of (pv 5))) pma_nil))) (pm_of (pv 8)))))) (cs_one (cs_ret pm_bl)) cs_nil) (cs_cons (cs_set (i := 9) nd rfl (by first | exact Or.inl rfl | exact Or.inr rfl) (pm_if (pmt_ne (un_of hr) (pm_of (pv 5)) (pm_tup (pma_cons pm_int (pma_cons pm_int pma_nil)))) (pm_add (pm_of (pv 4)) (PMo.pm (pmo_lst (pma_cons (pm_tup (pma_cons (pm_sub pm_int (pm_ixd (pm_of (pv 5)) pm_int)) (pma_cons (pm_sub pm_int (pm_ixd (pm_of (pv 5)) pm_int)) (pma_cons (pm_sub pm_int (pm_of (pv 8))) pma_nil)))) pma_nil)))) (pm_of (pv 4)))) (cs_cons (cs_if (PMw.pt (pmw_or (pmt_ne (un_of hr) (pm_fn1 h_best_worth (hr.mono (by decide)) hgd tk (fun _ _ _ _ _ _ _ _ us ws h1 h2 => match us, ws, h1, h2 with | [_, _], [], _, _ => rfl) (by rfl) (pma_cons (pm_of (pv 9)) (pma_cons (pm_of (pv 5)) pma_nil))) (pm_of (pv 8))) (pmw_or1 (pmt_gt (pm_fn1 h_count_points (hr.mono (by decide)) hgd tk (fun _ _ _ _ _ _ _ _ us ws h1 h2 => match us, ws, h1, h2 with | [_], [], _, _ => rfl) (by rfl) (pma_cons (pm_of (pv 9)) pma_nil)) (pm_of (pv 6)))))) (cs_one (cs_ret pm_bl)) cs_nil) (cs_one (cs_if (pmt_notB (pm_fn1 h_is_within_bounds (hr.mono (by decide)) hgd tk (fun _ _ _ _ _ _ _ _ us ws h1 h2 => match us, ws, h1, h2 with | [_, _], [], _, _ => rfl) (by rfl) (pma_cons (pm_of (pv 9)) (pma_cons (pm_fn1 h_least_point (hr.mono (by decide)) hgd tk (fun _ _ _ _ _ _ _ _ us ws h1 h2 => match us, ws, h1, h2 with | [_], [], _, _ => rfl) (by rfl) (pma_cons (pm_of (pv 9)) pma_nil)) pma_nil))) pm_bl) (cs_one (cs_ret pm_bl)) cs_nil)))))) cs_nil) (cs_cons (cs_set (i := 3) nd rfl (by first | exact Or.inl rfl | exact Or.inr rfl) (pm_add (pm_of (pv 4)) (PMo.pm (pmo_lst (pma_cons (pm_tup (pma_cons (pm_add (pm_fn1 h__law_draw (hr.mono (by decide)) hgd tk (fun _ _ _ _ _ _ _ _ us ws h1 h2 => match us, ws, h1, h2 with | [_, _], [], _, _ => rfl) (by rfl) (pma_cons (pm_of (pv 0)) (pma_cons pm_int pma_nil))) pm_int) (pma_cons (pm_sub (pm_fn1 h__law_draw (hr.mono (by decide)) hgd tk (fun _ _ _ _ _ _ _ _ us ws h1 h2 => match us, ws, h1, h2 with | [_, _], [], _, _ => rfl) (by rfl) (pma_cons (pm_of (pv 0)) (pma_cons pm_int pma_nil))) pm_int) (pma_cons (pm_sub (pm_fn1 h__law_draw (hr.mono (by decide)) hgd tk (fun _ _ _ _ _ _ _ _ us ws h1 h2 => match us, ws, h1, h2 with | [_, _], [], _, _ => rfl) (by rfl) (pma_cons (pm_of (pv 0)) (pma_cons pm_int pma_nil))) pm_int) pma_nil)))) pma_nil))))) (cs_one (cs_ret (pm_and (pm_le (pm_fn1 h_count_points (hr.mono (by decide)) hgd tk (fun _ _ _ _ _ _ _ _ us ws h1 h2 => match us, ws, h1, h2 with | [_], [], _, _ => rfl) (by rfl) (pma_cons (pm_of (pv 3)) pma_nil)) (pm_of (pv 6))) (pm_one (pm_fn1 h__law_triangle_right (hr.mono (by decide)) hgd tk (fun _ _ _ _ _ _ _ _ us ws h1 h2 => match us, ws, h1, h2 with | [_], [], _, _ => rfl) (by rfl) (pma_cons (pm_of (pv 0)) pma_nil))))))))))))))))
theorem sc__law_right : FnScope N__law_right ps__law_right (defScope HeadT.s__law_right) := ⟨rfl, rfl, rfl, by decide +kernel, rfl, by decide +kernel, by decide +kernel⟩
theorem b_law {P : Program} {w : World} {K : PySem.W.Frag} {mg : Str → Option Value} {base : Heap} (h__law_pot : FnX P w K mg base "_law_pot" (defArgs HeadT.s__law_pot) 1 ps__law_pot F__law_pot) (h__law_right : FnX P w K mg base "_law_right" (defArgs HeadT.s__law_right) 10 ps__law_right F__law_right) (m_all : mg "all" = none) (m_len : mg "len" = none) (m_max : mg "max" = none) (m_min : mg "min" = none) (m_range : mg "range" = none) : BodyOk P w K mg base 10 "law" (defBody HeadT.s_law) (defScope HeadT.s_law) N_law c_law := by
  intro f cdv A outer s H E En hr hgd
  have nd : N_law.Nodup := by decide +kernel
  have tk : Takes (cxOf (L2.CX P w) P w K mg base N_law "law" (defScope HeadT.s_law) f cdv A outer s H E) (EX E) := takes_of rfl rfl rfl rfl
  have hp : PassesOwn (model P w) (cxOf (L2.CX P w) P w K mg base N_law "law" (defScope HeadT.s_law) f cdv A outer s H E).A (cxOf (L2.CX P w) P w K mg base N_law "law" (defScope HeadT.s_law) f cdv A outer s H E).env (cxOf (L2.CX P w) P w K mg base N_law "law" (defScope HeadT.s_law) f cdv A outer s H E).xe := passes_of rfl
  delta c_law
  try delta m_law_1
  exact (cs_one (cs_ret (b_all rfl m_all (pma_cons (PMo.pm (pmo_lc (own := [("k", 1)]) rfl nd (pmi_range1 (by rfl) m_range (pma_cons (b_max2 rfl m_max (pma_cons pm_int (pma_cons (b_min2 rfl m_min (pma_cons pm_int (pma_cons (b_len m_len (pma_cons (pm_of (pv 0)) pma_nil)) pma_nil))) pma_nil))) pma_nil)) (blkOk_by (by kernel_rfl)) (fun _ _ _ _ _ => (pg_name (i := 1) nd rfl (by first | exact Or.inl rfl | exact Or.inr rfl))) gok_name (fun _ _ _ _ _ => pmts_nil) (fun _ _ _ _ _ => (pm_fn1 h__law_right (hr.mono (by decide)) hgd takes_w0 (fun _ _ _ _ _ _ _ _ us ws h1 h2 => match us, ws, h1, h2 with | [_], [], _, _ => rfl) (by rfl) (pma_cons (pm_fn1 h__law_pot (hr.mono (by decide)) hgd takes_w0 (fun _ _ _ _ _ _ _ _ us ws h1 h2 => match us, ws, h1, h2 with | [_, _], [], _, _ => rfl) (by rfl) (pma_cons (pm_of (pv 0)) (pma_cons (pm_of (pv 1)) pma_nil))) pma_nil))))) pma_nil))))
theorem sc_law : FnScope N_law ps_law (defScope HeadT.s_law) := ⟨rfl, rfl, rfl, by decide +kernel, rfl, by decide +kernel, by decide +kernel⟩
abbrev lawParams : Arguments := defArgs HeadT.s_law
theorem facts {P : Program} {w : World} {K : PySem.W.Frag} {base : Heap} {mg : Str → Option Value} (KX : K.In base) (G : base.Ns mainGlobals mg) (c : He.SaysD HeadT.fa HeadT.fn K) : FnX P w K mg base "law" (defArgs HeadT.s_law) 11 ps_law F_law := by
  have m_abs : mg "abs" = none := He.free_ok KX G (c.fact 36 (f := .free "abs") rfl)
  have m_all : mg "all" = none := He.free_ok KX G (c.fact 37 (f := .free "all") rfl)
  have m_any : mg "any" = none := He.free_ok KX G (c.fact 38 (f := .free "any") rfl)
  have m_bool : mg "bool" = none := He.free_ok KX G (c.fact 39 (f := .free "bool") rfl)
  have m_divmod : mg "divmod" = none := He.free_ok KX G (c.fact 40 (f := .free "divmod") rfl)
  have m_int : mg "int" = none := He.free_ok KX G (c.fact 41 (f := .free "int") rfl)
  have m_isinstance : mg "isinstance" = none := He.free_ok KX G (c.fact 42 (f := .free "isinstance") rfl)
  have m_len : mg "len" = none := He.free_ok KX G (c.fact 43 (f := .free "len") rfl)
  have m_list : mg "list" = none := He.free_ok KX G (c.fact 44 (f := .free "list") rfl)
  have m_max : mg "max" = none := He.free_ok KX G (c.fact 45 (f := .free "max") rfl)
  have m_min : mg "min" = none := He.free_ok KX G (c.fact 46 (f := .free "min") rfl)
  have m_range : mg "range" = none := He.free_ok KX G (c.fact 47 (f := .free "range") rfl)
  have m_sorted : mg "sorted" = none := He.free_ok KX G (c.fact 48 (f := .free "sorted") rfl)
  have m_sum : mg "sum" = none := He.free_ok KX G (c.fact 49 (f := .free "sum") rfl)
  have m_tuple : mg "tuple" = none := He.free_ok KX G (c.fact 50 (f := .free "tuple") rfl)
  have m_MOST_BOUNDS : ∃ t, mg "MOST_BOUNDS" = some (.int 8 t) := He.int_ok KX G (c.fact 51 (f := .int "MOST_BOUNDS" 8) rfl)
  have m_MOST_FACTOR : ∃ t, mg "MOST_FACTOR" = some (.int 99 t) := He.int_ok KX G (c.fact 52 (f := .int "MOST_FACTOR" 99) rfl)
  have m_MOST_BOUND : ∃ t, mg "MOST_BOUND" = some (.int 999 t) := He.int_ok KX G (c.fact 53 (f := .int "MOST_BOUND" 999) rfl)
  have m_MOST_PLACE : ∃ t, mg "MOST_PLACE" = some (.int 20 t) := He.int_ok KX G (c.fact 54 (f := .int "MOST_PLACE" 20) rfl)
  have m_FEW : ∃ t, mg "FEW" = some (.int 4 t) := He.int_ok KX G (c.fact 55 (f := .int "FEW" 4) rfl)
  obtain ⟨fd_is_integer, D_is_integer⟩ := c.def_ 0 (d := HeadT.d_is_integer) rfl
  have h_is_integer : FnX P w K mg base "is_integer" (defArgs HeadT.s_is_integer) 1 ps_is_integer F_is_integer := fnx D_is_integer (He.glo_ok KX G (c.fact 0 (f := .glo "is_integer") rfl)) sc_is_integer (b_is_integer m_bool m_int m_isinstance)
  obtain ⟨fd_is_within, D_is_within⟩ := c.def_ 1 (d := HeadT.d_is_within) rfl
  have h_is_within : FnX P w K mg base "is_within" (defArgs HeadT.s_is_within) 2 ps_is_within F_is_within := fnx D_is_within (He.glo_ok KX G (c.fact 1 (f := .glo "is_within") rfl)) sc_is_within (b_is_within h_is_integer)
  obtain ⟨fd_is_list, D_is_list⟩ := c.def_ 2 (d := HeadT.d_is_list) rfl
  have h_is_list : FnX P w K mg base "is_list" (defArgs HeadT.s_is_list) 1 ps_is_list F_is_list := fnx D_is_list (He.glo_ok KX G (c.fact 2 (f := .glo "is_list") rfl)) sc_is_list (b_is_list m_isinstance m_list m_tuple)
  obtain ⟨fd_picks_of, D_picks_of⟩ := c.def_ 3 (d := HeadT.d_picks_of) rfl
  have h_picks_of : FnX P w K mg base "picks_of" (defArgs HeadT.s_picks_of) 1 ps_picks_of F_picks_of := fnx D_picks_of (He.glo_ok KX G (c.fact 3 (f := .glo "picks_of") rfl)) sc_picks_of (b_picks_of m_range)
  obtain ⟨fd_is_bound_of, D_is_bound_of⟩ := c.def_ 4 (d := HeadT.d_is_bound_of) rfl
  have h_is_bound_of : FnX P w K mg base "is_bound_of" (defArgs HeadT.s_is_bound_of) 3 ps_is_bound_of F_is_bound_of := fnx D_is_bound_of (He.glo_ok KX G (c.fact 4 (f := .glo "is_bound_of") rfl)) sc_is_bound_of (b_is_bound_of m_MOST_BOUND m_MOST_FACTOR h_is_within m_all m_isinstance m_len m_tuple)
  obtain ⟨fd_are_bounds_of, D_are_bounds_of⟩ := c.def_ 5 (d := HeadT.d_are_bounds_of) rfl
  have h_are_bounds_of : FnX P w K mg base "are_bounds_of" (defArgs HeadT.s_are_bounds_of) 4 ps_are_bounds_of F_are_bounds_of := fnx D_are_bounds_of (He.glo_ok KX G (c.fact 5 (f := .glo "are_bounds_of") rfl)) sc_are_bounds_of (b_are_bounds_of m_MOST_BOUNDS h_is_bound_of h_is_list m_all m_len)
  obtain ⟨fd_check_bounds, D_check_bounds⟩ := c.def_ 6 (d := HeadT.d_check_bounds) rfl
  have h_check_bounds : FnX P w K mg base "check_bounds" (defArgs HeadT.s_check_bounds) 5 ps_check_bounds F_check_bounds := fnx D_check_bounds (He.glo_ok KX G (c.fact 6 (f := .glo "check_bounds") rfl)) sc_check_bounds (b_check_bounds h_are_bounds_of)
  obtain ⟨fd_is_point_of, D_is_point_of⟩ := c.def_ 7 (d := HeadT.d_is_point_of) rfl
  have h_is_point_of : FnX P w K mg base "is_point_of" (defArgs HeadT.s_is_point_of) 3 ps_is_point_of F_is_point_of := fnx D_is_point_of (He.glo_ok KX G (c.fact 7 (f := .glo "is_point_of") rfl)) sc_is_point_of (b_is_point_of m_MOST_PLACE h_is_within m_all m_isinstance m_len m_tuple)
  obtain ⟨fd_all_columns, D_all_columns⟩ := c.def_ 8 (d := HeadT.d_all_columns) rfl
  have h_all_columns : FnX P w K mg base "all_columns" (defArgs HeadT.s_all_columns) 1 ps_all_columns F_all_columns := fnx D_all_columns (He.glo_ok KX G (c.fact 8 (f := .glo "all_columns") rfl)) sc_all_columns (b_all_columns m_MOST_PLACE m_list m_range)
  obtain ⟨fd_top_of, D_top_of⟩ := c.def_ 9 (d := HeadT.d_top_of) rfl
  have h_top_of : FnX P w K mg base "top_of" (defArgs HeadT.s_top_of) 1 ps_top_of F_top_of := fnx D_top_of (He.glo_ok KX G (c.fact 9 (f := .glo "top_of") rfl)) sc_top_of (b_top_of)
  obtain ⟨fd_floor_of, D_floor_of⟩ := c.def_ 10 (d := HeadT.d_floor_of) rfl
  have h_floor_of : FnX P w K mg base "floor_of" (defArgs HeadT.s_floor_of) 1 ps_floor_of F_floor_of := fnx D_floor_of (He.glo_ok KX G (c.fact 10 (f := .glo "floor_of") rfl)) sc_floor_of (b_floor_of)
  obtain ⟨fd_is_out_at, D_is_out_at⟩ := c.def_ 11 (d := HeadT.d_is_out_at) rfl
  have h_is_out_at : FnX P w K mg base "is_out_at" (defArgs HeadT.s_is_out_at) 2 ps_is_out_at F_is_out_at := fnx D_is_out_at (He.glo_ok KX G (c.fact 11 (f := .glo "is_out_at") rfl)) sc_is_out_at (b_is_out_at m_MOST_PLACE h_floor_of h_top_of)
  obtain ⟨fd_span_at, D_span_at⟩ := c.def_ 12 (d := HeadT.d_span_at) rfl
  have h_span_at : FnX P w K mg base "span_at" (defArgs HeadT.s_span_at) 2 ps_span_at F_span_at := fnx D_span_at (He.glo_ok KX G (c.fact 12 (f := .glo "span_at") rfl)) sc_span_at (b_span_at m_MOST_PLACE h_floor_of h_top_of m_max m_min)
  obtain ⟨fd_points_at, D_points_at⟩ := c.def_ 13 (d := HeadT.d_points_at) rfl
  have h_points_at : FnX P w K mg base "points_at" (defArgs HeadT.s_points_at) 3 ps_points_at F_points_at := fnx D_points_at (He.glo_ok KX G (c.fact 13 (f := .glo "points_at") rfl)) sc_points_at (b_points_at h_is_out_at h_span_at m_any m_range)
  obtain ⟨fd_points_of, D_points_of⟩ := c.def_ 14 (d := HeadT.d_points_of) rfl
  have h_points_of : FnX P w K mg base "points_of" (defArgs HeadT.s_points_of) 4 ps_points_of F_points_of := fnx D_points_of (He.glo_ok KX G (c.fact 14 (f := .glo "points_of") rfl)) sc_points_of (b_points_of h_all_columns h_points_at)
  obtain ⟨fd_have_none, D_have_none⟩ := c.def_ 15 (d := HeadT.d_have_none) rfl
  have h_have_none : FnX P w K mg base "have_none" (defArgs HeadT.s_have_none) 5 ps_have_none F_have_none := fnx D_have_none (He.glo_ok KX G (c.fact 15 (f := .glo "have_none") rfl)) sc_have_none (b_have_none h_points_of)
  obtain ⟨fd_is_within_bounds, D_is_within_bounds⟩ := c.def_ 16 (d := HeadT.d_is_within_bounds) rfl
  have h_is_within_bounds : FnX P w K mg base "is_within_bounds" (defArgs HeadT.s_is_within_bounds) 6 ps_is_within_bounds F_is_within_bounds := fnx D_is_within_bounds (He.glo_ok KX G (c.fact 16 (f := .glo "is_within_bounds") rfl)) sc_is_within_bounds (b_is_within_bounds h_check_bounds h_is_point_of m_all)
  obtain ⟨fd_least_point, D_least_point⟩ := c.def_ 17 (d := HeadT.d_least_point) rfl
  have h_least_point : FnX P w K mg base "least_point" (defArgs HeadT.s_least_point) 6 ps_least_point F_least_point := fnx D_least_point (He.glo_ok KX G (c.fact 17 (f := .glo "least_point") rfl)) sc_least_point (b_least_point h_check_bounds h_points_of)
  obtain ⟨fd_count_points, D_count_points⟩ := c.def_ 18 (d := HeadT.d_count_points) rfl
  have h_count_points : FnX P w K mg base "count_points" (defArgs HeadT.s_count_points) 6 ps_count_points F_count_points := fnx D_count_points (He.glo_ok KX G (c.fact 18 (f := .glo "count_points") rfl)) sc_count_points (b_count_points h_check_bounds h_points_of m_len)
  obtain ⟨fd_few_bar, D_few_bar⟩ := c.def_ 19 (d := HeadT.d_few_bar) rfl
  have h_few_bar : FnX P w K mg base "few_bar" (defArgs HeadT.s_few_bar) 6 ps_few_bar F_few_bar := fnx D_few_bar (He.glo_ok KX G (c.fact 19 (f := .glo "few_bar") rfl)) sc_few_bar (b_few_bar m_FEW h_check_bounds h_have_none h_picks_of m_len m_min m_range)
  obtain ⟨fd_check_wish, D_check_wish⟩ := c.def_ 20 (d := HeadT.d_check_wish) rfl
  have h_check_wish : FnX P w K mg base "check_wish" (defArgs HeadT.s_check_wish) 6 ps_check_wish F_check_wish := fnx D_check_wish (He.glo_ok KX G (c.fact 20 (f := .glo "check_wish") rfl)) sc_check_wish (b_check_wish m_MOST_FACTOR h_check_bounds h_is_within m_all m_isinstance m_len m_tuple)
  obtain ⟨fd_want_points, D_want_points⟩ := c.def_ 21 (d := HeadT.d_want_points) rfl
  have h_want_points : FnX P w K mg base "want_points" (defArgs HeadT.s_want_points) 7 ps_want_points F_want_points := fnx D_want_points (He.glo_ok KX G (c.fact 21 (f := .glo "want_points") rfl)) sc_want_points (b_want_points h_check_wish h_points_of)
  obtain ⟨fd_worth_at, D_worth_at⟩ := c.def_ 22 (d := HeadT.d_worth_at) rfl
  have h_worth_at : FnX P w K mg base "worth_at" (defArgs HeadT.s_worth_at) 1 ps_worth_at F_worth_at := fnx D_worth_at (He.glo_ok KX G (c.fact 22 (f := .glo "worth_at") rfl)) sc_worth_at (b_worth_at)
  obtain ⟨fd_best_of, D_best_of⟩ := c.def_ 23 (d := HeadT.d_best_of) rfl
  have h_best_of : FnX P w K mg base "best_of" (defArgs HeadT.s_best_of) 2 ps_best_of F_best_of := fnx D_best_of (He.glo_ok KX G (c.fact 23 (f := .glo "best_of") rfl)) sc_best_of (b_best_of h_worth_at m_max)
  obtain ⟨fd_turn_at, D_turn_at⟩ := c.def_ 24 (d := HeadT.d_turn_at) rfl
  have h_turn_at : FnX P w K mg base "turn_at" (defArgs HeadT.s_turn_at) 1 ps_turn_at F_turn_at := fnx D_turn_at (He.glo_ok KX G (c.fact 24 (f := .glo "turn_at") rfl)) sc_turn_at (b_turn_at)
  obtain ⟨fd_half_hull, D_half_hull⟩ := c.def_ 25 (d := HeadT.d_half_hull) rfl
  have h_half_hull : FnX P w K mg base "half_hull" (defArgs HeadT.s_half_hull) 2 ps_half_hull F_half_hull := fnx D_half_hull (He.glo_ok KX G (c.fact 25 (f := .glo "half_hull") rfl)) sc_half_hull (b_half_hull h_turn_at m_len)
  obtain ⟨fd_corners_of, D_corners_of⟩ := c.def_ 26 (d := HeadT.d_corners_of) rfl
  have h_corners_of : FnX P w K mg base "corners_of" (defArgs HeadT.s_corners_of) 3 ps_corners_of F_corners_of := fnx D_corners_of (He.glo_ok KX G (c.fact 26 (f := .glo "corners_of") rfl)) sc_corners_of (b_corners_of h_half_hull m_len)
  have h_o_corners_of : FnXo P w K mg base "corners_of" (defArgs HeadT.s_corners_of) 3 ps_corners_of G_corners_of := fnxo D_corners_of (He.glo_ok KX G (c.fact 26 (f := .glo "corners_of") rfl)) sc_corners_of rfl (b_o_corners_of h_half_hull m_len)
  obtain ⟨fd_best_worth, D_best_worth⟩ := c.def_ 27 (d := HeadT.d_best_worth) rfl
  have h_best_worth : FnX P w K mg base "best_worth" (defArgs HeadT.s_best_worth) 8 ps_best_worth F_best_worth := fnx D_best_worth (He.glo_ok KX G (c.fact 27 (f := .glo "best_worth") rfl)) sc_best_worth (b_best_worth h_best_of h_want_points h_worth_at)
  obtain ⟨fd_corners, D_corners⟩ := c.def_ 28 (d := HeadT.d_corners) rfl
  have h_corners : FnX P w K mg base "corners" (defArgs HeadT.s_corners) 6 ps_corners F_corners := fnx D_corners (He.glo_ok KX G (c.fact 28 (f := .glo "corners") rfl)) sc_corners (b_corners h_check_bounds h_points_of h_o_corners_of)
  obtain ⟨fd__law_pot, D__law_pot⟩ := c.def_ 29 (d := HeadT.d__law_pot) rfl
  have h__law_pot : FnX P w K mg base "_law_pot" (defArgs HeadT.s__law_pot) 1 ps__law_pot F__law_pot := fnx D__law_pot (He.glo_ok KX G (c.fact 29 (f := .glo "_law_pot") rfl)) sc__law_pot (b__law_pot m_abs m_int m_len m_max)
  obtain ⟨fd__law_draw, D__law_draw⟩ := c.def_ 30 (d := HeadT.d__law_draw) rfl
  have h__law_draw : FnX P w K mg base "_law_draw" (defArgs HeadT.s__law_draw) 1 ps__law_draw F__law_draw := fnx D__law_draw (He.glo_ok KX G (c.fact 30 (f := .glo "_law_draw") rfl)) sc__law_draw (b__law_draw m_divmod m_int)
  obtain ⟨fd__law_pick, D__law_pick⟩ := c.def_ 31 (d := HeadT.d__law_pick) rfl
  have h__law_pick : FnX P w K mg base "_law_pick" (defArgs HeadT.s__law_pick) 2 ps__law_pick F__law_pick := fnx D__law_pick (He.glo_ok KX G (c.fact 31 (f := .glo "_law_pick") rfl)) sc__law_pick (b__law_pick h__law_draw m_len)
  obtain ⟨fd__law_bounds, D__law_bounds⟩ := c.def_ 32 (d := HeadT.d__law_bounds) rfl
  have h__law_bounds : FnX P w K mg base "_law_bounds" (defArgs HeadT.s__law_bounds) 3 ps__law_bounds F__law_bounds := fnx D__law_bounds (He.glo_ok KX G (c.fact 32 (f := .glo "_law_bounds") rfl)) sc__law_bounds (b__law_bounds h__law_draw h__law_pick m_range)
  obtain ⟨fd__law_triangle_right, D__law_triangle_right⟩ := c.def_ 33 (d := HeadT.d__law_triangle_right) rfl
  have h__law_triangle_right : FnX P w K mg base "_law_triangle_right" (defArgs HeadT.s__law_triangle_right) 9 ps__law_triangle_right F__law_triangle_right := fnx D__law_triangle_right (He.glo_ok KX G (c.fact 33 (f := .glo "_law_triangle_right") rfl)) sc__law_triangle_right (b__law_triangle_right h__law_draw h_best_worth h_corners h_count_points h_least_point m_range m_sum)
  obtain ⟨fd__law_right, D__law_right⟩ := c.def_ 34 (d := HeadT.d__law_right) rfl
  have h__law_right : FnX P w K mg base "_law_right" (defArgs HeadT.s__law_right) 10 ps__law_right F__law_right := fnx D__law_right (He.glo_ok KX G (c.fact 34 (f := .glo "_law_right") rfl)) sc__law_right (b__law_right h__law_bounds h__law_draw h__law_triangle_right h_best_worth h_corners h_count_points h_few_bar h_is_within_bounds h_least_point m_sorted)
  obtain ⟨fd_law, D_law⟩ := c.def_ 35 (d := HeadT.d_law) rfl
  have h_law : FnX P w K mg base "law" (defArgs HeadT.s_law) 11 ps_law F_law := fnx D_law (He.glo_ok KX G (c.fact 35 (f := .glo "law") rfl)) sc_law (b_law h__law_pot h__law_right m_all m_len m_max m_min m_range)
  exact h_law
end PF

open PySem PySem.W PySem.Calls PyProof.Rows
theorem PySem.Challenge.cw_wholegrids_k67_whole_bounds_told_otherwi_holds : PySem.Challenge.rw_wholegrids_k67_whole_bounds_told_otherwi.Holds := by
  w_on; o_law
  refine HandSHeadRun.head_any (r := OpenLaw.row PySem.Challenge.rw_wholegrids_k67_whole_bounds_told_otherwi) (q := view (OpenLaw.row PySem.Challenge.rw_wholegrids_k67_whole_bounds_told_otherwi).prog [52]) (H := HeadT.hk) (ob := HeadT.ob) (M := 4000) (loose := HeadT.loose) (d := HandSHeadRun.topDef (OpenLaw.row PySem.Challenge.rw_wholegrids_k67_whole_bounds_told_otherwi).prog 52) (kwd := []) HeadT.ob_eq
    (by kernel_rfl) (fun s => by kernel_rfl) HeadT.run (by kernel_rfl) (by kernel_rfl) (by kernel_rfl) (by rfl) (by first | assumption | decide +kernel) (by decide +kernel) ⟨rfl, rfl, rfl, rfl, rfl, by decide +kernel⟩ ?hw ?hc
  case hw => w_witness2
  case hc =>
    have en : (HandSHeadRun.topDef (OpenLaw.row PySem.Challenge.rw_wholegrids_k67_whole_bounds_told_otherwi).prog 52).name = ("law" : PySem.Str) := by kernel_rfl
    refine PF.law_walk (l := PySem.Challenge.rw_wholegrids_k67_whole_bounds_told_otherwi) (n := 63) (k := 11) (x := "script") (params := PF.lawParams) (G := PF.F_law) rfl (by decide) (by kernel_rfl) ⟨rfl, by decide, by decide⟩ (by rw [en]; exact fun _ _ _ _ _ _ _ _ us ws h1 h2 => match us, ws, h1, h2 with | [_], [], _, _ => rfl) ?F PF.law_ok
    intro w mg fa h Y G hmg0
    obtain ⟨K, KX, c⟩ := Y
    refine ⟨K, KX, fun base KB GB => ?_⟩
    rw [en]
    exact PF.facts KB GB c

