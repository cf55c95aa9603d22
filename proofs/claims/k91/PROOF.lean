import PyProof.Rows.All
import Wide.All
import OpenK.AllK
import Wide.FinOn
import PyProof.EqAt
import PyProof.EqKinds
import PyProof.TupleCall
import HandS.Base
import HandS.Call
import HandS.List
import HandS.Comp
import HandS.Iter
import HandS.Exc
import HandS.Words
import HandS.WordsExc
import HandS.Lambda
import HandS.TupAny
import HandS.Style
import HandS.Deep
import HandS.Conv
import HandS.IsInst
import HandS.Zip
import HandS.WideBits
import HandS.SortInts
import HandS.Defaults
import HandS.Head0
import HandS.Head1
import HandS.Head2
import HandS.HeadEnd
import HandS.HeadHook1
import HandS.HeadHook2
import PyProof.ReprRoads
import PyProof.ReprLen
import PyProof.Rows.ReprOcc
import HandS.More
import HandS.Dict
import KE.KStateDown
import Lean
import HandS.Ends
import PySem.Challenge.RW_wholegrids_k91_whole_logarithms_and_part
set_option Elab.async false
set_option linter.all false
set_option maxRecDepth 100000
set_option maxHeartbeats 0
/-! PF: pure data, a frozen part of the heap, expressions as functions over data. -/
namespace PF
open PySem PySem.Spec PyProof.Rows L2

inductive D where
  | non | bl (b : Bool) | int (i : Int) | str (x : Str) | lst (xs : List D) | tup (xs : List D)
  | scr (ns : List Int) | pot (g : Nat) | emp

structure Pst where
  g : Nat
  a : Int
  b : Int

structure Ex where
  cls : Str
  args : List D

inductive Res (α : Type) where
  | ok (a : α) (p : Pst) | exc (x : Ex) (p : Pst) | stuck

inductive W where
  | val (d : D) | own (xs : List D)

abbrev Sl := List (Option W)
abbrev M (α : Type) := Sl → Pst → Res α

/-! ### values stand for data: F the frozen part of the heap -/
inductive Rep (K : PySem.W.Frag) (F : Hp) (g : Nat) (pa : Option Addr) : V → D → Prop
  | non : Rep K F g pa .non .non
  | bl (b : Bool) : Rep K F g pa (.bl b) (.bl b)
  | int (i : Int) : Rep K F g pa (.int i) (.int i)
  | str (x : Str) : Rep K F g pa (.str x) (.str x)
  | lst {a : Addr} {vs : List V} {ds : List D} : F a = some (.lst vs) → ds.length ≤ sizeLine → vs.length = ds.length → (∀ (i : Nat) v d, vs[i]? = some v → ds[i]? = some d → Rep K F g pa v d) → Rep K F g pa (.ref a) (.lst ds)
  | tup {a : Addr} {vs : List V} {ds : List D} : F a = some (.tup vs) → ds.length ≤ sizeLine → vs.length = ds.length → (∀ (i : Nat) v d, vs[i]? = some v → ds[i]? = some d → Rep K F g pa v d) → Rep K F g pa (.ref a) (.tup ds)
  | scr {a : Addr} {ns : List Int} : SqL K F a (ns.map V.int) → Rep K F g pa (.ref a) (.scr ns)
  | pot {v : V} {k : Nat} : k ≤ g → (k = g → ∃ a, pa = some a ∧ v = .ref a) → Rep K F g pa v (.pot k)
  | emp {a : Addr} : F a = some (.dK []) → Rep K F g pa (.ref a) .emp

def AllR {α β : Type} (R : α → β → Prop) (xs : List α) (ys : List β) : Prop := xs.length = ys.length ∧ ∀ (i : Nat) x y, xs[i]? = some x → ys[i]? = some y → R x y

theorem AllR.nil {α β : Type} {R : α → β → Prop} : AllR R ([] : List α) ([] : List β) := ⟨rfl, fun i x y h => by simp at h⟩
theorem AllR.cons {α β : Type} {R : α → β → Prop} {x : α} {y : β} {xs : List α} {ys : List β} (h : R x y) (t : AllR R xs ys) : AllR R (x :: xs) (y :: ys) :=
  ⟨by simp [t.1], fun i a b ha hb => by
    cases i with
    | zero => simp at ha hb; subst ha hb; exact h
    | succ j => exact t.2 j a b (by simpa using ha) (by simpa using hb)⟩
theorem AllR.head {α β : Type} {R : α → β → Prop} {x : α} {y : β} {xs : List α} {ys : List β} (t : AllR R (x :: xs) (y :: ys)) : R x y := t.2 0 x y rfl rfl
theorem AllR.tail {α β : Type} {R : α → β → Prop} {x : α} {y : β} {xs : List α} {ys : List β} (t : AllR R (x :: xs) (y :: ys)) : AllR R xs ys :=
  ⟨by have := t.1; simpa using this, fun i a b ha hb => t.2 (i + 1) a b (by simpa using ha) (by simpa using hb)⟩
theorem AllR.cases {α β : Type} {R : α → β → Prop} : ∀ {xs : List α} {ys : List β}, AllR R xs ys → (xs = [] ∧ ys = []) ∨ ∃ x y xs' ys', xs = x :: xs' ∧ ys = y :: ys' ∧ R x y ∧ AllR R xs' ys'
  | [], [], _ => .inl ⟨rfl, rfl⟩
  | [], _ :: _, h => by have := h.1; simp at this
  | _ :: _, [], h => by have := h.1; simp at this
  | x :: xs, y :: ys, h => .inr ⟨x, y, xs, ys, rfl, rfl, h.head, h.tail⟩
theorem AllR.append {α β : Type} {R : α → β → Prop} {xs xs' : List α} {ys ys' : List β} (h : AllR R xs ys) (h' : AllR R xs' ys') : AllR R (xs ++ xs') (ys ++ ys') :=
  ⟨by simp [h.1, h'.1], fun i a b ha hb => by
    by_cases hi : i < xs.length
    · rw [List.getElem?_append_left hi] at ha
      rw [List.getElem?_append_left (by rw [← h.1]; exact hi)] at hb
      exact h.2 i a b ha hb
    · rw [List.getElem?_append_right (by omega)] at ha
      rw [List.getElem?_append_right (by rw [← h.1]; omega), ← h.1] at hb
      exact h'.2 _ a b ha hb⟩
theorem AllR.mono {α β : Type} {R R' : α → β → Prop} {xs : List α} {ys : List β} (h : AllR R xs ys) (f : ∀ x y, R x y → R' x y) : AllR R' xs ys := ⟨h.1, fun i a b ha hb => f _ _ (h.2 i a b ha hb)⟩
theorem AllR.get {α β : Type} {R : α → β → Prop} {xs : List α} {ys : List β} (h : AllR R xs ys) {i : Nat} {y : β} (e : ys[i]? = some y) : ∃ x, xs[i]? = some x ∧ R x y := by
  have hi : i < ys.length := (List.getElem?_eq_some_iff.mp e).1
  have hi' : i < xs.length := by rw [h.1]; exact hi
  exact ⟨xs[i], by simp [hi'], h.2 i _ _ (by simp [hi']) e⟩
theorem AllR.get' {α β : Type} {R : α → β → Prop} {xs : List α} {ys : List β} (h : AllR R xs ys) {i : Nat} {x : α} (e : xs[i]? = some x) : ∃ y, ys[i]? = some y ∧ R x y := by
  have hi : i < xs.length := (List.getElem?_eq_some_iff.mp e).1
  have hi' : i < ys.length := by rw [← h.1]; exact hi
  exact ⟨ys[i], by simp [hi'], h.2 i _ _ e (by simp [hi'])⟩
theorem AllR.set {α β : Type} {R : α → β → Prop} {xs : List α} {ys : List β} {x : α} {y : β} (h : AllR R xs ys) (r : R x y) (j : Nat) : AllR R (xs.set j x) (ys.set j y) :=
  ⟨by simp [h.1], fun i a b ha hb => by
    rw [List.getElem?_set] at ha hb
    by_cases e : j = i
    · subst e
      simp only [if_true] at ha hb
      split at ha
      · split at hb
        · cases ha; cases hb; exact r
        · cases hb
      · cases ha
    · rw [if_neg e] at ha hb
      exact h.2 i a b ha hb⟩
theorem AllR.take {α β : Type} {R : α → β → Prop} {xs : List α} {ys : List β} (h : AllR R xs ys) (n : Nat) : AllR R (xs.take n) (ys.take n) :=
  ⟨by simp [h.1], fun i a b ha hb => by
    rw [List.getElem?_take] at ha hb
    split at ha
    · rename_i hi; rw [if_pos hi] at hb; exact h.2 i a b ha hb
    · cases ha⟩
theorem AllR.drop {α β : Type} {R : α → β → Prop} {xs : List α} {ys : List β} (h : AllR R xs ys) (n : Nat) : AllR R (xs.drop n) (ys.drop n) :=
  ⟨by simp [h.1], fun i a b ha hb => by
    rw [List.getElem?_drop] at ha hb
    exact h.2 _ a b ha hb⟩
theorem AllR.reverse {α β : Type} {R : α → β → Prop} {xs : List α} {ys : List β} (h : AllR R xs ys) : AllR R xs.reverse ys.reverse :=
  ⟨by simp [h.1], fun i a b ha hb => by
    have hi : i < xs.reverse.length := (List.getElem?_eq_some_iff.mp ha).1
    have hi2 : i < xs.length := by simpa using hi
    rw [List.getElem?_reverse hi2] at ha
    rw [List.getElem?_reverse (by rw [← h.1]; exact hi2), ← h.1] at hb
    exact h.2 _ a b ha hb⟩

abbrev Reps (K : PySem.W.Frag) (F : Hp) (g : Nat) (pa : Option Addr) : List V → List D → Prop := AllR (Rep K F g pa)

/-- the frozen part and the pot's generation go on -/
structure Fz (F : Hp) (g : Nat) (pa : Option Addr) (F' : Hp) (g' : Nat) (pa' : Option Addr) : Prop where
  sub : ∀ a o, F a = some o → F' a = some o
  gle : g ≤ g'
  same : g = g' → pa' = pa
theorem Fz.refl {F : Hp} {g : Nat} {pa : Option Addr} : Fz F g pa F g pa := ⟨fun _ _ h => h, Nat.le_refl _, fun _ => rfl⟩
theorem Fz.trans {F F1 F2 : Hp} {g g1 g2 : Nat} {pa pa1 pa2 : Option Addr} (a : Fz F g pa F1 g1 pa1) (b : Fz F1 g1 pa1 F2 g2 pa2) : Fz F g pa F2 g2 pa2 :=
  ⟨fun c o h => b.sub c o (a.sub c o h), Nat.le_trans a.gle b.gle, fun e => by
    have h1 := a.gle
    have h2 := b.gle
    rw [b.same (by omega), a.same (by omega)]⟩
theorem sqL_mono {K : PySem.W.Frag} {F F' : Hp} {a : Addr} {xs : List V} (h : ∀ a o, F a = some o → F' a = some o) (s : SqL K F a xs) : SqL K F' a xs := by
  rcases s with (s | ⟨o, s⟩) | s
  · exact .inl (.inl (h _ _ s))
  · exact .inl (.inr ⟨o, h _ _ s⟩)
  · exact .inr s
theorem Rep.mono {K : PySem.W.Frag} {F F' : Hp} {g g' : Nat} {pa pa' : Option Addr} {v : V} {d : D} (r : Rep K F g pa v d) (z : Fz F g pa F' g' pa') : Rep K F' g' pa' v d := by
  induction r with
  | non => exact .non
  | bl b => exact .bl b
  | int i => exact .int i
  | str x => exact .str x
  | lst h hz hl _ ih => exact .lst (z.sub _ _ h) hz hl fun i v d h1 h2 => ih i v d h1 h2
  | tup h hz hl _ ih => exact .tup (z.sub _ _ h) hz hl fun i v d h1 h2 => ih i v d h1 h2
  | scr h => exact .scr (sqL_mono z.sub h)
  | pot h1 h2 =>
    refine .pot (Nat.le_trans h1 z.gle) fun e => ?_
    have h3 := z.gle
    obtain ⟨a, e1, e2⟩ := h2 (by omega)
    exact ⟨a, by rw [z.same (by omega)]; exact e1, e2⟩
  | emp h => exact .emp (z.sub _ _ h)
theorem Reps.mono {K : PySem.W.Frag} {F F' : Hp} {g g' : Nat} {pa pa' : Option Addr} {v : List V} {d : List D} (r : Reps K F g pa v d) (z : Fz F g pa F' g' pa') : Reps K F' g' pa' v d := AllR.mono r fun _ _ h => h.mono z
theorem Rep.lst' {K : PySem.W.Frag} {F : Hp} {g : Nat} {pa : Option Addr} {a : Addr} {vs : List V} {ds : List D} (h : F a = some (.lst vs)) (hz : ds.length ≤ sizeLine) (r : Reps K F g pa vs ds) : Rep K F g pa (.ref a) (.lst ds) := .lst h hz r.1 r.2
theorem Rep.tup' {K : PySem.W.Frag} {F : Hp} {g : Nat} {pa : Option Addr} {a : Addr} {vs : List V} {ds : List D} (h : F a = some (.tup vs)) (hz : ds.length ≤ sizeLine) (r : Reps K F g pa vs ds) : Rep K F g pa (.ref a) (.tup ds) := .tup h hz r.1 r.2
theorem Rep.lst_inv {K : PySem.W.Frag} {F : Hp} {g : Nat} {pa : Option Addr} {v : V} {ds : List D} (r : Rep K F g pa v (.lst ds)) : ∃ a vs, v = .ref a ∧ F a = some (.lst vs) ∧ ds.length ≤ sizeLine ∧ Reps K F g pa vs ds := by
  cases r with
  | lst h hz hl hr => exact ⟨_, _, rfl, h, hz, hl, hr⟩
theorem Rep.tup_inv {K : PySem.W.Frag} {F : Hp} {g : Nat} {pa : Option Addr} {v : V} {ds : List D} (r : Rep K F g pa v (.tup ds)) : ∃ a vs, v = .ref a ∧ F a = some (.tup vs) ∧ ds.length ≤ sizeLine ∧ Reps K F g pa vs ds := by
  cases r with
  | tup h hz hl hr => exact ⟨_, _, rfl, h, hz, hl, hr⟩

/-! ### the state: slots, frozen part, heap, pot -/
/-- what is true of the heap alone -/
structure GS (F H : Hp) (pa : Option Addr) (p : Pst) : Prop where
  sub : ∀ a o, F a = some o → H a = some o
  pot : ∀ a, pa = some a → H a = some (.lst [.int p.a, .int p.b]) ∧ F a = none
def WRep (K : PySem.W.Frag) (F H : Hp) (g : Nat) (pa : Option Addr) (v : V) : W → Prop
  | .val d => Rep K F g pa v d
  | .own xs => ∃ a vs, v = .ref a ∧ H a = some (.lst vs) ∧ F a = none ∧ pa ≠ some a ∧ xs.length ≤ sizeLine ∧ Reps K F g pa vs xs
structure SRel (K : PySem.W.Frag) (F H : Hp) (g : Nat) (pa : Option Addr) (σ : L2.St) (ρ : Sl) : Prop where
  len : ρ.length = σ.length
  rep : ∀ (i : Nat) w, ρ[i]? = some (some w) → ∃ v, σ[i]? = some (some v) ∧ WRep K F H g pa v w
  apart : ∀ (i j : Nat) xs ys v, ρ[i]? = some (some (.own xs)) → ρ[j]? = some (some (.own ys)) → σ[i]? = some (some v) → σ[j]? = some (some v) → i = j
/-- the heap goes on -/
structure Gr (F H : Hp) (g : Nat) (pa : Option Addr) (F' H' : Hp) (g' : Nat) (pa' : Option Addr) : Prop where
  fz : Fz F g pa F' g' pa'
  new : ∀ a o, F' a = some o → F a = some o ∨ H a = none
  keep : ∀ a o, H a = some o → pa ≠ some a → H' a = some o
  there : ∀ a o, H a = some o → ∃ o', H' a = some o'
  pot : pa' = pa ∨ ∃ a, pa' = some a ∧ H a = none
theorem Gr.refl {F H : Hp} {g : Nat} {pa : Option Addr} : Gr F H g pa F H g pa := ⟨.refl, fun _ _ h => .inl h, fun _ _ h _ => h, fun _ o h => ⟨o, h⟩, .inl rfl⟩
theorem Gr.trans {F H F1 H1 F2 H2 : Hp} {g g1 g2 : Nat} {pa pa1 pa2 : Option Addr} (x : Gr F H g pa F1 H1 g1 pa1) (y : Gr F1 H1 g1 pa1 F2 H2 g2 pa2) : Gr F H g pa F2 H2 g2 pa2 := by
  refine ⟨x.fz.trans y.fz, fun a o h => ?_, fun a o h n => ?_, fun a o h => ?_, ?_⟩
  · rcases y.new a o h with h | h
    · exact x.new a o h
    · right
      cases q : H a with
      | none => rfl
      | some u =>
        obtain ⟨o', e⟩ := x.there a u q
        rw [e] at h; cases h
  · refine y.keep a o (x.keep a o h n) fun e => ?_
    rcases x.pot with q | ⟨b, q, hb⟩
    · exact n (by rw [← q]; exact e)
    · rw [q] at e; cases e; rw [h] at hb; cases hb
  · obtain ⟨o1, h1⟩ := x.there a o h
    exact y.there a o1 h1
  · rcases y.pot with q | ⟨b, q, hb⟩
    · rcases x.pot with q' | ⟨c, q', hc⟩
      · exact .inl (q.trans q')
      · exact .inr ⟨c, q.trans q', hc⟩
    · refine .inr ⟨b, q, ?_⟩
      cases e : H b with
      | none => rfl
      | some u =>
        obtain ⟨o', e'⟩ := x.there b u e
        rw [e'] at hb; cases hb
/-- the slots' meaning goes along -/
theorem SRel.grow {K : PySem.W.Frag} {F H F' H' : Hp} {g g' : Nat} {pa pa' : Option Addr} {σ : L2.St} {ρ : Sl} (s : SRel K F H g pa σ ρ) (x : Gr F H g pa F' H' g' pa') : SRel K F' H' g' pa' σ ρ := by
  refine ⟨s.len, fun i w h => ?_, s.apart⟩
  obtain ⟨v, e, r⟩ := s.rep i w h
  refine ⟨v, e, ?_⟩
  cases w with
  | val d => exact Rep.mono r x.fz
  | own xs =>
    obtain ⟨a, vs, e1, e2, e3, e4, e6, e5⟩ := r
    refine ⟨a, vs, e1, x.keep a _ e2 e4, ?_, fun q => ?_, e6, e5.mono x.fz⟩
    · cases q : F' a with
      | none => rfl
      | some o =>
        rcases x.new a o q with z | z
        · rw [e3] at z; cases z
        · rw [e2] at z; cases z
    · rcases x.pot with z | ⟨b, z, hb⟩
      · exact e4 (by rw [← z]; exact q)
      · rw [z] at q; cases q; rw [e2] at hb; cases hb

/-! ### expressions -/
/-- an exception stands for x: its class by the module's name, its own dict -/
def fldNames : Str → List Str := fun c => if c = "TooMany" then ["what", "limit"] else if c = "BadText" then ["place"] else ["value"]
def ExRep (K : PySem.W.Frag) (mg : Str → Option Value) (F : Hp) (g : Nat) (pa : Option Addr) (cls : Value) (d : Option Addr) (x : Ex) : Prop :=
  mg x.cls = some cls ∧ (x.args = [] ∨ ∃ dd vs, d = some dd ∧ F dd = some (.xd ((fldNames x.cls).zip vs)) ∧ Reps K F g pa vs x.args)
/-- what a result leaves, from F, H, g, pa on: P of it, or the wish of an exception -/
def Out {α : Type} (K : PySem.W.Frag) (mg : Str → Option Value) (Wx : WX) (σ : L2.St) (F H : Hp) (g : Nat) (pa : Option Addr) (P : α → Pst → Hp → Hp → Option Addr → Prop) : Res α → Prop
  | .ok a p' => ∀ F' H' pa', Gr F H g pa F' H' p'.g pa' → GS F' H' pa' p' → P a p' F' H' pa'
  | .exc x p' => ∀ cls dd F' H' pa', Gr F H g pa F' H' p'.g pa' → GS F' H' pa' p' → ExRep K mg F' p'.g pa' cls dd x → Wx cls dd σ H'
  | .stuck => False
/-- at some state of the slots ρ, m leaves P -/
def At {α : Type} (K : PySem.W.Frag) (mg : Str → Option Value) (Wx : WX) (m : M α) (σ : L2.St) (H : Hp) (P : Hp → Option Addr → α → Pst → Hp → Hp → Option Addr → Prop) : Prop :=
  ∃ F pa p ρ, GS F H pa p ∧ SRel K F H p.g pa σ ρ ∧ Out K mg Wx σ F H p.g pa (P F pa) (m ρ p)
/-- the reading of an expression by m; Wx: what is wished of an exception -/
def TM (K : PySem.W.Frag) (mg : Str → Option Value) (Wx : WX) (m : M D) : TE := fun σ H Q => At K mg Wx m σ H fun _ _ d p' F' H' pa' => ∀ v, Rep K F' p'.g pa' v d → Q v H'
structure PM (X : Cx) (Wx : WX) (e : Expr) (m : M D) : Prop where
  pe : PE X e (TM X.K X.mg Wx m)
/-- a fresh list -/
def TMo (K : PySem.W.Frag) (mg : Str → Option Value) (Wx : WX) (m : M (List D)) : TE := fun σ H Q => At K mg Wx m σ H fun _ _ ds p' F' H' pa' => ∀ a vs, H a = none → H' a = some (.lst vs) → F' a = none → pa' ≠ some a → ds.length ≤ sizeLine → Reps K F' p'.g pa' vs ds → Q (.ref a) H'
structure PMo (X : Cx) (Wx : WX) (e : Expr) (m : M (List D)) : Prop where
  pe : PE X e (TMo X.K X.mg Wx m)
/-- a test -/
def TMt (K : PySem.W.Frag) (mg : Str → Option Value) (Wx : WX) (m : M Bool) : TT := fun σ H Q => At K mg Wx m σ H fun _ _ b p' F' H' pa' => Q b H'
structure PMt (X : Cx) (Wx : WX) (e : Expr) (m : M Bool) : Prop where
  pt : PT X e (TMt X.K X.mg Wx m)
/-- an argument list -/
def TMa (K : PySem.W.Frag) (mg : Str → Option Value) (Wx : WX) (m : M (List D)) : TA := fun σ H Q => At K mg Wx m σ H fun _ _ ds p' F' H' pa' => ∀ vs, Reps K F' p'.g pa' vs ds → Q vs H'
structure PMa (X : Cx) (Wx : WX) (es : List Expr) (m : M (List D)) : Prop where
  pa : PA X es (TMa X.K X.mg Wx m)

theorem _root_.L2.PE.imp {X : Cx} {e : Expr} {t t' : TE} (h : PE X e t) (f : ∀ σ H Q, t' σ H Q → t σ H Q) : PE X e t' := ⟨fun pins s σ H Q I q => h.run pins s σ H Q I (f σ H Q q)⟩
theorem _root_.L2.PT.imp {X : Cx} {e : Expr} {t t' : TT} (h : PT X e t) (f : ∀ σ H Q, t' σ H Q → t σ H Q) : PT X e t' := ⟨fun pins s σ H Q I q => h.run pins s σ H Q I (f σ H Q q)⟩
theorem _root_.L2.PW.imp {X : Cx} {e : Expr} {t t' : TT} (h : PW X e t) (f : ∀ σ H Q, t' σ H Q → t σ H Q) : PW X e t' := ⟨fun wh pins s σ H Q I q => h.run wh pins s σ H Q I (f σ H Q q)⟩
theorem _root_.L2.PA.imp {X : Cx} {e : List Expr} {t t' : TA} (h : PA X e t) (f : ∀ σ H Q, t' σ H Q → t σ H Q) : PA X e t' := ⟨fun pos pins s σ H Q I q => h.run pos pins s σ H Q I (f σ H Q q)⟩

/-! ### the monad -/
def mret {α : Type} (a : α) : M α := fun _ p => .ok a p
def mbind {α β : Type} (m : M α) (k : α → M β) : M β := fun ρ p => match m ρ p with
  | .ok a p' => k a ρ p'
  | .exc x p' => .exc x p'
  | .stuck => .stuck
def mstuck {α : Type} : M α := fun _ _ => .stuck
def mopt {α : Type} (o : Option α) : M α := fun _ p => match o with
  | some a => .ok a p
  | none => .stuck

section
variable {K : PySem.W.Frag} {mg : Str → Option Value} {Wx : WX} {σ : L2.St} {F H : Hp} {g : Nat} {pa : Option Addr}
theorem Out.bind {α β : Type} {P : β → Pst → Hp → Hp → Option Addr → Prop} {m : M α} {k : α → M β} {ρ : Sl} {p : Pst} (h : Out K mg Wx σ F H g pa P (mbind m k ρ p)) :
    Out K mg Wx σ F H g pa (fun a p' F' H' pa' => Out K mg Wx σ F' H' p'.g pa' P (k a ρ p')) (m ρ p) := by
  unfold mbind at h
  cases e : m ρ p with
  | stuck => rw [e] at h; exact h
  | exc x p' => rw [e] at h; exact h
  | ok a p' =>
    rw [e] at h
    intro F' H' pa' gr gs
    cases e2 : k a ρ p' with
    | stuck => simp only [e2] at h; exact h
    | exc x p2 => simp only [e2] at h; exact fun cls dd F2 H2 pa2 gr2 gs2 r => h cls dd F2 H2 pa2 (gr.trans gr2) gs2 r
    | ok b p2 => simp only [e2] at h; exact fun F2 H2 pa2 gr2 gs2 => h F2 H2 pa2 (gr.trans gr2) gs2
theorem Out.mono {α : Type} {P P' : α → Pst → Hp → Hp → Option Addr → Prop} {r : Res α} (h : Out K mg Wx σ F H g pa P r) (f : ∀ a p' F' H' pa', Gr F H g pa F' H' p'.g pa' → GS F' H' pa' p' → P a p' F' H' pa' → P' a p' F' H' pa') : Out K mg Wx σ F H g pa P' r := by
  cases r with
  | stuck => exact h
  | exc x p' => exact h
  | ok a p' => exact fun F' H' pa' gr gs => f _ _ _ _ _ gr gs (h F' H' pa' gr gs)
theorem Out.ret {α : Type} {P : α → Pst → Hp → Hp → Option Addr → Prop} {a : α} {p : Pst} (h : Out K mg Wx σ F H p.g pa P (.ok a p)) (gs : GS F H pa p) : P a p F H pa := h F H pa .refl gs
theorem Out.opt {α : Type} {P : α → Pst → Hp → Hp → Option Addr → Prop} {o : Option α} {ρ : Sl} {p : Pst} (h : Out K mg Wx σ F H g pa P (mopt o ρ p)) : ∃ a, o = some a ∧ Out K mg Wx σ F H g pa P (.ok a p) := by
  cases o with
  | none => exact h.elim
  | some a => exact ⟨a, rfl, h⟩
end
end PF

namespace PF
open PySem PySem.Spec PyProof.Rows L2

/-! ### new objects -/
section
variable {K : PySem.W.Frag} {F H : Hp} {p : Pst} {pa : Option Addr} {q : Addr} {o : HO}
theorem GS.pne (gs : GS F H pa p) (hq : H q = none) : pa ≠ some q := fun e => by
  obtain ⟨z, _⟩ := gs.pot q e
  rw [hq] at z; cases z
theorem GS.fnone (gs : GS F H pa p) (hq : H q = none) : F q = none := by
  cases e : F q with
  | none => rfl
  | some o => rw [gs.sub _ _ e] at hq; cases hq
/-- a new object that is frozen -/
theorem GS.alloc (gs : GS F H pa p) (hq : H q = none) : GS (upd F q o) (upd H q o) pa p := by
  refine ⟨fun a u h => ?_, fun a e => ?_⟩
  · by_cases ha : a = q
    · subst ha; rw [upd_same] at h ⊢; exact h
    · rw [upd_ne ha] at h ⊢; exact gs.sub a u h
  · have ha : a ≠ q := fun z => gs.pne hq (by rw [← z]; exact e)
    rw [upd_ne ha, upd_ne ha]; exact gs.pot a e
theorem Gr.alloc (gs : GS F H pa p) (hq : H q = none) {g : Nat} : Gr F H g pa (upd F q o) (upd H q o) g pa := by
  refine ⟨⟨fun a u h => ?_, Nat.le_refl _, fun _ => rfl⟩, fun a u h => ?_, fun a u h _ => ?_, fun a u h => ?_, .inl rfl⟩
  · rw [upd_ne fun z => ?_]; exact h
    subst z; rw [gs.fnone hq] at h; cases h
  · by_cases ha : a = q
    · subst ha; exact .inr hq
    · rw [upd_ne ha] at h; exact .inl h
  · rw [upd_ne (ne_of_none h hq)]; exact h
  · exact ⟨u, by rw [upd_ne (ne_of_none h hq)]; exact h⟩
/-- a new object that is not -/
theorem GS.allocO (gs : GS F H pa p) (hq : H q = none) : GS F (upd H q o) pa p := by
  refine ⟨fun a u h => ?_, fun a e => ?_⟩
  · rw [upd_ne fun z => ?_]; exact gs.sub a u h
    subst z; rw [gs.fnone hq] at h; cases h
  · have ha : a ≠ q := fun z => gs.pne hq (by rw [← z]; exact e)
    rw [upd_ne ha]; exact gs.pot a e
theorem Gr.allocO (hq : H q = none) {g : Nat} : Gr F H g pa F (upd H q o) g pa := by
  refine ⟨.refl, fun a u h => .inl h, fun a u h _ => ?_, fun a u h => ?_, .inl rfl⟩
  · rw [upd_ne (ne_of_none h hq)]; exact h
  · exact ⟨u, by rw [upd_ne (ne_of_none h hq)]; exact h⟩
/-- a fresh list is frozen -/
theorem GS.freeze (gs : GS F H pa p) (hH : H q = some o) (hp : pa ≠ some q) : GS (upd F q o) H pa p := by
  refine ⟨fun a u h => ?_, fun a e => ?_⟩
  · by_cases ha : a = q
    · subst ha; rw [upd_same] at h; rw [← h]; exact hH
    · rw [upd_ne ha] at h; exact gs.sub a u h
  · have ha : a ≠ q := fun z => hp (by rw [← z]; exact e)
    rw [upd_ne ha]; exact gs.pot a e
theorem Gr.freeze {F' H' : Hp} {g g' : Nat} {pa' : Option Addr} (x : Gr F H g pa F' H' g' pa') (hq : H q = none) (hF : F' q = none) : Gr F H g pa (upd F' q o) H' g' pa' := by
  refine ⟨⟨fun a u h => ?_, x.fz.gle, x.fz.same⟩, fun a u h => ?_, x.keep, x.there, x.pot⟩
  · have := x.fz.sub a u h
    rw [upd_ne fun z => ?_]; exact this
    subst z; rw [hF] at this; cases this
  · by_cases ha : a = q
    · subst ha; exact .inr hq
    · rw [upd_ne ha] at h; exact x.new a u h
theorem Fz.upd (hF : F q = none) {g : Nat} : Fz F g pa (L2.upd F q o) g pa := by
  refine ⟨fun a u h => ?_, Nat.le_refl _, fun _ => rfl⟩
  rw [upd_ne fun z => ?_]; exact h
  subst z; rw [hF] at h; cases h
end

section
variable {X : Cx} {Wx : WX} {a b c e : Expr} {es : List Expr} {ma mb mc m : M D} {pos : Pos}

/-! ### names, constants -/
def rd (i : Nat) : M D := fun ρ p => match ρ[i]? with
  | some (some (.val d)) => .ok d p
  | _ => .stuck
theorem pm_of {i : Nat} {x : Str} (h : PE X (.Name x pos) (tVar i)) : PM X Wx (.Name x pos) (rd i) := ⟨h.imp fun σ H Q ⟨F, pa, p, ρ, gs, s, o⟩ => by
  unfold rd at o
  cases e : ρ[i]? with
  | none => rw [e] at o; exact o.elim
  | some w =>
    rw [e] at o
    cases w with
    | none => exact o.elim
    | some w =>
      cases w with
      | own xs => exact o.elim
      | val d =>
        obtain ⟨v, h1, r⟩ := s.rep i _ e
        exact ⟨v, h1, o.ret gs v r⟩⟩
theorem pm_const {v : V} {d : D} {e : Expr} (h : PE X e (tC v)) (r : ∀ F g pa, Rep X.K F g pa v d) : PM X Wx e (mret d) := ⟨h.imp fun σ H Q ⟨F, pa, p, ρ, gs, s, o⟩ => Out.ret o gs v (r _ _ _)⟩
theorem pm_int {i j} : PM X Wx (.Constant (.int i) j pos) (mret (.int i)) := pm_const pe_int fun _ _ _ => .int i
theorem pm_bl {i j} : PM X Wx (.Constant (.bool i) j pos) (mret (.bl i)) := pm_const pe_bl fun _ _ _ => .bl i
theorem pm_str {i j} : PM X Wx (.Constant (.str i) j pos) (mret (.str i)) := pm_const pe_str fun _ _ _ => .str i
theorem pm_non {j} : PM X Wx (.Constant .none j pos) (mret .non) := pm_const pe_non fun _ _ _ => .non
theorem pm_gint {x : Str} {i : Int} (hg : Gl X x) (hm : ∃ t, X.mg x = some (.int i t)) (hd : (x == ("__debug__" : Str)) = false := by decide) : PM X Wx (.Name x pos) (mret (.int i)) := by
  obtain ⟨t, e⟩ := hm
  exact pm_const (pe_glob hg e (v := .int i) ⟨t, rfl⟩ hd) fun _ _ _ => .int i
theorem pm_gstr {x : Str} {i : Str} (hg : Gl X x) (hm : ∃ t, X.mg x = some (.str i t)) (hd : (x == ("__debug__" : Str)) = false := by decide) : PM X Wx (.Name x pos) (mret (.str i)) := by
  obtain ⟨t, e⟩ := hm
  exact pm_const (pe_glob hg e (v := .str i) ⟨t, rfl⟩ hd) fun _ _ _ => .str i

/-! ### two in a row -/
theorem TM.of {K : PySem.W.Frag} {mg : Str → Option Value} {σ : L2.St} {F H : Hp} {pa : Option Addr} {p : Pst} {ρ : Sl} {Q : VK} (gs : GS F H pa p) (s : SRel K F H p.g pa σ ρ)
    (h : Out K mg Wx σ F H p.g pa (fun d p' F' H' pa' => SRel K F' H' p'.g pa' σ ρ → ∀ v, Rep K F' p'.g pa' v d → Q v H') (m ρ p)) : TM K mg Wx m σ H Q :=
  ⟨F, pa, p, ρ, gs, s, h.mono fun _ _ _ _ _ gr _ k v r => k (s.grow gr) v r⟩
def OpS (X : Cx) (r : R2) (op : D → D → Option D) : Prop := ∀ (x y : V) (d e z : D) (F H : Hp) (p : Pst) (pa : Option Addr) (Q : VK), GS F H pa p → Rep X.K F p.g pa x d → Rep X.K F p.g pa y e → op d e = some z →
  (∀ v F' H', Gr F H p.g pa F' H' p.g pa → GS F' H' pa p → Rep X.K F' p.g pa v z → Q v H') → r x y H Q
def mOp (op : D → D → Option D) (ma mb : M D) : M D := mbind ma fun x => mbind mb fun y => mopt (op x y)
theorem tm_op {r : R2} {f : D → D → Option D} (hs : OpS X r f) : ∀ σ H Q, TM X.K X.mg Wx (mOp f ma mb) σ H Q → tOp r (TM X.K X.mg Wx ma) (TM X.K X.mg Wx mb) σ H Q := fun σ H Q ⟨F, pa, p, ρ, gs, s, o⟩ => by
  refine TM.of gs s (o.bind.mono fun d p1 F1 H1 pa1 gr1 gs1 o1 s1 v1 r1 => ?_)
  refine TM.of gs1 s1 (o1.bind.mono fun e p2 F2 H2 pa2 gr2 gs2 o2 s2 v2 r2 => ?_)
  obtain ⟨z, ez, o3⟩ := o2.opt
  exact hs v1 v2 d e z F2 H2 p2 pa2 Q gs2 (r1.mono gr2.fz) r2 ez fun v F3 H3 gr3 gs3 r3 => o3 F3 H3 pa2 gr3 gs3 v r3
theorem pm_op {op : Operator} {r : R2} {f : D → D → Option D} (ho : OpR X (binaryOp op) r) (hs : OpS X r f) (ha : PM X Wx a ma) (hb : PM X Wx b mb) : PM X Wx (.BinOp a op b pos) (mOp f ma mb) :=
  ⟨(pe_op ho ha.pe hb.pe).imp (tm_op hs)⟩
theorem OpS.or {r r' : R2} {f f' : D → D → Option D} (h : OpS X r f) (h' : OpS X r' f') : OpS X (fun x y H Q => r x y H Q ∨ r' x y H Q) (fun d e => (f d e).or (f' d e)) := by
  intro x y d e z F H p pa Q gs rx ry ez k
  have ez : (f d e).or (f' d e) = some z := ez
  cases q : f d e with
  | some z' =>
    rw [q] at ez
    have : z' = z := by simpa using ez
    subst this
    exact .inl (h x y d e z' F H p pa Q gs rx ry q k)
  | none =>
    rw [q] at ez
    exact .inr (h' x y d e z F H p pa Q gs rx ry (by simpa using ez) k)
theorem OpS.imp {r : R2} {f f' : D → D → Option D} (h : OpS X r f) (hf : ∀ d e z, f' d e = some z → f d e = some z) : OpS X r f' := fun x y d e z F H p pa Q gs rx ry ez k => h x y d e z F H p pa Q gs rx ry (hf d e z ez) k

/-! ### ints -/
def dI2 (f : Int → Int → Int) : D → D → Option D
  | .int i, .int j => some (.int (f i j))
  | _, _ => none
def dI2c (C : Int → Int → Bool) (f : Int → Int → Int) : D → D → Option D
  | .int i, .int j => if C i j = true then some (.int (f i j)) else none
  | _, _ => none
theorem ops_I0 {g : Int → Int → Int} : OpS X (rI0 fun i j => .int (g i j)) (dI2 g) := by
  intro x y d e z F H p pa Q gs rx ry ez k
  cases d <;> cases e <;> first | (simp [dI2] at ez; done) | skip
  cases rx; cases ry
  simp only [dI2, Option.some.injEq] at ez
  subst ez
  exact ⟨_, _, rfl, rfl, k _ F H .refl gs (.int _)⟩
theorem ops_I {C : Int → Int → Prop} {Cb : Int → Int → Bool} {g : Int → Int → Int} (hC : ∀ i j, Cb i j = true → C i j) : OpS X (rI C fun i j => .int (g i j)) (dI2c Cb g) := by
  intro x y d e z F H p pa Q gs rx ry ez k
  cases d <;> cases e <;> first | (simp [dI2c] at ez; done) | skip
  cases rx; cases ry
  simp only [dI2c] at ez
  split at ez
  · rename_i hc
    simp only [Option.some.injEq] at ez
    subst ez
    exact ⟨_, _, rfl, rfl, hC _ _ hc, k _ F H .refl gs (.int _)⟩
  · cases ez
def dSub : D → D → Option D := dI2 fun i j => i - j
theorem ops_sub : OpS X (rI0 fun i j => .int (i - j)) dSub := ops_I0
def okMul (i j : Int) : Bool := decide (i.natAbs < 2 ^ 64) || decide (j.natAbs < 2 ^ 64)
def dMulI : D → D → Option D := dI2c okMul fun i j => i * j
theorem ops_mulI : OpS X (rI CMul fun i j => .int (i * j)) dMulI := ops_I fun i j h => by
  unfold okMul at h
  simp only [Bool.or_eq_true, decide_eq_true_eq] at h
  rcases h with h | h
  · left; constructor <;> omega
  · right; constructor <;> omega
def okDiv (_ j : Int) : Bool := decide (j ≠ 0) && decide (j.natAbs < 1073741824)
def dDiv : D → D → Option D := dI2c okDiv fun i j => i.fdiv j
theorem ops_div : OpS X (rI CDivN fun i j => .int (i.fdiv j)) dDiv := ops_I fun i j h => by
  unfold okDiv at h
  simp only [Bool.and_eq_true, decide_eq_true_eq] at h
  exact h
def dMod : D → D → Option D := dI2c (fun _ j => decide (j ≠ 0)) fun i j => i.fmod j
theorem ops_mod : OpS X (rI (fun _ j => j ≠ 0) fun i j => .int (i.fmod j)) dMod := ops_I fun i j h => by simpa using h
def okPow (i j : Int) : Bool := decide (0 ≤ j) && decide (j ≤ 1000000) && decide (i.natAbs < 2 ^ 64)
def dPow : D → D → Option D := dI2c okPow fun i j => i ^ j.toNat
theorem ops_pow : OpS X (rI CPow fun i j => .int (i ^ j.toNat)) dPow := ops_I fun i j h => by
  unfold okPow at h
  simp only [Bool.and_eq_true, decide_eq_true_eq] at h
  exact ⟨h.1.1, h.1.2, h.2⟩
theorem pm_sub (ha : PM X Wx a ma) (hb : PM X Wx b mb) : PM X Wx (.BinOp a .Sub b pos) (mOp dSub ma mb) := pm_op op_sub ops_sub ha hb
theorem pm_div (ha : PM X Wx a ma) (hb : PM X Wx b mb) : PM X Wx (.BinOp a .FloorDiv b pos) (mOp dDiv ma mb) := pm_op op_fdivN ops_div ha hb
theorem pm_mod (ha : PM X Wx a ma) (hb : PM X Wx b mb) : PM X Wx (.BinOp a .Mod b pos) (mOp dMod ma mb) := pm_op op_modN ops_mod ha hb
theorem pm_pow (ha : PM X Wx a ma) (hb : PM X Wx b mb) : PM X Wx (.BinOp a .Pow b pos) (mOp dPow ma mb) := pm_op op_pow ops_pow ha hb

/-! ### sequences put together -/
theorem Rep.lstH {K : PySem.W.Frag} {F H : Hp} {p : Pst} {pa : Option Addr} {v : V} {ds : List D} (gs : GS F H pa p) (r : Rep K F p.g pa v (.lst ds)) : ∃ a vs, v = .ref a ∧ H a = some (.lst vs) ∧ ds.length ≤ sizeLine ∧ Reps K F p.g pa vs ds := by
  obtain ⟨a, vs, e, h, hz, rs⟩ := r.lst_inv
  exact ⟨a, vs, e, gs.sub _ _ h, hz, rs⟩
theorem Rep.tupH {K : PySem.W.Frag} {F H : Hp} {p : Pst} {pa : Option Addr} {v : V} {ds : List D} (gs : GS F H pa p) (r : Rep K F p.g pa v (.tup ds)) : ∃ a vs, v = .ref a ∧ H a = some (.tup vs) ∧ ds.length ≤ sizeLine ∧ Reps K F p.g pa vs ds := by
  obtain ⟨a, vs, e, h, hz, rs⟩ := r.tup_inv
  exact ⟨a, vs, e, gs.sub _ _ h, hz, rs⟩
def dCatL : D → D → Option D
  | .lst xs, .lst ys => if xs.length + ys.length ≤ sizeLine then some (.lst (xs ++ ys)) else none
  | _, _ => none
theorem ops_catL : OpS X rCat dCatL := by
  intro x y d e z F H p pa Q gs rx ry ez k
  cases d <;> cases e <;> first | (simp [dCatL] at ez; done) | skip
  simp only [dCatL] at ez
  split at ez
  · rename_i hc
    simp only [Option.some.injEq] at ez
    subst ez
    obtain ⟨l, xs, rfl, hl, hz1, r1⟩ := rx.lstH gs
    obtain ⟨m, ys, rfl, hm, hz2, r2⟩ := ry.lstH gs
    refine ⟨l, m, xs, ys, rfl, rfl, hl, hm, by rw [r1.1, r2.1]; exact hc, fun q hq => ?_⟩
    exact k _ _ _ (Gr.alloc gs hq) (gs.alloc hq) (Rep.lst' upd_same (by rw [List.length_append]; exact hc) ((AllR.append r1 r2).mono fun _ _ h => h.mono (Fz.upd (gs.fnone hq))))
  · cases ez
def dCatT : D → D → Option D
  | .tup xs, .tup ys => if xs.length + ys.length ≤ sizeLine then some (.tup (xs ++ ys)) else none
  | _, _ => none
theorem ops_catT : OpS X (rCatA X.K) dCatT := by
  intro x y d e z F H p pa Q gs rx ry ez k
  cases d <;> cases e <;> first | (simp [dCatT] at ez; done) | skip
  simp only [dCatT] at ez
  split at ez
  · rename_i hc
    simp only [Option.some.injEq] at ez
    subst ez
    have rx' := rx
    have ry' := ry
    obtain ⟨l, xs, rfl, hl, hz1, r1⟩ := rx.tupH gs
    obtain ⟨m, ys, rfl, hm, hz2, r2⟩ := ry.tupH gs
    refine ⟨l, m, xs, ys, rfl, rfl, SqT.of hl, SqT.of hm, by rw [r1.1, r2.1]; exact hc, fun e => ?_, fun e1 e2 => ?_, fun e1 e2 q hq => ?_⟩
    · subst e
      have e3 := List.eq_nil_of_length_eq_zero (r1.1.symm)
      subst e3
      exact k _ _ _ .refl gs ry'
    · subst e2
      have e3 := List.eq_nil_of_length_eq_zero (r2.1.symm)
      subst e3
      exact k _ _ _ .refl gs (by rw [List.append_nil]; exact rx')
    · exact k _ _ _ (Gr.alloc gs hq) (gs.alloc hq) (Rep.tup' upd_same (by rw [List.length_append]; exact hc) ((AllR.append r1 r2).mono fun _ _ h => h.mono (Fz.upd (gs.fnone hq))))
  · cases ez
def dAddS : D → D → Option D
  | .str x, .str y => if x.length + y.length ≤ sizeLine then some (.str (x ++ y)) else none
  | _, _ => none
theorem ops_addS : OpS X (fun x y H Q => ∃ i j, x = .str i ∧ y = .str j ∧ i.length + j.length ≤ sizeLine ∧ Q (.str (i ++ j)) H) dAddS := by
  intro x y d e z F H p pa Q gs rx ry ez k
  cases d <;> cases e <;> first | (simp [dAddS] at ez; done) | skip
  cases rx; cases ry
  simp only [dAddS] at ez
  split at ez
  · rename_i hc
    simp only [Option.some.injEq] at ez
    subst ez
    exact ⟨_, _, rfl, rfl, hc, k _ F H .refl gs (.str _)⟩
  · cases ez
def dAdd : D → D → Option D
  | .int i, .int j => some (.int (i + j))
  | .lst xs, .lst ys => dCatL (.lst xs) (.lst ys)
  | .tup xs, .tup ys => dCatT (.tup xs) (.tup ys)
  | .str x, .str y => dAddS (.str x) (.str y)
  | _, _ => none
theorem pm_add (ha : PM X Wx a ma) (hb : PM X Wx b mb) : PM X Wx (.BinOp a .Add b pos) (mOp dAdd ma mb) :=
  pm_op (op_add.or (op_cat.or (op_catA.or op_add_str))) ((ops_I0.or (ops_catL.or (ops_catT.or ops_addS))).imp fun d e z h => by
    cases d <;> cases e <;> first
      | (simp [dAdd] at h; done)
      | (simp only [dAdd, dI2, dCatL, dCatT, dAddS] at h ⊢; simp only [Option.some_or, Option.none_or, Option.or_none]; exact h)) ha hb
/-- a list so many times -/
def dRep : D → D → Option D
  | .lst xs, .int k => if -(2 ^ 63) ≤ k ∧ k < 2 ^ 63 ∧ xs.length * k.toNat ≤ sizeLine then some (.lst (List.replicate k.toNat xs).flatten) else none
  | _, _ => none
theorem AllR.rep {α β : Type} {R : α → β → Prop} {xs : List α} {ys : List β} (h : AllR R xs ys) : ∀ k : Nat, AllR R (List.replicate k xs).flatten (List.replicate k ys).flatten
  | 0 => by simpa using AllR.nil
  | k + 1 => by
    rw [List.replicate_succ, List.replicate_succ, List.flatten_cons, List.flatten_cons]
    exact h.append (h.rep k)
theorem ops_rep : OpS X rRep dRep := by
  intro x y d e z F H p pa Q gs rx ry ez k
  cases d <;> cases e <;> first | (simp [dRep] at ez; done) | skip
  simp only [dRep] at ez
  split at ez
  · rename_i hc
    simp only [Option.some.injEq] at ez
    subst ez
    cases ry
    obtain ⟨l, xs, rfl, hl, hz1, r1⟩ := rx.lstH gs
    refine ⟨l, _, xs, rfl, rfl, hl, hc.1, hc.2.1, by rw [r1.1]; exact hc.2.2, fun q hq => ?_⟩
    exact k _ _ _ (Gr.alloc gs hq) (gs.alloc hq) (Rep.lst' upd_same (by simpa [Nat.mul_comm] using hc.2.2) ((AllR.rep r1 _).mono fun _ _ h => h.mono (Fz.upd (gs.fnone hq))))
  · cases ez
def dMul : D → D → Option D
  | .int i, .int j => dMulI (.int i) (.int j)
  | .lst xs, .int k => dRep (.lst xs) (.int k)
  | _, _ => none
theorem pm_mul (ha : PM X Wx a ma) (hb : PM X Wx b mb) : PM X Wx (.BinOp a .Mult b pos) (mOp dMul ma mb) :=
  pm_op (op_mul.or op_rep) ((ops_mulI.or ops_rep).imp fun d e z h => by
    cases d <;> cases e <;> first
      | (simp [dMul] at h; done)
      | (simp only [dMul, dMulI, dI2c, dRep] at h ⊢; simp only [Option.some_or, Option.none_or, Option.or_none]; exact h)) ha hb

/-! ### one operand -/
def dNeg : D → Option D
  | .int i => some (.int (-i))
  | _ => none
def mUn (f : D → Option D) (ma : M D) : M D := mbind ma fun x => mopt (f x)
theorem pm_neg (ha : PM X Wx a ma) : PM X Wx (.UnaryOp .USub a pos) (mUn dNeg ma) := ⟨(pe_un un_neg ha.pe).imp fun σ H Q ⟨F, pa, p, ρ, gs, s, o⟩ => by
  refine TM.of gs s (o.bind.mono fun d p1 F1 H1 pa1 gr1 gs1 o1 s1 v1 r1 => ?_)
  obtain ⟨z, ez, o3⟩ := o1.opt
  cases d <;> first | (simp [dNeg] at ez; done) | skip
  cases r1
  simp only [dNeg, Option.some.injEq] at ez
  subst ez
  exact ⟨_, rfl, o3.ret gs1 _ (.int _)⟩⟩

/-! ### tests -/
def mB (m : M Bool) : M D := mbind m fun b => mret (.bl b)
def CmpS (X : Cx) (r : R2) (c : D → D → Option Bool) : Prop := ∀ (x y : V) (d e : D) (z : Bool) (F H : Hp) (p : Pst) (pa : Option Addr) (Q : VK), GS F H pa p → Rep X.K F p.g pa x d → Rep X.K F p.g pa y e → c d e = some z → Q (.bl z) H → r x y H Q
def mCmp (c : D → D → Option Bool) (ma mb : M D) : M Bool := mbind ma fun x => mbind mb fun y => mopt (c x y)
theorem tm_cmp {r : R2} {c : D → D → Option Bool} (hs : CmpS X r c) : ∀ σ H Q, TMt X.K X.mg Wx (mCmp c ma mb) σ H Q → tOp r (TM X.K X.mg Wx ma) (TM X.K X.mg Wx mb) σ H fun x H' => ∃ k, x = .bl k ∧ Q k H' := fun σ H Q ⟨F, pa, p, ρ, gs, s, o⟩ => by
  refine TM.of gs s (o.bind.mono fun d p1 F1 H1 pa1 gr1 gs1 o1 s1 v1 r1 => ?_)
  refine TM.of gs1 s1 (o1.bind.mono fun e p2 F2 H2 pa2 gr2 gs2 o2 s2 v2 r2 => ?_)
  obtain ⟨z, ez, o3⟩ := o2.opt
  exact hs v1 v2 d e z F2 H2 p2 pa2 _ gs2 (r1.mono gr2.fz) r2 ez ⟨_, rfl, o3.ret gs2⟩
theorem pmt_cmp {op : CmpOp} {r : R2} {c : D → D → Option Bool} (ho : OpR X (compareOp op) r) (hs : CmpS X r c) (ha : PM X Wx a ma) (hb : PM X Wx b mb) (hm : behindInMarks op b = false := by exact nomark _) : PMt X Wx (.Compare a [op] [b] pos) (mCmp c ma mb) :=
  ⟨(pt_cmpR ho ha.pe hb.pe hm).imp (tm_cmp hs)⟩
theorem TM.ofB {K : PySem.W.Frag} {mg : Str → Option Value} {m : M Bool} {σ : L2.St} {H : Hp} {Q : VK} (h : TM K mg Wx (mB m) σ H Q) : TMt K mg Wx m σ H fun b H' => Q (.bl b) H' := by
  obtain ⟨F, pa, p, ρ, gs, s, o⟩ := h
  exact ⟨F, pa, p, ρ, gs, s, o.bind.mono fun b p1 F1 H1 pa1 gr1 gs1 o1 => o1.ret gs1 _ (.bl b)⟩
theorem tOp_mono {r : R2} {ta tb : TE} : True := trivial
theorem pm_cmp {op : CmpOp} {r : R2} {c : D → D → Option Bool} (ho : OpR X (compareOp op) r) (hs : CmpS X r c) (ha : PM X Wx a ma) (hb : PM X Wx b mb) (hm : behindInMarks op b = false := by exact nomark _) : PM X Wx (.Compare a [op] [b] pos) (mB (mCmp c ma mb)) :=
  ⟨(pe_cmpR ho ha.pe hb.pe hm).imp fun σ H Q h => by
    obtain ⟨F, pa, p, ρ, gs, s, o⟩ := h.ofB
    refine TM.of gs s (o.bind.mono fun d p1 F1 H1 pa1 gr1 gs1 o1 s1 v1 r1 => ?_)
    refine TM.of gs1 s1 (o1.bind.mono fun e p2 F2 H2 pa2 gr2 gs2 o2 s2 v2 r2 => ?_)
    obtain ⟨z, ez, o3⟩ := o2.opt
    exact hs v1 v2 d e z F2 H2 p2 pa2 _ gs2 (r1.mono gr2.fz) r2 ez (o3.ret gs2)⟩
def dI2b (f : Int → Int → Bool) : D → D → Option Bool
  | .int i, .int j => some (f i j)
  | _, _ => none
theorem cmps_I {f : Int → Int → Bool} : CmpS X (rI0 fun i j => .bl (f i j)) (dI2b f) := by
  intro x y d e z F H p pa Q gs rx ry ez k
  cases d <;> cases e <;> first | (simp [dI2b] at ez; done) | skip
  cases rx; cases ry
  simp only [dI2b, Option.some.injEq] at ez
  subst ez
  exact ⟨_, _, rfl, rfl, k⟩
def dLt : D → D → Option Bool := dI2b fun i j => decide (i < j)
def dLe : D → D → Option Bool := dI2b fun i j => decide (i ≤ j)
def dGt : D → D → Option Bool := dI2b fun i j => decide (j < i)
def dGe : D → D → Option Bool := dI2b fun i j => decide (j ≤ i)
theorem pmt_lt (ha : PM X Wx a ma) (hb : PM X Wx b mb) : PMt X Wx (.Compare a [.Lt] [b] pos) (mCmp dLt ma mb) := pmt_cmp op_lt cmps_I ha hb
theorem pmt_le (ha : PM X Wx a ma) (hb : PM X Wx b mb) : PMt X Wx (.Compare a [.LtE] [b] pos) (mCmp dLe ma mb) := pmt_cmp op_le cmps_I ha hb
theorem pmt_gt (ha : PM X Wx a ma) (hb : PM X Wx b mb) : PMt X Wx (.Compare a [.Gt] [b] pos) (mCmp dGt ma mb) := pmt_cmp op_gt cmps_I ha hb
theorem pmt_ge (ha : PM X Wx a ma) (hb : PM X Wx b mb) : PMt X Wx (.Compare a [.GtE] [b] pos) (mCmp dGe ma mb) := pmt_cmp op_ge cmps_I ha hb
theorem pm_lt (ha : PM X Wx a ma) (hb : PM X Wx b mb) : PM X Wx (.Compare a [.Lt] [b] pos) (mB (mCmp dLt ma mb)) := pm_cmp op_lt cmps_I ha hb
theorem pm_le (ha : PM X Wx a ma) (hb : PM X Wx b mb) : PM X Wx (.Compare a [.LtE] [b] pos) (mB (mCmp dLe ma mb)) := pm_cmp op_le cmps_I ha hb
theorem pm_gt (ha : PM X Wx a ma) (hb : PM X Wx b mb) : PM X Wx (.Compare a [.Gt] [b] pos) (mB (mCmp dGt ma mb)) := pm_cmp op_gt cmps_I ha hb
theorem pm_ge (ha : PM X Wx a ma) (hb : PM X Wx b mb) : PM X Wx (.Compare a [.GtE] [b] pos) (mB (mCmp dGe ma mb)) := pm_cmp op_ge cmps_I ha hb
end
end PF

namespace PF
open PySem PySem.Spec PyProof.Rows L2

/-! ### data as the library has it -/
mutual
def toPy : D → PyData
  | .non => .none
  | .bl b => .bool b
  | .int i => .int i
  | .str x => .str x
  | .lst xs => .list (toPys xs)
  | .tup xs => .tuple (toPys xs)
  | .scr ns => .list (ns.map .int)
  | .pot _ => .none
  | .emp => .dict []
def toPys : List D → List PyData
  | [] => []
  | x :: xs => toPy x :: toPys xs
end
mutual
/-- plain data: no pot, no dict, no script within -/
def pl : D → Bool
  | .non | .bl _ | .int _ => true
  | .str x => PyData.strOk x
  | .lst xs => pls xs
  | .tup xs => pls xs
  | .scr _ => false
  | .pot _ => false
  | .emp => false
def pls : List D → Bool
  | [] => true
  | x :: xs => pl x && pls xs
end
mutual
def dep : D → Nat
  | .lst xs => deps xs + 1
  | .tup xs => deps xs + 1
  | _ => 0
def deps : List D → Nat
  | [] => 0
  | x :: xs => max (dep x) (deps xs)
end
theorem toPys_map (xs : List D) : toPys xs = xs.map toPy := by
  induction xs with
  | nil => simp [toPys]
  | cons x xs ih => simp [toPys, ih]
theorem pls_all (xs : List D) : pls xs = xs.all pl := by
  induction xs with
  | nil => simp [pls]
  | cons x xs ih => simp [pls, ih]
mutual
theorem canLay_pl : ∀ d : D, pl d = true → (toPy d).canLay0 = true
  | .non, _ => by simp [toPy, PyData.canLay0]
  | .bl _, _ => by simp [toPy, PyData.canLay0]
  | .int _, _ => by simp [toPy, PyData.canLay0]
  | .str _, h => by simp only [toPy, PyData.canLay0]; simpa [pl] using h
  | .lst xs, h => by simp only [toPy, PyData.canLay0]; exact canLay_pls xs (by simpa [pl] using h)
  | .tup xs, h => by simp only [toPy, PyData.canLay0]; exact canLay_pls xs (by simpa [pl] using h)
  | .scr _, h => by simp [pl] at h
  | .pot _, h => by simp [pl] at h
  | .emp, h => by simp [pl] at h
theorem canLay_pls : ∀ ds : List D, pls ds = true → PyData.canLayAll0 (toPys ds) = true
  | [], _ => by simp [toPys, PyData.canLayAll0]
  | x :: xs, h => by
    simp only [pls, Bool.and_eq_true] at h
    simp only [toPys, PyData.canLayAll0, Bool.and_eq_true]
    exact ⟨canLay_pl x h.1, canLay_pls xs h.2⟩
end
mutual
theorem depth_dep : ∀ d : D, pl d = true → (toPy d).depth = dep d
  | .non, _ => by simp [toPy, PyData.depth, dep]
  | .bl _, _ => by simp [toPy, PyData.depth, dep]
  | .int _, _ => by simp [toPy, PyData.depth, dep]
  | .str _, _ => by simp [toPy, PyData.depth, dep]
  | .lst xs, h => by simp only [toPy, PyData.depth, dep]; rw [depth_deps xs (by simpa [pl] using h)]
  | .tup xs, h => by simp only [toPy, PyData.depth, dep]; rw [depth_deps xs (by simpa [pl] using h)]
  | .scr _, h => by simp [pl] at h
  | .pot _, h => by simp [pl] at h
  | .emp, h => by simp [pl] at h
theorem depth_deps : ∀ ds : List D, pls ds = true → PyData.depthAll (toPys ds) = deps ds
  | [], _ => by simp [toPys, PyData.depthAll, deps]
  | x :: xs, h => by
    simp only [pls, Bool.and_eq_true] at h
    simp only [toPys, PyData.depthAll, deps]
    rw [depth_dep x h.1, depth_deps xs h.2]
end
/-- data that == and in look through -/
def okEq (d : D) : Bool := pl d && decide (dep d ≤ 64)
theorem shaped_ok {d : D} (h : okEq d = true) : SeqAt.shaped (toPy d) = true := by
  unfold okEq at h
  simp only [Bool.and_eq_true, decide_eq_true_eq] at h
  unfold SeqAt.shaped
  simp only [Bool.and_eq_true, decide_eq_true_eq]
  exact ⟨canLay_pl d h.1, by rw [depth_dep d h.1]; exact h.2⟩
theorem dpAll_of {K : PySem.W.Frag} {H : Hp} : ∀ {vs : List V} {ds : List D}, AllR (fun v d => pl d = true → Dp K H v (toPy d)) vs ds → pls ds = true → DpAll K H vs (toPys ds)
  | [], [], _, _ => by simpa [toPys] using DpAll.nil
  | [], _ :: _, h, _ => by have := h.1; simp at this
  | _ :: _, [], h, _ => by have := h.1; simp at this
  | v :: vs, d :: ds, h, hp => by
    simp only [pls, Bool.and_eq_true] at hp
    simp only [toPys]
    exact .cons (h.head hp.1) (dpAll_of h.tail hp.2)
theorem Rep.dp {K : PySem.W.Frag} {F H : Hp} {g : Nat} {pa : Option Addr} (sub : ∀ a o, F a = some o → H a = some o) {v : V} {d : D} (r : Rep K F g pa v d) : pl d = true → Dp K H v (toPy d) := by
  induction r with
  | non => intro _; simpa [toPy] using Dp.non
  | bl b => intro _; simpa [toPy] using Dp.bl b
  | int i => intro _; simpa [toPy] using Dp.int i
  | str x => intro _; simpa [toPy] using Dp.str x
  | lst h _ hl _ ih =>
    intro hp
    simp only [toPy]
    exact .lst (SqL.of (sub _ _ h)) (dpAll_of ⟨hl, fun i v d h1 h2 => ih i v d h1 h2⟩ (by simpa [pl] using hp))
  | tup h _ hl _ ih =>
    intro hp
    simp only [toPy]
    exact .tup (SqT.of (sub _ _ h)) (dpAll_of ⟨hl, fun i v d h1 h2 => ih i v d h1 h2⟩ (by simpa [pl] using hp))
  | scr _ => intro hp; simp [pl] at hp
  | pot _ _ => intro hp; simp [pl] at hp
  | emp _ => intro hp; simp [pl] at hp

section
variable {X : Cx} {Wx : WX} {a b c e : Expr} {es rest : List Expr} {ma mb mc m : M D} {ta tb : M Bool} {pos : Pos}
/-! ### ==, in -/
def dEq : D → D → Option Bool
  | .int i, .int j => some (decide (i = j))
  | .str x, .str y => some (decide (x = y))
  | d, e => if okEq d && okEq e then some (PyData.eqv (toPy d) (toPy e)) else none
def dNe : D → D → Option Bool := fun d e => (dEq d e).map fun b => !b
theorem dEq_spec {d e : D} {z : Bool} (h : dEq d e = some z) : (∃ i j, d = .int i ∧ e = .int j ∧ z = decide (i = j)) ∨ (∃ x y, d = .str x ∧ e = .str y ∧ z = decide (x = y)) ∨ ((okEq d = true ∧ okEq e = true) ∧ z = PyData.eqv (toPy d) (toPy e)) := by
  unfold dEq at h
  split at h
  · simp only [Option.some.injEq] at h
    exact .inl ⟨_, _, rfl, rfl, h.symm⟩
  · simp only [Option.some.injEq] at h
    exact .inr (.inl ⟨_, _, rfl, rfl, h.symm⟩)
  · split at h
    · rename_i hc
      simp only [Option.some.injEq] at h
      subst h
      simp only [Bool.and_eq_true] at hc
      exact .inr (.inr ⟨hc, rfl⟩)
    · cases h
theorem pl_of {d : D} (h : okEq d = true) : pl d = true := by
  unfold okEq at h
  simp only [Bool.and_eq_true] at h
  exact h.1
theorem cmps_eq : CmpS X (fun x y H Q => rEq x y H Q ∨ rEqD X.K x y H Q) dEq := by
  intro x y d e z F H p pa Q gs rx ry ez k
  rcases dEq_spec ez with ⟨i, j, rfl, rfl, h⟩ | ⟨i, j, rfl, rfl, h⟩ | ⟨⟨h1, h2⟩, h3⟩
  · cases rx; cases ry
    exact .inl ⟨rfl, by rw [show decide (V.int i = V.int j) = z by rw [h]; simp]; exact k⟩
  · cases rx; cases ry
    exact .inl ⟨rfl, by rw [show decide (V.str i = V.str j) = z by rw [h]; simp]; exact k⟩
  · exact .inr ⟨_, _, rx.dp gs.sub (pl_of h1), ry.dp gs.sub (pl_of h2), shaped_ok h1, shaped_ok h2, by rw [← h3]; exact k⟩
theorem cmps_ne : CmpS X (fun x y H Q => rNe x y H Q ∨ rNeD X.K x y H Q) dNe := by
  intro x y d e z F H p pa Q gs rx ry ez k
  unfold dNe at ez
  cases q : dEq d e with
  | none => rw [q] at ez; cases ez
  | some w =>
    rw [q] at ez
    have ez : (!w) = z := by simpa using ez
    rcases dEq_spec q with ⟨i, j, rfl, rfl, h⟩ | ⟨i, j, rfl, rfl, h⟩ | ⟨⟨h1, h2⟩, h3⟩
    · cases rx; cases ry
      exact .inl ⟨rfl, by rw [show (!decide (V.int i = V.int j)) = z by rw [← ez, h]; simp]; exact k⟩
    · cases rx; cases ry
      exact .inl ⟨rfl, by rw [show (!decide (V.str i = V.str j)) = z by rw [← ez, h]; simp]; exact k⟩
    · exact .inr ⟨_, _, rx.dp gs.sub (pl_of h1), ry.dp gs.sub (pl_of h2), shaped_ok h1, shaped_ok h2, by rw [← h3, ez]; exact k⟩
def Un (X : Cx) : Prop := X.A.units + 65 < cLine
theorem pmt_eq (hu : Un X) (ha : PM X Wx a ma) (hb : PM X Wx b mb) : PMt X Wx (.Compare a [.Eq] [b] pos) (mCmp dEq ma mb) := pmt_cmp (op_eq.or (op_eqD (Nat.lt_of_succ_lt hu))) cmps_eq ha hb
theorem pmt_ne (hu : Un X) (ha : PM X Wx a ma) (hb : PM X Wx b mb) : PMt X Wx (.Compare a [.NotEq] [b] pos) (mCmp dNe ma mb) := pmt_cmp (op_ne.or (op_neD (Nat.lt_of_succ_lt hu))) cmps_ne ha hb
theorem pm_eq (hu : Un X) (ha : PM X Wx a ma) (hb : PM X Wx b mb) : PM X Wx (.Compare a [.Eq] [b] pos) (mB (mCmp dEq ma mb)) := pm_cmp (op_eq.or (op_eqD (Nat.lt_of_succ_lt hu))) cmps_eq ha hb
theorem pm_ne (hu : Un X) (ha : PM X Wx a ma) (hb : PM X Wx b mb) : PM X Wx (.Compare a [.NotEq] [b] pos) (mB (mCmp dNe ma mb)) := pm_cmp (op_ne.or (op_neD (Nat.lt_of_succ_lt hu))) cmps_ne ha hb
def dIn : D → D → Option Bool
  | d, .lst xs => if okEq d && okEq (.lst xs) then some (xs.any fun z => PyData.eqv (toPy z) (toPy d)) else none
  | _, _ => none
def dNotIn : D → D → Option Bool := fun d e => (dIn d e).map fun b => !b
theorem any_toPys (xs : List D) (f : PyData → Bool) : (toPys xs).any f = xs.any fun z => f (toPy z) := by
  rw [toPys_map, List.any_map]; rfl
theorem cmps_in : CmpS X (rInD X.K) dIn := by
  intro x y d e z F H p pa Q gs rx ry ez k
  cases e <;> first | (simp [dIn] at ez; done) | skip
  rename_i xs
  simp only [dIn] at ez
  split at ez
  · rename_i hc
    simp only [Bool.and_eq_true] at hc
    have h2 := ry.dp gs.sub (pl_of hc.2)
    have s2 := shaped_ok hc.2
    simp only [toPy] at h2 s2
    refine ⟨_, _, rx.dp gs.sub (pl_of hc.1), h2, shaped_ok hc.1, s2, ?_⟩
    rw [any_toPys]
    simp only [Option.some.injEq] at ez
    rw [ez]; exact k
  · cases ez
theorem cmps_notIn : CmpS X (rNotInD X.K) dNotIn := by
  intro x y d e z F H p pa Q gs rx ry ez k
  unfold dNotIn at ez
  cases q : dIn d e with
  | none => rw [q] at ez; cases ez
  | some w =>
    rw [q] at ez
    have ez : (!w) = z := by simpa using ez
    cases e <;> first | (simp [dIn] at q; done) | skip
    rename_i xs
    simp only [dIn] at q
    split at q
    · rename_i hc
      simp only [Bool.and_eq_true] at hc
      have h2 := ry.dp gs.sub (pl_of hc.2)
      have s2 := shaped_ok hc.2
      simp only [toPy] at h2 s2
      refine ⟨_, _, rx.dp gs.sub (pl_of hc.1), h2, shaped_ok hc.1, s2, ?_⟩
      rw [any_toPys]
      simp only [Option.some.injEq] at q
      rw [q, ez]; exact k
    · cases q
theorem pmt_in (hu : Un X) (ha : PM X Wx a ma) (hb : PM X Wx b mb) (hm : behindInMarks .In b = false := by rfl) : PMt X Wx (.Compare a [.In] [b] pos) (mCmp dIn ma mb) := pmt_cmp (op_inD hu) cmps_in ha hb hm
theorem pmt_notIn (hu : Un X) (ha : PM X Wx a ma) (hb : PM X Wx b mb) (hm : behindInMarks .NotIn b = false := by rfl) : PMt X Wx (.Compare a [.NotIn] [b] pos) (mCmp dNotIn ma mb) := pmt_cmp (op_notInD hu) cmps_notIn ha hb hm
theorem pm_in (hu : Un X) (ha : PM X Wx a ma) (hb : PM X Wx b mb) (hm : behindInMarks .In b = false := by rfl) : PM X Wx (.Compare a [.In] [b] pos) (mB (mCmp dIn ma mb)) := pm_cmp (op_inD hu) cmps_in ha hb hm
theorem pm_notIn (hu : Un X) (ha : PM X Wx a ma) (hb : PM X Wx b mb) (hm : behindInMarks .NotIn b = false := by rfl) : PM X Wx (.Compare a [.NotIn] [b] pos) (mB (mCmp dNotIn ma mb)) := pm_cmp (op_notInD hu) cmps_notIn ha hb hm

/-! ### is None, is True -/
def isNon : D → Bool
  | .non => true
  | _ => false
def noPot : D → Bool
  | .pot _ => false
  | _ => true
theorem Rep.isNon {K : PySem.W.Frag} {F : Hp} {g : Nat} {pa : Option Addr} {v : V} {d : D} (r : Rep K F g pa v d) (h : noPot d = true) : decide (v = .non) = PF.isNon d := by
  cases r <;> first | rfl | (simp [noPot] at h)
def mIsN (ma : M D) : M Bool := mbind ma fun x => if noPot x = true then mret (isNon x) else mstuck
def mNotN (ma : M D) : M Bool := mbind ma fun x => if noPot x = true then mret (!isNon x) else mstuck
theorem pm_isN {j pos'} (ha : PM X Wx a ma) : PM X Wx (.Compare a [.Is] [.Constant .none j pos'] pos) (mB (mIsN ma)) := ⟨(pe_cmp (pc_isN ha.pe) (nomark _)).imp fun σ H Q h => by
  obtain ⟨F, pa, p, ρ, gs, s, o⟩ := h.ofB
  refine TM.of gs s (o.bind.mono fun d p1 F1 H1 pa1 gr1 gs1 o1 s1 v1 r1 => ?_)
  by_cases hn : noPot d = true
  · rw [if_pos hn] at o1
    rw [r1.isNon hn]; exact o1.ret gs1
  · rw [if_neg hn] at o1; exact o1.elim⟩
theorem pm_notN {j pos'} (ha : PM X Wx a ma) : PM X Wx (.Compare a [.IsNot] [.Constant .none j pos'] pos) (mB (mNotN ma)) := ⟨(pe_cmp (pc_notN ha.pe) (nomark _)).imp fun σ H Q h => by
  obtain ⟨F, pa, p, ρ, gs, s, o⟩ := h.ofB
  refine TM.of gs s (o.bind.mono fun d p1 F1 H1 pa1 gr1 gs1 o1 s1 v1 r1 => ?_)
  by_cases hn : noPot d = true
  · rw [if_pos hn] at o1
    rw [r1.isNon hn]; exact o1.ret gs1
  · rw [if_neg hn] at o1; exact o1.elim⟩
theorem pmt_isN {j pos'} (ha : PM X Wx a ma) : PMt X Wx (.Compare a [.Is] [.Constant .none j pos'] pos) (mIsN ma) := ⟨(pt_cmp (pc_isN ha.pe) (nomark _)).imp fun σ H Q h => by
  obtain ⟨F, pa, p, ρ, gs, s, o⟩ := h
  refine TM.of gs s (o.bind.mono fun d p1 F1 H1 pa1 gr1 gs1 o1 s1 v1 r1 => ?_)
  by_cases hn : noPot d = true
  · rw [if_pos hn] at o1
    exact ⟨_, by rw [r1.isNon hn], o1.ret gs1⟩
  · rw [if_neg hn] at o1; exact o1.elim⟩
theorem pmt_notN {j pos'} (ha : PM X Wx a ma) : PMt X Wx (.Compare a [.IsNot] [.Constant .none j pos'] pos) (mNotN ma) := ⟨(pt_cmp (pc_notN ha.pe) (nomark _)).imp fun σ H Q h => by
  obtain ⟨F, pa, p, ρ, gs, s, o⟩ := h
  refine TM.of gs s (o.bind.mono fun d p1 F1 H1 pa1 gr1 gs1 o1 s1 v1 r1 => ?_)
  by_cases hn : noPot d = true
  · rw [if_pos hn] at o1
    exact ⟨_, by rw [r1.isNon hn], o1.ret gs1⟩
  · rw [if_neg hn] at o1; exact o1.elim⟩
def dIsB : D → D → Option Bool
  | .bl a, .bl b => some (decide (a = b))
  | _, _ => none
def dNotB : D → D → Option Bool
  | .bl a, .bl b => some (!decide (a = b))
  | _, _ => none
theorem cmps_isB : CmpS X rIsB dIsB := by
  intro x y d e z F H p pa Q gs rx ry ez k
  cases d <;> cases e <;> first | (simp [dIsB] at ez; done) | skip
  cases rx; cases ry
  simp only [dIsB, Option.some.injEq] at ez
  subst ez
  exact ⟨_, _, rfl, rfl, k⟩
theorem cmps_notB : CmpS X rNotB dNotB := by
  intro x y d e z F H p pa Q gs rx ry ez k
  cases d <;> cases e <;> first | (simp [dNotB] at ez; done) | skip
  cases rx; cases ry
  simp only [dNotB, Option.some.injEq] at ez
  subst ez
  exact ⟨_, _, rfl, rfl, k⟩
theorem pmt_isB (ha : PM X Wx a ma) (hb : PM X Wx b mb) : PMt X Wx (.Compare a [.Is] [b] pos) (mCmp dIsB ma mb) := pmt_cmp op_isBl cmps_isB ha hb
theorem pmt_notB (ha : PM X Wx a ma) (hb : PM X Wx b mb) : PMt X Wx (.Compare a [.IsNot] [b] pos) (mCmp dNotB ma mb) := pmt_cmp op_notBl cmps_notB ha hb
theorem pm_isB (ha : PM X Wx a ma) (hb : PM X Wx b mb) : PM X Wx (.Compare a [.Is] [b] pos) (mB (mCmp dIsB ma mb)) := pm_cmp op_isBl cmps_isB ha hb
theorem pm_notB (ha : PM X Wx a ma) (hb : PM X Wx b mb) : PM X Wx (.Compare a [.IsNot] [b] pos) (mB (mCmp dNotB ma mb)) := pm_cmp op_notBl cmps_notB ha hb

/-! ### chains of two comparisons (ints) -/
def mChain (f g : Int → Int → Bool) (ma mb mc : M D) : M Bool := mbind ma fun x => mbind mb fun y => mbind (mopt (dI2b f x y)) fun k => if k = true then mbind mc fun z => mopt (dI2b g y z) else mret false
theorem dI2b_some {f : Int → Int → Bool} {d e : D} {k : Bool} (h : dI2b f d e = some k) : ∃ i j, d = .int i ∧ e = .int j ∧ f i j = k := by
  cases d <;> cases e <;> first | (simp [dI2b] at h; done) | skip
  simp only [dI2b, Option.some.injEq] at h
  exact ⟨_, _, rfl, rfl, h⟩
theorem chain_out {f g : Int → Int → Bool} {K : PySem.W.Frag} {mg : Str → Option Value} {σ : L2.St} {H : Hp} {Q : Bool → Hp → Prop} (h : TMt K mg Wx (mChain f g ma mb mc) σ H Q) :
    TM K mg Wx ma σ H fun x H1 => TM K mg Wx mb σ H1 fun y H2 => ∃ i j, x = .int i ∧ y = .int j ∧ (if f i j = true then TM K mg Wx mc σ H2 fun z H3 => ∃ k, z = .int k ∧ Q (g j k) H3 else Q false H2) := by
  obtain ⟨F, pa, p, ρ, gs, s, o⟩ := h
  refine TM.of gs s (o.bind.mono fun d p1 F1 H1 pa1 gr1 gs1 o1 s1 v1 r1 => ?_)
  refine TM.of gs1 s1 (o1.bind.mono fun e p2 F2 H2 pa2 gr2 gs2 o2 s2 v2 r2 => ?_)
  have o2 := o2.bind
  obtain ⟨k, ek, o3⟩ := o2.opt
  obtain ⟨i, j, rfl, rfl, ek'⟩ := dI2b_some ek
  cases r1; cases r2
  refine ⟨i, j, rfl, rfl, ?_⟩
  have o4 := o3.ret gs2
  rw [ek']
  cases k with
  | false => simp only [Bool.false_eq_true, if_false] at o4 ⊢; exact o4.ret gs2
  | true =>
    simp only [if_true] at o4 ⊢
    refine TM.of gs2 s2 (o4.bind.mono fun w p3 F3 H3 pa3 gr3 gs3 o5 s3 v3 r3 => ?_)
    obtain ⟨k2, ek2, o6⟩ := o5.opt
    obtain ⟨_, _, e1, rfl, ek3⟩ := dI2b_some ek2
    cases e1
    cases r3
    exact ⟨_, rfl, by rw [ek3]; exact o6.ret gs3⟩
theorem pmt_chain {op op' : CmpOp} {f g : Int → Int → Bool} (ho : OpR X (compareOp op) (rI0 fun i j => .bl (f i j))) (ho' : OpR X (compareOp op') (rI0 fun i j => .bl (g i j))) (ha : PM X Wx a ma) (hb : PM X Wx b mb) (hc : PM X Wx c mc)
    (hm : lastMarks [op, op'] [b, c] = false := by with_unfolding_all rfl) : PMt X Wx (.Compare a [op, op'] [b, c] pos) (mChain f g ma mb mc) := ⟨(pt_chain ho ho' ha.pe hb.pe hc.pe hm).imp fun σ H Q h => by
  obtain ⟨F, pa, p, ρ, gs, s, o⟩ := chain_out h
  refine ⟨F, pa, p, ρ, gs, s, o.mono fun d p1 F1 H1 pa1 gr1 gs1 o1 v1 r1 => ?_⟩
  obtain ⟨F, pa, p, ρ, gs, s, o⟩ := o1 v1 r1
  refine ⟨F, pa, p, ρ, gs, s, o.mono fun d p1 F1 H1 pa1 gr1 gs1 o1 v2 r2 => ?_⟩
  obtain ⟨i, j, rfl, rfl, q⟩ := o1 v2 r2
  refine ⟨i, j, rfl, rfl, f i j, rfl, ?_⟩
  cases e : f i j with
  | false => rw [e] at q; simp only [Bool.false_eq_true, if_false] at q ⊢; exact ⟨_, rfl, q⟩
  | true =>
    rw [e] at q
    simp only [if_true] at q ⊢
    obtain ⟨F, pa, p, ρ, gs, s, o⟩ := q
    refine ⟨F, pa, p, ρ, gs, s, o.mono fun d p1 F1 H1 pa1 gr1 gs1 o1 v3 r3 => ?_⟩
    obtain ⟨k, rfl, q⟩ := o1 v3 r3
    exact ⟨j, k, rfl, rfl, _, rfl, q⟩⟩
theorem pm_chain {op op' : CmpOp} {f g : Int → Int → Bool} (ho : OpR X (compareOp op) (rI0 fun i j => .bl (f i j))) (ho' : OpR X (compareOp op') (rI0 fun i j => .bl (g i j))) (ha : PM X Wx a ma) (hb : PM X Wx b mb) (hc : PM X Wx c mc)
    (hm : lastMarks [op, op'] [b, c] = false := by with_unfolding_all rfl) : PM X Wx (.Compare a [op, op'] [b, c] pos) (mB (mChain f g ma mb mc)) := ⟨(pe_chain ho ho' ha.pe hb.pe hc.pe hm).imp fun σ H Q h => by
  obtain ⟨F, pa, p, ρ, gs, s, o⟩ := chain_out h.ofB
  refine ⟨F, pa, p, ρ, gs, s, o.mono fun d p1 F1 H1 pa1 gr1 gs1 o1 v1 r1 => ?_⟩
  obtain ⟨F, pa, p, ρ, gs, s, o⟩ := o1 v1 r1
  refine ⟨F, pa, p, ρ, gs, s, o.mono fun d p1 F1 H1 pa1 gr1 gs1 o1 v2 r2 => ?_⟩
  obtain ⟨i, j, rfl, rfl, q⟩ := o1 v2 r2
  refine ⟨i, j, rfl, rfl, f i j, rfl, ?_⟩
  cases e : f i j with
  | false => rw [e] at q; simp only [Bool.false_eq_true, if_false] at q ⊢; exact q
  | true =>
    rw [e] at q
    simp only [if_true] at q ⊢
    obtain ⟨F, pa, p, ρ, gs, s, o⟩ := q
    refine ⟨F, pa, p, ρ, gs, s, o.mono fun d p1 F1 H1 pa1 gr1 gs1 o1 v3 r3 => ?_⟩
    obtain ⟨k, rfl, q⟩ := o1 v3 r3
    exact ⟨j, k, rfl, rfl, q⟩⟩
abbrev iLt : Int → Int → Bool := fun i j => decide (i < j)
abbrev iLe : Int → Int → Bool := fun i j => decide (i ≤ j)

/-! ### and, or, not, if .. else -/
structure PMw (X : Cx) (Wx : WX) (e : Expr) (m : M Bool) : Prop where
  pw : PW X e (TMt X.K X.mg Wx m)
theorem PMw.pt (h : PMw X Wx e ta) : PMt X Wx e ta := ⟨h.pw.pt⟩
def mAnd (t u : M Bool) : M Bool := mbind t fun k => if k = true then u else mret false
def mOr (t u : M Bool) : M Bool := mbind t fun k => if k = true then mret true else u
def mNot (t : M Bool) : M Bool := mbind t fun k => mret (!k)
theorem TMt.of {K : PySem.W.Frag} {mg : Str → Option Value} {t : M Bool} {σ : L2.St} {F H : Hp} {pa : Option Addr} {p : Pst} {ρ : Sl} {Q : Bool → Hp → Prop} (gs : GS F H pa p) (s : SRel K F H p.g pa σ ρ)
    (h : Out K mg Wx σ F H p.g pa (fun d p' F' H' pa' => SRel K F' H' p'.g pa' σ ρ → Q d H') (t ρ p)) : TMt K mg Wx t σ H Q :=
  ⟨F, pa, p, ρ, gs, s, h.mono fun _ _ _ _ _ gr _ k => k (s.grow gr)⟩
theorem pmw_and1 (ha : PMt X Wx a ta) : PMw X Wx (.BoolOp .And [a] pos) ta := ⟨pw_and1 ha.pt⟩
theorem pmw_or1 (ha : PMt X Wx a ta) : PMw X Wx (.BoolOp .Or [a] pos) ta := ⟨pw_or1 ha.pt⟩
theorem pmw_and (ha : PMt X Wx a ta) (hb : PMw X Wx (.BoolOp .And (b :: rest) pos) tb) : PMw X Wx (.BoolOp .And (a :: b :: rest) pos) (mAnd ta tb) := ⟨(pw_and ha.pt hb.pw).imp fun σ H Q ⟨F, pa, p, ρ, gs, s, o⟩ => by
  refine TMt.of gs s (o.bind.mono fun k p1 F1 H1 pa1 gr1 gs1 o1 s1 => ?_)
  cases k with
  | false => simp only [Bool.false_eq_true, if_false] at o1 ⊢; exact o1.ret gs1
  | true => simp only [if_true] at o1 ⊢; exact ⟨_, _, _, _, gs1, s1, o1⟩⟩
theorem pmw_or (ha : PMt X Wx a ta) (hb : PMw X Wx (.BoolOp .Or (b :: rest) pos) tb) : PMw X Wx (.BoolOp .Or (a :: b :: rest) pos) (mOr ta tb) := ⟨(pw_or ha.pt hb.pw).imp fun σ H Q ⟨F, pa, p, ρ, gs, s, o⟩ => by
  refine TMt.of gs s (o.bind.mono fun k p1 F1 H1 pa1 gr1 gs1 o1 s1 => ?_)
  cases k with
  | false => simp only [Bool.false_eq_true, if_false] at o1 ⊢; exact ⟨_, _, _, _, gs1, s1, o1⟩
  | true => simp only [if_true] at o1 ⊢; exact o1.ret gs1⟩
theorem pmt_not (ha : PMt X Wx a ta) : PMt X Wx (.UnaryOp .Not a pos) (mNot ta) := ⟨(pt_not ha.pt).imp fun σ H Q ⟨F, pa, p, ρ, gs, s, o⟩ => by
  refine TMt.of gs s (o.bind.mono fun k p1 F1 H1 pa1 gr1 gs1 o1 s1 => ?_)
  exact o1.ret gs1⟩
/-- a bool value as a test -/
def mT (ma : M D) : M Bool := mbind ma fun d => match d with
  | .bl k => mret k
  | _ => mstuck
theorem pmt_val (ha : PM X Wx e ma) (he : ∀ whole, isTrue e X.env whole = (do let v ← whole; standAt e.pos; holding [v] (truthy v)) := by intro _; rfl) : PMt X Wx e (mT ma) := ⟨(pt_val ha.pe he).imp fun σ H Q ⟨F, pa, p, ρ, gs, s, o⟩ => by
  refine TM.of gs s (o.bind.mono fun d p1 F1 H1 pa1 gr1 gs1 o1 s1 v1 r1 => ?_)
  cases d <;> first | exact o1.elim | skip
  cases r1
  exact ⟨_, rfl, o1.ret gs1⟩⟩
/-- and, or, not as values of bools -/
def mAndV (t u : M D) : M D := mbind t fun d => match d with
  | .bl k => if k = true then u else mret (.bl false)
  | _ => mstuck
def mOrV (t u : M D) : M D := mbind t fun d => match d with
  | .bl k => if k = true then mret (.bl true) else u
  | _ => mstuck
def mNotV (t : M D) : M D := mbind t fun d => match d with
  | .bl k => mret (.bl (!k))
  | _ => mstuck
theorem pm_one {op} (ha : PM X Wx a ma) : PM X Wx (.BoolOp op [a] pos) ma := ⟨pe_one ha.pe⟩
theorem pm_and (ha : PM X Wx a ma) (hb : PM X Wx (.BoolOp .And (b :: rest) pos) mb) : PM X Wx (.BoolOp .And (a :: b :: rest) pos) (mAndV ma mb) := ⟨(pe_and ha.pe hb.pe).imp fun σ H Q ⟨F, pa, p, ρ, gs, s, o⟩ => by
  refine TM.of gs s (o.bind.mono fun d p1 F1 H1 pa1 gr1 gs1 o1 s1 v1 r1 => ?_)
  cases d <;> first | exact o1.elim | skip
  rename_i k
  cases r1
  refine ⟨k, rfl, ?_⟩
  cases k with
  | false => simp only [Bool.false_eq_true, if_false] at o1 ⊢; exact o1.ret gs1 _ (.bl false)
  | true => simp only [if_true] at o1 ⊢; exact ⟨_, _, _, _, gs1, s1, o1⟩⟩
theorem pm_or (ha : PM X Wx a ma) (hb : PM X Wx (.BoolOp .Or (b :: rest) pos) mb) : PM X Wx (.BoolOp .Or (a :: b :: rest) pos) (mOrV ma mb) := ⟨(pe_or ha.pe hb.pe).imp fun σ H Q ⟨F, pa, p, ρ, gs, s, o⟩ => by
  refine TM.of gs s (o.bind.mono fun d p1 F1 H1 pa1 gr1 gs1 o1 s1 v1 r1 => ?_)
  cases d <;> first | exact o1.elim | skip
  rename_i k
  cases r1
  refine ⟨k, rfl, ?_⟩
  cases k with
  | false => simp only [Bool.false_eq_true, if_false] at o1 ⊢; exact ⟨_, _, _, _, gs1, s1, o1⟩
  | true => simp only [if_true] at o1 ⊢; exact o1.ret gs1 _ (.bl true)⟩
theorem pm_not (ha : PM X Wx a ma) : PM X Wx (.UnaryOp .Not a pos) (mNotV ma) := ⟨(pe_not ha.pe).imp fun σ H Q ⟨F, pa, p, ρ, gs, s, o⟩ => by
  refine TM.of gs s (o.bind.mono fun d p1 F1 H1 pa1 gr1 gs1 o1 s1 v1 r1 => ?_)
  cases d <;> first | exact o1.elim | skip
  cases r1
  exact ⟨_, rfl, o1.ret gs1 _ (.bl _)⟩⟩
def mIf {α : Type} (t : M Bool) (ma mb : M α) : M α := mbind t fun k => if k = true then ma else mb
theorem pm_if (hc : PMt X Wx c ta) (ha : PM X Wx a ma) (hb : PM X Wx b mb) : PM X Wx (.IfExp c a b pos) (mIf ta ma mb) := ⟨(pe_ifExp hc.pt ha.pe hb.pe).imp fun σ H Q ⟨F, pa, p, ρ, gs, s, o⟩ => by
  refine TMt.of gs s (o.bind.mono fun k p1 F1 H1 pa1 gr1 gs1 o1 s1 => ?_)
  cases k with
  | false => simp only [Bool.false_eq_true, if_false] at o1 ⊢; exact ⟨_, _, _, _, gs1, s1, o1⟩
  | true => simp only [if_true] at o1 ⊢; exact ⟨_, _, _, _, gs1, s1, o1⟩⟩

/-! ### fresh lists, displays, arguments -/
def mfrz (mo : M (List D)) : M D := mbind mo fun ds => mret (.lst ds)
theorem PMo.pm {mo : M (List D)} (h : PMo X Wx e mo) : PM X Wx e (mfrz mo) := ⟨h.pe.imp fun σ H Q ⟨F, pa, p, ρ, gs, s, o⟩ => by
  refine ⟨F, pa, p, ρ, gs, s, ?_⟩
  unfold mfrz mbind at o
  cases q : mo ρ p with
  | stuck => rw [q] at o; exact o
  | exc x p' => rw [q] at o; exact o
  | ok ds p' =>
    rw [q] at o
    intro F1 H1 pa1 gr1 gs1 a vs ha hH hF hp hz rs
    have fz : Fz F1 p'.g pa1 (upd F1 a (.lst vs)) p'.g pa1 := Fz.upd hF
    exact o _ H1 pa1 (gr1.freeze ha hF) (gs1.freeze hH hp) _ (Rep.lst' upd_same hz (rs.mono fz))⟩
end
end PF

namespace PF
open PySem PySem.Spec PyProof.Rows L2

section
variable {X : Cx} {Wx : WX} {a b c e : Expr} {es rest : List Expr} {ma mb mc m : M D} {mo ms : M (List D)} {ta tb : M Bool} {pos : Pos}
/-! ### arguments, displays -/
def mcons (ma : M D) (ms : M (List D)) : M (List D) := mbind ma fun d => mbind ms fun ds => mret (d :: ds)
theorem TMa.of {K : PySem.W.Frag} {mg : Str → Option Value} {σ : L2.St} {F H : Hp} {pa : Option Addr} {p : Pst} {ρ : Sl} {Q : List V → Hp → Prop} (gs : GS F H pa p) (s : SRel K F H p.g pa σ ρ)
    (h : Out K mg Wx σ F H p.g pa (fun ds p' F' H' pa' => SRel K F' H' p'.g pa' σ ρ → ∀ vs, Reps K F' p'.g pa' vs ds → Q vs H') (ms ρ p)) : TMa K mg Wx ms σ H Q :=
  ⟨F, pa, p, ρ, gs, s, h.mono fun _ _ _ _ _ gr _ k v r => k (s.grow gr) v r⟩
theorem pma_nil : PMa X Wx [] (mret []) := ⟨pa_nil.imp fun σ H Q ⟨F, pa, p, ρ, gs, s, o⟩ => o.ret gs _ .nil⟩
theorem pma_cons (ha : PM X Wx e ma) (hr : PMa X Wx es ms) (hs : starEach (e :: es) X.env = (false, eval e X.env) :: starEach es X.env := by rfl) : PMa X Wx (e :: es) (mcons ma ms) := ⟨(pa_cons ha.pe hr.pa hs).imp fun σ H Q ⟨F, pa, p, ρ, gs, s, o⟩ => by
  refine TM.of gs s (o.bind.mono fun d p1 F1 H1 pa1 gr1 gs1 o1 s1 v1 r1 => ?_)
  refine TMa.of gs1 s1 (o1.bind.mono fun ds p2 F2 H2 pa2 gr2 gs2 o2 s2 vs2 rs2 => ?_)
  exact o2.ret gs2 _ (.cons (r1.mono gr2.fz) rs2)⟩
def mlim (ms : M (List D)) : M (List D) := mbind ms fun ds => if ds.length ≤ 4096 then mret ds else mstuck
theorem lim_size {n : Nat} (h : n ≤ 4096) : n ≤ sizeLine := by rw [sizeLine_eq]; omega
theorem pmo_lst (h : PMa X Wx es ms) : PMo X Wx (.List es pos) (mlim ms) := ⟨(pe_lst h.pa).imp fun σ H Q ⟨F, pa, p, ρ, gs, s, o⟩ => by
  refine ⟨F, pa, p, ρ, gs, s, ?_⟩
  unfold mlim mbind at o
  cases q : ms ρ p with
  | stuck => rw [q] at o; exact o
  | exc x p' => rw [q] at o; exact o
  | ok ds p' =>
    rw [q] at o
    simp only at o
    by_cases hc : ds.length ≤ 4096
    · rw [if_pos hc] at o
      intro F1 H1 pa1 gr1 gs1 vs rs
      refine ⟨by rw [rs.1]; exact lim_size hc, fun q hq => ?_⟩
      have hq0 : H q = none := by
        cases z : H q with
        | none => rfl
        | some u => obtain ⟨u', z'⟩ := gr1.there q u z; rw [hq] at z'; cases z'
      exact o F1 _ pa1 (gr1.trans (Gr.allocO hq)) (gs1.allocO hq) q vs hq0 upd_same (gs1.fnone hq) (gs1.pne hq) (lim_size hc) rs
    · rw [if_neg hc] at o; exact o.elim⟩
def mtup (ms : M (List D)) : M D := mbind ms fun ds => if ds.length ≤ 4096 then mret (.tup ds) else mstuck
theorem pm_tup {x1} (h : PMa X Wx es ms) : PM X Wx (.Tuple es x1 pos) (mtup ms) := ⟨(pe_tup h.pa).imp fun σ H Q ⟨F, pa, p, ρ, gs, s, o⟩ => by
  refine TMa.of gs s (o.bind.mono fun ds p1 F1 H1 pa1 gr1 gs1 o1 s1 vs rs => ?_)
  by_cases hc : ds.length ≤ 4096
  · rw [if_pos hc] at o1
    refine ⟨by rw [rs.1]; exact lim_size hc, fun q hq => ?_⟩
    exact o1 _ _ pa1 (Gr.alloc gs1 hq) (gs1.alloc hq) _ (Rep.tup' upd_same (lim_size hc) (rs.mono (Fz.upd (gs1.fnone hq))))
  · rw [if_neg hc] at o1; exact o1.elim⟩
/-- {} -/
theorem pm_emp : PM X Wx (.Dict [] [] pos) (mret .emp) := ⟨pe_dnewK.imp fun σ H Q ⟨F, pa, p, ρ, gs, s, o⟩ => by
  intro q hq
  exact o _ _ pa (Gr.alloc gs hq) (gs.alloc hq) _ (.emp upd_same)⟩

/-! ### items -/
theorem atI_rep {R : V → D → Prop} {vs : List V} {ds : List D} {i : Int} {d : D} (r : AllR R vs ds) (h : atI ds i = some d) : ∃ v, atI vs i = some v ∧ R v d := by
  unfold atI at h ⊢
  rw [r.1]
  cases q : ixN ds.length i with
  | none => rw [q] at h; cases h
  | some j =>
    rw [q] at h
    exact r.get h
def dIx : D → D → Option D
  | .lst ds, .int i => atI ds i
  | .tup ds, .int i => atI ds i
  | .scr ns, .int i => (atI ns i).map .int
  | .str s, .int i => if s.length ≤ sizeLine then (atI s.cps.toList i).map (fun c => .str ⟨#[c]⟩) else none
  | _, _ => none
theorem atI_map {α β : Type} (f : α → β) (xs : List α) (i : Int) : atI (xs.map f) i = (atI xs i).map f := by
  unfold atI
  rw [List.length_map]
  cases ixN xs.length i with
  | none => rfl
  | some j => simp
theorem ops_ix : OpS X (rIx X.K) dIx := by
  intro x y d e z F H p pa Q gs rx ry ez k
  cases d <;> cases e <;> first | (simp [dIx] at ez; done) | skip
  all_goals cases ry
  all_goals simp only [dIx] at ez
  · -- a text
    split at ez
    · rename_i s i hc
      cases q : atI s.cps.toList i with
      | none => rw [q] at ez; cases ez
      | some c =>
        rw [q] at ez
        simp only [Option.map_some, Option.some.injEq] at ez
        subst ez
        cases rx
        exact .inr (.inr ⟨_, _, c, rfl, rfl, hc, q, k _ _ _ .refl gs (.str _)⟩)
    · cases ez
  · obtain ⟨l, xs, rfl, hl, hzr1, r1⟩ := rx.lstH gs
    obtain ⟨v, e1, r2⟩ := atI_rep r1 ez
    exact .inl ⟨l, xs, _, v, rfl, rfl, SqL.of hl, e1, k _ _ _ .refl gs r2⟩
  · obtain ⟨l, xs, rfl, hl, hzr1, r1⟩ := rx.tupH gs
    obtain ⟨v, e1, r2⟩ := atI_rep r1 ez
    exact .inr (.inl ⟨l, xs, _, v, rfl, rfl, SqT.of hl, e1, k _ _ _ .refl gs r2⟩)
  · rename_i ns i
    cases rx with
    | scr hs =>
      cases q : atI ns i with
      | none => rw [q] at ez; cases ez
      | some n =>
        rw [q] at ez
        simp only [Option.map_some, Option.some.injEq] at ez
        subst ez
        exact .inl ⟨_, _, _, .int n, rfl, rfl, sqL_mono gs.sub hs, by rw [atI_map, q]; rfl, k _ _ _ .refl gs (.int _)⟩
/-- an item of the pot -/
def ixPot (k : Nat) (y : D) : M D := fun _ p => if k = p.g then (match y with
  | .int 0 => .ok (.int p.a) p
  | .int 1 => .ok (.int p.b) p
  | _ => .stuck) else .stuck
def ixAny (x y : D) : M D := match x with
  | .pot k => ixPot k y
  | d => mopt (dIx d y)
def mIx (ma mb : M D) : M D := mbind ma fun x => mbind mb fun y => ixAny x y
theorem pm_ix (ha : PM X Wx a ma) (hb : PM X Wx b mb) (hs : PlainIx b := by exact fun _ _ => rfl) : PM X Wx (.Subscript a b pos) (mIx ma mb) := ⟨(pe_ix ix_seq ha.pe hb.pe hs).imp fun σ H Q ⟨F, pa, p, ρ, gs, s, o⟩ => by
  refine TM.of gs s (o.bind.mono fun d p1 F1 H1 pa1 gr1 gs1 o1 s1 v1 r1 => ?_)
  refine TM.of gs1 s1 (o1.bind.mono fun e p2 F2 H2 pa2 gr2 gs2 o2 s2 v2 r2 => ?_)
  unfold ixAny at o2
  have r1' := r1.mono gr2.fz
  clear r1
  split at o2
  · unfold ixPot at o2
    split at o2
    · rename_i hk
      cases r1' with
      | pot h1 h2 =>
        obtain ⟨a, e1, rfl⟩ := h2 hk
        obtain ⟨h3, _⟩ := gs2.pot a e1
        split at o2
        · cases r2
          exact .inl ⟨a, _, 0, .int p2.a, rfl, rfl, SqL.of h3, rfl, o2.ret gs2 _ (.int _)⟩
        · cases r2
          exact .inl ⟨a, _, 1, .int p2.b, rfl, rfl, SqL.of h3, rfl, o2.ret gs2 _ (.int _)⟩
        · exact o2.elim
    · exact o2.elim
  · obtain ⟨z, ez, o3⟩ := o2.opt
    exact ops_ix v1 v2 d e z F2 H2 p2 pa2 Q gs2 r1' r2 ez fun v F3 H3 gr3 gs3 r3 => o3 F3 H3 pa2 gr3 gs3 v r3⟩

/-! ### slices -/
def cutA {α : Type} (xs : List α) (lo hi : Option Int) : List α := (xs.drop (HT.sIx xs.length 0 lo)).take (HT.sIx xs.length xs.length hi - HT.sIx xs.length 0 lo)
theorem AllR.cut {α β : Type} {R : α → β → Prop} {xs : List α} {ys : List β} (r : AllR R xs ys) (lo hi : Option Int) : AllR R (cutA xs lo hi) (cutA ys lo hi) := by
  unfold cutA
  rw [r.1]
  exact (r.drop _).take _
theorem cutA_len {α : Type} (xs : List α) (lo hi : Option Int) : (cutA xs lo hi).length ≤ xs.length := by
  unfold cutA
  rw [List.length_take, List.length_drop]
  omega
/-- a bound of a slice -/
def TMO (K : PySem.W.Frag) (mg : Str → Option Value) (Wx : WX) (m : M (Option Int)) : L2.St → Hp → (Option Int → Hp → Prop) → Prop := fun σ H Q => At K mg Wx m σ H fun _ _ o p' F' H' pa' => Q o H'
structure PMO (X : Cx) (Wx : WX) (e : Option Expr) (m : M (Option Int)) : Prop where
  po : PO X e (TMO X.K X.mg Wx m)
def mPart (ma : M D) : M (Option Int) := mbind ma fun d => match d with
  | .int i => mret (some i)
  | _ => mstuck
theorem pmO_none : PMO X Wx none (mret none) := ⟨⟨fun pins s σ H Q I ⟨F, pa, p, ρ, gs, sr, o⟩ => po_none.run pins s σ H Q I (o.ret gs)⟩⟩
theorem pmO_some (ha : PM X Wx e ma) : PMO X Wx (some e) (mPart ma) := ⟨⟨fun pins s σ H Q I ⟨F, pa, p, ρ, gs, sr, o⟩ => (po_some ha.pe).run pins s σ H Q I (by
  refine TM.of gs sr (o.bind.mono fun d p1 F1 H1 pa1 gr1 gs1 o1 s1 v1 r1 => ?_)
  cases d <;> first | exact o1.elim | skip
  cases r1
  exact ⟨_, rfl, o1.ret gs1⟩)⟩⟩
theorem TMO.of {K : PySem.W.Frag} {mg : Str → Option Value} {t : M (Option Int)} {σ : L2.St} {F H : Hp} {pa : Option Addr} {p : Pst} {ρ : Sl} {Q : Option Int → Hp → Prop} (gs : GS F H pa p) (s : SRel K F H p.g pa σ ρ)
    (h : Out K mg Wx σ F H p.g pa (fun d p' F' H' pa' => SRel K F' H' p'.g pa' σ ρ → Q d H') (t ρ p)) : TMO K mg Wx t σ H Q :=
  ⟨F, pa, p, ρ, gs, s, h.mono fun _ _ _ _ _ gr _ k => k (s.grow gr)⟩
def dSl (d : D) (lo hi : Option Int) : Option D := match d with
  | .lst xs => some (.lst (cutA xs lo hi))
  | .tup xs => some (.tup (cutA xs lo hi))
  | _ => none
def mSl (me : M D) (ml mh : M (Option Int)) : M D := mbind me fun d => mbind ml fun lo => mbind mh fun hi => mopt (dSl d lo hi)
theorem cut_whole {α : Type} {xs : List α} {lo hi : Option Int} (h : HT.sIx xs.length 0 lo = 0 ∧ HT.sIx xs.length xs.length hi = xs.length) : cutA xs lo hi = xs := by
  unfold cutA
  rw [h.1, h.2]
  simp
variable {ml mh : M (Option Int)} {lo hi : Option Expr} {p2 : Pos}
theorem pm_sl (he : PM X Wx e m) (hl : PMO X Wx lo ml) (hh : PMO X Wx hi mh) : PM X Wx (.Subscript e (.Slice lo hi none p2) pos) (mSl m ml mh) := ⟨(pe_slice (SlR.or sl_list sl_tupA) he.pe hl.po hh.po).imp fun σ H Q ⟨F, pa, p, ρ, gs, s, o⟩ => by
  refine TM.of gs s (o.bind.mono fun d p1 F1 H1 pa1 gr1 gs1 o1 s1 v1 r1 => ?_)
  refine TMO.of gs1 s1 (o1.bind.mono fun l p2 F2 H2 pa2 gr2 gs2 o2 s2 => ?_)
  refine TMO.of gs2 s2 (o2.bind.mono fun u p3 F3 H3 pa3 gr3 gs3 o3 s3 => ?_)
  have r1 := (r1.mono gr2.fz).mono gr3.fz
  obtain ⟨z, ez, o4⟩ := o3.opt
  cases d <;> first | (simp [dSl] at ez; done) | skip
  · simp only [dSl, Option.some.injEq] at ez
    subst ez
    obtain ⟨a, xs, rfl, hl, hzrs, rs⟩ := r1.lstH gs3
    refine .inl ⟨a, xs, rfl, SqL.of hl, fun q hq => ?_⟩
    exact o4 _ _ pa3 (Gr.alloc gs3 hq) (gs3.alloc hq) _ (Rep.lst' upd_same (Nat.le_trans (cutA_len _ _ _) hzrs) ((rs.cut l u).mono fun _ _ h => h.mono (Fz.upd (gs3.fnone hq))))
  · simp only [dSl, Option.some.injEq] at ez
    subst ez
    have r1' := r1
    obtain ⟨a, xs, rfl, hl, hzrs, rs⟩ := r1.tupH gs3
    refine .inr ⟨a, xs, rfl, SqT.of hl, fun hw => ?_, fun hw q hq => ?_⟩
    · rw [rs.1] at hw
      exact o4.ret gs3 _ (by rw [cut_whole hw]; exact r1')
    · exact o4 _ _ pa3 (Gr.alloc gs3 hq) (gs3.alloc hq) _ (Rep.tup' upd_same (Nat.le_trans (cutA_len _ _ _) hzrs) ((rs.cut l u).mono fun _ _ h => h.mono (Fz.upd (gs3.fnone hq))))⟩
/-- a slice of a list, fresh -/
def mSlo (me : M D) (ml mh : M (Option Int)) : M (List D) := mbind me fun d => mbind ml fun lo => mbind mh fun hi => match d with
  | .lst xs => mret (cutA xs lo hi)
  | _ => mstuck
theorem Gr.free0 {F H F' H' : Hp} {g g' : Nat} {pa pa' : Option Addr} (gr : Gr F H g pa F' H' g' pa') {q : Addr} (hq : H' q = none) : H q = none := by
  cases z : H q with
  | none => rfl
  | some u => obtain ⟨u', z'⟩ := gr.there q u z; rw [hq] at z'; cases z'
/-- the last step makes a fresh list -/
theorem out_fresh {K : PySem.W.Frag} {mg : Str → Option Value} {σ : L2.St} {F H F1 H1 : Hp} {pa pa1 : Option Addr} {p p1 : Pst} {Q : VK} {ds : List D} (gr : Gr F H p.g pa F1 H1 p1.g pa1) (gs : GS F1 H1 pa1 p1)
    (o : Out K mg Wx σ F H p.g pa (fun ds p' F' H' pa' => ∀ a vs, H a = none → H' a = some (.lst vs) → F' a = none → pa' ≠ some a → ds.length ≤ sizeLine → Reps K F' p'.g pa' vs ds → Q (.ref a) H') (.ok ds p1)) {q : Addr} (hq : H1 q = none) {vs : List V} (hz : ds.length ≤ sizeLine) (rs : Reps K F1 p1.g pa1 vs ds) : Q (.ref q) (upd H1 q (.lst vs)) :=
  o F1 _ pa1 (gr.trans (Gr.allocO hq)) (gs.allocO hq) q vs (gr.free0 hq) upd_same (gs.fnone hq) (gs.pne hq) hz rs
theorem mbind_ok {α β : Type} {m : M α} {k : α → M β} {ρ : Sl} {p p' : Pst} {a : α} (h : m ρ p = .ok a p') : mbind m k ρ p = k a ρ p' := by
  unfold mbind; rw [h]
/-- where all but the last step's result is wanted: the steps in a row, from the start on -/
theorem Out.bindS {α β : Type} {K : PySem.W.Frag} {mg : Str → Option Value} {σ : L2.St} {F H F0 H0 : Hp} {g g0 : Nat} {pa pa0 : Option Addr} {P : β → Pst → Hp → Hp → Option Addr → Prop} {m : M α} {k : α → M β} {ρ : Sl} {p : Pst}
    (x : Gr F0 H0 g0 pa0 F H g pa) (h : Out K mg Wx σ F0 H0 g0 pa0 P (mbind m k ρ p)) :
    Out K mg Wx σ F H g pa (fun a p' F' H' pa' => Gr F0 H0 g0 pa0 F' H' p'.g pa' ∧ Out K mg Wx σ F0 H0 g0 pa0 P (k a ρ p')) (m ρ p) := by
  unfold mbind at h
  cases e : m ρ p with
  | stuck => rw [e] at h; exact h
  | exc x' p' => rw [e] at h; exact fun cls dd F' H' pa' gr gs r => h cls dd F' H' pa' (x.trans gr) gs r
  | ok a p' =>
    rw [e] at h
    exact fun F' H' pa' gr gs => ⟨x.trans gr, h⟩
theorem pmo_sl (he : PM X Wx e m) (hl : PMO X Wx lo ml) (hh : PMO X Wx hi mh) : PMo X Wx (.Subscript e (.Slice lo hi none p2) pos) (mSlo m ml mh) := ⟨(pe_slice sl_list he.pe hl.po hh.po).imp fun σ H Q ⟨F, pa, p, ρ, gs, s, o⟩ => by
  refine TM.of gs s ((Out.bindS .refl o).mono fun d p1 F1 H1 pa1 _ gs1 ⟨gr1, o1⟩ s1 v1 r1 => ?_)
  refine TMO.of gs1 s1 ((Out.bindS gr1 o1).mono fun l p2 F2 H2 pa2 gr2' gs2 ⟨gr2, o2⟩ s2 => ?_)
  refine TMO.of gs2 s2 ((Out.bindS gr2 o2).mono fun u p3 F3 H3 pa3 gr3' gs3 ⟨gr3, o3⟩ s3 => ?_)
  have r1 := (r1.mono gr2'.fz).mono gr3'.fz
  cases d <;> first | exact o3.elim | skip
  obtain ⟨a, xs, rfl, hl, hzrs, rs⟩ := r1.lstH gs3
  exact ⟨a, xs, rfl, SqL.of hl, fun q hq => out_fresh gr3 gs3 o3 hq (Nat.le_trans (cutA_len _ _ _) hzrs) (rs.cut l u)⟩⟩
/-- xs[::-1] -/
def mRevo (me : M D) : M (List D) := mbind me fun d => match d with
  | .lst xs => mret xs.reverse
  | _ => mstuck
theorem pmo_rev {k : Nat} {p1 p2 p3 : Pos} (he : PM X Wx e m) : PMo X Wx (.Subscript e (.Slice none none (some (.UnaryOp .USub (.Constant (.int 1) k p1) p2)) p3) pos) (mRevo m) := ⟨(pe_revL he.pe).imp fun σ H Q ⟨F, pa, p, ρ, gs, s, o⟩ => by
  refine TM.of gs s ((Out.bindS .refl o).mono fun d p1 F1 H1 pa1 _ gs1 ⟨gr1, o1⟩ s1 v1 r1 => ?_)
  cases d <;> first | exact o1.elim | skip
  obtain ⟨a, xs, rfl, hl, hzrs, rs⟩ := r1.lstH gs1
  exact ⟨a, xs, rfl, SqL.of hl, fun q hq => out_fresh gr1 gs1 o1 hq (by rw [List.length_reverse]; exact hzrs) rs.reverse⟩⟩

/-! ### calls of built-ins -/
def CallS (X : Cx) (r : List V → Hp → VK → Prop) (f : List D → Option D) : Prop := ∀ (xs : List V) (ds : List D) (z : D) (F H : Hp) (p : Pst) (pa : Option Addr) (Q : VK), GS F H pa p → Reps X.K F p.g pa xs ds → f ds = some z →
  (∀ v F' H', Gr F H p.g pa F' H' p.g pa → GS F' H' pa p → Rep X.K F' p.g pa v z → Q v H') → r xs H Q
def mCall (f : List D → Option D) (ms : M (List D)) : M D := mbind ms fun ds => mopt (f ds)
theorem tm_call {r : List V → Hp → VK → Prop} {f : List D → Option D} (hs : CallS X r f) : ∀ σ H Q, TM X.K X.mg Wx (mCall f ms) σ H Q → tCB r (TMa X.K X.mg Wx ms) σ H Q := fun σ H Q ⟨F, pa, p, ρ, gs, s, o⟩ => by
  refine TMa.of gs s (o.bind.mono fun ds p1 F1 H1 pa1 gr1 gs1 o1 s1 vs rs => ?_)
  obtain ⟨z, ez, o2⟩ := o1.opt
  exact hs vs ds z F1 H1 p1 pa1 Q gs1 rs ez fun v F3 H3 gr3 gs3 r3 => o2 F3 H3 pa1 gr3 gs3 v r3
variable {bid T : String} {x : Str} {p : Pos}
theorem pm_callB {r : List V → Hp → VK → Prop} {f : List D → Option D} (hc : CallR X (.builtin bid) r) (hs : CallS X r f) (hg : Gl X x) (hm : X.mg x = none) (hv : bootBuiltins x = some (.builtin bid)) (ha : PMa X Wx (e :: es) ms) (hn : x ≠ "__name__" := by decide) (hdb : (x == ("__debug__" : Str)) = false := by decide)
    (he : starEach (e :: es) X.env = (false, eval e X.env) :: starEach es X.env := by rfl) (hpl : (backTo pos (starEach es X.env)).any (·.1) = false := by rfl) : PM X Wx (.Call (.Name x p) (e :: es) [] pos) (mCall f ms) :=
  ⟨(pe_callB hc hg hm hv ha.pa hn hdb he hpl).imp (tm_call hs)⟩
theorem pm_callTy {r : List V → Hp → VK → Prop} {f : List D → Option D} (hc : CallR X (.type T) r) (hs : CallS X r f) (hg : Gl X x) (hm : X.mg x = none) (hv : bootBuiltins x = some (.type T)) (ha : PMa X Wx (e :: es) ms) (hn : x ≠ "__name__" := by decide) (hdb : (x == ("__debug__" : Str)) = false := by decide)
    (he : starEach (e :: es) X.env = (false, eval e X.env) :: starEach es X.env := by rfl) (hpl : (backTo pos (starEach es X.env)).any (·.1) = false := by rfl) : PM X Wx (.Call (.Name x p) (e :: es) [] pos) (mCall f ms) :=
  ⟨(pe_callTy hc hg hm hv ha.pa hn hdb he hpl).imp (tm_call hs)⟩
theorem reps1 {K : PySem.W.Frag} {F : Hp} {g : Nat} {pa : Option Addr} {xs : List V} {d : D} (r : Reps K F g pa xs [d]) : ∃ v, xs = [v] ∧ Rep K F g pa v d := by
  rcases r.cases with ⟨_, h⟩ | ⟨x, y, xs', ys', rfl, h, r1, r2⟩
  · cases h
  · cases h
    rcases r2.cases with ⟨rfl, _⟩ | ⟨_, _, _, _, _, h, _⟩
    · exact ⟨x, rfl, r1⟩
    · cases h
theorem reps2 {K : PySem.W.Frag} {F : Hp} {g : Nat} {pa : Option Addr} {xs : List V} {d e : D} (r : Reps K F g pa xs [d, e]) : ∃ v w, xs = [v, w] ∧ Rep K F g pa v d ∧ Rep K F g pa w e := by
  rcases r.cases with ⟨_, h⟩ | ⟨x, y, xs', ys', rfl, h, r1, r2⟩
  · cases h
  · cases h
    obtain ⟨v, rfl, r3⟩ := reps1 r2
    exact ⟨x, v, rfl, r1, r3⟩
def dLen : List D → Option D
  | [.lst xs] => some (.int xs.length)
  | [.tup xs] => some (.int xs.length)
  | [.scr xs] => some (.int xs.length)
  | [.str x] => if x.length ≤ sizeLine then some (.int x.length) else none
  | _ => none
theorem calls_len : CallS X (fun xs H Q => ∃ x n, xs = [x] ∧ LenV X.K x H n ∧ Q (.int n) H) dLen := by
  intro xs ds z F H p pa Q gs rs ez k
  unfold dLen at ez
  split at ez <;> first | (cases ez; done) | skip
  · obtain ⟨v, rfl, r⟩ := reps1 rs
    obtain ⟨a, vs, rfl, h, hzr2, r2⟩ := r.lstH gs
    simp only [Option.some.injEq] at ez
    subst ez
    exact ⟨_, vs.length, rfl, .inl ⟨vs, SqL.of h, rfl⟩, by rw [r2.1]; exact k _ _ _ .refl gs (.int _)⟩
  · obtain ⟨v, rfl, r⟩ := reps1 rs
    obtain ⟨a, vs, rfl, h, hzr2, r2⟩ := r.tupH gs
    simp only [Option.some.injEq] at ez
    subst ez
    exact ⟨_, vs.length, rfl, .inr ⟨vs, SqT.of h, rfl⟩, by rw [r2.1]; exact k _ _ _ .refl gs (.int _)⟩
  · obtain ⟨v, rfl, r⟩ := reps1 rs
    simp only [Option.some.injEq] at ez
    subst ez
    cases r with
    | scr hs => exact ⟨_, _, rfl, .inl ⟨_, sqL_mono gs.sub hs, rfl⟩, by rw [List.length_map]; exact k _ _ _ .refl gs (.int _)⟩
  · split at ez
    · rename_i hc
      obtain ⟨v, rfl, r⟩ := reps1 rs
      cases r
      simp only [Option.some.injEq] at ez
      subst ez
      exact ⟨_, _, rfl, ⟨hc, rfl⟩, k _ _ _ .refl gs (.int _)⟩
    · cases ez
def dAbs : List D → Option D
  | [.int i] => some (.int (if i < 0 then -i else i))
  | _ => none
theorem calls_abs : CallS X (fun xs H Q => ∃ i, xs = [.int i] ∧ Q (.int (if i < 0 then -i else i)) H) dAbs := by
  intro xs ds z F H p pa Q gs rs ez k
  unfold dAbs at ez
  split at ez <;> first | (cases ez; done) | skip
  obtain ⟨v, rfl, r⟩ := reps1 rs
  cases r
  simp only [Option.some.injEq] at ez
  subst ez
  exact ⟨_, rfl, k _ _ _ .refl gs (.int _)⟩
def dInt : List D → Option D
  | [.int i] => some (.int i)
  | [.bl b] => some (.int (if b then 1 else 0))
  | _ => none
theorem calls_int : CallS X (fun xs H Q => (∃ i, xs = [.int i] ∧ Q (.int i) H) ∨ ∃ k, xs = [.bl k] ∧ Q (.int (if k then 1 else 0)) H) dInt := by
  intro xs ds z F H p pa Q gs rs ez k
  unfold dInt at ez
  split at ez <;> first | (cases ez; done) | skip
  · obtain ⟨v, rfl, r⟩ := reps1 rs
    cases r
    simp only [Option.some.injEq] at ez
    subst ez
    exact .inl ⟨_, rfl, k _ _ _ .refl gs (.int _)⟩
  · obtain ⟨v, rfl, r⟩ := reps1 rs
    cases r
    simp only [Option.some.injEq] at ez
    subst ez
    exact .inr ⟨_, rfl, k _ _ _ .refl gs (.int _)⟩
def dDivmod : List D → Option D
  | [.int i, .int j] => if 0 < j ∧ j < 1073741824 then some (.tup [.int (i / j), .int (i % j)]) else none
  | _ => none
theorem calls_divmod : CallS X (fun xs H Q => ∃ i j, xs = [.int i, .int j] ∧ CDiv i j ∧ ∀ p, H p = none → Q (.ref p) (upd H p (.tup [.int (i / j), .int (i % j)]))) dDivmod := by
  intro xs ds z F H p pa Q gs rs ez k
  unfold dDivmod at ez
  split at ez <;> first | (cases ez; done) | skip
  split at ez
  · rename_i hc
    obtain ⟨v, w, rfl, r1, r2⟩ := reps2 rs
    cases r1; cases r2
    simp only [Option.some.injEq] at ez
    subst ez
    refine ⟨_, _, rfl, hc, fun q hq => ?_⟩
    exact k _ _ _ (Gr.alloc gs hq) (gs.alloc hq) (Rep.tup' upd_same (lim_size (by show 2 ≤ 4096; decide)) (.cons (.int _) (.cons (.int _) .nil)))
  · cases ez
def intsOf : List D → Option (List Int)
  | [] => some []
  | .int i :: r => (intsOf r).map (i :: ·)
  | _ :: _ => none
theorem intsOf_map (ns : List Int) : intsOf (ns.map .int) = some ns := by
  induction ns with
  | nil => rfl
  | cons n ns ih => simp [intsOf, ih]
theorem reps_ints {K : PySem.W.Frag} {F : Hp} {g : Nat} {pa : Option Addr} : ∀ {vs : List V} {ds : List D} {ns : List Int}, Reps K F g pa vs ds → intsOf ds = some ns → vs = ns.map V.int
  | [], [], ns, _, h => by simp [intsOf] at h; subst h; rfl
  | [], _ :: _, _, r, _ => by have := r.1; simp at this
  | _ :: _, [], _, r, _ => by have := r.1; simp at this
  | v :: vs, d :: ds, ns, r, h => by
    cases d <;> first | (simp [intsOf] at h; done) | skip
    simp only [intsOf] at h
    cases q : intsOf ds with
    | none => rw [q] at h; cases h
    | some ms =>
      rw [q] at h
      simp only [Option.map_some, Option.some.injEq] at h
      subst h
      have r1 := r.head
      cases r1
      rw [reps_ints r.tail q]; rfl
def bsOf : List D → Option (List Bool)
  | [] => some []
  | .bl i :: r => (bsOf r).map (i :: ·)
  | _ :: _ => none
theorem bsOf_map (ns : List Bool) : bsOf (ns.map .bl) = some ns := by
  induction ns with
  | nil => rfl
  | cons n ns ih => simp [bsOf, ih]
theorem reps_bs {K : PySem.W.Frag} {F : Hp} {g : Nat} {pa : Option Addr} : ∀ {vs : List V} {ds : List D} {ns : List Bool}, Reps K F g pa vs ds → bsOf ds = some ns → vs = ns.map V.bl
  | [], [], ns, _, h => by simp [bsOf] at h; subst h; rfl
  | [], _ :: _, _, r, _ => by have := r.1; simp at this
  | _ :: _, [], _, r, _ => by have := r.1; simp at this
  | v :: vs, d :: ds, ns, r, h => by
    cases d <;> first | (simp [bsOf] at h; done) | skip
    simp only [bsOf] at h
    cases q : bsOf ds with
    | none => rw [q] at h; cases h
    | some ms =>
      rw [q] at h
      simp only [Option.map_some, Option.some.injEq] at h
      subst h
      have r1 := r.head
      cases r1
      rw [reps_bs r.tail q]; rfl
def dSum : List D → Option D
  | [.lst xs] => (intsOf xs).map fun ns => .int ns.sum
  | _ => none
theorem calls_sum : CallS X (rSum X.K) dSum := by
  intro xs ds z F H p pa Q gs rs ez k
  unfold dSum at ez
  split at ez <;> first | (cases ez; done) | skip
  rename_i ys
  obtain ⟨v, rfl, r⟩ := reps1 rs
  obtain ⟨a, vs, rfl, h, hzr2, r2⟩ := r.lstH gs
  cases q : intsOf ys with
  | none => rw [q] at ez; cases ez
  | some ns =>
    rw [q] at ez
    simp only [Option.map_some, Option.some.injEq] at ez
    subst ez
    exact ⟨a, ns, rfl, SqL.of (by rw [← reps_ints r2 q]; exact h), k _ _ _ .refl gs (.int _)⟩
def dAll : List D → Option D
  | [.lst xs] => (bsOf xs).map fun ns => .bl (ns.all id)
  | _ => none
def dAny : List D → Option D
  | [.lst xs] => (bsOf xs).map fun ns => .bl (ns.any id)
  | _ => none
theorem calls_all : CallS X (rAll X.K) dAll := by
  intro xs ds z F H p pa Q gs rs ez k
  unfold dAll at ez
  split at ez <;> first | (cases ez; done) | skip
  rename_i ys
  obtain ⟨v, rfl, r⟩ := reps1 rs
  obtain ⟨a, vs, rfl, h, hzr2, r2⟩ := r.lstH gs
  cases q : bsOf ys with
  | none => rw [q] at ez; cases ez
  | some ns =>
    rw [q] at ez
    simp only [Option.map_some, Option.some.injEq] at ez
    subst ez
    exact ⟨a, ns, rfl, SqL.of (by rw [← reps_bs r2 q]; exact h), k _ _ _ .refl gs (.bl _)⟩
theorem calls_any : CallS X (rAny X.K) dAny := by
  intro xs ds z F H p pa Q gs rs ez k
  unfold dAny at ez
  split at ez <;> first | (cases ez; done) | skip
  rename_i ys
  obtain ⟨v, rfl, r⟩ := reps1 rs
  obtain ⟨a, vs, rfl, h, hzr2, r2⟩ := r.lstH gs
  cases q : bsOf ys with
  | none => rw [q] at ez; cases ez
  | some ns =>
    rw [q] at ez
    simp only [Option.map_some, Option.some.injEq] at ez
    subst ez
    exact ⟨a, ns, rfl, SqL.of (by rw [← reps_bs r2 q]; exact h), k _ _ _ .refl gs (.bl _)⟩
/-- greatest, least -/
def maxI : List Int → Int
  | [] => 0
  | [x] => x
  | x :: xs => max x (maxI xs)
def minI : List Int → Int
  | [] => 0
  | [x] => x
  | x :: xs => min x (minI xs)
theorem maxI_spec : ∀ {ns : List Int}, ns ≠ [] → maxI ns ∈ ns ∧ ∀ y ∈ ns, y ≤ maxI ns
  | [], h => absurd rfl h
  | [x], _ => by simp [maxI]
  | x :: y :: r, _ => by
    obtain ⟨h1, h2⟩ := maxI_spec (ns := y :: r) (by simp)
    have e : maxI (x :: y :: r) = max x (maxI (y :: r)) := by simp [maxI]
    rw [e]
    constructor
    · by_cases hx : x ≤ maxI (y :: r)
      · rw [show max x (maxI (y :: r)) = maxI (y :: r) by omega]; exact List.mem_cons_of_mem _ h1
      · rw [show max x (maxI (y :: r)) = x by omega]; exact List.mem_cons_self
    · intro z hz
      rcases List.mem_cons.mp hz with rfl | hz
      · omega
      · have := h2 z hz; omega
theorem minI_spec : ∀ {ns : List Int}, ns ≠ [] → minI ns ∈ ns ∧ ∀ y ∈ ns, minI ns ≤ y
  | [], h => absurd rfl h
  | [x], _ => by simp [minI]
  | x :: y :: r, _ => by
    obtain ⟨h1, h2⟩ := minI_spec (ns := y :: r) (by simp)
    have e : minI (x :: y :: r) = min x (minI (y :: r)) := by simp [minI]
    rw [e]
    constructor
    · by_cases hx : minI (y :: r) ≤ x
      · rw [show min x (minI (y :: r)) = minI (y :: r) by omega]; exact List.mem_cons_of_mem _ h1
      · rw [show min x (minI (y :: r)) = x by omega]; exact List.mem_cons_self
    · intro z hz
      rcases List.mem_cons.mp hz with rfl | hz
      · omega
      · have := h2 z hz; omega
def dMax1 : List D → Option D
  | [.lst xs] => (intsOf xs).bind fun ns => if ns = [] then none else some (.int (maxI ns))
  | _ => none
def dMin1 : List D → Option D
  | [.lst xs] => (intsOf xs).bind fun ns => if ns = [] then none else some (.int (minI ns))
  | _ => none
theorem calls_max1 : CallS X (rMax X.K) dMax1 := by
  intro xs ds z F H p pa Q gs rs ez k
  unfold dMax1 at ez
  split at ez <;> first | (cases ez; done) | skip
  rename_i ys
  obtain ⟨v, rfl, r⟩ := reps1 rs
  obtain ⟨a, vs, rfl, h, hzr2, r2⟩ := r.lstH gs
  cases q : intsOf ys with
  | none => rw [q] at ez; cases ez
  | some ns =>
    rw [q] at ez
    simp only [Option.bind_some] at ez
    split at ez
    · cases ez
    · rename_i hne
      simp only [Option.some.injEq] at ez
      subst ez
      refine ⟨a, ns, rfl, SqL.of (by rw [← reps_ints r2 q]; exact h), List.length_pos_iff.mpr hne, fun m hm hle => ?_⟩
      obtain ⟨h1, h2⟩ := maxI_spec hne
      have : m = maxI ns := by have a1 := hle _ h1; have a2 := h2 _ hm; omega
      rw [this]
      exact k _ _ _ .refl gs (.int _)
theorem calls_min1 : CallS X (rMin X.K) dMin1 := by
  intro xs ds z F H p pa Q gs rs ez k
  unfold dMin1 at ez
  split at ez <;> first | (cases ez; done) | skip
  rename_i ys
  obtain ⟨v, rfl, r⟩ := reps1 rs
  obtain ⟨a, vs, rfl, h, hzr2, r2⟩ := r.lstH gs
  cases q : intsOf ys with
  | none => rw [q] at ez; cases ez
  | some ns =>
    rw [q] at ez
    simp only [Option.bind_some] at ez
    split at ez
    · cases ez
    · rename_i hne
      simp only [Option.some.injEq] at ez
      subst ez
      refine ⟨a, ns, rfl, SqL.of (by rw [← reps_ints r2 q]; exact h), List.length_pos_iff.mpr hne, fun m hm hle => ?_⟩
      obtain ⟨h1, h2⟩ := minI_spec hne
      have : m = minI ns := by have a1 := hle _ h1; have a2 := h2 _ hm; omega
      rw [this]
      exact k _ _ _ .refl gs (.int _)
def dMax2 : List D → Option D
  | [.int i, .int j] => some (.int (if j > i then j else i))
  | _ => none
def dMin2 : List D → Option D
  | [.int i, .int j] => some (.int (if j < i then j else i))
  | _ => none
theorem calls_max2 : CallS X (fun xs H Q => ∃ i j, xs = [.int i, .int j] ∧ Q (.int (if j > i then j else i)) H) dMax2 := by
  intro xs ds z F H p pa Q gs rs ez k
  unfold dMax2 at ez
  split at ez <;> first | (cases ez; done) | skip
  obtain ⟨v, w, rfl, r1, r2⟩ := reps2 rs
  cases r1; cases r2
  simp only [Option.some.injEq] at ez
  subst ez
  exact ⟨_, _, rfl, k _ _ _ .refl gs (.int _)⟩
theorem calls_min2 : CallS X (fun xs H Q => ∃ i j, xs = [.int i, .int j] ∧ Q (.int (if j < i then j else i)) H) dMin2 := by
  intro xs ds z F H p pa Q gs rs ez k
  unfold dMin2 at ez
  split at ez <;> first | (cases ez; done) | skip
  obtain ⟨v, w, rfl, r1, r2⟩ := reps2 rs
  cases r1; cases r2
  simp only [Option.some.injEq] at ez
  subst ez
  exact ⟨_, _, rfl, k _ _ _ .refl gs (.int _)⟩
/-- tuple(x) -/
def dTuple : List D → Option D
  | [.lst xs] => some (.tup xs)
  | [.tup xs] => some (.tup xs)
  | _ => none
theorem calls_tuple : CallS X (fun xs H Q => ∃ p ys, xs = [.ref p] ∧ ((SqL X.K H p ys ∧ ∀ l, H l = none → Q (.ref l) (upd H l (.tup ys))) ∨ (SqT X.K H p ys ∧ Q (.ref p) H))) dTuple := by
  intro xs ds z F H p pa Q gs rs ez k
  unfold dTuple at ez
  split at ez <;> first | (cases ez; done) | skip
  · obtain ⟨v, rfl, r⟩ := reps1 rs
    obtain ⟨a, vs, rfl, h, hzr2, r2⟩ := r.lstH gs
    simp only [Option.some.injEq] at ez
    subst ez
    exact ⟨a, vs, rfl, .inl ⟨SqL.of h, fun q hq => k _ _ _ (Gr.alloc gs hq) (gs.alloc hq) (Rep.tup' upd_same hzr2 (r2.mono (Fz.upd (gs.fnone hq))))⟩⟩
  · obtain ⟨v, rfl, r⟩ := reps1 rs
    have r' := r
    obtain ⟨a, vs, rfl, h, hzr2, r2⟩ := r.tupH gs
    simp only [Option.some.injEq] at ez
    subst ez
    exact ⟨a, vs, rfl, .inr ⟨SqT.of h, k _ _ _ .refl gs r'⟩⟩
end
end PF

namespace PF
open PySem PySem.Spec PyProof.Rows L2

section
variable {X : Cx} {Wx : WX} {a b c e : Expr} {es rest : List Expr} {ma mb mc m : M D} {mo ms mi : M (List D)} {ta tb : M Bool} {pos : Pos} {x : Str} {p : Pos} {tg : Expr}
/-! ### fresh lists from built-ins -/
def mLst (f : List D → Option (List D)) (ms : M (List D)) : M (List D) := mbind ms fun ds => mopt (f ds)
def CallSo (X : Cx) (r : List V → Hp → VK → Prop) (f : List D → Option (List D)) : Prop := ∀ (xs : List V) (ds zs : List D) (F H : Hp) (p : Pst) (pa : Option Addr) (Q : VK), GS F H pa p → Reps X.K F p.g pa xs ds → f ds = some zs →
  (∀ q vs, H q = none → zs.length ≤ sizeLine → Reps X.K F p.g pa vs zs → Q (.ref q) (upd H q (.lst vs))) → r xs H Q
theorem tm_callo {r : List V → Hp → VK → Prop} {f : List D → Option (List D)} (hs : CallSo X r f) : ∀ σ H Q, TMo X.K X.mg Wx (mLst f ms) σ H Q → tCB r (TMa X.K X.mg Wx ms) σ H Q := fun σ H Q ⟨F, pa, p, ρ, gs, s, o⟩ => by
  refine TMa.of gs s ((Out.bindS .refl o).mono fun ds p1 F1 H1 pa1 _ gs1 ⟨gr1, o1⟩ s1 vs rs => ?_)
  obtain ⟨z, ez, o2⟩ := o1.opt
  exact hs vs ds z F1 H1 p1 pa1 Q gs1 rs ez fun q ws hq hz rz => out_fresh gr1 gs1 o2 hq hz rz
theorem pmo_callB {bid : String} {r : List V → Hp → VK → Prop} {f : List D → Option (List D)} (hc : CallR X (.builtin bid) r) (hs : CallSo X r f) (hg : Gl X x) (hm : X.mg x = none) (hv : bootBuiltins x = some (.builtin bid)) (ha : PMa X Wx (e :: es) ms) (hn : x ≠ "__name__" := by decide) (hdb : (x == ("__debug__" : Str)) = false := by decide)
    (he : starEach (e :: es) X.env = (false, eval e X.env) :: starEach es X.env := by rfl) (hpl : (backTo pos (starEach es X.env)).any (·.1) = false := by rfl) : PMo X Wx (.Call (.Name x p) (e :: es) [] pos) (mLst f ms) :=
  ⟨(pe_callB hc hg hm hv ha.pa hn hdb he hpl).imp (tm_callo hs)⟩
theorem pmo_callTy {T : String} {r : List V → Hp → VK → Prop} {f : List D → Option (List D)} (hc : CallR X (.type T) r) (hs : CallSo X r f) (hg : Gl X x) (hm : X.mg x = none) (hv : bootBuiltins x = some (.type T)) (ha : PMa X Wx (e :: es) ms) (hn : x ≠ "__name__" := by decide) (hdb : (x == ("__debug__" : Str)) = false := by decide)
    (he : starEach (e :: es) X.env = (false, eval e X.env) :: starEach es X.env := by rfl) (hpl : (backTo pos (starEach es X.env)).any (·.1) = false := by rfl) : PMo X Wx (.Call (.Name x p) (e :: es) [] pos) (mLst f ms) :=
  ⟨(pe_callTy hc hg hm hv ha.pa hn hdb he hpl).imp (tm_callo hs)⟩
/-- list(x) of a list, a tuple -/
def dList : List D → Option (List D)
  | [.lst xs] => some xs
  | [.tup xs] => some xs
  | _ => none
theorem calls_list : CallSo X (fun xs H Q => ∃ p ys, xs = [.ref p] ∧ (SqL X.K H p ys ∨ SqT X.K H p ys) ∧ ∀ l, H l = none → Q (.ref l) (upd H l (.lst ys))) dList := by
  intro xs ds z F H p pa Q gs rs ez k
  unfold dList at ez
  split at ez <;> first | (cases ez; done) | skip
  · obtain ⟨v, rfl, r⟩ := reps1 rs
    obtain ⟨a, vs, rfl, h, hz, r2⟩ := r.lstH gs
    simp only [Option.some.injEq] at ez
    subst ez
    exact ⟨a, vs, rfl, .inl (SqL.of h), fun l hl => k l vs hl hz r2⟩
  · obtain ⟨v, rfl, r⟩ := reps1 rs
    obtain ⟨a, vs, rfl, h, hz, r2⟩ := r.tupH gs
    simp only [Option.some.injEq] at ez
    subst ez
    exact ⟨a, vs, rfl, .inr (SqT.of h), fun l hl => k l vs hl hz r2⟩
/-- sorted(x) of a list of ints -/
def ins (x : Int) : List Int → List Int
  | [] => [x]
  | y :: ys => if x ≤ y then x :: y :: ys else y :: ins x ys
def srt : List Int → List Int
  | [] => []
  | x :: xs => ins x (srt xs)
theorem ins_perm (x : Int) : ∀ l, (ins x l).Perm (x :: l)
  | [] => .refl _
  | y :: ys => by
    unfold ins
    split
    · exact .refl _
    · exact ((ins_perm x ys).cons y).trans (.swap x y ys)
theorem srt_perm : ∀ ns : List Int, (srt ns).Perm ns
  | [] => .refl _
  | x :: xs => (ins_perm x (srt xs)).trans ((srt_perm xs).cons x)
theorem ins_sorted (x : Int) : ∀ l : List Int, l.Pairwise (· ≤ ·) → (ins x l).Pairwise (· ≤ ·)
  | [], _ => by simp [ins]
  | y :: ys, h => by
    rw [List.pairwise_cons] at h
    unfold ins
    split
    · rename_i hc
      refine List.Pairwise.cons (fun z hz => ?_) (List.Pairwise.cons h.1 h.2)
      rcases List.mem_cons.mp hz with rfl | hz
      · exact hc
      · exact Int.le_trans hc (h.1 z hz)
    · rename_i hc
      refine List.Pairwise.cons (fun z hz => ?_) (ins_sorted x ys h.2)
      have hz' := (ins_perm x ys).mem_iff.mp hz
      rcases List.mem_cons.mp hz' with rfl | hz'
      · omega
      · exact h.1 z hz'
theorem srt_sorted : ∀ ns : List Int, (srt ns).Pairwise (· ≤ ·)
  | [] => .nil
  | x :: xs => ins_sorted x (srt xs) (srt_sorted xs)
theorem sorted_unique : ∀ {xs ys : List Int}, xs.Perm ys → xs.Pairwise (· ≤ ·) → ys.Pairwise (· ≤ ·) → xs = ys := by
  intro xs ys hp h1 h2
  exact List.Perm.eq_of_pairwise (le := (· ≤ ·)) (fun a b _ _ h3 h4 => by omega) h1 h2 hp
def dSorted : List D → Option (List D)
  | [.lst xs] => (intsOf xs).map fun ns => (srt ns).map .int
  | _ => none
theorem reps_int_map {K : PySem.W.Frag} {F : Hp} {g : Nat} {pa : Option Addr} : ∀ ns : List Int, Reps K F g pa (ns.map V.int) (ns.map D.int)
  | [] => .nil
  | n :: ns => .cons (.int n) (reps_int_map ns)
theorem intsOf_len : ∀ {ds : List D} {ns : List Int}, intsOf ds = some ns → ns.length = ds.length
  | [], ns, h => by simp [intsOf] at h; subst h; rfl
  | d :: ds, ns, h => by
    cases d <;> first | (simp [intsOf] at h; done) | skip
    simp only [intsOf] at h
    cases q : intsOf ds with
    | none => rw [q] at h; cases h
    | some ms =>
      rw [q] at h
      simp only [Option.map_some, Option.some.injEq] at h
      subst h
      simp [intsOf_len q]
theorem calls_sorted : CallSo X (rSortedI X.K) dSorted := by
  intro xs ds z F H p pa Q gs rs ez k
  unfold dSorted at ez
  split at ez <;> first | (cases ez; done) | skip
  rename_i ys
  obtain ⟨v, rfl, r⟩ := reps1 rs
  obtain ⟨a, vs, rfl, h, hz, r2⟩ := r.lstH gs
  cases q : intsOf ys with
  | none => rw [q] at ez; cases ez
  | some ns =>
    rw [q] at ez
    simp only [Option.map_some, Option.some.injEq] at ez
    subst ez
    refine ⟨a, ns, rfl, SqL.of (by rw [← reps_ints r2 q]; exact h), fun ns' l hp hs hl => ?_⟩
    have e : ns' = srt ns := sorted_unique (hp.trans (srt_perm ns).symm) hs (srt_sorted ns)
    subst e
    exact k l _ hl (by rw [List.length_map, (srt_perm ns).length_eq, intsOf_len q]; exact hz) (reps_int_map _)

/-! ### isinstance -/
inductive Ty | int | bool | str | list | tuple | dict
def Ty.name : Ty → String
  | .int => "int" | .bool => "bool" | .str => "str" | .list => "list" | .tuple => "tuple" | .dict => "dict"
def isTy : Ty → D → Bool
  | .int, .int _ => true
  | .int, .bl _ => true
  | .bool, .bl _ => true
  | .str, .str _ => true
  | .list, .lst _ => true
  | .list, .scr _ => true
  | .tuple, .tup _ => true
  | .dict, .emp => true
  | _, _ => false
def tyOf : D → String
  | .non => "NoneType" | .bl _ => "bool" | .int _ => "int" | .str _ => "str" | .lst _ => "list" | .scr _ => "list" | .pot _ => "list" | .tup _ => "tuple" | .emp => "dict"
theorem Rep.ty {K : PySem.W.Frag} {F H : Hp} {p : Pst} {pa : Option Addr} {v : V} {d : D} (gs : GS F H pa p) (r : Rep K F p.g pa v d) (hnp : noPot d = true) : TyX K H v (.type (tyOf d)) := by
  cases r with
  | non => exact .base .non
  | bl b => exact .base (.bl b)
  | int i => exact .base (.int i)
  | str s => exact .base (.str s)
  | lst h _ _ _ => exact .base (.lst (gs.sub _ _ h))
  | tup h _ _ _ => exact .base (.tup (gs.sub _ _ h))
  | scr h =>
    rcases h with (h | ⟨o, h⟩) | ⟨o, its, n, h1, h2, _⟩
    · exact .base (.lst (gs.sub _ _ h))
    · exact .base (.frz (gs.sub _ _ h))
    · exact .kList h1 h2
  | pot _ _ => simp [noPot] at hnp
  | emp h => exact .base (.dK (gs.sub _ _ h))
theorem kit_tab (t : Ty) (d : D) : kitB (tyOf d) t.name = some (isTy t d) ∨ noPot d = false := by
  cases d <;> cases t <;> first | exact .inr rfl | (left; simp only [tyOf, Ty.name, isTy]; decide +kernel)
def mIsi (t : Ty) (m : M D) : M D := mbind m fun d => if noPot d = true then mret (.bl (isTy t d)) else mstuck
def isTys (ts : List Ty) (d : D) : Bool := ts.any fun t => isTy t d
def mIsis (ts : List Ty) (m : M D) : M D := mbind m fun d => if noPot d = true then mret (.bl (isTys ts d)) else mstuck
theorem pm_isi {y : Str} {p2 : Pos} (t : Ty) (hg : Gl X "isinstance") (hm : X.mg "isinstance" = none) (ha : PM X Wx a m) (hgy : Gl X y) (hmy : X.mg y = none) (hvy : bootBuiltins y = some (.type t.name)) (hny : y ≠ "__name__" := by decide) (hdy : (y == ("__debug__" : Str)) = false := by decide)
    (hs : starEach (a :: [.Name y p2]) X.env = (false, eval a X.env) :: starEach [.Name y p2] X.env := by rfl) (hs2 : starEach [.Name y p2] X.env = (false, eval (.Name y p2) X.env) :: starEach [] X.env := by rfl)
    (hpl : (backTo pos (starEach [.Name y p2] X.env)).any (·.1) = false := by rfl) : PM X Wx (.Call (.Name "isinstance" p) [a, .Name y p2] [] pos) (mIsi t m) :=
  ⟨(pe_callB call_isi hg hm PyProof.Rows.boot_isinstance (pa_cons ha.pe (pa_cons (pe_bltn (v := .ty t.name) hgy hmy hvy rfl hny hdy) pa_nil hs2) hs) (by decide) (by decide) hs hpl).imp fun σ H Q ⟨F, pa, p, ρ, gs, s, o⟩ => by
    refine TM.of gs s (o.bind.mono fun d p1 F1 H1 pa1 gr1 gs1 o1 s1 v1 r1 => ?_)
    by_cases hn : noPot d = true
    · rw [if_pos hn] at o1
      refine ⟨v1, .ty t.name, _, _, isTy t d, rfl, .ty _, r1.ty gs1 hn, ?_, o1.ret gs1 _ (.bl _)⟩
      rcases kit_tab t d with h | h
      · exact kit_ty h
      · rw [h] at hn; cases hn
    · rw [if_neg hn] at o1; exact o1.elim⟩
theorem kitAny_tys {K : PySem.W.Frag} {d : D} (hn : noPot d = true) : ∀ ts : List Ty, PySem.W.kitAny K (.type (tyOf d)) (ts.map fun t => Value.type t.name) = some (isTys ts d)
  | [] => kitAny_nil
  | t :: ts => by
    have h : PySem.W.kitOne K (.type (tyOf d)) (.type t.name) = some (isTy t d) := by
      rcases kit_tab t d with h | h
      · exact kit_ty h
      · rw [h] at hn; cases hn
    refine kitAny_cons h (fun e => ?_) fun e => ?_
    · rw [kitAny_tys hn ts]; simp [isTys, e]
    · simp [isTys, e]
theorem pm_isi2 {y z : Str} {p2 p3 p4 : Pos} {kk} (t u : Ty) (hg : Gl X "isinstance") (hm : X.mg "isinstance" = none) (ha : PM X Wx a m) (hgy : Gl X y) (hmy : X.mg y = none) (hvy : bootBuiltins y = some (.type t.name)) (hgz : Gl X z) (hmz : X.mg z = none) (hvz : bootBuiltins z = some (.type u.name))
    (hny : y ≠ "__name__" := by decide) (hdy : (y == ("__debug__" : Str)) = false := by decide) (hnz : z ≠ "__name__" := by decide) (hdz : (z == ("__debug__" : Str)) = false := by decide)
    (hs : starEach (a :: [.Tuple [.Name y p2, .Name z p3] kk p4]) X.env = (false, eval a X.env) :: starEach [.Tuple [.Name y p2, .Name z p3] kk p4] X.env := by rfl)
    (hs2 : starEach [.Tuple [.Name y p2, .Name z p3] kk p4] X.env = (false, eval (.Tuple [.Name y p2, .Name z p3] kk p4) X.env) :: starEach [] X.env := by rfl)
    (hs3 : starEach [.Name y p2, .Name z p3] X.env = (false, eval (.Name y p2) X.env) :: starEach [.Name z p3] X.env := by rfl) (hs4 : starEach [.Name z p3] X.env = (false, eval (.Name z p3) X.env) :: starEach [] X.env := by rfl)
    (hpl : (backTo pos (starEach [.Tuple [.Name y p2, .Name z p3] kk p4] X.env)).any (·.1) = false := by rfl) : PM X Wx (.Call (.Name "isinstance" p) [a, .Tuple [.Name y p2, .Name z p3] kk p4] [] pos) (mIsis [t, u] m) :=
  ⟨(pe_callB call_isiT hg hm PyProof.Rows.boot_isinstance (pa_cons ha.pe (pa_cons (pe_tup (pa_cons (pe_bltn (v := .ty t.name) hgy hmy hvy rfl hny hdy) (pa_cons (pe_bltn (v := .ty u.name) hgz hmz hvz rfl hnz hdz) pa_nil hs4) hs3)) pa_nil hs2) hs) (by decide) (by decide) hs hpl).imp fun σ H Q ⟨F, pa, p, ρ, gs, s, o⟩ => by
    refine TM.of gs s (o.bind.mono fun d p1 F1 H1 pa1 gr1 gs1 o1 s1 v1 r1 => ?_)
    by_cases hn : noPot d = true
    · rw [if_pos hn] at o1
      refine ⟨lim_size (by show 2 ≤ 4096; decide), fun q hq => ?_⟩
      have gs2 := gs1.allocO (o := .tup [.ty t.name, .ty u.name]) hq
      have gr2 : Gr F1 H1 p1.g pa1 F1 (upd H1 q (.tup [.ty t.name, .ty u.name])) p1.g pa1 := Gr.allocO hq
      refine ⟨v1, q, _, _, _, isTys [t, u] d, rfl, upd_same, .cons (.ty _) (.cons (.ty _) .nil), r1.ty gs2 hn, kitAny_tys hn [t, u], o1 _ _ pa1 gr2 gs2 _ (.bl _)⟩
    · rw [if_neg hn] at o1; exact o1.elim⟩

/-! ### what is walked -/
def IterOk (K : PySem.W.Frag) (F0 : Hp) (g0 : Nat) (pa0 : Option Addr) (J : It) (items : List D) : Prop := ∀ (i : Nat) (F H : Hp) (pa : Option Addr) (p : Pst), Fz F0 g0 pa0 F p.g pa → GS F H pa p →
  (items.length ≤ i → J.stop i H) ∧ ∀ d, items[i]? = some d → J.go i H ∧ ∀ x H', J.yld i H x H' → ∃ F', Gr F H p.g pa F' H' p.g pa ∧ GS F' H' pa p ∧ Rep K F' p.g pa x d
def TMi (K : PySem.W.Frag) (mg : Str → Option Value) (Wx : WX) (m : M (List D)) : TI := fun σ H R => At K mg Wx m σ H fun _ _ items p' F' H' pa' => ∀ J, IterOk K F' p'.g pa' J items → items.length ≤ sizeLine → R J H'
structure PMi (X : Cx) (Wx : WX) (tg e : Expr) (m : M (List D)) : Prop where
  pi : PI X tg e (TMi X.K X.mg Wx m)
theorem _root_.L2.PI.imp {X : Cx} {tg e : Expr} {t t' : TI} (h : PI X tg e t) (f : ∀ σ H R, t' σ H R → t σ H R) : PI X tg e t' := ⟨fun pins s σ H R I q => h.run pins s σ H R I (f σ H R q)⟩
theorem iter_list {K : PySem.W.Frag} {F : Hp} {g : Nat} {pa : Option Addr} {a : Addr} {vs : List V} {ds : List D} (h : F a = some (.lst vs)) (r : Reps K F g pa vs ds) : IterOk K F g pa (Itl K a) ds := by
  intro i F1 H1 pa1 p1 fz gs1
  have h1 : SqL K H1 a vs := SqL.of (gs1.sub _ _ (fz.sub _ _ h))
  have r1 := r.mono fz
  refine ⟨fun hi => ⟨vs, h1, by rw [r.1]; exact hi⟩, fun d hd => ?_⟩
  obtain ⟨v, hv, rv⟩ := r1.get hd
  refine ⟨⟨vs, v, h1, hv⟩, fun x H' ⟨e, hx⟩ => ?_⟩
  subst e
  have := hx vs h1
  rw [hv] at this
  cases this
  exact ⟨F1, .refl, gs1, rv⟩
theorem iter_tup {K : PySem.W.Frag} {F : Hp} {g : Nat} {pa : Option Addr} {a : Addr} {vs : List V} {ds : List D} (h : F a = some (.tup vs)) (r : Reps K F g pa vs ds) : IterOk K F g pa (Itt K a) ds := by
  intro i F1 H1 pa1 p1 fz gs1
  have h1 : SqT K H1 a vs := SqT.of (gs1.sub _ _ (fz.sub _ _ h))
  have r1 := r.mono fz
  refine ⟨fun hi => ⟨vs, h1, by rw [r.1]; exact hi⟩, fun d hd => ?_⟩
  obtain ⟨v, hv, rv⟩ := r1.get hd
  refine ⟨⟨vs, v, h1, hv⟩, fun x H' ⟨e, hx⟩ => ?_⟩
  subst e
  have := hx vs h1
  rw [hv] at this
  cases this
  exact ⟨F1, .refl, gs1, rv⟩
theorem iter_scr {K : PySem.W.Frag} {F : Hp} {g : Nat} {pa : Option Addr} {a : Addr} {ns : List Int} (h : SqL K F a (ns.map V.int)) : IterOk K F g pa (Itl K a) (ns.map .int) := by
  intro i F1 H1 pa1 p1 fz gs1
  have h1 : SqL K H1 a (ns.map V.int) := sqL_mono gs1.sub (sqL_mono fz.sub h)
  refine ⟨fun hi => ⟨_, h1, by simpa using hi⟩, fun d hd => ?_⟩
  rw [List.getElem?_map] at hd
  cases q : ns[i]? with
  | none => rw [q] at hd; cases hd
  | some n =>
    rw [q] at hd
    cases hd
    have hv : (ns.map V.int)[i]? = some (.int n) := by rw [List.getElem?_map, q]; rfl
    refine ⟨⟨_, _, h1, hv⟩, fun x H' ⟨e, hx⟩ => ?_⟩
    subst e
    have := hx _ h1
    rw [hv] at this
    cases this
    exact ⟨F1, .refl, gs1, .int n⟩
/-- a list or a tuple -/
theorem pi_lt {l : Expr} {tl : TE} (hl : PE X l tl) : PI X tg l (fun σ H R => tl σ H fun x H1 => (∃ a, x = .ref a ∧ (∃ xs, SqL X.K H1 a xs) ∧ R (Itl X.K a) H1) ∨ (∃ a, x = .ref a ∧ (∃ xs, SqT X.K H1 a xs) ∧ R (Itt X.K a) H1)) := by
  refine ⟨fun pins s σ H R I h => ?_⟩
  refine thn (hl.run pins s σ H _ I h) fun v s1 ⟨x, H1, I1, r1, q1⟩ => ?_
  rcases q1 with ⟨a, e, ⟨xs, hq⟩, q⟩ | ⟨a, e, ⟨xs, hq⟩, q⟩
  · subst e
    cases r1
    obtain ⟨its, rv, p, hz⟩ := I1.list hq
    refine wpAny_pyIter_list p.isList ?_
    refine ⟨s1.heap.objs.size, [s1.heap.objs.size], _, _, H1, rfl, I1.kept (t' := s1.toks) fun b o e => Heap.get?_push_of_some _ e, turn_list a _, ⟨_, Heap.get?_push_size _ rfl, rfl, rfl⟩, fun b hb => ?_, q⟩
    have e : b = s1.heap.objs.size := by simpa using hb
    subst e
    exact I1.fpOk (Nat.le_refl _) (I1.hok.fresh (Nat.le_refl _))
  · subst e
    cases r1
    obtain ⟨its, rv, p, hz⟩ := I1.tuple hq
    refine wpAny_pyIter_tuple (show s1.heap.IsTuple a its.toArray from p) ?_
    refine ⟨s1.heap.objs.size, [s1.heap.objs.size], _, _, H1, rfl, I1.kept (t' := s1.toks) fun b o e => Heap.get?_push_of_some _ e, turn_tuple a _, ⟨_, Heap.get?_push_size _ rfl, rfl, rfl⟩, fun b hb => ?_, q⟩
    have e : b = s1.heap.objs.size := by simpa using hb
    subst e
    exact I1.fpOk (Nat.le_refl _) (I1.hok.fresh (Nat.le_refl _))
def seqD : D → M (List D)
  | .lst xs => mret xs
  | .tup xs => mret xs
  | .scr ns => if ns.length ≤ 4096 then mret (ns.map .int) else mstuck
  | _ => mstuck
def mSeq (m : M D) : M (List D) := mbind m seqD
theorem pmi_seq (he : PM X Wx e m) : PMi X Wx tg e (mSeq m) := ⟨(pi_lt he.pe).imp fun σ H R ⟨F, pa, p, ρ, gs, s, o⟩ => by
  refine TM.of gs s (o.bind.mono fun d p1 F1 H1 pa1 gr1 gs1 o1 s1 v1 r1 => ?_)
  cases d <;> first | exact o1.elim | skip
  · obtain ⟨a, vs, rfl, h, hz, rs⟩ := r1.lst_inv
    exact .inl ⟨a, rfl, ⟨vs, SqL.of (gs1.sub _ _ h)⟩, o1.ret gs1 _ (iter_list h rs) hz⟩
  · obtain ⟨a, vs, rfl, h, hz, rs⟩ := r1.tup_inv
    exact .inr ⟨a, rfl, ⟨vs, SqT.of (gs1.sub _ _ h)⟩, o1.ret gs1 _ (iter_tup h rs) hz⟩
  · rename_i ns
    cases r1 with
    | scr h =>
      simp only [seqD] at o1
      by_cases hc : ns.length ≤ 4096
      · rw [if_pos hc] at o1
        exact .inl ⟨_, rfl, ⟨_, sqL_mono gs1.sub h⟩, o1.ret gs1 _ (iter_scr h) (by rw [List.length_map]; exact lim_size hc)⟩
      · rw [if_neg hc] at o1; exact o1.elim⟩
/-- ranges -/
def rgL (lo : Int) (n : Nat) : List D := (List.range n).map fun (k : Nat) => D.int (lo + k)
theorem iter_rng {K : PySem.W.Frag} {F : Hp} {g : Nat} {pa : Option Addr} {lo : Int} {n : Nat} : IterOk K F g pa (Itr lo n) (rgL lo n) := by
  intro i F1 H1 pa1 p1 fz gs1
  refine ⟨fun hi => by simpa [rgL, Itr] using hi, fun d hd => ?_⟩
  unfold rgL at hd
  rw [List.getElem?_map] at hd
  by_cases hi : i < n
  · rw [List.getElem?_range hi] at hd
    cases hd
    exact ⟨hi, fun x H' ⟨e, hx⟩ => by subst e hx; exact ⟨F1, .refl, gs1, .int _⟩⟩
  · rw [List.getElem?_eq_none (by simpa using hi)] at hd
    cases hd
theorem sz16 {n : Nat} (h : n ≤ 16000000) : n ≤ sizeLine := by rw [sizeLine_eq]; omega
theorem rgL_len (lo : Int) (n : Nat) : (rgL lo n).length = n := by simp [rgL]
def dRange1 : List D → Option (List D)
  | [.int j] => if j ≤ 16000000 ∧ -(2 ^ 60) ≤ j then some (rgL 0 j.toNat) else none
  | _ => none
def dRange2 : List D → Option (List D)
  | [.int i, .int j] => if -(2 ^ 60) ≤ i ∧ i < 2 ^ 60 ∧ -(2 ^ 60) ≤ j ∧ j < 2 ^ 60 ∧ j - i ≤ 16000000 then some (rgL i (j - i).toNat) else none
  | _ => none
def mRange1 (ms : M (List D)) : M (List D) := mbind ms fun ds => mopt (dRange1 ds)
def mRange2 (ms : M (List D)) : M (List D) := mbind ms fun ds => mopt (dRange2 ds)
theorem pmi_range1 (hg : Gl X "range") (hm : X.mg "range" = none) (ha : PMa X Wx [a] ms) (hs : starEach [a] X.env = [(false, eval a X.env)] := by rfl) : PMi X Wx tg (.Call (.Name "range" p) [a] [] pos) (mRange1 ms) := ⟨(pi_range1 hg hm ha.pa hs).imp fun σ H R ⟨F, pa, p, ρ, gs, s, o⟩ => by
  refine TMa.of gs s (o.bind.mono fun ds p1 F1 H1 pa1 gr1 gs1 o1 s1 vs rs => ?_)
  obtain ⟨z, ez, o2⟩ := o1.opt
  unfold dRange1 at ez
  split at ez <;> first | (cases ez; done) | skip
  split at ez <;> first | (cases ez; done) | skip
  rename_i hc
  simp only [Option.some.injEq] at ez
  subst ez
  obtain ⟨v, rfl, r⟩ := reps1 rs
  cases r
  exact ⟨_, rfl, by omega, by omega, o2.ret gs1 _ iter_rng (by rw [rgL_len]; exact sz16 (by omega))⟩⟩
theorem pmi_range2 (hg : Gl X "range") (hm : X.mg "range" = none) (ha : PMa X Wx [a, b] ms) (hs : starEach [a, b] X.env = [(false, eval a X.env), (false, eval b X.env)] := by rfl) (hs2 : starEach [b] X.env = [(false, eval b X.env)] := by rfl) : PMi X Wx tg (.Call (.Name "range" p) [a, b] [] pos) (mRange2 ms) := ⟨(pi_range2 hg hm ha.pa hs hs2).imp fun σ H R ⟨F, pa, p, ρ, gs, s, o⟩ => by
  refine TMa.of gs s (o.bind.mono fun ds p1 F1 H1 pa1 gr1 gs1 o1 s1 vs rs => ?_)
  obtain ⟨z, ez, o2⟩ := o1.opt
  unfold dRange2 at ez
  split at ez <;> first | (cases ez; done) | skip
  split at ez <;> first | (cases ez; done) | skip
  rename_i hc
  simp only [Option.some.injEq] at ez
  subst ez
  obtain ⟨v, w, rfl, r1, r2⟩ := reps2 rs
  cases r1; cases r2
  exact ⟨_, _, rfl, ⟨by omega, by omega, by omega, by omega⟩, o2.ret gs1 _ iter_rng (by rw [rgL_len]; exact sz16 (by omega))⟩⟩
/-- enumerate(list) -/
def enumL (xs : List D) : List D := xs.mapIdx fun i x => .tup [.int (i : Nat), x]
theorem two_line : 2 ≤ sizeLine := lim_size (by decide)
theorem iter_enum {K : PySem.W.Frag} {F : Hp} {g : Nat} {pa : Option Addr} {a : Addr} {vs : List V} {ds : List D} (h : F a = some (.lst vs)) (r : Reps K F g pa vs ds) : IterOk K F g pa (Ite K a) (enumL ds) := by
  intro i F1 H1 pa1 p1 fz gs1
  have h1 : SqL K H1 a vs := SqL.of (gs1.sub _ _ (fz.sub _ _ h))
  have r1 := r.mono fz
  refine ⟨fun hi => ⟨vs, h1, by rw [r.1]; simpa [enumL] using hi⟩, fun d hd => ?_⟩
  unfold enumL at hd
  rw [List.getElem?_mapIdx] at hd
  cases q : ds[i]? with
  | none => rw [q] at hd; cases hd
  | some e =>
    rw [q] at hd
    cases hd
    obtain ⟨v, hv, rv⟩ := r1.get q
    refine ⟨⟨vs, v, h1, hv⟩, fun x H' ⟨T, y, e1, e2, e3, hx⟩ => ?_⟩
    subst e1 e3
    have := hx vs h1
    rw [hv] at this
    cases this
    have fu : Fz F1 p1.g pa1 (upd F1 T (.tup [.int (i : Nat), v])) p1.g pa1 := Fz.upd (gs1.fnone e2)
    exact ⟨_, Gr.alloc gs1 e2, gs1.alloc e2, Rep.tup' upd_same two_line (.cons (.int _) (.cons (rv.mono fu) .nil))⟩
def mEnum (ms : M (List D)) : M (List D) := mbind ms fun ds => match ds with
  | [.lst xs] => mret (enumL xs)
  | _ => mstuck
theorem pmi_enum {elts : List Expr} {kk : Nat} {tpos : Pos} (hg : Gl X "enumerate") (hm : X.mg "enumerate" = none) (ha : PMa X Wx [e] ms) (hs : starEach [e] X.env = [(false, eval e X.env)] := by rfl) : PMi X Wx (.Tuple elts kk tpos) (.Call (.Name "enumerate" p) [e] [] pos) (mEnum ms) := ⟨(pi_enum hg hm ha.pa hs).imp fun σ H R ⟨F, pa, p, ρ, gs, s, o⟩ => by
  refine TMa.of gs s (o.bind.mono fun ds p1 F1 H1 pa1 gr1 gs1 o1 s1 vs rs => ?_)
  split at o1 <;> first | exact o1.elim | skip
  obtain ⟨v, rfl, r⟩ := reps1 rs
  obtain ⟨a, vs, rfl, h, hz, r2⟩ := r.lst_inv
  exact ⟨a, vs, rfl, SqL.of (gs1.sub _ _ h), o1.ret gs1 _ (iter_enum h r2) (by simpa [enumL] using hz)⟩⟩
/-- zip of two lists, of two tuples -/
def zipL (xs ys : List D) : List D := List.zipWith (fun x y => .tup [x, y]) xs ys
theorem zip_item {K : PySem.W.Frag} {F H : Hp} {p : Pst} {pa : Option Addr} {T : Addr} {v w : V} {d e : D} (gs : GS F H pa p) (hT : H T = none) (r1 : Rep K F p.g pa v d) (r2 : Rep K F p.g pa w e) :
    ∃ F', Gr F H p.g pa F' (upd H T (.tup [v, w])) p.g pa ∧ GS F' (upd H T (.tup [v, w])) pa p ∧ Rep K F' p.g pa (.ref T) (.tup [d, e]) :=
  have fu : Fz F p.g pa (upd F T (.tup [v, w])) p.g pa := Fz.upd (gs.fnone hT)
  ⟨_, Gr.alloc gs hT, gs.alloc hT, Rep.tup' upd_same two_line (.cons (r1.mono fu) (.cons (r2.mono fu) .nil))⟩
theorem zipL_get {ds es : List D} {i : Nat} {z : D} (h : (zipL ds es)[i]? = some z) : ∃ d e, ds[i]? = some d ∧ es[i]? = some e ∧ z = .tup [d, e] := by
  unfold zipL at h
  rw [List.getElem?_zipWith] at h
  cases q : ds[i]? with
  | none => rw [q] at h; cases h
  | some d =>
    cases q2 : es[i]? with
    | none => rw [q, q2] at h; cases h
    | some e => rw [q, q2] at h; cases h; exact ⟨d, e, rfl, rfl, rfl⟩
theorem iter_zipL {K : PySem.W.Frag} {F : Hp} {g : Nat} {pa : Option Addr} {a b : Addr} {vs ws : List V} {ds es : List D} (h : F a = some (.lst vs)) (r : Reps K F g pa vs ds) (h' : F b = some (.lst ws)) (r' : Reps K F g pa ws es) : IterOk K F g pa (Itz K a b) (zipL ds es) := by
  intro i F1 H1 pa1 p1 fz gs1
  have h1 : SqL K H1 a vs := SqL.of (gs1.sub _ _ (fz.sub _ _ h))
  have h2 : SqL K H1 b ws := SqL.of (gs1.sub _ _ (fz.sub _ _ h'))
  refine ⟨fun hi => ⟨vs, ws, h1, h2, ?_⟩, fun z hz => ?_⟩
  · simp only [zipL, List.length_zipWith] at hi
    rw [r.1, r'.1]; omega
  · obtain ⟨d, e, q1, q2, rfl⟩ := zipL_get hz
    obtain ⟨v, hv, rv⟩ := (r.mono fz).get q1
    obtain ⟨w, hw, rw'⟩ := (r'.mono fz).get q2
    refine ⟨⟨vs, ws, v, w, h1, h2, hv, hw⟩, fun x H' ⟨T, y1, y2, e1, e2, e3, hx, hy⟩ => ?_⟩
    subst e1 e3
    have t1 := hx vs h1
    rw [hv] at t1
    cases t1
    have t2 := hy ws h2
    rw [hw] at t2
    cases t2
    exact zip_item gs1 e2 rv rw'
theorem iter_zipT {K : PySem.W.Frag} {F : Hp} {g : Nat} {pa : Option Addr} {a b : Addr} {vs ws : List V} {ds es : List D} (h : F a = some (.tup vs)) (r : Reps K F g pa vs ds) (h' : F b = some (.tup ws)) (r' : Reps K F g pa ws es) : IterOk K F g pa (RZ.ItzT K a b) (zipL ds es) := by
  intro i F1 H1 pa1 p1 fz gs1
  have h1 : SqT K H1 a vs := SqT.of (gs1.sub _ _ (fz.sub _ _ h))
  have h2 : SqT K H1 b ws := SqT.of (gs1.sub _ _ (fz.sub _ _ h'))
  refine ⟨fun hi => ⟨vs, ws, h1, h2, ?_⟩, fun z hz => ?_⟩
  · simp only [zipL, List.length_zipWith] at hi
    rw [r.1, r'.1]; omega
  · obtain ⟨d, e, q1, q2, rfl⟩ := zipL_get hz
    obtain ⟨v, hv, rv⟩ := (r.mono fz).get q1
    obtain ⟨w, hw, rw'⟩ := (r'.mono fz).get q2
    refine ⟨⟨vs, ws, v, w, h1, h2, hv, hw⟩, fun x H' ⟨T, y1, y2, e1, e2, e3, hx, hy⟩ => ?_⟩
    subst e1 e3
    have t1 := hx vs h1
    rw [hv] at t1
    cases t1
    have t2 := hy ws h2
    rw [hw] at t2
    cases t2
    exact zip_item gs1 e2 rv rw'
def mZip (ms : M (List D)) : M (List D) := mbind ms fun ds => match ds with
  | [.lst xs, .lst ys] => mret (zipL xs ys)
  | [.tup xs, .tup ys] => mret (zipL xs ys)
  | _ => mstuck
theorem zipL_len (xs ys : List D) : (zipL xs ys).length ≤ xs.length := by
  unfold zipL; rw [List.length_zipWith]; omega
theorem pmi_zip {elts : List Expr} {kk : Nat} {tpos : Pos} (hg : Gl X "zip") (hm : X.mg "zip" = none) (ha : PMa X Wx [a, b] ms) (hs : starEach [a, b] X.env = (false, eval a X.env) :: starEach [b] X.env := by rfl) (hpl : (backTo pos (starEach [b] X.env)).any (·.1) = false := by rfl) :
    PMi X Wx (.Tuple elts kk tpos) (.Call (.Name "zip" p) [a, b] [] pos) (mZip ms) := ⟨(RZ.pi_zipA hg hm ha.pa hs hpl).imp fun σ H R ⟨F, pa, p, ρ, gs, s, o⟩ => by
  refine TMa.of gs s (o.bind.mono fun ds p1 F1 H1 pa1 gr1 gs1 o1 s1 vs rs => ?_)
  split at o1 <;> first | exact o1.elim | skip
  · obtain ⟨v, w, rfl, r1, r2⟩ := reps2 rs
    obtain ⟨a, vs, rfl, h, hz, r3⟩ := r1.lst_inv
    obtain ⟨b, ws, rfl, h', hz', r4⟩ := r2.lst_inv
    exact ⟨a, b, vs, ws, rfl, .inl ⟨SqL.of (gs1.sub _ _ h), SqL.of (gs1.sub _ _ h'), o1.ret gs1 _ (iter_zipL h r3 h' r4) (Nat.le_trans (zipL_len _ _) hz)⟩⟩
  · obtain ⟨v, w, rfl, r1, r2⟩ := reps2 rs
    obtain ⟨a, vs, rfl, h, hz, r3⟩ := r1.tup_inv
    obtain ⟨b, ws, rfl, h', hz', r4⟩ := r2.tup_inv
    exact ⟨a, b, vs, ws, rfl, .inr ⟨SqT.of (gs1.sub _ _ h), SqT.of (gs1.sub _ _ h'), o1.ret gs1 _ (iter_zipT h r3 h' r4) (Nat.le_trans (zipL_len _ _) hz)⟩⟩⟩

/-! ### targets -/
/-- the target's store is f, on slots of vs alone -/
def GOk (K : PySem.W.Frag) (vs : List Nat) (g : TG) (f : D → Sl → Option Sl) : Prop := ∀ (F H : Hp) (gg : Nat) (pa : Option Addr) (x : V) (d : D) (σ : L2.St) (ρ ρ' : Sl) (Q : L2.St → Hp → Prop), (∀ a o, F a = some o → H a = some o) → Rep K F gg pa x d → SRel K F H gg pa σ ρ → f d ρ = some ρ' →
  (∀ σ', SRel K F H gg pa σ' ρ' → σ'.length = σ.length → (∀ j, j ∉ vs → σ'[j]? = σ[j]?) → Q σ' H) → g x σ H Q
theorem SRel.set {K : PySem.W.Frag} {F H : Hp} {g : Nat} {pa : Option Addr} {σ : L2.St} {ρ : Sl} (s : SRel K F H g pa σ ρ) {x : V} {d : D} (r : Rep K F g pa x d) (i : Nat) : SRel K F H g pa (σ.set i (some x)) (ρ.set i (some (.val d))) := by
  refine ⟨by simp [s.len], fun j w h => ?_, fun j k xs ys v h1 h2 h3 h4 => ?_⟩
  · rw [List.getElem?_set] at h ⊢
    by_cases e : i = j
    · subst e
      simp only [if_true] at h ⊢
      by_cases hi : i < ρ.length
      · rw [if_pos hi] at h
        rw [if_pos (by rw [← s.len]; exact hi)]
        cases h
        exact ⟨x, rfl, r⟩
      · rw [if_neg hi] at h; cases h
    · rw [if_neg e] at h ⊢
      exact s.rep j w h
  · rw [List.getElem?_set] at h1 h2 h3 h4
    by_cases e : i = j
    · subst e
      simp only [if_true] at h1
      split at h1 <;> cases h1
    · by_cases e2 : i = k
      · subst e2
        simp only [if_true] at h2
        split at h2 <;> cases h2
      · rw [if_neg e] at h1 h3
        rw [if_neg e2] at h2 h4
        exact s.apart j k xs ys v h1 h2 h3 h4
def fName (i : Nat) : D → Sl → Option Sl := fun d ρ => some (ρ.set i (some (.val d)))
theorem gok_name {K : PySem.W.Frag} {vs : List Nat} {i : Nat} (h : i ∈ vs := by decide) : GOk K vs (gName i) (fName i) := by
  intro F H gg pa x d σ ρ ρ' Q sub r s e k
  cases e
  exact k _ (s.set r i) (by simp) fun j hj => by
    have z : i ≠ j := fun e => hj (e ▸ h)
    exact List.getElem?_set_ne z
/-- several targets -/
def GsOk (K : PySem.W.Frag) (vs : List Nat) (g : TGs) (f : List D → Sl → Option Sl) : Prop := ∀ (F H : Hp) (gg : Nat) (pa : Option Addr) (xs : List V) (ds : List D) (σ : L2.St) (ρ ρ' : Sl) (Q : L2.St → Hp → Prop), (∀ a o, F a = some o → H a = some o) → Reps K F gg pa xs ds → SRel K F H gg pa σ ρ → f ds ρ = some ρ' →
  (∀ σ', SRel K F H gg pa σ' ρ' → σ'.length = σ.length → (∀ j, j ∉ vs → σ'[j]? = σ[j]?) → Q σ' H) → g xs σ H Q
def fNil : List D → Sl → Option Sl := fun ds ρ => match ds with
  | [] => some ρ
  | _ => none
def fCons (f : D → Sl → Option Sl) (fs : List D → Sl → Option Sl) : List D → Sl → Option Sl := fun ds ρ => match ds with
  | d :: r => (f d ρ).bind fun ρ1 => fs r ρ1
  | [] => none
theorem gsok_nil {K : PySem.W.Frag} {vs : List Nat} : GsOk K vs gNil fNil := by
  intro F H gg pa xs ds σ ρ ρ' Q sub r s e k
  cases ds with
  | nil =>
    have hx := List.eq_nil_of_length_eq_zero r.1
    cases e
    exact ⟨hx, k σ s rfl fun _ _ => rfl⟩
  | cons d ds => cases e
theorem gsok_cons {K : PySem.W.Frag} {vs : List Nat} {g : TG} {gs : TGs} {f : D → Sl → Option Sl} {fs : List D → Sl → Option Sl} (h1 : GOk K vs g f) (h2 : GsOk K vs gs fs) : GsOk K vs (gCons g gs) (fCons f fs) := by
  intro F H gg pa xs ds σ ρ ρ' Q sub r s e k
  cases ds with
  | nil => cases e
  | cons d ds =>
    rcases r.cases with ⟨_, z⟩ | ⟨x, y, xs', ys', rfl, z, r1, r2⟩
    · cases z
    · cases z
      simp only [fCons] at e
      cases q : f d ρ with
      | none => rw [q] at e; cases e
      | some ρ1 =>
        rw [q] at e
        refine ⟨x, xs', rfl, h1 F H gg pa x d σ ρ ρ1 _ sub r1 s q fun σ1 s1 l1 n1 => ?_⟩
        exact h2 F H gg pa xs' ds σ1 ρ1 ρ' Q sub r2 s1 e fun σ2 s2 l2 n2 => k σ2 s2 (l2.trans l1) fun j hj => (n2 j hj).trans (n1 j hj)
def fTup (fs : List D → Sl → Option Sl) : D → Sl → Option Sl := fun d ρ => match d with
  | .tup xs => fs xs ρ
  | _ => none
theorem fs_len_cons {f : D → Sl → Option Sl} {fs : List D → Sl → Option Sl} {n : Nat} (h : ∀ ds ρ ρ', fs ds ρ = some ρ' → ds.length = n) : ∀ ds ρ ρ', fCons f fs ds ρ = some ρ' → ds.length = n + 1 := by
  intro ds ρ ρ' e
  cases ds with
  | nil => cases e
  | cons d ds =>
    simp only [fCons] at e
    cases q : f d ρ with
    | none => rw [q] at e; cases e
    | some ρ1 =>
      rw [q] at e
      simp [h ds ρ1 ρ' e]
theorem fs_len_nil : ∀ ds ρ ρ', fNil ds ρ = some ρ' → ds.length = 0 := by
  intro ds ρ ρ' e
  cases ds with
  | nil => rfl
  | cons d ds => cases e
theorem gok_tup {K : PySem.W.Frag} {vs : List Nat} {n : Nat} {g : TGs} {fs : List D → Sl → Option Sl} (h : GsOk K vs g fs) (hn : ∀ ds ρ ρ', fs ds ρ = some ρ' → ds.length = n) : GOk K vs (gTup K n g) (fTup fs) := by
  intro F H gg pa x d σ ρ ρ' Q sub r s e k
  cases d <;> first | (simp [fTup] at e; done) | skip
  simp only [fTup] at e
  obtain ⟨a, ws, rfl, h1, hz, rs⟩ := r.tup_inv
  exact ⟨a, ws, rfl, SqT.of (sub _ _ h1), by rw [rs.1]; exact hn _ _ _ e, h F H gg pa ws _ σ ρ ρ' Q sub rs s e k⟩
end
end PF

namespace PF
open PySem PySem.Spec PyProof.Rows L2

section
variable {X : Cx} {Wx : WX} {a b c e : Expr} {es rest : List Expr} {ma mb mc m : M D} {mo ms mi : M (List D)} {ta tb : M Bool} {pos : Pos} {x : Str} {p : Pos} {tg : Expr}
/-! ### list comprehensions -/
/-- the slots of vs forgotten -/
def wipeS (ρ : Sl) : List Nat → Sl
  | [] => ρ
  | v :: vs => (wipeS ρ vs).set v none
theorem wipeS_len (ρ : Sl) : ∀ vs, (wipeS ρ vs).length = ρ.length
  | [] => rfl
  | v :: vs => by simp [wipeS, wipeS_len ρ vs]
theorem SRel.none {K : PySem.W.Frag} {F H : Hp} {g : Nat} {pa : Option Addr} {σ : L2.St} {ρ : Sl} (s : SRel K F H g pa σ ρ) (i : Nat) : SRel K F H g pa (σ.set i none) (ρ.set i none) := by
  refine ⟨by simp [s.len], fun j w h => ?_, fun j k xs ys v h1 h2 h3 h4 => ?_⟩
  · rw [List.getElem?_set] at h ⊢
    by_cases e : i = j
    · subst e
      simp only [if_true] at h
      split at h <;> cases h
    · rw [if_neg e] at h ⊢
      exact s.rep j w h
  · rw [List.getElem?_set] at h1 h2 h3 h4
    by_cases e : i = j
    · subst e
      simp only [if_true] at h1
      split at h1 <;> cases h1
    · by_cases e2 : i = k
      · subst e2
        simp only [if_true] at h2
        split at h2 <;> cases h2
      · rw [if_neg e] at h1 h3
        rw [if_neg e2] at h2 h4
        exact s.apart j k xs ys v h1 h2 h3 h4
theorem SRel.wipe {K : PySem.W.Frag} {F H : Hp} {g : Nat} {pa : Option Addr} {σ : L2.St} {ρ : Sl} (s : SRel K F H g pa σ ρ) : ∀ vs, SRel K F H g pa (wipe σ vs) (wipeS ρ vs)
  | [] => s
  | v :: vs => (s.wipe vs).none v
theorem wipe_get {σ : L2.St} {j : Nat} : ∀ {vs : List Nat}, j ∈ vs → (wipe σ vs)[j]? = some none ∨ (wipe σ vs)[j]? = none
  | v :: vs, h => by
    unfold wipe
    rw [List.getElem?_set]
    by_cases e : v = j
    · rw [if_pos e]
      split
      · exact .inl rfl
      · exact .inr rfl
    · rw [if_neg e]
      rcases List.mem_cons.mp h with q | q
      · exact absurd q.symm e
      · exact wipe_get q
theorem wipe_out' {σ : L2.St} {j : Nat} : ∀ {vs : List Nat}, j ∉ vs → (wipe σ vs)[j]? = σ[j]?
  | [], _ => rfl
  | v :: vs, h => by
    unfold wipe
    have h1 : v ≠ j := fun e => h (e ▸ List.mem_cons_self)
    rw [List.getElem?_set_ne h1]
    exact wipe_out' fun q => h (List.mem_cons_of_mem _ q)
theorem wipe_eq {σ σ' : L2.St} {vs : List Nat} (hl : σ'.length = σ.length) (h : ∀ j, j ∉ vs → σ'[j]? = (wipe σ vs)[j]?) : wipe σ' vs = wipe σ vs := by
  apply List.ext_getElem?
  intro j
  by_cases hj : j ∈ vs
  · by_cases hlt : j < σ.length
    · rcases wipe_get (σ := σ') hj with q | q
      · rcases wipe_get (σ := σ) hj with q2 | q2
        · rw [q, q2]
        · have := List.getElem?_eq_none_iff.mp q2
          rw [wipe_length] at this
          omega
      · have := List.getElem?_eq_none_iff.mp q
        rw [wipe_length] at this
        omega
    · rw [List.getElem?_eq_none (by rw [wipe_length]; omega), List.getElem?_eq_none (by rw [wipe_length]; omega)]
  · rw [wipe_out' hj, h j hj]
/-- the block, item by item -/
def lcGo (f : D → Sl → Option Sl) (tt : M Bool) (el : M D) : List D → M (List D)
  | [] => mret []
  | x :: xs => fun ρ p => match f x ρ with
    | some ρ1 => (match tt ρ1 p with
      | .ok true p1 => (match el ρ1 p1 with
        | .ok y p2 => (match lcGo f tt el xs ρ p2 with
          | .ok ys p3 => .ok (y :: ys) p3
          | _ => .stuck)
        | _ => .stuck)
      | .ok false p1 => lcGo f tt el xs ρ p1
      | _ => .stuck)
    | none => .stuck
def mLc (vs : List Nat) (mi : M (List D)) (f : D → Sl → Option Sl) (tt : M Bool) (el : M D) : M (List D) := mbind mi fun items ρ p => match lcGo f tt el items (wipeS ρ vs) p with
  | .ok ys p' => .ok ys p'
  | _ => .stuck
/-- inside a comprehension nothing is raised -/
abbrev W0 : WX := fun _ _ _ _ => False
def mYes : M Bool := mret true
structure PMts (X : Cx) (Wx : WX) (es : List Expr) (m : M Bool) : Prop where
  pt : PTs X es (TMt X.K X.mg Wx m)
theorem pmts_nil : PMts X Wx [] mYes := ⟨⟨fun pins s σ H Q I ⟨F, pa, p, ρ, gs, sr, o⟩ => pts_nil.run pins s σ H Q I (o.ret gs)⟩⟩
theorem pmts_one (h : PMt X Wx e ta) : PMts X Wx [e] ta := ⟨pts_one h.pt⟩
theorem lc_inv {K : PySem.W.Frag} {mg : Str → Option Value} {f : D → Sl → Option Sl} {tt : M Bool} {el : M D} {g : TG} {vs : List Nat} {items all : List D} {σ : L2.St} {ρ : Sl} {F0 H0 F1 H1 : Hp} {g0 : Nat} {pa0 pa1 : Option Addr} {p1 pend : Pst} {J : It} {Q : VK} {Dd : Addr}
    (hg : GOk K vs g f) (gr1 : Gr F0 H0 g0 pa0 F1 H1 p1.g pa1) (gs1 : GS F1 H1 pa1 p1) (s1 : SRel K F1 H1 p1.g pa1 σ ρ) (ij : IterOk K F1 p1.g pa1 J items) (hz : items.length ≤ sizeLine) (hD : H1 Dd = none)
    (e : lcGo f tt el items (wipeS ρ vs) p1 = .ok all pend)
    (k : ∀ F' H' pa' ws, Gr F0 H0 g0 pa0 F' H' pend.g pa' → GS F' H' pa' pend → H' Dd = some (.lst ws) → F' Dd = none → pa' ≠ some Dd → all.length ≤ sizeLine → Reps K F' pend.g pa' ws all → Q (.ref Dd) H') :
    ∃ W : Nat → Nat → Hp → Prop, (∃ m, W 0 m (upd H1 Dd (.lst []))) ∧ ∀ i m H, W i m H →
      (J.stop i H ∧ Q (.ref Dd) H) ∨ (J.go i H ∧ ∃ Nx : Hp → Prop, (∀ H', Nx H' → ∃ m', m' < m ∧ W (i + 1) m' H') ∧ ∀ x H', J.yld i H x H' → g x (wipe σ vs) H' fun σ2 H2 => wipe σ2 vs = wipe σ vs ∧ TMt K mg W0 tt σ2 H2 fun b H3 =>
        if b = true then TM K mg W0 el σ2 H3 fun y H4 => ∃ acc, H4 Dd = some (.lst acc) ∧ acc.length < sizeLine ∧ Nx (upd H4 Dd (.lst (acc ++ [y]))) else Nx H3) := by
  refine ⟨fun i m H => m = items.length - i ∧ i ≤ items.length ∧ ∃ F pa p acc ds ys, Gr F0 H0 g0 pa0 F H p.g pa ∧ Fz F1 p1.g pa1 F p.g pa ∧ GS F H pa p ∧ SRel K F H p.g pa (wipe σ vs) (wipeS ρ vs) ∧ H Dd = some (.lst acc) ∧ F Dd = none ∧ pa ≠ some Dd ∧ ds.length ≤ i ∧ Reps K F p.g pa acc ds ∧
      lcGo f tt el (items.drop i) (wipeS ρ vs) p = .ok ys pend ∧ ds ++ ys = all, ⟨items.length, by simp, Nat.zero_le _, F1, pa1, p1, [], [], all, gr1.trans (Gr.allocO hD), .refl, gs1.allocO hD, (s1.wipe vs).grow (Gr.allocO hD), upd_same, gs1.fnone hD, gs1.pne hD, Nat.le_refl _, .nil, by simpa using e, rfl⟩, ?_⟩
  rintro i m H ⟨rfl, hi, F, pa, p, acc, ds, ys, gr, fz, gs, sr, hH, hF, hp, hl, rs, el1, ea⟩
  obtain ⟨stop, go⟩ := ij i F H pa p fz gs
  by_cases hlt : i < items.length
  · -- a turn
    have hd : items[i]? = some items[i] := by simp [hlt]
    obtain ⟨hgo, hy⟩ := go _ hd
    have ed : items.drop i = items[i] :: items.drop (i + 1) := List.drop_eq_getElem_cons hlt
    rw [ed] at el1
    simp only [lcGo] at el1
    have hzd : ds.length < sizeLine := by omega
    cases q : f items[i] (wipeS ρ vs) with
    | none => rw [q] at el1; cases el1
    | some ρ1 =>
      rw [q] at el1
      simp only at el1
      refine .inr ⟨hgo, fun H' => ∃ F' pa' p' acc' ds' ys', Gr F0 H0 g0 pa0 F' H' p'.g pa' ∧ Fz F1 p1.g pa1 F' p'.g pa' ∧ GS F' H' pa' p' ∧ SRel K F' H' p'.g pa' (wipe σ vs) (wipeS ρ vs) ∧ H' Dd = some (.lst acc') ∧ F' Dd = none ∧ pa' ≠ some Dd ∧ ds'.length ≤ i + 1 ∧ Reps K F' p'.g pa' acc' ds' ∧
          lcGo f tt el (items.drop (i + 1)) (wipeS ρ vs) p' = .ok ys' pend ∧ ds' ++ ys' = all, fun H' n => ⟨items.length - (i + 1), by omega, rfl, hlt, n⟩, fun xv H' yl => ?_⟩
      obtain ⟨F2, gr2, gs2, r2⟩ := hy xv H' yl
      have sr2 := sr.grow gr2
      have hne : ∀ {F3 H3 : Hp} {p3 : Pst} {pa3 : Option Addr}, Gr F H p.g pa F3 H3 p3.g pa3 → H3 Dd = some (.lst acc) ∧ F3 Dd = none ∧ pa3 ≠ some Dd := fun {F3 H3 p3 pa3} gr3 => by
        refine ⟨gr3.keep _ _ hH hp, ?_, fun z => ?_⟩
        · cases q3 : F3 Dd with
          | none => rfl
          | some o =>
            rcases gr3.new _ _ q3 with z | z
            · rw [hF] at z; cases z
            · rw [hH] at z; cases z
        · rcases gr3.pot with z2 | ⟨b, z2, hb⟩
          · exact hp (by rw [← z2]; exact z)
          · rw [z2] at z; cases z; rw [hH] at hb; cases hb
      refine hg F2 H' _ _ xv _ _ _ ρ1 _ gs2.sub r2 sr2 q fun σ2 sr3 hl2 hn => ?_
      refine ⟨wipe_eq (by rw [hl2, wipe_length]) hn, F2, pa, p, ρ1, gs2, sr3, ?_⟩
      cases qt : tt ρ1 p with
      | stuck => rw [qt] at el1; cases el1
      | exc x' p' => rw [qt] at el1; cases el1
      | ok b p3 =>
        rw [qt] at el1
        intro F3 H3 pa3 gr3 gs3
        cases b with
        | false =>
          simp only [Bool.false_eq_true, if_false] at el1 ⊢
          have gr5 := gr2.trans gr3
          obtain ⟨n1, n2, n3⟩ := hne gr5
          exact ⟨F3, pa3, p3, acc, ds, ys, gr.trans gr5, fz.trans gr5.fz, gs3, sr.grow gr5, n1, n2, n3, Nat.le_succ_of_le hl, rs.mono gr5.fz, el1, ea⟩
        | true =>
          simp only [if_true] at el1 ⊢
          refine ⟨F3, pa3, p3, ρ1, gs3, sr3.grow gr3, ?_⟩
          cases qe : el ρ1 p3 with
          | stuck => rw [qe] at el1; cases el1
          | exc x' p' => rw [qe] at el1; cases el1
          | ok y p4 =>
            rw [qe] at el1
            simp only at el1
            intro F4 H4 pa4 gr4 gs4 yv ry
            have gr5 := (gr2.trans gr3).trans gr4
            obtain ⟨n1, n2, n3⟩ := hne gr5
            have rs4 := rs.mono gr5.fz
            cases ql : lcGo f tt el (items.drop (i + 1)) (wipeS ρ vs) p4 with
            | stuck => rw [ql] at el1; cases el1
            | exc x' p' => rw [ql] at el1; cases el1
            | ok zs p5 =>
              rw [ql] at el1
              simp only [Res.ok.injEq] at el1
              obtain ⟨e1, e2⟩ := el1
              subst e1 e2
              have gs5 : GS F4 (upd H4 Dd (.lst (acc ++ [yv]))) pa4 p4 := by
                refine ⟨fun a u h => ?_, fun a e => ?_⟩
                · rw [upd_ne fun z => ?_]; exact gs4.sub a u h
                  subst z; rw [n2] at h; cases h
                · have ha : a ≠ Dd := fun z => n3 (by rw [← z]; exact e)
                  rw [upd_ne ha]; exact gs4.pot a e
              have grA : Gr F0 H0 g0 pa0 F4 H4 p4.g pa4 := gr.trans gr5
              have hD0 : H0 Dd = none := gr1.free0 hD
              have grB : Gr F0 H0 g0 pa0 F4 (upd H4 Dd (.lst (acc ++ [yv]))) p4.g pa4 := by
                refine ⟨grA.fz, grA.new, fun a o h1 h2 => ?_, fun a o h1 => ?_, grA.pot⟩
                · rw [upd_ne (ne_of_none h1 hD0)]; exact grA.keep a o h1 h2
                · rw [upd_ne (ne_of_none h1 hD0)]; exact grA.there a o h1
              have srB : SRel K F4 (upd H4 Dd (.lst (acc ++ [yv]))) p4.g pa4 (wipe σ vs) (wipeS ρ vs) := by
                have sr5 := sr.grow gr5
                refine ⟨sr5.len, fun j w h => ?_, sr5.apart⟩
                obtain ⟨v, e, r⟩ := sr5.rep j w h
                refine ⟨v, e, ?_⟩
                cases w with
                | val d => exact r
                | own xs =>
                  obtain ⟨a, vs', z1, z2, z3, z4, z5, z6⟩ := r
                  refine ⟨a, vs', z1, ?_, z3, z4, z5, z6⟩
                  rw [upd_ne fun z => ?_]; exact z2
                  -- an own list of the frame is older than the block's
                  obtain ⟨v1, e1, r1⟩ := (s1.wipe vs).rep j _ h
                  obtain ⟨a1, vs1, y1, y2, _⟩ := r1
                  rw [e] at e1
                  cases e1
                  rw [z1] at y1
                  cases y1
                  rw [z, hD] at y2; cases y2
              exact ⟨acc, n1, by rw [rs4.1]; omega, F4, pa4, p4, acc ++ [yv], ds ++ [y], zs, grB, fz.trans gr5.fz, gs5, srB, upd_same, n2, n3, by simp; omega, rs4.append (.cons ry .nil), ql, by rw [← ea]; simp⟩
  · have e0 : items.drop i = [] := List.drop_eq_nil_of_le (by omega)
    rw [e0] at el1
    cases el1
    rw [List.append_nil] at ea
    subst ea
    exact .inl ⟨stop (by omega), k F H pa acc gr gs hH hF hp (by omega) rs⟩
theorem lc_out {K : PySem.W.Frag} {mg : Str → Option Value} {f : D → Sl → Option Sl} {tt : M Bool} {el : M D} {g : TG} {vs : List Nat} (hg : GOk K vs g f) : ∀ σ H Q, TMo K mg Wx (mLc vs mi f tt el) σ H Q → tLc (TMi K mg Wx mi) g (TMt K mg W0 tt) (TM K mg W0 el) vs σ H Q := by
  intro σ H Q ⟨F, pa, p, ρ, gs, s, o⟩
  refine ⟨F, pa, p, ρ, gs, s, (Out.bindS .refl o).mono fun items p1 F1 H1 pa1 gr gs1 ⟨gr1, o1⟩ J ij hz Dd hD => ?_⟩
  cases e : lcGo f tt el items (wipeS ρ vs) p1 with
  | stuck => simp only [e] at o1; exact o1.elim
  | exc x' p' => simp only [e] at o1; exact o1.elim
  | ok all pend =>
    simp only [e] at o1
    exact lc_inv hg gr1 gs1 (s.grow gr1) ij hz hD e fun F' H' pa' ws gr' gs' h1 h2 h3 h4 h5 => o1 F' H' pa' gr' gs' Dd ws (gr1.free0 hD) h1 h2 h3 h4 h5
theorem pmo_lc {f : D → Sl → Option Sl} {tt : M Bool} {el : M D} {g : TG} {elt iter : Expr} {ifs : List Expr} {scope : Scope} {own : List (Str × Nat)} (hc : X.calm = true) (hN : X.N.Nodup) (hi : PMi X Wx tg iter mi) (ok : BlkOk X.N X.env.scope scope own)
    (hg : ∀ (s : Shared) (H : Hp) (C : Addr) (cl : List (Str × Addr)) (fp : List Addr), PG (X.blk s H scope (compEnvC scope cl C X.env) fp) tg g) (hf : GOk X.K (own.map (·.2)) g f)
    (ht : ∀ (s : Shared) (H : Hp) (C : Addr) (cl : List (Str × Addr)) (fp : List Addr), PMts (X.blk s H scope (compEnvC scope cl C X.env) fp) W0 ifs tt)
    (he : ∀ (s : Shared) (H : Hp) (C : Addr) (cl : List (Str × Addr)) (fp : List Addr), PM (X.blk s H scope (compEnvC scope cl C X.env) fp) W0 elt el) (hs : ∀ x, foldedSetIterable iter X.env x = pure x := by intro _; rfl) :
    PMo X Wx (.ListComp elt [⟨tg, iter, ifs, 0⟩] scope pos) (mLc (own.map (·.2)) mi f tt el) :=
  ⟨(pe_lc hc hN hi.pi ok hg (fun s H C cl fp => (ht s H C cl fp).pt) (fun s H C cl fp => (he s H C cl fp).pe) hs).imp (lc_out hf)⟩
end
end PF

namespace PF
open PySem PySem.Spec PyProof.Rows L2

/-! ### functions -/
inductive FRes where
  | ok (d : D) (fr : Bool) (p : Pst) | exc (x : Ex) (p : Pst) | stuck
abbrev Fn := List D → Pst → FRes
/-- a def's result: fr: a fresh list -/
def ResRep (K : PySem.W.Frag) (F' H H' : Hp) (g : Nat) (pa : Option Addr) : Bool → V → D → Prop
  | false, v, d => Rep K F' g pa v d
  | true, v, d => ∃ a vs ds, v = .ref a ∧ d = .lst ds ∧ H a = none ∧ H' a = some (.lst vs) ∧ F' a = none ∧ pa ≠ some a ∧ ds.length ≤ sizeLine ∧ Reps K F' g pa vs ds
def FOut (K : PySem.W.Frag) (mg : Str → Option Value) (F H : Hp) (g : Nat) (pa : Option Addr) (Q : VK) (E : XK) : FRes → Prop
  | .ok d fr p' => ∀ v F' H' pa', Gr F H g pa F' H' p'.g pa' → GS F' H' pa' p' → ResRep K F' H H' p'.g pa' fr v d → Q v H'
  | .exc x p' => ∀ cls dd F' H' pa', Gr F H g pa F' H' p'.g pa' → GS F' H' pa' p' → ExRep K mg F' p'.g pa' cls dd x → E cls dd H'
  | .stuck => False
structure FnM (P : Program) (w : World) (K : PySem.W.Frag) (mg : Str → Option Value) (base : Heap) (k : Nat) (f : Addr) (fd : FuncData) (ps : List Str) (G : Fn) : Prop where
  len : ∀ ds p, G ds p ≠ .stuck → ds.length = ps.length
  run : ∀ (A : Around) (outer : List Env) (s : Shared) (H : Hp) (args : Args) (us : List Value) (vs : List V) (ds : List D) (F : Hp) (pa : Option Addr) (p : Pst) (Q : VK) (E : XK), Room k A → A.guards = some [] → Env0 P w K mg base A outer s H → BindsTo s fd args (ps.zip us) → Vals vs us →
    GS F H pa p → Reps K F p.g pa vs ds → FOut K mg F H p.g pa Q E (G ds p) → codeAny (model P w) A (.call (.ref f) args) (CR (L2.CX P w) outer P w H s Q E) s
/-- the def that the module's name x stands for -/
structure FnX (P : Program) (w : World) (K : PySem.W.Frag) (mg : Str → Option Value) (base : Heap) (x : Str) (params : Arguments) (k : Nat) (ps : List Str) (G : Fn) : Prop where
  ex : ∃ (f : Addr) (fd : FuncData), mg x = some (.ref f) ∧ PySem.W.keepIn K (.ref f) = true ∧ (∃ (body : List Stmt) (scope : Scope) (kV doc pm : Value) (an : Option Addr) (cdv ct : Value), fd = PySem.W.fnOf x x params body scope .none kV doc pm an cdv ct) ∧ FnM P w K mg base k f fd ps G
/-- the values at the places ix -/
def permL {α : Type} (ix : List Nat) (l : List α) : List α := ix.filterMap fun i => l[i]?
theorem permL_rep {α β : Type} {R : α → β → Prop} {xs : List α} {ys : List β} (r : AllR R xs ys) : ∀ ix, AllR R (permL ix xs) (permL ix ys)
  | [] => .nil
  | i :: ix => by
    have ih := permL_rep r ix
    unfold permL at ih ⊢
    simp only [List.filterMap_cons]
    cases q : xs[i]? with
    | none =>
      have : ys[i]? = none := by
        rw [List.getElem?_eq_none_iff] at q ⊢
        rw [← r.1]; exact q
      rw [this]
      exact ih
    | some v =>
      obtain ⟨d, hd, rv⟩ := r.get' q
      rw [hd]
      exact .cons rv ih
theorem permL_vals {xs : List V} {us : List Value} (r : Vals xs us) : ∀ ix, Vals (permL ix xs) (permL ix us)
  | [] => .nil
  | i :: ix => by
    have ih := permL_vals r ix
    unfold permL at ih ⊢
    simp only [List.filterMap_cons]
    cases q : xs[i]? with
    | none => rw [r.none_of q]; exact ih
    | some v =>
      obtain ⟨u, hu, ru⟩ := r.get q
      rw [hu]
      exact .cons ru ih
/-- how a call's arguments are bound: n positional ones, the keywords ks; ix: their places, parameter by parameter -/
def Bd (x : Str) (params : Arguments) (ps : List Str) (n : Nat) (ks : List Str) (ix : List Nat) : Prop := ∀ (body : List Stmt) (scope : Scope) (kV doc pm : Value) (an : Option Addr) (cdv ct : Value) (us ws : List Value), us.length = n → ws.length = ks.length →
  bindArgs (PySem.W.fnOf x x params body scope .none kV doc pm an cdv ct) ⟨us, ks.zip ws⟩ = pure (ps.zip (permL ix (us ++ ws)))

section
variable {X : Cx} {Wx : WX} {a b c e : Expr} {es rest : List Expr} {ma mb mc m : M D} {mo ms mk mi : M (List D)} {ta tb : M Bool} {pos : Pos} {x : Str} {p : Pos} {tg : Expr} {params : Arguments} {k : Nat} {ps ks : List Str} {ix : List Nat} {n : Nat} {G : Fn} {kws : List Keyword}
/-- keywords' values -/
structure PMk (X : Cx) (Wx : WX) (kws : List Keyword) (m : M (List D)) : Prop where
  pk : PK X kws (TMa X.K X.mg Wx m)
theorem _root_.L2.PK.imp {X : Cx} {e : List Keyword} {t t' : TA} (h : PK X e t) (f : ∀ σ H Q, t' σ H Q → t σ H Q) : PK X e t' := ⟨fun pos pins s σ H Q I q => h.run pos pins s σ H Q I (f σ H Q q)⟩
theorem pmk_nil : PMk X Wx [] (mret []) := ⟨pk_nil.imp fun σ H Q ⟨F, pa, p, ρ, gs, s, o⟩ => o.ret gs _ .nil⟩
theorem pmk_cons {nm : Option Str} {kpos : Pos} (ha : PM X Wx e ma) (hr : PMk X Wx kws ms) : PMk X Wx (⟨nm, e, kpos⟩ :: kws) (mcons ma ms) := ⟨(pk_cons ha.pe hr.pk).imp fun σ H Q ⟨F, pa, p, ρ, gs, s, o⟩ => by
  refine TM.of gs s (o.bind.mono fun d p1 F1 H1 pa1 gr1 gs1 o1 s1 v1 r1 => ?_)
  refine TMa.of gs1 s1 (o1.bind.mono fun ds p2 F2 H2 pa2 gr2 gs2 o2 s2 vs2 rs2 => ?_)
  exact o2.ret gs2 _ (.cons (r1.mono gr2.fz) rs2)⟩
/-- the callee runs; fr: what is made of its result -/
theorem run_fnM {f : Addr} {fd : FuncData} {pins : List (Addr × Obj)} {σ : L2.St} {H : Hp} {s : Shared} {Q : VK} {us : List Value} {vs : List V} {ds : List D} {F : Hp} {pa : Option Addr} {p : Pst} {args : Args} {E : XK} (Fm : FnM X.prog X.w X.K X.mg X.base k f fd ps G) (hr : Room k X.A) (hgd : X.A.guards = some []) (tk : Takes X Wx)
    (hb : BindsTo s fd args (ps.zip us)) (I : Inv X pins σ H s) (r : Vals vs us) (gs : GS F H pa p) (rs : Reps X.K F p.g pa vs ds) (hE : ∀ cls d H', E cls d H' → Wx cls d σ H') (o : FOut X.K X.mg F H p.g pa Q E (G ds p)) :
    codeAny (model X.prog X.w) X.A (.call (.ref f) args) (fun r s' => match r with
      | .ok (.ret u) => EP X pins σ Q u s'
      | .ok _ => False
      | .error e => X.xe e s') s := by
  refine codeAny_mono (Fm.run X.A X.stack s H args us vs ds F pa p Q E hr hgd I.env0 hb r gs rs o) fun r s' hq => ?_
  cases r with
  | error e => exact tk e s' (XE.of_call I hE hq)
  | ok fl =>
    cases fl with
    | ret u => exact I.after hq
    | next => exact False.elim hq
    | brk => exact False.elim hq
    | cont => exact False.elim hq
def outFn {α : Type} (f : D → Bool → Option α) : FRes → Res α
  | .ok d fr p' => (match f d fr with
    | some a => .ok a p'
    | none => .stuck)
  | .exc x p' => .exc x p'
  | .stuck => .stuck
/-- f(..): ms the positional arguments, mk the keywords' -/
def mFn (G : Fn) (n m : Nat) (ix : List Nat) (ms mk : M (List D)) : M D := mbind ms fun ds => mbind mk fun es _ p => if ds.length = n ∧ es.length = m then outFn (fun d _ => some d) (G (permL ix (ds ++ es)) p) else .stuck
def frOf (d : D) (fr : Bool) : Option (List D) := match d, fr with
  | .lst ds, true => some ds
  | _, _ => none
def mFno (G : Fn) (n m : Nat) (ix : List Nat) (ms mk : M (List D)) : M (List D) := mbind ms fun ds => mbind mk fun es _ p => if ds.length = n ∧ es.length = m then outFn frOf (G (permL ix (ds ++ es)) p) else .stuck
theorem AllR.len_perm {α β : Type} {R : α → β → Prop} {xs : List α} {ys : List β} (r : AllR R xs ys) (ix : List Nat) : (permL ix xs).length = (permL ix ys).length := (permL_rep r ix).1
/-- the common part of all forms of a call -/
theorem call_core {pins : List (Addr × Obj)} {s : Shared} {σ : L2.St} {H : Hp} {Q : VK} {f : Addr} {fd : FuncData} {us ws : List Value} {vs zs : List V} {ds es : List D} {F : Hp} {pa : Option Addr} {p : Pst} {E : XK}
    (hfd : ∃ (body : List Stmt) (scope : Scope) (kV doc pm : Value) (an : Option Addr) (cdv ct : Value), fd = PySem.W.fnOf x x params body scope .none kV doc pm an cdv ct) (Fm : FnM X.prog X.w X.K X.mg X.base k f fd ps G) (hr : Room k X.A) (hgd : X.A.guards = some []) (tk : Takes X Wx)
    (hb : Bd x params ps n ks ix) (hn : us.length = n) (hm : ws.length = ks.length) (I : Inv X pins σ H s) (r : Vals vs us) (rz : Vals zs ws) (gs : GS F H pa p) (rs : Reps X.K F p.g pa vs ds) (rz' : Reps X.K F p.g pa zs es)
    (hE : ∀ cls d H', E cls d H' → Wx cls d σ H') (o : FOut X.K X.mg F H p.g pa Q E (G (permL ix (ds ++ es)) p)) : wpAny (model X.prog X.w) X.A (call (.ref f) us (ks.zip ws)) (EP X pins σ Q) X.xe s := by
  obtain ⟨body, scope, kV, doc, pm, an, cdv, ct, rfl⟩ := hfd
  have hbt : BindsTo s (PySem.W.fnOf x x params body scope .none kV doc pm an cdv ct) ⟨us, ks.zip ws⟩ (ps.zip (permL ix (us ++ ws))) := .of_eq (hb _ _ _ _ _ _ _ _ us ws hn hm)
  exact wpAny_call (codeAny_mono (run_fnM Fm hr hgd tk hbt I (permL_vals (r.append rz) ix) gs (permL_rep (rs.append rz') ix) hE o) fun r s' h => by
    cases r with
    | error e => exact h
    | ok fl =>
      cases fl with
      | ret u => exact h
      | next => exact h
      | brk => exact h
      | cont => exact h)
theorem fout_val {K : PySem.W.Frag} {mg : Str → Option Value} {σ : L2.St} {F H F0 H0 : Hp} {pa pa0 : Option Addr} {g0 : Nat} {p : Pst} {Q : VK} {r : FRes} (gr : Gr F0 H0 g0 pa0 F H p.g pa)
    (o : Out K mg Wx σ F0 H0 g0 pa0 (fun d p' F' H' pa' => ∀ v, Rep K F' p'.g pa' v d → Q v H') (outFn (fun d _ => some d) r)) : FOut K mg F H p.g pa Q (fun cls dd H' => Wx cls dd σ H') r := by
  cases r with
  | stuck => exact o
  | exc x p' => exact fun cls dd F' H' pa' gr' gs' r => o cls dd F' H' pa' (gr.trans gr') gs' r
  | ok d fr p' =>
    intro v F' H' pa' gr' gs' rr
    cases fr with
    | false => exact o F' H' pa' (gr.trans gr') gs' v rr
    | true =>
      obtain ⟨a, vs, ds, rfl, rfl, h1, h2, h3, h4, h5, h6⟩ := rr
      have gr2 := (gr.trans gr')
      have h0 : H0 a = none := gr.free0 h1
      exact o _ H' pa' (gr2.freeze h0 h3) (gs'.freeze h2 h4) _ (Rep.lst' upd_same h5 (h6.mono (Fz.upd h3)))
theorem fout_o {K : PySem.W.Frag} {mg : Str → Option Value} {σ : L2.St} {F H F0 H0 : Hp} {pa pa0 : Option Addr} {g0 : Nat} {p : Pst} {Q : VK} {r : FRes} (gr : Gr F0 H0 g0 pa0 F H p.g pa)
    (o : Out K mg Wx σ F0 H0 g0 pa0 (fun ds p' F' H' pa' => ∀ a vs, H0 a = none → H' a = some (.lst vs) → F' a = none → pa' ≠ some a → ds.length ≤ sizeLine → Reps K F' p'.g pa' vs ds → Q (.ref a) H') (outFn frOf r)) : FOut K mg F H p.g pa Q (fun cls dd H' => Wx cls dd σ H') r := by
  cases r with
  | stuck => exact o
  | exc x p' => exact fun cls dd F' H' pa' gr' gs' r => o cls dd F' H' pa' (gr.trans gr') gs' r
  | ok d fr p' =>
    intro v F' H' pa' gr' gs' rr
    cases fr with
    | false => cases d <;> exact o.elim
    | true =>
      obtain ⟨a, vs, ds, rfl, rfl, h1, h2, h3, h4, h5, h6⟩ := rr
      exact o F' H' pa' (gr.trans gr') gs' a vs (gr.free0 h1) h2 h3 h4 h5 h6
/-- where the arguments have come: one transformer for both kinds of results -/
def tFn (n m : Nat) (ta tk : TA) (R : List V → List V → Hp → VK → Prop) : TE := fun σ H Q => ta σ H fun vs H1 => tk σ H1 fun zs H2 => vs.length = n ∧ zs.length = m ∧ R vs zs H2 Q
def FR (X : Cx) (Wx : WX) (G : Fn) (ix : List Nat) (σ : L2.St) : List V → List V → Hp → VK → Prop := fun vs zs H Q => ∃ F pa p ds es, GS F H pa p ∧ Reps X.K F p.g pa vs ds ∧ Reps X.K F p.g pa zs es ∧ FOut X.K X.mg F H p.g pa Q (fun cls dd H' => Wx cls dd σ H') (G (permL ix (ds ++ es)) p)
def tFnX (X : Cx) (Wx : WX) (G : Fn) (ix : List Nat) (n m : Nat) (ta tk : TA) : TE := fun σ H Q => tFn n m ta tk (FR X Wx G ix σ) σ H Q
theorem fr_run {pins : List (Addr × Obj)} {s : Shared} {σ : L2.St} {H : Hp} {Q : VK} {f : Addr} {fd : FuncData} {us ws : List Value} {vs zs : List V}
    (hfd : ∃ (body : List Stmt) (scope : Scope) (kV doc pm : Value) (an : Option Addr) (cdv ct : Value), fd = PySem.W.fnOf x x params body scope .none kV doc pm an cdv ct) (Fm : FnM X.prog X.w X.K X.mg X.base k f fd ps G) (hr : Room k X.A) (hgd : X.A.guards = some []) (tk : Takes X Wx)
    (hb : Bd x params ps n ks ix) (I : Inv X pins σ H s) (r : Vals vs us) (rz : Vals zs ws) (hn : vs.length = n) (hm : zs.length = ks.length) (h : FR X Wx G ix σ vs zs H Q) : wpAny (model X.prog X.w) X.A (call (.ref f) us (ks.zip ws)) (EP X pins σ Q) X.xe s := by
  obtain ⟨F, pa, p, ds, es, gs, rs, rz', o⟩ := h
  exact call_core hfd Fm hr hgd tk hb (by rw [← r.length]; exact hn) (by rw [← rz.length]; exact hm) I r rz gs rs rz' (fun _ _ _ h => h) o
theorem pe_fn1 (Fx : FnX X.prog X.w X.K X.mg X.base x params k ps G) (hr : Room k X.A) (hgd : X.A.guards = some []) (tk : Takes X Wx) (hb : Bd x params ps n [] ix) (hg : Gl X x) {t : TA} (ha : PA X (e :: es) t) (hdb : (x == ("__debug__" : Str)) = false := by decide)
    (he : starEach (e :: es) X.env = (false, eval e X.env) :: starEach es X.env := by rfl) (hpl : (backTo pos (starEach es X.env)).any (·.1) = false := by rfl) : PE X (.Call (.Name x p) (e :: es) [] pos) (tFnX X Wx G ix n 0 t tNil) := by
  obtain ⟨f, fd, hm, hk, hfd, Fm⟩ := Fx.ex
  refine ⟨fun pins s σ H Q I h => ?_⟩
  refine wpAny_Call_Name_kw (ld_glob I hg hm ?_ hdb)
  refine PySem.W.callWith_K (h₀ := X.base) I.ok.mod.kin hk (thn (ha.run pos pins s σ H _ I h) fun us s1 ⟨vs, H1, I1, r, h1, h2, q⟩ => ⟨I1.kIn, ?_⟩) he hpl
  exact fr_run (ks := []) (ws := []) hfd Fm hr hgd tk hb I1 r .nil h1 rfl q
theorem pe_fn0 (Fx : FnX X.prog X.w X.K X.mg X.base x params k ps G) (hr : Room k X.A) (hgd : X.A.guards = some []) (tk : Takes X Wx) (hb : Bd x params ps 0 [] ix) (hg : Gl X x) (hdb : (x == ("__debug__" : Str)) = false := by decide) : PE X (.Call (.Name x p) [] [] pos) (tFnX X Wx G ix 0 0 tNil tNil) := by
  obtain ⟨f, fd, hm, hk, hfd, Fm⟩ := Fx.ex
  refine ⟨fun pins s σ H Q I h => ?_⟩
  refine wpAny_Call_Name_kw (ld_glob I hg hm ?_ hdb)
  exact PySem.W.callWith_K0 I.kIn hk (fr_run (ks := []) (ws := []) (us := []) hfd Fm hr hgd tk hb I .nil .nil rfl rfl h.2.2)
theorem pe_fnk (Fx : FnX X.prog X.w X.K X.mg X.base x params k ps G) (hr : Room k X.A) (hgd : X.A.guards = some []) (tk : Takes X Wx) (hb : Bd x params ps n ks ix) (hg : Gl X x) {t t2 : TA} (ha : PA X (e :: es) t) (hkw : PK X kws t2)
    (hall : (backToKw pos (keywordEach kws X.env)).all (·.1.isSome) = true := by rfl) (hks : (backToKw pos (keywordEach kws X.env)).filterMap (·.1) = ks := by rfl) (hdb : (x == ("__debug__" : Str)) = false := by decide) (he : starEach (e :: es) X.env = (false, eval e X.env) :: starEach es X.env := by rfl)
    (hpl : ((backTo pos (starEach (e :: es) X.env)).any (·.1) || (backToKw pos (keywordEach kws X.env)).any (·.1.isNone)) = false := by rfl) : PE X (.Call (.Name x p) (e :: es) kws pos) (tFnX X Wx G ix n ks.length t t2) := by
  obtain ⟨f, fd, hm, hk, hfd, Fm⟩ := Fx.ex
  refine ⟨fun pins s σ H Q I h => ?_⟩
  refine wpAny_Call_Name_kw (ld_glob I hg hm ?_ hdb)
  refine PySem.W.callWith_KW (h₀ := X.base) I.ok.mod.kin hk hall (thn (ha.run pos pins s σ H _ I h) fun us s1 ⟨vs, H1, I1, r, q⟩ => ?_) hpl he
  refine thn (hkw.run pos pins s1 σ H1 _ I1 q) fun ws s2 ⟨zs, H2, I2, rz, h1, h2, q2⟩ => ⟨I2.kIn, ?_⟩
  rw [hks]
  exact fr_run hfd Fm hr hgd tk hb I2 r rz h1 h2 q2
theorem pe_fnk0 (Fx : FnX X.prog X.w X.K X.mg X.base x params k ps G) (hr : Room k X.A) (hgd : X.A.guards = some []) (tk : Takes X Wx) (hb : Bd x params ps 0 ks ix) (hg : Gl X x) {t2 : TA} (hkw : PK X kws t2)
    (hall : (backToKw pos (keywordEach kws X.env)).all (·.1.isSome) = true := by rfl) (hks : (backToKw pos (keywordEach kws X.env)).filterMap (·.1) = ks := by rfl) (hdb : (x == ("__debug__" : Str)) = false := by decide)
    (hpl : ((backTo pos (starEach [] X.env)).any (·.1) || (backToKw pos (keywordEach kws X.env)).any (·.1.isNone)) = false := by rfl) : PE X (.Call (.Name x p) [] kws pos) (tFnX X Wx G ix 0 ks.length tNil t2) := by
  obtain ⟨f, fd, hm, hk, hfd, Fm⟩ := Fx.ex
  refine ⟨fun pins s σ H Q I h => ?_⟩
  refine wpAny_Call_Name_kw (ld_glob I hg hm ?_ hdb)
  refine PySem.W.callWith_KW0 (h₀ := X.base) I.ok.mod.kin hk hall (thn (hkw.run pos pins s σ H _ I h) fun ws s2 ⟨zs, H2, I2, rz, h1, h2, q2⟩ => ⟨I2.kIn, ?_⟩) hpl
  rw [hks]
  exact fr_run (us := []) hfd Fm hr hgd tk hb I2 .nil rz h1 h2 q2
theorem tNil_of {K : PySem.W.Frag} {mg : Str → Option Value} {σ : L2.St} {H : Hp} {Q : List V → Hp → Prop} (h : Q [] H) : tNil σ H Q := h
/-- from the data to the transformer -/
theorem fn_tm {m' : Nat} {t2 : TA} (ht : ∀ σ H Q, TMa X.K X.mg Wx mk σ H Q → t2 σ H Q) : ∀ σ H Q, TM X.K X.mg Wx (mFn G n m' ix ms mk) σ H Q → tFnX X Wx G ix n m' (TMa X.K X.mg Wx ms) t2 σ H Q := by
  intro σ H Q ⟨F, pa, p, ρ, gs, s, o⟩
  refine TMa.of gs s ((Out.bindS .refl o).mono fun ds p1 F1 H1 pa1 gr1' gs1 ⟨gr1, o1⟩ s1 vs rs => ht _ _ _ ?_)
  refine TMa.of gs1 s1 ((Out.bindS gr1 o1).mono fun es p2 F2 H2 pa2 gr2' gs2 ⟨gr2, o2⟩ s2 zs rz => ?_)
  by_cases hc : ds.length = n ∧ es.length = m'
  · rw [if_pos hc] at o2
    exact ⟨by rw [rs.1]; exact hc.1, by rw [rz.1]; exact hc.2, F2, pa2, p2, ds, es, gs2, rs.mono gr2'.fz, rz, fout_val gr2 o2⟩
  · rw [if_neg hc] at o2; exact o2.elim
theorem fn_tmo {m' : Nat} {t2 : TA} (ht : ∀ σ H Q, TMa X.K X.mg Wx mk σ H Q → t2 σ H Q) : ∀ σ H Q, TMo X.K X.mg Wx (mFno G n m' ix ms mk) σ H Q → tFnX X Wx G ix n m' (TMa X.K X.mg Wx ms) t2 σ H Q := by
  intro σ H Q ⟨F, pa, p, ρ, gs, s, o⟩
  refine TMa.of gs s ((Out.bindS .refl o).mono fun ds p1 F1 H1 pa1 gr1' gs1 ⟨gr1, o1⟩ s1 vs rs => ht _ _ _ ?_)
  refine TMa.of gs1 s1 ((Out.bindS gr1 o1).mono fun es p2 F2 H2 pa2 gr2' gs2 ⟨gr2, o2⟩ s2 zs rz => ?_)
  by_cases hc : ds.length = n ∧ es.length = m'
  · rw [if_pos hc] at o2
    exact ⟨by rw [rs.1]; exact hc.1, by rw [rz.1]; exact hc.2, F2, pa2, p2, ds, es, gs2, rs.mono gr2'.fz, rz, fout_o gr2 o2⟩
  · rw [if_neg hc] at o2; exact o2.elim
theorem nil_tma : ∀ (σ : L2.St) (H : Hp) (Q : List V → Hp → Prop), TMa X.K X.mg Wx (mret []) σ H Q → tNil σ H Q := fun σ H Q ⟨F, pa, p, ρ, gs, s, o⟩ => o.ret gs _ .nil
theorem nil_fn {t2 : TA} {m' : Nat} : ∀ σ H Q, tFnX X Wx G ix n m' (TMa X.K X.mg Wx (mret [])) t2 σ H Q → tFnX X Wx G ix n m' tNil t2 σ H Q := fun σ H Q h => nil_tma _ _ _ h
theorem pm_fn1 (Fx : FnX X.prog X.w X.K X.mg X.base x params k ps G) (hr : Room k X.A) (hgd : X.A.guards = some []) (tk : Takes X Wx) (hb : Bd x params ps n [] ix) (hg : Gl X x) (ha : PMa X Wx (e :: es) ms) (hdb : (x == ("__debug__" : Str)) = false := by decide)
    (he : starEach (e :: es) X.env = (false, eval e X.env) :: starEach es X.env := by rfl) (hpl : (backTo pos (starEach es X.env)).any (·.1) = false := by rfl) : PM X Wx (.Call (.Name x p) (e :: es) [] pos) (mFn G n 0 ix ms (mret [])) := ⟨(pe_fn1 Fx hr hgd tk hb hg ha.pa hdb he hpl).imp (fn_tm nil_tma)⟩
theorem pm_fn0 (Fx : FnX X.prog X.w X.K X.mg X.base x params k ps G) (hr : Room k X.A) (hgd : X.A.guards = some []) (tk : Takes X Wx) (hb : Bd x params ps 0 [] ix) (hg : Gl X x) (hdb : (x == ("__debug__" : Str)) = false := by decide) : PM X Wx (.Call (.Name x p) [] [] pos) (mFn G 0 0 ix (mret []) (mret [])) :=
  ⟨(pe_fn0 Fx hr hgd tk hb hg hdb).imp fun σ H Q h => nil_fn _ _ _ (fn_tm nil_tma σ H Q h)⟩
theorem pm_fnk (Fx : FnX X.prog X.w X.K X.mg X.base x params k ps G) (hr : Room k X.A) (hgd : X.A.guards = some []) (tk : Takes X Wx) (hb : Bd x params ps n ks ix) (hg : Gl X x) (ha : PMa X Wx (e :: es) ms) (hkw : PMk X Wx kws mk)
    (hall : (backToKw pos (keywordEach kws X.env)).all (·.1.isSome) = true := by rfl) (hks : (backToKw pos (keywordEach kws X.env)).filterMap (·.1) = ks := by rfl) (hdb : (x == ("__debug__" : Str)) = false := by decide) (he : starEach (e :: es) X.env = (false, eval e X.env) :: starEach es X.env := by rfl)
    (hpl : ((backTo pos (starEach (e :: es) X.env)).any (·.1) || (backToKw pos (keywordEach kws X.env)).any (·.1.isNone)) = false := by rfl) : PM X Wx (.Call (.Name x p) (e :: es) kws pos) (mFn G n ks.length ix ms mk) := ⟨(pe_fnk Fx hr hgd tk hb hg ha.pa hkw.pk hall hks hdb he hpl).imp (fn_tm fun _ _ _ h => h)⟩
theorem pm_fnk0 (Fx : FnX X.prog X.w X.K X.mg X.base x params k ps G) (hr : Room k X.A) (hgd : X.A.guards = some []) (tk : Takes X Wx) (hb : Bd x params ps 0 ks ix) (hg : Gl X x) (hkw : PMk X Wx kws mk)
    (hall : (backToKw pos (keywordEach kws X.env)).all (·.1.isSome) = true := by rfl) (hks : (backToKw pos (keywordEach kws X.env)).filterMap (·.1) = ks := by rfl) (hdb : (x == ("__debug__" : Str)) = false := by decide)
    (hpl : ((backTo pos (starEach [] X.env)).any (·.1) || (backToKw pos (keywordEach kws X.env)).any (·.1.isNone)) = false := by rfl) : PM X Wx (.Call (.Name x p) [] kws pos) (mFn G 0 ks.length ix (mret []) mk) := ⟨(pe_fnk0 Fx hr hgd tk hb hg hkw.pk hall hks hdb hpl).imp fun σ H Q h => nil_fn _ _ _ (fn_tm (fun _ _ _ h => h) σ H Q h)⟩
theorem pmo_fn1 (Fx : FnX X.prog X.w X.K X.mg X.base x params k ps G) (hr : Room k X.A) (hgd : X.A.guards = some []) (tk : Takes X Wx) (hb : Bd x params ps n [] ix) (hg : Gl X x) (ha : PMa X Wx (e :: es) ms) (hdb : (x == ("__debug__" : Str)) = false := by decide)
    (he : starEach (e :: es) X.env = (false, eval e X.env) :: starEach es X.env := by rfl) (hpl : (backTo pos (starEach es X.env)).any (·.1) = false := by rfl) : PMo X Wx (.Call (.Name x p) (e :: es) [] pos) (mFno G n 0 ix ms (mret [])) := ⟨(pe_fn1 Fx hr hgd tk hb hg ha.pa hdb he hpl).imp (fn_tmo nil_tma)⟩
theorem pmo_fn0 (Fx : FnX X.prog X.w X.K X.mg X.base x params k ps G) (hr : Room k X.A) (hgd : X.A.guards = some []) (tk : Takes X Wx) (hb : Bd x params ps 0 [] ix) (hg : Gl X x) (hdb : (x == ("__debug__" : Str)) = false := by decide) : PMo X Wx (.Call (.Name x p) [] [] pos) (mFno G 0 0 ix (mret []) (mret [])) :=
  ⟨(pe_fn0 Fx hr hgd tk hb hg hdb).imp fun σ H Q h => nil_fn _ _ _ (fn_tmo nil_tma σ H Q h)⟩
theorem pmo_fnk (Fx : FnX X.prog X.w X.K X.mg X.base x params k ps G) (hr : Room k X.A) (hgd : X.A.guards = some []) (tk : Takes X Wx) (hb : Bd x params ps n ks ix) (hg : Gl X x) (ha : PMa X Wx (e :: es) ms) (hkw : PMk X Wx kws mk)
    (hall : (backToKw pos (keywordEach kws X.env)).all (·.1.isSome) = true := by rfl) (hks : (backToKw pos (keywordEach kws X.env)).filterMap (·.1) = ks := by rfl) (hdb : (x == ("__debug__" : Str)) = false := by decide) (he : starEach (e :: es) X.env = (false, eval e X.env) :: starEach es X.env := by rfl)
    (hpl : ((backTo pos (starEach (e :: es) X.env)).any (·.1) || (backToKw pos (keywordEach kws X.env)).any (·.1.isNone)) = false := by rfl) : PMo X Wx (.Call (.Name x p) (e :: es) kws pos) (mFno G n ks.length ix ms mk) := ⟨(pe_fnk Fx hr hgd tk hb hg ha.pa hkw.pk hall hks hdb he hpl).imp (fn_tmo fun _ _ _ h => h)⟩
end
end PF

namespace PF
open PySem PySem.Spec PyProof.Rows L2

/-! ### statements -/
inductive SRes where
  | nx (ρ : Sl) (p : Pst) | rt (d : D) (fr : Bool) (p : Pst) | bk (ρ : Sl) (p : Pst) | ct (ρ : Sl) (p : Pst) | exc (x : Ex) (ρ : Sl) (p : Pst) | stuck
abbrev C := Sl → Pst → SRes
/-- the def's entry -/
structure Ent where
  F : Hp
  H : Hp
  g : Nat
  pa : Option Addr
/-- a state within the def -/
structure SS (K : PySem.W.Frag) (En : Ent) (F H : Hp) (pa : Option Addr) (p : Pst) (σ : L2.St) (ρ : Sl) : Prop where
  gr : Gr En.F En.H En.g En.pa F H p.g pa
  gs : GS F H pa p
  sr : SRel K F H p.g pa σ ρ
  nw : ∀ (i : Nat) xs v, ρ[i]? = some (some (.own xs)) → σ[i]? = some (some v) → ∀ a, v = .ref a → En.H a = none
def SOut (K : PySem.W.Frag) (mg : Str → Option Value) (En : Ent) (Wx : WX) (F : Hp) (g : Nat) (pa : Option Addr) (Dn : Ends) : SRes → Prop
  | .nx ρ' p' => ∀ σ' F' H' pa', Fz F g pa F' p'.g pa' → SS K En F' H' pa' p' σ' ρ' → Dn.nx σ' H'
  | .bk ρ' p' => ∀ σ' F' H' pa', Fz F g pa F' p'.g pa' → SS K En F' H' pa' p' σ' ρ' → Dn.bk σ' H'
  | .ct ρ' p' => ∀ σ' F' H' pa', Fz F g pa F' p'.g pa' → SS K En F' H' pa' p' σ' ρ' → Dn.ct σ' H'
  | .rt d fr p' => ∀ v F' H' pa', Fz F g pa F' p'.g pa' → Gr En.F En.H En.g En.pa F' H' p'.g pa' → GS F' H' pa' p' → ResRep K F' En.H H' p'.g pa' fr v d → Dn.rt v H'
  | .exc x ρ' p' => ∀ cls dd σ' F' H' pa', Fz F g pa F' p'.g pa' → SS K En F' H' pa' p' σ' ρ' → ExRep K mg F' p'.g pa' cls dd x → Wx cls dd σ' H'
  | .stuck => False
def TC (K : PySem.W.Frag) (mg : Str → Option Value) (En : Ent) (Wx : WX) (m : C) : TS := fun Dn σ H => ∃ F pa p ρ, SS K En F H pa p σ ρ ∧ SOut K mg En Wx F p.g pa Dn (m ρ p)
structure PMs (X : Cx) (En : Ent) (Wx : WX) (st : Stmt) (m : C) : Prop where
  ps : PS X st (TC X.K X.mg En Wx m)
structure PMss (X : Cx) (En : Ent) (Wx : WX) (st : List Stmt) (m : C) : Prop where
  ps : PSs X st (TC X.K X.mg En Wx m)
theorem _root_.L2.PS.imp {X : Cx} {e : Stmt} {t t' : TS} (h : PS X e t) (f : ∀ D σ H, t' D σ H → t D σ H) : PS X e t' := ⟨fun pins s σ H D I q => h.run pins s σ H D I (f D σ H q)⟩
theorem _root_.L2.PSs.imp {X : Cx} {e : List Stmt} {t t' : TS} (h : PSs X e t) (f : ∀ D σ H, t' D σ H → t D σ H) : PSs X e t' := ⟨fun pins s σ H D I q => h.run pins s σ H D I (f D σ H q)⟩
section
variable {K : PySem.W.Frag} {mg : Str → Option Value} {En : Ent} {Wx : WX} {F H F' H' : Hp} {g g' : Nat} {pa pa' : Option Addr} {p p' : Pst} {σ : L2.St} {ρ : Sl} {Dn : Ends}
theorem SOut.later {r : SRes} (h : SOut K mg En Wx F g pa Dn r) (z : Fz F g pa F' g' pa') : SOut K mg En Wx F' g' pa' Dn r := by
  cases r with
  | nx ρ p => exact fun σ F2 H2 pa2 f s => h σ F2 H2 pa2 (z.trans f) s
  | bk ρ p => exact fun σ F2 H2 pa2 f s => h σ F2 H2 pa2 (z.trans f) s
  | ct ρ p => exact fun σ F2 H2 pa2 f s => h σ F2 H2 pa2 (z.trans f) s
  | rt d fr p => exact fun v F2 H2 pa2 f => h v F2 H2 pa2 (z.trans f)
  | exc x ρ p => exact fun cls dd σ F2 H2 pa2 f => h cls dd σ F2 H2 pa2 (z.trans f)
  | stuck => exact h
theorem SS.grow (s : SS K En F H pa p σ ρ) (gr : Gr F H p.g pa F' H' p'.g pa') (gs : GS F' H' pa' p') : SS K En F' H' pa' p' σ ρ := ⟨s.gr.trans gr, gs, s.sr.grow gr, s.nw⟩
end

/-! ### blocks -/
def cskip : C := fun ρ p => .nx ρ p
def cseq (a b : C) : C := fun ρ p => match a ρ p with
  | .nx ρ' p' => b ρ' p'
  | r => r
def cbrk : C := fun ρ p => .bk ρ p
def ccnt : C := fun ρ p => .ct ρ p
def cstuck : C := fun _ _ => .stuck
section
variable {X : Cx} {En : Ent} {Wx : WX} {st : Stmt} {sts : List Stmt} {m m' : C} {ms mi : M (List D)} {e a b : Expr} {me ma mb : M D} {mo : M (List D)} {mt : M Bool} {pos : Pos} {i : Nat} {x : Str}
theorem cs_nil : PMss X En Wx [] cskip := ⟨pss_nil.imp fun Dn σ H ⟨F, pa, p, ρ, s, o⟩ => o σ F H pa .refl s⟩
theorem cs_pass : PMs X En Wx (.Pass pos) cskip := ⟨ps_pass.imp fun Dn σ H ⟨F, pa, p, ρ, s, o⟩ => o σ F H pa .refl s⟩
theorem cs_break : PMs X En Wx (.Break pos) cbrk := ⟨ps_break.imp fun Dn σ H ⟨F, pa, p, ρ, s, o⟩ => o σ F H pa .refl s⟩
theorem cs_cont : PMs X En Wx (.Continue pos) ccnt := ⟨ps_continue.imp fun Dn σ H ⟨F, pa, p, ρ, s, o⟩ => o σ F H pa .refl s⟩
theorem cs_never : PMs X En Wx st cstuck := ⟨ps_never.imp fun Dn σ H ⟨F, pa, p, ρ, s, o⟩ => o⟩
theorem cs_one (h : PMs X En Wx st m) : PMss X En Wx [st] m := ⟨pss_one h.ps⟩
theorem cs_cons (h1 : PMs X En Wx st m) (h2 : PMss X En Wx sts m') : PMss X En Wx (st :: sts) (cseq m m') := ⟨(pss_cons h1.ps h2.ps).imp fun Dn σ H ⟨F, pa, p, ρ, s, o⟩ => by
  refine ⟨F, pa, p, ρ, s, ?_⟩
  unfold cseq at o
  cases q : m ρ p with
  | nx ρ1 p1 =>
    rw [q] at o
    exact fun σ1 F1 H1 pa1 f s1 => ⟨F1, pa1, p1, ρ1, s1, o.later f⟩
  | bk ρ1 p1 => rw [q] at o; exact o
  | ct ρ1 p1 => rw [q] at o; exact o
  | rt d fr p1 => rw [q] at o; exact o
  | exc y ρ1 p1 => rw [q] at o; exact o
  | stuck => rw [q] at o; exact o⟩

/-! ### an expression within a statement -/
def eout {α : Type} (m : M α) (k : α → C) : C := fun ρ p => match m ρ p with
  | .ok a p' => k a ρ p'
  | .exc x p' => .exc x ρ p'
  | .stuck => .stuck
theorem SOut.expr {α : Type} {K : PySem.W.Frag} {mg : Str → Option Value} {F H : Hp} {pa : Option Addr} {p : Pst} {σ : L2.St} {ρ : Sl} {Dn : Ends} {me : M α} {k : α → C} (s : SS K En F H pa p σ ρ) (o : SOut K mg En Wx F p.g pa Dn (eout me k ρ p)) :
    Out K mg Wx σ F H p.g pa (fun d p' F' H' pa' => SS K En F' H' pa' p' σ ρ ∧ SOut K mg En Wx F' p'.g pa' Dn (k d ρ p')) (me ρ p) := by
  unfold eout at o
  cases q : me ρ p with
  | ok d p' =>
    rw [q] at o
    exact fun F' H' pa' gr gs => ⟨s.grow gr gs, o.later gr.fz⟩
  | exc x p' =>
    rw [q] at o
    exact fun cls dd F' H' pa' gr gs r => o cls dd σ F' H' pa' gr.fz (s.grow gr gs) r
  | stuck => rw [q] at o; exact o
theorem tm_s {K : PySem.W.Frag} {mg : Str → Option Value} {F H : Hp} {pa : Option Addr} {p : Pst} {σ : L2.St} {ρ : Sl} {Dn : Ends} {k : D → C} {Q : VK} (s : SS K En F H pa p σ ρ) (o : SOut K mg En Wx F p.g pa Dn (eout me k ρ p))
    (h : ∀ v d p' F' H' pa', SS K En F' H' pa' p' σ ρ → Fz F p.g pa F' p'.g pa' → Rep K F' p'.g pa' v d → SOut K mg En Wx F' p'.g pa' Dn (k d ρ p') → Q v H') : TM K mg Wx me σ H Q :=
  ⟨F, pa, p, ρ, s.gs, s.sr, (o.expr s).mono fun d p' F' H' pa' gr gs ⟨s', o'⟩ v r => h v d p' F' H' pa' s' gr.fz r o'⟩
def cexpr (me : M D) : C := eout me fun _ => cskip
theorem cs_expr (he : PM X Wx e me) (hs : swapsWith e none pos.line X.env = pure false := by rfl) : PMs X En Wx (.Expr e pos) (cexpr me) := ⟨(ps_expr he.pe hs).imp fun Dn σ H ⟨F, pa, p, ρ, s, o⟩ => by
  exact tm_s s o fun v d p' F' H' pa' s' _ r o' => o' σ F' H' pa' .refl s'⟩
/-- return e -/
def cret (me : M D) : C := eout me fun d _ p => .rt d false p
theorem cs_ret (he : PM X Wx e me) : PMs X En Wx (.Return (some e) pos) (cret me) := ⟨(ps_ret he.pe).imp fun Dn σ H ⟨F, pa, p, ρ, s, o⟩ => by
  exact tm_s s o fun v d p' F' H' pa' s' _ r o' => o' v F' H' pa' .refl s'.gr s'.gs r⟩
def cretN : C := fun _ p => .rt .non false p
theorem cs_retN : PMs X En Wx (.Return none pos) cretN := ⟨ps_retN.imp fun Dn σ H ⟨F, pa, p, ρ, s, o⟩ => o _ F H pa .refl s.gr s.gs (show Rep _ _ _ _ _ _ from .non)⟩
/-- return a fresh list -/
def creto (mo : M (List D)) : C := eout mo fun ds _ p => .rt (.lst ds) true p
theorem Gr.enter {En : Ent} {F H : Hp} {g : Nat} {pa : Option Addr} {a : Addr} (x : Gr En.F En.H En.g En.pa F H g pa) (h : H a = none) : En.H a = none := x.free0 h
theorem tmo_s {K : PySem.W.Frag} {mg : Str → Option Value} {F H : Hp} {pa : Option Addr} {p : Pst} {σ : L2.St} {ρ : Sl} {Dn : Ends} {k : List D → C} {Q : VK} (s : SS K En F H pa p σ ρ) (o : SOut K mg En Wx F p.g pa Dn (eout mo k ρ p))
    (h : ∀ a vs ds p' F' H' pa', SS K En F' H' pa' p' σ ρ → Fz F p.g pa F' p'.g pa' → H a = none → H' a = some (.lst vs) → F' a = none → pa' ≠ some a → ds.length ≤ sizeLine → Reps K F' p'.g pa' vs ds → SOut K mg En Wx F' p'.g pa' Dn (k ds ρ p') → Q (.ref a) H') : TMo K mg Wx mo σ H Q :=
  ⟨F, pa, p, ρ, s.gs, s.sr, (o.expr s).mono fun d p' F' H' pa' gr gs ⟨s', o'⟩ a vs h1 h2 h3 h4 h5 h6 => h a vs d p' F' H' pa' s' gr.fz h1 h2 h3 h4 h5 h6 o'⟩
theorem cs_reto (he : PMo X Wx e mo) : PMs X En Wx (.Return (some e) pos) (creto mo) := ⟨(ps_ret he.pe).imp fun Dn σ H ⟨F, pa, p, ρ, s, o⟩ => by
  exact tmo_s s o fun a vs ds p' F' H' pa' s' _ h1 h2 h3 h4 h5 h6 o' => o' _ F' H' pa' .refl s'.gr s'.gs ⟨a, vs, ds, rfl, rfl, s.gr.enter h1, h2, h3, h4, h5, h6⟩⟩
/-- return x, x an own list -/
def cretown (i : Nat) : C := fun ρ p => match ρ[i]? with
  | some (some (.own xs)) => .rt (.lst xs) true p
  | _ => .stuck
theorem cs_retown (h : PE X (.Name x pos) (tVar i)) {pos'} : PMs X En Wx (.Return (some (.Name x pos)) pos') (cretown i) := ⟨(ps_ret h).imp fun Dn σ H ⟨F, pa, p, ρ, s, o⟩ => by
  unfold cretown at o
  cases q : ρ[i]? with
  | none => rw [q] at o; exact o.elim
  | some w =>
    rw [q] at o
    cases w with
    | none => exact o.elim
    | some w =>
      cases w with
      | val d => exact o.elim
      | own xs =>
        obtain ⟨v, e1, a, vs, rfl, h2, h3, h4, h5, h6⟩ := s.sr.rep i _ q
        exact ⟨_, e1, o _ F H pa .refl s.gr s.gs ⟨a, vs, xs, rfl, rfl, s.nw i xs _ q e1 a rfl, h2, h3, h4, h5, h6⟩⟩⟩
/-- if -/
def cif (t : M Bool) (a b : C) : C := eout t fun k => if k = true then a else b
theorem cs_if {c : Expr} {sa sb : List Stmt} {ca cb : C} (hc : PMt X Wx c mt) (ha : PMss X En Wx sa ca) (hb : PMss X En Wx sb cb) : PMs X En Wx (.If c sa sb pos) (cif mt ca cb) := ⟨(ps_if hc.pt ha.ps hb.ps).imp fun Dn σ H ⟨F, pa, p, ρ, s, o⟩ => by
  refine ⟨F, pa, p, ρ, s.gs, s.sr, (o.expr s).mono fun k p' F' H' pa' gr gs ⟨s', o'⟩ => ?_⟩
  cases k with
  | true => simp only [if_true] at o' ⊢; exact ⟨F', pa', p', ρ, s', o'⟩
  | false => simp only [Bool.false_eq_true, if_false] at o' ⊢; exact ⟨F', pa', p', ρ, s', o'⟩⟩

/-! ### stores -/
theorem SS.set {K : PySem.W.Frag} {F H : Hp} {pa : Option Addr} {p : Pst} {σ : L2.St} {ρ : Sl} (s : SS K En F H pa p σ ρ) {v : V} {d : D} (r : Rep K F p.g pa v d) (i : Nat) : SS K En F H pa p (σ.set i (some v)) (ρ.set i (some (.val d))) := by
  refine ⟨s.gr, s.gs, s.sr.set r i, fun j xs w h1 h2 => ?_⟩
  rw [List.getElem?_set] at h1 h2
  by_cases e : i = j
  · subst e
    simp only [if_true] at h1
    split at h1 <;> cases h1
  · rw [if_neg e] at h1 h2
    exact s.nw j xs w h1 h2
/-- a fresh list, into slot i -/
theorem SS.setO {K : PySem.W.Frag} {F H H0 : Hp} {pa : Option Addr} {p : Pst} {σ : L2.St} {ρ : Sl} (s : SS K En F H pa p σ ρ) {a : Addr} {vs : List V} {ds : List D} (i : Nat) (hE : En.H a = none) (hO : ∀ (j : Nat) ys, ρ[j]? = some (some (.own ys)) → σ[j]? ≠ some (some (.ref a))) (h2 : H a = some (.lst vs)) (h3 : F a = none) (h4 : pa ≠ some a) (h5 : ds.length ≤ sizeLine) (h6 : Reps K F p.g pa vs ds) :
    SS K En F H pa p (σ.set i (some (.ref a))) (ρ.set i (some (.own ds))) := by
  refine ⟨s.gr, s.gs, ⟨by simp [s.sr.len], fun j w h => ?_, fun j k xs ys v q1 q2 q3 q4 => ?_⟩, fun j xs w q1 q2 b hb => ?_⟩
  · rw [List.getElem?_set] at h ⊢
    by_cases e : i = j
    · subst e
      simp only [if_true] at h ⊢
      by_cases hi : i < ρ.length
      · rw [if_pos hi] at h
        rw [if_pos (by rw [← s.sr.len]; exact hi)]
        cases h
        exact ⟨_, rfl, a, vs, rfl, h2, h3, h4, h5, h6⟩
      · rw [if_neg hi] at h; cases h
    · rw [if_neg e] at h ⊢
      exact s.sr.rep j w h
  · rw [List.getElem?_set] at q1 q2 q3 q4
    by_cases e : i = j
    · by_cases e2 : i = k
      · omega
      · rw [if_pos e] at q1 q3
        rw [if_neg e2] at q2 q4
        split at q3
        · cases q3
          exact absurd q4 (hO k _ q2)
        · cases q3
    · by_cases e2 : i = k
      · rw [if_neg e] at q1 q3
        rw [if_pos e2] at q2 q4
        split at q4
        · cases q4
          exact absurd q3 (hO j _ q1)
        · cases q4
      · rw [if_neg e] at q1 q3
        rw [if_neg e2] at q2 q4
        exact s.sr.apart j k xs ys v q1 q2 q3 q4
  · rw [List.getElem?_set] at q1 q2
    by_cases e : i = j
    · rw [if_pos e] at q2
      split at q2
      · cases q2; cases hb; exact hE
      · cases q2
    · rw [if_neg e] at q1 q2
      exact s.nw j xs w q1 q2 b hb
def casg (i : Nat) (me : M D) : C := eout me fun d ρ p => .nx (ρ.set i (some (.val d))) p
def caso (i : Nat) (mo : M (List D)) : C := eout mo fun ds ρ p => .nx (ρ.set i (some (.own ds))) p
/-- what is stored is told by its transformer -/
theorem asg_tm : ∀ D σ H, TC X.K X.mg En Wx (casg i me) D σ H → tAsg (TM X.K X.mg Wx me) (gName i) D σ H := fun Dn σ H ⟨F, pa, p, ρ, s, o⟩ =>
  tm_s s o fun v d p' F' H' pa' s' _ r o' => o' _ F' H' pa' .refl (s'.set r i)
theorem fresh_ne {K : PySem.W.Frag} {F H : Hp} {pa : Option Addr} {p : Pst} {σ : L2.St} {ρ : Sl} (s : SS K En F H pa p σ ρ) {a : Addr} (h : H a = none) : ∀ (j : Nat) ys, ρ[j]? = some (some (.own ys)) → σ[j]? ≠ some (some (.ref a)) := fun j ys q e => by
  obtain ⟨v, e1, b, vs, rfl, h2, _⟩ := s.sr.rep j _ q
  rw [e] at e1
  cases e1
  rw [h] at h2; cases h2
theorem aso_tm : ∀ D σ H, TC X.K X.mg En Wx (caso i mo) D σ H → tAsg (TMo X.K X.mg Wx mo) (gName i) D σ H := fun Dn σ H ⟨F, pa, p, ρ, s, o⟩ =>
  tmo_s s o fun a vs ds p' F' H' pa' s' _ h1 h2 h3 h4 h5 h6 o' => o' _ F' H' pa' .refl (s'.setO (H0 := H) i (s.gr.enter h1) (fresh_ne s h1) h2 h3 h4 h5 h6)
theorem cs_set {pos' : Pos} (hN : X.N.Nodup) (hi : X.N[i]? = some x) (hx : Loc X.env.scope x) (he : PM X Wx e me) (hs : swapsWith e (some (.Name x pos')) pos.line X.env = pure false := by rfl) (hf : X.fn x = true ∨ X.env.scope.names.lookup x = some .local := by first | exact .inl rfl | exact .inr rfl) :
    PMs X En Wx (.Assign [.Name x pos'] e pos) (casg i me) := ⟨(ps_set hN hi hx he.pe hs hf).imp asg_tm⟩
theorem cs_seto {pos' : Pos} (hN : X.N.Nodup) (hi : X.N[i]? = some x) (hx : Loc X.env.scope x) (he : PMo X Wx e mo) (hs : swapsWith e (some (.Name x pos')) pos.line X.env = pure false := by rfl) (hf : X.fn x = true ∨ X.env.scope.names.lookup x = some .local := by first | exact .inl rfl | exact .inr rfl) :
    PMs X En Wx (.Assign [.Name x pos'] e pos) (caso i mo) := ⟨(ps_set hN hi hx he.pe hs hf).imp aso_tm⟩
/-- y = [..], on one line, y a plain local -/
theorem cs_setlc_gen {f : D → Sl → Option Sl} {tt : M Bool} {el : M D} {g : TG} {elt iter tg : Expr} {ifs : List Expr} {scope : Scope} {own : List (Str × Nat)} {py spos : Pos} (hc : X.calm = true) (hN : X.N.Nodup) (hy : X.N[i]? = some x) (hyl : X.env.scope.names.lookup x = some .local)
    (hsw : swapsWith (.ListComp elt [⟨tg, iter, ifs, 0⟩] scope pos) (some (.Name x py)) spos.line X.env = pure true) (hi : PMi X Wx tg iter mi) (ok : BlkOk X.N X.env.scope scope own)
    (hg : ∀ (s : Shared) (H : Hp) (C : Addr) (cl : List (Str × Addr)) (fp : List Addr), PG (X.blk s H scope (compEnvC scope cl C X.env) fp) tg g) (hf : GOk X.K (own.map (·.2)) g f)
    (ht : ∀ (s : Shared) (H : Hp) (C : Addr) (cl : List (Str × Addr)) (fp : List Addr), PMts (X.blk s H scope (compEnvC scope cl C X.env) fp) W0 ifs tt)
    (he : ∀ (s : Shared) (H : Hp) (C : Addr) (cl : List (Str × Addr)) (fp : List Addr), PM (X.blk s H scope (compEnvC scope cl C X.env) fp) W0 elt el) (hs : ∀ x, foldedSetIterable iter X.env x = pure x := by intro _; rfl) :
    PS X (.Assign [.Name x py] (.ListComp elt [⟨tg, iter, ifs, 0⟩] scope pos) spos) (tAsg (TMo X.K X.mg Wx (mLc (own.map (·.2)) mi f tt el)) (gName i)) :=
  (ps_setLc hc hN hy hyl hsw hi.pi ok hg (fun s H C cl fp => (ht s H C cl fp).pt) (fun s H C cl fp => (he s H C cl fp).pe) hs).imp fun D σ H h => lc_out hf σ H _ h
theorem cs_lco {st : Stmt} (h : PS X st (tAsg (TMo X.K X.mg Wx mo) (gName i))) : PMs X En Wx st (caso i mo) := ⟨h.imp aso_tm⟩
theorem mo_m : ∀ σ H Q, TM X.K X.mg Wx (mfrz mo) σ H Q → TMo X.K X.mg Wx mo σ H Q := fun σ H Q ⟨F, pa, p, ρ, gs, s, o⟩ => by
  refine ⟨F, pa, p, ρ, gs, s, ?_⟩
  unfold mfrz mbind at o
  cases q : mo ρ p with
  | stuck => rw [q] at o; exact o
  | exc x p' => rw [q] at o; exact o
  | ok ds p' =>
    rw [q] at o
    intro F1 H1 pa1 gr1 gs1 a vs ha hH hF hp hz rs
    have fz : Fz F1 p'.g pa1 (upd F1 a (.lst vs)) p'.g pa1 := Fz.upd hF
    exact o _ H1 pa1 (gr1.freeze ha hF) (gs1.freeze hH hp) _ (Rep.lst' upd_same hz (rs.mono fz))
theorem cs_lcv {st : Stmt} (h : PS X st (tAsg (TMo X.K X.mg Wx mo) (gName i))) : PMs X En Wx st (casg i (mfrz mo)) := ⟨h.imp fun D σ H q => mo_m σ H _ (asg_tm D σ H q)⟩
/-- an own list becomes a value -/
def cfrz (i : Nat) : C := fun ρ p => match ρ[i]? with
  | some (some (.own xs)) => .nx (ρ.set i (some (.val (.lst xs)))) p
  | some (some (.val _)) => .nx ρ p
  | _ => .stuck
theorem SS.freeze {K : PySem.W.Frag} {F H : Hp} {pa : Option Addr} {p : Pst} {σ : L2.St} {ρ : Sl} {xs : List D} (s : SS K En F H pa p σ ρ) (q : ρ[i]? = some (some (.own xs))) : ∃ F', Fz F p.g pa F' p.g pa ∧ SS K En F' H pa p σ (ρ.set i (some (.val (.lst xs)))) := by
  obtain ⟨v, e1, a, vs, rfl, h2, h3, h4, h5, h6⟩ := s.sr.rep i _ q
  have hE := s.nw i xs _ q e1 a rfl
  have fz : Fz F p.g pa (upd F a (.lst vs)) p.g pa := Fz.upd h3
  refine ⟨upd F a (.lst vs), fz, ⟨s.gr.freeze hE h3, s.gs.freeze h2 h4, ⟨by simp [s.sr.len], fun j w h => ?_, fun j k ys zs v q1 q2 q3 q4 => ?_⟩, fun j ys w q1 q2 => ?_⟩⟩
  · rw [List.getElem?_set] at h
    by_cases e : i = j
    · subst e
      rw [if_pos rfl] at h
      split at h
      · cases h
        exact ⟨_, e1, Rep.lst' upd_same h5 (h6.mono fz)⟩
      · cases h
    · rw [if_neg e] at h
      obtain ⟨v2, e2, r2⟩ := s.sr.rep j w h
      refine ⟨v2, e2, ?_⟩
      cases w with
      | val d => exact Rep.mono r2 fz
      | own ys =>
        obtain ⟨b, ws, z1, z2, z3, z4, z5, z6⟩ := r2
        refine ⟨b, ws, z1, z2, ?_, z4, z5, z6.mono fz⟩
        rw [upd_ne fun z => ?_]; exact z3
        subst z1 z
        exact e (s.sr.apart i j xs ys _ q h e1 e2)
  · rw [List.getElem?_set] at q1 q2
    by_cases e : i = j
    · rw [if_pos e] at q1
      split at q1 <;> cases q1
    · by_cases e2 : i = k
      · rw [if_pos e2] at q2
        split at q2 <;> cases q2
      · rw [if_neg e] at q1
        rw [if_neg e2] at q2
        exact s.sr.apart j k ys zs v q1 q2 q3 q4
  · rw [List.getElem?_set] at q1
    by_cases e : i = j
    · rw [if_pos e] at q1
      split at q1 <;> cases q1
    · rw [if_neg e] at q1
      exact s.nw j ys w q1 q2
theorem cs_frz (h : PMss X En Wx sts m) : PMss X En Wx sts (cseq (cfrz i) m) := ⟨h.ps.imp fun Dn σ H ⟨F, pa, p, ρ, s, o⟩ => by
  unfold cseq cfrz at o
  cases q : ρ[i]? with
  | none => rw [q] at o; exact o.elim
  | some w =>
    rw [q] at o
    cases w with
    | none => exact o.elim
    | some w =>
      cases w with
      | val d => exact ⟨F, pa, p, ρ, s, o⟩
      | own xs =>
        obtain ⟨F', fz, s'⟩ := s.freeze q
        exact ⟨F', pa, p, _, s', o.later fz⟩⟩
end
end PF

namespace PF
open PySem PySem.Spec PyProof.Rows L2

section
variable {X : Cx} {En : Ent} {Wx : WX} {st : Stmt} {sts : List Stmt} {m m' : C} {ms mi : M (List D)} {e a b : Expr} {me ma mb : M D} {mo : M (List D)} {mt : M Bool} {pos : Pos} {i : Nat} {x : Str}
/-! ### own lists change -/
theorem SS.upd {K : PySem.W.Frag} {F H : Hp} {pa : Option Addr} {p : Pst} {σ : L2.St} {ρ : Sl} (s : SS K En F H pa p σ ρ) {xs ys : List D} {a : Addr} {vs : List V} (q : ρ[i]? = some (some (.own xs))) (e : σ[i]? = some (some (.ref a))) (hz : ys.length ≤ sizeLine) (rs : Reps K F p.g pa vs ys) :
    SS K En F (L2.upd H a (.lst vs)) pa p σ (ρ.set i (some (.own ys))) := by
  obtain ⟨v, e1, b, ws, rfl, h2, h3, h4, h5, h6⟩ := s.sr.rep i _ q
  rw [e] at e1
  cases e1
  have hE := s.nw i xs _ q e a rfl
  refine ⟨⟨s.gr.fz, s.gr.new, fun b o z1 z2 => ?_, fun b o z1 => ?_, s.gr.pot⟩, ⟨fun b o z => ?_, fun b z => ?_⟩, ⟨by simp [s.sr.len], fun j w h => ?_, fun j k xs' ys' v q1 q2 q3 q4 => ?_⟩, fun j ys' w q1 q2 b hb => ?_⟩
  · rw [upd_ne (ne_of_none z1 hE)]; exact s.gr.keep b o z1 z2
  · rw [upd_ne (ne_of_none z1 hE)]; exact s.gr.there b o z1
  · rw [upd_ne fun t => ?_]; exact s.gs.sub b o z
    subst t; rw [h3] at z; cases z
  · have hb : b ≠ a := fun t => h4 (by rw [← t]; exact z)
    rw [upd_ne hb]; exact s.gs.pot b z
  · rw [List.getElem?_set] at h
    by_cases ej : i = j
    · subst ej
      rw [if_pos rfl] at h
      split at h
      · cases h
        exact ⟨_, e, a, vs, rfl, upd_same, h3, h4, hz, rs⟩
      · cases h
    · rw [if_neg ej] at h
      obtain ⟨v2, e2, r2⟩ := s.sr.rep j w h
      refine ⟨v2, e2, ?_⟩
      cases w with
      | val d => exact r2
      | own zs =>
        obtain ⟨b, ws2, z1, z2, z3, z4, z5, z6⟩ := r2
        refine ⟨b, ws2, z1, ?_, z3, z4, z5, z6⟩
        rw [upd_ne fun t => ?_]; exact z2
        subst z1 t
        exact ej (s.sr.apart i j xs zs _ q h e e2)
  · rw [List.getElem?_set] at q1 q2
    by_cases e1 : i = j
    · by_cases e2 : i = k
      · omega
      · rw [if_neg e2] at q2
        subst e1
        exact s.sr.apart i k xs ys' v q q2 q3 q4
    · by_cases e2 : i = k
      · rw [if_neg e1] at q1
        subst e2
        exact s.sr.apart j i xs' xs v q1 q q3 q4
      · rw [if_neg e1] at q1
        rw [if_neg e2] at q2
        exact s.sr.apart j k xs' ys' v q1 q2 q3 q4
  · rw [List.getElem?_set] at q1
    by_cases e1 : i = j
    · subst e1
      exact s.nw i xs w q q2 b hb
    · rw [if_neg e1] at q1
      exact s.nw j ys' w q1 q2 b hb
theorem SS.own {K : PySem.W.Frag} {F H : Hp} {pa : Option Addr} {p : Pst} {σ : L2.St} {ρ : Sl} (s : SS K En F H pa p σ ρ) {xs : List D} (q : ρ[i]? = some (some (.own xs))) : ∃ a vs, σ[i]? = some (some (.ref a)) ∧ H a = some (.lst vs) ∧ xs.length ≤ sizeLine ∧ Reps K F p.g pa vs xs := by
  obtain ⟨v, e1, b, ws, rfl, h2, h3, h4, h5, h6⟩ := s.sr.rep i _ q
  exact ⟨b, ws, e1, h2, h5, h6⟩
def capp (i : Nat) (me : M D) : C := fun ρ p => match ρ[i]? with
  | some (some (.own xs)) => eout me (fun d ρ p => if xs.length < 16000000 then .nx (ρ.set i (some (.own (xs ++ [d])))) p else .stuck) ρ p
  | _ => .stuck
theorem cs_append (h : PE X e (tBM X.K "list" rAppend (tVar i) (tCons (TM X.K X.mg Wx me) tNil))) (hs : swapsWith e none pos.line X.env = pure false := by rfl) : PMs X En Wx (.Expr e pos) (capp i me) := ⟨(ps_expr h hs).imp fun Dn σ H ⟨F, pa, p, ρ, s, o⟩ => by
  unfold capp at o
  cases q : ρ[i]? with
  | none => rw [q] at o; exact o.elim
  | some w =>
    rw [q] at o
    cases w with
    | none => exact o.elim
    | some w =>
      cases w with
      | val d => exact o.elim
      | own xs =>
        obtain ⟨a, vs, e1, h1, _, _⟩ := s.own q
        refine ⟨_, e1, .inl ⟨rfl, _, SqL.of h1⟩, ?_⟩
        refine tm_s s o fun v d p' F' H' pa' s' _ r o' => ?_
        obtain ⟨a', vs', e2, h2, h3, rs⟩ := s'.own q
        rw [e1] at e2
        cases e2
        by_cases hc : xs.length < 16000000
        · rw [if_pos hc] at o'
          refine ⟨a, vs', v, rfl, rfl, h2, by rw [rs.1, sizeLine_eq]; omega, ?_⟩
          exact o' σ F' _ pa' .refl (s'.upd q e1 (by rw [List.length_append, sizeLine_eq]; simp; omega) (rs.append (.cons r .nil)))
        · rw [if_neg hc] at o'; exact o'.elim⟩
def cext (i : Nat) (me : M D) : C := fun ρ p => match ρ[i]? with
  | some (some (.own xs)) => eout me (fun d ρ p => match d with
    | .lst ys => if xs.length + ys.length ≤ 16000000 then .nx (ρ.set i (some (.own (xs ++ ys)))) p else .stuck
    | _ => .stuck) ρ p
  | _ => .stuck
theorem cs_extend (h : PE X e (tBM X.K "list" rExtend (tVar i) (tCons (TM X.K X.mg Wx me) tNil))) (hs : swapsWith e none pos.line X.env = pure false := by rfl) : PMs X En Wx (.Expr e pos) (cext i me) := ⟨(ps_expr h hs).imp fun Dn σ H ⟨F, pa, p, ρ, s, o⟩ => by
  unfold cext at o
  cases q : ρ[i]? with
  | none => rw [q] at o; exact o.elim
  | some w =>
    rw [q] at o
    cases w with
    | none => exact o.elim
    | some w =>
      cases w with
      | val d => exact o.elim
      | own xs =>
        obtain ⟨a, vs, e1, h1, _, _⟩ := s.own q
        refine ⟨_, e1, .inl ⟨rfl, _, SqL.of h1⟩, ?_⟩
        refine tm_s s o fun v d p' F' H' pa' s' _ r o' => ?_
        obtain ⟨a', vs', e2, h2, h3, rs⟩ := s'.own q
        rw [e1] at e2
        cases e2
        cases d <;> first | exact o'.elim | skip
        rename_i ys
        simp only at o'
        by_cases hc : xs.length + ys.length ≤ 16000000
        · rw [if_pos hc] at o'
          obtain ⟨b, ws, rfl, hb, hz, rb⟩ := r.lstH s'.gs
          refine ⟨a, b, vs', ws, rfl, rfl, h2, hb, by rw [rs.1, rb.1, sizeLine_eq]; omega, ?_⟩
          exact o' σ F' _ pa' .refl (s'.upd q e1 (by rw [List.length_append, sizeLine_eq]; omega) (rs.append rb))
        · rw [if_neg hc] at o'; exact o'.elim⟩
theorem getLast_rep {K : PySem.W.Frag} {F : Hp} {g : Nat} {pa : Option Addr} {vs : List V} {xs : List D} (rs : Reps K F g pa vs xs) {d : D} (h : xs[xs.length - 1]? = some d) : ∃ v, vs[vs.length - 1]? = some v ∧ Rep K F g pa v d := by
  rw [rs.1]; exact rs.get h
theorem dropLast_rep {K : PySem.W.Frag} {F : Hp} {g : Nat} {pa : Option Addr} {vs : List V} {xs : List D} (rs : Reps K F g pa vs xs) : Reps K F g pa vs.dropLast xs.dropLast := by
  rw [List.dropLast_eq_take, List.dropLast_eq_take, rs.1]
  exact rs.take _
def cpop (i : Nat) : C := fun ρ p => match ρ[i]? with
  | some (some (.own xs)) => if xs = [] then .stuck else .nx (ρ.set i (some (.own xs.dropLast))) p
  | _ => .stuck
theorem cs_pop (h : PE X e (tBM0 X.K "list" rPop (tVar i))) (hs : swapsWith e none pos.line X.env = pure false := by rfl) : PMs X En Wx (.Expr e pos) (cpop i) := ⟨(ps_expr h hs).imp fun Dn σ H ⟨F, pa, p, ρ, s, o⟩ => by
  unfold cpop at o
  cases q : ρ[i]? with
  | none => rw [q] at o; exact o.elim
  | some w =>
    rw [q] at o
    cases w with
    | none => exact o.elim
    | some w =>
      cases w with
      | val d => exact o.elim
      | own xs =>
        simp only at o
        by_cases hc : xs = []
        · rw [if_pos hc] at o; exact o.elim
        · rw [if_neg hc] at o
          obtain ⟨a, vs, e1, h1, hz, rs⟩ := s.own q
          have hl : xs.length - 1 < xs.length := by have := List.length_pos_iff.mpr hc; omega
          obtain ⟨v, hv, _⟩ := getLast_rep rs (d := xs[xs.length - 1]) (by simp [hl])
          refine ⟨_, e1, .inl ⟨rfl, _, SqL.of h1⟩, a, vs, v, rfl, rfl, h1, hv, ?_⟩
          exact o σ F _ pa .refl (s.upd q e1 (by rw [List.length_dropLast]; omega) (dropLast_rep rs))⟩
/-- y = x.pop() -/
def casgpop (j i : Nat) : C := fun ρ p => match ρ[i]? with
  | some (some (.own xs)) => (match xs[xs.length - 1]? with
    | some d => .nx ((ρ.set i (some (.own xs.dropLast))).set j (some (.val d))) p
    | none => .stuck)
  | _ => .stuck
theorem cs_asgpop {j : Nat} {y : Str} {pos' : Pos} (h : PE X e (tBM0 X.K "list" rPop (tVar i))) (hN : X.N.Nodup) (hj : X.N[j]? = some y) (hx : Loc X.env.scope y) (hs : swapsWith e (some (.Name y pos')) pos.line X.env = pure false := by rfl) (hf : X.fn y = true ∨ X.env.scope.names.lookup y = some .local := by first | exact .inl rfl | exact .inr rfl) :
    PMs X En Wx (.Assign [.Name y pos'] e pos) (casgpop j i) := ⟨(ps_set hN hj hx h hs hf).imp fun Dn σ H ⟨F, pa, p, ρ, s, o⟩ => by
  unfold casgpop at o
  cases q : ρ[i]? with
  | none => rw [q] at o; exact o.elim
  | some w =>
    rw [q] at o
    cases w with
    | none => exact o.elim
    | some w =>
      cases w with
      | val d => exact o.elim
      | own xs =>
        simp only at o
        cases q2 : xs[xs.length - 1]? with
        | none => rw [q2] at o; exact o.elim
        | some d =>
          rw [q2] at o
          obtain ⟨a, vs, e1, h1, hz, rs⟩ := s.own q
          obtain ⟨v, hv, rv⟩ := getLast_rep rs q2
          refine ⟨_, e1, .inl ⟨rfl, _, SqL.of h1⟩, a, vs, v, rfl, rfl, h1, hv, ?_⟩
          have s2 := s.upd q e1 (by rw [List.length_dropLast]; omega) (dropLast_rep rs)
          exact o _ F _ pa .refl (s2.set rv j)⟩
/-- a fresh list to which an item is put, then dropped -/
def cdropapp (mo : M (List D)) (me : M D) : C := eout mo fun ds => eout me fun _ => if ds.length < 16000000 then cskip else cstuck
theorem cs_dropapp (h : PE X e (tBM X.K "list" rAppend (TMo X.K X.mg Wx mo) (tCons (TM X.K X.mg Wx me) tNil))) (hs : swapsWith e none pos.line X.env = pure false := by rfl) : PMs X En Wx (.Expr e pos) (cdropapp mo me) := ⟨(ps_expr h hs).imp fun Dn σ H ⟨F, pa, p, ρ, s, o⟩ => by
  unfold tDrop tBM
  refine tmo_s s o fun a vs ds p' F' H' pa' s' _ h1 h2 h3 h4 h5 h6 o' => ⟨.inl ⟨rfl, _, SqL.of h2⟩, ?_⟩
  refine ⟨F', pa', p', ρ, s'.gs, s'.sr, (o'.expr s').mono fun d p2 F2 H2 pa2 gr2 gs2 ⟨s2, o2⟩ v r => ?_⟩
  by_cases hc : ds.length < 16000000
  · rw [if_pos hc] at o2
    have h7 := gr2.keep _ _ h2 h4
    refine ⟨a, vs, v, rfl, rfl, h7, by rw [h6.1, sizeLine_eq]; omega, ?_⟩
    have hE := s.gr.enter h1
    have hF2 : F2 a = none := by
      cases q : F2 a with
      | none => rfl
      | some u =>
        rcases gr2.new _ _ q with z | z
        · rw [h3] at z; cases z
        · rw [h2] at z; cases z
    have hp2 : pa2 ≠ some a := fun z => by
      rcases gr2.pot with z2 | ⟨b, z2, hb⟩
      · exact h4 (by rw [← z2]; exact z)
      · rw [z2] at z; cases z; rw [h2] at hb; cases hb
    refine o2 σ F2 _ pa2 .refl ⟨⟨s2.gr.fz, s2.gr.new, fun b o z1 z2 => ?_, fun b o z1 => ?_, s2.gr.pot⟩, ⟨fun b o z => ?_, fun b z => ?_⟩, ⟨s2.sr.len, fun j w h => ?_, s2.sr.apart⟩, s2.nw⟩
    · rw [upd_ne (ne_of_none z1 hE)]; exact s2.gr.keep b o z1 z2
    · rw [upd_ne (ne_of_none z1 hE)]; exact s2.gr.there b o z1
    · rw [upd_ne fun t => ?_]; exact s2.gs.sub b o z
      subst t; rw [hF2] at z; cases z
    · have hb : b ≠ a := fun t => hp2 (by rw [← t]; exact z)
      rw [upd_ne hb]; exact s2.gs.pot b z
    · obtain ⟨v2, e2, r2⟩ := s2.sr.rep j w h
      refine ⟨v2, e2, ?_⟩
      cases w with
      | val d => exact r2
      | own zs =>
        obtain ⟨b, ws2, z1, z2, z3, z4, z5, z6⟩ := r2
        refine ⟨b, ws2, z1, ?_, z3, z4, z5, z6⟩
        rw [upd_ne fun t => ?_]; exact z2
        subst z1 t
        exact fresh_ne s h1 j zs h e2
  · rw [if_neg hc] at o2; exact o2.elim⟩

/-! ### targets of statements -/
def TgOk (K : PySem.W.Frag) (mg : Str → Option Value) (En : Ent) (Wx : WX) (g : TG) (G : D → Sl → Pst → Option (Sl × Pst)) : Prop := ∀ (F H : Hp) (pa : Option Addr) (p : Pst) (x : V) (d : D) (σ : L2.St) (ρ ρ' : Sl) (p' : Pst) (Q : L2.St → Hp → Prop), SS K En F H pa p σ ρ → Rep K F p.g pa x d → G d ρ p = some (ρ', p') →
  (∀ σ' F' H' pa', Fz F p.g pa F' p'.g pa' → SS K En F' H' pa' p' σ' ρ' → Q σ' H') → g x σ H Q
def tgName (i : Nat) : D → Sl → Pst → Option (Sl × Pst) := fun d ρ p => some (ρ.set i (some (.val d)), p)
theorem tg_name {K : PySem.W.Frag} {mg : Str → Option Value} : TgOk K mg En Wx (gName i) (tgName i) := by
  intro F H pa p x d σ ρ ρ' p' Q s r e k
  cases e
  exact k _ F H pa .refl (s.set r i)
def TgsOk (K : PySem.W.Frag) (mg : Str → Option Value) (En : Ent) (Wx : WX) (g : TGs) (G : List D → Sl → Pst → Option (Sl × Pst)) : Prop := ∀ (F H : Hp) (pa : Option Addr) (p : Pst) (xs : List V) (ds : List D) (σ : L2.St) (ρ ρ' : Sl) (p' : Pst) (Q : L2.St → Hp → Prop), SS K En F H pa p σ ρ → Reps K F p.g pa xs ds → G ds ρ p = some (ρ', p') →
  (∀ σ' F' H' pa', Fz F p.g pa F' p'.g pa' → SS K En F' H' pa' p' σ' ρ' → Q σ' H') → g xs σ H Q
def tgNil : List D → Sl → Pst → Option (Sl × Pst) := fun ds ρ p => match ds with
  | [] => some (ρ, p)
  | _ => none
def tgCons (f : D → Sl → Pst → Option (Sl × Pst)) (fs : List D → Sl → Pst → Option (Sl × Pst)) : List D → Sl → Pst → Option (Sl × Pst) := fun ds ρ p => match ds with
  | d :: r => (match f d ρ p with
    | some (ρ1, p1) => fs r ρ1 p1
    | none => none)
  | [] => none
theorem tgs_nil {K : PySem.W.Frag} {mg : Str → Option Value} : TgsOk K mg En Wx gNil tgNil := by
  intro F H pa p xs ds σ ρ ρ' p' Q s r e k
  cases ds with
  | nil =>
    have hx := List.eq_nil_of_length_eq_zero r.1
    cases e
    exact ⟨hx, k σ F H pa .refl s⟩
  | cons d ds => cases e
theorem tgs_cons {K : PySem.W.Frag} {mg : Str → Option Value} {g : TG} {gs : TGs} {f : D → Sl → Pst → Option (Sl × Pst)} {fs : List D → Sl → Pst → Option (Sl × Pst)} (h1 : TgOk K mg En Wx g f) (h2 : TgsOk K mg En Wx gs fs) : TgsOk K mg En Wx (gCons g gs) (tgCons f fs) := by
  intro F H pa p xs ds σ ρ ρ' p' Q s r e k
  cases ds with
  | nil => cases e
  | cons d ds =>
    rcases r.cases with ⟨_, z⟩ | ⟨x, y, xs', ys', rfl, z, r1, r2⟩
    · cases z
    · cases z
      simp only [tgCons] at e
      cases q : f d ρ p with
      | none => rw [q] at e; cases e
      | some w =>
        obtain ⟨ρ1, p1⟩ := w
        rw [q] at e
        refine ⟨x, xs', rfl, h1 F H pa p x d σ ρ ρ1 p1 _ s r1 q fun σ1 F1 H1 pa1 fz1 s1 => ?_⟩
        exact h2 F1 H1 pa1 p1 xs' ds σ1 ρ1 ρ' p' Q s1 (Reps.mono r2 fz1) e fun σ2 F2 H2 pa2 fz2 s2 => k σ2 F2 H2 pa2 (fz1.trans fz2) s2
def tgTup (n : Nat) (fs : List D → Sl → Pst → Option (Sl × Pst)) : D → Sl → Pst → Option (Sl × Pst) := fun d ρ p => match d with
  | .tup xs => if xs.length = n then fs xs ρ p else none
  | _ => none
theorem tg_tup {K : PySem.W.Frag} {mg : Str → Option Value} {n : Nat} {g : TGs} {fs : List D → Sl → Pst → Option (Sl × Pst)} (h : TgsOk K mg En Wx g fs) : TgOk K mg En Wx (gTup K n g) (tgTup n fs) := by
  intro F H pa p x d σ ρ ρ' p' Q s r e k
  cases d <;> first | (simp [tgTup] at e; done) | skip
  simp only [tgTup] at e
  split at e
  · rename_i hn
    obtain ⟨a, ws, rfl, h1, hz, rs⟩ := r.tupH s.gs
    exact ⟨a, ws, rfl, SqT.of h1, by rw [rs.1]; exact hn, h F H pa p ws _ σ ρ ρ' p' Q s rs e k⟩
  · cases e
/-- x[i] = d: an own list, or the pot -/
def setPot (p : Pst) : D → D → Option Pst
  | .int 0, .int n => some { p with a := n }
  | .int 1, .int n => some { p with b := n }
  | _, _ => none
def tgSub (r : Nat) (mi : M D) : D → Sl → Pst → Option (Sl × Pst) := fun d ρ p => match mi ρ p with
  | .ok k p1 => (match ρ[r]? with
    | some (some (.own xs)) => (match k with
      | .int k => (match ixN xs.length k with
        | some j => some (ρ.set r (some (.own (xs.set j d))), p1)
        | none => none)
      | _ => none)
    | some (some (.val (.pot g))) => if g = p1.g then (setPot p1 k d).map fun p2 => (ρ, p2) else none
    | _ => none)
  | _ => none
theorem SS.pot {K : PySem.W.Frag} {F H : Hp} {pa : Option Addr} {p p' : Pst} {σ : L2.St} {ρ : Sl} {a : Addr} (s : SS K En F H pa p σ ρ) (ha : pa = some a) (hg : p'.g = p.g) : SS K En F (L2.upd H a (.lst [.int p'.a, .int p'.b])) pa p' σ ρ := by
  obtain ⟨h1, h2⟩ := s.gs.pot a ha
  refine ⟨⟨by rw [hg]; exact s.gr.fz, s.gr.new, fun b o z1 z2 => ?_, fun b o z1 => ?_, s.gr.pot⟩, ⟨fun b o z => ?_, fun b z => ?_⟩, ⟨s.sr.len, fun j w h => ?_, s.sr.apart⟩, s.nw⟩
  · have hb : b ≠ a := fun t => by
      subst t
      rcases s.gr.pot with z | ⟨c, z, hc⟩
      · exact z2 (by rw [← z]; exact ha)
      · rw [ha] at z; cases z; rw [z1] at hc; cases hc
    rw [upd_ne hb]; exact s.gr.keep b o z1 z2
  · by_cases hb : b = a
    · exact ⟨_, by rw [hb]; exact upd_same⟩
    · rw [upd_ne hb]; exact s.gr.there b o z1
  · rw [upd_ne fun t => ?_]; exact s.gs.sub b o z
    subst t; rw [h2] at z; cases z
  · rw [ha] at z
    cases z
    exact ⟨upd_same, h2⟩
  · obtain ⟨v2, e2, r2⟩ := s.sr.rep j w h
    refine ⟨v2, e2, ?_⟩
    cases w with
    | val d => rw [hg]; exact r2
    | own zs =>
      obtain ⟨b, ws2, z1, z2, z3, z4, z5, z6⟩ := r2
      refine ⟨b, ws2, z1, ?_, z3, z4, z5, by rw [hg]; exact z6⟩
      rw [upd_ne fun t => ?_]; exact z2
      subst t
      exact z4 ha
theorem setPot_g {p p' : Pst} {k d : D} (h : setPot p k d = some p') : p'.g = p.g := by
  unfold setPot at h
  split at h <;> first | (cases h; rfl) | cases h
theorem tg_sub {r : Nat} {mi : M D} : TgOk X.K X.mg En Wx (gSub (tVar r) (TM X.K X.mg Wx mi) rSetL) (tgSub r mi) := by
  intro F H pa p x d σ ρ ρ' p' Q s rx e k
  unfold tgSub at e
  cases q0 : mi ρ p with
  | stuck => rw [q0] at e; cases e
  | exc y p1 => rw [q0] at e; cases e
  | ok kd p1 =>
    rw [q0] at e
    simp only at e
    have tm : ∀ (R : VK), (∀ v F' H' pa', Gr F H p.g pa F' H' p1.g pa' → GS F' H' pa' p1 → Rep X.K F' p1.g pa' v kd → R v H') → TM X.K X.mg Wx mi σ H R := fun R hR =>
      ⟨F, pa, p, ρ, s.gs, s.sr, by rw [q0]; exact fun F' H' pa' gr gs v r => hR v F' H' pa' gr gs r⟩
    split at e
    · rename_i xs q
      obtain ⟨a, vs, e1, _⟩ := s.own q
      refine ⟨_, e1, tm _ fun v F' H' pa' gr gs rk => ?_⟩
      have s' := s.grow gr gs
      obtain ⟨a', vs', e2, h2, hz, rs⟩ := s'.own q
      rw [e1] at e2
      cases e2
      split at e
      · rename_i kk
        cases rk
        split at e
        · rename_i j qj
          cases e
          refine ⟨a, vs', kk, j, rfl, rfl, h2, by rw [rs.1]; exact qj, ?_⟩
          exact k σ F' _ pa' gr.fz (s'.upd q e1 (by simpa using hz) (rs.set (rx.mono gr.fz) j))
        · cases e
      · cases e
    · rename_i g q
      split at e
      · rename_i hg
        cases q2 : setPot p1 kd d with
        | none => rw [q2] at e; cases e
        | some p2 =>
          rw [q2] at e
          cases e
          obtain ⟨v0, e1, r0⟩ := s.sr.rep r _ q
          refine ⟨_, e1, tm _ fun v F' H' pa' gr gs rk => ?_⟩
          have s' := s.grow gr gs
          have r0' : Rep X.K F' p1.g pa' v0 (.pot g) := Rep.mono r0 gr.fz
          cases r0' with
          | pot h1 h2 =>
            obtain ⟨a, ha, rfl⟩ := h2 hg
            obtain ⟨h3, _⟩ := gs.pot a ha
            have rx' := rx.mono gr.fz
            have hg2 := setPot_g q2
            have s2 := s'.pot ha hg2
            unfold setPot at q2
            split at q2 <;> first | (cases q2; done) | skip
            · cases rk; cases rx'
              cases q2
              exact ⟨a, _, 0, 0, rfl, rfl, h3, rfl, k σ F' _ pa' gr.fz s2⟩
            · cases rk; cases rx'
              cases q2
              exact ⟨a, _, 1, 1, rfl, rfl, h3, rfl, k σ F' _ pa' gr.fz s2⟩
      · cases e
    · cases e
def casgT (G : D → Sl → Pst → Option (Sl × Pst)) (me : M D) : C := eout me fun d ρ p => match G d ρ p with
  | some (ρ', p') => .nx ρ' p'
  | none => .stuck
theorem cs_asgT {g : TG} {G : D → Sl → Pst → Option (Sl × Pst)} {st : Stmt} (h : PS X st (tAsg (TM X.K X.mg Wx me) g)) (hG : TgOk X.K X.mg En Wx g G) : PMs X En Wx st (casgT G me) := ⟨h.imp fun Dn σ H ⟨F, pa, p, ρ, s, o⟩ => by
  refine tm_s s o fun v d p' F' H' pa' s' _ r o' => ?_
  cases q : G d ρ p' with
  | none => rw [q] at o'; exact o'.elim
  | some w =>
    obtain ⟨ρ1, p1⟩ := w
    rw [q] at o'
    exact hG F' H' pa' p' v d σ ρ ρ1 p1 _ s' r q fun σ2 F2 H2 pa2 fz2 s2 => o' σ2 F2 H2 pa2 fz2 s2⟩
end
end PF

namespace PF
open PySem PySem.Spec PyProof.Rows L2

section
variable {X : Cx} {En : Ent} {Wx : WX} {st : Stmt} {sts : List Stmt} {m m' : C} {ms mi : M (List D)} {e a b : Expr} {me ma mb : M D} {mo : M (List D)} {mt : M Bool} {pos : Pos} {i : Nat} {x : Str} {es : List Expr}
/-! ### loops -/
def cforGo (G : D → Sl → Pst → Option (Sl × Pst)) (body : C) : List D → C
  | [] => cskip
  | d :: ds => fun ρ p => match G d ρ p with
    | none => .stuck
    | some (ρ1, p1) => (match body ρ1 p1 with
      | .nx ρ' p' => cforGo G body ds ρ' p'
      | .ct ρ' p' => cforGo G body ds ρ' p'
      | .bk ρ' p' => .nx ρ' p'
      | r => r)
def cfor (mi : M (List D)) (G : D → Sl → Pst → Option (Sl × Pst)) (body : C) : C := eout mi fun items => cforGo G body items
theorem cs_for {iter tg : Expr} {body : List Stmt} {g : TG} {G : D → Sl → Pst → Option (Sl × Pst)} {cb : C} (hp : PassesOwn (model X.prog X.w) X.A X.env X.xe) (hc : X.calm = true) (hi : PMi X Wx tg iter mi) (hg : PG X tg g) (hG : TgOk X.K X.mg En Wx g G) (hb : PMss X En Wx body cb)
    (hs : ∀ x, foldedSetIterable iter X.env x = pure x := by intro _; rfl) : PMs X En Wx (.For tg iter body [] pos) (cfor mi G cb) := ⟨(ps_for hp hc hi.pi hg hb.ps hs).imp fun Dn σ H ⟨F, pa, p, ρ, s, o⟩ => by
  refine ⟨F, pa, p, ρ, s.gs, s.sr, (o.expr s).mono fun items p1 F1 H1 pa1 gr1 gs1 ⟨s1, o1⟩ J hJ hz => ?_⟩
  refine ⟨fun i m σ' H' => m = items.length - i ∧ i ≤ items.length ∧ ∃ F' pa' p' ρ', Fz F1 p1.g pa1 F' p'.g pa' ∧ SS X.K En F' H' pa' p' σ' ρ' ∧ SOut X.K X.mg En Wx F' p'.g pa' Dn (cforGo G cb (items.drop i) ρ' p'), ⟨_, rfl, Nat.zero_le _, F1, pa1, p1, ρ, .refl, s1, by simpa using o1⟩, ?_⟩
  rintro i m σ2 H2 ⟨rfl, hi, F2, pa2, p2, ρ2, fz2, s2, o2⟩
  obtain ⟨hst, hgo⟩ := hJ i F2 H2 pa2 p2 fz2 s2.gs
  by_cases hlt : i < items.length
  · obtain ⟨hg1, hy⟩ := hgo items[i] (by simp [hlt])
    rw [List.drop_eq_getElem_cons hlt] at o2
    simp only [cforGo] at o2
    cases q : G items[i] ρ2 p2 with
    | none => rw [q] at o2; exact o2.elim
    | some w =>
      obtain ⟨ρ3, p3⟩ := w
      rw [q] at o2
      simp only at o2
      refine .inr ⟨hg1, fun σ' H' => (i + 1 ≤ items.length ∧ ∃ F' pa' p' ρ', Fz F1 p1.g pa1 F' p'.g pa' ∧ SS X.K En F' H' pa' p' σ' ρ' ∧ SOut X.K X.mg En Wx F' p'.g pa' Dn (cforGo G cb (items.drop (i + 1)) ρ' p')), fun σ' H' ⟨h1, h2⟩ => ⟨_, by omega, rfl, h1, h2⟩, fun x H' yl => ?_⟩
      obtain ⟨F', gr', gs', rx⟩ := hy x H' yl
      have s' := s2.grow gr' gs'
      refine hG F' H' pa2 p2 x _ σ2 ρ2 ρ3 p3 _ s' rx q fun σ4 F4 H4 pa4 fz4 s4 => ?_
      refine ⟨F4, pa4, p3, ρ3, s4, ?_⟩
      have fzA : Fz F1 p1.g pa1 F4 p3.g pa4 := (fz2.trans gr'.fz).trans fz4
      have o4 := o2.later (gr'.fz.trans fz4)
      cases q5 : cb ρ3 p3 with
      | nx ρ5 p5 =>
        rw [q5] at o4
        exact fun σ5 F5 H5 pa5 fz5 s5 => ⟨hlt, F5, pa5, p5, ρ5, fzA.trans fz5, s5, o4.later fz5⟩
      | ct ρ5 p5 =>
        rw [q5] at o4
        exact fun σ5 F5 H5 pa5 fz5 s5 => ⟨hlt, F5, pa5, p5, ρ5, fzA.trans fz5, s5, o4.later fz5⟩
      | bk ρ5 p5 =>
        rw [q5] at o4
        exact fun σ5 F5 H5 pa5 fz5 s5 => o4 σ5 F5 H5 pa5 fz5 s5
      | rt d fr p5 => rw [q5] at o4; exact o4
      | exc y ρ5 p5 => rw [q5] at o4; exact o4
      | stuck => rw [q5] at o4; exact o4.elim
  · have hi2 : items.length ≤ i := by omega
    rw [List.drop_eq_nil_of_le hi2] at o2
    exact .inl ⟨hst hi2, o2 σ2 F2 H2 pa2 .refl s2⟩⟩
def cwhile (mt : M Bool) (body : C) : Nat → C
  | 0 => cstuck
  | n + 1 => eout mt fun k => if k = true then (fun ρ p => match body ρ p with
    | .nx ρ' p' => cwhile mt body n ρ' p'
    | .ct ρ' p' => cwhile mt body n ρ' p'
    | .bk ρ' p' => .nx ρ' p'
    | r => r) else cskip
theorem cs_while {c : Expr} {body : List Stmt} {cb : C} (n : Nat) (hp : PassesOwn (model X.prog X.w) X.A X.env X.xe) (hc : PMt X Wx c mt) (hb : PMss X En Wx body cb) : PMs X En Wx (.While c body [] pos) (cwhile mt cb n) := ⟨(ps_while hp hc.pt hb.ps).imp fun Dn σ H ⟨F, pa, p, ρ, s, o⟩ => by
  refine ⟨fun m σ' H' => ∃ F' pa' p' ρ', SS X.K En F' H' pa' p' σ' ρ' ∧ SOut X.K X.mg En Wx F' p'.g pa' Dn (cwhile mt cb m ρ' p'), ⟨n, F, pa, p, ρ, s, o⟩, ?_⟩
  rintro m σ1 H1 ⟨F1, pa1, p1, ρ1, s1, o1⟩
  cases m with
  | zero => exact o1.elim
  | succ m =>
    refine ⟨F1, pa1, p1, ρ1, s1.gs, s1.sr, (o1.expr s1).mono fun k p2 F2 H2 pa2 gr2 gs2 ⟨s2, o2⟩ => ?_⟩
    cases k with
    | false =>
      simp only [Bool.false_eq_true, if_false] at o2 ⊢
      exact o2 σ1 F2 H2 pa2 .refl s2
    | true =>
      simp only [if_true] at o2 ⊢
      refine ⟨fun σ' H' => ∃ F' pa' p' ρ', SS X.K En F' H' pa' p' σ' ρ' ∧ SOut X.K X.mg En Wx F' p'.g pa' Dn (cwhile mt cb m ρ' p'), fun σ' H' h => ⟨m, Nat.lt_succ_self m, h⟩, F2, pa2, p2, ρ1, s2, ?_⟩
      cases q5 : cb ρ1 p2 with
      | nx ρ5 p5 =>
        rw [q5] at o2
        exact fun σ5 F5 H5 pa5 fz5 s5 => ⟨F5, pa5, p5, ρ5, s5, o2.later fz5⟩
      | ct ρ5 p5 =>
        rw [q5] at o2
        exact fun σ5 F5 H5 pa5 fz5 s5 => ⟨F5, pa5, p5, ρ5, s5, o2.later fz5⟩
      | bk ρ5 p5 =>
        rw [q5] at o2
        exact fun σ5 F5 H5 pa5 fz5 s5 => o2 σ5 F5 H5 pa5 fz5 s5
      | rt d fr p5 => rw [q5] at o2; exact o2
      | exc y ρ5 p5 => rw [q5] at o2; exact o2
      | stuck => rw [q5] at o2; exact o2.elim⟩

/-! ### own lists are read -/
def mIxO (i : Nat) (mb : M D) : M D := fun ρ p => match ρ[i]? with
  | some (some (.own xs)) => mbind mb (fun y => mopt (match y with
    | .int k => atI xs k
    | _ => none)) ρ p
  | _ => .stuck
theorem pm_ixo (ha : PE X (.Name x pos) (tVar i)) (hb : PM X Wx b mb) {pos'} (hs : PlainIx b := by exact fun _ _ => rfl) : PM X Wx (.Subscript (.Name x pos) b pos') (mIxO i mb) := ⟨(pe_ix ix_seq ha hb.pe hs).imp fun σ H Q ⟨F, pa, p, ρ, gs, s, o⟩ => by
  unfold mIxO at o
  split at o <;> first | exact o.elim | skip
  rename_i xs q
  obtain ⟨v, e1, a, vs, rfl, h2, h3, h4, h5, h6⟩ := s.rep i _ q
  refine ⟨_, e1, TM.of gs s (o.bind.mono fun y p1 F1 H1 pa1 gr1 gs1 o1 s1 v1 r1 => ?_)⟩
  obtain ⟨z, ez, o2⟩ := o1.opt
  split at ez <;> first | (cases ez; done) | skip
  cases r1
  have h6' := h6.mono gr1.fz
  obtain ⟨v2, e2, r2⟩ := atI_rep h6' ez
  exact .inl ⟨a, vs, _, v2, rfl, rfl, SqL.of (gr1.keep _ _ h2 h4), e2, o2.ret gs1 _ r2⟩⟩
/-- the own lists stand as values, for a while -/
def thaw (ρ : Sl) : Sl := ρ.map fun o => o.map fun w => match w with
  | .own xs => .val (.lst xs)
  | .val d => .val d
theorem thaw_get {ρ : Sl} {i : Nat} {w : W} (h : (thaw ρ)[i]? = some (some w)) : ∃ w0, ρ[i]? = some (some w0) ∧ ((∃ xs, w0 = .own xs ∧ w = .val (.lst xs)) ∨ ∃ d, w0 = .val d ∧ w = .val d) := by
  unfold thaw at h
  rw [List.getElem?_map] at h
  cases q : ρ[i]? with
  | none => rw [q] at h; cases h
  | some o =>
    rw [q] at h
    cases o with
    | none => cases h
    | some w0 =>
      refine ⟨w0, rfl, ?_⟩
      cases w0 with
      | own xs => simp at h; exact .inl ⟨xs, rfl, h.symm⟩
      | val d => simp at h; exact .inr ⟨d, rfl, h.symm⟩
open Classical in
theorem thaw_state {K : PySem.W.Frag} {F H : Hp} {pa : Option Addr} {p : Pst} {σ : L2.St} {ρ : Sl} (gs : GS F H pa p) (s : SRel K F H p.g pa σ ρ) : ∃ F', Fz F p.g pa F' p.g pa ∧ GS F' H pa p ∧ SRel K F' H p.g pa σ (thaw ρ) := by
  let own : Addr → Prop := fun a => ∃ (i : Nat) (xs : List D), ρ[i]? = some (some (W.own xs)) ∧ σ[i]? = some (some (V.ref a))
  have hown : ∀ a, own a → F a = none ∧ pa ≠ some a ∧ ∃ o, H a = some o := fun a ⟨i, xs, h1, h2⟩ => by
    obtain ⟨v, e1, b, vs, rfl, z2, z3, z4, _⟩ := s.rep i _ h1
    rw [h2] at e1
    cases e1
    exact ⟨z3, z4, _, z2⟩
  have fz : Fz F p.g pa (fun a => if own a then H a else F a) p.g pa := ⟨fun a o h => by
    by_cases c : own a
    · rw [(hown a c).1] at h; cases h
    · simp only [c, if_false]; exact h, Nat.le_refl _, fun _ => rfl⟩
  refine ⟨_, fz, ⟨fun a o h => ?_, fun a h => ⟨(gs.pot a h).1, ?_⟩⟩, ⟨by rw [thaw, List.length_map]; exact s.len, fun i w h => ?_, fun i j xs ys v h1 => ?_⟩⟩
  · by_cases c : own a
    · simp only [c, if_true] at h; exact h
    · simp only [c, if_false] at h; exact gs.sub a o h
  · by_cases c : own a
    · exact absurd h (hown a c).2.1
    · simp only [c, if_false]; exact (gs.pot a h).2
  · obtain ⟨w0, h0, h⟩ := thaw_get h
    obtain ⟨v, e1, r⟩ := s.rep i _ h0
    refine ⟨v, e1, ?_⟩
    rcases h with ⟨xs, rfl, rfl⟩ | ⟨d, rfl, rfl⟩
    · obtain ⟨a, vs, rfl, h2, h3, h4, h5, h6⟩ := r
      have c : own a := ⟨i, xs, h0, e1⟩
      exact Rep.lst' (by simp only [c, if_true]; exact h2) h5 (h6.mono fz)
    · exact Rep.mono r fz
  · obtain ⟨w0, h0, h⟩ := thaw_get h1
    rcases h with ⟨_, _, z⟩ | ⟨_, _, z⟩ <;> cases z
def scal : D → Bool
  | .non | .bl _ | .int _ | .str _ => true
  | _ => false
theorem scal_rep {K : PySem.W.Frag} {F F' : Hp} {g g' : Nat} {pa pa' : Option Addr} {v : V} {d : D} (h : scal d = true) (r : Rep K F g pa v d) : Rep K F' g' pa' v d := by
  cases r <;> first | (cases h; done) | constructor
def mscal (m : M D) : M D := fun ρ p => match m (thaw ρ) p with
  | .ok d p' => if scal d = true then .ok d p' else .stuck
  | _ => .stuck
def mscalt (m : M Bool) : M Bool := fun ρ p => match m (thaw ρ) p with
  | .ok d p' => .ok d p'
  | _ => .stuck
theorem thaw_back {F F1 H F' H' : Hp} {g : Nat} {pa pa' : Option Addr} {p' : Pst} (fz : Fz F g pa F1 g pa) (gr : Gr F1 H g pa F' H' p'.g pa') (gs : GS F' H' pa' p') : Gr F H g pa F H' p'.g pa' ∧ GS F H' pa' p' :=
  ⟨⟨⟨fun _ _ h => h, gr.fz.gle, gr.fz.same⟩, fun a o h => .inl h, gr.keep, gr.there, gr.pot⟩, ⟨fun a o h => gs.sub a o (gr.fz.sub a o (fz.sub a o h)), fun a h => ⟨(gs.pot a h).1, by
    cases q : F a with
    | none => rfl
    | some o =>
      have z := (gs.pot a h).2
      rw [gr.fz.sub a o (fz.sub a o q)] at z
      cases z⟩⟩⟩
theorem pm_scal (h : PM X Wx e me) : PM X Wx e (mscal me) := ⟨h.pe.imp fun σ H Q ⟨F, pa, p, ρ, gs, s, o⟩ => by
  obtain ⟨F1, fz, gs1, s1⟩ := thaw_state gs s
  refine ⟨F1, pa, p, thaw ρ, gs1, s1, ?_⟩
  unfold mscal at o
  cases q : me (thaw ρ) p with
  | stuck => rw [q] at o; exact o
  | exc y p' => rw [q] at o; exact o.elim
  | ok d p' =>
    rw [q] at o
    simp only at o
    by_cases hd : scal d = true
    · rw [if_pos hd] at o
      intro F' H' pa' gr gs' v r
      obtain ⟨gr2, gs2⟩ := thaw_back fz gr gs'
      exact o F H' pa' gr2 gs2 v (scal_rep hd r)
    · rw [if_neg hd] at o; exact o.elim⟩
theorem pmt_scal (h : PMt X Wx e mt) : PMt X Wx e (mscalt mt) := ⟨h.pt.imp fun σ H Q ⟨F, pa, p, ρ, gs, s, o⟩ => by
  obtain ⟨F1, fz, gs1, s1⟩ := thaw_state gs s
  refine ⟨F1, pa, p, thaw ρ, gs1, s1, ?_⟩
  unfold mscalt at o
  cases q : mt (thaw ρ) p with
  | stuck => rw [q] at o; exact o
  | exc y p' => rw [q] at o; exact o.elim
  | ok d p' =>
    rw [q] at o
    intro F' H' pa' gr gs'
    obtain ⟨gr2, gs2⟩ := thaw_back fz gr gs'
    exact o F H' pa' gr2 gs2⟩

/-! ### several stores at once -/
def WF (K : PySem.W.Frag) (F H0 H : Hp) (g : Nat) (pa : Option Addr) (v : V) : W → Prop
  | .val d => Rep K F g pa v d
  | .own xs => ∃ a vs, v = .ref a ∧ H0 a = none ∧ H a = some (.lst vs) ∧ F a = none ∧ pa ≠ some a ∧ xs.length ≤ sizeLine ∧ Reps K F g pa vs xs
structure WReps (K : PySem.W.Frag) (F H0 H : Hp) (g : Nat) (pa : Option Addr) (vs : List V) (ws : List W) : Prop where
  rep : AllR (WF K F H0 H g pa) vs ws
  ne : ∀ (i j : Nat) xs ys v, ws[i]? = some (.own xs) → ws[j]? = some (.own ys) → vs[i]? = some v → vs[j]? = some v → i = j
def TMu (K : PySem.W.Frag) (mg : Str → Option Value) (Wx : WX) (m : M (List W)) : TA := fun σ H Q => At K mg Wx m σ H fun _ _ ws p' F' H' pa' => ∀ vs, WReps K F' H H' p'.g pa' vs ws → Q vs H'
structure PMu (X : Cx) (Wx : WX) (es : List Expr) (m : M (List W)) : Prop where
  pa : PA X es (TMu X.K X.mg Wx m)
theorem pmu_nil : PMu X Wx [] (mret []) := ⟨pa_nil.imp fun σ H Q ⟨F, pa, p, ρ, gs, s, o⟩ => o.ret gs _ ⟨.nil, fun i j xs ys v h => by cases h⟩⟩
def muV (ma : M D) (ms : M (List W)) : M (List W) := mbind ma fun d => mbind ms fun ws => mret (.val d :: ws)
def muO (ma : M (List D)) (ms : M (List W)) : M (List W) := mbind ma fun d => mbind ms fun ws => mret (.own d :: ws)
theorem WF.older {K : PySem.W.Frag} {F H0 H1 H : Hp} {g : Nat} {pa : Option Addr} {v : V} {w : W} (h : WF K F H1 H g pa v w) (t : ∀ a, H1 a = none → H0 a = none) : WF K F H0 H g pa v w := by
  cases w with
  | val d => exact h
  | own xs =>
    obtain ⟨a, vs, e, h0, r⟩ := h
    exact ⟨a, vs, e, t a h0, r⟩
theorem pmu_val {mu : M (List W)} (ha : PM X Wx e ma) (hr : PMu X Wx es mu) (hs : starEach (e :: es) X.env = (false, eval e X.env) :: starEach es X.env := by rfl) : PMu X Wx (e :: es) (muV ma mu) := ⟨(pa_cons ha.pe hr.pa hs).imp fun σ H Q ⟨F, pa, p, ρ, gs, s, o⟩ => by
  refine TM.of gs s (o.bind.mono fun d p1 F1 H1 pa1 gr1 gs1 o1 s1 v1 r1 => ?_)
  refine ⟨F1, pa1, p1, ρ, gs1, s1, o1.bind.mono fun ws p2 F2 H2 pa2 gr2 gs2 o2 vs rs => ?_⟩
  refine o2.ret gs2 _ ⟨.cons (show WF _ _ _ _ _ _ _ (.val d) from r1.mono gr2.fz) (rs.rep.mono fun v w h => h.older fun a z => gr1.free0 z), fun i j xs ys v h1 h2 h3 h4 => ?_⟩
  cases i with
  | zero => simp at h1
  | succ i =>
    cases j with
    | zero => simp at h2
    | succ j => simp at h1 h2 h3 h4; rw [rs.ne i j xs ys v h1 h2 h3 h4]⟩
theorem pmu_own {mu : M (List W)} (ha : PMo X Wx e mo) (hr : PMu X Wx es mu) (hs : starEach (e :: es) X.env = (false, eval e X.env) :: starEach es X.env := by rfl) : PMu X Wx (e :: es) (muO mo mu) := ⟨(pa_cons ha.pe hr.pa hs).imp fun σ H Q ⟨F, pa, p, ρ, gs, s, o⟩ => by
  refine ⟨F, pa, p, ρ, gs, s, o.bind.mono fun ds p1 F1 H1 pa1 gr1 gs1 o1 a vs0 h1 h2 h3 h4 h5 h6 => ?_⟩
  refine ⟨F1, pa1, p1, ρ, gs1, s.grow gr1, o1.bind.mono fun ws p2 F2 H2 pa2 gr2 gs2 o2 vs rs => ?_⟩
  have hF2 : F2 a = none := by
    cases q : F2 a with
    | none => rfl
    | some u =>
      rcases gr2.new _ _ q with z | z
      · rw [h3] at z; cases z
      · rw [h2] at z; cases z
  have hp2 : pa2 ≠ some a := fun z => by
    rcases gr2.pot with z2 | ⟨b, z2, hb⟩
    · exact h4 (by rw [← z2]; exact z)
    · rw [z2] at z; cases z; rw [h2] at hb; cases hb
  have later : ∀ (j : Nat) ys, ws[j]? = some (.own ys) → vs[j]? ≠ some (.ref a) := fun j ys q z => by
    obtain ⟨b, _, e, hb, _⟩ := rs.rep.2 j _ _ z q
    cases e
    rw [h2] at hb; cases hb
  refine o2.ret gs2 _ ⟨.cons (show WF _ _ _ _ _ _ _ (.own ds) from ⟨a, vs0, rfl, h1, gr2.keep _ _ h2 h4, hF2, hp2, h5, h6.mono gr2.fz⟩) (rs.rep.mono fun v w h => h.older fun a z => gr1.free0 z), fun i j xs ys v q1 q2 q3 q4 => ?_⟩
  cases i with
  | zero =>
    cases j with
    | zero => rfl
    | succ j => simp at q1 q2 q3 q4; subst q3; exact absurd q4 (later j ys q2)
  | succ i =>
    cases j with
    | zero => simp at q1 q2 q3 q4; subst q4; exact absurd q3 (later i xs q1)
    | succ j => simp at q1 q2 q3 q4; rw [rs.ne i j xs ys v q1 q2 q3 q4]⟩
def setsS : List Nat → List W → Sl → Sl
  | i :: is, w :: ws, ρ => setsS is ws (ρ.set i (some w))
  | _, _, ρ => ρ
def setsV : List Nat → List V → L2.St → L2.St
  | i :: is, v :: vs, σ => setsV is vs (σ.set i (some v))
  | _, _, σ => σ
def WFr (K : PySem.W.Frag) (En : Ent) (F H : Hp) (g : Nat) (pa : Option Addr) (v : V) : W → Prop
  | .val d => Rep K F g pa v d
  | .own xs => ∃ a vs, v = .ref a ∧ En.H a = none ∧ H a = some (.lst vs) ∧ F a = none ∧ pa ≠ some a ∧ xs.length ≤ sizeLine ∧ Reps K F g pa vs xs
theorem SS.sets {K : PySem.W.Frag} {F H : Hp} {pa : Option Addr} {p : Pst} : ∀ (is : List Nat) (vs : List V) (ws : List W) (σ : L2.St) (ρ : Sl), SS K En F H pa p σ ρ → AllR (WFr K En F H p.g pa) vs ws →
    (∀ (i j : Nat) xs ys v, ws[i]? = some (.own xs) → ws[j]? = some (.own ys) → vs[i]? = some v → vs[j]? = some v → i = j) →
    (∀ (k j : Nat) xs ys v, ws[k]? = some (.own xs) → vs[k]? = some v → ρ[j]? = some (some (.own ys)) → σ[j]? ≠ some (some v)) → SS K En F H pa p (setsV is vs σ) (setsS is ws ρ) := by
  intro is
  induction is with
  | nil => intro vs ws σ ρ s _ _ _; cases vs <;> cases ws <;> exact s
  | cons i is ih =>
    intro vs ws σ ρ s r hne hfr
    rcases r.cases with ⟨rfl, rfl⟩ | ⟨v, w, vs', ws', rfl, rfl, r1, r2⟩
    · exact s
    · simp only [setsV, setsS]
      have hne' : ∀ (a b : Nat) xs ys u, ws'[a]? = some (.own xs) → ws'[b]? = some (.own ys) → vs'[a]? = some u → vs'[b]? = some u → a = b := fun a b xs ys u h1 h2 h3 h4 => by
        have := hne (a + 1) (b + 1) xs ys u (by simpa using h1) (by simpa using h2) (by simpa using h3) (by simpa using h4)
        omega
      have hfr' : ∀ (k j : Nat) xs ys u, ws'[k]? = some (.own xs) → vs'[k]? = some u → (ρ.set i (some w))[j]? = some (some (.own ys)) → (σ.set i (some v))[j]? ≠ some (some u) := fun k j xs ys u h1 h2 h3 h4 => by
        rw [List.getElem?_set] at h3 h4
        by_cases e : i = j
        · rw [if_pos e] at h3 h4
          split at h3
          · split at h4
            · cases h3; cases h4
              have := hne 0 (k + 1) ys xs v rfl (by simpa using h1) rfl (by simpa using h2)
              omega
            · cases h4
          · cases h3
        · rw [if_neg e] at h3 h4
          exact hfr (k + 1) j xs ys u (by simpa using h1) (by simpa using h2) h3 h4
      refine ih vs' ws' _ _ ?_ r2 hne' hfr'
      cases w with
      | val d => exact s.set r1 i
      | own xs =>
        obtain ⟨a, us, rfl, h1, h2, h3, h4, h5, h6⟩ := r1
        exact s.setO (H0 := H) i h1 (fun j ys q => hfr 0 j xs ys _ rfl rfl q) h2 h3 h4 h5 h6
def casgW (is : List Nat) (mu : M (List W)) : C := eout mu fun ws ρ p => if ws.length = is.length then .nx (setsS is ws ρ) p else .stuck
theorem tmu_s {K : PySem.W.Frag} {mg : Str → Option Value} {F H : Hp} {pa : Option Addr} {p : Pst} {σ : L2.St} {ρ : Sl} {Dn : Ends} {is : List Nat} {mu : M (List W)} {Q : List V → Hp → Prop} (s : SS K En F H pa p σ ρ) (o : SOut K mg En Wx F p.g pa Dn (casgW is mu ρ p))
    (h : ∀ vs ws p' F' H' pa', SS K En F' H' pa' p' σ ρ → Fz F p.g pa F' p'.g pa' → vs.length = is.length → SS K En F' H' pa' p' (setsV is vs σ) (setsS is ws ρ) → SOut K mg En Wx F' p'.g pa' Dn (.nx (setsS is ws ρ) p') → Q vs H') : TMu K mg Wx mu σ H Q :=
  ⟨F, pa, p, ρ, s.gs, s.sr, (o.expr s).mono fun ws p' F' H' pa' gr gs ⟨s', o'⟩ vs r => by
    by_cases hc : ws.length = is.length
    · rw [if_pos hc] at o'
      refine h vs ws p' F' H' pa' s' gr.fz (by rw [r.rep.1]; exact hc) (SS.sets is vs ws σ ρ s' (r.rep.mono fun v w q => ?_) r.ne fun k j xs ys v h1 h2 h3 h4 => ?_) o'
      · cases w with
        | val d => exact q
        | own xs =>
          obtain ⟨a, us, rfl, z1, z⟩ := q
          exact ⟨a, us, rfl, s.gr.enter z1, z⟩
      · obtain ⟨a, us, rfl, z1, z⟩ := r.rep.2 k _ _ h2 h1
        exact fresh_ne s z1 j ys h3 h4
    · rw [if_neg hc] at o'; exact o'.elim⟩
theorem cs_par {i j : Nat} {mu : M (List W)} (h : PS X st (tPar i j (TMu X.K X.mg Wx mu))) : PMs X En Wx st (casgW [i, j] mu) := ⟨h.imp fun Dn σ H ⟨F, pa, p, ρ, s, o⟩ => tmu_s s o fun vs ws p' F' H' pa' s' fz hl s2 o2 => by
  match vs, hl with
  | [v, w], _ => exact ⟨v, w, rfl, o2 _ F' H' pa' .refl s2⟩⟩
theorem cs_par3 {i j l : Nat} {mu : M (List W)} (h : PS X st (tPar3 i j l (TMu X.K X.mg Wx mu))) : PMs X En Wx st (casgW [i, j, l] mu) := ⟨h.imp fun Dn σ H ⟨F, pa, p, ρ, s, o⟩ => tmu_s s o fun vs ws p' F' H' pa' s' fz hl s2 o2 => by
  match vs, hl with
  | [v, w, u], _ => exact ⟨v, w, u, rfl, o2 _ F' H' pa' .refl s2⟩⟩
def gNs : List Nat → TGs
  | [] => gNil
  | i :: is => gCons (gName i) (gNs is)
theorem gNs_of : ∀ (is : List Nat) (vs : List V) (σ : L2.St) (H : Hp) (Q : L2.St → Hp → Prop), vs.length = is.length → Q (setsV is vs σ) H → gNs is vs σ H Q
  | [], [], σ, H, Q, _, h => ⟨rfl, h⟩
  | i :: is, v :: vs, σ, H, Q, hl, h => ⟨v, vs, rfl, gNs_of is vs _ H Q (by simpa using hl) h⟩
theorem cs_parT {is : List Nat} {n : Nat} {mu : M (List W)} (hn : is.length = n) (hz : n ≤ 4096) (h : PS X st (tAsg (tTup (TMu X.K X.mg Wx mu)) (gTup X.K n (gNs is)))) : PMs X En Wx st (casgW is mu) := ⟨h.imp fun Dn σ H ⟨F, pa, p, ρ, s, o⟩ => tmu_s s o fun vs ws p' F' H' pa' s' fz hl s2 o2 => by
  refine ⟨by rw [hl, hn]; exact lim_size hz, fun q hq => ⟨q, vs, rfl, SqT.of upd_same, by rw [hl, hn], gNs_of is vs σ _ _ hl ?_⟩⟩
  exact o2 _ F' _ pa' .refl (s2.grow (Gr.allocO hq) (s2.gs.allocO hq))⟩
end
end PF

namespace PF
open PySem PySem.Spec PyProof.Rows L2

section
variable {X : Cx} {En : Ent} {Wx : WX} {st : Stmt} {sts : List Stmt} {m m' : C} {ms mi : M (List D)} {e a b c : Expr} {me ma mb : M D} {mo mo' : M (List D)} {mt : M Bool} {pos : Pos} {i : Nat} {x : Str} {es : List Expr}
/-! ### fresh lists by operators -/
def OpSo (X : Cx) (r : R2) (op : D → D → Option (List D)) : Prop := ∀ (x y : V) (d e : D) (z : List D) (F H : Hp) (p : Pst) (pa : Option Addr) (Q : VK), GS F H pa p → Rep X.K F p.g pa x d → Rep X.K F p.g pa y e → op d e = some z →
  (∀ q vs, H q = none → z.length ≤ sizeLine → Reps X.K F p.g pa vs z → Q (.ref q) (upd H q (.lst vs))) → r x y H Q
def mOpo (op : D → D → Option (List D)) (ma mb : M D) : M (List D) := mbind ma fun x => mbind mb fun y => mopt (op x y)
theorem pmo_op {op : Operator} {r : R2} {f : D → D → Option (List D)} (ho : OpR X (binaryOp op) r) (hs : OpSo X r f) (ha : PM X Wx a ma) (hb : PM X Wx b mb) : PMo X Wx (.BinOp a op b pos) (mOpo f ma mb) := ⟨(pe_op ho ha.pe hb.pe).imp fun σ H Q ⟨F, pa, p, ρ, gs, s, o⟩ => by
  refine TM.of gs s ((Out.bindS .refl o).mono fun d p1 F1 H1 pa1 gr1' gs1 ⟨gr1, o1⟩ s1 v1 r1 => ?_)
  refine TM.of gs1 s1 ((Out.bindS gr1 o1).mono fun y p2 F2 H2 pa2 gr2' gs2 ⟨gr2, o2⟩ s2 v2 r2 => ?_)
  obtain ⟨z, ez, o3⟩ := o2.opt
  refine hs v1 v2 d y z F2 H2 p2 pa2 Q gs2 (r1.mono gr2'.fz) r2 ez fun q vs hq hz rs => ?_
  exact o3 F2 _ pa2 (gr2.trans (Gr.allocO hq)) (gs2.allocO hq) q vs (gr2.free0 hq) upd_same (gs2.fnone hq) (gs2.pne hq) hz rs⟩
def dAddO : D → D → Option (List D)
  | .lst xs, .lst ys => if xs.length + ys.length ≤ sizeLine then some (xs ++ ys) else none
  | _, _ => none
theorem opso_cat : OpSo X rCat dAddO := by
  intro x y d e z F H p pa Q gs rx ry ez k
  cases d <;> cases e <;> first | (simp [dAddO] at ez; done) | skip
  simp only [dAddO] at ez
  split at ez
  · rename_i hc
    simp only [Option.some.injEq] at ez
    subst ez
    obtain ⟨l, xs, rfl, hl, hz1, r1⟩ := rx.lstH gs
    obtain ⟨m, ys, rfl, hm, hz2, r2⟩ := ry.lstH gs
    refine ⟨l, m, xs, ys, rfl, rfl, hl, hm, by rw [r1.1, r2.1]; exact hc, fun q hq => ?_⟩
    exact k _ _ hq (by rw [List.length_append]; exact hc) (AllR.append r1 r2)
  · cases ez
theorem pmo_add (ha : PM X Wx a ma) (hb : PM X Wx b mb) : PMo X Wx (.BinOp a .Add b pos) (mOpo dAddO ma mb) := pmo_op op_cat opso_cat ha hb
def dRepO : D → D → Option (List D)
  | .lst xs, .int k => if -(2 ^ 63) ≤ k ∧ k < 2 ^ 63 ∧ xs.length * k.toNat ≤ sizeLine then some (List.replicate k.toNat xs).flatten else none
  | _, _ => none
theorem opso_rep : OpSo X rRep dRepO := by
  intro x y d e z F H p pa Q gs rx ry ez k
  cases d <;> cases e <;> first | (simp [dRepO] at ez; done) | skip
  simp only [dRepO] at ez
  split at ez
  · rename_i hc
    simp only [Option.some.injEq] at ez
    subst ez
    cases ry
    obtain ⟨l, xs, rfl, hl, hz1, r1⟩ := rx.lstH gs
    refine ⟨l, _, xs, rfl, rfl, hl, hc.1, hc.2.1, by rw [r1.1]; exact hc.2.2, fun q hq => ?_⟩
    exact k _ _ hq (by simpa [Nat.mul_comm] using hc.2.2) (AllR.rep r1 _)
  · cases ez
theorem pmo_mul (ha : PM X Wx a ma) (hb : PM X Wx b mb) : PMo X Wx (.BinOp a .Mult b pos) (mOpo dRepO ma mb) := pmo_op op_rep opso_rep ha hb
theorem pmo_if (hc : PMt X Wx c mt) (ha : PMo X Wx a mo) (hb : PMo X Wx b mo') : PMo X Wx (.IfExp c a b pos) (mIf mt mo mo') := ⟨(pe_ifExp hc.pt ha.pe hb.pe).imp fun σ H Q ⟨F, pa, p, ρ, gs, s, o⟩ => by
  refine ⟨F, pa, p, ρ, gs, s, o.bind.mono fun k p1 F1 H1 pa1 gr1 gs1 o1 => ?_⟩
  cases k with
  | true =>
    simp only [if_true] at o1 ⊢
    refine ⟨F1, pa1, p1, ρ, gs1, s.grow gr1, Out.mono o1 fun ds p2 F2 H2 pa2 gr2 gs2 h a vs h1 => h a vs (gr1.free0 h1)⟩
  | false =>
    simp only [Bool.false_eq_true, if_false] at o1 ⊢
    refine ⟨F1, pa1, p1, ρ, gs1, s.grow gr1, Out.mono o1 fun ds p2 F2 H2 pa2 gr2 gs2 h a vs h1 => h a vs (gr1.free0 h1)⟩⟩

/-! ### the pot is made -/
def cretpot (ms : M (List D)) : C := eout ms fun ds _ p => match ds with
  | [.int a, .int b] => .rt (.pot (p.g + 1)) false ⟨p.g + 1, a, b⟩
  | _ => .stuck
theorem cs_retpot {lp : Pos} (h : PMa X Wx es ms) : PMs X En Wx (.Return (some (.List es lp)) pos) (cretpot ms) := ⟨(ps_ret (pe_lst h.pa)).imp fun Dn σ H ⟨F, pa, p, ρ, s, o⟩ => by
  refine ⟨F, pa, p, ρ, s.gs, s.sr, (o.expr s).mono fun ds p' F' H' pa' gr gs ⟨s', o'⟩ vs rs => ?_⟩
  split at o' <;> first | exact o'.elim | skip
  obtain ⟨v, w, rfl, r1, r2⟩ := reps2 rs
  cases r1; cases r2
  refine ⟨by show 2 ≤ sizeLine; exact two_line, fun q hq => ?_⟩
  have gs2 := s'.gs
  have hF : F' q = none := gs2.fnone hq
  have hz : ∀ a o, F' a = some o → a ≠ q := fun a o h e => by rw [e, hF] at h; cases h
  refine o' _ F' _ (some q) ⟨fun _ _ h => h, Nat.le_succ _, fun z => absurd z (Nat.ne_of_lt (Nat.lt_succ_self _))⟩ ?_ ⟨fun a o h => ?_, fun a h => ?_⟩ (show Rep _ _ _ _ _ _ from .pot (Nat.le_refl _) fun _ => ⟨q, rfl, rfl⟩)
  · have gr0 := s'.gr
    refine Gr.trans gr0 ⟨⟨fun _ _ h => h, Nat.le_succ _, fun z => absurd z (Nat.ne_of_lt (Nat.lt_succ_self _))⟩, fun a o h => .inl h, fun a o h _ => ?_, fun a o h => ?_, .inr ⟨q, rfl, hq⟩⟩
    · rw [upd_ne (ne_of_none h hq)]; exact h
    · exact ⟨o, by rw [upd_ne (ne_of_none h hq)]; exact h⟩
  · rw [upd_ne (hz a o h)]; exact gs2.sub a o h
  · cases h
    exact ⟨upd_same, hF⟩⟩
end

/-! ### the def -/
def sres (r : SRes) : FRes := match r with
  | .nx _ p => .ok .non false p
  | .rt d fr p => .ok d fr p
  | .exc x _ p => .exc x p
  | _ => .stuck
/-- what a def with n slots and k parameters does -/
def fres (n k : Nat) (c : C) : Fn := fun ds p => if ds.length = k then sres (c (ds.map (fun d => some (W.val d)) ++ List.replicate (n - k) none) p) else .stuck
abbrev EX (E : XK) : WX := fun cls d _ H => E cls d H
/-- the body within its context -/
def BodyOk (P : Program) (w : World) (K : PySem.W.Frag) (mg : Str → Option Value) (base : Heap) (k : Nat) (qual : Str) (body : List Stmt) (scope : Scope) (N : List Str) (c : C) : Prop :=
  ∀ (f : Addr) (cdv : Value) (A : Around) (outer : List Env) (s : Shared) (H : Hp) (E : XK) (En : Ent), Room k (A.deeper (envOfC qual scope s.heap.objs.size f cdv)) → (A.deeper (envOfC qual scope s.heap.objs.size f cdv)).guards = some [] →
    PMss (cxOf (L2.CX P w) P w K mg base N qual scope f cdv A outer s H E) En (EX E) body c
theorem srel_start {K : PySem.W.Frag} {F H : Hp} {g : Nat} {pa : Option Addr} {vs : List V} {ds : List D} {N : List Str} {k : Nat} (r : Reps K F g pa vs ds) (hk : ds.length = k) : SRel K F H g pa (L2.start N vs) (ds.map (fun d => some (W.val d)) ++ List.replicate (N.length - k) none) := by
  have hl : vs.length = ds.length := r.1
  unfold L2.start
  have key : ∀ (i : Nat) w, (ds.map (fun d => some (W.val d)) ++ List.replicate (N.length - k) none)[i]? = some (some w) → ∃ d, ds[i]? = some d ∧ w = .val d := fun i w h => by
    by_cases hi : i < ds.length
    · rw [List.getElem?_append_left (by simpa using hi), List.getElem?_map] at h
      cases q : ds[i]? with
      | none => rw [q] at h; cases h
      | some d => rw [q] at h; cases h; exact ⟨d, rfl, rfl⟩
    · rw [List.getElem?_append_right (by simpa using hi), List.getElem?_replicate] at h
      split at h <;> cases h
  refine ⟨by simp [hl, hk], fun i w h => ?_, fun i j xs ys v h => ?_⟩
  · obtain ⟨d, hd, rfl⟩ := key i w h
    obtain ⟨v, hv, rv⟩ := r.get hd
    refine ⟨v, ?_, rv⟩
    rw [List.getElem?_append_left (by have := (List.getElem?_eq_some_iff.mp hv).1; simpa using this), List.getElem?_map, hv]
    rfl
  · obtain ⟨d, hd, e⟩ := key i _ h
    cases e
theorem fnx {P : Program} {w : World} {K : PySem.W.Frag} {mg : Str → Option Value} {base : Heap} {x : Str} {params : Arguments} {body : List Stmt} {scope : Scope} {f : Addr} {fd : FuncData} {N ps : List Str} {k : Nat} {c : C}
    (F : FunD K x x params body scope [] [] f fd) (hm : mg x = some (.ref f)) (S : FnScope N ps scope) (hb : BodyOk P w K mg base k x body scope N c) : FnX P w K mg base x params (k + 1) ps (fres N.length ps.length c) := by
  obtain ⟨oc, od, dV, kV, doc, pm, an, cdv, ct, osl, rfl, lk, hcd, hD, _⟩ := F.ex
  obtain rfl : dV = .none := by
    rcases hD with ⟨_, h⟩ | ⟨h, _⟩
    · exact h
    · exact absurd rfl h
  refine ⟨f, _, hm, F.kp, ⟨body, scope, kV, doc, pm, an, cdv, ct, rfl⟩, ⟨fun ds p h => ?_, fun A outer s H args us vs ds Fz0 pa p Q E hr hgd e0 hbt rv gs rs o => ?_⟩⟩
  · unfold fres at h
    by_cases hc : ds.length = ps.length
    · exact hc
    · rw [if_neg hc] at h; exact absurd rfl h
  · have hc : ds.length = ps.length := by
      by_cases hc : ds.length = ps.length
      · exact hc
      · unfold fres at o; rw [if_neg hc] at o; exact o.elim
    unfold fres at o
    rw [if_pos hc] at o
    refine LamX.run_ofS (N := N) lk hcd S hr e0 hbt rv (by rw [rs.1]; exact hc) fun hr' => ?_
    let En : Ent := ⟨Fz0, H, p.g, pa⟩
    refine ⟨_, (hb f cdv A outer s H E En hr' (by show A.guards = some []; exact hgd)).ps, Fz0, pa, p, _, ⟨.refl, gs, srel_start rs hc, fun i xs v h => ?_⟩, ?_⟩
    · have := (srel_start (H := H) rs hc).rep i _ h
      exfalso
      have key : ∀ (i : Nat) w, (ds.map (fun d => some (W.val d)) ++ List.replicate (N.length - ps.length) none)[i]? = some (some w) → ∃ d, w = .val d := fun i w h => by
        by_cases hi : i < ds.length
        · rw [List.getElem?_append_left (by simpa using hi), List.getElem?_map] at h
          cases q : ds[i]? with
          | none => rw [q] at h; cases h
          | some d => rw [q] at h; cases h; exact ⟨d, rfl⟩
        · rw [List.getElem?_append_right (by simpa using hi), List.getElem?_replicate] at h
          split at h <;> cases h
      obtain ⟨d, e⟩ := key i _ h
      cases e
    · cases q : c (ds.map (fun d => some (W.val d)) ++ List.replicate (N.length - ps.length) none) p with
      | nx ρ' p' =>
        rw [q] at o
        exact fun σ' F' H' pa' fz s' => o .non F' H' pa' s'.gr s'.gs (show Rep _ _ _ _ _ _ from .non)
      | rt d fr p' =>
        rw [q] at o
        exact fun v F' H' pa' fz gr gs' r => o v F' H' pa' gr gs' r
      | exc y ρ' p' =>
        rw [q] at o
        exact fun cls dd σ' F' H' pa' fz s' r => o cls dd F' H' pa' s'.gr s'.gs r
      | bk ρ' p' => rw [q] at o; exact o.elim
      | ct ρ' p' => rw [q] at o; exact o.elim
      | stuck => rw [q] at o; exact o.elim
end PF

namespace PF
open PySem PySem.Spec PyProof.Rows L2

mutual
theorem noDict_pl : ∀ d : D, pl d = true → (toPy d).hasDict = false
  | .non, _ => by simp [toPy, PyData.hasDict]
  | .bl _, _ => by simp [toPy, PyData.hasDict]
  | .int _, _ => by simp [toPy, PyData.hasDict]
  | .str _, _ => by simp [toPy, PyData.hasDict]
  | .lst xs, h => by simp only [toPy, PyData.hasDict]; exact noDict_pls xs (by simpa [pl] using h)
  | .tup xs, h => by simp only [toPy, PyData.hasDict]; exact noDict_pls xs (by simpa [pl] using h)
  | .scr _, h => by simp [pl] at h
  | .pot _, h => by simp [pl] at h
  | .emp, h => by simp [pl] at h
theorem noDict_pls : ∀ ds : List D, pls ds = true → PyData.hasDictAll (toPys ds) = false
  | [], _ => by simp [toPys, PyData.hasDictAll]
  | x :: xs, h => by
    simp only [pls, Bool.and_eq_true] at h
    simp only [toPys, PyData.hasDictAll, Bool.or_eq_false_iff]
    exact ⟨noDict_pl x h.1, noDict_pls xs h.2⟩
end
def okRepr (d : D) : Bool := pl d && (toPy d).showable && decide ((toPy d).shown.length ≤ sizeLine) && decide (dep d ≤ 60)
theorem okRepr_iff {d : D} : okRepr d = true ↔ pl d = true ∧ (toPy d).showable = true ∧ (toPy d).shown.length ≤ sizeLine ∧ dep d ≤ 60 := by
  unfold okRepr
  simp only [Bool.and_eq_true, decide_eq_true_eq, and_assoc]
def rtext (d : D) : Str := (toPy d).shown
def dReprF : List D → Option D
  | [d] => if okRepr d = true then some (.str (rtext d)) else none
  | _ => none
def rReprD (X : Cx) : List V → Hp → VK → Prop := fun xs H Q => ∃ v d, xs = [v] ∧ okRepr d = true ∧ Dp X.K H v (toPy d) ∧ Q (.str (rtext d)) H
section
variable {X : Cx} {Wx : WX} {e : Expr} {m : M D}
theorem call_reprD (hu : Un X) (hg : X.A.guards = some []) : CallR X (.builtin "repr") (rReprD X) := by
  intro pins s σ H xs us Q I r h
  obtain ⟨v, d, rfl, hd, dp, q⟩ := h
  obtain ⟨h1, h2, h3, h4⟩ := okRepr_iff.mp hd
  have hu' : X.A.units + 65 < cLine := hu
  obtain ⟨u, rfl, ru⟩ : ∃ u, us = [u] ∧ L2.RelV v u := by
    cases r with
    | cons r r2 => cases r2; exact ⟨_, rfl, r⟩
  cases d with
  | non =>
    simp only [toPy] at dp
    cases dp
    cases ru
    exact PySem.P.repr_of_none ⟨.str (rtext .non), H, I.tok _, ⟨_, rfl⟩, q⟩
  | bl b =>
    simp only [toPy] at dp
    cases dp
    cases ru
    exact PySem.P.repr_of_bool ⟨.str (rtext (.bl b)), H, I.tok _, ⟨_, by cases b <;> rfl⟩, q⟩
  | int i =>
    simp only [toPy] at dp
    cases dp
    obtain ⟨t, rfl⟩ := ru
    have h5 : i.natAbs.log2 < 1920 := by simpa [toPy, PyData.showable] using h2
    exact PySem.P.repr_of_int h5 ⟨.str (rtext (.int i)), H, I.tok _, ⟨_, rfl⟩, q⟩
  | str x =>
    simp only [toPy] at dp
    cases dp
    obtain ⟨t, rfl⟩ := ru
    exact PySem.P.repr_of_str ⟨.str (rtext (.str x)), H, I.tok _, ⟨_, rfl⟩, q⟩ (by simpa [toPy, PyData.shown] using h3)
  | scr ns => simp [pl] at h1
  | pot k => simp [pl] at h1
  | emp => simp [pl] at h1
  | lst xs =>
    obtain ⟨as, rd⟩ := Dp.reads I _ v u dp ru
    simp only [toPy] at dp
    cases dp
    cases ru
    refine PySem.repr_of_reads' rd h2 (fun z => ?_) hg ?_ (fun _ _ z => z) (fun h' u' tk hk => ⟨.str (rtext _), H, I.kept (h' := h') (t' := tk) hk, ⟨u', rfl⟩, q⟩) h3
    · rw [noDict_pl _ h1] at z; cases z
    · rw [depth_dep _ h1]; omega
  | tup xs =>
    obtain ⟨as, rd⟩ := Dp.reads I _ v u dp ru
    simp only [toPy] at dp
    cases dp
    cases ru
    refine PySem.repr_of_reads' rd h2 (fun z => ?_) hg ?_ (fun _ _ z => z) (fun h' u' tk hk => ⟨.str (rtext _), H, I.kept (h' := h') (t' := tk) hk, ⟨u', rfl⟩, q⟩) h3
    · rw [noDict_pl _ h1] at z; cases z
    · rw [depth_dep _ h1]; omega
theorem calls_repr : CallS X (rReprD X) dReprF := by
  intro xs ds z F H p pa Q gs rs ez k
  unfold dReprF at ez
  split at ez <;> first | (cases ez; done) | skip
  split at ez <;> first | (cases ez; done) | skip
  rename_i d hd
  obtain ⟨v, rfl, r⟩ := reps1 rs
  simp only [Option.some.injEq] at ez
  subst ez
  exact ⟨v, d, rfl, hd, r.dp gs.sub (okRepr_iff.mp hd).1, k _ _ _ .refl gs (.str _)⟩
end
end PF

namespace PF
open PySem PySem.Spec PyProof.Rows L2

/-! ### the law's own call -/
section
variable {P : Program} {w : World} {K : PySem.W.Frag} {mg mb : Str → Option Value} {k : Nat} {fa a : Addr} {s₁ : Shared} {vs : List Value} {ns : List Int} {params : Arguments} {G : Fn} {x y : Str}
/-- at a heap H that tracks the script alone (or nothing) -/
theorem law_at {H : Hp} (hns : s₁.heap.Ns mainGlobals mg) (hb : s₁.heap.Ns builtinsNs mb) (hbb : ∀ x : Str, x ≠ "__name__" → mb x = bootBuiltins x) (hlim : s₁.heap.NoLimit) (hg : s₁.gens = #[])
    (ha : s₁.heap.get? a = some { cls := .type "list", data := .seq vs.toArray }) (KX : K.In s₁.heap) (hr : Room k callerA) (F : ∀ base : Heap, K.In base → base.Ns mainGlobals mg → FnX P w K mg base y params k [x] G) (hmg : mg y = some (.ref fa)) (hbd : Bd y params [x] 1 [] [0])
    (hG : ∃ p', G [.scr ns] ⟨0, 0, 0⟩ = .ok (.bl true) false p') (hS : SqL K H a (ns.map V.int)) (hok : HOk P w H s₁.heap) (only : ∀ b u, H b = some u → b = a ∧ K.lookup a = none ∧ ∃ o xs, u = .frz o (.lst xs)) :
    codeAny (model P w) callerA (.call (.ref fa) ⟨[.ref a], []⟩) (fun r s' => r = .ok (.ret (.bool true)) ∧ OldK s₁.heap s'.heap ∧ s'.os = s₁.os ∧ AllBare s'.gens) s₁ := by
  have free : ∀ {b : Addr} {o : Obj}, s₁.heap.get? b = some o → o ≠ { cls := .type "list", data := .seq vs.toArray } → H b = none := fun {b o} e hne => by
    cases q : H b with
    | none => rfl
    | some u =>
      obtain ⟨rfl, _⟩ := only b u q
      rw [ha] at e
      exact absurd (Option.some.inj e).symm hne
  have ns2 : ∀ {b : Addr} {m : Str → Option Value}, s₁.heap.Ns b m → (hidT s₁.heap H).Ns b m := fun {b m} ⟨o, es, ep, e, d, r⟩ =>
    ⟨o, es, ep, hidT_get e (free e fun z => by rw [z] at d; exact nomatch d), d, r⟩
  have kin : K.In (hidT s₁.heap H) := fun b o e => hidT_get (KX b o e) (by
    cases q : H b with
    | none => rfl
    | some u =>
      obtain ⟨rfl, z, _⟩ := only b u q
      rw [z] at e; exact nomatch e)
  obtain ⟨mc, hc1, hc2⟩ := hlim
  have e0 : Env0 P w K mg (hidT s₁.heap H) callerA [] s₁ H :=
    { frames := rfl, mod := ⟨kin, ns2 hns, ⟨mb, ns2 hb, hbb⟩, ⟨mc, ns2 hc1, hc2⟩⟩, bs := fun b o e => of_hidT e, bsz := Nat.le_of_eq (hidT_size _ _), funs := trivial, frf := fun b hb => (nomatch (show b ∈ ([] : List Addr) from hb)), hok := hok, bare := .of_eq hg }
  obtain ⟨f, fd, hm, hk, ⟨body, scope, kV, doc, pm, an, cdv, ct, rfl⟩, Fm⟩ := (F _ kin (ns2 hns)).ex
  rw [hmg] at hm
  cases hm
  obtain ⟨p', hp⟩ := hG
  have hbt : BindsTo s₁ (PySem.W.fnOf y y params body scope .none kV doc pm an cdv ct) ⟨[.ref a], []⟩ ([x].zip [.ref a]) := .of_eq (hbd _ _ _ _ _ _ _ _ [.ref a] [] rfl rfl)
  refine codeAny_mono (Fm.run callerA [] s₁ H _ [.ref a] [.ref a] [.scr ns] H none ⟨0, 0, 0⟩ (fun v _ => v = .bl true) (fun _ _ _ => False) hr rfl e0 hbt (.cons rfl .nil) ⟨fun _ _ h => h, fun _ h => nomatch h⟩ (.cons (.scr hS) .nil) ?_) fun r s' h => ?_
  · rw [hp]
    intro v F' H' pa' _ _ r
    cases (show Rep _ _ _ _ v (.bl true) from r)
    rfl
  · match r, h with
    | .error e, h =>
      obtain ⟨_, _, _, _, _, _, _, _, _, _, _, _, h⟩ := h
      exact h.elim
    | .ok .next, h => exact False.elim h
    | .ok .brk, h => exact False.elim h
    | .ok .cont, h => exact False.elim h
    | .ok (.ret u), h =>
      obtain ⟨v, H', os, bare, un, hok', r', q⟩ := h
      obtain rfl : v = .bl true := q
      obtain rfl : u = Value.bool true := r'
      refine ⟨rfl, OldK.of_keep fun b o e => ?_, os, bare⟩
      cases q : H b with
      | none => exact un.keep b o e q (fun z => nomatch (show b ∈ ([] : List Addr) from z)) (fun z => nomatch z)
      | some u =>
        obtain ⟨rfl, _, ob, xs, rfl⟩ := only b u q
        obtain ⟨e1, _⟩ := hok _ _ q
        obtain ⟨e2, _⟩ := hok' _ _ (un.frzs _ _ _ q)
        rw [e] at e1
        cases e1
        exact e2
theorem law_run (hns : s₁.heap.Ns mainGlobals mg) (hb : s₁.heap.Ns builtinsNs mb) (hbb : ∀ x : Str, x ≠ "__name__" → mb x = bootBuiltins x) (hlim : s₁.heap.NoLimit) (hg : s₁.gens = #[])
    (ha : s₁.heap.get? a = some { cls := .type "list", data := .seq vs.toArray }) (hi : IntsAre vs ns) (hl : ns.length ≤ sizeLine) (KX : K.In s₁.heap) (hr : Room k callerA) (F : ∀ base : Heap, K.In base → base.Ns mainGlobals mg → FnX P w K mg base y params k [x] G) (hmg : mg y = some (.ref fa)) (hbd : Bd y params [x] 1 [] [0])
    (hG : ∃ p', G [.scr ns] ⟨0, 0, 0⟩ = .ok (.bl true) false p') :
    codeAny (model P w) callerA (.call (.ref fa) ⟨[.ref a], []⟩) (fun r s' => r = .ok (.ret (.bool true)) ∧ OldK s₁.heap s'.heap ∧ s'.os = s₁.os ∧ AllBare s'.gens) s₁ := by
  have rv := vals_ints hi
  cases hk : K.lookup a with
  | some o =>
    have e := KX a o hk
    rw [ha] at e
    cases e
    exact law_at (H := fun _ => none) hns hb hbb hlim hg ha KX hr F hmg hbd hG (.inr ⟨_, vs.toArray, _, hk, rfl, rfl, rfl, by rw [List.size_toArray, hi.length]; exact hl, by simpa using rv⟩) (fun b u z => nomatch z) fun b u z => nomatch z
  | none =>
    refine law_at (H := upd (fun _ => none) a (.frz { cls := .type "list", data := .seq vs.toArray } (.lst (ns.map V.int)))) hns hb hbb hlim hg ha KX hr F hmg hbd hG (.inl (.inr ⟨_, upd_same⟩)) (fun b u z => ?_) fun b u z => ?_
    · by_cases hb : b = a
      · subst hb
        rw [upd_same] at z
        cases z
        exact ⟨ha, by rw [List.length_map]; exact hl, vs, _, rv, ha⟩
      · rw [upd_ne hb] at z; cases z
    · by_cases hb : b = a
      · subst hb
        rw [upd_same] at z
        cases z
        exact ⟨rfl, hk, _, _, rfl⟩
      · rw [upd_ne hb] at z; cases z
end
/-- the goal that the head leaves -/
theorem law_walk {l : PySem.W.OpenLaw} {n k : Nat} {q : Program} {loose : List Str} {XP : (Str → Option Value) → Heap → Prop} {YP : World → Heap → Prop} {d : DefRec} {x : Str} {params : Arguments} {G : Fn}
    (hn : l.most = some n) (hn2 : n ≤ sizeLine) (hdf : d.params.defaults = []) (hr : Room k callerA) (hbd : Bd d.name params [x] 1 [] [0])
    (F : ∀ (w : World) (mg : Str → Option Value) (fa : Addr) (h : Heap), YP w h → h.Ns mainGlobals mg → mg d.name = some (.ref fa) →
      ∃ K : PySem.W.Frag, K.In h ∧ ∀ base : Heap, K.In base → base.Ns mainGlobals mg → FnX l.prog w K mg base d.name params k [x] G)
    (hG : ∀ ns : List Int, ns.length ≤ n → ∃ p', G [.scr ns] ⟨0, 0, 0⟩ = .ok (.bl true) false p') :
    PySem.W.WalkO q loose XP YP l.row.toRowW d [] (fun f vs => PySem.call f vs) := by
  refine Att.attach_call hn hdf fun w s₀ s₁ mg mb fa o pm cd doc a vs ns G' Y ho hd hcd hmg hobj hints hlen hg => ?_
  obtain ⟨K, KX, hF⟩ := F w mg fa _ Y G'.T.g hmg
  exact law_run G'.T.g G'.T.b G'.T.builtins G'.T.nolimit hg hobj hints (Nat.le_trans hlen hn2) KX hr hF hmg hbd (hG ns hlen)
end PF

namespace PF
open PySem PySem.Spec PyProof.Rows L2
section
variable {X : Cx} {En : Ent} {Wx : WX} {e a b c : Expr} {me ma mb m : M D} {ms : M (List D)} {pos p : Pos} {es : List Expr}
theorem b_len (hm : X.mg "len" = none) (ha : PMa X Wx (e :: es) ms) (hg : Gl X "len" := by rfl) (he : starEach (e :: es) X.env = (false, eval e X.env) :: starEach es X.env := by rfl) (hpl : (backTo pos (starEach es X.env)).any (·.1) = false := by rfl) : PM X Wx (.Call (.Name "len" p) (e :: es) [] pos) (mCall dLen ms) := pm_callB call_len calls_len hg hm PySem.boot_len ha (by decide) (by decide) he hpl
theorem b_abs (hm : X.mg "abs" = none) (ha : PMa X Wx (e :: es) ms) (hg : Gl X "abs" := by rfl) (he : starEach (e :: es) X.env = (false, eval e X.env) :: starEach es X.env := by rfl) (hpl : (backTo pos (starEach es X.env)).any (·.1) = false := by rfl) : PM X Wx (.Call (.Name "abs" p) (e :: es) [] pos) (mCall dAbs ms) := pm_callB call_abs calls_abs hg hm boot_abs ha (by decide) (by decide) he hpl
theorem b_int (hm : X.mg "int" = none) (ha : PMa X Wx (e :: es) ms) (hg : Gl X "int" := by rfl) (he : starEach (e :: es) X.env = (false, eval e X.env) :: starEach es X.env := by rfl) (hpl : (backTo pos (starEach es X.env)).any (·.1) = false := by rfl) : PM X Wx (.Call (.Name "int" p) (e :: es) [] pos) (mCall dInt ms) := pm_callTy call_int1 calls_int hg hm boot_int ha (by decide) (by decide) he hpl
theorem b_divmod (hm : X.mg "divmod" = none) (ha : PMa X Wx (e :: es) ms) (hg : Gl X "divmod" := by rfl) (he : starEach (e :: es) X.env = (false, eval e X.env) :: starEach es X.env := by rfl) (hpl : (backTo pos (starEach es X.env)).any (·.1) = false := by rfl) : PM X Wx (.Call (.Name "divmod" p) (e :: es) [] pos) (mCall dDivmod ms) := pm_callB call_divmod calls_divmod hg hm boot_divmod ha (by decide) (by decide) he hpl
theorem b_sum (hc : X.calm = true) (hm : X.mg "sum" = none) (ha : PMa X Wx (e :: es) ms) (hg : Gl X "sum" := by rfl) (he : starEach (e :: es) X.env = (false, eval e X.env) :: starEach es X.env := by rfl) (hpl : (backTo pos (starEach es X.env)).any (·.1) = false := by rfl) : PM X Wx (.Call (.Name "sum" p) (e :: es) [] pos) (mCall dSum ms) := pm_callB (cr_sum hc) calls_sum hg hm boot_sum ha (by decide) (by decide) he hpl
theorem b_all (hc : X.calm = true) (hm : X.mg "all" = none) (ha : PMa X Wx (e :: es) ms) (hg : Gl X "all" := by rfl) (he : starEach (e :: es) X.env = (false, eval e X.env) :: starEach es X.env := by rfl) (hpl : (backTo pos (starEach es X.env)).any (·.1) = false := by rfl) : PM X Wx (.Call (.Name "all" p) (e :: es) [] pos) (mCall dAll ms) := pm_callB (cr_all hc) calls_all hg hm boot_all ha (by decide) (by decide) he hpl
theorem b_any (hc : X.calm = true) (hm : X.mg "any" = none) (ha : PMa X Wx (e :: es) ms) (hg : Gl X "any" := by rfl) (he : starEach (e :: es) X.env = (false, eval e X.env) :: starEach es X.env := by rfl) (hpl : (backTo pos (starEach es X.env)).any (·.1) = false := by rfl) : PM X Wx (.Call (.Name "any" p) (e :: es) [] pos) (mCall dAny ms) := pm_callB (cr_any hc) calls_any hg hm boot_any ha (by decide) (by decide) he hpl
theorem b_max1 (hc : X.calm = true) (hm : X.mg "max" = none) (ha : PMa X Wx (e :: es) ms) (hg : Gl X "max" := by rfl) (he : starEach (e :: es) X.env = (false, eval e X.env) :: starEach es X.env := by rfl) (hpl : (backTo pos (starEach es X.env)).any (·.1) = false := by rfl) : PM X Wx (.Call (.Name "max" p) (e :: es) [] pos) (mCall dMax1 ms) := pm_callB (cr_max hc) calls_max1 hg hm boot_max ha (by decide) (by decide) he hpl
theorem b_min1 (hc : X.calm = true) (hm : X.mg "min" = none) (ha : PMa X Wx (e :: es) ms) (hg : Gl X "min" := by rfl) (he : starEach (e :: es) X.env = (false, eval e X.env) :: starEach es X.env := by rfl) (hpl : (backTo pos (starEach es X.env)).any (·.1) = false := by rfl) : PM X Wx (.Call (.Name "min" p) (e :: es) [] pos) (mCall dMin1 ms) := pm_callB (cr_min hc) calls_min1 hg hm boot_min ha (by decide) (by decide) he hpl
theorem b_max2 (hc : X.calm = true) (hm : X.mg "max" = none) (ha : PMa X Wx (e :: es) ms) (hg : Gl X "max" := by rfl) (he : starEach (e :: es) X.env = (false, eval e X.env) :: starEach es X.env := by rfl) (hpl : (backTo pos (starEach es X.env)).any (·.1) = false := by rfl) : PM X Wx (.Call (.Name "max" p) (e :: es) [] pos) (mCall dMax2 ms) := pm_callB (call_max2 hc) calls_max2 hg hm boot_max ha (by decide) (by decide) he hpl
theorem b_min2 (hc : X.calm = true) (hm : X.mg "min" = none) (ha : PMa X Wx (e :: es) ms) (hg : Gl X "min" := by rfl) (he : starEach (e :: es) X.env = (false, eval e X.env) :: starEach es X.env := by rfl) (hpl : (backTo pos (starEach es X.env)).any (·.1) = false := by rfl) : PM X Wx (.Call (.Name "min" p) (e :: es) [] pos) (mCall dMin2 ms) := pm_callB (call_min2 hc) calls_min2 hg hm boot_min ha (by decide) (by decide) he hpl
theorem b_tuple (hm : X.mg "tuple" = none) (ha : PMa X Wx (e :: es) ms) (hg : Gl X "tuple" := by rfl) (he : starEach (e :: es) X.env = (false, eval e X.env) :: starEach es X.env := by rfl) (hpl : (backTo pos (starEach es X.env)).any (·.1) = false := by rfl) : PM X Wx (.Call (.Name "tuple" p) (e :: es) [] pos) (mCall dTuple ms) := pm_callTy call_tuple_of calls_tuple hg hm boot_tuple ha (by decide) (by decide) he hpl
theorem b_list (hm : X.mg "list" = none) (ha : PMa X Wx (e :: es) ms) (hg : Gl X "list" := by rfl) (he : starEach (e :: es) X.env = (false, eval e X.env) :: starEach es X.env := by rfl) (hpl : (backTo pos (starEach es X.env)).any (·.1) = false := by rfl) : PMo X Wx (.Call (.Name "list" p) (e :: es) [] pos) (mLst dList ms) := pmo_callTy call_list_of calls_list hg hm boot_list ha (by decide) (by decide) he hpl
theorem b_sorted (hm : X.mg "sorted" = none) (ha : PMa X Wx (e :: es) ms) (hg : Gl X "sorted" := by rfl) (he : starEach (e :: es) X.env = (false, eval e X.env) :: starEach es X.env := by rfl) (hpl : (backTo pos (starEach es X.env)).any (·.1) = false := by rfl) : PMo X Wx (.Call (.Name "sorted" p) (e :: es) [] pos) (mLst dSorted ms) := pmo_callB cr_sortedI calls_sorted hg hm boot_sorted ha (by decide) (by decide) he hpl
theorem b_repr (hu : Un X) (hgd : X.A.guards = some []) (hm : X.mg "repr" = none) (ha : PMa X Wx (e :: es) ms) (hg : Gl X "repr" := by rfl) (he : starEach (e :: es) X.env = (false, eval e X.env) :: starEach es X.env := by rfl) (hpl : (backTo pos (starEach es X.env)).any (·.1) = false := by rfl) : PM X Wx (.Call (.Name "repr" p) (e :: es) [] pos) (mCall dReprF ms) := pm_callB (call_reprD hu hgd) calls_repr hg hm boot_repr ha (by decide) (by decide) he hpl
/-- an item of what is no pot -/
theorem pm_ixd (ha : PM X Wx a ma) (hb : PM X Wx b mb) (hs : PlainIx b := by exact fun _ _ => rfl) : PM X Wx (.Subscript a b pos) (mOp dIx ma mb) := ⟨(pe_ix ix_seq ha.pe hb.pe hs).imp (tm_op ops_ix)⟩
/-- the types' names, for isinstance -/
theorem ty_int : bootBuiltins "int" = some (.type Ty.int.name) := boot_int
theorem ty_bool : bootBuiltins "bool" = some (.type Ty.bool.name) := boot_bool
theorem ty_str : bootBuiltins "str" = some (.type Ty.str.name) := boot_str
theorem ty_list : bootBuiltins "list" = some (.type Ty.list.name) := boot_list
theorem ty_tuple : bootBuiltins "tuple" = some (.type Ty.tuple.name) := boot_tuple
theorem ty_dict : bootBuiltins "dict" = some (.type Ty.dict.name) := boot_dict
def dI (k : Nat) : D := .int (k : Int)
theorem pm_nat {k : Nat} {j} : PM X Wx (.Constant (.int (k : Int)) j pos) (mret (dI k)) := pm_int
theorem pm_gnat {x : Str} {k : Nat} (hg : Gl X x) (hm : ∃ t, X.mg x = some (.int (k : Int) t)) (hd : (x == ("__debug__" : Str)) = false := by decide) : PM X Wx (.Name x pos) (mret (dI k)) := pm_gint hg hm hd
theorem un_of {k : Nat} (hr : Room k X.A) : Un X := by have := hr.un; show X.A.units + 65 < cLine; omega
theorem takes_w0 {X : Cx} : Takes X W0 := fun u s' ⟨_, _, _, _, _, _, _, _, _, _, _, _, _, _, _, _, h⟩ => h.elim
theorem loc_of {sc : Scope} {x : Str} (h : sc.names.lookup x = some .local) : Loc sc x := .inl h
end
end PF

namespace PF
open PySem PySem.Spec PyProof.Rows L2
/-! ### evaluation: printed by gen14.py -/
def Res.andThen {α β : Type} (r : Res α) (k : α → Pst → Res β) : Res β := match r with
  | .ok a p => k a p
  | .exc x p => .exc x p
  | .stuck => .stuck
def Res.andS {α : Type} (r : Res α) (ρ : Sl) (k : α → Pst → SRes) : SRes := match r with
  | .ok a p => k a p
  | .exc x p => .exc x ρ p
  | .stuck => .stuck
def SRes.andC (r : SRes) (b : C) : SRes := match r with
  | .nx ρ p => b ρ p
  | r => r
def blK {α : Type} (d : D) (k : Bool → M α) : M α := match d with
  | .bl b => k b
  | _ => mstuck
def inK {α : Type} (d : D) (k : Int → M α) : M α := match d with
  | .int b => k b
  | _ => mstuck
def rdO (o : Option (Option W)) (p : Pst) : Res D := match o with
  | some (some (.val d)) => .ok d p
  | _ => .stuck
def kM {α β : Type} (k : α → M β) (ρ : Sl) (a : α) (p : Pst) : Res β := k a ρ p
def kC {α : Type} (k : α → C) (ρ : Sl) (a : α) (p : Pst) : SRes := k a ρ p
@[simp] theorem kM_ap {α β : Type} (k : α → M β) (ρ : Sl) (a : α) (p : Pst) : kM k ρ a p = k a ρ p := rfl
@[simp] theorem kC_ap {α : Type} (k : α → C) (ρ : Sl) (a : α) (p : Pst) : kC k ρ a p = k a ρ p := rfl
@[simp] theorem andThen_ok {α β : Type} (a : α) (p : Pst) (k : α → Pst → Res β) : (Res.ok a p).andThen k = k a p := rfl
@[simp] theorem andS_ok {α : Type} (a : α) (p : Pst) (ρ : Sl) (k : α → Pst → SRes) : (Res.ok a p).andS ρ k = k a p := rfl
@[simp] theorem andC_nx (ρ : Sl) (p : Pst) (b : C) : (SRes.nx ρ p).andC b = b ρ p := rfl
@[simp] theorem andC_rt (d : D) (fr : Bool) (p : Pst) (b : C) : (SRes.rt d fr p).andC b = .rt d fr p := rfl
@[simp] theorem andC_bk (ρ : Sl) (p : Pst) (b : C) : (SRes.bk ρ p).andC b = .bk ρ p := rfl
@[simp] theorem andC_ct (ρ : Sl) (p : Pst) (b : C) : (SRes.ct ρ p).andC b = .ct ρ p := rfl
@[simp] theorem blK_bl {α : Type} (b : Bool) (k : Bool → M α) : blK (.bl b) k = k b := rfl
@[simp] theorem inK_int {α : Type} (b : Int) (k : Int → M α) : inK (.int b) k = k b := rfl
@[simp] theorem rdO_val (d : D) (p : Pst) : rdO (some (some (.val d))) p = .ok d p := rfl
section
variable {ρ : Sl} {p : Pst}
@[simp] theorem ev_mret {α : Type} (a : α) : mret a ρ p = Res.ok a p := by cases p; first | rfl | (unfold mret; rfl) | (unfold mret; exact congrFun (congrFun (congrArg _ (funext fun d => by cases d <;> rfl)) _) _)
@[simp] theorem ev_mstuck {α : Type} : (mstuck : M α) ρ p = (Res.stuck : Res α) := by cases p; first | rfl | (unfold mstuck; rfl) | (unfold mstuck; exact congrFun (congrFun (congrArg _ (funext fun d => by cases d <;> rfl)) _) _)
@[simp] theorem ev_mopt_some {α : Type} (a : α) : mopt (some a) ρ p = Res.ok a p := by cases p; first | rfl | (unfold mopt; rfl) | (unfold mopt; exact congrFun (congrFun (congrArg _ (funext fun d => by cases d <;> rfl)) _) _)
@[simp] theorem ev_mopt_none {α : Type} : mopt (none : Option α) ρ p = (Res.stuck : Res α) := by cases p; first | rfl | (unfold mopt; rfl) | (unfold mopt; exact congrFun (congrFun (congrArg _ (funext fun d => by cases d <;> rfl)) _) _)
@[simp] theorem ev_mbind {α β : Type} (m : M α) (k : α → M β) : mbind m k ρ p = (m ρ p).andThen (kM k ρ) := by cases p; first | rfl | (unfold mbind; rfl) | (unfold mbind; exact congrFun (congrFun (congrArg _ (funext fun d => by cases d <;> rfl)) _) _)
@[simp] theorem ev_mOp (f) (ma mb : M D) : mOp f ma mb ρ p = mbind ma (fun x => mbind mb fun y => mopt (f x y)) ρ p := by cases p; first | rfl | (unfold mOp; rfl) | (unfold mOp; exact congrFun (congrFun (congrArg _ (funext fun d => by cases d <;> rfl)) _) _)
@[simp] theorem ev_mOpo (f) (ma mb : M D) : mOpo f ma mb ρ p = mbind ma (fun x => mbind mb fun y => mopt (f x y)) ρ p := by cases p; first | rfl | (unfold mOpo; rfl) | (unfold mOpo; exact congrFun (congrFun (congrArg _ (funext fun d => by cases d <;> rfl)) _) _)
@[simp] theorem ev_mCmp (f) (ma mb : M D) : mCmp f ma mb ρ p = mbind ma (fun x => mbind mb fun y => mopt (f x y)) ρ p := by cases p; first | rfl | (unfold mCmp; rfl) | (unfold mCmp; exact congrFun (congrFun (congrArg _ (funext fun d => by cases d <;> rfl)) _) _)
@[simp] theorem ev_mB (m : M Bool) : mB m ρ p = mbind m (fun b => mret (.bl b)) ρ p := by cases p; first | rfl | (unfold mB; rfl) | (unfold mB; exact congrFun (congrFun (congrArg _ (funext fun d => by cases d <;> rfl)) _) _)
@[simp] theorem ev_mUn (f) (ma : M D) : mUn f ma ρ p = mbind ma (fun x => mopt (f x)) ρ p := by cases p; first | rfl | (unfold mUn; rfl) | (unfold mUn; exact congrFun (congrFun (congrArg _ (funext fun d => by cases d <;> rfl)) _) _)
@[simp] theorem ev_mAnd (t u : M Bool) : mAnd t u ρ p = mbind t (fun k => if k = true then u else mret false) ρ p := by cases p; first | rfl | (unfold mAnd; rfl) | (unfold mAnd; exact congrFun (congrFun (congrArg _ (funext fun d => by cases d <;> rfl)) _) _)
@[simp] theorem ev_mOr (t u : M Bool) : mOr t u ρ p = mbind t (fun k => if k = true then mret true else u) ρ p := by cases p; first | rfl | (unfold mOr; rfl) | (unfold mOr; exact congrFun (congrFun (congrArg _ (funext fun d => by cases d <;> rfl)) _) _)
@[simp] theorem ev_mNot (t : M Bool) : mNot t ρ p = mbind t (fun k => mret (!k)) ρ p := by cases p; first | rfl | (unfold mNot; rfl) | (unfold mNot; exact congrFun (congrFun (congrArg _ (funext fun d => by cases d <;> rfl)) _) _)
@[simp] theorem ev_mIf {α : Type} (t : M Bool) (ma mb : M α) : mIf t ma mb ρ p = mbind t (fun k => if k = true then ma else mb) ρ p := by cases p; first | rfl | (unfold mIf; rfl) | (unfold mIf; exact congrFun (congrFun (congrArg _ (funext fun d => by cases d <;> rfl)) _) _)
@[simp] theorem ev_mfrz (mo) : mfrz mo ρ p = mbind mo (fun ds => mret (.lst ds)) ρ p := by cases p; first | rfl | (unfold mfrz; rfl) | (unfold mfrz; exact congrFun (congrFun (congrArg _ (funext fun d => by cases d <;> rfl)) _) _)
@[simp] theorem ev_mcons (ma) (ms) : mcons ma ms ρ p = mbind ma (fun d => mbind ms fun ds => mret (d :: ds)) ρ p := by cases p; first | rfl | (unfold mcons; rfl) | (unfold mcons; exact congrFun (congrFun (congrArg _ (funext fun d => by cases d <;> rfl)) _) _)
@[simp] theorem ev_mlim (ms) : mlim ms ρ p = mbind ms (fun ds => if ds.length ≤ 4096 then mret ds else mstuck) ρ p := by cases p; first | rfl | (unfold mlim; rfl) | (unfold mlim; exact congrFun (congrFun (congrArg _ (funext fun d => by cases d <;> rfl)) _) _)
@[simp] theorem ev_mtup (ms) : mtup ms ρ p = mbind ms (fun ds => if ds.length ≤ 4096 then mret (.tup ds) else mstuck) ρ p := by cases p; first | rfl | (unfold mtup; rfl) | (unfold mtup; exact congrFun (congrFun (congrArg _ (funext fun d => by cases d <;> rfl)) _) _)
@[simp] theorem ev_mIx (ma mb) : mIx ma mb ρ p = mbind ma (fun x => mbind mb fun y => ixAny x y) ρ p := by cases p; first | rfl | (unfold mIx; rfl) | (unfold mIx; exact congrFun (congrFun (congrArg _ (funext fun d => by cases d <;> rfl)) _) _)
@[simp] theorem ev_mSl (me ml mh) : mSl me ml mh ρ p = mbind me (fun d => mbind ml fun lo => mbind mh fun hi => mopt (dSl d lo hi)) ρ p := by cases p; first | rfl | (unfold mSl; rfl) | (unfold mSl; exact congrFun (congrFun (congrArg _ (funext fun d => by cases d <;> rfl)) _) _)
@[simp] theorem ev_mCall (f) (ms) : mCall f ms ρ p = mbind ms (fun ds => mopt (f ds)) ρ p := by cases p; first | rfl | (unfold mCall; rfl) | (unfold mCall; exact congrFun (congrFun (congrArg _ (funext fun d => by cases d <;> rfl)) _) _)
@[simp] theorem ev_mLst (f) (ms) : mLst f ms ρ p = mbind ms (fun ds => mopt (f ds)) ρ p := by cases p; first | rfl | (unfold mLst; rfl) | (unfold mLst; exact congrFun (congrFun (congrArg _ (funext fun d => by cases d <;> rfl)) _) _)
@[simp] theorem ev_mIsi (t) (m) : mIsi t m ρ p = mbind m (fun d => if noPot d = true then mret (.bl (isTy t d)) else mstuck) ρ p := by cases p; first | rfl | (unfold mIsi; rfl) | (unfold mIsi; exact congrFun (congrFun (congrArg _ (funext fun d => by cases d <;> rfl)) _) _)
@[simp] theorem ev_mIsis (t) (m) : mIsis t m ρ p = mbind m (fun d => if noPot d = true then mret (.bl (isTys t d)) else mstuck) ρ p := by cases p; first | rfl | (unfold mIsis; rfl) | (unfold mIsis; exact congrFun (congrFun (congrArg _ (funext fun d => by cases d <;> rfl)) _) _)
@[simp] theorem ev_mIsN (m) : mIsN m ρ p = mbind m (fun x => if noPot x = true then mret (isNon x) else mstuck) ρ p := by cases p; first | rfl | (unfold mIsN; rfl) | (unfold mIsN; exact congrFun (congrFun (congrArg _ (funext fun d => by cases d <;> rfl)) _) _)
@[simp] theorem ev_mNotN (m) : mNotN m ρ p = mbind m (fun x => if noPot x = true then mret (!isNon x) else mstuck) ρ p := by cases p; first | rfl | (unfold mNotN; rfl) | (unfold mNotN; exact congrFun (congrFun (congrArg _ (funext fun d => by cases d <;> rfl)) _) _)
@[simp] theorem ev_mChain (f g) (ma mb mc) : mChain f g ma mb mc ρ p = mbind ma (fun x => mbind mb fun y => mbind (mopt (dI2b f x y)) fun k => if k = true then mbind mc fun z => mopt (dI2b g y z) else mret false) ρ p := by cases p; first | rfl | (unfold mChain; rfl) | (unfold mChain; exact congrFun (congrFun (congrArg _ (funext fun d => by cases d <;> rfl)) _) _)
@[simp] theorem ev_mSeq (m) : mSeq m ρ p = mbind m seqD ρ p := by cases p; first | rfl | (unfold mSeq; rfl) | (unfold mSeq; exact congrFun (congrFun (congrArg _ (funext fun d => by cases d <;> rfl)) _) _)
@[simp] theorem ev_mRange1 (ms) : mRange1 ms ρ p = mbind ms (fun ds => mopt (dRange1 ds)) ρ p := by cases p; first | rfl | (unfold mRange1; rfl) | (unfold mRange1; exact congrFun (congrFun (congrArg _ (funext fun d => by cases d <;> rfl)) _) _)
@[simp] theorem ev_mRange2 (ms) : mRange2 ms ρ p = mbind ms (fun ds => mopt (dRange2 ds)) ρ p := by cases p; first | rfl | (unfold mRange2; rfl) | (unfold mRange2; exact congrFun (congrFun (congrArg _ (funext fun d => by cases d <;> rfl)) _) _)
@[simp] theorem ev_muV (ma) (ms) : muV ma ms ρ p = mbind ma (fun d => mbind ms fun ws => mret (.val d :: ws)) ρ p := by cases p; first | rfl | (unfold muV; rfl) | (unfold muV; exact congrFun (congrFun (congrArg _ (funext fun d => by cases d <;> rfl)) _) _)
@[simp] theorem ev_muO (ma) (ms) : muO ma ms ρ p = mbind ma (fun d => mbind ms fun ws => mret (.own d :: ws)) ρ p := by cases p; first | rfl | (unfold muO; rfl) | (unfold muO; exact congrFun (congrFun (congrArg _ (funext fun d => by cases d <;> rfl)) _) _)
@[simp] theorem ev_mFn (G : Fn) (n m : Nat) (ix) (ms mk) : mFn G n m ix ms mk ρ p = mbind ms (fun ds => mbind mk fun es _ p => if ds.length = n ∧ es.length = m then outFn (fun d _ => some d) (G (permL ix (ds ++ es)) p) else .stuck) ρ p := by cases p; first | rfl | (unfold mFn; rfl) | (unfold mFn; exact congrFun (congrFun (congrArg _ (funext fun d => by cases d <;> rfl)) _) _)
@[simp] theorem ev_mFno (G : Fn) (n m : Nat) (ix) (ms mk) : mFno G n m ix ms mk ρ p = mbind ms (fun ds => mbind mk fun es _ p => if ds.length = n ∧ es.length = m then outFn frOf (G (permL ix (ds ++ es)) p) else .stuck) ρ p := by cases p; first | rfl | (unfold mFno; rfl) | (unfold mFno; exact congrFun (congrFun (congrArg _ (funext fun d => by cases d <;> rfl)) _) _)
@[simp] theorem ev_ixAny_lst (xs) (y) : ixAny (.lst xs) y ρ p = mopt (dIx (.lst xs) y) ρ p := by cases p; first | rfl | (unfold ixAny; rfl) | (unfold ixAny; exact congrFun (congrFun (congrArg _ (funext fun d => by cases d <;> rfl)) _) _)
@[simp] theorem ev_ixAny_tup (xs) (y) : ixAny (.tup xs) y ρ p = mopt (dIx (.tup xs) y) ρ p := by cases p; first | rfl | (unfold ixAny; rfl) | (unfold ixAny; exact congrFun (congrFun (congrArg _ (funext fun d => by cases d <;> rfl)) _) _)
@[simp] theorem ev_ixAny_scr (xs) (y) : ixAny (.scr xs) y ρ p = mopt (dIx (.scr xs) y) ρ p := by cases p; first | rfl | (unfold ixAny; rfl) | (unfold ixAny; exact congrFun (congrFun (congrArg _ (funext fun d => by cases d <;> rfl)) _) _)
@[simp] theorem ev_ixAny_str (xs) (y) : ixAny (.str xs) y ρ p = mopt (dIx (.str xs) y) ρ p := by cases p; first | rfl | (unfold ixAny; rfl) | (unfold ixAny; exact congrFun (congrFun (congrArg _ (funext fun d => by cases d <;> rfl)) _) _)
@[simp] theorem ev_seqD_lst (xs) : seqD (.lst xs) ρ p = Res.ok xs p := by cases p; first | rfl | (unfold seqD; rfl) | (unfold seqD; exact congrFun (congrFun (congrArg _ (funext fun d => by cases d <;> rfl)) _) _)
@[simp] theorem ev_seqD_tup (xs) : seqD (.tup xs) ρ p = Res.ok xs p := by cases p; first | rfl | (unfold seqD; rfl) | (unfold seqD; exact congrFun (congrFun (congrArg _ (funext fun d => by cases d <;> rfl)) _) _)
@[simp] theorem ev_mT (m) : mT m ρ p = mbind m (fun d => blK d mret) ρ p := by cases p; first | rfl | (unfold mT; rfl) | (unfold mT; exact congrFun (congrFun (congrArg _ (funext fun d => by cases d <;> rfl)) _) _)
@[simp] theorem ev_mAndV (t u) : mAndV t u ρ p = mbind t (fun d => blK d fun k => if k = true then u else mret (.bl false)) ρ p := by cases p; first | rfl | (unfold mAndV; rfl) | (unfold mAndV; exact congrFun (congrFun (congrArg _ (funext fun d => by cases d <;> rfl)) _) _)
@[simp] theorem ev_mOrV (t u) : mOrV t u ρ p = mbind t (fun d => blK d fun k => if k = true then mret (.bl true) else u) ρ p := by cases p; first | rfl | (unfold mOrV; rfl) | (unfold mOrV; exact congrFun (congrFun (congrArg _ (funext fun d => by cases d <;> rfl)) _) _)
@[simp] theorem ev_mNotV (t) : mNotV t ρ p = mbind t (fun d => blK d fun k => mret (.bl (!k))) ρ p := by cases p; first | rfl | (unfold mNotV; rfl) | (unfold mNotV; exact congrFun (congrFun (congrArg _ (funext fun d => by cases d <;> rfl)) _) _)
@[simp] theorem ev_mPart (t) : mPart t ρ p = mbind t (fun d => inK d fun i => mret (some i)) ρ p := by cases p; first | rfl | (unfold mPart; rfl) | (unfold mPart; exact congrFun (congrFun (congrArg _ (funext fun d => by cases d <;> rfl)) _) _)
@[simp] theorem ev_mYes  : mYes ρ p = Res.ok true p := by cases p; first | rfl | (unfold mYes; rfl) | (unfold mYes; exact congrFun (congrFun (congrArg _ (funext fun d => by cases d <;> rfl)) _) _)
@[simp] theorem ev_cskip  : cskip ρ p = SRes.nx ρ p := by cases p; first | rfl | (unfold cskip; rfl) | (unfold cskip; exact congrFun (congrFun (congrArg _ (funext fun d => by cases d <;> rfl)) _) _)
@[simp] theorem ev_cbrk  : cbrk ρ p = SRes.bk ρ p := by cases p; first | rfl | (unfold cbrk; rfl) | (unfold cbrk; exact congrFun (congrFun (congrArg _ (funext fun d => by cases d <;> rfl)) _) _)
@[simp] theorem ev_ccnt  : ccnt ρ p = SRes.ct ρ p := by cases p; first | rfl | (unfold ccnt; rfl) | (unfold ccnt; exact congrFun (congrFun (congrArg _ (funext fun d => by cases d <;> rfl)) _) _)
@[simp] theorem ev_cstuck  : cstuck ρ p = SRes.stuck := by cases p; first | rfl | (unfold cstuck; rfl) | (unfold cstuck; exact congrFun (congrFun (congrArg _ (funext fun d => by cases d <;> rfl)) _) _)
@[simp] theorem ev_cretN  : cretN ρ p = SRes.rt .non false p := by cases p; first | rfl | (unfold cretN; rfl) | (unfold cretN; exact congrFun (congrFun (congrArg _ (funext fun d => by cases d <;> rfl)) _) _)
@[simp] theorem ev_cseq (a b : C) : cseq a b ρ p = (a ρ p).andC b := by cases p; first | rfl | (unfold cseq; rfl) | (unfold cseq; exact congrFun (congrFun (congrArg _ (funext fun d => by cases d <;> rfl)) _) _)
@[simp] theorem ev_eout {α : Type} (m : M α) (k : α → C) : eout m k ρ p = (m ρ p).andS ρ (kC k ρ) := by cases p; first | rfl | (unfold eout; rfl) | (unfold eout; exact congrFun (congrFun (congrArg _ (funext fun d => by cases d <;> rfl)) _) _)
@[simp] theorem ev_cexpr (m) : cexpr m ρ p = eout m (fun _ => cskip) ρ p := by cases p; first | rfl | (unfold cexpr; rfl) | (unfold cexpr; exact congrFun (congrFun (congrArg _ (funext fun d => by cases d <;> rfl)) _) _)
@[simp] theorem ev_cret (m) : cret m ρ p = eout m (fun d _ p => .rt d false p) ρ p := by cases p; first | rfl | (unfold cret; rfl) | (unfold cret; exact congrFun (congrFun (congrArg _ (funext fun d => by cases d <;> rfl)) _) _)
@[simp] theorem ev_creto (m) : creto m ρ p = eout m (fun d _ p => .rt (.lst d) true p) ρ p := by cases p; first | rfl | (unfold creto; rfl) | (unfold creto; exact congrFun (congrFun (congrArg _ (funext fun d => by cases d <;> rfl)) _) _)
@[simp] theorem ev_cif (t a b) : cif t a b ρ p = eout t (fun k => if k = true then a else b) ρ p := by cases p; first | rfl | (unfold cif; rfl) | (unfold cif; exact congrFun (congrFun (congrArg _ (funext fun d => by cases d <;> rfl)) _) _)
@[simp] theorem ev_casg (i m) : casg i m ρ p = eout m (fun d ρ p => .nx (ρ.set i (some (.val d))) p) ρ p := by cases p; first | rfl | (unfold casg; rfl) | (unfold casg; exact congrFun (congrFun (congrArg _ (funext fun d => by cases d <;> rfl)) _) _)
@[simp] theorem ev_caso (i m) : caso i m ρ p = eout m (fun d ρ p => .nx (ρ.set i (some (.own d))) p) ρ p := by cases p; first | rfl | (unfold caso; rfl) | (unfold caso; exact congrFun (congrFun (congrArg _ (funext fun d => by cases d <;> rfl)) _) _)
@[simp] theorem ev_casgW (is m) : casgW is m ρ p = eout m (fun ws ρ p => if ws.length = is.length then .nx (setsS is ws ρ) p else .stuck) ρ p := by cases p; first | rfl | (unfold casgW; rfl) | (unfold casgW; exact congrFun (congrFun (congrArg _ (funext fun d => by cases d <;> rfl)) _) _)
@[simp] theorem ev_rd (i : Nat) : rd i ρ p = rdO ρ[i]? p := by
  unfold rd rdO
  cases ρ[i]? with
  | none => rfl
  | some o =>
    cases o with
    | none => rfl
    | some w => cases w <;> rfl
@[simp] theorem ev_pot0 : ixAny (.pot p.g) (.int 0) ρ p = .ok (.int p.a) p := by simp [ixAny, ixPot]
@[simp] theorem ev_pot1 : ixAny (.pot p.g) (.int 1) ρ p = .ok (.int p.b) p := by simp [ixAny, ixPot]
@[simp] theorem ev_outFn {α : Type} (f : D → Bool → Option α) (d : D) (fr : Bool) (p : Pst) : outFn f (.ok d fr p) = (match f d fr with | some a => .ok a p | none => .stuck) := rfl
@[simp] theorem ev_permL_nil {α : Type} (l : List α) : permL [] l = [] := rfl
@[simp] theorem ev_permL_cons {α : Type} (i : Nat) (ix : List Nat) (l : List α) : permL (i :: ix) l = (match l[i]? with | some x => x :: permL ix l | none => permL ix l) := by
  unfold permL
  rw [List.filterMap_cons]
  cases l[i]? <;> rfl
@[simp] theorem ev_frOf (ds : List D) : frOf (.lst ds) true = some ds := rfl
@[simp] theorem ev_sets_nil (ws : List W) : setsS [] ws ρ = ρ := by cases ws <;> rfl
@[simp] theorem ev_sets_cons (i : Nat) (is : List Nat) (w : W) (ws : List W) : setsS (i :: is) (w :: ws) ρ = setsS is ws (ρ.set i (some w)) := rfl
theorem ev_fres {n k : Nat} {c : C} {ds : List D} (h : ds.length = k) : fres n k c ds p = sres (c (ds.map (fun d => some (W.val d)) ++ List.replicate (n - k) none) p) := by unfold fres; rw [if_pos h]
@[simp] theorem ev_sres_nx : sres (.nx ρ p) = .ok .non false p := rfl
@[simp] theorem ev_sres_rt (d : D) (fr : Bool) : sres (.rt d fr p) = .ok d fr p := rfl
end
/-! ### operators on data -/
@[simp] theorem dAdd_int (i j : Int) : dAdd (.int i) (.int j) = some (.int (i + j)) := rfl
@[simp] theorem dSub_int (i j : Int) : dSub (.int i) (.int j) = some (.int (i - j)) := rfl
theorem dMul_int {i j : Int} (h : i.natAbs < 2 ^ 64 ∨ j.natAbs < 2 ^ 64) : dMul (.int i) (.int j) = some (.int (i * j)) := by
  have : okMul i j = true := by simpa [okMul] using h
  simp [dMul, dMulI, dI2c, this]
theorem dMod_int {i j : Int} (h : 0 < j) : dMod (.int i) (.int j) = some (.int (i % j)) := by
  have : j ≠ 0 := by omega
  simp [dMod, dI2c, this, Int.fmod_eq_emod_of_nonneg _ (Int.le_of_lt h)]
theorem dDiv_int {i j : Int} (h : 0 < j) (h2 : j < 1073741824) : dDiv (.int i) (.int j) = some (.int (i / j)) := by
  have h3 : j ≠ 0 := by omega
  have h4 : j.natAbs < 1073741824 := by omega
  simp [dDiv, dI2c, okDiv, h3, h4, Int.fdiv_eq_ediv_of_nonneg _ (Int.le_of_lt h)]
theorem dPow_int {i j : Int} (h : 0 ≤ j) (h2 : j ≤ 1000000) (h3 : i.natAbs < 2 ^ 64) : dPow (.int i) (.int j) = some (.int (i ^ j.toNat)) := by
  simp [dPow, dI2c, okPow, h, h2, h3]
@[simp] theorem dNeg_int (i : Int) : dNeg (.int i) = some (.int (-i)) := rfl
@[simp] theorem dLt_int (i j : Int) : dLt (.int i) (.int j) = some (decide (i < j)) := rfl
@[simp] theorem dLe_int (i j : Int) : dLe (.int i) (.int j) = some (decide (i ≤ j)) := rfl
@[simp] theorem dGt_int (i j : Int) : dGt (.int i) (.int j) = some (decide (j < i)) := rfl
@[simp] theorem dGe_int (i j : Int) : dGe (.int i) (.int j) = some (decide (j ≤ i)) := rfl
@[simp] theorem dI2b_int (f : Int → Int → Bool) (i j : Int) : dI2b f (.int i) (.int j) = some (f i j) := rfl
@[simp] theorem dEq_int (i j : Int) : dEq (.int i) (.int j) = some (decide (i = j)) := rfl
@[simp] theorem dNe_int (i j : Int) : dNe (.int i) (.int j) = some (!decide (i = j)) := rfl
@[simp] theorem dEq_str (i j : Str) : dEq (.str i) (.str j) = some (decide (i = j)) := rfl
@[simp] theorem dNe_str (i j : Str) : dNe (.str i) (.str j) = some (!decide (i = j)) := rfl
@[simp] theorem dIsB_bl (i j : Bool) : dIsB (.bl i) (.bl j) = some (decide (i = j)) := rfl
@[simp] theorem dNotB_bl (i j : Bool) : dNotB (.bl i) (.bl j) = some (!decide (i = j)) := rfl
@[simp] theorem dInt_int (i : Int) : dInt [.int i] = some (.int i) := rfl
@[simp] theorem dInt_bl (b : Bool) : dInt [.bl b] = some (.int (if b then 1 else 0)) := rfl
theorem dLen_lst (xs : List D) : dLen [.lst xs] = some (.int xs.length) := rfl
theorem dLen_tup (xs : List D) : dLen [.tup xs] = some (.int xs.length) := rfl
theorem dLen_scr (xs : List Int) : dLen [.scr xs] = some (.int xs.length) := rfl
@[simp] theorem dAbs_int (i : Int) : dAbs [.int i] = some (.int (if i < 0 then -i else i)) := rfl
@[simp] theorem dMax2_int (i j : Int) : dMax2 [.int i, .int j] = some (.int (if j > i then j else i)) := rfl
@[simp] theorem dMin2_int (i j : Int) : dMin2 [.int i, .int j] = some (.int (if j < i then j else i)) := rfl
theorem dDivmod_int {i j : Int} (h : 0 < j) (h2 : j < 1073741824) : dDivmod [.int i, .int j] = some (.tup [.int (i / j), .int (i % j)]) := by simp [dDivmod, h, h2]
theorem dIx_lst {xs : List D} {k : Nat} {d : D} (h : xs[k]? = some d) : dIx (.lst xs) (.int k) = some d := by
  have hk : k < xs.length := (List.getElem?_eq_some_iff.mp h).1
  have h1 : (k : Int) < (xs.length : Int) := by omega
  simp only [dIx, atI, ixN]
  rw [if_pos (by omega), if_pos h1]
  simpa using h
theorem dIx_tup {xs : List D} {k : Nat} {d : D} (h : xs[k]? = some d) : dIx (.tup xs) (.int k) = some d := dIx_lst (xs := xs) h
@[simp] theorem noPot_non : noPot .non = true := by simp [noPot]
@[simp] theorem noPot_bl (b : Bool) : noPot (.bl b) = true := by simp [noPot]
@[simp] theorem noPot_int (b : Int) : noPot (.int b) = true := by simp [noPot]
@[simp] theorem noPot_str (b : Str) : noPot (.str b) = true := by simp [noPot]
@[simp] theorem noPot_lst (b : List D) : noPot (.lst b) = true := by simp [noPot]
@[simp] theorem noPot_tup (b : List D) : noPot (.tup b) = true := by simp [noPot]
@[simp] theorem noPot_scr (b : List Int) : noPot (.scr b) = true := by simp [noPot]
@[simp] theorem noPot_emp : noPot .emp = true := by simp [noPot]
@[simp] theorem isNon_non : isNon .non = true := by simp [isNon]
@[simp] theorem isNon_bl (b : Bool) : isNon (.bl b) = false := by simp [isNon]
@[simp] theorem isNon_int (b : Int) : isNon (.int b) = false := by simp [isNon]
@[simp] theorem isNon_str (b : Str) : isNon (.str b) = false := by simp [isNon]
@[simp] theorem isNon_lst (b : List D) : isNon (.lst b) = false := by simp [isNon]
@[simp] theorem isNon_tup (b : List D) : isNon (.tup b) = false := by simp [isNon]
end PF

namespace PF
open PySem PySem.Spec PyProof.Rows L2

/-! ### rules for loops and comprehensions -/
theorem lcGo_pure {f : D → Sl → Option Sl} {tt : M Bool} {el : M D} {ρ : Sl} {p : Pst} (b : D → Bool) (g : D → D) : ∀ items : List D, (∀ d ∈ items, ∃ ρ1, f d ρ = some ρ1 ∧ tt ρ1 p = .ok (b d) p ∧ (b d = true → el ρ1 p = .ok (g d) p)) → lcGo f tt el items ρ p = .ok ((items.filter b).map g) p
  | [], _ => rfl
  | d :: ds, h => by
    obtain ⟨ρ1, e1, e2, e3⟩ := h d List.mem_cons_self
    have ih := lcGo_pure b g ds fun d hd => h d (List.mem_cons_of_mem _ hd)
    simp only [lcGo, e1, e2]
    cases hb : b d with
    | false => simp [ih, hb]
    | true => simp [ih, hb, e3 hb]
theorem mLc_pure {vs : List Nat} {mi : M (List D)} {f : D → Sl → Option Sl} {tt : M Bool} {el : M D} {ρ : Sl} {p p1 : Pst} {items : List D} (hi : mi ρ p = .ok items p1) (b : D → Bool) (g : D → D)
    (h : ∀ d ∈ items, ∃ ρ1, f d (wipeS ρ vs) = some ρ1 ∧ tt ρ1 p1 = .ok (b d) p1 ∧ (b d = true → el ρ1 p1 = .ok (g d) p1)) : mLc vs mi f tt el ρ p = .ok ((items.filter b).map g) p1 := by
  unfold mLc
  rw [ev_mbind, hi, andThen_ok, kM_ap]
  simp only [lcGo_pure b g items h]
theorem filter_map_rg (lo : Int) (n : Nat) (b : Nat → Bool) (g : Nat → D) (b' : D → Bool) (g' : D → D) (h : ∀ k, k < n → b' (.int (lo + k)) = b k ∧ (b k = true → g' (.int (lo + k)) = g k)) : ((rgL lo n).filter b').map g' = ((List.range n).filter b).map g := by
  unfold rgL
  rw [List.filter_map, List.map_map]
  have e1 : (List.range n).filter (b' ∘ fun (k : Nat) => D.int (lo + k)) = (List.range n).filter b := List.filter_congr fun k hk => (h k (List.mem_range.mp hk)).1
  rw [e1]
  refine List.map_congr_left fun k hk => ?_
  obtain ⟨h1, h2⟩ := List.mem_filter.mp hk
  exact (h k (List.mem_range.mp h1)).2 h2
/-- a comprehension over a range -/
theorem mLc_rng {i n : Nat} {lo : Int} {mi : M (List D)} {tt : M Bool} {el : M D} {ρ : Sl} {p p1 : Pst} (hi : mi ρ p = .ok (rgL lo n) p1) (b : Nat → Bool) (g : Nat → D)
    (h : ∀ k, k < n → tt ((wipeS ρ [i]).set i (some (.val (.int (lo + k))))) p1 = .ok (b k) p1 ∧ (b k = true → el ((wipeS ρ [i]).set i (some (.val (.int (lo + k))))) p1 = .ok (g k) p1)) : mLc [i] mi (fName i) tt el ρ p = .ok (((List.range n).filter b).map g) p1 := by
  unfold mLc
  rw [ev_mbind, hi, andThen_ok, kM_ap]
  have key : ∀ l : List Nat, (∀ k ∈ l, k < n) → lcGo (fName i) tt el (l.map fun (k : Nat) => D.int (lo + k)) (wipeS ρ [i]) p1 = .ok ((l.filter b).map g) p1 := by
    intro l
    induction l with
    | nil => intro _; rfl
    | cons k l ih =>
      intro hl
      obtain ⟨h1, h2⟩ := h k (hl k List.mem_cons_self)
      have ih' := ih fun k hk => hl k (List.mem_cons_of_mem _ hk)
      simp only [List.map_cons, lcGo, fName, h1]
      cases hb : b k with
      | false => simp [ih', hb, fName]
      | true => simp [ih', hb, h2 hb, fName]
  have := key (List.range n) fun k hk => List.mem_range.mp hk
  unfold rgL
  simp only [this]
theorem filter_yes {α : Type} (l : List α) : l.filter (fun _ => true) = l := List.filter_eq_self.mpr fun _ _ => rfl
theorem mLc_rngY {i n : Nat} {lo : Int} {mi : M (List D)} {el : M D} {ρ : Sl} {p p1 : Pst} (hi : mi ρ p = .ok (rgL lo n) p1) (g : Nat → D)
    (h : ∀ k, k < n → el ((wipeS ρ [i]).set i (some (.val (.int (lo + k))))) p1 = .ok (g k) p1) : mLc [i] mi (fName i) mYes el ρ p = .ok ((List.range n).map g) p1 := by
  have := mLc_rng (i := i) (tt := mYes) hi (fun _ => true) g fun k hk => ⟨rfl, fun _ => h k hk⟩
  rwa [filter_yes] at this
/-- a comprehension over a list of data, one name -/
theorem mLc_lst {i : Nat} {mi : M (List D)} {tt : M Bool} {el : M D} {ρ : Sl} {p p1 : Pst} {items : List D} (hi : mi ρ p = .ok items p1) (b : D → Bool) (g : D → D)
    (h : ∀ d ∈ items, tt ((wipeS ρ [i]).set i (some (.val d))) p1 = .ok (b d) p1 ∧ (b d = true → el ((wipeS ρ [i]).set i (some (.val d))) p1 = .ok (g d) p1)) : mLc [i] mi (fName i) tt el ρ p = .ok ((items.filter b).map g) p1 :=
  mLc_pure hi b g fun d hd => ⟨_, rfl, (h d hd).1, (h d hd).2⟩
/-- items of a mapped list -/
theorem mLc_map {α : Type} {i : Nat} {mi : M (List D)} {tt : M Bool} {el : M D} {ρ : Sl} {p p1 : Pst} {xs : List α} {c : α → D} (hi : mi ρ p = .ok (xs.map c) p1) (b : α → Bool) (g : α → D)
    (h : ∀ x ∈ xs, tt ((wipeS ρ [i]).set i (some (.val (c x)))) p1 = .ok (b x) p1 ∧ (b x = true → el ((wipeS ρ [i]).set i (some (.val (c x)))) p1 = .ok (g x) p1)) : mLc [i] mi (fName i) tt el ρ p = .ok ((xs.filter b).map g) p1 := by
  unfold mLc
  rw [ev_mbind, hi, andThen_ok, kM_ap]
  have key : ∀ l : List α, (∀ x ∈ l, x ∈ xs) → lcGo (fName i) tt el (l.map c) (wipeS ρ [i]) p1 = .ok ((l.filter b).map g) p1 := by
    intro l
    induction l with
    | nil => intro _; rfl
    | cons k l ih =>
      intro hl
      obtain ⟨h1, h2⟩ := h k (hl k List.mem_cons_self)
      have ih' := ih fun k hk => hl k (List.mem_cons_of_mem _ hk)
      simp only [List.map_cons, lcGo, fName, h1]
      cases hb : b k with
      | false => simp [ih', hb, fName]
      | true => simp [ih', hb, h2 hb, fName]
  simp only [key xs fun _ h => h]
theorem mLc_mapY {α : Type} {i : Nat} {mi : M (List D)} {el : M D} {ρ : Sl} {p p1 : Pst} {xs : List α} {c : α → D} (hi : mi ρ p = .ok (xs.map c) p1) (g : α → D)
    (h : ∀ x ∈ xs, el ((wipeS ρ [i]).set i (some (.val (c x)))) p1 = .ok (g x) p1) : mLc [i] mi (fName i) mYes el ρ p = .ok (xs.map g) p1 := by
  have := mLc_map (i := i) (tt := mYes) hi (fun _ => true) g fun x hx => ⟨rfl, fun _ => h x hx⟩
  rwa [filter_yes] at this
theorem dRange1_nat (n : Nat) (h : n ≤ 16000000) : dRange1 [.int (n : Int)] = some (rgL 0 n) := by
  show (if _ then _ else _) = _
  rw [if_pos ⟨by omega, by omega⟩, Int.toNat_natCast]
/-- a comprehension whose element draws: an invariant of the pot, a property of each item -/
theorem lcGo_draw {f : D → Sl → Option Sl} {el : M D} {ρ : Sl} (I : Pst → Prop) (R : D → D → Prop) : ∀ (items : List D) (p : Pst), I p → (∀ d ∈ items, ∀ p, I p → ∃ ρ1, f d ρ = some ρ1 ∧ ∃ y p', el ρ1 p = .ok y p' ∧ I p' ∧ R d y) → ∃ ys p', lcGo f mYes el items ρ p = .ok ys p' ∧ I p' ∧ AllR R items ys
  | [], p, hp, _ => ⟨[], p, rfl, hp, .nil⟩
  | d :: ds, p, hp, h => by
    obtain ⟨ρ1, e1, y, p1, e2, hp1, r⟩ := h d List.mem_cons_self p hp
    obtain ⟨ys, p2, e3, hp2, rs⟩ := lcGo_draw I R ds p1 hp1 fun d hd => h d (List.mem_cons_of_mem _ hd)
    refine ⟨y :: ys, p2, ?_, hp2, .cons r rs⟩
    simp only [lcGo, e1, ev_mYes, e2, e3]
theorem mLc_draw {vs : List Nat} {mi : M (List D)} {f : D → Sl → Option Sl} {el : M D} {ρ : Sl} {p p1 : Pst} {items : List D} (hi : mi ρ p = .ok items p1) (I : Pst → Prop) (R : D → D → Prop) (hp : I p1)
    (h : ∀ d ∈ items, ∀ p, I p → ∃ ρ1, f d (wipeS ρ vs) = some ρ1 ∧ ∃ y p', el ρ1 p = .ok y p' ∧ I p' ∧ R d y) : ∃ ys p', mLc vs mi f mYes el ρ p = .ok ys p' ∧ I p' ∧ AllR R items ys := by
  obtain ⟨ys, p2, e, h2, h3⟩ := lcGo_draw I R items p1 hp h
  refine ⟨ys, p2, ?_, h2, h3⟩
  unfold mLc
  rw [ev_mbind, hi, andThen_ok, kM_ap]
  simp only [e]
/-- for -/
theorem cforGo_rule {G : D → Sl → Pst → Option (Sl × Pst)} {body : C} (Q : SRes → Prop) : ∀ (items : List D) (I : Nat → Sl → Pst → Prop) (ρ : Sl) (p : Pst), I 0 ρ p →
    (∀ i d ρ p, items[i]? = some d → I i ρ p → ∃ ρ1 p1, G d ρ p = some (ρ1, p1) ∧ (match body ρ1 p1 with | .nx ρ' p' => I (i + 1) ρ' p' | .ct ρ' p' => I (i + 1) ρ' p' | .bk ρ' p' => Q (.nx ρ' p') | .stuck => False | r => Q r)) →
    (∀ ρ p, I items.length ρ p → Q (.nx ρ p)) → Q (cforGo G body items ρ p)
  | [], I, ρ, p, h0, _, hd => hd ρ p h0
  | d :: ds, I, ρ, p, h0, hs, hd => by
    obtain ⟨ρ1, p1, e, hb⟩ := hs 0 d ρ p rfl h0
    simp only [cforGo, e]
    have again : ∀ ρ' p', I 1 ρ' p' → Q (cforGo G body ds ρ' p') := fun ρ' p' h => cforGo_rule Q ds (fun i => I (i + 1)) ρ' p' h (fun i d ρ p hi hI => hs (i + 1) d ρ p (by simpa using hi) hI) fun ρ p h => hd ρ p h
    cases q : body ρ1 p1 with
    | nx ρ' p' => rw [q] at hb; exact again ρ' p' hb
    | ct ρ' p' => rw [q] at hb; exact again ρ' p' hb
    | bk ρ' p' => rw [q] at hb; exact hb
    | rt d fr p' => rw [q] at hb; exact hb
    | exc x ρ' p' => rw [q] at hb; exact hb
    | stuck => rw [q] at hb; exact hb.elim
/-- while, by a measure -/
theorem cwhile_rule {mt : M Bool} {body : C} (Q : SRes → Prop) (I : Sl → Pst → Prop) (μ : Sl → Pst → Nat)
    (step : ∀ ρ p, I ρ p → ∃ k p1, mt ρ p = .ok k p1 ∧ (k = false → Q (.nx ρ p1)) ∧ (k = true → (match body ρ p1 with | .nx ρ' p' => I ρ' p' ∧ μ ρ' p' < μ ρ p | .ct ρ' p' => I ρ' p' ∧ μ ρ' p' < μ ρ p | .bk ρ' p' => Q (.nx ρ' p') | .stuck => False | r => Q r))) :
    ∀ (n : Nat) (ρ : Sl) (p : Pst), I ρ p → μ ρ p < n → Q (cwhile mt body n ρ p)
  | 0, ρ, p, _, h => absurd h (Nat.not_lt_zero _)
  | n + 1, ρ, p, hI, hm => by
    obtain ⟨k, p1, e, h0, h1⟩ := step ρ p hI
    simp only [cwhile, ev_eout, e, andS_ok, kC_ap]
    cases k with
    | false => simpa using h0 rfl
    | true =>
      have hb := h1 rfl
      simp only [if_true]
      cases q : body ρ p1 with
      | nx ρ' p' =>
        rw [q] at hb
        exact cwhile_rule Q I μ step n ρ' p' hb.1 (by have := hb.2; omega)
      | ct ρ' p' =>
        rw [q] at hb
        exact cwhile_rule Q I μ step n ρ' p' hb.1 (by have := hb.2; omega)
      | bk ρ' p' => rw [q] at hb; exact hb
      | rt d fr p' => rw [q] at hb; exact hb
      | exc x ρ' p' => rw [q] at hb; exact hb
      | stuck => rw [q] at hb; exact hb.elim
/-- while, by the number of turns: s the states turn by turn -/
theorem cwhile_step {mt : M Bool} {body : C} {n : Nat} {ρ ρ' : Sl} {p p1 p' : Pst} (h : mt ρ p = .ok true p1) (h2 : body ρ p1 = .nx ρ' p') : cwhile mt body (n + 1) ρ p = cwhile mt body n ρ' p' := by
  simp [cwhile, h, h2]
theorem cwhile_end {mt : M Bool} {body : C} {n : Nat} {ρ : Sl} {p p1 : Pst} (h : mt ρ p = .ok false p1) : cwhile mt body (n + 1) ρ p = .nx ρ p1 := by
  simp [cwhile, h]

/-! ### the pot -/
structure Good (g : Nat) (p : Pst) : Prop where
  g : p.g = g
  a : 0 ≤ p.a
  b : 0 ≤ p.b
  bl : p.b < 4294967296
/-- _law_draw, with its numbers -/
def drawC (A B M1 M2 S : Int) : C := cseq (cif (mCmp dGt (mIx (rd 0) (mret (.int 0))) (mret (.int 0))) (cseq (casgT (tgTup 2 (tgCons (tgSub 0 (mret (.int 0))) (tgCons (tgName 2) (tgNil)))) (mCall dDivmod (mcons (mIx (rd 0) (mret (.int 0))) (mcons (rd 1) (mret []))))) (cret (rd 2))) (cskip)) (cseq (casgT (tgSub 0 (mret (.int 1))) (mOp dMod (mCall dInt (mcons (mOp dAdd (mOp dMul (mIx (rd 0) (mret (.int 1))) (mret (.int A))) (mret (.int B))) (mret []))) (mret (.int M1)))) (cret (mOp dMod (mCall dInt (mcons (mOp dDiv (mOp dMod (mCall dInt (mcons (mOp dMul (mIx (rd 0) (mret (.int 1))) (mIx (rd 0) (mret (.int 1)))) (mret []))) (mret (.int M2))) (mret (.int S))) (mret []))) (rd 1))))
theorem draw_ok {A B M1 M2 S : Int} (hM1 : 0 < M1) (hM1' : M1 ≤ 4294967296) (hM2 : 0 < M2) (hS : 0 < S) (hS' : S < 1073741824) {g : Nat} {m : Int} {p : Pst} (hm : 0 < m) (hm2 : m < 1073741824) (hp : Good g p) :
    ∃ d p', fres 3 2 (drawC A B M1 M2 S) [.pot g, .int m] p = .ok (.int d) false p' ∧ 0 ≤ d ∧ d < m ∧ Good g p' := by
  obtain ⟨rfl, h1, h2, h3⟩ := hp
  have en : fres 3 2 (drawC A B M1 M2 S) [.pot p.g, .int m] p = sres (drawC A B M1 M2 S [some (.val (.pot p.g)), some (.val (.int m)), none] p) := rfl
  rw [en]
  unfold drawC
  by_cases hc : 0 < p.a
  · refine ⟨p.a % m, ⟨p.g, p.a / m, p.b⟩, ?_, Int.emod_nonneg _ (by omega), Int.emod_lt_of_pos _ hm, rfl, Int.ediv_nonneg h1 (by omega), h2, h3⟩
    simp [hc, casgT, dDivmod_int hm hm2, tgTup, tgCons, tgSub, tgName, tgNil, setPot]
  · have q1 := Int.emod_nonneg (p.b * A + B) (show M1 ≠ 0 by omega)
    have q2 := Int.emod_lt_of_pos (p.b * A + B) hM1
    refine ⟨((p.b * A + B) % M1 * ((p.b * A + B) % M1)) % M2 / S % m, ⟨p.g, p.a, (p.b * A + B) % M1⟩, ?_, Int.emod_nonneg _ (by omega), Int.emod_lt_of_pos _ hm, rfl, h1, q1, (by show (p.b * A + B) % M1 < 4294967296; omega)⟩
    have e1 : dMul (.int p.b) (.int A) = some (.int (p.b * A)) := dMul_int (.inl (by omega))
    have e2 : dMul (.int ((p.b * A + B) % M1)) (.int ((p.b * A + B) % M1)) = some (.int ((p.b * A + B) % M1 * ((p.b * A + B) % M1))) := dMul_int (.inl (by omega))
    have e3 : ∀ (q : Pst) (ρ : Sl), q.g = p.g → ixAny (.pot p.g) (.int 1) ρ q = .ok (.int q.b) q := fun q ρ h => by rw [← h]; exact ev_pot1
    simp [hc, casgT, tgSub, setPot, e1, e2, e3, dMod_int hM1, dMod_int hM2, dMod_int hm, dDiv_int hS hS']
/-- _law_pick -/
def pickC (dr : Fn) : C := cret (mOp dIx (rd 1) (mFn dr 2 0 [0, 1] (mcons (rd 0) (mcons (mCall dLen (mcons (rd 1) (mret []))) (mret []))) (mret [])))
theorem pick_ok {dr : Fn} (hd : ∀ {g : Nat} {m : Int} {p : Pst}, 0 < m → m < 1073741824 → Good g p → ∃ d p', dr [.pot g, .int m] p = .ok (.int d) false p' ∧ 0 ≤ d ∧ d < m ∧ Good g p') {g : Nat} {p : Pst} {xs : List D} (h0 : xs ≠ []) (hl : xs.length < 1073741824) (hp : Good g p) :
    ∃ d p', fres 2 2 (pickC dr) [.pot g, .lst xs] p = .ok d false p' ∧ d ∈ xs ∧ Good g p' := by
  have hpos : 0 < xs.length := List.length_pos_iff.mpr h0
  obtain ⟨i, p', e, h1, h2, h3⟩ := hd (m := (xs.length : Int)) (by omega) (by omega) hp
  have hi : i.toNat < xs.length := by omega
  have hx : xs[i.toNat]? = some xs[i.toNat] := by simp [hi]
  have hix : dIx (.lst xs) (.int i) = some xs[i.toNat] := by
    have := dIx_lst hx
    rwa [Int.toNat_of_nonneg h1] at this
  refine ⟨xs[i.toNat], p', ?_, List.getElem_mem _, h3⟩
  have en : fres 2 2 (pickC dr) [.pot g, .lst xs] p = sres (pickC dr [some (.val (.pot g)), some (.val (.lst xs))] p) := rfl
  rw [en]
  unfold pickC
  simp [dLen_lst, e, hix]
/-- _law_pot, the usual one -/
def potC (A B U V W M1 M2 Z : Int) : C := cseq (casg 2 (mIf (mCmp dLt (rd 1) (mCall dLen (mcons (rd 0) (mret [])))) (mCall dAbs (mcons (mOp dIx (rd 0) (rd 1)) (mret []))) (mOp dAdd (mOp dMul (mret (.int A)) (rd 1)) (mret (.int B))))) (cretpot (mcons (mCall dMax2 (mcons (mret (.int 0)) (mcons (mOp dSub (rd 2) (mOp dPow (mret (.int 10)) (mret (.int 18)))) (mret [])))) (mcons (mOp dAdd (mOp dMod (mCall dInt (mcons (mOp dAdd (mOp dAdd (mOp dMul (mOp dMod (mCall dInt (mcons (rd 2) (mret []))) (mret (.int M1))) (mret (.int U))) (mOp dMul (mret (.int V)) (rd 1))) (mret (.int W))) (mret []))) (mret (.int M2))) (mret (.int Z))) (mret []))))
theorem pot_ok {A B U V W M1 M2 Z : Int} (hM1 : 0 < M1) (hM1' : M1 ≤ 4294967296) (hM2 : 0 < M2) (hM2' : M2 + Z ≤ 4294967296) (hZ : 0 ≤ Z) (hA : A.natAbs < 2 ^ 64) (hV : V.natAbs < 2 ^ 64) {ns : List Int} {k : Nat} {p : Pst} :
    ∃ g p', fres 3 2 (potC A B U V W M1 M2 Z) [.scr ns, .int k] p = .ok (.pot g) false p' ∧ Good g p' := by
  have en : fres 3 2 (potC A B U V W M1 M2 Z) [.scr ns, .int k] p = sres (potC A B U V W M1 M2 Z [some (.val (.scr ns)), some (.val (.int k)), none] p) := rfl
  rw [en]
  obtain ⟨c, hc⟩ : ∃ c : Int, mIf (mCmp dLt (rd 1) (mCall dLen (mcons (rd 0) (mret [])))) (mCall dAbs (mcons (mOp dIx (rd 0) (rd 1)) (mret []))) (mOp dAdd (mOp dMul (mret (.int A)) (rd 1)) (mret (.int B))) [some (.val (.scr ns)), some (.val (.int k)), none] p = .ok (.int c) p := by
    by_cases h : k < ns.length
    · have h1 : (k : Int) < (ns.length : Int) := by omega
      have e : dIx (.scr ns) (.int k) = some (.int ns[k]) := by
        simp only [dIx, atI, ixN]
        rw [if_pos (by omega), if_pos h1]
        simp [h]
      exact ⟨if ns[k] < 0 then -ns[k] else ns[k], by simp [dLen_scr, h, e]⟩
    · exact ⟨A * k + B, by simp [dLen_scr, h, dMul_int (.inl hA)]⟩
  have q1 := Int.emod_nonneg (c % M1 * U + V * k + W) (show M2 ≠ 0 by omega)
  have q2 := Int.emod_lt_of_pos (c % M1 * U + V * k + W) hM2
  have q3 := Int.emod_nonneg c (show M1 ≠ 0 by omega)
  have q4 := Int.emod_lt_of_pos c hM1
  have e1 : dMul (.int (c % M1)) (.int U) = some (.int (c % M1 * U)) := dMul_int (.inl (by omega))
  have e2 : dMul (.int V) (.int k) = some (.int (V * k)) := dMul_int (.inl hV)
  have e3 : dPow (.int 10) (.int 18) = some (.int (10 ^ 18)) := dPow_int (by decide) (by decide) (by decide)
  refine ⟨p.g + 1, ⟨p.g + 1, if 0 < c - 10 ^ 18 then c - 10 ^ 18 else 0, (c % M1 * U + V * k + W) % M2 + Z⟩, ?_, rfl, ?_, ?_, ?_⟩
  · unfold potC
    rw [ev_cseq, ev_casg, ev_eout, hc]
    simp [cretpot, e1, e2, e3, dMod_int hM1, dMod_int hM2]
  · show 0 ≤ (if 0 < c - 10 ^ 18 then c - 10 ^ 18 else 0)
    split <;> omega
  · show 0 ≤ (c % M1 * U + V * k + W) % M2 + Z
    omega
  · show (c % M1 * U + V * k + W) % M2 + Z < 4294967296
    omega
end PF

namespace PF
open PySem PySem.Spec PyProof.Rows L2

/-! ### code that neither looks at the pot nor changes it -/
def Res.at {α : Type} (r : Res α) (q : Pst) : Res α := match r with
  | .ok a _ => .ok a q
  | .exc x _ => .exc x q
  | .stuck => .stuck
def SRes.at (r : SRes) (q : Pst) : SRes := match r with
  | .nx ρ _ => .nx ρ q
  | .rt d fr _ => .rt d fr q
  | .bk ρ _ => .bk ρ q
  | .ct ρ _ => .ct ρ q
  | .exc x ρ _ => .exc x ρ q
  | .stuck => .stuck
def FRes.at (r : FRes) (q : Pst) : FRes := match r with
  | .ok d fr _ => .ok d fr q
  | .exc x _ => .exc x q
  | .stuck => .stuck
def IM {α : Type} (m : M α) : Prop := ∀ ρ p q, m ρ q = (m ρ p).at q
def IC (c : C) : Prop := ∀ ρ p q, c ρ q = (c ρ p).at q
def IF (G : Fn) : Prop := ∀ ds p q, G ds q = (G ds p).at q
section
variable {α β : Type}
theorem im_ret (a : α) : IM (mret a) := fun _ _ _ => rfl
theorem im_stuck : IM (mstuck : M α) := fun _ _ _ => rfl
theorem im_opt (o : Option α) : IM (mopt o) := fun _ _ _ => by cases o <;> rfl
theorem im_bind {m : M α} {k : α → M β} (h : IM m) (hk : ∀ a, IM (k a)) : IM (mbind m k) := fun ρ p q => by
  rw [ev_mbind, ev_mbind, h ρ p q]
  cases e : m ρ p with
  | ok a p' =>
    simp only [Res.at]
    have : p' = p := by
      have := h ρ p p
      rw [e] at this
      simp only [Res.at, Res.ok.injEq] at this
      exact this.2
    subst this
    exact hk a ρ _ q
  | exc x p' => rfl
  | stuck => rfl
theorem im_rd (i : Nat) : IM (rd i) := fun ρ p q => by
  simp only [ev_rd]
  cases ρ[i]? with
  | none => rfl
  | some o =>
    cases o with
    | none => rfl
    | some w => cases w <;> rfl
theorem im_ite {c : Prop} [Decidable c] {m m' : M α} (h : IM m) (h' : IM m') : IM (if c then m else m') := by split <;> assumption
theorem im_op (f) {ma mb : M D} (ha : IM ma) (hb : IM mb) : IM (mOp f ma mb) := im_bind ha fun _ => im_bind hb fun _ => im_opt _
theorem im_opo (f) {ma mb : M D} (ha : IM ma) (hb : IM mb) : IM (mOpo f ma mb) := im_bind ha fun _ => im_bind hb fun _ => im_opt _
theorem im_cmp (f) {ma mb : M D} (ha : IM ma) (hb : IM mb) : IM (mCmp f ma mb) := im_bind ha fun _ => im_bind hb fun _ => im_opt _
theorem im_b {m : M Bool} (h : IM m) : IM (mB m) := im_bind h fun _ => im_ret _
theorem im_un (f) {ma : M D} (ha : IM ma) : IM (mUn f ma) := im_bind ha fun _ => im_opt _
theorem im_and {t u : M Bool} (h : IM t) (h' : IM u) : IM (mAnd t u) := im_bind h fun _ => im_ite h' (im_ret _)
theorem im_or {t u : M Bool} (h : IM t) (h' : IM u) : IM (mOr t u) := im_bind h fun _ => im_ite (im_ret _) h'
theorem im_not {t : M Bool} (h : IM t) : IM (mNot t) := im_bind h fun _ => im_ret _
theorem im_if {t : M Bool} {m m' : M α} (h : IM t) (h1 : IM m) (h2 : IM m') : IM (mIf t m m') := im_bind h fun _ => im_ite h1 h2
theorem im_frz {mo : M (List D)} (h : IM mo) : IM (mfrz mo) := im_bind h fun _ => im_ret _
theorem im_cons {ma : M D} {ms : M (List D)} (h : IM ma) (h' : IM ms) : IM (mcons ma ms) := im_bind h fun _ => im_bind h' fun _ => im_ret _
theorem im_lim {ms : M (List D)} (h : IM ms) : IM (mlim ms) := im_bind h fun _ => im_ite (im_ret _) im_stuck
theorem im_tup {ms : M (List D)} (h : IM ms) : IM (mtup ms) := im_bind h fun _ => im_ite (im_ret _) im_stuck
theorem im_call (f) {ms : M (List D)} (h : IM ms) : IM (mCall f ms) := im_bind h fun _ => im_opt _
theorem im_lst (f) {ms : M (List D)} (h : IM ms) : IM (mLst f ms) := im_bind h fun _ => im_opt _
theorem im_isi (t) {m : M D} (h : IM m) : IM (mIsi t m) := im_bind h fun _ => im_ite (im_ret _) im_stuck
theorem im_isis (t) {m : M D} (h : IM m) : IM (mIsis t m) := im_bind h fun _ => im_ite (im_ret _) im_stuck
theorem im_isN {m : M D} (h : IM m) : IM (mIsN m) := im_bind h fun _ => im_ite (im_ret _) im_stuck
theorem im_notN {m : M D} (h : IM m) : IM (mNotN m) := im_bind h fun _ => im_ite (im_ret _) im_stuck
theorem im_chain (f g) {ma mb mc : M D} (ha : IM ma) (hb : IM mb) (hc : IM mc) : IM (mChain f g ma mb mc) := im_bind ha fun _ => im_bind hb fun _ => im_bind (im_opt _) fun _ => im_ite (im_bind hc fun _ => im_opt _) (im_ret _)
theorem im_seq {m : M D} (h : IM m) : IM (mSeq m) := im_bind h fun d => by
  cases d <;> first | exact im_ret _ | exact im_stuck | (unfold seqD; exact im_ite (im_ret _) im_stuck)
theorem im_range1 {m : M (List D)} (h : IM m) : IM (mRange1 m) := im_bind h fun _ => im_opt _
theorem im_range2 {m : M (List D)} (h : IM m) : IM (mRange2 m) := im_bind h fun _ => im_opt _
theorem im_enum {m : M (List D)} (h : IM m) : IM (mEnum m) := im_bind h fun d => by split <;> first | exact im_ret _ | exact im_stuck
theorem im_zip {m : M (List D)} (h : IM m) : IM (mZip m) := im_bind h fun d => by split <;> first | exact im_ret _ | exact im_stuck
theorem im_t {m : M D} (h : IM m) : IM (mT m) := im_bind h fun d => by cases d <;> first | exact im_ret _ | exact im_stuck
theorem im_notV {m : M D} (h : IM m) : IM (mNotV m) := im_bind h fun d => by cases d <;> first | exact im_ret _ | exact im_stuck
theorem im_andV {t u : M D} (h : IM t) (h' : IM u) : IM (mAndV t u) := im_bind h fun d => by cases d <;> first | exact im_stuck | exact im_ite h' (im_ret _)
theorem im_orV {t u : M D} (h : IM t) (h' : IM u) : IM (mOrV t u) := im_bind h fun d => by cases d <;> first | exact im_stuck | exact im_ite (im_ret _) h'
theorem im_part {m : M D} (h : IM m) : IM (mPart m) := im_bind h fun d => by cases d <;> first | exact im_ret _ | exact im_stuck
theorem im_sl {me : M D} {ml mh : M (Option Int)} (h : IM me) (hl : IM ml) (hh : IM mh) : IM (mSl me ml mh) := im_bind h fun _ => im_bind hl fun _ => im_bind hh fun _ => im_opt _
theorem im_slo {me : M D} {ml mh : M (Option Int)} (h : IM me) (hl : IM ml) (hh : IM mh) : IM (mSlo me ml mh) := im_bind h fun d => im_bind hl fun _ => im_bind hh fun _ => by cases d <;> first | exact im_ret _ | exact im_stuck
theorem im_rev {me : M D} (h : IM me) : IM (mRevo me) := im_bind h fun d => by cases d <;> first | exact im_ret _ | exact im_stuck
theorem im_uV {ma : M D} {ms : M (List W)} (h : IM ma) (h' : IM ms) : IM (muV ma ms) := im_bind h fun _ => im_bind h' fun _ => im_ret _
theorem im_uO {ma : M (List D)} {ms : M (List W)} (h : IM ma) (h' : IM ms) : IM (muO ma ms) := im_bind h fun _ => im_bind h' fun _ => im_ret _
theorem im_outFn {f : D → Bool → Option α} {G : Fn} (h : IF G) (ds : List D) : IM fun _ p => outFn f (G ds p) := fun ρ p q => by
  show outFn f (G ds q) = (outFn f (G ds p)).at q
  rw [h ds p q]
  cases G ds p with
  | ok d fr p' =>
    simp only [FRes.at, ev_outFn]
    cases f d fr <;> rfl
  | exc x p' => rfl
  | stuck => rfl
theorem im_fn {G : Fn} (h : IF G) (n m ix) {ms mk : M (List D)} (hs : IM ms) (hk : IM mk) : IM (mFn G n m ix ms mk) := im_bind hs fun ds => im_bind hk fun es ρ p q => by
  show (if _ then _ else _) = (if _ then _ else _ : Res D).at q
  split
  · exact im_outFn h _ ρ p q
  · rfl
theorem im_fno {G : Fn} (h : IF G) (n m ix) {ms mk : M (List D)} (hs : IM ms) (hk : IM mk) : IM (mFno G n m ix ms mk) := im_bind hs fun ds => im_bind hk fun es ρ p q => by
  show (if _ then _ else _) = (if _ then _ else _ : Res (List D)).at q
  split
  · exact im_outFn h _ ρ p q
  · rfl
/-- items of what is no pot -/
theorem im_ixO (i) {mb : M D} (h : IM mb) : IM (mIxO i mb) := fun ρ p q => by
  unfold mIxO
  split
  · exact im_bind h (fun _ => im_opt _) ρ p q
  · rfl
theorem im_scal {m : M D} (h : IM m) : IM (mscal m) := fun ρ p q => by
  unfold mscal
  rw [h (thaw ρ) p q]
  cases m (thaw ρ) p with
  | ok a p' => simp only [Res.at]; split <;> rfl
  | exc x p' => rfl
  | stuck => rfl
theorem im_scalt {m : M Bool} (h : IM m) : IM (mscalt m) := fun ρ p q => by
  unfold mscalt
  rw [h (thaw ρ) p q]
  cases m (thaw ρ) p with
  | ok a p' => rfl
  | exc x p' => rfl
  | stuck => rfl
theorem im_same {m : M α} (h : IM m) {ρ : Sl} {p p' : Pst} {a : α} (e : m ρ p = .ok a p') : p' = p := by
  have := h ρ p p
  rw [e] at this
  simp only [Res.at, Res.ok.injEq] at this
  exact this.2
theorem im_lcGo {f : D → Sl → Option Sl} {tt : M Bool} {el : M D} (ht : IM tt) (he : IM el) : ∀ items, IM (lcGo f tt el items)
  | [] => im_ret _
  | x :: xs => fun ρ p q => by
    have ih := im_lcGo (f := f) ht he xs
    simp only [lcGo]
    cases f x ρ with
    | none => rfl
    | some ρ1 =>
      simp only
      rw [ht ρ1 p q]
      cases e1 : tt ρ1 p with
      | stuck => rfl
      | exc y p' => rfl
      | ok b p1 =>
        obtain rfl := im_same ht e1
        cases b with
        | false => simp only [Res.at]; exact ih ρ _ q
        | true =>
          simp only [Res.at]
          rw [he ρ1 p1 q]
          cases e2 : el ρ1 p1 with
          | stuck => rfl
          | exc y p' => rfl
          | ok y p2 =>
            obtain rfl := im_same he e2
            simp only [Res.at]
            rw [ih ρ p2 q]
            cases e3 : lcGo f tt el xs ρ p2 <;> rfl
theorem im_lc (vs) {mi : M (List D)} (f) {tt : M Bool} {el : M D} (hi : IM mi) (ht : IM tt) (he : IM el) : IM (mLc vs mi f tt el) := im_bind hi fun items ρ p q => by
  show (match lcGo f tt el items (wipeS ρ vs) q with | .ok ys p' => .ok ys p' | _ => Res.stuck) = Res.at (match lcGo f tt el items (wipeS ρ vs) p with | .ok ys p' => .ok ys p' | _ => Res.stuck) q
  rw [im_lcGo ht he items (wipeS ρ vs) p q]
  cases lcGo f tt el items (wipeS ρ vs) p <;> rfl
theorem im_yes : IM mYes := im_ret _
/-- blocks -/
theorem ic_skip : IC cskip := fun _ _ _ => rfl
theorem ic_brk : IC cbrk := fun _ _ _ => rfl
theorem ic_cnt : IC ccnt := fun _ _ _ => rfl
theorem ic_stuck : IC cstuck := fun _ _ _ => rfl
theorem ic_retN : IC cretN := fun _ _ _ => rfl
theorem ic_seq {a b : C} (ha : IC a) (hb : IC b) : IC (cseq a b) := fun ρ p q => by
  rw [ev_cseq, ev_cseq, ha ρ p q]
  cases e : a ρ p with
  | nx ρ' p' =>
    have := ha ρ p p
    rw [e] at this
    simp only [SRes.at, SRes.nx.injEq, true_and] at this
    subst this
    exact hb ρ' _ q
  | rt d fr p' => rfl
  | bk ρ' p' => rfl
  | ct ρ' p' => rfl
  | exc x ρ' p' => rfl
  | stuck => rfl
theorem ic_eout {m : M α} {k : α → C} (h : IM m) (hk : ∀ a, IC (k a)) : IC (eout m k) := fun ρ p q => by
  rw [ev_eout, ev_eout, h ρ p q]
  cases e : m ρ p with
  | ok a p' =>
    obtain rfl := im_same h e
    exact hk a ρ _ q
  | exc x p' => rfl
  | stuck => rfl
theorem ic_ite {c : Prop} [Decidable c] {m m' : C} (h : IC m) (h' : IC m') : IC (if c then m else m') := by split <;> assumption
theorem ic_expr {m : M D} (h : IM m) : IC (cexpr m) := ic_eout h fun _ => ic_skip
theorem ic_ret {m : M D} (h : IM m) : IC (cret m) := ic_eout h fun _ _ _ _ => rfl
theorem ic_reto {m : M (List D)} (h : IM m) : IC (creto m) := ic_eout h fun _ _ _ _ => rfl
theorem ic_retown (i) : IC (cretown i) := fun ρ p q => by unfold cretown; split <;> rfl
theorem ic_if {t : M Bool} {a b : C} (h : IM t) (ha : IC a) (hb : IC b) : IC (cif t a b) := ic_eout h fun _ => ic_ite ha hb
theorem ic_asg (i) {m : M D} (h : IM m) : IC (casg i m) := ic_eout h fun _ _ _ _ => rfl
theorem ic_aso (i) {m : M (List D)} (h : IM m) : IC (caso i m) := ic_eout h fun _ _ _ _ => rfl
theorem ic_frz (i) : IC (cfrz i) := fun ρ p q => by unfold cfrz; split <;> rfl
theorem ic_asgW (is) {m : M (List W)} (h : IM m) : IC (casgW is m) := ic_eout h fun ws ρ p q => by
  show (if _ then _ else _) = SRes.at (if _ then _ else _) q
  split <;> rfl
theorem ic_app (i) {m : M D} (h : IM m) : IC (capp i m) := fun ρ p q => by
  unfold capp
  split
  · exact ic_eout h (fun a ρ p q => by show (if _ then _ else _) = SRes.at (if _ then _ else _) q; split <;> rfl) ρ p q
  · rfl
theorem ic_pop (i) : IC (cpop i) := fun ρ p q => by
  unfold cpop
  split
  · split <;> rfl
  · rfl
def ITg (G : D → Sl → Pst → Option (Sl × Pst)) : Prop := ∀ d ρ p q, G d ρ q = (G d ρ p).map fun x => (x.1, q)
def ITgs (G : List D → Sl → Pst → Option (Sl × Pst)) : Prop := ∀ d ρ p q, G d ρ q = (G d ρ p).map fun x => (x.1, q)
theorem it_name (i) : ITg (tgName i) := fun _ _ _ _ => rfl
theorem it_nil : ITgs tgNil := fun d ρ p q => by cases d <;> rfl
theorem it_cons {f fs} (h : ITg f) (h' : ITgs fs) : ITgs (tgCons f fs) := fun d ρ p q => by
  cases d with
  | nil => rfl
  | cons d r =>
    simp only [tgCons]
    rw [h d ρ p q]
    cases e : f d ρ p with
    | none => rfl
    | some w =>
      obtain ⟨ρ1, p1⟩ := w
      have := h d ρ p p
      rw [e] at this
      simp only [Option.map_some, Option.some.injEq, Prod.mk.injEq, true_and] at this
      subst this
      exact h' r ρ1 _ q
theorem it_tup (n) {fs} (h : ITgs fs) : ITg (tgTup n fs) := fun d ρ p q => by
  cases d <;> first | rfl | skip
  simp only [tgTup]
  split
  · exact h _ ρ p q
  · rfl
theorem ic_forGo {G} {body : C} (hG : ITg G) (hb : IC body) : ∀ items, IC (cforGo G body items)
  | [] => ic_skip
  | d :: ds => fun ρ p q => by
    have ih := ic_forGo hG hb ds
    simp only [cforGo]
    rw [hG d ρ p q]
    cases e : G d ρ p with
    | none => rfl
    | some w =>
      obtain ⟨ρ1, p1⟩ := w
      have := hG d ρ p p
      rw [e] at this
      simp only [Option.map_some, Option.some.injEq, Prod.mk.injEq, true_and] at this
      subst this
      simp only [Option.map_some]
      rw [hb ρ1 p1 q]
      have same := hb ρ1 p1 p1
      cases e2 : body ρ1 p1 with
      | nx ρ' p' =>
        rw [e2] at same
        simp only [SRes.at, SRes.nx.injEq, true_and] at same
        subst same
        exact ih ρ' _ q
      | ct ρ' p' =>
        rw [e2] at same
        simp only [SRes.at, SRes.ct.injEq, true_and] at same
        subst same
        exact ih ρ' _ q
      | bk ρ' p' => rfl
      | rt d fr p' => rfl
      | exc x ρ' p' => rfl
      | stuck => rfl
theorem ic_for {mi : M (List D)} {G} {body : C} (h : IM mi) (hG : ITg G) (hb : IC body) : IC (cfor mi G body) := ic_eout h fun _ => ic_forGo hG hb _
theorem ic_while {mt : M Bool} {body : C} (h : IM mt) (hb : IC body) : ∀ n, IC (cwhile mt body n)
  | 0 => ic_stuck
  | n + 1 => ic_eout h fun k => ic_ite (fun ρ p q => by
    have ih := ic_while h hb n
    show (match body ρ q with | .nx ρ' p' => cwhile mt body n ρ' p' | .ct ρ' p' => cwhile mt body n ρ' p' | .bk ρ' p' => .nx ρ' p' | r => r) = SRes.at (match body ρ p with | .nx ρ' p' => cwhile mt body n ρ' p' | .ct ρ' p' => cwhile mt body n ρ' p' | .bk ρ' p' => .nx ρ' p' | r => r) q
    rw [hb ρ p q]
    have same := hb ρ p p
    cases e2 : body ρ p with
    | nx ρ' p' =>
      rw [e2] at same
      simp only [SRes.at, SRes.nx.injEq, true_and] at same
      subst same
      exact ih ρ' _ q
    | ct ρ' p' =>
      rw [e2] at same
      simp only [SRes.at, SRes.ct.injEq, true_and] at same
      subst same
      exact ih ρ' _ q
    | bk ρ' p' => rfl
    | rt d fr p' => rfl
    | exc x ρ' p' => rfl
    | stuck => rfl) ic_skip
theorem if_fres (n k) {c : C} (h : IC c) : IF (fres n k c) := fun ds p q => by
  unfold fres
  split
  · rw [h _ p q]
    cases c (ds.map (fun d => some (W.val d)) ++ List.replicate (n - k) none) p <;> rfl
  · rfl
/-- what is seen at one state of the pot holds at all -/
theorem IF.use {G : Fn} (h : IF G) {ds : List D} {p0 p1 : Pst} {d : D} {fr : Bool} (e : G ds p0 = .ok d fr p1) (p : Pst) : G ds p = .ok d fr p := by
  rw [h ds p0 p, e]; rfl
end
/-- a function's own list of ints, looked at -/
def intsR : FRes → Option (List Int)
  | .ok (.lst xs) true _ => intsOf xs
  | _ => none
theorem intsOf_eq : ∀ {ds : List D} {ns : List Int}, intsOf ds = some ns → ds = ns.map .int
  | [], ns, h => by simp [intsOf] at h; subst h; rfl
  | d :: ds, ns, h => by
    cases d <;> simp [intsOf] at h
    obtain ⟨l, h1, rfl⟩ := h
    rw [List.map_cons, ← intsOf_eq h1]
theorem IF.ints {G : Fn} (h : IF G) {ds : List D} {p0 : Pst} {l : List Int} (e : intsR (G ds p0) = some l) (p : Pst) : G ds p = .ok (.lst (l.map .int)) true p := by
  unfold intsR at e
  split at e
  · rename_i xs p1 q
    rw [intsOf_eq e] at q
    exact h.use q p
  · cases e
end PF

namespace PF
open PySem PySem.Spec PyProof.Rows L2

/-! ### texts of data: bounds -/
structure RL (n k : Nat) (d : D) : Prop where
  pl : pl d = true
  sh : (toPy d).showable = true
  len : (toPy d).shown.length ≤ n
  dep : dep d ≤ k
theorem RL.ok {n k : Nat} {d : D} (h : RL n k d) (hn : n ≤ 16000000) (hk : k ≤ 60) : okRepr d = true := okRepr_iff.mpr ⟨h.pl, h.sh, by have := h.len; rw [sizeLine_eq]; omega, Nat.le_trans h.dep hk⟩
theorem RL.mono {n k n' k' : Nat} {d : D} (h : RL n k d) (hn : n ≤ n') (hk : k ≤ k') : RL n' k' d := ⟨h.pl, h.sh, Nat.le_trans h.len hn, Nat.le_trans h.dep hk⟩
theorem rl_non : RL 4 0 .non := ⟨rfl, rfl, by decide, Nat.le_refl _⟩
theorem rl_bl (b : Bool) : RL 5 0 (.bl b) := ⟨rfl, rfl, by cases b <;> decide, Nat.le_refl _⟩
theorem rl_int {i : Int} (h : i.natAbs < 10 ^ 12) : RL 13 0 (.int i) := by
  refine ⟨rfl, ?_, PyData.shown_int_le h, Nat.le_refl _⟩
  simp only [toPy, PyData.showable, decide_eq_true_eq]
  by_cases h0 : i.natAbs = 0
  · rw [h0]; decide
  · have h1 : i.natAbs < 2 ^ 40 := Nat.lt_trans h (by decide)
    have h2 : i.natAbs.log2 < 40 := (Nat.log2_lt h0).mpr h1
    omega
theorem showableAll_map : ∀ xs : List D, (∀ x ∈ xs, (toPy x).showable = true) → PyData.showableAll (toPys xs) = true
  | [], _ => by simp [toPys, PyData.showableAll]
  | x :: xs, h => by
    simp only [toPys, PyData.showableAll, Bool.and_eq_true]
    exact ⟨h x List.mem_cons_self, showableAll_map xs fun y hy => h y (List.mem_cons_of_mem _ hy)⟩
theorem shownAll_sum (n : Nat) : ∀ xs : List D, (∀ x ∈ xs, (toPy x).shown.length ≤ n) → ((PyData.shownAll (toPys xs)).map (·.length)).sum ≤ xs.length * n ∧ (PyData.shownAll (toPys xs)).length = xs.length
  | [], _ => by simp [toPys, PyData.shownAll]
  | x :: xs, h => by
    obtain ⟨h1, h2⟩ := shownAll_sum n xs fun y hy => h y (List.mem_cons_of_mem _ hy)
    have h3 := h x List.mem_cons_self
    simp only [toPys, PyData.shownAll, List.map_cons, List.sum_cons, List.length_cons, h2]
    refine ⟨?_, trivial⟩
    rw [Nat.add_mul]; omega
theorem deps_le (k : Nat) : ∀ xs : List D, (∀ x ∈ xs, dep x ≤ k) → deps xs ≤ k
  | [], _ => by simp [deps]
  | x :: xs, h => by
    simp only [deps]
    exact Nat.max_le.mpr ⟨h x List.mem_cons_self, deps_le k xs fun y hy => h y (List.mem_cons_of_mem _ hy)⟩
theorem rl_lst {n k : Nat} {xs : List D} (h : ∀ x ∈ xs, RL n k x) : RL (xs.length * (n + 2) + 3) (k + 1) (.lst xs) := by
  obtain ⟨h1, h2⟩ := shownAll_sum n xs fun x hx => (h x hx).len
  refine ⟨?_, ?_, ?_, ?_⟩
  · simp only [PF.pl, pls_all, List.all_eq_true]; exact fun x hx => (h x hx).pl
  · simp only [toPy, PyData.showable]; exact showableAll_map xs fun x hx => (h x hx).sh
  · have := listText_len_le (PyData.shownAll (toPys xs))
    simp only [toPy, PyData.shown]
    rw [h2] at this
    rw [Nat.mul_add]; omega
  · simp only [PF.dep]; have := deps_le k xs fun x hx => (h x hx).dep; omega
theorem rl_tup {n k : Nat} {xs : List D} (h : ∀ x ∈ xs, RL n k x) : RL (xs.length * (n + 2) + 3) (k + 1) (.tup xs) := by
  obtain ⟨h1, h2⟩ := shownAll_sum n xs fun x hx => (h x hx).len
  refine ⟨?_, ?_, ?_, ?_⟩
  · simp only [PF.pl, pls_all, List.all_eq_true]; exact fun x hx => (h x hx).pl
  · simp only [toPy, PyData.showable]; exact showableAll_map xs fun x hx => (h x hx).sh
  · have := tupleText_len_le (PyData.shownAll (toPys xs))
    simp only [toPy, PyData.shown]
    rw [h2] at this
    rw [Nat.mul_add]; omega
  · simp only [PF.dep]; have := deps_le k xs fun x hx => (h x hx).dep; omega
theorem dReprF_ok {d : D} (h : okRepr d = true) : dReprF [d] = some (.str (rtext d)) := by simp [dReprF, h]
/-! ### == on data -/
theorem okEq_bl (b : Bool) : okEq (.bl b) = true := by cases b <;> rfl
theorem okEq_non : okEq .non = true := rfl
theorem okEq_int (i : Int) : okEq (.int i) = true := by simp [okEq, pl, dep]
theorem dep_ints (ns : List Int) : deps (ns.map .int) = 0 := by
  induction ns with
  | nil => simp [deps]
  | cons n ns ih => simp [deps, dep, ih]
theorem pls_ints (ns : List Int) : pls (ns.map .int) = true := by
  rw [pls_all, List.all_eq_true]
  intro x hx
  obtain ⟨n, _, rfl⟩ := List.mem_map.mp hx
  rfl
theorem okEq_ints (ns : List Int) : okEq (.lst (ns.map .int)) = true := by simp [okEq, pl, dep, dep_ints, pls_ints]
theorem okEq_intsT (ns : List Int) : okEq (.tup (ns.map .int)) = true := by simp [okEq, pl, dep, dep_ints, pls_ints]
@[simp] theorem dEq_bl (a b : Bool) : dEq (.bl a) (.bl b) = some (decide (a = b)) := by cases a <;> cases b <;> rfl
@[simp] theorem dNe_bl (a b : Bool) : dNe (.bl a) (.bl b) = some (!decide (a = b)) := by cases a <;> cases b <;> rfl
theorem eqvAll_ints : ∀ ms ns : List Int, PyData.eqvAll (toPys (ms.map .int)) (toPys (ns.map .int)) = decide (ms = ns)
  | [], [] => by simp [toPys, PyData.eqvAll]
  | [], n :: ns => by simp [toPys, PyData.eqvAll]
  | m :: ms, [] => by simp [toPys, PyData.eqvAll]
  | m :: ms, n :: ns => by
    simp only [List.map_cons, toPys, PyData.eqvAll, toPy, PyData.eqv, eqvAll_ints ms ns]
    by_cases h1 : m = n <;> by_cases h2 : ms = ns <;> simp [h1, h2]
theorem dEq_ints (ms ns : List Int) : dEq (.lst (ms.map .int)) (.lst (ns.map .int)) = some (decide (ms = ns)) := by
  simp only [dEq, okEq_ints, Bool.and_self, if_true, toPy, PyData.eqv, eqvAll_ints]
theorem dNe_ints (ms ns : List Int) : dNe (.lst (ms.map .int)) (.lst (ns.map .int)) = some (!decide (ms = ns)) := by simp [dNe, dEq_ints]
theorem dEq_intsT (ms ns : List Int) : dEq (.tup (ms.map .int)) (.tup (ns.map .int)) = some (decide (ms = ns)) := by
  simp only [dEq, okEq_intsT, Bool.and_self, if_true, toPy, PyData.eqv, eqvAll_ints]
theorem dNe_intsT (ms ns : List Int) : dNe (.tup (ms.map .int)) (.tup (ns.map .int)) = some (!decide (ms = ns)) := by simp [dNe, dEq_intsT]
theorem dEq_nil {xs : List D} (h : okEq (.lst xs) = true) : dEq (.lst xs) (.lst []) = some xs.isEmpty := by
  have h0 : okEq (.lst []) = true := rfl
  simp only [dEq, h, h0, Bool.and_self, if_true, toPy, PyData.eqv]
  cases xs <;> simp [toPys, PyData.eqvAll]
theorem dNe_nil {xs : List D} (h : okEq (.lst xs) = true) : dNe (.lst xs) (.lst []) = some (!xs.isEmpty) := by simp [dNe, dEq_nil h]
theorem dIn_ints (i : Int) (ns : List Int) : dIn (.int i) (.lst (ns.map .int)) = some (decide (i ∈ ns)) := by
  simp only [dIn, okEq_int, okEq_ints, Bool.and_self, if_true, List.any_map]
  congr 1
  induction ns with
  | nil => simp
  | cons n ns ih =>
    rw [List.any_cons, ih]
    simp only [Function.comp, toPy, PyData.eqv, List.mem_cons]
    by_cases h1 : n = i
    · simp [h1]
    · have h2 : ¬ i = n := fun e => h1 e.symm
      simp [h1, h2]
theorem dNotIn_ints (i : Int) (ns : List Int) : dNotIn (.int i) (.lst (ns.map .int)) = some (!decide (i ∈ ns)) := by simp [dNotIn, dIn_ints]
theorem dIn_non (ns : List Int) : dIn .non (.lst (ns.map .int)) = some false := by
  simp only [dIn, okEq_non, okEq_ints, Bool.and_self, if_true, List.any_map]
  congr 1
  rw [List.any_eq_false]
  intro n _
  simp [toPy, PyData.eqv]
theorem dNotIn_non (ns : List Int) : dNotIn .non (.lst (ns.map .int)) = some true := by simp [dNotIn, dIn_non]
theorem dAny_bls (bs : List Bool) : dAny [.lst (bs.map .bl)] = some (.bl (bs.any id)) := by simp [dAny, bsOf_map]
theorem dAll_bls (bs : List Bool) : dAll [.lst (bs.map .bl)] = some (.bl (bs.all id)) := by simp [dAll, bsOf_map]
theorem dAny_map {α : Type} (f : α → Bool) (l : List α) : dAny [.lst (l.map fun x => .bl (f x))] = some (.bl (l.any f)) := by
  have h := dAny_bls (l.map f)
  rw [List.map_map, List.any_map] at h
  exact h
theorem dAll_map {α : Type} (f : α → Bool) (l : List α) : dAll [.lst (l.map fun x => .bl (f x))] = some (.bl (l.all f)) := by
  have h := dAll_bls (l.map f)
  rw [List.map_map, List.all_map] at h
  exact h
/-! ### whole numbers from 0 on -/
abbrev iN (k : Nat) : Int := (k : Int)
theorem dI_eq (k : Nat) : D.int (k : Int) = dI k := rfl
theorem lit (n : Nat) : D.int (@OfNat.ofNat Int n _) = dI n := rfl
theorem dI_map (l : List Nat) : l.map dI = (l.map iN).map .int := by rw [List.map_map]; rfl
theorem dI_toNat {i : Int} (h : 0 ≤ i) : D.int i = dI i.toNat := by unfold dI; rw [Int.toNat_of_nonneg h]
@[simp] theorem noPot_dI (k : Nat) : noPot (dI k) = true := by simp [dI]
@[simp] theorem isNon_dI (k : Nat) : isNon (dI k) = false := by simp [dI]
@[simp] theorem isTy_dI (k : Nat) : isTy .int (dI k) = true := by simp [dI, isTy]
@[simp] theorem isTyb_dI (k : Nat) : isTy .bool (dI k) = false := by simp [dI, isTy]
theorem nMod {a c : Nat} (h : 0 < c) : dMod (dI a) (dI c) = some (dI (a % c)) := by
  unfold dI; rw [dMod_int (by omega)]; norm_cast
theorem nDiv {a c : Nat} (h : 0 < c) (h2 : c < 1073741824) : dDiv (dI a) (dI c) = some (dI (a / c)) := by
  unfold dI; rw [dDiv_int (by omega) (by omega)]; norm_cast
theorem nMul {a b : Nat} (h : a < 2 ^ 64 ∨ b < 2 ^ 64) : dMul (dI a) (dI b) = some (dI (a * b)) := by
  unfold dI; rw [dMul_int (by omega)]; norm_cast
@[simp] theorem nAdd {a b : Nat} : dAdd (dI a) (dI b) = some (dI (a + b)) := by
  unfold dI; rw [dAdd_int]; norm_cast
theorem nSub {a b : Nat} (h : b ≤ a) : dSub (dI a) (dI b) = some (dI (a - b)) := by
  unfold dI; rw [dSub_int]; norm_cast
@[simp] theorem nEq {a b : Nat} : dEq (dI a) (dI b) = some (decide (a = b)) := by
  unfold dI; rw [dEq_int]; norm_cast
@[simp] theorem nNe {a b : Nat} : dNe (dI a) (dI b) = some (!decide (a = b)) := by
  unfold dI; rw [dNe_int]; norm_cast
@[simp] theorem nLt {a b : Nat} : dLt (dI a) (dI b) = some (decide (a < b)) := by
  unfold dI; rw [dLt_int]; norm_cast
@[simp] theorem nLe {a b : Nat} : dLe (dI a) (dI b) = some (decide (a ≤ b)) := by
  unfold dI; rw [dLe_int]; norm_cast
@[simp] theorem nGt {a b : Nat} : dGt (dI a) (dI b) = some (decide (b < a)) := by
  unfold dI; rw [dGt_int]; norm_cast
@[simp] theorem nGe {a b : Nat} : dGe (dI a) (dI b) = some (decide (b ≤ a)) := by
  unfold dI; rw [dGe_int]; norm_cast
@[simp] theorem niLt {a b : Nat} : dI2b iLt (dI a) (dI b) = some (decide (a < b)) := by
  unfold dI; rw [dI2b_int]; unfold iLt; norm_cast
@[simp] theorem niLe {a b : Nat} : dI2b iLe (dI a) (dI b) = some (decide (a ≤ b)) := by
  unfold dI; rw [dI2b_int]; unfold iLe; norm_cast
@[simp] theorem nInt {a : Nat} : dInt [dI a] = some (dI a) := rfl
@[simp] theorem nAbs {a : Nat} : dAbs [dI a] = some (dI a) := by
  unfold dI; rw [dAbs_int, if_neg (by omega)]
@[simp] theorem nLen_lst (xs : List D) : dLen [.lst xs] = some (dI xs.length) := rfl
@[simp] theorem nLen_tup (xs : List D) : dLen [.tup xs] = some (dI xs.length) := rfl
@[simp] theorem nLen_scr (xs : List Int) : dLen [.scr xs] = some (dI xs.length) := rfl
theorem nMax2 {a b : Nat} : dMax2 [dI a, dI b] = some (dI (max a b)) := by
  unfold dI; rw [dMax2_int]; congr 2; split <;> omega
theorem nMin2 {a b : Nat} : dMin2 [dI a, dI b] = some (dI (min a b)) := by
  unfold dI; rw [dMin2_int]; congr 2; split <;> omega
theorem nIx_lst {xs : List D} {k : Nat} {d : D} (h : xs[k]? = some d) : dIx (.lst xs) (dI k) = some d := dIx_lst h
theorem nIx_tup {xs : List D} {k : Nat} {d : D} (h : xs[k]? = some d) : dIx (.tup xs) (dI k) = some d := dIx_tup h
theorem nRange1 {n : Nat} (h : n ≤ 16000000) : dRange1 [dI n] = some (rgL 0 n) := dRange1_nat n h
theorem rgL_dI (n : Nat) : rgL 0 n = (List.range n).map dI := by
  unfold rgL dI
  refine List.map_congr_left fun k _ => ?_
  rw [Int.zero_add]
theorem rgL_from (lo n : Nat) : rgL (lo : Int) n = (List.range n).map fun k => dI (lo + k) := by
  unfold rgL dI
  refine List.map_congr_left fun k _ => ?_
  norm_cast
theorem nRange2 {a b : Nat} (h : b ≤ 16000000) (ha : a < 2 ^ 60) : dRange2 [dI a, dI b] = some ((List.range (b - a)).map fun k => dI (a + k)) := by
  rw [← rgL_from]
  have hc : -(2 ^ 60) ≤ (a : Int) ∧ (a : Int) < 2 ^ 60 ∧ -(2 ^ 60) ≤ (b : Int) ∧ (b : Int) < 2 ^ 60 ∧ (b : Int) - a ≤ 16000000 := ⟨by omega, by omega, by omega, by omega, by omega⟩
  have e : ((b : Int) - a).toNat = b - a := by omega
  have : dRange2 [.int (a : Int), .int (b : Int)] = some (rgL a ((b : Int) - a).toNat) := by
    simp only [dRange2]
    rw [if_pos hc]
  rw [e] at this
  exact this
/-- ints as lists of whole numbers -/
theorem map_iN_inj (ms ns : List Nat) : (ms.map iN = ns.map iN) ↔ ms = ns := by
  constructor
  · intro h
    have := congrArg (fun l => l.map Int.toNat) h
    simp only [List.map_map] at this
    have e : (Int.toNat ∘ iN) = id := by funext k; simp [iN]
    simpa [e] using this
  · rintro rfl; rfl
theorem nEqL (ms ns : List Nat) : dEq (.lst (ms.map dI)) (.lst (ns.map dI)) = some (decide (ms = ns)) := by
  rw [dI_map, dI_map, dEq_ints]; congr 1; exact decide_eq_decide.mpr (map_iN_inj ms ns)
theorem nNeL (ms ns : List Nat) : dNe (.lst (ms.map dI)) (.lst (ns.map dI)) = some (!decide (ms = ns)) := by simp [dNe, nEqL]
theorem nEqNil (ms : List Nat) : dEq (.lst (ms.map dI)) (.lst []) = some (decide (ms = [])) := nEqL ms []
theorem nNeNil (ms : List Nat) : dNe (.lst (ms.map dI)) (.lst []) = some (!decide (ms = [])) := nNeL ms []
theorem nIn (k : Nat) (ns : List Nat) : dIn (dI k) (.lst (ns.map dI)) = some (decide (k ∈ ns)) := by
  rw [dI_map]
  show dIn (.int (k : Int)) _ = _
  rw [dIn_ints]; congr 1; refine decide_eq_decide.mpr ?_
  constructor
  · intro h
    obtain ⟨n, h1, h2⟩ := List.mem_map.mp h
    have : n = k := Int.ofNat.inj h2
    rwa [this] at h1
  · intro h; exact List.mem_map.mpr ⟨k, h, rfl⟩
theorem nNotIn (k : Nat) (ns : List Nat) : dNotIn (dI k) (.lst (ns.map dI)) = some (!decide (k ∈ ns)) := by simp [dNotIn, nIn]
theorem rl_dI {k : Nat} (h : k < 10 ^ 12) : RL 13 0 (dI k) := rl_int (by simpa using h)
/-- while, over states of some type -/
theorem cwhile_st {α : Type} {mt : M Bool} {body : C} {p : Pst} (st : α → Sl) (μ : α → Nat) (Inv : α → Prop) (t : α → Bool) (ht : ∀ a, Inv a → mt (st a) p = .ok (t a) p)
    (hb : ∀ a, Inv a → t a = true → ∃ a', body (st a) p = .nx (st a') p ∧ Inv a' ∧ μ a' < μ a) : ∀ (n : Nat) (a : α), Inv a → μ a < n → ∃ a', cwhile mt body n (st a) p = .nx (st a') p ∧ Inv a' ∧ t a' = false
  | 0, a, _, h => absurd h (Nat.not_lt_zero _)
  | n + 1, a, hI, hm => by
    cases e : t a with
    | false => exact ⟨a, cwhile_end (by rw [ht a hI, e]), hI, e⟩
    | true =>
      obtain ⟨a', h1, h2, h3⟩ := hb a hI e
      obtain ⟨a2, h4, h5⟩ := cwhile_st st μ Inv t ht hb n a' h2 (by omega)
      exact ⟨a2, by rw [cwhile_step (by rw [ht a hI, e]) h1]; exact h4, h5⟩
end PF

namespace PF
open PySem PySem.Spec PyProof.Rows L2
section
variable {X : Cx} {En : Ent} {Wx : WX} {e a b o : Expr} {me ma mb m : M D} {ms : M (List D)} {pos p : Pos} {es : List Expr}
/-! ### the first place of an equal item -/
def firstAt (z : D) : List D → Option Nat
  | [] => none
  | x :: xs => if PyData.eqv (toPy x) (toPy z) then some 0 else (firstAt z xs).map (· + 1)
theorem firstAt_spec {z : D} : ∀ {xs : List D} {j : Nat}, firstAt z xs = some j → ∃ y, (toPys xs)[j]? = some y ∧ PyData.eqv y (toPy z) = true ∧ ∀ (m : Nat) (y' : PyData), m < j → (toPys xs)[m]? = some y' → PyData.eqv y' (toPy z) = false
  | [], j, h => by simp [firstAt] at h
  | x :: xs, j, h => by
    unfold firstAt at h
    split at h
    · rename_i hc
      simp only [Option.some.injEq] at h
      subst h
      exact ⟨toPy x, by simp [toPys], hc, fun m y' hm => absurd hm (Nat.not_lt_zero _)⟩
    · rename_i hc
      cases q : firstAt z xs with
      | none => rw [q] at h; simp at h
      | some k =>
        rw [q] at h
        simp only [Option.map_some, Option.some.injEq] at h
        subst h
        obtain ⟨y, h1, h2, h3⟩ := firstAt_spec q
        refine ⟨y, by simpa [toPys] using h1, h2, fun m y' hm hy => ?_⟩
        cases m with
        | zero =>
          have : y' = toPy x := by simpa [toPys] using hy.symm
          rw [this]
          simpa using hc
        | succ m => exact h3 m y' (by omega) (by simpa [toPys] using hy)
def dIndex : D → D → Option D
  | .lst xs, z => if okEq z && okEq (.lst xs) then (firstAt z xs).map fun j => .int (j : Nat) else none
  | _, _ => none
theorem dIndex_some {xs : List D} {y z : D} (h : dIndex (.lst xs) y = some z) : okEq y = true ∧ okEq (.lst xs) = true ∧ ∃ j, firstAt y xs = some j ∧ z = .int (j : Nat) := by
  simp only [dIndex] at h
  split at h
  · rename_i hc
    simp only [Bool.and_eq_true] at hc
    cases q : firstAt y xs with
    | none => rw [q] at h; cases h
    | some j =>
      rw [q] at h
      simp only [Option.map_some, Option.some.injEq] at h
      exact ⟨hc.1, hc.2, j, rfl, h.symm⟩
  · cases h
def lstK {α : Type} (d : D) (k : List D → M α) : M α := match d with
  | .lst xs => k xs
  | _ => mstuck
@[simp] theorem lstK_lst {α : Type} (xs : List D) (k : List D → M α) : lstK (.lst xs) k = k xs := rfl
def mIndex (ma mb : M D) : M D := mbind ma fun d => lstK d fun xs => mbind mb fun y => mopt (dIndex (.lst xs) y)
@[simp] theorem ev_mIndex (ma mb : M D) (ρ : Sl) (p : Pst) : mIndex ma mb ρ p = mbind ma (fun d => lstK d fun xs => mbind mb fun y => mopt (dIndex (.lst xs) y)) ρ p := by cases p; rfl
theorem im_lstK {α : Type} (d : D) {k : List D → M α} (h : ∀ xs, IM (k xs)) : IM (lstK d k) := by
  cases d <;> first | exact h _ | exact im_stuck
theorem im_index {ma mb : M D} (ha : IM ma) (hb : IM mb) : IM (mIndex ma mb) := im_bind ha fun d => im_lstK d fun xs => im_bind hb fun _ => im_opt _
theorem pm_index {ap cp : Pos} (hu : Un X) (ho : PM X Wx o ma) (ha : PM X Wx e mb) (hbase : attributeBase o "index" X.env (eval o X.env) = eval o X.env := by rfl)
    (hfew : ((backTo cp (starEach [e] X.env)).all (fun x => !x.1) && (backToKw cp (keywordEach [] X.env)).all (fun x => x.1.isSome) && decide (([e] : List Expr).length + ([] : List Keyword).length + (if ([] : List Keyword).isEmpty then 0 else 1) < 30)) = true := by rfl)
    (hline : (ap.endLine == cp.line) = true := by rfl) (hs : starEach [e] X.env = (false, eval e X.env) :: starEach [] X.env := by rfl) (hpl : (backTo cp (starEach [] X.env)).any (·.1) = false := by rfl) :
    PM X Wx (.Call (.Attribute o "index" ap) [e] [] cp) (mIndex ma mb) :=
  ⟨(pe_bm PySem.F.plainAttrs_list PySem.F.slot_list_index PySem.F.type_list_index (mt_indexD hu) ho.pe (pa_cons ha.pe pa_nil hs) hbase hfew hline hs hpl).imp fun σ H Q ⟨F, pa, p, ρ, gs, s, o⟩ => by
    refine TM.of gs s (o.bind.mono fun d p1 F1 H1 pa1 gr1 gs1 o1 s1 v1 r1 => ?_)
    cases d <;> first | exact o1.elim | skip
    obtain ⟨a, vs, rfl, h1, hz, rs⟩ := r1.lstH gs1
    refine ⟨.inl ⟨rfl, _, SqL.of h1⟩, ?_⟩
    refine TM.of gs1 s1 (o1.bind.mono fun y p2 F2 H2 pa2 gr2 gs2 o2 s2 v2 r2 => ?_)
    obtain ⟨z, ez, o3⟩ := o2.opt
    rename_i xs
    obtain ⟨hy, hx, j, q, rfl⟩ := dIndex_some ez
    obtain ⟨y', e1, e2, e3⟩ := firstAt_spec q
    have r1' := r1.mono gr2.fz
    have d1 := r1'.dp gs2.sub (pl_of hx)
    have sl := shaped_ok hx
    simp only [toPy] at d1 sl
    exact ⟨a, v2, toPy y, toPys xs, j, y', rfl, rfl, d1, r2.dp gs2.sub (pl_of hy), sl, shaped_ok hy, e1, e2, e3, o3.ret gs2 _ (.int _)⟩⟩
/-! ### list(range(..)) -/
theorem rgV_map (a : Int) (n : Nat) : ((List.range n).map fun i => V.int (a + (i : Nat))) = ((List.range n).map fun (k : Nat) => a + (k : Int)).map V.int := by rw [List.map_map]; rfl
theorem rgL_map (a : Int) (n : Nat) : rgL a n = ((List.range n).map fun (k : Nat) => a + (k : Int)).map D.int := by unfold rgL; rw [List.map_map]; rfl
theorem dRange1_some {x : D} {z : List D} (h : dRange1 [x] = some z) : ∃ j, x = .int j ∧ (j ≤ 16000000 ∧ -(2 ^ 60) ≤ j) ∧ z = rgL 0 j.toNat := by
  cases x <;> first | (simp [dRange1] at h; done) | skip
  rename_i j
  simp only [dRange1] at h
  split at h
  · rename_i hc; exact ⟨j, rfl, hc, by simpa using h.symm⟩
  · cases h
theorem dRange2_some {x y : D} {z : List D} (h : dRange2 [x, y] = some z) : ∃ i j, x = .int i ∧ y = .int j ∧ (-(2 ^ 60) ≤ i ∧ i < 2 ^ 60 ∧ -(2 ^ 60) ≤ j ∧ j < 2 ^ 60 ∧ j - i ≤ 16000000) ∧ z = rgL i (j - i).toNat := by
  cases x <;> cases y <;> first | (simp [dRange2] at h; done) | skip
  rename_i i j
  simp only [dRange2] at h
  split at h
  · rename_i hc; exact ⟨i, j, rfl, rfl, hc, by simpa using h.symm⟩
  · cases h
def mLrg1 (ma : M D) : M (List D) := mbind ma fun x => mopt (dRange1 [x])
def mLrg2 (ma mb : M D) : M (List D) := mbind ma fun x => mbind mb fun y => mopt (dRange2 [x, y])
@[simp] theorem ev_mLrg1 (ma : M D) (ρ : Sl) (p : Pst) : mLrg1 ma ρ p = mbind ma (fun x => mopt (dRange1 [x])) ρ p := by cases p; rfl
@[simp] theorem ev_mLrg2 (ma mb : M D) (ρ : Sl) (p : Pst) : mLrg2 ma mb ρ p = mbind ma (fun x => mbind mb fun y => mopt (dRange2 [x, y])) ρ p := by cases p; rfl
theorem im_lrg1 {ma : M D} (ha : IM ma) : IM (mLrg1 ma) := im_bind ha fun _ => im_opt _
theorem im_lrg2 {ma mb : M D} (ha : IM ma) (hb : IM mb) : IM (mLrg2 ma mb) := im_bind ha fun _ => im_bind hb fun _ => im_opt _
theorem pmo_lrg1 {p2 pos2 : Pos} (hc : X.calm = true) (hl : X.mg "list" = none) (hr : X.mg "range" = none) (ha : PM X Wx a ma) (hgl : Gl X "list" := by rfl) (hgr : Gl X "range" := by rfl) (na : starEach [a] X.env = (false, eval a X.env) :: starEach [] X.env := by rfl)
    (nl : starEach [.Call (.Name "range" p2) [a] [] pos2] X.env = (false, eval (.Call (.Name "range" p2) [a] [] pos2) X.env) :: starEach [] X.env := by rfl) :
    PMo X Wx (.Call (.Name "list" p) [.Call (.Name "range" p2) [a] [] pos2] [] pos) (mLrg1 ma) := ⟨(pe_listRg hc hgl hl (prg_1 hgr hr ha.pe na) nl).imp fun σ H Q ⟨F, pa, p, ρ, gs, s, o⟩ => by
  refine TM.of gs s ((Out.bindS .refl o).mono fun d p1 F1 H1 pa1 gr1' gs1 ⟨gr1, o1⟩ s1 v1 r1 => ?_)
  obtain ⟨z, ez, o2⟩ := o1.opt
  obtain ⟨j, rfl, hcc, rfl⟩ := dRange1_some ez
  cases r1
  refine ⟨_, rfl, ?_⟩
  refine ⟨⟨by omega, by omega, by omega, by omega, by rw [Int.sub_zero]; omega⟩, fun q hq => ?_⟩
  have h0 : ∀ n : Nat, ((List.range n).map fun i => V.int (0 + (i : Nat))) = ((List.range n).map fun (k : Nat) => (0 : Int) + (k : Int)).map V.int := rgV_map 0
  refine o2 F1 _ pa1 (gr1.trans (Gr.allocO hq)) (gs1.allocO hq) q _ (gr1.free0 hq) upd_same (gs1.fnone hq) (gs1.pne hq) (by rw [rgL_len]; exact sz16 (by omega)) ?_
  unfold rgV
  rw [Int.sub_zero, rgV_map, rgL_map]
  exact reps_int_map _⟩
theorem pmo_lrg2 {p2 pos2 : Pos} (hc : X.calm = true) (hl : X.mg "list" = none) (hr : X.mg "range" = none) (ha : PM X Wx a ma) (hb : PM X Wx b mb) (hgl : Gl X "list" := by rfl) (hgr : Gl X "range" := by rfl) (na : starEach [a, b] X.env = (false, eval a X.env) :: starEach [b] X.env := by rfl)
    (nb : starEach [b] X.env = (false, eval b X.env) :: starEach [] X.env := by rfl) (hp : (backTo pos2 (starEach [b] X.env)).any (·.1) = false := by rfl) {p2 : Pos}
    (nl : starEach [.Call (.Name "range" p2) [a, b] [] pos2] X.env = (false, eval (.Call (.Name "range" p2) [a, b] [] pos2) X.env) :: starEach [] X.env := by rfl) :
    PMo X Wx (.Call (.Name "list" p) [.Call (.Name "range" p2) [a, b] [] pos2] [] pos) (mLrg2 ma mb) := ⟨(pe_listRg hc hgl hl (prg_2 hgr hr ha.pe hb.pe na nb hp) nl).imp fun σ H Q ⟨F, pa, p, ρ, gs, s, o⟩ => by
  refine TM.of gs s ((Out.bindS .refl o).mono fun d p1 F1 H1 pa1 gr1' gs1 ⟨gr1, o1⟩ s1 v1 r1 => ?_)
  refine TM.of gs1 s1 ((Out.bindS gr1 o1).mono fun y p2 F2 H2 pa2 gr2' gs2 ⟨gr2, o2⟩ s2 v2 r2 => ?_)
  obtain ⟨z, ez, o3⟩ := o2.opt
  have r1' := r1.mono gr2'.fz
  clear r1
  obtain ⟨i, j, rfl, rfl, hcc, rfl⟩ := dRange2_some ez
  cases r1'; cases r2
  refine ⟨_, _, rfl, rfl, ?_⟩
  refine ⟨⟨by omega, by omega, by omega, by omega, by omega⟩, fun q hq => ?_⟩
  refine o3 F2 _ pa2 (gr2.trans (Gr.allocO hq)) (gs2.allocO hq) q _ (gr2.free0 hq) upd_same (gs2.fnone hq) (gs2.pne hq) (by rw [rgL_len]; exact sz16 (by omega)) ?_
  unfold rgV
  rw [rgV_map, rgL_map]
  exact reps_int_map _⟩
/-! ### more that is independent of the pot -/
theorem ic_ext (i) {m : M D} (h : IM m) : IC (cext i m) := fun ρ p q => by
  unfold cext
  split
  · refine ic_eout h (fun a ρ p q => ?_) ρ p q
    cases a <;> first | rfl | skip
    show (if _ then _ else _) = SRes.at (if _ then _ else _) q
    split <;> rfl
  · rfl
theorem ic_asgT {G} {m : M D} (hG : ITg G) (h : IM m) : IC (casgT G m) := ic_eout h fun d ρ p q => by
  show (match G d ρ q with | some (ρ', p') => SRes.nx ρ' p' | none => .stuck) = SRes.at (match G d ρ p with | some (ρ', p') => SRes.nx ρ' p' | none => .stuck) q
  rw [hG d ρ p q]
  cases G d ρ p with
  | none => rfl
  | some w => rfl
/-- an own list's item is stored -/
def tgSubO (r : Nat) (mi : M D) : D → Sl → Pst → Option (Sl × Pst) := fun d ρ p => match ρ[r]? with
  | some (some (.own _)) => tgSub r mi d ρ p
  | _ => none
theorem tg_subO {r : Nat} {mi : M D} : TgOk X.K X.mg En Wx (gSub (tVar r) (TM X.K X.mg Wx mi) rSetL) (tgSubO r mi) := by
  intro F H pa p x d σ ρ ρ' p' Q s rx e k
  unfold tgSubO at e
  split at e
  · exact tg_sub F H pa p x d σ ρ ρ' p' Q s rx e k
  · cases e
theorem it_subO (r) {mi : M D} (h : IM mi) : ITg (tgSubO r mi) := fun d ρ p q => by
  unfold tgSubO
  cases e : ρ[r]? with
  | none => rfl
  | some o =>
    cases o with
    | none => rfl
    | some w =>
      cases w with
      | val d => rfl
      | own xs =>
        simp only [tgSub, e]
        rw [h ρ p q]
        cases e2 : mi ρ p with
        | stuck => rfl
        | exc y p1 => rfl
        | ok kd p1 =>
          obtain rfl := im_same h e2
          simp only [Res.at]
          cases kd <;> first | rfl | skip
          simp only
          split <;> rfl
end
end PF

namespace PF
open PySem PySem.Spec PyProof.Rows L2
/-! ### repr where an empty dict stands within tuples -/
mutual
def pe : D → Bool
  | .non | .bl _ | .int _ | .emp => true
  | .str x => PyData.strOk x
  | .tup xs => pes xs
  | .lst _ | .scr _ | .pot _ => false
def pes : List D → Bool
  | [] => true
  | x :: xs => pe x && pes xs
end
def okE (d : D) : Bool := pe d && (toPy d).showable && decide ((toPy d).shown.length ≤ sizeLine) && decide ((toPy d).depth ≤ 60)
theorem okE_iff {d : D} : okE d = true ↔ pe d = true ∧ (toPy d).showable = true ∧ (toPy d).shown.length ≤ sizeLine ∧ (toPy d).depth ≤ 60 := by
  unfold okE
  simp only [Bool.and_eq_true, decide_eq_true_eq, and_assoc]
theorem readsE {X : Cx} {pins : List (Addr × Obj)} {σ : L2.St} {s : Shared} {F H : Hp} {g : Nat} {pa : Option Addr} (I : L2.Inv X pins σ H s) (sub : ∀ a o, F a = some o → H a = some o) {v : V} {d : D} (r : Rep X.K F g pa v d) :
    pe d = true → ∀ u, L2.RelV v u → ∃ as, Reads s.heap u (toPy d) as ∧ sysModules ∉ as := by
  induction r with
  | non => intro _ u ru; cases ru; exact ⟨_, by simpa only [toPy] using Reads.none, by simp⟩
  | bl b => intro _ u ru; cases ru; exact ⟨_, by simpa only [toPy] using Reads.bool b, by simp⟩
  | int i => intro _ u ru; obtain ⟨t, rfl⟩ := ru; exact ⟨_, by simpa only [toPy] using Reads.int i t, by simp⟩
  | str x => intro _ u ru; obtain ⟨t, rfl⟩ := ru; exact ⟨_, by simpa only [toPy] using Reads.str x t, by simp⟩
  | lst _ _ _ _ _ => intro hp; simp [pe] at hp
  | scr _ => intro hp; simp [pe] at hp
  | pot _ _ => intro hp; simp [pe] at hp
  | emp h =>
    intro _ u ru
    cases ru
    obtain ⟨_, hne, vs, kv, o, es, ep, ho, ⟨hc, _, _⟩, hd, _, hp, _⟩ := I.hok _ _ (sub _ _ h)
    cases kv
    have he : es.toList = [] := by
      generalize es.toList = l at hp
      cases hp
      rfl
    have q : Reads s.heap (.ref _) (.dict []) (_ :: [] ++ []) := Reads.dict (kvs := []) (as := []) (bs := []) ho hc hd (by rw [he]; exact .nil) (by rw [he]; exact .nil)
    refine ⟨_, by simpa only [toPy] using q, ?_⟩
    simp only [List.cons_append, List.nil_append, List.mem_singleton]
    exact fun e => by rw [← e] at hne; simp at hne
  | @tup a vs ds h hz hl hr ih =>
    intro hp u ru
    cases ru
    obtain ⟨its, rv, ⟨o, ho, hc, n, hd⟩, _⟩ := I.tuple (SqT.of (sub _ _ h))
    have all : ∀ (ds : List D) (vs : List V) (us : List Value), pes ds = true → vs.length = ds.length → (∀ (i : Nat) v d, vs[i]? = some v → ds[i]? = some d → pe d = true → ∀ u, L2.RelV v u → ∃ as, Reads s.heap u (toPy d) as ∧ sysModules ∉ as) → Vals vs us → ∃ as, ReadsAll s.heap us (toPys ds) as ∧ sysModules ∉ as := by
      intro ds
      induction ds with
      | nil =>
        intro vs us _ hl _ rv
        have : vs = [] := List.eq_nil_of_length_eq_zero hl
        subst this
        cases rv
        exact ⟨_, by simpa only [toPys] using ReadsAll.nil, by simp⟩
      | cons d ds ih2 =>
        intro vs us hp hl hh rv
        cases rv with
        | nil => simp at hl
        | cons r t =>
          simp only [pes, Bool.and_eq_true] at hp
          obtain ⟨as, q1, n1⟩ := hh 0 _ _ rfl rfl hp.1 _ r
          obtain ⟨bs, q2, n2⟩ := ih2 _ _ hp.2 (by simpa using hl) (fun i v d h1 h2 => hh (i + 1) v d (by simpa using h1) (by simpa using h2)) t
          exact ⟨_, by simpa only [toPys] using ReadsAll.cons q1 q2, by simp [n1, n2]⟩
    obtain ⟨as, q, n⟩ := all ds vs its (by simpa [pe] using hp) hl (fun i v d h1 h2 => ih i v d h1 h2) rv
    exact ⟨_, by simpa only [toPy] using Reads.tuple ho hc hd q, n⟩
def rReprE (X : Cx) : List V → Hp → VK → Prop := fun xs H Q => ∃ v d, xs = [v] ∧ okE d = true ∧ (∃ (F : Hp) (g : Nat) (pa : Option Addr), (∀ a o, F a = some o → H a = some o) ∧ Rep X.K F g pa v d) ∧ Q (.str (rtext d)) H
def rReprX (X : Cx) : List V → Hp → VK → Prop := fun xs H Q => rReprD X xs H Q ∨ rReprE X xs H Q
/-- repr of plain data, and of tuples with an empty dict -/
def dReprE : List D → Option D
  | [d] => if okRepr d = true then some (.str (rtext d)) else if okE d = true then some (.str (rtext d)) else none
  | _ => none
section
variable {X : Cx} {Wx : WX} {e : Expr} {es : List Expr} {m : M D} {ms : M (List D)} {p pos : Pos}
theorem call_reprE (hu : Un X) (hg : X.A.guards = some []) : CallR X (.builtin "repr") (rReprE X) := by
  intro pins s σ H xs us Q I r h
  obtain ⟨v, d, rfl, hd, ⟨F, g, pa, sub, rp⟩, q⟩ := h
  obtain ⟨h1, h2, h3, h4⟩ := okE_iff.mp hd
  have hu' : X.A.units + 65 < cLine := hu
  obtain ⟨u, rfl, ru⟩ : ∃ u, us = [u] ∧ L2.RelV v u := by
    cases r with
    | cons r r2 => cases r2; exact ⟨_, rfl, r⟩
  obtain ⟨as, rd, nm⟩ := readsE I sub rp h1 u ru
  cases rp with
  | non =>
    cases ru
    exact PySem.P.repr_of_none ⟨.str (rtext .non), H, I.tok _, ⟨_, rfl⟩, q⟩
  | bl b =>
    cases ru
    exact PySem.P.repr_of_bool ⟨.str (rtext (.bl b)), H, I.tok _, ⟨_, by cases b <;> rfl⟩, q⟩
  | int i =>
    obtain ⟨t, rfl⟩ := ru
    have h5 : i.natAbs.log2 < 1920 := by simpa [toPy, PyData.showable] using h2
    exact PySem.P.repr_of_int h5 ⟨.str (rtext (.int i)), H, I.tok _, ⟨_, rfl⟩, q⟩
  | str x =>
    obtain ⟨t, rfl⟩ := ru
    exact PySem.P.repr_of_str ⟨.str (rtext (.str x)), H, I.tok _, ⟨_, rfl⟩, q⟩ (by simpa [toPy, PyData.shown] using h3)
  | lst _ _ _ _ => simp [pe] at h1
  | scr _ => simp [pe] at h1
  | pot _ _ => simp [pe] at h1
  | tup _ _ _ _ =>
    cases ru
    exact PySem.repr_of_reads' rd h2 (fun _ => nm) hg (by omega) (fun _ _ z => z) (fun h' u' tk hk => ⟨.str (rtext _), H, I.kept (h' := h') (t' := tk) hk, ⟨u', rfl⟩, q⟩) h3
  | emp _ =>
    cases ru
    exact PySem.repr_of_reads' rd h2 (fun _ => nm) hg (by omega) (fun _ _ z => z) (fun h' u' tk hk => ⟨.str (rtext _), H, I.kept (h' := h') (t' := tk) hk, ⟨u', rfl⟩, q⟩) h3
theorem call_reprX (hu : Un X) (hg : X.A.guards = some []) : CallR X (.builtin "repr") (rReprX X) := by
  intro pins s σ H xs us Q I r h
  rcases h with h | h
  · exact call_reprD hu hg pins s σ H xs us Q I r h
  · exact call_reprE hu hg pins s σ H xs us Q I r h
theorem calls_reprX : CallS X (rReprX X) dReprE := by
  intro xs ds z F H p pa Q gs rs ez k
  unfold dReprE at ez
  split at ez <;> first | (cases ez; done) | skip
  rename_i d
  obtain ⟨v, rfl, r⟩ := reps1 rs
  split at ez
  · rename_i hd
    simp only [Option.some.injEq] at ez
    subst ez
    exact .inl ⟨v, d, rfl, hd, r.dp gs.sub (okRepr_iff.mp hd).1, k _ _ _ .refl gs (.str _)⟩
  · split at ez <;> first | (cases ez; done) | skip
    rename_i hd
    simp only [Option.some.injEq] at ez
    subst ez
    exact .inr ⟨v, d, rfl, hd, ⟨F, _, _, gs.sub, r⟩, k _ _ _ .refl gs (.str _)⟩
theorem b_reprE (hu : Un X) (hgd : X.A.guards = some []) (hm : X.mg "repr" = none) (ha : PMa X Wx (e :: es) ms) (hg : Gl X "repr" := by rfl) (he : starEach (e :: es) X.env = (false, eval e X.env) :: starEach es X.env := by rfl) (hpl : (backTo pos (starEach es X.env)).any (·.1) = false := by rfl) : PM X Wx (.Call (.Name "repr" p) (e :: es) [] pos) (mCall dReprE ms) := pm_callB (call_reprX hu hgd) calls_reprX hg hm boot_repr ha (by decide) (by decide) he hpl
end
/-- what repr shows, either way -/
def okX (d : D) : Bool := okRepr d || okE d
theorem dReprE_ok {d : D} (h : okX d = true) : dReprE [d] = some (.str (rtext d)) := by
  unfold okX at h
  simp only [Bool.or_eq_true] at h
  rcases h with h | h
  · simp [dReprE, h]
  · simp [dReprE, h]
theorem okX_of {d : D} (h : okRepr d = true) : okX d = true := by simp [okX, h]
end PF

namespace PF
open PySem PySem.Spec PyProof.Rows L2
/-! ### equal texts, equal data: numbers, truth values, None, within lists and tuples -/
mutual
def rp : D → Bool
  | .non | .bl _ | .int _ => true
  | .lst xs => rps xs
  | .tup xs => rps xs
  | .str _ | .scr _ | .pot _ | .emp => false
def rps : List D → Bool
  | [] => true
  | x :: xs => rp x && rps xs
end
theorem rps_all (xs : List D) : rps xs = xs.all rp := by
  induction xs with
  | nil => simp [rps]
  | cons x xs ih => simp [rps, ih]
def intc (i : Int) : List Nat := (toString i).toList.map Char.toNat
mutual
def ct : D → List Nat
  | .non => [78, 111, 110, 101]
  | .bl b => if b then [84, 114, 117, 101] else [70, 97, 108, 115, 101]
  | .int i => intc i
  | .lst xs => 91 :: (cj xs ++ [93])
  | .tup xs => 40 :: (cj xs ++ (if xs.length = 1 then [44, 41] else [41]))
  | .str _ | .scr _ | .pot _ | .emp => []
def cj : List D → List Nat
  | [] => []
  | x :: xs => ct x ++ cjt xs
def cjt : List D → List Nat
  | [] => []
  | x :: xs => 44 :: 32 :: (ct x ++ cjt xs)
end
theorem cj_cons (x : D) (xs : List D) : cj (x :: xs) = ct x ++ cjt xs := by simp only [cj]
theorem cp_lit (s : String) : (Str.ofString s).cps.toList = s.toList.map Char.toNat := signs_ofString s
theorem cp_app (a b : Str) : (a ++ b).cps.toList = a.cps.toList ++ b.cps.toList := by simp [Str.cps_append]
theorem cp_join (f : D → Str) : ∀ (xs : List D) (x : D), (∀ y ∈ x :: xs, (f y).cps.toList = ct y) → (Str.join ", " ((x :: xs).map f)).cps.toList = ct x ++ cjt xs
  | [], x, h => by
    show (Str.join ", " [f x]).cps.toList = _
    rw [join_one, h x List.mem_cons_self]; simp [cjt]
  | y :: ys, x, h => by
    show (Str.join ", " (f x :: f y :: ys.map f)).cps.toList = _
    rw [join_cons_cons, cp_app, cp_app, h x List.mem_cons_self]
    have := cp_join f ys y fun z hz => h z (List.mem_cons_of_mem _ hz)
    rw [List.map_cons] at this
    rw [this, cp_lit]
    simp [cjt]
theorem shownAll_map : ∀ xs : List D, PyData.shownAll (toPys xs) = xs.map rtext
  | [] => by simp [toPys, PyData.shownAll]
  | x :: xs => by simp [toPys, PyData.shownAll, shownAll_map xs, rtext]
mutual
theorem cp_rtext : ∀ d : D, rp d = true → (rtext d).cps.toList = ct d
  | .non, _ => by simp only [rtext, toPy, PyData.shown, ct, cp_lit]; decide
  | .bl b, _ => by cases b <;> simp only [rtext, toPy, PyData.shown, ct, cp_lit] <;> decide
  | .int i, _ => by simp only [rtext, toPy, PyData.shown, ct, cp_lit, intc]
  | .str _, h => by simp [rp] at h
  | .scr _, h => by simp [rp] at h
  | .pot _, h => by simp [rp] at h
  | .emp, h => by simp [rp] at h
  | .lst xs, h => by
    have hx : rps xs = true := by simpa [rp] using h
    have ih := cp_rtexts xs hx
    simp only [rtext, toPy, PyData.shown, ct, listText_eq_join, shownAll_map, cp_app, cp_lit]
    cases xs with
    | nil => simp only [List.map_nil, join_nil, cj]; decide
    | cons x xs => rw [cp_join rtext xs x ih, cj_cons]; simp
  | .tup xs, h => by
    have hx : rps xs = true := by simpa [rp] using h
    have ih := cp_rtexts xs hx
    simp only [rtext, toPy, PyData.shown, ct, tupleText, shownAll_map, cp_app, cp_lit, List.length_map]
    cases xs with
    | nil => simp only [List.map_nil, join_nil, cj]; decide
    | cons x xs =>
      rw [cp_join rtext xs x ih, cj_cons]
      by_cases hl : (x :: xs).length = 1
      · have : xs = [] := by simpa using hl
        subst this; simp
      · have : ¬ xs = [] := fun z => hl (by rw [z]; rfl)
        simp [this]
theorem cp_rtexts : ∀ ds : List D, rps ds = true → ∀ y ∈ ds, (rtext y).cps.toList = ct y
  | [], _ => fun y h => by cases h
  | x :: xs, h => by
    simp only [rps, Bool.and_eq_true] at h
    intro y hy
    rcases List.mem_cons.mp hy with e | hy
    · rw [e]; exact cp_rtext x h.1
    · exact cp_rtexts xs h.2 y hy
end
/-! ints -/
def isIc (c : Nat) : Bool := decide (c = 45) || (decide (48 ≤ c) && decide (c ≤ 57))
theorem intc_all (i : Int) : ∀ c ∈ intc i, isIc c = true := by
  intro c hc
  obtain ⟨ch, h1, rfl⟩ := List.mem_map.mp hc
  rcases int_sign i ch h1 with h | h
  · have := digit_range h
    unfold isIc
    simp [this]
  · subst h; decide
theorem intc_ne (i : Int) : intc i ≠ [] := by
  intro h
  have h1 : (toString i).toList = [] := List.map_eq_nil_iff.mp h
  rw [Int.toString_eq_repr, Int.repr_eq_if] at h1
  split at h1
  · rw [Nat.toList_repr] at h1
    exact absurd h1 (by simp)
  · simp at h1
theorem intc_inj {i j : Int} (h : intc i = intc j) : i = j := by
  have h1 : (toString i).toList = (toString j).toList := by
    have inj : ∀ a b : List Char, a.map Char.toNat = b.map Char.toNat → a = b := by
      intro a
      induction a with
      | nil => intro b e; cases b with
        | nil => rfl
        | cons _ _ => cases e
      | cons x a ih => intro b e; cases b with
        | nil => cases e
        | cons y b =>
          rw [List.map_cons, List.map_cons, List.cons.injEq] at e
          have : x = y := Char.toNat_inj.mp e.1
          rw [this, ih b e.2]
    exact inj _ _ h
  have h2 : toString i = toString j := String.toList_inj.mp h1
  rw [Int.toString_eq_repr, Int.toString_eq_repr] at h2
  exact Int.repr_injective h2
/-- what may follow -/
def Del (s : List Nat) : Prop := ∀ c r, s = c :: r → c = 44 ∨ c = 41 ∨ c = 93
theorem del_nil : Del [] := fun c r h => by cases h
theorem del_cons {c : Nat} {r : List Nat} (h : c = 44 ∨ c = 41 ∨ c = 93) : Del (c :: r) := fun c' r' e => by cases e; exact h
theorem tw_app {p : Nat → Bool} : ∀ (l s : List Nat), (∀ c ∈ l, p c = true) → (∀ c r, s = c :: r → p c = false) → (l ++ s).takeWhile p = l
  | [], s, _, h => by
    cases s with
    | nil => rfl
    | cons c r => simp [h c r rfl]
  | x :: l, s, h, h' => by
    rw [List.cons_append, List.takeWhile_cons, h x List.mem_cons_self]
    simp only [if_true]
    rw [tw_app l s (fun c hc => h c (List.mem_cons_of_mem _ hc)) h']
theorem del_ic {s : List Nat} (h : Del s) : ∀ c r, s = c :: r → isIc c = false := fun c r e => by
  rcases h c r e with rfl | rfl | rfl <;> decide
theorem int_cut {i j : Int} {s t : List Nat} (hs : Del s) (ht : Del t) (h : intc i ++ s = intc j ++ t) : i = j ∧ s = t := by
  have h1 := congrArg (List.takeWhile isIc) h
  rw [tw_app _ _ (intc_all i) (del_ic hs), tw_app _ _ (intc_all j) (del_ic ht)] at h1
  exact ⟨intc_inj h1, List.append_cancel_left (by rw [h1] at h; exact h)⟩
theorem intc_head (i : Int) : ∃ c r, intc i = c :: r ∧ isIc c = true := by
  cases e : intc i with
  | nil => exact absurd e (intc_ne i)
  | cons c r => exact ⟨c, r, rfl, intc_all i c (by rw [e]; exact List.mem_cons_self)⟩
/-- the first sign -/
def kd : D → Nat
  | .non => 78
  | .bl true => 84
  | .bl false => 70
  | .int _ => 0
  | .lst _ => 91
  | .tup _ => 40
  | _ => 1
def kc (c : Nat) : Nat := if isIc c = true then 0 else c
theorem ct_head : ∀ d : D, rp d = true → ∃ c r, ct d = c :: r ∧ kc c = kd d
  | .non, _ => ⟨_, _, by simp only [ct]; rfl, by decide⟩
  | .bl true, _ => ⟨_, _, by simp only [ct]; rfl, by decide⟩
  | .bl false, _ => ⟨_, _, by simp only [ct]; rfl, by decide⟩
  | .int i, _ => by
    obtain ⟨c, r, e, h⟩ := intc_head i
    exact ⟨c, r, by simp only [ct]; exact e, by simp [kc, h, kd]⟩
  | .lst xs, _ => ⟨91, _, by simp only [ct]; rfl, by simp [kc, kd, isIc]⟩
  | .tup xs, _ => ⟨40, _, by simp only [ct]; rfl, by simp [kc, kd, isIc]⟩
  | .str _, h => by simp [rp] at h
  | .scr _, h => by simp [rp] at h
  | .pot _, h => by simp [rp] at h
  | .emp, h => by simp [rp] at h
theorem ct_del {d : D} (h : rp d = true) {s : List Nat} {c : Nat} {r : List Nat} (hc : c = 44 ∨ c = 41 ∨ c = 93) (e : ct d ++ s = c :: r) : False := by
  obtain ⟨c', r', e1, e2⟩ := ct_head d h
  rw [e1, List.cons_append, List.cons.injEq] at e
  rw [e.1] at e2
  rcases hc with rfl | rfl | rfl <;> (revert e2; cases d <;> first | (rename_i b; cases b <;> simp [kc, kd, isIc]) | simp [kc, kd, isIc])
theorem same_kd {a b : D} (ha : rp a = true) (hb : rp b = true) {s t : List Nat} (h : ct a ++ s = ct b ++ t) : kd a = kd b := by
  obtain ⟨c, r, e, k⟩ := ct_head a ha
  obtain ⟨c', r', e', k'⟩ := ct_head b hb
  rw [e, e', List.cons_append, List.cons_append, List.cons.injEq] at h
  rw [← k, ← k', h.1]
mutual
theorem ct_cut : ∀ a b : D, rp a = true → rp b = true → ∀ s t : List Nat, Del s → Del t → ct a ++ s = ct b ++ t → a = b ∧ s = t
  | .non, b, ha, hb, s, t, hs, ht, h => by
    have k := same_kd ha hb h
    cases b <;> first | (simp only [kd] at k; contradiction) | skip
    · exact ⟨rfl, List.append_cancel_left h⟩
    · rename_i b; cases b <;> (simp only [kd] at k; contradiction)
  | .bl x, b, ha, hb, s, t, hs, ht, h => by
    have k := same_kd ha hb h
    cases b with
    | bl y => cases x <;> cases y <;> first | (simp only [kd] at k; contradiction) | exact ⟨rfl, List.append_cancel_left h⟩
    | non => cases x <;> (simp only [kd] at k; contradiction)
    | int i => cases x <;> (simp only [kd] at k; contradiction)
    | lst i => cases x <;> (simp only [kd] at k; contradiction)
    | tup i => cases x <;> (simp only [kd] at k; contradiction)
    | str i => simp [rp] at hb
    | scr i => simp [rp] at hb
    | pot i => simp [rp] at hb
    | emp => simp [rp] at hb
  | .int i, b, ha, hb, s, t, hs, ht, h => by
    have k := same_kd ha hb h
    cases b with
    | int j =>
      simp only [ct] at h
      obtain ⟨h1, h2⟩ := int_cut hs ht h
      exact ⟨by rw [h1], h2⟩
    | bl y => cases y <;> (simp only [kd] at k; contradiction)
    | non => simp only [kd] at k; contradiction
    | lst i => simp only [kd] at k; contradiction
    | tup i => simp only [kd] at k; contradiction
    | str i => simp [rp] at hb
    | scr i => simp [rp] at hb
    | pot i => simp [rp] at hb
    | emp => simp [rp] at hb
  | .lst xs, b, ha, hb, s, t, hs, ht, h => by
    have k := same_kd ha hb h
    cases b with
    | lst ys =>
      simp only [ct, List.cons_append, List.append_assoc, List.cons.injEq, true_and, List.nil_append] at h
      obtain ⟨h1, h2⟩ := cj_cut xs ys (by simpa [rp] using ha) (by simpa [rp] using hb) 93 (.inr (.inr rfl)) s t h
      exact ⟨by rw [h1], h2⟩
    | bl y => cases y <;> (simp only [kd] at k; contradiction)
    | non => simp only [kd] at k; contradiction
    | int i => simp only [kd] at k; contradiction
    | tup i => simp only [kd] at k; contradiction
    | str i => simp [rp] at hb
    | scr i => simp [rp] at hb
    | pot i => simp [rp] at hb
    | emp => simp [rp] at hb
  | .tup xs, b, ha, hb, s, t, hs, ht, h => by
    have k := same_kd ha hb h
    cases b with
    | tup ys =>
      have hx : rps xs = true := by simpa [rp] using ha
      have hy : rps ys = true := by simpa [rp] using hb
      simp only [ct, List.cons_append, List.append_assoc, List.cons.injEq, true_and] at h
      by_cases lx : xs.length = 1
      · by_cases ly : ys.length = 1
        · simp only [lx, ly, if_true, List.cons_append, List.nil_append] at h
          obtain ⟨h1, h2⟩ := cj_cut xs ys hx hy 44 (.inl ⟨⟨lx, ly⟩, rfl⟩) (41 :: s) (41 :: t) h
          exact ⟨by rw [h1], by simpa using h2⟩
        · exfalso
          simp only [lx, ly, if_true, if_false, List.cons_append, List.nil_append] at h
          match xs, lx, hx, h with
          | [x], _, hx, h =>
            have hx1 : rp x = true := by simpa [rps] using hx
            simp only [cj, cjt, List.append_nil] at h
            match ys, ly, hy, h with
            | [], _, _, h =>
              simp only [cj, List.nil_append] at h
              exact ct_del hx1 (.inr (.inl rfl)) h
            | [y], ly, _, _ => exact absurd rfl ly
            | y :: y2 :: ys, _, hy, h =>
              simp only [rps, Bool.and_eq_true] at hy
              simp only [cj, cjt, List.append_assoc, List.cons_append] at h
              have := (ct_cut x y hx1 hy.1 _ _ (del_cons (.inl rfl)) (del_cons (.inl rfl)) h).2
              simp at this
      · by_cases ly : ys.length = 1
        · exfalso
          simp only [lx, ly, if_true, if_false, List.cons_append, List.nil_append] at h
          match ys, ly, hy, h with
          | [y], _, hy, h =>
            have hy1 : rp y = true := by simpa [rps] using hy
            simp only [cj, cjt, List.append_nil] at h
            match xs, lx, hx, h with
            | [], _, _, h =>
              simp only [cj, List.nil_append] at h
              exact ct_del hy1 (.inr (.inl rfl)) h.symm
            | [x], lx, _, _ => exact absurd rfl lx
            | x :: x2 :: xs, _, hx, h =>
              simp only [rps, Bool.and_eq_true] at hx
              simp only [cj, cjt, List.append_assoc, List.cons_append] at h
              have := (ct_cut x y hx.1 hy1 _ _ (del_cons (.inl rfl)) (del_cons (.inl rfl)) h).2
              simp at this
        · simp only [lx, ly, if_false, List.cons_append, List.nil_append] at h
          obtain ⟨h1, h2⟩ := cj_cut xs ys hx hy 41 (.inr (.inl rfl)) s t h
          exact ⟨by rw [h1], h2⟩
    | bl y => cases y <;> (simp only [kd] at k; contradiction)
    | non => simp only [kd] at k; contradiction
    | int i => simp only [kd] at k; contradiction
    | lst i => simp only [kd] at k; contradiction
    | str i => simp [rp] at hb
    | scr i => simp [rp] at hb
    | pot i => simp [rp] at hb
    | emp => simp [rp] at hb
  | .str _, _, ha, _, _, _, _, _, _ => by simp [rp] at ha
  | .scr _, _, ha, _, _, _, _, _, _ => by simp [rp] at ha
  | .pot _, _, ha, _, _, _, _, _, _ => by simp [rp] at ha
  | .emp, _, ha, _, _, _, _, _, _ => by simp [rp] at ha
theorem cj_cut : ∀ xs ys : List D, rps xs = true → rps ys = true → ∀ e : Nat, ((xs.length = 1 ∧ ys.length = 1) ∧ e = 44) ∨ (e = 41 ∨ e = 93) → ∀ s t : List Nat, cj xs ++ e :: s = cj ys ++ e :: t → xs = ys ∧ s = t
  | [], [], _, _, e, he, s, t, h => by simpa [cj] using h
  | [], y :: ys, _, hy, e, he, s, t, h => by
    simp only [rps, Bool.and_eq_true] at hy
    simp only [cj, List.nil_append, List.append_assoc] at h
    exact (ct_del hy.1 (by rcases he with he | he <;> omega) h.symm).elim
  | x :: xs, [], hx, _, e, he, s, t, h => by
    simp only [rps, Bool.and_eq_true] at hx
    simp only [cj, List.nil_append, List.append_assoc] at h
    exact (ct_del hx.1 (by rcases he with he | he <;> omega) h).elim
  | x :: xs, y :: ys, hx, hy, e, he, s, t, h => by
    simp only [rps, Bool.and_eq_true] at hx hy
    simp only [cj, List.append_assoc] at h
    have de : e = 44 ∨ e = 41 ∨ e = 93 := by rcases he with he | he <;> omega
    have dl : ∀ (zs : List D) (r : List Nat), Del (cjt zs ++ e :: r) := fun zs r => by
      cases zs with
      | nil => exact del_cons de
      | cons z zs => simp only [cjt, List.cons_append]; exact del_cons (.inl rfl)
    obtain ⟨h1, h2⟩ := ct_cut x y hx.1 hy.1 _ _ (dl xs s) (dl ys t) h
    obtain ⟨h3, h4⟩ := cjt_cut xs ys hx.2 hy.2 e (by
      rcases he with he | he
      · exact .inl ⟨List.eq_nil_of_length_eq_zero (by simpa using he.1.1), List.eq_nil_of_length_eq_zero (by simpa using he.1.2)⟩
      · exact .inr he) s t h2
    exact ⟨by rw [h1, h3], h4⟩
theorem cjt_cut : ∀ xs ys : List D, rps xs = true → rps ys = true → ∀ e : Nat, (xs = [] ∧ ys = []) ∨ (e = 41 ∨ e = 93) → ∀ s t : List Nat, cjt xs ++ e :: s = cjt ys ++ e :: t → xs = ys ∧ s = t
  | [], [], _, _, e, he, s, t, h => by simpa [cjt] using h
  | [], y :: ys, _, hy, e, he, s, t, h => by
    simp only [cjt, List.nil_append, List.cons_append, List.cons.injEq] at h
    rcases he with he | he
    · cases he.2
    · omega
  | x :: xs, [], hx, _, e, he, s, t, h => by
    simp only [cjt, List.nil_append, List.cons_append, List.cons.injEq] at h
    rcases he with he | he
    · cases he.1
    · omega
  | x :: xs, y :: ys, hx, hy, e, he, s, t, h => by
    simp only [rps, Bool.and_eq_true] at hx hy
    simp only [cjt, List.cons_append, List.append_assoc, List.cons.injEq, true_and] at h
    have he' : e = 41 ∨ e = 93 := by
      rcases he with he | he
      · cases he.1
      · exact he
    have dl : ∀ (zs : List D) (r : List Nat), Del (cjt zs ++ e :: r) := fun zs r => by
      cases zs with
      | nil => exact del_cons (.inr he')
      | cons z zs => simp only [cjt, List.cons_append]; exact del_cons (.inl rfl)
    obtain ⟨h1, h2⟩ := ct_cut x y hx.1 hy.1 _ _ (dl xs s) (dl ys t) h
    obtain ⟨h3, h4⟩ := cjt_cut xs ys hx.2 hy.2 e (.inr he') s t h2
    exact ⟨by rw [h1, h3], h4⟩
end
/-- equal texts, equal data -/
theorem rtext_inj {a b : D} (ha : rp a = true) (hb : rp b = true) (h : rtext a = rtext b) : a = b := by
  have h1 := cp_rtext a ha
  have h2 := cp_rtext b hb
  rw [h] at h1
  exact (ct_cut a b ha hb [] [] del_nil del_nil (by rw [← h1, ← h2])).1
end PF

namespace PF
open PySem PySem.Spec PyProof.Rows L2
/-! ### in, in a tuple of flat items -/
def vOf : D → V
  | .bl b => .bl b
  | .int i => .int i
  | .str x => .str x
  | _ => .non
def flatD : D → Bool
  | .non | .bl _ | .int _ | .str _ => true
  | _ => false
theorem vOf_rep {K : PySem.W.Frag} {F : Hp} {g : Nat} {pa : Option Addr} {v : V} {d : D} (r : Rep K F g pa v d) (h : flatD d = true) : v = vOf d ∧ flatV v = true := by
  cases r <;> first | (simp [flatD] at h; done) | exact ⟨rfl, rfl⟩
theorem vOf_reps {K : PySem.W.Frag} {F : Hp} {g : Nat} {pa : Option Addr} : ∀ {vs : List V} {ds : List D}, Reps K F g pa vs ds → ds.all flatD = true → vs = ds.map vOf ∧ vs.all flatV = true
  | [], [], _, _ => ⟨rfl, rfl⟩
  | [], _ :: _, h, _ => by have := h.1; simp at this
  | _ :: _, [], h, _ => by have := h.1; simp at this
  | v :: vs, d :: ds, h, hp => by
    simp only [List.all_cons, Bool.and_eq_true] at hp
    obtain ⟨h1, h2⟩ := vOf_rep h.head hp.1
    obtain ⟨h3, h4⟩ := vOf_reps h.tail hp.2
    exact ⟨by rw [h1, h3]; rfl, by simp [h2, h4]⟩
/-- in, in a list of data or a tuple of flat data -/
def dInX : D → D → Option Bool
  | d, .tup xs => if flatD d && xs.all flatD then some (inV (vOf d) (xs.map vOf)) else none
  | d, e => dIn d e
def dNotInX : D → D → Option Bool := fun d e => (dInX d e).map fun b => !b
@[simp] theorem dInX_lst (d : D) (xs : List D) : dInX d (.lst xs) = dIn d (.lst xs) := rfl
@[simp] theorem dNotInX_lst (d : D) (xs : List D) : dNotInX d (.lst xs) = dNotIn d (.lst xs) := rfl
section
variable {X : Cx} {Wx : WX} {a b : Expr} {ma mb : M D} {pos : Pos}
theorem dIn_lst {d e : D} {z : Bool} (h : dIn d e = some z) : ∃ xs, e = .lst xs := by
  cases e <;> first | exact ⟨_, rfl⟩ | (simp [dIn] at h)
theorem dInX_cases {d e : D} {z : Bool} (h : dInX d e = some z) : dIn d e = some z ∨ ∃ xs, e = .tup xs ∧ flatD d = true ∧ xs.all flatD = true ∧ z = inV (vOf d) (xs.map vOf) := by
  unfold dInX at h
  split at h
  · rename_i d xs
    split at h
    · rename_i hc
      simp only [Bool.and_eq_true] at hc
      simp only [Option.some.injEq] at h
      exact .inr ⟨xs, rfl, hc.1, hc.2, h.symm⟩
    · cases h
  · exact .inl h
theorem cmps_inX : CmpS X (fun x y H Q => rInD X.K x y H Q ∨ rIn X.K false x y H Q) dInX := by
  intro x y d e z F H p pa Q gs rx ry ez k
  rcases dInX_cases ez with h | ⟨xs, rfl, h1, h2, h3⟩
  · exact .inl (cmps_in x y d e z F H p pa Q gs rx ry h k)
  · obtain ⟨a, vs, rfl, ha, _, rs⟩ := ry.tup_inv
    obtain ⟨e1, f1⟩ := vOf_rep rx h1
    obtain ⟨e2, f2⟩ := vOf_reps rs h2
    refine .inr ⟨a, vs, rfl, .inr (SqT.of (gs.sub _ _ ha)), f1, f2, ?_⟩
    rw [e1, e2]
    simp only [Bool.false_eq_true, if_false]
    rw [← h3]; exact k
theorem cmps_notInX : CmpS X (fun x y H Q => rNotInD X.K x y H Q ∨ rIn X.K true x y H Q) dNotInX := by
  intro x y d e z F H p pa Q gs rx ry ez k
  unfold dNotInX at ez
  cases q : dInX d e with
  | none => rw [q] at ez; cases ez
  | some w =>
    rw [q] at ez
    have ez : (!w) = z := by simpa using ez
    rcases dInX_cases q with h | ⟨xs, rfl, h1, h2, h3⟩
    · exact .inl (cmps_notIn x y d e z F H p pa Q gs rx ry (by unfold dNotIn; rw [h]; simp [ez]) k)
    · obtain ⟨a, vs, rfl, ha, _, rs⟩ := ry.tup_inv
      obtain ⟨e1, f1⟩ := vOf_rep rx h1
      obtain ⟨e2, f2⟩ := vOf_reps rs h2
      refine .inr ⟨a, vs, rfl, .inr (SqT.of (gs.sub _ _ ha)), f1, f2, ?_⟩
      rw [e1, e2]
      simp only [if_true]
      rw [← h3, ez]; exact k
theorem pmt_inX (hu : Un X) (ha : PM X Wx a ma) (hb : PM X Wx b mb) (hm : behindInMarks .In b = false := by rfl) : PMt X Wx (.Compare a [.In] [b] pos) (mCmp dInX ma mb) := pmt_cmp ((op_inD hu).or op_in_seq) cmps_inX ha hb hm
theorem pmt_notInX (hu : Un X) (ha : PM X Wx a ma) (hb : PM X Wx b mb) (hm : behindInMarks .NotIn b = false := by rfl) : PMt X Wx (.Compare a [.NotIn] [b] pos) (mCmp dNotInX ma mb) := pmt_cmp ((op_notInD hu).or op_notIn_seq) cmps_notInX ha hb hm
theorem pm_inX (hu : Un X) (ha : PM X Wx a ma) (hb : PM X Wx b mb) (hm : behindInMarks .In b = false := by rfl) : PM X Wx (.Compare a [.In] [b] pos) (mB (mCmp dInX ma mb)) := pm_cmp ((op_inD hu).or op_in_seq) cmps_inX ha hb hm
theorem pm_notInX (hu : Un X) (ha : PM X Wx a ma) (hb : PM X Wx b mb) (hm : behindInMarks .NotIn b = false := by rfl) : PM X Wx (.Compare a [.NotIn] [b] pos) (mB (mCmp dNotInX ma mb)) := pm_cmp ((op_notInD hu).or op_notIn_seq) cmps_notInX ha hb hm
end
/-- whole numbers in a tuple of whole numbers -/
theorem nInT (k : Nat) (ns : List Nat) : dInX (dI k) (.tup (ns.map dI)) = some (decide (k ∈ ns)) := by
  have h : flatD (dI k) = true := rfl
  have h2 : (ns.map dI).all flatD = true := by
    rw [List.all_eq_true]; intro x hx; obtain ⟨n, _, rfl⟩ := List.mem_map.mp hx; rfl
  simp only [dInX, h, h2, Bool.and_self, if_true]
  congr 1
  unfold inV
  rw [List.map_map]
  induction ns with
  | nil => rfl
  | cons n ns ih =>
    have h2' : (ns.map dI).all flatD = true := by simp only [List.map_cons, List.all_cons, Bool.and_eq_true] at h2; exact h2.2
    rw [List.map_cons, List.any_cons, ih h2']
    have e : eqV ((vOf ∘ dI) n) (vOf (dI k)) = decide (k = n) := by
      show ((n : Int) == (k : Int)) = _
      by_cases z : k = n
      · subst z; simp
      · have : ¬ (n : Int) = (k : Int) := by omega
        simp [z, this]
    rw [e]
    by_cases z : k = n <;> simp [z]
end PF

namespace PF
open PySem PySem.Spec PyProof.Rows L2
/-! ### sorted(dict(pairs)): the keys, each once, rising -/
/-- what is put into a dict's keys, in the order of first sight -/
def seen : List Int → List Int → List Int
  | acc, [] => acc
  | acc, k :: ks => seen (if k ∈ acc then acc else acc ++ [k]) ks
theorem keys_put (acc : List (Key × V)) (ks : List Int) (h : acc.map (·.1) = ks.map Sum.inl) (k : Int) (v : V) : (putK acc (Sum.inl k) v).map (·.1) = (if k ∈ ks then ks else ks ++ [k]).map Sum.inl := by
  have hany : (acc.any fun kv => decide (kv.1 = (Sum.inl k : Key))) = decide (k ∈ ks) := by
    have e1 : (acc.any fun kv => decide (kv.1 = (Sum.inl k : Key))) = (acc.map (·.1)).any fun x => decide (x = (Sum.inl k : Key)) := by rw [List.any_map]; rfl
    rw [e1, h, List.any_map, Bool.eq_iff_iff]
    simp only [List.any_eq_true, Function.comp, decide_eq_true_eq, Sum.inl.injEq]
    constructor
    · rintro ⟨x, hx, rfl⟩; exact hx
    · exact fun hk => ⟨k, hk, rfl⟩
  unfold putK
  rw [hany]
  by_cases hk : k ∈ ks
  · simp only [hk, decide_true, if_true]
    rw [List.map_map, ← h]
    refine List.map_congr_left fun kv _ => ?_
    simp only [Function.comp]
    split <;> rfl
  · simp only [hk, decide_false, Bool.false_eq_true, if_false]
    rw [List.map_append, h, List.map_append]
    rfl
theorem keys_merge : ∀ (kvs : List (Key × V)) (ns : List Int) (acc : List (Key × V)) (ks : List Int), kvs.map (·.1) = ns.map Sum.inl → acc.map (·.1) = ks.map Sum.inl → (mergeK acc kvs).map (·.1) = (seen ks ns).map Sum.inl
  | [], [], acc, ks, _, h => h
  | [], _ :: _, _, _, h, _ => by cases h
  | _ :: _, [], _, _, h, _ => by cases h
  | (k', v) :: kvs, n :: ns, acc, ks, h, h' => by
    simp only [List.map_cons, List.cons.injEq] at h
    have e : k' = Sum.inl n := h.1
    subst e
    have ih := keys_merge kvs ns (putK acc (Sum.inl n) v) (if n ∈ ks then ks else ks ++ [n]) h.2 (keys_put acc ks h' n v)
    unfold mergeK at ih ⊢
    rw [List.foldl_cons]
    exact ih
/-- sorted of a dict whose keys are ints, however many -/
theorem call_sortedDX {X : Cx} (hcalm : X.calm = true) : CallR X (.builtin "sorted") (fun xs H Q => ∃ (a : Addr) (kvs : List (Key × V)) (ks : List Int), xs = [.ref a] ∧ H a = some (.dK kvs) ∧ kvs.map (·.1) = ks.map Sum.inl ∧
    ∀ (ys : List Int) (p : Addr), ys.Perm ks → ys.Pairwise (· ≤ ·) → H p = none → Q (.ref p) (upd H p (.lst (ys.map V.int)))) := by
  intro pins s σ H xs us Q I r q
  obtain ⟨a, kvs, ks, rfl, hd, hks, q⟩ := q
  obtain ⟨u, rfl, rx⟩ := vals1 r
  cases rx
  obtain ⟨z, lo, vs, rel, dd⟩ := dk_rd I.hok (.inl hd)
  obtain ⟨ep, hat⟩ := dd.dictAt
  have hkeys : vs.map (·.1) = ks.map Sum.inl := rel.keys.symm.trans hks
  have hl : vs.length = ks.length := by simpa using congrArg List.length hkeys
  have hl2 : kvs.length = ks.length := by simpa using congrArg List.length hks
  have h16 : vs.length ≤ sizeLine := by omega
  refine Calls.call_function_entry PyProof.Rows.kind_sorted PyProof.Rows.plain_sorted PyProof.Rows.entry_sorted (PyProof.Rows.args_sorted1 _) ?_
  unfold Builtin.«sorted»
  refine wpAny_bind (m := checkCount "sorted" 1 1 _) (wpAny_pure ?_)
  refine wpAny_bind (PySem.W.kdu_collect (A := X.A.in1) (PySem.W.kdl_dict (knd := mixKind X.prog X.w) (kvs := vs) (ep := ep) lo) (I.ok.hd hcalm) hat h16
    fun h' tk acc hk hacc => ?_)
  have hal : acc.toList.length = ks.length := by rw [Array.length_toList, hacc.1]; exact hl
  have hS : IntsAre acc.toList ks := ints_each hal fun j v e => by
    obtain ⟨k, x, e1, e2⟩ := hacc.2 j v (by rw [← Array.getElem?_toList]; exact e)
    have e3 : (vs.map (·.1))[j]? = some k := by rw [List.getElem?_map, e1]; rfl
    rw [hkeys, List.getElem?_map] at e3
    cases e4 : ks[j]? with
    | none => rw [e4] at e3; cases e3
    | some y =>
      rw [e4] at e3
      obtain rfl : Sum.inl y = k := Option.some.inj e3
      rcases keyIs_shape (show keyIs (Sum.inl y) v = true from e2) with ⟨i, t, ek, ev⟩ | ⟨z, t, ek, ev⟩ <;> cases ek
      exact ⟨y, t, rfl, ev⟩
  have I1 : Inv X pins σ H { s with heap := h', toks := tk } := I.kept hk
  have hz2 : acc.toList.length ≤ sizeLine := by omega
  refine wpAny_bind (wpAny_newList ?_ hz2)
  have hoL : (h'.push (seqObj "list" acc.toList.toArray 0)).get? h'.objs.size = some (seqObj "list" acc.toList.toArray 0) :=
    Heap.get?_push_size _ rfl
  show wpAny _ _ _ _ _ { s with heap := h'.push (seqObj "list" acc.toList.toArray 0), toks := tk }
  refine wpAny_bind (wpAny_holding (wpAny_call_entry PyProof.Rows.slot_list_sort ⟨_, hoL, rfl⟩ PyProof.Rows.entry_list_sort
    (SrtO.list_sort_ord SrtO.swo_int (s := { s with heap := h'.push (seqObj "list" acc.toList.toArray 0), toks := tk }) hoL hz2 (fun h2 => SrtO.ints_sortable hS h2) fun out g1 g2 => ⟨.none, rfl, ?_⟩) (PyProof.Rows.args_list_sort _)))
  obtain ⟨k1, k2, k3⟩ := SrtO.ints_out hS g1 g2
  obtain ⟨e', he'⟩ := PyProof.Rows.sortedHeap_at (vs := acc.toList) (out := out.toArray) hoL
  have hlen : ((out.map SrtO.iv).map V.int).length ≤ sizeLine := by
    rw [List.length_map, k2.length_eq, ← hl]; exact h16
  refine wpAny_pure ⟨_, rfl, .ref h'.objs.size, upd H h'.objs.size (.lst ((out.map SrtO.iv).map V.int)), I1.laid (t' := tk) (fun b u e => ?_) (Nat.le_refl _)
    (show ObjOk X.prog X.w _ _ _ (.lst ((out.map SrtO.iv).map V.int)) from ⟨hlen, out, e', vals_of_ints k1, he'⟩), rfl, q _ _ k2 k3 (I1.hok.fresh (Nat.le_refl _))⟩
  have hb : b < h'.objs.size := Heap.lt_size e
  rw [PyProof.Rows.sortedHeap_old (Nat.ne_of_lt hb) (by rw [size_push']; exact Nat.lt_succ_of_lt hb)]
  exact Heap.get?_push_of_some _ e
/-- the first parts of pairs -/
def fsts : List D → Option (List Int)
  | [] => some []
  | .tup [.int k, _] :: r => (fsts r).map (k :: ·)
  | _ => none
def dSdict : List D → Option (List D)
  | [.lst xs] => (fsts xs).map fun ns => (srt (seen [] ns)).map .int
  | _ => none
theorem fsts_cons {x : D} {xs : List D} {ns : List Int} (h : fsts (x :: xs) = some ns) : ∃ k v ms, x = .tup [.int k, v] ∧ fsts xs = some ms ∧ ns = k :: ms := by
  unfold fsts at h
  split at h
  · rename_i e; cases e
  · rename_i k v r e
    cases e
    cases q : fsts xs with
    | none => rw [q] at h; cases h
    | some ms => rw [q] at h; simp only [Option.map_some, Option.some.injEq] at h; exact ⟨k, v, ms, rfl, rfl, h.symm⟩
  · cases h
theorem fsts_pairs {K : PySem.W.Frag} {F H : Hp} {g : Nat} {pa : Option Addr} (sub : ∀ a o, F a = some o → H a = some o) : ∀ {xs : List D} {vs : List V} {ns : List Int}, Reps K F g pa vs xs → fsts xs = some ns →
    ∃ (ps : List Addr) (kvs : List (Key × V)), vs = ps.map V.ref ∧ Paired (fun p kv => SqT K H p [kV kv.1, kv.2]) ps kvs ∧ kvs.map (·.1) = ns.map Sum.inl
  | [], [], ns, _, h => by
    simp only [fsts, Option.some.injEq] at h
    subst h
    exact ⟨[], [], rfl, .nil, rfl⟩
  | [], _ :: _, _, r, _ => by have := r.1; simp at this
  | _ :: _, [], _, r, _ => by have := r.1; simp at this
  | x :: xs, v :: vs, ns, r, h => by
    obtain ⟨k, y, ms, rfl, h1, rfl⟩ := fsts_cons h
    obtain ⟨ps, kvs, rfl, hp, hk⟩ := fsts_pairs sub r.tail h1
    obtain ⟨a, ws, rfl, ha, _, rs⟩ := r.head.tup_inv
    rcases rs.cases with ⟨_, z⟩ | ⟨w1, y1, ws1, ys1, rfl, z, r1, rs1⟩
    · cases z
    cases z
    rcases rs1.cases with ⟨_, z⟩ | ⟨w2, y2, ws2, ys2, rfl, z, r2, rs2⟩
    · cases z
    cases z
    have e2 : ws2 = [] := by
      rcases rs2.cases with ⟨e, _⟩ | ⟨_, _, _, _, _, z, _⟩
      · exact e
      · cases z
    subst e2
    cases r1
    exact ⟨a :: ps, (Sum.inl k, w2) :: kvs, rfl, .cons (SqT.of (sub _ _ ha)) hp, by simp [hk]⟩
theorem dSdict_some {ds z : List D} (h : dSdict ds = some z) : ∃ xs ns, ds = [.lst xs] ∧ fsts xs = some ns ∧ z = (srt (seen [] ns)).map .int := by
  unfold dSdict at h
  split at h
  · rename_i xs
    cases q : fsts xs with
    | none => rw [q] at h; cases h
    | some ns => rw [q] at h; simp only [Option.map_some, Option.some.injEq] at h; exact ⟨xs, ns, rfl, q, h.symm⟩
  · cases h
theorem fsts_len : ∀ {xs : List D} {ns : List Int}, fsts xs = some ns → ns.length = xs.length
  | [], ns, h => by simp only [fsts, Option.some.injEq] at h; subst h; rfl
  | x :: xs, ns, h => by
    obtain ⟨k, y, ms, rfl, h1, rfl⟩ := fsts_cons h
    simp [fsts_len h1]
theorem seen_len : ∀ (ns acc : List Int), (seen acc ns).length ≤ acc.length + ns.length
  | [], acc => Nat.le_refl _
  | n :: ns, acc => by
    have := seen_len ns (if n ∈ acc then acc else acc ++ [n])
    simp only [seen, List.length_cons]
    split at this <;> simp at this ⊢ <;> simp_all <;> omega
section
variable {X : Cx} {Wx : WX} {e : Expr} {ms : M (List D)} {p p2 pos pos2 : Pos}
theorem pmo_sdict (hc : X.calm = true) (hm : X.mg "sorted" = none) (hm2 : X.mg "dict" = none) (ha : PMa X Wx [e] ms) (hg : Gl X "sorted" := by rfl) (hg2 : Gl X "dict" := by rfl)
    (he : starEach [e] X.env = (false, eval e X.env) :: starEach [] X.env := by rfl) (hpl : (backTo pos2 (starEach [] X.env)).any (·.1) = false := by rfl)
    (he2 : starEach [.Call (.Name "dict" p2) [e] [] pos2] X.env = (false, eval (.Call (.Name "dict" p2) [e] [] pos2) X.env) :: starEach [] X.env := by rfl) (hpl2 : (backTo pos (starEach [] X.env)).any (·.1) = false := by rfl) :
    PMo X Wx (.Call (.Name "sorted" p) [.Call (.Name "dict" p2) [e] [] pos2] [] pos) (mLst dSdict ms) :=
  ⟨(pe_callB (call_sortedDX hc) hg hm boot_sorted (pa_cons (pe_callTy (call_dictP hc) hg2 hm2 PyProof.Rows.boot_dict ha.pa (by decide) (by decide) he hpl) pa_nil he2) (by decide) (by decide) he2 hpl2).imp fun σ H Q ⟨F, pa, p, ρ, gs, s, o⟩ => by
    refine TMa.of gs s ((Out.bindS .refl o).mono fun ds p1 F1 H1 pa1 _ gs1 ⟨gr1, o1⟩ s1 vs rs => ?_)
    obtain ⟨z, ez, o2⟩ := o1.opt
    obtain ⟨xs, ns, rfl, q, rfl⟩ := dSdict_some ez
    obtain ⟨v, rfl, r⟩ := reps1 rs
    obtain ⟨a, ws, rfl, h1, hz, rw1⟩ := r.lstH gs1
    obtain ⟨ps, kvs, rfl, hp, hk⟩ := fsts_pairs gs1.sub rw1 q
    refine ⟨a, ps, kvs, rfl, SqL.of h1, hp, fun dd hdd => ?_⟩
    have hkey := keys_merge kvs ns [] [] hk rfl
    refine ⟨dd, mergeK [] kvs, seen [] ns, rfl, upd_same, hkey, fun ys l hperm hsort hl => ?_⟩
    have e : ys = srt (seen [] ns) := sorted_unique (hperm.trans (srt_perm _).symm) hsort (srt_sorted _)
    subst e
    have gs2 := gs1.allocO (o := HO.dK (mergeK [] kvs)) hdd
    have gr2 := gr1.trans (Gr.allocO (o := HO.dK (mergeK [] kvs)) hdd)
    refine out_fresh gr2 gs2 o2 hl ?_ (reps_int_map _)
    rw [List.length_map, (srt_perm _).length_eq]
    have h3 := seen_len ns []
    have h4 := fsts_len q
    simp only [List.length_nil] at h3
    omega⟩
end
end PF

namespace PF
open PySem PySem.Spec PyProof.Rows L2
section
variable {X : Cx} {En : Ent} {Wx : WX} {c a : Expr} {mt : M Bool} {ma : M D} {x : Str} {i : Nat} {p1 p2 p3 : Pos}
/-! ### return a if c else x, x an own list -/
theorem own_ret {K : PySem.W.Frag} {F H : Hp} {pa : Option Addr} {p : Pst} {σ : L2.St} {ρ : Sl} {Dn : Ends} (s : SS K En F H pa p σ ρ) {mg : Str → Option Value} (o : SOut K mg En Wx F p.g pa Dn (cretown i ρ p)) : ∃ v, σ[i]? = some (some v) ∧ Dn.rt v H := by
  unfold cretown at o
  cases q : ρ[i]? with
  | none => rw [q] at o; exact o.elim
  | some w =>
    rw [q] at o
    cases w with
    | none => exact o.elim
    | some w =>
      cases w with
      | val d => exact o.elim
      | own xs =>
        obtain ⟨v, e1, a, vs, rfl, h2, h3, h4, h5, h6⟩ := s.sr.rep i _ q
        exact ⟨_, e1, o _ F H pa .refl s.gr s.gs ⟨a, vs, xs, rfl, rfl, s.nw i xs _ q e1 a rfl, h2, h3, h4, h5, h6⟩⟩
theorem cs_retif_vo (hc : PMt X Wx c mt) (ha : PM X Wx a ma) (h : PE X (.Name x p1) (tVar i)) : PMs X En Wx (.Return (some (.IfExp c a (.Name x p1) p2)) p3) (cif mt (cret ma) (cretown i)) :=
  ⟨(ps_ret (pe_ifExp hc.pt ha.pe h)).imp fun Dn σ H ⟨F, pa, p, ρ, s, o⟩ => by
    refine ⟨F, pa, p, ρ, s.gs, s.sr, (o.expr s).mono fun k p' F' H' pa' gr gs ⟨s', o'⟩ => ?_⟩
    cases k with
    | true =>
      simp only [if_true] at o' ⊢
      exact tm_s s' o' fun v d p' F' H' pa' s' _ r o' => o' v F' H' pa' .refl s'.gr s'.gs r
    | false =>
      simp only [Bool.false_eq_true, if_false] at o' ⊢
      exact own_ret s' o'⟩
theorem cs_retif_ov (hc : PMt X Wx c mt) (h : PE X (.Name x p1) (tVar i)) (ha : PM X Wx a ma) : PMs X En Wx (.Return (some (.IfExp c (.Name x p1) a p2)) p3) (cif mt (cretown i) (cret ma)) :=
  ⟨(ps_ret (pe_ifExp hc.pt h ha.pe)).imp fun Dn σ H ⟨F, pa, p, ρ, s, o⟩ => by
    refine ⟨F, pa, p, ρ, s.gs, s.sr, (o.expr s).mono fun k p' F' H' pa' gr gs ⟨s', o'⟩ => ?_⟩
    cases k with
    | true =>
      simp only [if_true] at o' ⊢
      exact own_ret s' o'
    | false =>
      simp only [Bool.false_eq_true, if_false] at o' ⊢
      exact tm_s s' o' fun v d p' F' H' pa' s' _ r o' => o' v F' H' pa' .refl s'.gr s'.gs r⟩
end
end PF

namespace HeadT
open PySem PySem.Spec PyProof.Rows L2
def top (i : Nat) : Stmt := PySem.Challenge.pw_wholegrids_k91_whole_logarithms_and_part.main.body.getD i (.Pass ⟨0, 0, 0, 0⟩)
abbrev s_is_integer : Stmt := top 7
def d_is_integer : He.DefD := ⟨("is_integer", none), "is_integer", "is_integer", defArgs s_is_integer, defBody s_is_integer, defScope s_is_integer, [], []⟩
abbrev s_is_within : Stmt := top 8
def d_is_within : He.DefD := ⟨("is_within", none), "is_within", "is_within", defArgs s_is_within, defBody s_is_within, defScope s_is_within, [], []⟩
abbrev s_is_list : Stmt := top 9
def d_is_list : He.DefD := ⟨("is_list", none), "is_list", "is_list", defArgs s_is_list, defBody s_is_list, defScope s_is_list, [], []⟩
abbrev s_divisor : Stmt := top 10
def d_divisor : He.DefD := ⟨("divisor", none), "divisor", "divisor", defArgs s_divisor, defBody s_divisor, defScope s_divisor, [], []⟩
abbrev s_check_multiplier : Stmt := top 13
def d_check_multiplier : He.DefD := ⟨("check_multiplier", none), "check_multiplier", "check_multiplier", defArgs s_check_multiplier, defBody s_check_multiplier, defScope s_check_multiplier, [], []⟩
abbrev s_check_remainder : Stmt := top 14
def d_check_remainder : He.DefD := ⟨("check_remainder", none), "check_remainder", "check_remainder", defArgs s_check_remainder, defBody s_check_remainder, defScope s_check_remainder, [], []⟩
abbrev s_is_unit_of : Stmt := top 15
def d_is_unit_of : He.DefD := ⟨("is_unit_of", none), "is_unit_of", "is_unit_of", defArgs s_is_unit_of, defBody s_is_unit_of, defScope s_is_unit_of, [], []⟩
abbrev s_check_unit : Stmt := top 16
def d_check_unit : He.DefD := ⟨("check_unit", none), "check_unit", "check_unit", defArgs s_check_unit, defBody s_check_unit, defScope s_check_unit, [], []⟩
abbrev s_units_of : Stmt := top 17
def d_units_of : He.DefD := ⟨("units_of", none), "units_of", "units_of", defArgs s_units_of, defBody s_units_of, defScope s_units_of, [], []⟩
abbrev s_power_by : Stmt := top 18
def d_power_by : He.DefD := ⟨("power_by", none), "power_by", "power_by", defArgs s_power_by, defBody s_power_by, defScope s_power_by, [], []⟩
abbrev s_order_by_steps : Stmt := top 19
def d_order_by_steps : He.DefD := ⟨("order_by_steps", none), "order_by_steps", "order_by_steps", defArgs s_order_by_steps, defBody s_order_by_steps, defScope s_order_by_steps, [], []⟩
abbrev s_units : Stmt := top 20
def d_units : He.DefD := ⟨("units", none), "units", "units", defArgs s_units, defBody s_units, defScope s_units, [], []⟩
abbrev s_order_of_unit : Stmt := top 21
def d_order_of_unit : He.DefD := ⟨("order_of_unit", none), "order_of_unit", "order_of_unit", defArgs s_order_of_unit, defBody s_order_of_unit, defScope s_order_of_unit, [], []⟩
abbrev s_check_two_units : Stmt := top 24
def d_check_two_units : He.DefD := ⟨("check_two_units", none), "check_two_units", "check_two_units", defArgs s_check_two_units, defBody s_check_two_units, defScope s_check_two_units, [], []⟩
abbrev s_powers_of : Stmt := top 25
def d_powers_of : He.DefD := ⟨("powers_of", none), "powers_of", "powers_of", defArgs s_powers_of, defBody s_powers_of, defScope s_powers_of, [], []⟩
abbrev s_power_of : Stmt := top 26
def d_power_of : He.DefD := ⟨("power_of", none), "power_of", "power_of", defArgs s_power_of, defBody s_power_of, defScope s_power_of, [], []⟩
abbrev s_square_roots : Stmt := top 27
def d_square_roots : He.DefD := ⟨("square_roots", none), "square_roots", "square_roots", defArgs s_square_roots, defBody s_square_roots, defScope s_square_roots, [], []⟩
abbrev s_logarithm : Stmt := top 28
def d_logarithm : He.DefD := ⟨("logarithm", none), "logarithm", "logarithm", defArgs s_logarithm, defBody s_logarithm, defScope s_logarithm, [], []⟩
abbrev s_power_bar : Stmt := top 29
def d_power_bar : He.DefD := ⟨("power_bar", none), "power_bar", "power_bar", defArgs s_power_bar, defBody s_power_bar, defScope s_power_bar, [], []⟩
abbrev s_is_power_bar : Stmt := top 30
def d_is_power_bar : He.DefD := ⟨("is_power_bar", none), "is_power_bar", "is_power_bar", defArgs s_is_power_bar, defBody s_is_power_bar, defScope s_is_power_bar, [], []⟩
abbrev s__law_pot : Stmt := top 32
def d__law_pot : He.DefD := ⟨("_law_pot", none), "_law_pot", "_law_pot", defArgs s__law_pot, defBody s__law_pot, defScope s__law_pot, [], []⟩
abbrev s__law_draw : Stmt := top 33
def d__law_draw : He.DefD := ⟨("_law_draw", none), "_law_draw", "_law_draw", defArgs s__law_draw, defBody s__law_draw, defScope s__law_draw, [], []⟩
abbrev s__law_pick : Stmt := top 34
def d__law_pick : He.DefD := ⟨("_law_pick", none), "_law_pick", "_law_pick", defArgs s__law_pick, defBody s__law_pick, defScope s__law_pick, [], []⟩
abbrev s__law_divisor : Stmt := top 35
def d__law_divisor : He.DefD := ⟨("_law_divisor", none), "_law_divisor", "_law_divisor", defArgs s__law_divisor, defBody s__law_divisor, defScope s__law_divisor, [], []⟩
abbrev s__law_clock : Stmt := top 36
def d__law_clock : He.DefD := ⟨("_law_clock", none), "_law_clock", "_law_clock", defArgs s__law_clock, defBody s__law_clock, defScope s__law_clock, [], []⟩
abbrev s__law_units : Stmt := top 37
def d__law_units : He.DefD := ⟨("_law_units", none), "_law_units", "_law_units", defArgs s__law_units, defBody s__law_units, defScope s__law_units, [], []⟩
abbrev s__law_all_powers : Stmt := top 38
def d__law_all_powers : He.DefD := ⟨("_law_all_powers", none), "_law_all_powers", "_law_all_powers", defArgs s__law_all_powers, defBody s__law_all_powers, defScope s__law_all_powers, [], []⟩
abbrev s__law_is_bar : Stmt := top 39
def d__law_is_bar : He.DefD := ⟨("_law_is_bar", none), "_law_is_bar", "_law_is_bar", defArgs s__law_is_bar, defBody s__law_is_bar, defScope s__law_is_bar, [], []⟩
abbrev s__law_bent : Stmt := top 40
def d__law_bent : He.DefD := ⟨("_law_bent", none), "_law_bent", "_law_bent", defArgs s__law_bent, defBody s__law_bent, defScope s__law_bent, [], []⟩
abbrev s__law_parts_right : Stmt := top 41
def d__law_parts_right : He.DefD := ⟨("_law_parts_right", none), "_law_parts_right", "_law_parts_right", defArgs s__law_parts_right, defBody s__law_parts_right, defScope s__law_parts_right, [], []⟩
abbrev s__law_right : Stmt := top 42
def d__law_right : He.DefD := ⟨("_law_right", none), "_law_right", "_law_right", defArgs s__law_right, defBody s__law_right, defScope s__law_right, [], []⟩
abbrev s_law : Stmt := top 43
def d_law : He.DefD := ⟨("law", none), "law", "law", defArgs s_law, defBody s_law, defScope s_law, [], []⟩
def fn0 : List He.DefD := [d_is_integer, d_is_within, d_is_list, d_divisor, d_check_multiplier, d_check_remainder, d_is_unit_of, d_check_unit, d_units_of, d_power_by, d_order_by_steps, d_units, d_order_of_unit, d_check_two_units, d_powers_of, d_power_of, d_square_roots, d_logarithm, d_power_bar, d_is_power_bar, d__law_pot, d__law_draw, d__law_pick, d__law_divisor, d__law_clock, d__law_units, d__law_all_powers, d__law_is_bar, d__law_bent, d__law_parts_right]
def fn1 : List He.DefD := [d__law_right, d_law]
def fn : List He.DefD := fn0 ++ fn1
def fa0 : List He.Fa := [.glo "is_integer", .glo "is_within", .glo "is_list", .glo "divisor", .glo "check_multiplier", .glo "check_remainder", .glo "is_unit_of", .glo "check_unit", .glo "units_of", .glo "power_by", .glo "order_by_steps", .glo "units", .glo "order_of_unit", .glo "check_two_units", .glo "powers_of", .glo "power_of", .glo "square_roots", .glo "logarithm", .glo "power_bar", .glo "is_power_bar", .glo "_law_pot", .glo "_law_draw", .glo "_law_pick", .glo "_law_divisor", .glo "_law_clock", .glo "_law_units", .glo "_law_all_powers", .glo "_law_is_bar", .glo "_law_bent", .glo "_law_parts_right"]
def fa1 : List He.Fa := [.glo "_law_right", .glo "law", .free "abs", .free "all", .free "bool", .free "dict", .free "divmod", .free "int", .free "isinstance", .free "len", .free "list", .free "max", .free "min", .free "range", .free "repr", .free "sorted", .free "tuple", .free "zip", .int "MOST_CLOCK" 400, .int "MOST_POWER" 1000000000000]
def fa : List He.Fa := fa0 ++ fa1
def loose0 : List Str := ["GridError", "InvalidMultiplier", "InvalidPower", "InvalidRemainder", "InvalidUnit", "is_integer", "is_within", "is_list", "divisor", "MOST_CLOCK", "check_multiplier", "check_remainder", "is_unit_of", "check_unit", "units_of", "power_by", "order_by_steps", "units", "order_of_unit", "MOST_POWER", "check_two_units", "powers_of", "power_of", "square_roots", "logarithm", "power_bar", "is_power_bar", "_law_pot", "_law_draw", "_law_pick"]
def loose1 : List Str := ["_law_divisor", "_law_clock", "_law_units", "_law_all_powers", "_law_is_bar", "_law_bent", "_law_parts_right", "_law_right"]
def loose : List Str := loose0 ++ loose1
abbrev R : PySem.W.OpenRow := PySem.W.OpenLaw.row PySem.Challenge.rw_wholegrids_k91_whole_logarithms_and_part
abbrev hk : PySem.W.Hook := He.hookD 4 fa fn
def ob (s : PySem.W.SharedT) : He.AlD := He.obsDG 4 fa fn (HandSHeadRun.getT s)
theorem ob_eq (s : PySem.W.SharedT) : ob s = hk.obs s.abs := He.obsDG_eq (HandSHeadRun.getT_eq s)
theorem run (w : World) : HandSHeadRun.RunEq R (PySem.W.view R.prog [43]) hk ob 4000 loose w := by
  intro os
  kernel_rfl
end HeadT

namespace PF
open PySem PySem.Spec PyProof.Rows L2
def FUEL : Nat := 2 ^ 80
/-- is_integer: slots 0 value -/
def N_is_integer : List Str := ["value"]
def ps_is_integer : List Str := ["value"]
def c_is_integer : C := cret (mAndV (mIsi .int (rd 0)) (mNotV (mIsi .bool (rd 0))))
def F_is_integer : Fn := fres 1 1 c_is_integer
theorem en_is_integer (a0 : D) (p : Pst) : F_is_integer [a0] p = sres (c_is_integer [some (.val a0)] p) := rfl
theorem ip_is_integer : IF F_is_integer := if_fres _ _ (by
  unfold c_is_integer
  repeat' first | with_reducible apply im_ret | with_reducible apply im_rd | with_reducible apply im_op | with_reducible apply im_cmp | with_reducible apply im_b | with_reducible apply im_cons | with_reducible apply ic_seq | with_reducible apply ic_if | with_reducible apply ic_ret | with_reducible apply ic_reto | with_reducible apply ic_retown | with_reducible apply ic_asg | with_reducible apply ic_aso | with_reducible apply ic_frz | with_reducible apply ic_asgW | with_reducible apply ic_app | with_reducible apply ic_pop | with_reducible apply ic_expr | with_reducible apply ic_skip | with_reducible apply ic_stuck | with_reducible apply ic_brk | with_reducible apply ic_cnt | with_reducible apply ic_retN | with_reducible apply ic_for | with_reducible apply ic_while | with_reducible apply it_name | with_reducible apply it_tup | with_reducible apply it_cons | with_reducible apply it_nil | with_reducible apply im_fn | with_reducible apply im_fno | with_reducible apply im_lc | with_reducible apply im_yes | with_reducible apply im_and | with_reducible apply im_or | with_reducible apply im_not | with_reducible apply im_if | with_reducible apply im_frz | with_reducible apply im_lim | with_reducible apply im_tup | with_reducible apply im_call | with_reducible apply im_lst | with_reducible apply im_isi | with_reducible apply im_isis | with_reducible apply im_isN | with_reducible apply im_notN | with_reducible apply im_chain | with_reducible apply im_seq | with_reducible apply im_range1 | with_reducible apply im_range2 | with_reducible apply im_enum | with_reducible apply im_zip | with_reducible apply im_t | with_reducible apply im_notV | with_reducible apply im_andV | with_reducible apply im_orV | with_reducible apply im_part | with_reducible apply im_sl | with_reducible apply im_slo | with_reducible apply im_rev | with_reducible apply im_uV | with_reducible apply im_uO | with_reducible apply im_un | with_reducible apply im_opo | with_reducible apply im_ixO | with_reducible apply im_scal | with_reducible apply im_scalt | with_reducible apply im_index | with_reducible apply im_lrg1 | with_reducible apply im_lrg2 | with_reducible apply ic_ext | with_reducible apply ic_asgT | with_reducible apply it_subO)
/-- is_within: slots 0 value, 1 least, 2 most -/
def N_is_within : List Str := ["value", "least", "most"]
def ps_is_within : List Str := ["value", "least", "most"]
def c_is_within : C := cret (mAndV (mFn F_is_integer 1 0 [0] (mcons (rd 0) (mret [])) (mret [])) (mB (mChain iLe iLe (rd 1) (rd 0) (rd 2))))
def F_is_within : Fn := fres 3 3 c_is_within
theorem en_is_within (a0 a1 a2 : D) (p : Pst) : F_is_within [a0, a1, a2] p = sres (c_is_within [some (.val a0), some (.val a1), some (.val a2)] p) := rfl
theorem ip_is_within : IF F_is_within := if_fres _ _ (by
  unfold c_is_within
  repeat' first | exact ip_is_integer | with_reducible apply im_ret | with_reducible apply im_rd | with_reducible apply im_op | with_reducible apply im_cmp | with_reducible apply im_b | with_reducible apply im_cons | with_reducible apply ic_seq | with_reducible apply ic_if | with_reducible apply ic_ret | with_reducible apply ic_reto | with_reducible apply ic_retown | with_reducible apply ic_asg | with_reducible apply ic_aso | with_reducible apply ic_frz | with_reducible apply ic_asgW | with_reducible apply ic_app | with_reducible apply ic_pop | with_reducible apply ic_expr | with_reducible apply ic_skip | with_reducible apply ic_stuck | with_reducible apply ic_brk | with_reducible apply ic_cnt | with_reducible apply ic_retN | with_reducible apply ic_for | with_reducible apply ic_while | with_reducible apply it_name | with_reducible apply it_tup | with_reducible apply it_cons | with_reducible apply it_nil | with_reducible apply im_fn | with_reducible apply im_fno | with_reducible apply im_lc | with_reducible apply im_yes | with_reducible apply im_and | with_reducible apply im_or | with_reducible apply im_not | with_reducible apply im_if | with_reducible apply im_frz | with_reducible apply im_lim | with_reducible apply im_tup | with_reducible apply im_call | with_reducible apply im_lst | with_reducible apply im_isi | with_reducible apply im_isis | with_reducible apply im_isN | with_reducible apply im_notN | with_reducible apply im_chain | with_reducible apply im_seq | with_reducible apply im_range1 | with_reducible apply im_range2 | with_reducible apply im_enum | with_reducible apply im_zip | with_reducible apply im_t | with_reducible apply im_notV | with_reducible apply im_andV | with_reducible apply im_orV | with_reducible apply im_part | with_reducible apply im_sl | with_reducible apply im_slo | with_reducible apply im_rev | with_reducible apply im_uV | with_reducible apply im_uO | with_reducible apply im_un | with_reducible apply im_opo | with_reducible apply im_ixO | with_reducible apply im_scal | with_reducible apply im_scalt | with_reducible apply im_index | with_reducible apply im_lrg1 | with_reducible apply im_lrg2 | with_reducible apply ic_ext | with_reducible apply ic_asgT | with_reducible apply it_subO)
/-- is_list: slots 0 value -/
def N_is_list : List Str := ["value"]
def ps_is_list : List Str := ["value"]
def c_is_list : C := cret (mIsis [.list, .tuple] (rd 0))
def F_is_list : Fn := fres 1 1 c_is_list
theorem en_is_list (a0 : D) (p : Pst) : F_is_list [a0] p = sres (c_is_list [some (.val a0)] p) := rfl
theorem ip_is_list : IF F_is_list := if_fres _ _ (by
  unfold c_is_list
  repeat' first | with_reducible apply im_ret | with_reducible apply im_rd | with_reducible apply im_op | with_reducible apply im_cmp | with_reducible apply im_b | with_reducible apply im_cons | with_reducible apply ic_seq | with_reducible apply ic_if | with_reducible apply ic_ret | with_reducible apply ic_reto | with_reducible apply ic_retown | with_reducible apply ic_asg | with_reducible apply ic_aso | with_reducible apply ic_frz | with_reducible apply ic_asgW | with_reducible apply ic_app | with_reducible apply ic_pop | with_reducible apply ic_expr | with_reducible apply ic_skip | with_reducible apply ic_stuck | with_reducible apply ic_brk | with_reducible apply ic_cnt | with_reducible apply ic_retN | with_reducible apply ic_for | with_reducible apply ic_while | with_reducible apply it_name | with_reducible apply it_tup | with_reducible apply it_cons | with_reducible apply it_nil | with_reducible apply im_fn | with_reducible apply im_fno | with_reducible apply im_lc | with_reducible apply im_yes | with_reducible apply im_and | with_reducible apply im_or | with_reducible apply im_not | with_reducible apply im_if | with_reducible apply im_frz | with_reducible apply im_lim | with_reducible apply im_tup | with_reducible apply im_call | with_reducible apply im_lst | with_reducible apply im_isi | with_reducible apply im_isis | with_reducible apply im_isN | with_reducible apply im_notN | with_reducible apply im_chain | with_reducible apply im_seq | with_reducible apply im_range1 | with_reducible apply im_range2 | with_reducible apply im_enum | with_reducible apply im_zip | with_reducible apply im_t | with_reducible apply im_notV | with_reducible apply im_andV | with_reducible apply im_orV | with_reducible apply im_part | with_reducible apply im_sl | with_reducible apply im_slo | with_reducible apply im_rev | with_reducible apply im_uV | with_reducible apply im_uO | with_reducible apply im_un | with_reducible apply im_opo | with_reducible apply im_ixO | with_reducible apply im_scal | with_reducible apply im_scalt | with_reducible apply im_index | with_reducible apply im_lrg1 | with_reducible apply im_lrg2 | with_reducible apply ic_ext | with_reducible apply ic_asgT | with_reducible apply it_subO)
/-- divisor: slots 0 one, 1 late -/
def N_divisor : List Str := ["one", "late"]
def ps_divisor : List Str := ["one", "late"]
def b_divisor_1 : C := casgW [0, 1] (muV (rd 1) (muV (mOp dMod (mCall dInt (mcons (rd 0) (mret []))) (rd 1)) (mret [])))
def t_divisor_2 : M Bool := mCmp dGt (rd 1) (mret (dI 0))
def c_divisor : C := cseq (cwhile (t_divisor_2) (b_divisor_1) FUEL) (cret (rd 0))
def F_divisor : Fn := fres 2 2 c_divisor
theorem en_divisor (a0 a1 : D) (p : Pst) : F_divisor [a0, a1] p = sres (c_divisor [some (.val a0), some (.val a1)] p) := rfl
theorem ip_divisor : IF F_divisor := if_fres _ _ (by
  unfold c_divisor
  try unfold t_divisor_2
  try unfold b_divisor_1
  repeat' first | with_reducible apply im_ret | with_reducible apply im_rd | with_reducible apply im_op | with_reducible apply im_cmp | with_reducible apply im_b | with_reducible apply im_cons | with_reducible apply ic_seq | with_reducible apply ic_if | with_reducible apply ic_ret | with_reducible apply ic_reto | with_reducible apply ic_retown | with_reducible apply ic_asg | with_reducible apply ic_aso | with_reducible apply ic_frz | with_reducible apply ic_asgW | with_reducible apply ic_app | with_reducible apply ic_pop | with_reducible apply ic_expr | with_reducible apply ic_skip | with_reducible apply ic_stuck | with_reducible apply ic_brk | with_reducible apply ic_cnt | with_reducible apply ic_retN | with_reducible apply ic_for | with_reducible apply ic_while | with_reducible apply it_name | with_reducible apply it_tup | with_reducible apply it_cons | with_reducible apply it_nil | with_reducible apply im_fn | with_reducible apply im_fno | with_reducible apply im_lc | with_reducible apply im_yes | with_reducible apply im_and | with_reducible apply im_or | with_reducible apply im_not | with_reducible apply im_if | with_reducible apply im_frz | with_reducible apply im_lim | with_reducible apply im_tup | with_reducible apply im_call | with_reducible apply im_lst | with_reducible apply im_isi | with_reducible apply im_isis | with_reducible apply im_isN | with_reducible apply im_notN | with_reducible apply im_chain | with_reducible apply im_seq | with_reducible apply im_range1 | with_reducible apply im_range2 | with_reducible apply im_enum | with_reducible apply im_zip | with_reducible apply im_t | with_reducible apply im_notV | with_reducible apply im_andV | with_reducible apply im_orV | with_reducible apply im_part | with_reducible apply im_sl | with_reducible apply im_slo | with_reducible apply im_rev | with_reducible apply im_uV | with_reducible apply im_uO | with_reducible apply im_un | with_reducible apply im_opo | with_reducible apply im_ixO | with_reducible apply im_scal | with_reducible apply im_scalt | with_reducible apply im_index | with_reducible apply im_lrg1 | with_reducible apply im_lrg2 | with_reducible apply ic_ext | with_reducible apply ic_asgT | with_reducible apply it_subO)
/-- check_multiplier: slots 0 value -/
def N_check_multiplier : List Str := ["value"]
def ps_check_multiplier : List Str := ["value"]
def c_check_multiplier : C := cif (mNot (mT (mFn F_is_within 3 0 [0, 1, 2] (mcons (rd 0) (mcons (mret (dI 2)) (mcons (mret (dI 400)) (mret [])))) (mret [])))) (cstuck) (cskip)
def F_check_multiplier : Fn := fres 1 1 c_check_multiplier
theorem en_check_multiplier (a0 : D) (p : Pst) : F_check_multiplier [a0] p = sres (c_check_multiplier [some (.val a0)] p) := rfl
theorem ip_check_multiplier : IF F_check_multiplier := if_fres _ _ (by
  unfold c_check_multiplier
  repeat' first | exact ip_is_within | with_reducible apply im_ret | with_reducible apply im_rd | with_reducible apply im_op | with_reducible apply im_cmp | with_reducible apply im_b | with_reducible apply im_cons | with_reducible apply ic_seq | with_reducible apply ic_if | with_reducible apply ic_ret | with_reducible apply ic_reto | with_reducible apply ic_retown | with_reducible apply ic_asg | with_reducible apply ic_aso | with_reducible apply ic_frz | with_reducible apply ic_asgW | with_reducible apply ic_app | with_reducible apply ic_pop | with_reducible apply ic_expr | with_reducible apply ic_skip | with_reducible apply ic_stuck | with_reducible apply ic_brk | with_reducible apply ic_cnt | with_reducible apply ic_retN | with_reducible apply ic_for | with_reducible apply ic_while | with_reducible apply it_name | with_reducible apply it_tup | with_reducible apply it_cons | with_reducible apply it_nil | with_reducible apply im_fn | with_reducible apply im_fno | with_reducible apply im_lc | with_reducible apply im_yes | with_reducible apply im_and | with_reducible apply im_or | with_reducible apply im_not | with_reducible apply im_if | with_reducible apply im_frz | with_reducible apply im_lim | with_reducible apply im_tup | with_reducible apply im_call | with_reducible apply im_lst | with_reducible apply im_isi | with_reducible apply im_isis | with_reducible apply im_isN | with_reducible apply im_notN | with_reducible apply im_chain | with_reducible apply im_seq | with_reducible apply im_range1 | with_reducible apply im_range2 | with_reducible apply im_enum | with_reducible apply im_zip | with_reducible apply im_t | with_reducible apply im_notV | with_reducible apply im_andV | with_reducible apply im_orV | with_reducible apply im_part | with_reducible apply im_sl | with_reducible apply im_slo | with_reducible apply im_rev | with_reducible apply im_uV | with_reducible apply im_uO | with_reducible apply im_un | with_reducible apply im_opo | with_reducible apply im_ixO | with_reducible apply im_scal | with_reducible apply im_scalt | with_reducible apply im_index | with_reducible apply im_lrg1 | with_reducible apply im_lrg2 | with_reducible apply ic_ext | with_reducible apply ic_asgT | with_reducible apply it_subO)
/-- check_remainder: slots 0 clock, 1 value -/
def N_check_remainder : List Str := ["clock", "value"]
def ps_check_remainder : List Str := ["clock", "value"]
def c_check_remainder : C := cseq (cexpr (mFn F_check_multiplier 1 0 [0] (mcons (rd 0) (mret [])) (mret []))) (cif (mNot (mT (mFn F_is_within 3 0 [0, 1, 2] (mcons (rd 1) (mcons (mret (dI 0)) (mcons (mOp dSub (rd 0) (mret (dI 1))) (mret [])))) (mret [])))) (cstuck) (cskip))
def F_check_remainder : Fn := fres 2 2 c_check_remainder
theorem en_check_remainder (a0 a1 : D) (p : Pst) : F_check_remainder [a0, a1] p = sres (c_check_remainder [some (.val a0), some (.val a1)] p) := rfl
theorem ip_check_remainder : IF F_check_remainder := if_fres _ _ (by
  unfold c_check_remainder
  repeat' first | exact ip_check_multiplier | exact ip_is_within | with_reducible apply im_ret | with_reducible apply im_rd | with_reducible apply im_op | with_reducible apply im_cmp | with_reducible apply im_b | with_reducible apply im_cons | with_reducible apply ic_seq | with_reducible apply ic_if | with_reducible apply ic_ret | with_reducible apply ic_reto | with_reducible apply ic_retown | with_reducible apply ic_asg | with_reducible apply ic_aso | with_reducible apply ic_frz | with_reducible apply ic_asgW | with_reducible apply ic_app | with_reducible apply ic_pop | with_reducible apply ic_expr | with_reducible apply ic_skip | with_reducible apply ic_stuck | with_reducible apply ic_brk | with_reducible apply ic_cnt | with_reducible apply ic_retN | with_reducible apply ic_for | with_reducible apply ic_while | with_reducible apply it_name | with_reducible apply it_tup | with_reducible apply it_cons | with_reducible apply it_nil | with_reducible apply im_fn | with_reducible apply im_fno | with_reducible apply im_lc | with_reducible apply im_yes | with_reducible apply im_and | with_reducible apply im_or | with_reducible apply im_not | with_reducible apply im_if | with_reducible apply im_frz | with_reducible apply im_lim | with_reducible apply im_tup | with_reducible apply im_call | with_reducible apply im_lst | with_reducible apply im_isi | with_reducible apply im_isis | with_reducible apply im_isN | with_reducible apply im_notN | with_reducible apply im_chain | with_reducible apply im_seq | with_reducible apply im_range1 | with_reducible apply im_range2 | with_reducible apply im_enum | with_reducible apply im_zip | with_reducible apply im_t | with_reducible apply im_notV | with_reducible apply im_andV | with_reducible apply im_orV | with_reducible apply im_part | with_reducible apply im_sl | with_reducible apply im_slo | with_reducible apply im_rev | with_reducible apply im_uV | with_reducible apply im_uO | with_reducible apply im_un | with_reducible apply im_opo | with_reducible apply im_ixO | with_reducible apply im_scal | with_reducible apply im_scalt | with_reducible apply im_index | with_reducible apply im_lrg1 | with_reducible apply im_lrg2 | with_reducible apply ic_ext | with_reducible apply ic_asgT | with_reducible apply it_subO)
/-- is_unit_of: slots 0 clock, 1 value -/
def N_is_unit_of : List Str := ["clock", "value"]
def ps_is_unit_of : List Str := ["clock", "value"]
def c_is_unit_of : C := cret (mAndV (mFn F_is_within 3 0 [0, 1, 2] (mcons (rd 1) (mcons (mret (dI 0)) (mcons (mOp dSub (rd 0) (mret (dI 1))) (mret [])))) (mret [])) (mB (mCmp dEq (mFn F_divisor 2 0 [0, 1] (mcons (rd 1) (mcons (rd 0) (mret []))) (mret [])) (mret (dI 1)))))
def F_is_unit_of : Fn := fres 2 2 c_is_unit_of
theorem en_is_unit_of (a0 a1 : D) (p : Pst) : F_is_unit_of [a0, a1] p = sres (c_is_unit_of [some (.val a0), some (.val a1)] p) := rfl
theorem ip_is_unit_of : IF F_is_unit_of := if_fres _ _ (by
  unfold c_is_unit_of
  repeat' first | exact ip_divisor | exact ip_is_within | with_reducible apply im_ret | with_reducible apply im_rd | with_reducible apply im_op | with_reducible apply im_cmp | with_reducible apply im_b | with_reducible apply im_cons | with_reducible apply ic_seq | with_reducible apply ic_if | with_reducible apply ic_ret | with_reducible apply ic_reto | with_reducible apply ic_retown | with_reducible apply ic_asg | with_reducible apply ic_aso | with_reducible apply ic_frz | with_reducible apply ic_asgW | with_reducible apply ic_app | with_reducible apply ic_pop | with_reducible apply ic_expr | with_reducible apply ic_skip | with_reducible apply ic_stuck | with_reducible apply ic_brk | with_reducible apply ic_cnt | with_reducible apply ic_retN | with_reducible apply ic_for | with_reducible apply ic_while | with_reducible apply it_name | with_reducible apply it_tup | with_reducible apply it_cons | with_reducible apply it_nil | with_reducible apply im_fn | with_reducible apply im_fno | with_reducible apply im_lc | with_reducible apply im_yes | with_reducible apply im_and | with_reducible apply im_or | with_reducible apply im_not | with_reducible apply im_if | with_reducible apply im_frz | with_reducible apply im_lim | with_reducible apply im_tup | with_reducible apply im_call | with_reducible apply im_lst | with_reducible apply im_isi | with_reducible apply im_isis | with_reducible apply im_isN | with_reducible apply im_notN | with_reducible apply im_chain | with_reducible apply im_seq | with_reducible apply im_range1 | with_reducible apply im_range2 | with_reducible apply im_enum | with_reducible apply im_zip | with_reducible apply im_t | with_reducible apply im_notV | with_reducible apply im_andV | with_reducible apply im_orV | with_reducible apply im_part | with_reducible apply im_sl | with_reducible apply im_slo | with_reducible apply im_rev | with_reducible apply im_uV | with_reducible apply im_uO | with_reducible apply im_un | with_reducible apply im_opo | with_reducible apply im_ixO | with_reducible apply im_scal | with_reducible apply im_scalt | with_reducible apply im_index | with_reducible apply im_lrg1 | with_reducible apply im_lrg2 | with_reducible apply ic_ext | with_reducible apply ic_asgT | with_reducible apply it_subO)
/-- check_unit: slots 0 clock, 1 value -/
def N_check_unit : List Str := ["clock", "value"]
def ps_check_unit : List Str := ["clock", "value"]
def c_check_unit : C := cseq (cexpr (mFn F_check_multiplier 1 0 [0] (mcons (rd 0) (mret [])) (mret []))) (cif (mNot (mT (mFn F_is_unit_of 2 0 [0, 1] (mcons (rd 0) (mcons (rd 1) (mret []))) (mret [])))) (cstuck) (cskip))
def F_check_unit : Fn := fres 2 2 c_check_unit
theorem en_check_unit (a0 a1 : D) (p : Pst) : F_check_unit [a0, a1] p = sres (c_check_unit [some (.val a0), some (.val a1)] p) := rfl
theorem ip_check_unit : IF F_check_unit := if_fres _ _ (by
  unfold c_check_unit
  repeat' first | exact ip_check_multiplier | exact ip_is_unit_of | with_reducible apply im_ret | with_reducible apply im_rd | with_reducible apply im_op | with_reducible apply im_cmp | with_reducible apply im_b | with_reducible apply im_cons | with_reducible apply ic_seq | with_reducible apply ic_if | with_reducible apply ic_ret | with_reducible apply ic_reto | with_reducible apply ic_retown | with_reducible apply ic_asg | with_reducible apply ic_aso | with_reducible apply ic_frz | with_reducible apply ic_asgW | with_reducible apply ic_app | with_reducible apply ic_pop | with_reducible apply ic_expr | with_reducible apply ic_skip | with_reducible apply ic_stuck | with_reducible apply ic_brk | with_reducible apply ic_cnt | with_reducible apply ic_retN | with_reducible apply ic_for | with_reducible apply ic_while | with_reducible apply it_name | with_reducible apply it_tup | with_reducible apply it_cons | with_reducible apply it_nil | with_reducible apply im_fn | with_reducible apply im_fno | with_reducible apply im_lc | with_reducible apply im_yes | with_reducible apply im_and | with_reducible apply im_or | with_reducible apply im_not | with_reducible apply im_if | with_reducible apply im_frz | with_reducible apply im_lim | with_reducible apply im_tup | with_reducible apply im_call | with_reducible apply im_lst | with_reducible apply im_isi | with_reducible apply im_isis | with_reducible apply im_isN | with_reducible apply im_notN | with_reducible apply im_chain | with_reducible apply im_seq | with_reducible apply im_range1 | with_reducible apply im_range2 | with_reducible apply im_enum | with_reducible apply im_zip | with_reducible apply im_t | with_reducible apply im_notV | with_reducible apply im_andV | with_reducible apply im_orV | with_reducible apply im_part | with_reducible apply im_sl | with_reducible apply im_slo | with_reducible apply im_rev | with_reducible apply im_uV | with_reducible apply im_uO | with_reducible apply im_un | with_reducible apply im_opo | with_reducible apply im_ixO | with_reducible apply im_scal | with_reducible apply im_scalt | with_reducible apply im_index | with_reducible apply im_lrg1 | with_reducible apply im_lrg2 | with_reducible apply ic_ext | with_reducible apply ic_asgT | with_reducible apply it_subO)
/-- units_of: slots 0 clock, 1 one -/
def N_units_of : List Str := ["clock", "one"]
def ps_units_of : List Str := ["clock"]
def m_units_of_1 : M (List D) := mLc [1] (mRange1 (mcons (rd 0) (mret []))) (fName 1) (mCmp dEq (mFn F_divisor 2 0 [0, 1] (mcons (rd 1) (mcons (rd 0) (mret []))) (mret [])) (mret (dI 1))) (rd 1)
def c_units_of : C := creto (m_units_of_1)
def F_units_of : Fn := fres 2 1 c_units_of
theorem en_units_of (a0 : D) (p : Pst) : F_units_of [a0] p = sres (c_units_of [some (.val a0), none] p) := rfl
theorem ip_units_of : IF F_units_of := if_fres _ _ (by
  unfold c_units_of
  try unfold m_units_of_1
  repeat' first | exact ip_divisor | with_reducible apply im_ret | with_reducible apply im_rd | with_reducible apply im_op | with_reducible apply im_cmp | with_reducible apply im_b | with_reducible apply im_cons | with_reducible apply ic_seq | with_reducible apply ic_if | with_reducible apply ic_ret | with_reducible apply ic_reto | with_reducible apply ic_retown | with_reducible apply ic_asg | with_reducible apply ic_aso | with_reducible apply ic_frz | with_reducible apply ic_asgW | with_reducible apply ic_app | with_reducible apply ic_pop | with_reducible apply ic_expr | with_reducible apply ic_skip | with_reducible apply ic_stuck | with_reducible apply ic_brk | with_reducible apply ic_cnt | with_reducible apply ic_retN | with_reducible apply ic_for | with_reducible apply ic_while | with_reducible apply it_name | with_reducible apply it_tup | with_reducible apply it_cons | with_reducible apply it_nil | with_reducible apply im_fn | with_reducible apply im_fno | with_reducible apply im_lc | with_reducible apply im_yes | with_reducible apply im_and | with_reducible apply im_or | with_reducible apply im_not | with_reducible apply im_if | with_reducible apply im_frz | with_reducible apply im_lim | with_reducible apply im_tup | with_reducible apply im_call | with_reducible apply im_lst | with_reducible apply im_isi | with_reducible apply im_isis | with_reducible apply im_isN | with_reducible apply im_notN | with_reducible apply im_chain | with_reducible apply im_seq | with_reducible apply im_range1 | with_reducible apply im_range2 | with_reducible apply im_enum | with_reducible apply im_zip | with_reducible apply im_t | with_reducible apply im_notV | with_reducible apply im_andV | with_reducible apply im_orV | with_reducible apply im_part | with_reducible apply im_sl | with_reducible apply im_slo | with_reducible apply im_rev | with_reducible apply im_uV | with_reducible apply im_uO | with_reducible apply im_un | with_reducible apply im_opo | with_reducible apply im_ixO | with_reducible apply im_scal | with_reducible apply im_scalt | with_reducible apply im_index | with_reducible apply im_lrg1 | with_reducible apply im_lrg2 | with_reducible apply ic_ext | with_reducible apply ic_asgT | with_reducible apply it_subO)
/-- power_by: slots 0 clock, 1 number, 2 power, 3 found, 4 here, 5 left -/
def N_power_by : List Str := ["clock", "number", "power", "found", "here", "left"]
def ps_power_by : List Str := ["clock", "number", "power"]
def b_power_by_1 : C := cseq (cif (mCmp dEq (mOp dMod (rd 5) (mret (dI 2))) (mret (dI 1))) (casg 3 (mOp dMod (mOp dMul (rd 3) (rd 4)) (rd 0))) (cskip)) (casgW [4, 5] (muV (mOp dMod (mOp dMul (rd 4) (rd 4)) (rd 0)) (muV (mOp dDiv (rd 5) (mret (dI 2))) (mret []))))
def t_power_by_2 : M Bool := mCmp dGt (rd 5) (mret (dI 0))
def c_power_by : C := cseq (casgW [3, 4, 5] (muV (mOp dMod (mret (dI 1)) (rd 0)) (muV (mOp dMod (rd 1) (rd 0)) (muV (rd 2) (mret []))))) (cseq (cwhile (t_power_by_2) (b_power_by_1) FUEL) (cret (rd 3)))
def F_power_by : Fn := fres 6 3 c_power_by
theorem en_power_by (a0 a1 a2 : D) (p : Pst) : F_power_by [a0, a1, a2] p = sres (c_power_by [some (.val a0), some (.val a1), some (.val a2), none, none, none] p) := rfl
theorem ip_power_by : IF F_power_by := if_fres _ _ (by
  unfold c_power_by
  try unfold t_power_by_2
  try unfold b_power_by_1
  repeat' first | with_reducible apply im_ret | with_reducible apply im_rd | with_reducible apply im_op | with_reducible apply im_cmp | with_reducible apply im_b | with_reducible apply im_cons | with_reducible apply ic_seq | with_reducible apply ic_if | with_reducible apply ic_ret | with_reducible apply ic_reto | with_reducible apply ic_retown | with_reducible apply ic_asg | with_reducible apply ic_aso | with_reducible apply ic_frz | with_reducible apply ic_asgW | with_reducible apply ic_app | with_reducible apply ic_pop | with_reducible apply ic_expr | with_reducible apply ic_skip | with_reducible apply ic_stuck | with_reducible apply ic_brk | with_reducible apply ic_cnt | with_reducible apply ic_retN | with_reducible apply ic_for | with_reducible apply ic_while | with_reducible apply it_name | with_reducible apply it_tup | with_reducible apply it_cons | with_reducible apply it_nil | with_reducible apply im_fn | with_reducible apply im_fno | with_reducible apply im_lc | with_reducible apply im_yes | with_reducible apply im_and | with_reducible apply im_or | with_reducible apply im_not | with_reducible apply im_if | with_reducible apply im_frz | with_reducible apply im_lim | with_reducible apply im_tup | with_reducible apply im_call | with_reducible apply im_lst | with_reducible apply im_isi | with_reducible apply im_isis | with_reducible apply im_isN | with_reducible apply im_notN | with_reducible apply im_chain | with_reducible apply im_seq | with_reducible apply im_range1 | with_reducible apply im_range2 | with_reducible apply im_enum | with_reducible apply im_zip | with_reducible apply im_t | with_reducible apply im_notV | with_reducible apply im_andV | with_reducible apply im_orV | with_reducible apply im_part | with_reducible apply im_sl | with_reducible apply im_slo | with_reducible apply im_rev | with_reducible apply im_uV | with_reducible apply im_uO | with_reducible apply im_un | with_reducible apply im_opo | with_reducible apply im_ixO | with_reducible apply im_scal | with_reducible apply im_scalt | with_reducible apply im_index | with_reducible apply im_lrg1 | with_reducible apply im_lrg2 | with_reducible apply ic_ext | with_reducible apply ic_asgT | with_reducible apply it_subO)
/-- order_by_steps: slots 0 clock, 1 unit, 2 here, 3 found -/
def N_order_by_steps : List Str := ["clock", "unit", "here", "found"]
def ps_order_by_steps : List Str := ["clock", "unit"]
def b_order_by_steps_1 : C := casgW [2, 3] (muV (mOp dMod (mOp dMul (rd 2) (rd 1)) (rd 0)) (muV (mOp dAdd (rd 3) (mret (dI 1))) (mret [])))
def t_order_by_steps_2 : M Bool := mCmp dNe (rd 2) (mOp dMod (mret (dI 1)) (rd 0))
def c_order_by_steps : C := cseq (casgW [2, 3] (muV (rd 1) (muV (mret (dI 1)) (mret [])))) (cseq (cwhile (t_order_by_steps_2) (b_order_by_steps_1) FUEL) (cret (rd 3)))
def F_order_by_steps : Fn := fres 4 2 c_order_by_steps
theorem en_order_by_steps (a0 a1 : D) (p : Pst) : F_order_by_steps [a0, a1] p = sres (c_order_by_steps [some (.val a0), some (.val a1), none, none] p) := rfl
theorem ip_order_by_steps : IF F_order_by_steps := if_fres _ _ (by
  unfold c_order_by_steps
  try unfold t_order_by_steps_2
  try unfold b_order_by_steps_1
  repeat' first | with_reducible apply im_ret | with_reducible apply im_rd | with_reducible apply im_op | with_reducible apply im_cmp | with_reducible apply im_b | with_reducible apply im_cons | with_reducible apply ic_seq | with_reducible apply ic_if | with_reducible apply ic_ret | with_reducible apply ic_reto | with_reducible apply ic_retown | with_reducible apply ic_asg | with_reducible apply ic_aso | with_reducible apply ic_frz | with_reducible apply ic_asgW | with_reducible apply ic_app | with_reducible apply ic_pop | with_reducible apply ic_expr | with_reducible apply ic_skip | with_reducible apply ic_stuck | with_reducible apply ic_brk | with_reducible apply ic_cnt | with_reducible apply ic_retN | with_reducible apply ic_for | with_reducible apply ic_while | with_reducible apply it_name | with_reducible apply it_tup | with_reducible apply it_cons | with_reducible apply it_nil | with_reducible apply im_fn | with_reducible apply im_fno | with_reducible apply im_lc | with_reducible apply im_yes | with_reducible apply im_and | with_reducible apply im_or | with_reducible apply im_not | with_reducible apply im_if | with_reducible apply im_frz | with_reducible apply im_lim | with_reducible apply im_tup | with_reducible apply im_call | with_reducible apply im_lst | with_reducible apply im_isi | with_reducible apply im_isis | with_reducible apply im_isN | with_reducible apply im_notN | with_reducible apply im_chain | with_reducible apply im_seq | with_reducible apply im_range1 | with_reducible apply im_range2 | with_reducible apply im_enum | with_reducible apply im_zip | with_reducible apply im_t | with_reducible apply im_notV | with_reducible apply im_andV | with_reducible apply im_orV | with_reducible apply im_part | with_reducible apply im_sl | with_reducible apply im_slo | with_reducible apply im_rev | with_reducible apply im_uV | with_reducible apply im_uO | with_reducible apply im_un | with_reducible apply im_opo | with_reducible apply im_ixO | with_reducible apply im_scal | with_reducible apply im_scalt | with_reducible apply im_index | with_reducible apply im_lrg1 | with_reducible apply im_lrg2 | with_reducible apply ic_ext | with_reducible apply ic_asgT | with_reducible apply it_subO)
/-- units: slots 0 clock -/
def N_units : List Str := ["clock"]
def ps_units : List Str := ["clock"]
def c_units : C := cseq (cexpr (mFn F_check_multiplier 1 0 [0] (mcons (rd 0) (mret [])) (mret []))) (creto (mFno F_units_of 1 0 [0] (mcons (rd 0) (mret [])) (mret [])))
def F_units : Fn := fres 1 1 c_units
theorem en_units (a0 : D) (p : Pst) : F_units [a0] p = sres (c_units [some (.val a0)] p) := rfl
theorem ip_units : IF F_units := if_fres _ _ (by
  unfold c_units
  repeat' first | exact ip_check_multiplier | exact ip_units_of | with_reducible apply im_ret | with_reducible apply im_rd | with_reducible apply im_op | with_reducible apply im_cmp | with_reducible apply im_b | with_reducible apply im_cons | with_reducible apply ic_seq | with_reducible apply ic_if | with_reducible apply ic_ret | with_reducible apply ic_reto | with_reducible apply ic_retown | with_reducible apply ic_asg | with_reducible apply ic_aso | with_reducible apply ic_frz | with_reducible apply ic_asgW | with_reducible apply ic_app | with_reducible apply ic_pop | with_reducible apply ic_expr | with_reducible apply ic_skip | with_reducible apply ic_stuck | with_reducible apply ic_brk | with_reducible apply ic_cnt | with_reducible apply ic_retN | with_reducible apply ic_for | with_reducible apply ic_while | with_reducible apply it_name | with_reducible apply it_tup | with_reducible apply it_cons | with_reducible apply it_nil | with_reducible apply im_fn | with_reducible apply im_fno | with_reducible apply im_lc | with_reducible apply im_yes | with_reducible apply im_and | with_reducible apply im_or | with_reducible apply im_not | with_reducible apply im_if | with_reducible apply im_frz | with_reducible apply im_lim | with_reducible apply im_tup | with_reducible apply im_call | with_reducible apply im_lst | with_reducible apply im_isi | with_reducible apply im_isis | with_reducible apply im_isN | with_reducible apply im_notN | with_reducible apply im_chain | with_reducible apply im_seq | with_reducible apply im_range1 | with_reducible apply im_range2 | with_reducible apply im_enum | with_reducible apply im_zip | with_reducible apply im_t | with_reducible apply im_notV | with_reducible apply im_andV | with_reducible apply im_orV | with_reducible apply im_part | with_reducible apply im_sl | with_reducible apply im_slo | with_reducible apply im_rev | with_reducible apply im_uV | with_reducible apply im_uO | with_reducible apply im_un | with_reducible apply im_opo | with_reducible apply im_ixO | with_reducible apply im_scal | with_reducible apply im_scalt | with_reducible apply im_index | with_reducible apply im_lrg1 | with_reducible apply im_lrg2 | with_reducible apply ic_ext | with_reducible apply ic_asgT | with_reducible apply it_subO)
/-- order_of_unit: slots 0 clock, 1 unit -/
def N_order_of_unit : List Str := ["clock", "unit"]
def ps_order_of_unit : List Str := ["clock", "unit"]
def c_order_of_unit : C := cseq (cexpr (mFn F_check_unit 2 0 [0, 1] (mcons (rd 0) (mcons (rd 1) (mret []))) (mret []))) (cret (mFn F_order_by_steps 2 0 [0, 1] (mcons (rd 0) (mcons (rd 1) (mret []))) (mret [])))
def F_order_of_unit : Fn := fres 2 2 c_order_of_unit
theorem en_order_of_unit (a0 a1 : D) (p : Pst) : F_order_of_unit [a0, a1] p = sres (c_order_of_unit [some (.val a0), some (.val a1)] p) := rfl
theorem ip_order_of_unit : IF F_order_of_unit := if_fres _ _ (by
  unfold c_order_of_unit
  repeat' first | exact ip_check_unit | exact ip_order_by_steps | with_reducible apply im_ret | with_reducible apply im_rd | with_reducible apply im_op | with_reducible apply im_cmp | with_reducible apply im_b | with_reducible apply im_cons | with_reducible apply ic_seq | with_reducible apply ic_if | with_reducible apply ic_ret | with_reducible apply ic_reto | with_reducible apply ic_retown | with_reducible apply ic_asg | with_reducible apply ic_aso | with_reducible apply ic_frz | with_reducible apply ic_asgW | with_reducible apply ic_app | with_reducible apply ic_pop | with_reducible apply ic_expr | with_reducible apply ic_skip | with_reducible apply ic_stuck | with_reducible apply ic_brk | with_reducible apply ic_cnt | with_reducible apply ic_retN | with_reducible apply ic_for | with_reducible apply ic_while | with_reducible apply it_name | with_reducible apply it_tup | with_reducible apply it_cons | with_reducible apply it_nil | with_reducible apply im_fn | with_reducible apply im_fno | with_reducible apply im_lc | with_reducible apply im_yes | with_reducible apply im_and | with_reducible apply im_or | with_reducible apply im_not | with_reducible apply im_if | with_reducible apply im_frz | with_reducible apply im_lim | with_reducible apply im_tup | with_reducible apply im_call | with_reducible apply im_lst | with_reducible apply im_isi | with_reducible apply im_isis | with_reducible apply im_isN | with_reducible apply im_notN | with_reducible apply im_chain | with_reducible apply im_seq | with_reducible apply im_range1 | with_reducible apply im_range2 | with_reducible apply im_enum | with_reducible apply im_zip | with_reducible apply im_t | with_reducible apply im_notV | with_reducible apply im_andV | with_reducible apply im_orV | with_reducible apply im_part | with_reducible apply im_sl | with_reducible apply im_slo | with_reducible apply im_rev | with_reducible apply im_uV | with_reducible apply im_uO | with_reducible apply im_un | with_reducible apply im_opo | with_reducible apply im_ixO | with_reducible apply im_scal | with_reducible apply im_scalt | with_reducible apply im_index | with_reducible apply im_lrg1 | with_reducible apply im_lrg2 | with_reducible apply ic_ext | with_reducible apply ic_asgT | with_reducible apply it_subO)
/-- check_two_units: slots 0 clock, 1 base, 2 unit -/
def N_check_two_units : List Str := ["clock", "base", "unit"]
def ps_check_two_units : List Str := ["clock", "base", "unit"]
def c_check_two_units : C := cseq (cexpr (mFn F_check_unit 2 0 [0, 1] (mcons (rd 0) (mcons (rd 1) (mret []))) (mret []))) (cif (mNot (mT (mFn F_is_unit_of 2 0 [0, 1] (mcons (rd 0) (mcons (rd 2) (mret []))) (mret [])))) (cstuck) (cskip))
def F_check_two_units : Fn := fres 3 3 c_check_two_units
theorem en_check_two_units (a0 a1 a2 : D) (p : Pst) : F_check_two_units [a0, a1, a2] p = sres (c_check_two_units [some (.val a0), some (.val a1), some (.val a2)] p) := rfl
theorem ip_check_two_units : IF F_check_two_units := if_fres _ _ (by
  unfold c_check_two_units
  repeat' first | exact ip_check_unit | exact ip_is_unit_of | with_reducible apply im_ret | with_reducible apply im_rd | with_reducible apply im_op | with_reducible apply im_cmp | with_reducible apply im_b | with_reducible apply im_cons | with_reducible apply ic_seq | with_reducible apply ic_if | with_reducible apply ic_ret | with_reducible apply ic_reto | with_reducible apply ic_retown | with_reducible apply ic_asg | with_reducible apply ic_aso | with_reducible apply ic_frz | with_reducible apply ic_asgW | with_reducible apply ic_app | with_reducible apply ic_pop | with_reducible apply ic_expr | with_reducible apply ic_skip | with_reducible apply ic_stuck | with_reducible apply ic_brk | with_reducible apply ic_cnt | with_reducible apply ic_retN | with_reducible apply ic_for | with_reducible apply ic_while | with_reducible apply it_name | with_reducible apply it_tup | with_reducible apply it_cons | with_reducible apply it_nil | with_reducible apply im_fn | with_reducible apply im_fno | with_reducible apply im_lc | with_reducible apply im_yes | with_reducible apply im_and | with_reducible apply im_or | with_reducible apply im_not | with_reducible apply im_if | with_reducible apply im_frz | with_reducible apply im_lim | with_reducible apply im_tup | with_reducible apply im_call | with_reducible apply im_lst | with_reducible apply im_isi | with_reducible apply im_isis | with_reducible apply im_isN | with_reducible apply im_notN | with_reducible apply im_chain | with_reducible apply im_seq | with_reducible apply im_range1 | with_reducible apply im_range2 | with_reducible apply im_enum | with_reducible apply im_zip | with_reducible apply im_t | with_reducible apply im_notV | with_reducible apply im_andV | with_reducible apply im_orV | with_reducible apply im_part | with_reducible apply im_sl | with_reducible apply im_slo | with_reducible apply im_rev | with_reducible apply im_uV | with_reducible apply im_uO | with_reducible apply im_un | with_reducible apply im_opo | with_reducible apply im_ixO | with_reducible apply im_scal | with_reducible apply im_scalt | with_reducible apply im_index | with_reducible apply im_lrg1 | with_reducible apply im_lrg2 | with_reducible apply ic_ext | with_reducible apply ic_asgT | with_reducible apply it_subO)
/-- powers_of: slots 0 clock, 1 base, 2 found -/
def N_powers_of : List Str := ["clock", "base", "found"]
def ps_powers_of : List Str := ["clock", "base"]
def b_powers_of_1 : C := capp 2 (mOp dMod (mOp dMul (mIxO 2 (mUn dNeg (mret (dI 1)))) (rd 1)) (rd 0))
def t_powers_of_2 : M Bool := mCmp dNe (mOp dMod (mOp dMul (mIxO 2 (mUn dNeg (mret (dI 1)))) (rd 1)) (rd 0)) (mIxO 2 (mret (dI 0)))
def c_powers_of : C := cseq (caso 2 (mlim (mcons (mOp dMod (mret (dI 1)) (rd 0)) (mret [])))) (cseq (cwhile (t_powers_of_2) (b_powers_of_1) FUEL) (cretown 2))
def F_powers_of : Fn := fres 3 2 c_powers_of
theorem en_powers_of (a0 a1 : D) (p : Pst) : F_powers_of [a0, a1] p = sres (c_powers_of [some (.val a0), some (.val a1), none] p) := rfl
theorem ip_powers_of : IF F_powers_of := if_fres _ _ (by
  unfold c_powers_of
  try unfold t_powers_of_2
  try unfold b_powers_of_1
  repeat' first | with_reducible apply im_ret | with_reducible apply im_rd | with_reducible apply im_op | with_reducible apply im_cmp | with_reducible apply im_b | with_reducible apply im_cons | with_reducible apply ic_seq | with_reducible apply ic_if | with_reducible apply ic_ret | with_reducible apply ic_reto | with_reducible apply ic_retown | with_reducible apply ic_asg | with_reducible apply ic_aso | with_reducible apply ic_frz | with_reducible apply ic_asgW | with_reducible apply ic_app | with_reducible apply ic_pop | with_reducible apply ic_expr | with_reducible apply ic_skip | with_reducible apply ic_stuck | with_reducible apply ic_brk | with_reducible apply ic_cnt | with_reducible apply ic_retN | with_reducible apply ic_for | with_reducible apply ic_while | with_reducible apply it_name | with_reducible apply it_tup | with_reducible apply it_cons | with_reducible apply it_nil | with_reducible apply im_fn | with_reducible apply im_fno | with_reducible apply im_lc | with_reducible apply im_yes | with_reducible apply im_and | with_reducible apply im_or | with_reducible apply im_not | with_reducible apply im_if | with_reducible apply im_frz | with_reducible apply im_lim | with_reducible apply im_tup | with_reducible apply im_call | with_reducible apply im_lst | with_reducible apply im_isi | with_reducible apply im_isis | with_reducible apply im_isN | with_reducible apply im_notN | with_reducible apply im_chain | with_reducible apply im_seq | with_reducible apply im_range1 | with_reducible apply im_range2 | with_reducible apply im_enum | with_reducible apply im_zip | with_reducible apply im_t | with_reducible apply im_notV | with_reducible apply im_andV | with_reducible apply im_orV | with_reducible apply im_part | with_reducible apply im_sl | with_reducible apply im_slo | with_reducible apply im_rev | with_reducible apply im_uV | with_reducible apply im_uO | with_reducible apply im_un | with_reducible apply im_opo | with_reducible apply im_ixO | with_reducible apply im_scal | with_reducible apply im_scalt | with_reducible apply im_index | with_reducible apply im_lrg1 | with_reducible apply im_lrg2 | with_reducible apply ic_ext | with_reducible apply ic_asgT | with_reducible apply it_subO)
/-- power_of: slots 0 clock, 1 number, 2 power -/
def N_power_of : List Str := ["clock", "number", "power"]
def ps_power_of : List Str := ["clock", "number", "power"]
def c_power_of : C := cseq (cexpr (mFn F_check_remainder 2 0 [0, 1] (mcons (rd 0) (mcons (rd 1) (mret []))) (mret []))) (cseq (cif (mNot (mT (mFn F_is_within 3 0 [0, 1, 2] (mcons (rd 2) (mcons (mret (dI 0)) (mcons (mret (dI 1000000000000)) (mret [])))) (mret [])))) (cstuck) (cskip)) (cret (mFn F_power_by 3 0 [0, 1, 2] (mcons (rd 0) (mcons (rd 1) (mcons (rd 2) (mret [])))) (mret []))))
def F_power_of : Fn := fres 3 3 c_power_of
theorem en_power_of (a0 a1 a2 : D) (p : Pst) : F_power_of [a0, a1, a2] p = sres (c_power_of [some (.val a0), some (.val a1), some (.val a2)] p) := rfl
theorem ip_power_of : IF F_power_of := if_fres _ _ (by
  unfold c_power_of
  repeat' first | exact ip_check_remainder | exact ip_is_within | exact ip_power_by | with_reducible apply im_ret | with_reducible apply im_rd | with_reducible apply im_op | with_reducible apply im_cmp | with_reducible apply im_b | with_reducible apply im_cons | with_reducible apply ic_seq | with_reducible apply ic_if | with_reducible apply ic_ret | with_reducible apply ic_reto | with_reducible apply ic_retown | with_reducible apply ic_asg | with_reducible apply ic_aso | with_reducible apply ic_frz | with_reducible apply ic_asgW | with_reducible apply ic_app | with_reducible apply ic_pop | with_reducible apply ic_expr | with_reducible apply ic_skip | with_reducible apply ic_stuck | with_reducible apply ic_brk | with_reducible apply ic_cnt | with_reducible apply ic_retN | with_reducible apply ic_for | with_reducible apply ic_while | with_reducible apply it_name | with_reducible apply it_tup | with_reducible apply it_cons | with_reducible apply it_nil | with_reducible apply im_fn | with_reducible apply im_fno | with_reducible apply im_lc | with_reducible apply im_yes | with_reducible apply im_and | with_reducible apply im_or | with_reducible apply im_not | with_reducible apply im_if | with_reducible apply im_frz | with_reducible apply im_lim | with_reducible apply im_tup | with_reducible apply im_call | with_reducible apply im_lst | with_reducible apply im_isi | with_reducible apply im_isis | with_reducible apply im_isN | with_reducible apply im_notN | with_reducible apply im_chain | with_reducible apply im_seq | with_reducible apply im_range1 | with_reducible apply im_range2 | with_reducible apply im_enum | with_reducible apply im_zip | with_reducible apply im_t | with_reducible apply im_notV | with_reducible apply im_andV | with_reducible apply im_orV | with_reducible apply im_part | with_reducible apply im_sl | with_reducible apply im_slo | with_reducible apply im_rev | with_reducible apply im_uV | with_reducible apply im_uO | with_reducible apply im_un | with_reducible apply im_opo | with_reducible apply im_ixO | with_reducible apply im_scal | with_reducible apply im_scalt | with_reducible apply im_index | with_reducible apply im_lrg1 | with_reducible apply im_lrg2 | with_reducible apply ic_ext | with_reducible apply ic_asgT | with_reducible apply it_subO)
/-- square_roots: slots 0 clock, 1 number, 2 one -/
def N_square_roots : List Str := ["clock", "number", "one"]
def ps_square_roots : List Str := ["clock", "number"]
def m_square_roots_1 : M (List D) := mLc [2] (mRange1 (mcons (rd 0) (mret []))) (fName 2) (mCmp dEq (mOp dMod (mOp dMul (rd 2) (rd 2)) (rd 0)) (rd 1)) (rd 2)
def c_square_roots : C := cseq (cexpr (mFn F_check_remainder 2 0 [0, 1] (mcons (rd 0) (mcons (rd 1) (mret []))) (mret []))) (creto (m_square_roots_1))
def F_square_roots : Fn := fres 3 2 c_square_roots
theorem en_square_roots (a0 a1 : D) (p : Pst) : F_square_roots [a0, a1] p = sres (c_square_roots [some (.val a0), some (.val a1), none] p) := rfl
theorem ip_square_roots : IF F_square_roots := if_fres _ _ (by
  unfold c_square_roots
  try unfold m_square_roots_1
  repeat' first | exact ip_check_remainder | with_reducible apply im_ret | with_reducible apply im_rd | with_reducible apply im_op | with_reducible apply im_cmp | with_reducible apply im_b | with_reducible apply im_cons | with_reducible apply ic_seq | with_reducible apply ic_if | with_reducible apply ic_ret | with_reducible apply ic_reto | with_reducible apply ic_retown | with_reducible apply ic_asg | with_reducible apply ic_aso | with_reducible apply ic_frz | with_reducible apply ic_asgW | with_reducible apply ic_app | with_reducible apply ic_pop | with_reducible apply ic_expr | with_reducible apply ic_skip | with_reducible apply ic_stuck | with_reducible apply ic_brk | with_reducible apply ic_cnt | with_reducible apply ic_retN | with_reducible apply ic_for | with_reducible apply ic_while | with_reducible apply it_name | with_reducible apply it_tup | with_reducible apply it_cons | with_reducible apply it_nil | with_reducible apply im_fn | with_reducible apply im_fno | with_reducible apply im_lc | with_reducible apply im_yes | with_reducible apply im_and | with_reducible apply im_or | with_reducible apply im_not | with_reducible apply im_if | with_reducible apply im_frz | with_reducible apply im_lim | with_reducible apply im_tup | with_reducible apply im_call | with_reducible apply im_lst | with_reducible apply im_isi | with_reducible apply im_isis | with_reducible apply im_isN | with_reducible apply im_notN | with_reducible apply im_chain | with_reducible apply im_seq | with_reducible apply im_range1 | with_reducible apply im_range2 | with_reducible apply im_enum | with_reducible apply im_zip | with_reducible apply im_t | with_reducible apply im_notV | with_reducible apply im_andV | with_reducible apply im_orV | with_reducible apply im_part | with_reducible apply im_sl | with_reducible apply im_slo | with_reducible apply im_rev | with_reducible apply im_uV | with_reducible apply im_uO | with_reducible apply im_un | with_reducible apply im_opo | with_reducible apply im_ixO | with_reducible apply im_scal | with_reducible apply im_scalt | with_reducible apply im_index | with_reducible apply im_lrg1 | with_reducible apply im_lrg2 | with_reducible apply ic_ext | with_reducible apply ic_asgT | with_reducible apply it_subO)
/-- logarithm: slots 0 clock, 1 base, 2 unit, 3 some -/
def N_logarithm : List Str := ["clock", "base", "unit", "some"]
def ps_logarithm : List Str := ["clock", "base", "unit"]
def c_logarithm : C := cseq (cexpr (mFn F_check_two_units 3 0 [0, 1, 2] (mcons (rd 0) (mcons (rd 1) (mcons (rd 2) (mret [])))) (mret []))) (cseq (casg 3 (mFn F_powers_of 2 0 [0, 1] (mcons (rd 0) (mcons (rd 1) (mret []))) (mret []))) (cret (mIf (mCmp dInX (rd 2) (rd 3)) (mIndex (rd 3) (rd 2)) (mret .non))))
def F_logarithm : Fn := fres 4 3 c_logarithm
theorem en_logarithm (a0 a1 a2 : D) (p : Pst) : F_logarithm [a0, a1, a2] p = sres (c_logarithm [some (.val a0), some (.val a1), some (.val a2), none] p) := rfl
theorem ip_logarithm : IF F_logarithm := if_fres _ _ (by
  unfold c_logarithm
  repeat' first | exact ip_check_two_units | exact ip_powers_of | with_reducible apply im_ret | with_reducible apply im_rd | with_reducible apply im_op | with_reducible apply im_cmp | with_reducible apply im_b | with_reducible apply im_cons | with_reducible apply ic_seq | with_reducible apply ic_if | with_reducible apply ic_ret | with_reducible apply ic_reto | with_reducible apply ic_retown | with_reducible apply ic_asg | with_reducible apply ic_aso | with_reducible apply ic_frz | with_reducible apply ic_asgW | with_reducible apply ic_app | with_reducible apply ic_pop | with_reducible apply ic_expr | with_reducible apply ic_skip | with_reducible apply ic_stuck | with_reducible apply ic_brk | with_reducible apply ic_cnt | with_reducible apply ic_retN | with_reducible apply ic_for | with_reducible apply ic_while | with_reducible apply it_name | with_reducible apply it_tup | with_reducible apply it_cons | with_reducible apply it_nil | with_reducible apply im_fn | with_reducible apply im_fno | with_reducible apply im_lc | with_reducible apply im_yes | with_reducible apply im_and | with_reducible apply im_or | with_reducible apply im_not | with_reducible apply im_if | with_reducible apply im_frz | with_reducible apply im_lim | with_reducible apply im_tup | with_reducible apply im_call | with_reducible apply im_lst | with_reducible apply im_isi | with_reducible apply im_isis | with_reducible apply im_isN | with_reducible apply im_notN | with_reducible apply im_chain | with_reducible apply im_seq | with_reducible apply im_range1 | with_reducible apply im_range2 | with_reducible apply im_enum | with_reducible apply im_zip | with_reducible apply im_t | with_reducible apply im_notV | with_reducible apply im_andV | with_reducible apply im_orV | with_reducible apply im_part | with_reducible apply im_sl | with_reducible apply im_slo | with_reducible apply im_rev | with_reducible apply im_uV | with_reducible apply im_uO | with_reducible apply im_un | with_reducible apply im_opo | with_reducible apply im_ixO | with_reducible apply im_scal | with_reducible apply im_scalt | with_reducible apply im_index | with_reducible apply im_lrg1 | with_reducible apply im_lrg2 | with_reducible apply ic_ext | with_reducible apply ic_asgT | with_reducible apply it_subO)
/-- power_bar: slots 0 clock, 1 base, 2 unit, 3 some -/
def N_power_bar : List Str := ["clock", "base", "unit", "some"]
def ps_power_bar : List Str := ["clock", "base", "unit"]
def c_power_bar : C := cseq (cexpr (mFn F_check_two_units 3 0 [0, 1, 2] (mcons (rd 0) (mcons (rd 1) (mcons (rd 2) (mret [])))) (mret []))) (cseq (caso 3 (mLst dSorted (mcons (mFn F_powers_of 2 0 [0, 1] (mcons (rd 0) (mcons (rd 1) (mret []))) (mret [])) (mret [])))) (cif (mscalt (mCmp dInX (rd 2) (rd 3))) (cret (mret .non)) (cretown 3)))
def F_power_bar : Fn := fres 4 3 c_power_bar
theorem en_power_bar (a0 a1 a2 : D) (p : Pst) : F_power_bar [a0, a1, a2] p = sres (c_power_bar [some (.val a0), some (.val a1), some (.val a2), none] p) := rfl
theorem ip_power_bar : IF F_power_bar := if_fres _ _ (by
  unfold c_power_bar
  repeat' first | exact ip_check_two_units | exact ip_powers_of | with_reducible apply im_ret | with_reducible apply im_rd | with_reducible apply im_op | with_reducible apply im_cmp | with_reducible apply im_b | with_reducible apply im_cons | with_reducible apply ic_seq | with_reducible apply ic_if | with_reducible apply ic_ret | with_reducible apply ic_reto | with_reducible apply ic_retown | with_reducible apply ic_asg | with_reducible apply ic_aso | with_reducible apply ic_frz | with_reducible apply ic_asgW | with_reducible apply ic_app | with_reducible apply ic_pop | with_reducible apply ic_expr | with_reducible apply ic_skip | with_reducible apply ic_stuck | with_reducible apply ic_brk | with_reducible apply ic_cnt | with_reducible apply ic_retN | with_reducible apply ic_for | with_reducible apply ic_while | with_reducible apply it_name | with_reducible apply it_tup | with_reducible apply it_cons | with_reducible apply it_nil | with_reducible apply im_fn | with_reducible apply im_fno | with_reducible apply im_lc | with_reducible apply im_yes | with_reducible apply im_and | with_reducible apply im_or | with_reducible apply im_not | with_reducible apply im_if | with_reducible apply im_frz | with_reducible apply im_lim | with_reducible apply im_tup | with_reducible apply im_call | with_reducible apply im_lst | with_reducible apply im_isi | with_reducible apply im_isis | with_reducible apply im_isN | with_reducible apply im_notN | with_reducible apply im_chain | with_reducible apply im_seq | with_reducible apply im_range1 | with_reducible apply im_range2 | with_reducible apply im_enum | with_reducible apply im_zip | with_reducible apply im_t | with_reducible apply im_notV | with_reducible apply im_andV | with_reducible apply im_orV | with_reducible apply im_part | with_reducible apply im_sl | with_reducible apply im_slo | with_reducible apply im_rev | with_reducible apply im_uV | with_reducible apply im_uO | with_reducible apply im_un | with_reducible apply im_opo | with_reducible apply im_ixO | with_reducible apply im_scal | with_reducible apply im_scalt | with_reducible apply im_index | with_reducible apply im_lrg1 | with_reducible apply im_lrg2 | with_reducible apply ic_ext | with_reducible apply ic_asgT | with_reducible apply it_subO)
/-- is_power_bar: slots 0 clock, 1 base, 2 unit, 3 value, 4 one, 5 late -/
def N_is_power_bar : List Str := ["clock", "base", "unit", "value", "one", "late"]
def ps_is_power_bar : List Str := ["clock", "base", "unit", "value"]
def m_is_power_bar_1 : M (List D) := mLc [4] (mSeq (rd 3)) (fName 4) (mYes) (mFn F_is_unit_of 2 0 [0, 1] (mcons (rd 0) (mcons (rd 4) (mret []))) (mret []))
def m_is_power_bar_2 : M (List D) := mLc [4, 5] (mZip (mcons (rd 3) (mcons (mSl (rd 3) (mPart (mret (dI 1))) (mret none)) (mret [])))) (fTup (fCons (fName 4) (fCons (fName 5) (fNil)))) (mYes) (mB (mCmp dLt (rd 4) (rd 5)))
def m_is_power_bar_3 : M (List D) := mLc [4] (mSeq (rd 3)) (fName 4) (mYes) (mB (mCmp dInX (mOp dMod (mOp dMul (rd 4) (rd 1)) (rd 0)) (rd 3)))
def c_is_power_bar : C := cseq (cexpr (mFn F_check_two_units 3 0 [0, 1, 2] (mcons (rd 0) (mcons (rd 1) (mcons (rd 2) (mret [])))) (mret []))) (cseq (cif (mOr (mNot (mT (mFn F_is_list 1 0 [0] (mcons (rd 3) (mret [])) (mret [])))) (mNot (mT (mCall dAll (mcons (mfrz (m_is_power_bar_1)) (mret [])))))) (cret (mret (.bl false))) (cskip)) (cseq (cif (mOr (mNot (mT (mCall dAll (mcons (mfrz (m_is_power_bar_2)) (mret []))))) (mOr (mCmp dNotInX (mret (dI 1)) (rd 3)) (mCmp dInX (rd 2) (rd 3)))) (cret (mret (.bl false))) (cskip)) (cret (mCall dAll (mcons (mfrz (m_is_power_bar_3)) (mret []))))))
def F_is_power_bar : Fn := fres 6 4 c_is_power_bar
theorem en_is_power_bar (a0 a1 a2 a3 : D) (p : Pst) : F_is_power_bar [a0, a1, a2, a3] p = sres (c_is_power_bar [some (.val a0), some (.val a1), some (.val a2), some (.val a3), none, none] p) := rfl
theorem ip_is_power_bar : IF F_is_power_bar := if_fres _ _ (by
  unfold c_is_power_bar
  try unfold m_is_power_bar_3
  try unfold m_is_power_bar_2
  try unfold m_is_power_bar_1
  repeat' first | exact ip_check_two_units | exact ip_is_list | exact ip_is_unit_of | with_reducible apply im_ret | with_reducible apply im_rd | with_reducible apply im_op | with_reducible apply im_cmp | with_reducible apply im_b | with_reducible apply im_cons | with_reducible apply ic_seq | with_reducible apply ic_if | with_reducible apply ic_ret | with_reducible apply ic_reto | with_reducible apply ic_retown | with_reducible apply ic_asg | with_reducible apply ic_aso | with_reducible apply ic_frz | with_reducible apply ic_asgW | with_reducible apply ic_app | with_reducible apply ic_pop | with_reducible apply ic_expr | with_reducible apply ic_skip | with_reducible apply ic_stuck | with_reducible apply ic_brk | with_reducible apply ic_cnt | with_reducible apply ic_retN | with_reducible apply ic_for | with_reducible apply ic_while | with_reducible apply it_name | with_reducible apply it_tup | with_reducible apply it_cons | with_reducible apply it_nil | with_reducible apply im_fn | with_reducible apply im_fno | with_reducible apply im_lc | with_reducible apply im_yes | with_reducible apply im_and | with_reducible apply im_or | with_reducible apply im_not | with_reducible apply im_if | with_reducible apply im_frz | with_reducible apply im_lim | with_reducible apply im_tup | with_reducible apply im_call | with_reducible apply im_lst | with_reducible apply im_isi | with_reducible apply im_isis | with_reducible apply im_isN | with_reducible apply im_notN | with_reducible apply im_chain | with_reducible apply im_seq | with_reducible apply im_range1 | with_reducible apply im_range2 | with_reducible apply im_enum | with_reducible apply im_zip | with_reducible apply im_t | with_reducible apply im_notV | with_reducible apply im_andV | with_reducible apply im_orV | with_reducible apply im_part | with_reducible apply im_sl | with_reducible apply im_slo | with_reducible apply im_rev | with_reducible apply im_uV | with_reducible apply im_uO | with_reducible apply im_un | with_reducible apply im_opo | with_reducible apply im_ixO | with_reducible apply im_scal | with_reducible apply im_scalt | with_reducible apply im_index | with_reducible apply im_lrg1 | with_reducible apply im_lrg2 | with_reducible apply ic_ext | with_reducible apply ic_asgT | with_reducible apply it_subO)
/-- _law_pot: slots 0 script, 1 k, 2 cell -/
def N__law_pot : List Str := ["script", "k", "cell"]
def ps__law_pot : List Str := ["script", "k"]
def c__law_pot : C := cseq (casg 2 (mIf (mCmp dLt (rd 1) (mCall dLen (mcons (rd 0) (mret [])))) (mCall dAbs (mcons (mOp dIx (rd 0) (rd 1)) (mret []))) (mOp dAdd (mOp dMul (mret (dI 2689)) (rd 1)) (mret (dI 2190))))) (cretpot (mcons (mCall dMax2 (mcons (mret (dI 0)) (mcons (mOp dSub (rd 2) (mOp dPow (mret (dI 10)) (mret (dI 18)))) (mret [])))) (mcons (mOp dAdd (mOp dMod (mCall dInt (mcons (mOp dAdd (mOp dAdd (mOp dMul (mOp dMod (mCall dInt (mcons (rd 2) (mret []))) (mret (dI 2147483549))) (mret (dI 44351))) (mOp dMul (mret (dI 1255)) (rd 1))) (mret (dI 23424))) (mret []))) (mret (dI 2147483579))) (mret (dI 1))) (mret []))))
def F__law_pot : Fn := fres 3 2 c__law_pot
theorem en__law_pot (a0 a1 : D) (p : Pst) : F__law_pot [a0, a1] p = sres (c__law_pot [some (.val a0), some (.val a1), none] p) := rfl
/-- _law_draw: slots 0 pot, 1 many, 2 digit -/
def N__law_draw : List Str := ["pot", "many", "digit"]
def ps__law_draw : List Str := ["pot", "many"]
def c__law_draw : C := cseq (cif (mCmp dGt (mIx (rd 0) (mret (dI 0))) (mret (dI 0))) (cseq (casgT (tgTup 2 (tgCons (tgSub 0 (mret (dI 0))) (tgCons (tgName 2) (tgNil)))) (mCall dDivmod (mcons (mIx (rd 0) (mret (dI 0))) (mcons (rd 1) (mret []))))) (cret (rd 2))) (cskip)) (cseq (casgT (tgSub 0 (mret (dI 1))) (mOp dMod (mCall dInt (mcons (mOp dAdd (mOp dMul (mIx (rd 0) (mret (dI 1))) (mret (dI 44351))) (mret (dI 1255))) (mret []))) (mret (dI 2147483629)))) (cret (mOp dMod (mCall dInt (mcons (mOp dDiv (mOp dMod (mCall dInt (mcons (mOp dMul (mIx (rd 0) (mret (dI 1))) (mIx (rd 0) (mret (dI 1)))) (mret []))) (mret (dI 2147483587))) (mret (dI 13))) (mret []))) (rd 1))))
def F__law_draw : Fn := fres 3 2 c__law_draw
theorem en__law_draw (a0 a1 : D) (p : Pst) : F__law_draw [a0, a1] p = sres (c__law_draw [some (.val a0), some (.val a1), none] p) := rfl
/-- _law_pick: slots 0 pot, 1 some -/
def N__law_pick : List Str := ["pot", "some"]
def ps__law_pick : List Str := ["pot", "some"]
def c__law_pick : C := cret (mOp dIx (rd 1) (mFn F__law_draw 2 0 [0, 1] (mcons (rd 0) (mcons (mCall dLen (mcons (rd 1) (mret []))) (mret []))) (mret [])))
def F__law_pick : Fn := fres 2 2 c__law_pick
theorem en__law_pick (a0 a1 : D) (p : Pst) : F__law_pick [a0, a1] p = sres (c__law_pick [some (.val a0), some (.val a1)] p) := rfl
/-- _law_divisor: slots 0 one, 1 late -/
def N__law_divisor : List Str := ["one", "late"]
def ps__law_divisor : List Str := ["one", "late"]
def b__law_divisor_1 : C := casgW [0, 1] (muV (rd 1) (muV (mOp dMod (mCall dInt (mcons (rd 0) (mret []))) (rd 1)) (mret [])))
def t__law_divisor_2 : M Bool := mCmp dNe (rd 1) (mret (dI 0))
def c__law_divisor : C := cseq (cwhile (t__law_divisor_2) (b__law_divisor_1) FUEL) (cret (rd 0))
def F__law_divisor : Fn := fres 2 2 c__law_divisor
theorem en__law_divisor (a0 a1 : D) (p : Pst) : F__law_divisor [a0, a1] p = sres (c__law_divisor [some (.val a0), some (.val a1)] p) := rfl
theorem ip__law_divisor : IF F__law_divisor := if_fres _ _ (by
  unfold c__law_divisor
  try unfold t__law_divisor_2
  try unfold b__law_divisor_1
  repeat' first | with_reducible apply im_ret | with_reducible apply im_rd | with_reducible apply im_op | with_reducible apply im_cmp | with_reducible apply im_b | with_reducible apply im_cons | with_reducible apply ic_seq | with_reducible apply ic_if | with_reducible apply ic_ret | with_reducible apply ic_reto | with_reducible apply ic_retown | with_reducible apply ic_asg | with_reducible apply ic_aso | with_reducible apply ic_frz | with_reducible apply ic_asgW | with_reducible apply ic_app | with_reducible apply ic_pop | with_reducible apply ic_expr | with_reducible apply ic_skip | with_reducible apply ic_stuck | with_reducible apply ic_brk | with_reducible apply ic_cnt | with_reducible apply ic_retN | with_reducible apply ic_for | with_reducible apply ic_while | with_reducible apply it_name | with_reducible apply it_tup | with_reducible apply it_cons | with_reducible apply it_nil | with_reducible apply im_fn | with_reducible apply im_fno | with_reducible apply im_lc | with_reducible apply im_yes | with_reducible apply im_and | with_reducible apply im_or | with_reducible apply im_not | with_reducible apply im_if | with_reducible apply im_frz | with_reducible apply im_lim | with_reducible apply im_tup | with_reducible apply im_call | with_reducible apply im_lst | with_reducible apply im_isi | with_reducible apply im_isis | with_reducible apply im_isN | with_reducible apply im_notN | with_reducible apply im_chain | with_reducible apply im_seq | with_reducible apply im_range1 | with_reducible apply im_range2 | with_reducible apply im_enum | with_reducible apply im_zip | with_reducible apply im_t | with_reducible apply im_notV | with_reducible apply im_andV | with_reducible apply im_orV | with_reducible apply im_part | with_reducible apply im_sl | with_reducible apply im_slo | with_reducible apply im_rev | with_reducible apply im_uV | with_reducible apply im_uO | with_reducible apply im_un | with_reducible apply im_opo | with_reducible apply im_ixO | with_reducible apply im_scal | with_reducible apply im_scalt | with_reducible apply im_index | with_reducible apply im_lrg1 | with_reducible apply im_lrg2 | with_reducible apply ic_ext | with_reducible apply ic_asgT | with_reducible apply it_subO)
/-- _law_clock: slots 0 pot, 1 most -/
def N__law_clock : List Str := ["pot", "most"]
def ps__law_clock : List Str := ["pot", "most"]
def c__law_clock : C := cret (mOp dAdd (mret (dI 2)) (mFn F__law_draw 2 0 [0, 1] (mcons (rd 0) (mcons (mFn F__law_pick 2 0 [0, 1] (mcons (rd 0) (mcons (mfrz (mlim (mcons (mret (dI 14)) (mcons (mret (dI 60)) (mcons (mOp dSub (rd 1) (mret (dI 1))) (mret [])))))) (mret []))) (mret [])) (mret []))) (mret [])))
def F__law_clock : Fn := fres 2 2 c__law_clock
theorem en__law_clock (a0 a1 : D) (p : Pst) : F__law_clock [a0, a1] p = sres (c__law_clock [some (.val a0), some (.val a1)] p) := rfl
/-- _law_units: slots 0 clock, 1 one -/
def N__law_units : List Str := ["clock", "one"]
def ps__law_units : List Str := ["clock"]
def m__law_units_1 : M (List D) := mLc [1] (mRange1 (mcons (rd 0) (mret []))) (fName 1) (mCmp dEq (mFn F__law_divisor 2 0 [0, 1] (mcons (rd 0) (mcons (rd 1) (mret []))) (mret [])) (mret (dI 1))) (rd 1)
def c__law_units : C := creto (m__law_units_1)
def F__law_units : Fn := fres 2 1 c__law_units
theorem en__law_units (a0 : D) (p : Pst) : F__law_units [a0] p = sres (c__law_units [some (.val a0), none] p) := rfl
theorem ip__law_units : IF F__law_units := if_fres _ _ (by
  unfold c__law_units
  try unfold m__law_units_1
  repeat' first | exact ip__law_divisor | with_reducible apply im_ret | with_reducible apply im_rd | with_reducible apply im_op | with_reducible apply im_cmp | with_reducible apply im_b | with_reducible apply im_cons | with_reducible apply ic_seq | with_reducible apply ic_if | with_reducible apply ic_ret | with_reducible apply ic_reto | with_reducible apply ic_retown | with_reducible apply ic_asg | with_reducible apply ic_aso | with_reducible apply ic_frz | with_reducible apply ic_asgW | with_reducible apply ic_app | with_reducible apply ic_pop | with_reducible apply ic_expr | with_reducible apply ic_skip | with_reducible apply ic_stuck | with_reducible apply ic_brk | with_reducible apply ic_cnt | with_reducible apply ic_retN | with_reducible apply ic_for | with_reducible apply ic_while | with_reducible apply it_name | with_reducible apply it_tup | with_reducible apply it_cons | with_reducible apply it_nil | with_reducible apply im_fn | with_reducible apply im_fno | with_reducible apply im_lc | with_reducible apply im_yes | with_reducible apply im_and | with_reducible apply im_or | with_reducible apply im_not | with_reducible apply im_if | with_reducible apply im_frz | with_reducible apply im_lim | with_reducible apply im_tup | with_reducible apply im_call | with_reducible apply im_lst | with_reducible apply im_isi | with_reducible apply im_isis | with_reducible apply im_isN | with_reducible apply im_notN | with_reducible apply im_chain | with_reducible apply im_seq | with_reducible apply im_range1 | with_reducible apply im_range2 | with_reducible apply im_enum | with_reducible apply im_zip | with_reducible apply im_t | with_reducible apply im_notV | with_reducible apply im_andV | with_reducible apply im_orV | with_reducible apply im_part | with_reducible apply im_sl | with_reducible apply im_slo | with_reducible apply im_rev | with_reducible apply im_uV | with_reducible apply im_uO | with_reducible apply im_un | with_reducible apply im_opo | with_reducible apply im_ixO | with_reducible apply im_scal | with_reducible apply im_scalt | with_reducible apply im_index | with_reducible apply im_lrg1 | with_reducible apply im_lrg2 | with_reducible apply ic_ext | with_reducible apply ic_asgT | with_reducible apply it_subO)
/-- _law_all_powers: slots 0 clock, 1 base, 2 found, 3 here -/
def N__law_all_powers : List Str := ["clock", "base", "found", "here"]
def ps__law_all_powers : List Str := ["clock", "base"]
def b__law_all_powers_1 : C := casgW [2, 3] (muV (mOp dAdd (rd 2) (mfrz (mlim (mcons (rd 3) (mret []))))) (muV (mOp dMod (mCall dInt (mcons (mOp dMul (rd 3) (rd 1)) (mret []))) (rd 0)) (mret [])))
def t__law_all_powers_2 : M Bool := mCmp dNotInX (rd 3) (rd 2)
def c__law_all_powers : C := cseq (casgW [2, 3] (muV (mfrz (mlim (mcons (mOp dMod (mCall dInt (mcons (mret (dI 1)) (mret []))) (rd 0)) (mret [])))) (muV (rd 1) (mret [])))) (cseq (cwhile (t__law_all_powers_2) (b__law_all_powers_1) FUEL) (cret (rd 2)))
def F__law_all_powers : Fn := fres 4 2 c__law_all_powers
theorem en__law_all_powers (a0 a1 : D) (p : Pst) : F__law_all_powers [a0, a1] p = sres (c__law_all_powers [some (.val a0), some (.val a1), none, none] p) := rfl
theorem ip__law_all_powers : IF F__law_all_powers := if_fres _ _ (by
  unfold c__law_all_powers
  try unfold t__law_all_powers_2
  try unfold b__law_all_powers_1
  repeat' first | with_reducible apply im_ret | with_reducible apply im_rd | with_reducible apply im_op | with_reducible apply im_cmp | with_reducible apply im_b | with_reducible apply im_cons | with_reducible apply ic_seq | with_reducible apply ic_if | with_reducible apply ic_ret | with_reducible apply ic_reto | with_reducible apply ic_retown | with_reducible apply ic_asg | with_reducible apply ic_aso | with_reducible apply ic_frz | with_reducible apply ic_asgW | with_reducible apply ic_app | with_reducible apply ic_pop | with_reducible apply ic_expr | with_reducible apply ic_skip | with_reducible apply ic_stuck | with_reducible apply ic_brk | with_reducible apply ic_cnt | with_reducible apply ic_retN | with_reducible apply ic_for | with_reducible apply ic_while | with_reducible apply it_name | with_reducible apply it_tup | with_reducible apply it_cons | with_reducible apply it_nil | with_reducible apply im_fn | with_reducible apply im_fno | with_reducible apply im_lc | with_reducible apply im_yes | with_reducible apply im_and | with_reducible apply im_or | with_reducible apply im_not | with_reducible apply im_if | with_reducible apply im_frz | with_reducible apply im_lim | with_reducible apply im_tup | with_reducible apply im_call | with_reducible apply im_lst | with_reducible apply im_isi | with_reducible apply im_isis | with_reducible apply im_isN | with_reducible apply im_notN | with_reducible apply im_chain | with_reducible apply im_seq | with_reducible apply im_range1 | with_reducible apply im_range2 | with_reducible apply im_enum | with_reducible apply im_zip | with_reducible apply im_t | with_reducible apply im_notV | with_reducible apply im_andV | with_reducible apply im_orV | with_reducible apply im_part | with_reducible apply im_sl | with_reducible apply im_slo | with_reducible apply im_rev | with_reducible apply im_uV | with_reducible apply im_uO | with_reducible apply im_un | with_reducible apply im_opo | with_reducible apply im_ixO | with_reducible apply im_scal | with_reducible apply im_scalt | with_reducible apply im_index | with_reducible apply im_lrg1 | with_reducible apply im_lrg2 | with_reducible apply ic_ext | with_reducible apply ic_asgT | with_reducible apply it_subO)
/-- _law_is_bar: slots 0 clock, 1 base, 2 unit, 3 value, 4 some, 5 one, 6 late -/
def N__law_is_bar : List Str := ["clock", "base", "unit", "value", "some", "one", "late"]
def ps__law_is_bar : List Str := ["clock", "base", "unit", "value"]
def m__law_is_bar_1 : M (List D) := mLc [5] (mSeq (rd 3)) (fName 5) (mYes) (mAndV (mIsi .int (rd 5)) (mNotV (mIsi .bool (rd 5))))
def m__law_is_bar_2 : M (List D) := mLc [5] (mSeq (rd 4)) (fName 5) (mYes) (mAndV (mB (mChain iLe iLt (mret (dI 0)) (rd 5) (rd 0))) (mB (mCmp dEq (mFn F__law_divisor 2 0 [0, 1] (mcons (rd 0) (mcons (rd 5) (mret []))) (mret [])) (mret (dI 1)))))
def m__law_is_bar_3 : M (List D) := mLc [5, 6] (mZip (mcons (rd 4) (mcons (mSl (rd 4) (mPart (mret (dI 1))) (mret none)) (mret [])))) (fTup (fCons (fName 5) (fCons (fName 6) (fNil)))) (mYes) (mB (mCmp dLt (rd 5) (rd 6)))
def m__law_is_bar_4 : M (List D) := mLc [5] (mSeq (rd 4)) (fName 5) (mYes) (mB (mCmp dInX (mOp dMod (mCall dInt (mcons (mOp dMul (rd 5) (rd 1)) (mret []))) (rd 0)) (rd 4)))
def c__law_is_bar : C := cseq (cif (mNot (mT (mIsis [.list, .tuple] (rd 3)))) (cret (mret (.bl false))) (cskip)) (cseq (cif (mNot (mT (mCall dAll (mcons (mfrz (m__law_is_bar_1)) (mret []))))) (cret (mret (.bl false))) (cskip)) (cseq (casg 4 (mfrz (mLst dList (mcons (rd 3) (mret []))))) (cseq (cif (mNot (mT (mCall dAll (mcons (mfrz (m__law_is_bar_2)) (mret []))))) (cret (mret (.bl false))) (cskip)) (cseq (cif (mOr (mNot (mT (mCall dAll (mcons (mfrz (m__law_is_bar_3)) (mret []))))) (mOr (mCmp dNotInX (mOp dMod (mCall dInt (mcons (mret (dI 1)) (mret []))) (rd 0)) (rd 4)) (mCmp dInX (rd 2) (rd 4)))) (cret (mret (.bl false))) (cskip)) (cret (mCall dAll (mcons (mfrz (m__law_is_bar_4)) (mret []))))))))
def F__law_is_bar : Fn := fres 7 4 c__law_is_bar
theorem en__law_is_bar (a0 a1 a2 a3 : D) (p : Pst) : F__law_is_bar [a0, a1, a2, a3] p = sres (c__law_is_bar [some (.val a0), some (.val a1), some (.val a2), some (.val a3), none, none, none] p) := rfl
theorem ip__law_is_bar : IF F__law_is_bar := if_fres _ _ (by
  unfold c__law_is_bar
  try unfold m__law_is_bar_4
  try unfold m__law_is_bar_3
  try unfold m__law_is_bar_2
  try unfold m__law_is_bar_1
  repeat' first | exact ip__law_divisor | with_reducible apply im_ret | with_reducible apply im_rd | with_reducible apply im_op | with_reducible apply im_cmp | with_reducible apply im_b | with_reducible apply im_cons | with_reducible apply ic_seq | with_reducible apply ic_if | with_reducible apply ic_ret | with_reducible apply ic_reto | with_reducible apply ic_retown | with_reducible apply ic_asg | with_reducible apply ic_aso | with_reducible apply ic_frz | with_reducible apply ic_asgW | with_reducible apply ic_app | with_reducible apply ic_pop | with_reducible apply ic_expr | with_reducible apply ic_skip | with_reducible apply ic_stuck | with_reducible apply ic_brk | with_reducible apply ic_cnt | with_reducible apply ic_retN | with_reducible apply ic_for | with_reducible apply ic_while | with_reducible apply it_name | with_reducible apply it_tup | with_reducible apply it_cons | with_reducible apply it_nil | with_reducible apply im_fn | with_reducible apply im_fno | with_reducible apply im_lc | with_reducible apply im_yes | with_reducible apply im_and | with_reducible apply im_or | with_reducible apply im_not | with_reducible apply im_if | with_reducible apply im_frz | with_reducible apply im_lim | with_reducible apply im_tup | with_reducible apply im_call | with_reducible apply im_lst | with_reducible apply im_isi | with_reducible apply im_isis | with_reducible apply im_isN | with_reducible apply im_notN | with_reducible apply im_chain | with_reducible apply im_seq | with_reducible apply im_range1 | with_reducible apply im_range2 | with_reducible apply im_enum | with_reducible apply im_zip | with_reducible apply im_t | with_reducible apply im_notV | with_reducible apply im_andV | with_reducible apply im_orV | with_reducible apply im_part | with_reducible apply im_sl | with_reducible apply im_slo | with_reducible apply im_rev | with_reducible apply im_uV | with_reducible apply im_uO | with_reducible apply im_un | with_reducible apply im_opo | with_reducible apply im_ixO | with_reducible apply im_scal | with_reducible apply im_scalt | with_reducible apply im_index | with_reducible apply im_lrg1 | with_reducible apply im_lrg2 | with_reducible apply ic_ext | with_reducible apply ic_asgT | with_reducible apply it_subO)
/-- _law_bent: slots 0 pot, 1 clock, 2 value, 3 at, 4 found, 5 way, 6 one -/
def N__law_bent : List Str := ["pot", "clock", "value", "at", "found", "way", "one"]
def ps__law_bent : List Str := ["pot", "clock", "value"]
def m__law_bent_1 : M (List D) := mLc [6] (mSeq (mOp dAdd (rd 4) (mfrz (mlim (mcons (mFn F__law_pick 2 0 [0, 1] (mcons (rd 0) (mcons (mFn F__law_units 1 0 [0] (mcons (rd 1) (mret [])) (mret [])) (mret []))) (mret [])) (mret [])))))) (fName 6) (mYes) (mtup (mcons (rd 6) (mcons (mret (dI 1)) (mret []))))
def c__law_bent : C := cseq (casgW [4, 5] (muV (mfrz (mLst dList (mcons (rd 2) (mret [])))) (muV (mFn F__law_draw 2 0 [0, 1] (mcons (rd 0) (mcons (mret (dI 6)) (mret []))) (mret [])) (mret [])))) (cseq (cif (mCmp dEq (rd 5) (mret (dI 0))) (cret (mFn F__law_pick 2 0 [0, 1] (mcons (rd 0) (mcons (mfrz (mlim (mcons (mret .non) (mcons (mret .emp) (mcons (mfrz (mlim (mret []))) (mcons (mret (.str "x")) (mcons (mCall dTuple (mcons (rd 4) (mret []))) (mcons (mOp dAdd (rd 4) (mSl (rd 4) (mret none) (mPart (mret (dI 1))))) (mcons (mSl (rd 4) (mPart (mret (dI 1))) (mret none)) (mcons (mret (dI 5)) (mret []))))))))))) (mret []))) (mret []))) (cskip)) (cseq (casg 3 (mFn F__law_draw 2 0 [0, 1] (mcons (rd 0) (mcons (mCall dLen (mcons (rd 4) (mret []))) (mret []))) (mret []))) (cseq (cif (mCmp dEq (rd 5) (mret (dI 1))) (cret (mfrz (mRevo (rd 4)))) (cskip)) (cseq (cif (mCmp dLt (rd 5) (mret (dI 4))) (creto (mLst dSdict (mcons (mfrz (m__law_bent_1)) (mret [])))) (cskip)) (creto (mOpo dAddO (mOp dAdd (mSl (rd 4) (mret none) (mPart (rd 3))) (mfrz (mlim (mcons (mFn F__law_pick 2 0 [0, 1] (mcons (rd 0) (mcons (mfrz (mlim (mcons (mret (dI 0)) (mcons (mret .non) (mcons (mret (.bl true)) (mcons (rd 1) (mcons (mUn dNeg (mret (dI 1))) (mcons (mOp dAdd (mOp dIx (rd 4) (rd 3)) (mret (dI 1))) (mcons (mtup (mcons (mret (dI 1)) (mret []))) (mret [])))))))))) (mret []))) (mret [])) (mret []))))) (mSl (rd 4) (mPart (mOp dAdd (rd 3) (mret (dI 1)))) (mret none))))))))
def F__law_bent : Fn := fres 7 3 c__law_bent
theorem en__law_bent (a0 a1 a2 : D) (p : Pst) : F__law_bent [a0, a1, a2] p = sres (c__law_bent [some (.val a0), some (.val a1), some (.val a2), none, none, none, none] p) := rfl
/-- _law_parts_right: slots 0 pot, 1 whole, 2 number, 3 orders, 4 one, 5 late, 6 near, 7 far -/
def N__law_parts_right : List Str := ["pot", "whole", "number", "orders", "one", "late", "near", "far"]
def ps__law_parts_right : List Str := ["pot"]
def c__law_parts_right : C := cseq (casgW [4, 5] (muV (mOp dAdd (mret (dI 2)) (mFn F__law_draw 2 0 [0, 1] (mcons (rd 0) (mcons (mret (dI 18)) (mret []))) (mret []))) (muV (mOp dAdd (mret (dI 2)) (mFn F__law_draw 2 0 [0, 1] (mcons (rd 0) (mcons (mret (dI 18)) (mret []))) (mret []))) (mret [])))) (cseq (cif (mCmp dNe (mFn F__law_divisor 2 0 [0, 1] (mcons (rd 4) (mcons (rd 5) (mret []))) (mret [])) (mret (dI 1))) (cret (mret (.bl true))) (cskip)) (cseq (casg 1 (mOp dMul (rd 4) (rd 5))) (cseq (casg 2 (mFn F__law_draw 2 0 [0, 1] (mcons (rd 0) (mcons (rd 1) (mret []))) (mret []))) (cseq (casgW [6, 7] (muV (mOp dMod (mCall dInt (mcons (rd 2) (mret []))) (rd 4)) (muV (mOp dMod (mCall dInt (mcons (rd 2) (mret []))) (rd 5)) (mret [])))) (cseq (cif (mCmp dNe (mB (mCmp dInX (rd 2) (mFn F_units 1 0 [0] (mcons (rd 1) (mret [])) (mret [])))) (mAndV (mB (mCmp dInX (rd 6) (mFn F_units 1 0 [0] (mcons (rd 4) (mret [])) (mret [])))) (mB (mCmp dInX (rd 7) (mFn F_units 1 0 [0] (mcons (rd 5) (mret [])) (mret [])))))) (cret (mret (.bl false))) (cskip)) (cseq (cif (mCmp dNe (mCall dLen (mcons (mFn F_square_roots 2 0 [0, 1] (mcons (rd 1) (mcons (rd 2) (mret []))) (mret [])) (mret []))) (mOp dMul (mCall dLen (mcons (mFn F_square_roots 2 0 [0, 1] (mcons (rd 4) (mcons (rd 6) (mret []))) (mret [])) (mret []))) (mCall dLen (mcons (mFn F_square_roots 2 0 [0, 1] (mcons (rd 5) (mcons (rd 7) (mret []))) (mret [])) (mret []))))) (cret (mret (.bl false))) (cskip)) (cseq (cif (mCmp dNe (mCall dLen (mcons (mFn F_units 1 0 [0] (mcons (rd 1) (mret [])) (mret [])) (mret []))) (mOp dMul (mCall dLen (mcons (mFn F_units 1 0 [0] (mcons (rd 4) (mret [])) (mret [])) (mret []))) (mCall dLen (mcons (mFn F_units 1 0 [0] (mcons (rd 5) (mret [])) (mret [])) (mret []))))) (cret (mret (.bl false))) (cskip)) (cseq (cif (mCmp dNotInX (rd 2) (mFn F_units 1 0 [0] (mcons (rd 1) (mret [])) (mret []))) (cret (mret (.bl true))) (cskip)) (cseq (casg 3 (mfrz (mlim (mcons (mFn F_order_of_unit 2 0 [0, 1] (mcons (rd 4) (mcons (rd 6) (mret []))) (mret [])) (mcons (mFn F_order_of_unit 2 0 [0, 1] (mcons (rd 5) (mcons (rd 7) (mret []))) (mret [])) (mret [])))))) (cret (mB (mCmp dEq (mFn F_order_of_unit 2 0 [0, 1] (mcons (rd 1) (mcons (rd 2) (mret []))) (mret [])) (mOp dDiv (mOp dMul (mOp dIx (rd 3) (mret (dI 0))) (mOp dIx (rd 3) (mret (dI 1)))) (mFn F__law_divisor 2 0 [0, 1] (mcons (mOp dIx (rd 3) (mret (dI 0))) (mcons (mOp dIx (rd 3) (mret (dI 1))) (mret []))) (mret [])))))))))))))))
def F__law_parts_right : Fn := fres 8 1 c__law_parts_right
theorem en__law_parts_right (a0 : D) (p : Pst) : F__law_parts_right [a0] p = sres (c__law_parts_right [some (.val a0), none, none, none, none, none, none, none] p) := rfl
/-- _law_right: slots 0 pot, 1 clock, 2 some, 3 base, 4 every, 5 unit, 6 due, 7 bar, 8 value, 9 told, 10 is_due, 11 shown, 12 turn -/
def N__law_right : List Str := ["pot", "clock", "some", "base", "every", "unit", "due", "bar", "value", "told", "is_due", "shown", "turn"]
def ps__law_right : List Str := ["pot"]
def m__law_right_1 : M (List D) := mLc [12] (mRange1 (mcons (mret (dI 8)) (mret []))) (fName 12) (mYes) (mFn F__law_bent 3 0 [0, 1, 2] (mcons (rd 0) (mcons (rd 1) (mcons (mfrz (mLst dSorted (mcons (rd 4) (mret [])))) (mret [])))) (mret []))
def b__law_right_2 : C := cseq (casgW [10, 11] (muV (mFn F__law_is_bar 4 0 [0, 1, 2, 3] (mcons (rd 1) (mcons (rd 3) (mcons (rd 5) (mcons (rd 8) (mret []))))) (mret [])) (muV (mCall dReprE (mcons (rd 8) (mret []))) (mret [])))) (cseq (caso 9 (mlim (mcons (mFn F_is_power_bar 4 0 [0, 1, 2, 3] (mcons (rd 1) (mcons (rd 3) (mcons (rd 5) (mcons (rd 8) (mret []))))) (mret [])) (mret [])))) (cseq (capp 9 (mFn F_is_power_bar 0 4 [3, 2, 1, 0] (mret []) (mcons (rd 8) (mcons (rd 5) (mcons (rd 3) (mcons (rd 1) (mret []))))))) (cif (mOr (mCmp dNe (mscal (mCall dReprE (mcons (rd 9) (mret [])))) (mCall dReprE (mcons (mfrz (mlim (mcons (rd 10) (mcons (rd 10) (mret []))))) (mret [])))) (mOr (mCmp dNe (mCall dReprE (mcons (rd 8) (mret []))) (rd 11)) (mAnd (mT (rd 10)) (mNotN (rd 6))))) (cret (mret (.bl false))) (cskip))))
def b__law_right_3 : C := cseq (casg 6 (mIf (mCmp dInX (rd 5) (rd 4)) (mIndex (rd 4) (rd 5)) (mret .non))) (cseq (cif (mCmp dNe (mCall dReprE (mcons (mfrz (mlim (mcons (mFn F_logarithm 3 0 [0, 1, 2] (mcons (rd 1) (mcons (rd 3) (mcons (rd 5) (mret [])))) (mret [])) (mcons (mFn F_logarithm 0 3 [2, 1, 0] (mret []) (mcons (rd 5) (mcons (rd 3) (mcons (rd 1) (mret []))))) (mret []))))) (mret []))) (mCall dReprE (mcons (mfrz (mlim (mcons (rd 6) (mcons (rd 6) (mret []))))) (mret [])))) (cret (mret (.bl false))) (cskip)) (cseq (casg 7 (mIf (mIsN (rd 6)) (mfrz (mLst dSorted (mcons (rd 4) (mret [])))) (mret .non))) (cseq (cif (mCmp dNe (mCall dReprE (mcons (mfrz (mlim (mcons (mFn F_power_bar 3 0 [0, 1, 2] (mcons (rd 1) (mcons (rd 3) (mcons (rd 5) (mret [])))) (mret [])) (mcons (mFn F_power_bar 0 3 [2, 1, 0] (mret []) (mcons (rd 5) (mcons (rd 3) (mcons (rd 1) (mret []))))) (mret []))))) (mret []))) (mCall dReprE (mcons (mfrz (mlim (mcons (rd 7) (mcons (rd 7) (mret []))))) (mret [])))) (cret (mret (.bl false))) (cskip)) (cseq (cif (mAnd (mNotN (rd 6)) (mCmp dNe (mFn F_power_of 3 0 [0, 1, 2] (mcons (rd 1) (mcons (rd 3) (mcons (rd 6) (mret [])))) (mret [])) (rd 5))) (cret (mret (.bl false))) (cskip)) (cseq (cfor (mSeq (mOp dAdd (mfrz (mlim (mcons (rd 7) (mcons (mret .non) (mcons (mfrz (mLst dSorted (mcons (rd 4) (mret [])))) (mret [])))))) (mfrz (m__law_right_1)))) (tgName 8) (b__law_right_2)) (cif (mNotN (rd 7)) (cseq (cdropapp (mFno F_power_bar 3 0 [0, 1, 2] (mcons (rd 1) (mcons (rd 3) (mcons (rd 5) (mret [])))) (mret [])) (mret .non)) (cif (mCmp dNe (mFn F_power_bar 3 0 [0, 1, 2] (mcons (rd 1) (mcons (rd 3) (mcons (rd 5) (mret [])))) (mret [])) (rd 7)) (cret (mret (.bl false))) (cskip))) (cskip)))))))
def c__law_right : C := cseq (casg 1 (mFn F__law_pick 2 0 [0, 1] (mcons (rd 0) (mcons (mfrz (mlim (mcons (mFn F__law_clock 2 0 [0, 1] (mcons (rd 0) (mcons (mret (dI 400)) (mret []))) (mret [])) (mcons (mFn F__law_clock 2 0 [0, 1] (mcons (rd 0) (mcons (mret (dI 60)) (mret []))) (mret [])) (mcons (mret (dI 15)) (mcons (mret (dI 97)) (mret []))))))) (mret []))) (mret []))) (cseq (casg 2 (mFn F__law_units 1 0 [0] (mcons (rd 1) (mret [])) (mret []))) (cseq (casg 3 (mFn F__law_pick 2 0 [0, 1] (mcons (rd 0) (mcons (rd 2) (mret []))) (mret []))) (cseq (casg 4 (mFn F__law_all_powers 2 0 [0, 1] (mcons (rd 1) (mcons (rd 3) (mret []))) (mret []))) (cseq (cfor (mSeq (mfrz (mlim (mcons (mFn F__law_pick 2 0 [0, 1] (mcons (rd 0) (mcons (rd 2) (mret []))) (mret [])) (mcons (mFn F__law_pick 2 0 [0, 1] (mcons (rd 0) (mcons (rd 4) (mret []))) (mret [])) (mcons (mFn F__law_pick 2 0 [0, 1] (mcons (rd 0) (mcons (rd 2) (mret []))) (mret [])) (mret []))))))) (tgName 5) (b__law_right_3)) (cret (mFn F__law_parts_right 1 0 [0] (mcons (rd 0) (mret [])) (mret [])))))))
def F__law_right : Fn := fres 13 1 c__law_right
theorem en__law_right (a0 : D) (p : Pst) : F__law_right [a0] p = sres (c__law_right [some (.val a0), none, none, none, none, none, none, none, none, none, none, none, none] p) := rfl
/-- law: slots 0 script, 1 k, 2 pot -/
def N_law : List Str := ["script", "k", "pot"]
def ps_law : List Str := ["script"]
def b_law_1 : C := cseq (casg 2 (mFn F__law_pot 2 0 [0, 1] (mcons (rd 0) (mcons (rd 1) (mret []))) (mret []))) (cif (mOr (mNot (mT (mFn F__law_right 1 0 [0] (mcons (rd 2) (mret [])) (mret [])))) (mNot (mT (mFn F__law_parts_right 1 0 [0] (mcons (rd 2) (mret [])) (mret []))))) (cret (mret (.bl false))) (cskip))
def c_law : C := cseq (cfor (mRange1 (mcons (mCall dMax2 (mcons (mret (dI 1)) (mcons (mCall dMin2 (mcons (mret (dI 3)) (mcons (mCall dLen (mcons (rd 0) (mret []))) (mret [])))) (mret [])))) (mret []))) (tgName 1) (b_law_1)) (cret (mret (.bl true)))
def F_law : Fn := fres 3 1 c_law
theorem en_law (a0 : D) (p : Pst) : F_law [a0] p = sres (c_law [some (.val a0), none, none] p) := rfl
end PF

namespace PF
/-! ### primes that divide -/
def isPr (q : Nat) : Bool := decide (2 ≤ q) && (List.range q).all fun d => decide (d < 2) || !decide (q % d = 0)
def isPd (n q : Nat) : Bool := decide (2 ≤ q) && (decide (n % q = 0) && isPr q)
def plB (n k : Nat) : List Nat := (List.range k).filter (isPd n)
def pdv (n : Nat) : List Nat := plB n (n + 1)
theorem isPr_iff {q : Nat} : isPr q = true ↔ 2 ≤ q ∧ ∀ d, d ∣ q → 2 ≤ d → d = q := by
  unfold isPr
  simp only [Bool.and_eq_true, decide_eq_true_eq, List.all_eq_true, List.mem_range, Bool.or_eq_true, Bool.not_eq_true', decide_eq_false_iff_not]
  constructor
  · rintro ⟨h, k⟩
    refine ⟨h, fun d hd h2 => ?_⟩
    have hle := Nat.le_of_dvd (by omega) hd
    rcases Nat.lt_or_eq_of_le hle with h3 | h3
    · rcases k d h3 with h4 | h4
      · omega
      · exact absurd (Nat.mod_eq_zero_of_dvd hd) h4
    · exact h3
  · rintro ⟨h, k⟩
    refine ⟨h, fun d hd => ?_⟩
    by_cases h2 : d < 2
    · exact .inl h2
    · refine .inr fun e => ?_
      have := k d (Nat.dvd_of_mod_eq_zero e) (by omega)
      omega
theorem isPd_iff {n q : Nat} : isPd n q = true ↔ q ∣ n ∧ isPr q = true := by
  unfold isPd
  simp only [Bool.and_eq_true, decide_eq_true_eq]
  constructor
  · rintro ⟨_, h1, h2⟩; exact ⟨Nat.dvd_of_mod_eq_zero h1, h2⟩
  · rintro ⟨h1, h2⟩; exact ⟨(isPr_iff.mp h2).1, Nat.mod_eq_zero_of_dvd h1, h2⟩
theorem ex_prime : ∀ m : Nat, 2 ≤ m → ∃ q, isPr q = true ∧ q ∣ m := by
  intro m
  induction m using Nat.strongRecOn with
  | ind m ih =>
    intro h
    by_cases hp : isPr m = true
    · exact ⟨m, hp, Nat.dvd_refl m⟩
    · have : ∃ d, d ∣ m ∧ 2 ≤ d ∧ d ≠ m := by
        apply Classical.byContradiction
        intro hn
        exact hp (isPr_iff.mpr ⟨h, fun d hd h2 => Classical.byContradiction fun hne => hn ⟨d, hd, h2, hne⟩⟩)
      obtain ⟨d, hd, h2, hne⟩ := this
      have hle := Nat.le_of_dvd (by omega) hd
      obtain ⟨q, hq, hqd⟩ := ih d (by omega) h2
      exact ⟨q, hq, Nat.dvd_trans hqd hd⟩
theorem euclid {q a b : Nat} (hq : isPr q = true) (h : q ∣ a * b) : q ∣ a ∨ q ∣ b := by
  obtain ⟨h2, hp⟩ := isPr_iff.mp hq
  by_cases hg : Nat.gcd q a = 1
  · exact .inr (Nat.Coprime.dvd_of_dvd_mul_left hg h)
  · have hd : Nat.gcd q a ∣ q := Nat.gcd_dvd_left q a
    have h0 : 0 < Nat.gcd q a := Nat.gcd_pos_of_pos_left a (by omega)
    have := hp _ hd (by omega)
    exact .inl (this ▸ Nat.gcd_dvd_right q a)
theorem mem_plB {n k q : Nat} : q ∈ plB n k ↔ q < k ∧ q ∣ n ∧ isPr q = true := by
  unfold plB
  rw [List.mem_filter, List.mem_range, isPd_iff]
theorem mem_pdv {n q : Nat} (hn : 0 < n) : q ∈ pdv n ↔ q ∣ n ∧ isPr q = true := by
  unfold pdv
  rw [mem_plB]
  constructor
  · exact fun h => h.2
  · exact fun h => ⟨Nat.lt_succ_of_le (Nat.le_of_dvd hn h.1), h⟩
theorem plB_succ (n k : Nat) : plB n (k + 1) = plB n k ++ if isPd n k = true then [k] else [] := by
  unfold plB
  rw [List.range_succ, List.filter_append]
  congr 1
  cases e : isPd n k <;> simp [e]
theorem plB_none {n k : Nat} (h : isPd n k = false) : plB n (k + 1) = plB n k := by
  rw [plB_succ, h]; simp
theorem plB_same (n a : Nat) : ∀ j, (∀ q, a ≤ q → isPd n q = false) → plB n (a + j) = plB n a
  | 0, _ => rfl
  | j + 1, h => by rw [← Nat.add_assoc, plB_none (h _ (by omega)), plB_same n a j h]
theorem plB_end {n k : Nat} (hn : 0 < n) (h : ∀ q, k ≤ q → isPd n q = false) : plB n k = pdv n := by
  have h' : ∀ q, n + 1 ≤ q → isPd n q = false := fun q hq => by
    cases e : isPd n q with
    | false => rfl
    | true => have := Nat.le_of_dvd hn (isPd_iff.mp e).1; omega
  unfold pdv
  rcases Nat.le_total k (n + 1) with hk | hk
  · obtain ⟨j, e⟩ : ∃ j, n + 1 = k + j := ⟨n + 1 - k, by omega⟩
    rw [e, plB_same n k j h]
  · obtain ⟨j, rfl⟩ : ∃ j, k = n + 1 + j := ⟨k - (n + 1), by omega⟩
    rw [plB_same n (n + 1) j h']
/-- what holds ahead of each turn: the rest n of N, primes below k told -/
structure PI (N k n : Nat) : Prop where
  n0 : 0 < n
  k2 : 2 ≤ k
  nN : n ∣ N
  lo : ∀ d, d ∣ n → 2 ≤ d → k ≤ d
  hi : ∀ q, isPr q = true → q ∣ N → k ≤ q → q ∣ n
theorem PI.start {N : Nat} (h : 0 < N) : PI N 2 N := ⟨h, by omega, Nat.dvd_refl N, fun d _ h => h, fun q _ h _ => h⟩
theorem PI.prime {N k n : Nat} (h : PI N k n) (hd : n % k = 0) : isPd N k = true :=
  isPd_iff.mpr ⟨Nat.dvd_trans (Nat.dvd_of_mod_eq_zero hd) h.nN, isPr_iff.mpr ⟨h.k2, fun d hd2 h2 => Nat.le_antisymm (Nat.le_of_dvd (by have := h.k2; omega) hd2) (h.lo d (Nat.dvd_trans hd2 (Nat.dvd_of_mod_eq_zero hd)) h2)⟩⟩
theorem PI.none {N k n : Nat} (h : PI N k n) (hd : n % k ≠ 0) : isPd N k = false := by
  cases e : isPd N k with
  | false => rfl
  | true =>
    obtain ⟨h1, h2⟩ := isPd_iff.mp e
    exact absurd (Nat.mod_eq_zero_of_dvd (h.hi k h2 h1 (Nat.le_refl k))) hd
theorem PI.next {N k n : Nat} (h : PI N k n) (hd : n % k ≠ 0) : PI N (k + 1) n :=
  ⟨h.n0, by have := h.k2; omega, h.nN, fun d hd2 h2 => by
    have := h.lo d hd2 h2
    rcases Nat.lt_or_eq_of_le this with h3 | h3
    · exact h3
    · subst h3; exact absurd (Nat.mod_eq_zero_of_dvd hd2) hd, fun q h1 h2 h3 => h.hi q h1 h2 (by omega)⟩
theorem PI.endN {N k : Nat} (h : PI N k 1) (hN : 0 < N) : plB N k = pdv N := plB_end hN fun q hq => by
  cases e : isPd N q with
  | false => rfl
  | true =>
    obtain ⟨h1, h2⟩ := isPd_iff.mp e
    have := Nat.le_of_dvd (by omega) (h.hi q h2 h1 hq)
    have := (isPr_iff.mp h2).1
    omega
/-- while k is being taken out of n -/
structure PJ (N k n : Nat) : Prop where
  n0 : 0 < n
  k2 : 2 ≤ k
  nN : n ∣ N
  lo : ∀ d, d ∣ n → 2 ≤ d → k ≤ d
  hi : ∀ q, isPr q = true → q ∣ N → k < q → q ∣ n
theorem PI.toJ {N k n : Nat} (h : PI N k n) : PJ N k n := ⟨h.n0, h.k2, h.nN, h.lo, fun q h1 h2 h3 => h.hi q h1 h2 (Nat.le_of_lt h3)⟩
theorem PJ.div {N k n : Nat} (h : PJ N k n) (hd : n % k = 0) : PJ N k (n / k) := by
  have hk : k ∣ n := Nat.dvd_of_mod_eq_zero hd
  have hm : k * (n / k) = n := Nat.mul_div_cancel' hk
  have hd2 : n / k ∣ n := ⟨k, by rw [Nat.mul_comm]; exact hm.symm⟩
  refine ⟨?_, h.k2, Nat.dvd_trans hd2 h.nN, fun d h1 h2 => h.lo d (Nat.dvd_trans h1 hd2) h2, fun q h1 h2 h3 => ?_⟩
  · exact Nat.div_pos (Nat.le_of_dvd h.n0 hk) (by have := h.k2; omega)
  · have := h.hi q h1 h2 h3
    rw [← hm] at this
    rcases euclid h1 this with h4 | h4
    · have := Nat.le_of_dvd (by have := h.k2; omega) h4; omega
    · exact h4
theorem PJ.done {N k n : Nat} (h : PJ N k n) (hd : n % k ≠ 0) : PI N (k + 1) n :=
  ⟨h.n0, by have := h.k2; omega, h.nN, fun d hd2 h2 => by
    have := h.lo d hd2 h2
    rcases Nat.lt_or_eq_of_le this with h3 | h3
    · exact h3
    · subst h3; exact absurd (Nat.mod_eq_zero_of_dvd hd2) hd, fun q h1 h2 h3 => h.hi q h1 h2 (by omega)⟩
theorem PJ.le {N k n : Nat} (h : PJ N k n) (hn : 1 < n) : k ≤ n := h.lo n (Nat.dvd_refl n) hn
theorem div_lt_of {n k : Nat} (hn : 0 < n) (hk : 2 ≤ k) : n / k < n := Nat.div_lt_self hn hk
/-! ### orders -/
structure IsOrd (c u k : Nat) : Prop where
  pos : 1 ≤ k
  one : u ^ k % c = 1 % c
  min : ∀ j, 1 ≤ j → j < k → u ^ j % c ≠ 1 % c
def ord (c u : Nat) : Nat := ((List.range 401).find? fun k => decide (1 ≤ k) && decide (u ^ k % c = 1 % c)).getD 0
theorem ord_spec {c u L : Nat} (h1 : 1 ≤ L) (h2 : L ≤ 400) (h : u ^ L % c = 1 % c) : IsOrd c u (ord c u) ∧ ord c u ≤ L := by
  unfold ord
  cases e : (List.range 401).find? fun k => decide (1 ≤ k) && decide (u ^ k % c = 1 % c) with
  | none =>
    have := List.find?_eq_none.mp e L (List.mem_range.mpr (by omega))
    simp [h] at this
    omega
  | some k =>
    obtain ⟨ha, hb, hc⟩ := List.find?_range_eq_some.mp e
    simp only [Bool.and_eq_true, decide_eq_true_eq] at ha
    simp only [Bool.not_eq_true', Bool.and_eq_false_iff, decide_eq_false_iff_not] at hc
    refine ⟨⟨ha.1, ha.2, fun j hj1 hj2 => ?_⟩, ?_⟩
    · rcases hc j hj2 with h3 | h3
      · exact absurd hj1 h3
      · exact h3
    · show k ≤ L
      apply Classical.byContradiction
      intro hk
      rcases hc L (by omega) with h3 | h3
      · exact h3 h1
      · exact h3 h
theorem IsOrd.uniq {c u k j : Nat} (h : IsOrd c u k) (h' : IsOrd c u j) : k = j := by
  rcases Nat.lt_trichotomy k j with h1 | h1 | h1
  · exact absurd h.one (h'.min k h.pos h1)
  · exact h1
  · exact absurd h'.one (h.min j h'.pos h1)
theorem pow_dvd {c u k m : Nat} (h : u ^ k % c = 1 % c) (hd : k ∣ m) : u ^ m % c = 1 % c := by
  obtain ⟨t, rfl⟩ := hd
  rw [Nat.pow_mul, Nat.pow_mod, h, ← Nat.pow_mod, Nat.one_pow]
theorem IsOrd.dvd {c u k m : Nat} (h : IsOrd c u k) (hm : u ^ m % c = 1 % c) : k ∣ m := by
  apply Classical.byContradiction
  intro hn
  have h1 : 1 ≤ m % k := Nat.pos_of_ne_zero fun e => hn (Nat.dvd_of_mod_eq_zero e)
  have h2 : m % k < k := Nat.mod_lt _ (by have := h.pos; omega)
  refine h.min _ h1 h2 ?_
  have e : u ^ m = u ^ (k * (m / k)) * u ^ (m % k) := by rw [← Nat.pow_add]; congr 1; exact (Nat.div_add_mod m k).symm
  have e1 : u ^ (k * (m / k)) % c = 1 % c := pow_dvd h.one ⟨m / k, rfl⟩
  rw [e, Nat.mul_mod, e1, ← Nat.mul_mod, Nat.one_mul] at hm
  exact hm
theorem IsOrd.iff {c u k v : Nat} (hc : 2 ≤ c) (h : IsOrd c u k) (hv : 1 ≤ v) : v = k ↔ u ^ v % c = 1 % c ∧ ∀ q ∈ pdv v, u ^ (v / q) % c ≠ 1 := by
  have c1 : 1 % c = 1 := Nat.mod_eq_of_lt (by omega)
  constructor
  · rintro rfl
    refine ⟨h.one, fun q hq => ?_⟩
    obtain ⟨h1, h2⟩ := (mem_pdv hv).mp hq
    have h3 := (isPr_iff.mp h2).1
    rw [← c1]
    exact h.min _ (Nat.div_pos (Nat.le_of_dvd hv h1) (by omega)) (Nat.div_lt_self hv h3)
  · rintro ⟨h1, h2⟩
    obtain ⟨m, rfl⟩ := h.dvd h1
    rcases Nat.lt_trichotomy m 1 with h3 | h3 | h3
    · have : m = 0 := by omega
      subst this; omega
    · subst h3; omega
    · exfalso
      obtain ⟨q, hq, t, rfl⟩ := ex_prime m h3
      have hq2 := (isPr_iff.mp hq).1
      refine h2 q ((mem_pdv hv).mpr ⟨⟨k * t, by rw [Nat.mul_left_comm]⟩, hq⟩) ?_
      have : k * (q * t) / q = k * t := by rw [Nat.mul_left_comm]; exact Nat.mul_div_cancel_left _ (by omega)
      rw [this, pow_dvd h.one ⟨t, rfl⟩, c1]
/-! ### units -/
def uns (c : Nat) : List Nat := (List.range c).filter fun u => decide (Nat.gcd u c = 1)
theorem mem_uns {c u : Nat} : u ∈ uns c ↔ u < c ∧ Nat.gcd u c = 1 := by simp [uns]
theorem bez : ∀ a b : Nat, ∃ x y : Int, (a : Int) * x + (b : Int) * y = (Nat.gcd a b : Int) := by
  intro a b
  induction a, b using Nat.gcd.induction with
  | H0 n => exact ⟨0, 1, by simp⟩
  | H1 m n hm ih =>
    obtain ⟨x, y, h⟩ := ih
    refine ⟨y - (n / m : Nat) * x, x, ?_⟩
    rw [Nat.gcd_rec m n, ← h]
    have e : ((n % m : Nat) : Int) = (n : Int) - (m : Int) * ((n / m : Nat) : Int) := by
      have := Nat.mod_add_div n m
      have h2 : ((n % m + m * (n / m) : Nat) : Int) = (n : Int) := by rw [this]
      rw [Int.natCast_add, Int.natCast_mul] at h2
      omega
    rw [e, Int.mul_sub, Int.sub_mul, Int.mul_assoc]
    omega
theorem inv_of {r c : Nat} (h : Nat.gcd r c = 1) (hc : 0 < c) : ∃ s : Nat, r * s % c = 1 % c := by
  obtain ⟨x, y, e⟩ := bez r c
  rw [h] at e
  refine ⟨(x % (c : Int)).toNat, ?_⟩
  have h1 : ((x % (c : Int)).toNat : Int) = x % (c : Int) := Int.toNat_of_nonneg (Int.emod_nonneg _ (by omega))
  have h2 : (((r * (x % (c : Int)).toNat % c : Nat)) : Int) = ((1 % c : Nat) : Int) := by
    rw [Int.natCast_emod, Int.natCast_mul, h1, Int.mul_emod, Int.emod_emod, ← Int.mul_emod, Int.natCast_emod]
    have : (r : Int) * x = 1 + (c : Int) * (-y) := by rw [Int.mul_neg]; have e' : (r : Int) * x + (c : Int) * y = 1 := e; omega
    rw [this, Int.add_mul_emod_self_left]
    rfl
  exact Int.ofNat.inj h2
theorem coprime_of_mul {x n c : Nat} (hc : 2 ≤ c) (h : x * n % c = 1 % c) : Nat.gcd x c = 1 := by
  have d1 : Nat.gcd x c ∣ c := Nat.gcd_dvd_right x c
  have d2 : Nat.gcd x c ∣ x * n % c := (Nat.dvd_mod_iff d1).mpr (Nat.dvd_mul_right_of_dvd (Nat.gcd_dvd_left x c) n)
  rw [h, Nat.mod_eq_of_lt (by omega)] at d2
  exact Nat.eq_one_of_dvd_one d2
def und (c n : Nat) : List Nat := (List.range c).filter fun x => decide (x * n % c = 1 % c)
theorem und_uns {c n : Nat} (hc : 2 ≤ c) : (uns c).filter (fun x => decide (x * n % c = 1 % c)) = und c n := by
  unfold uns und
  rw [List.filter_filter]
  refine List.filter_congr fun x _ => ?_
  by_cases h : x * n % c = 1 % c
  · simp [h, coprime_of_mul hc h]
  · simp [h]
theorem und_nil {c n : Nat} (hc : 2 ≤ c) : und c n = [] ↔ Nat.gcd c n ≠ 1 := by
  constructor
  · intro h e
    obtain ⟨s, hs⟩ := inv_of (r := n) (c := c) (by rw [Nat.gcd_comm]; exact e) (by omega)
    have : s % c ∈ und c n := by
      unfold und
      refine List.mem_filter.mpr ⟨List.mem_range.mpr (Nat.mod_lt _ (by omega)), ?_⟩
      rw [decide_eq_true_eq, Nat.mod_mul_mod, Nat.mul_comm]; exact hs
    rw [h] at this; cases this
  · intro h
    cases e : und c n with
    | nil => rfl
    | cons x l =>
      exfalso
      have : x ∈ und c n := by rw [e]; exact List.mem_cons_self
      have := (List.mem_filter.mp this).2
      rw [decide_eq_true_eq] at this
      refine h ?_
      rw [Nat.gcd_comm]
      exact coprime_of_mul (x := n) (n := x) hc (by rw [Nat.mul_comm]; exact this)
def gT : List Nat := [1, 2, 3, 2, 5, 3, 3, 2, 3, 2, 5, 2, 3, 2, 3, 3, 5, 2, 3, 2, 7, 5, 5, 2, 7, 2, 3, 2, 7, 3, 3, 2, 3, 2, 5, 2, 3, 2, 3, 6, 5, 3, 3, 2, 5, 5, 5, 3, 3, 5, 7, 2, 5, 2, 3, 2, 3, 2, 7, 2, 3, 2, 3, 2, 5, 2, 3, 2, 3, 7, 5, 5, 5, 2, 3, 2, 7, 3, 3, 2, 7, 2, 5, 3, 3, 2, 3, 3, 7, 2, 3, 11, 5, 2, 5, 5, 3, 2, 3, 2, 5, 5, 7, 2, 3, 2, 5, 6, 3, 2, 3, 3, 5, 2, 3, 2, 11, 3, 7, 2, 7, 7, 3, 2, 5, 3, 3, 5, 3, 2, 5, 2, 7, 2, 3, 3, 5, 2, 3, 2, 7, 2, 5, 2, 5, 2, 5, 2, 13, 6, 3, 5, 3, 3, 7, 5, 3, 2, 3, 3, 5, 2, 7, 2, 5, 5, 5, 2, 3, 2, 3, 2, 11, 2, 3, 2, 3, 2, 7, 2, 5, 2, 3, 2, 11, 3, 3, 2, 3, 19, 5, 5, 5, 2, 3, 2, 5, 3, 3, 2, 3, 2, 5, 6, 5, 2, 3, 2, 17, 2, 3, 2, 5, 3, 5, 3, 11, 5, 3, 3, 5, 3, 3, 2, 3, 2, 5, 6, 3, 2, 3, 3, 5, 2, 3, 2, 3, 7, 7, 7, 7, 2, 7, 2, 7, 2, 3, 2, 3, 6, 5, 2, 3, 7, 3, 3, 5, 2, 3, 2, 17, 5, 5, 2, 3, 7, 7, 2, 7, 6, 3, 2, 3, 2, 5, 5, 3, 2, 3, 3, 5, 3, 3, 2, 7, 11, 5, 3, 3, 5, 5, 2, 5, 2, 5, 2, 3, 2, 13, 2, 7, 2, 3, 2, 5, 5, 3, 2, 3, 17, 7, 10, 5, 2, 3, 2, 5, 2, 3, 2, 3, 3, 5, 2, 3, 10, 7, 3, 7, 3, 3, 2, 5, 2, 5, 10, 7, 5, 3, 3, 5, 3, 3, 2, 3, 2, 11, 2, 3, 2, 3, 3, 5, 2, 3, 5, 7, 7, 7, 2, 21, 2, 5, 11, 7, 6, 3, 7, 3, 2, 7, 2, 3, 2, 3, 2, 5, 2, 3, 7, 19, 5, 5, 2, 5, 2, 5, 2, 7, 3, 3, 2, 3, 2, 5, 5, 3, 2, 3]
def lamT : List Nat := [1, 2, 2, 4, 2, 6, 2, 6, 4, 10, 2, 12, 6, 4, 4, 16, 6, 18, 4, 6, 10, 22, 2, 20, 12, 18, 6, 28, 4, 30, 8, 10, 16, 12, 6, 36, 18, 12, 4, 40, 6, 42, 10, 12, 22, 46, 4, 42, 20, 16, 12, 52, 18, 20, 6, 18, 28, 58, 4, 60, 30, 6, 16, 12, 10, 66, 16, 22, 12, 70, 6, 72, 36, 20, 18, 30, 12, 78, 4, 54, 40, 82, 6, 16, 42, 28, 10, 88, 12, 12, 22, 30, 46, 36, 8, 96, 42, 30, 20, 100, 16, 102, 12, 12, 52, 106, 18, 108, 20, 36, 12, 112, 18, 44, 28, 12, 58, 48, 4, 110, 60, 40, 30, 100, 6, 126, 32, 42, 12, 130, 10, 18, 66, 36, 16, 136, 22, 138, 12, 46, 70, 60, 12, 28, 72, 42, 36, 148, 20, 150, 18, 48, 30, 60, 12, 156, 78, 52, 8, 66, 54, 162, 40, 20, 82, 166, 6, 156, 16, 18, 42, 172, 28, 60, 20, 58, 88, 178, 12, 180, 12, 60, 22, 36, 30, 80, 46, 18, 36, 190, 16, 192, 96, 12, 42, 196, 30, 198, 20, 66, 100, 84, 16, 40, 102, 66, 12, 90, 12, 210, 52, 70, 106, 84, 18, 30, 108, 72, 20, 48, 36, 222, 24, 60, 112, 226, 18, 228, 44, 30, 28, 232, 12, 92, 58, 78, 48, 238, 4, 240, 110, 162, 60, 84, 40, 36, 30, 82, 100, 250, 6, 110, 126, 16, 64, 256, 42, 36, 12, 84, 130, 262, 10, 52, 18, 88, 66, 268, 36, 270, 16, 12, 136, 20, 22, 276, 138, 30, 12, 280, 46, 282, 70, 36, 60, 120, 24, 272, 28, 96, 72, 292, 42, 116, 36, 90, 148, 132, 20, 42, 150, 100, 36, 60, 48, 306, 30, 102, 60, 310, 12, 312, 156, 12, 78, 316, 52, 140, 16, 106, 66, 144, 54, 60, 162, 108, 40, 138, 20, 330, 82, 36, 166, 132, 12, 336, 156, 112, 16, 30, 18, 294, 42, 44, 172, 346, 28, 348, 60, 36, 40, 352, 58, 140, 88, 48, 178, 358, 12, 342, 180, 110, 12, 72, 60, 366, 44, 120, 36, 156, 30, 372, 80, 100, 46, 84, 18, 378, 36, 126, 190, 382, 32, 60, 192, 42, 96, 388, 12, 176, 42, 130, 196, 156, 30, 396, 198, 18, 20]
def lam (c : Nat) : Nat := lamT.getD (c - 2) 0
def gen (c : Nat) : Nat := gT.getD (c - 2) 0
def late (c : Nat) : Nat := if c % 2 = 0 then c / 2 else c
def hasRoots (c : Nat) : Bool := decide (c = 2) || (decide (c = 4) || (decide (late c % 2 = 1) && decide ((pdv (late c)).length = 1)))
def chkL (c : Nat) : Bool :=
  decide (1 ≤ lam c) && (decide (lam c ≤ 400) && (decide (gen c < c) && (decide (Nat.gcd (gen c) c = 1) && ((List.range (lam c)).all (fun j => decide (j < 1) || !decide (gen c ^ j % c = 1 % c)) &&
  ((List.range c).all (fun u => !decide (Nat.gcd u c = 1) || decide (u ^ lam c % c = 1 % c)) && (decide (lam c ≤ (uns c).length) && (decide (lam c = (uns c).length) == hasRoots c)))))))
theorem kL_2 : (List.range 25).all (fun k => chkL (k + 2)) = true := by decide +kernel
theorem kL_27 : (List.range 25).all (fun k => chkL (k + 27)) = true := by decide +kernel
theorem kL_52 : (List.range 25).all (fun k => chkL (k + 52)) = true := by decide +kernel
theorem kL_77 : (List.range 25).all (fun k => chkL (k + 77)) = true := by decide +kernel
theorem kL_102 : (List.range 25).all (fun k => chkL (k + 102)) = true := by decide +kernel
theorem kL_127 : (List.range 25).all (fun k => chkL (k + 127)) = true := by decide +kernel
theorem kL_152 : (List.range 25).all (fun k => chkL (k + 152)) = true := by decide +kernel
theorem kL_177 : (List.range 25).all (fun k => chkL (k + 177)) = true := by decide +kernel
theorem kL_202 : (List.range 25).all (fun k => chkL (k + 202)) = true := by decide +kernel
theorem kL_227 : (List.range 25).all (fun k => chkL (k + 227)) = true := by decide +kernel
theorem kL_252 : (List.range 25).all (fun k => chkL (k + 252)) = true := by decide +kernel
theorem kL_277 : (List.range 25).all (fun k => chkL (k + 277)) = true := by decide +kernel
theorem kL_302 : (List.range 25).all (fun k => chkL (k + 302)) = true := by decide +kernel
theorem kL_327 : (List.range 25).all (fun k => chkL (k + 327)) = true := by decide +kernel
theorem kL_352 : (List.range 25).all (fun k => chkL (k + 352)) = true := by decide +kernel
theorem kL_377 : (List.range 24).all (fun k => chkL (k + 377)) = true := by decide +kernel
theorem chunkL {n lo : Nat} (h : (List.range n).all (fun k => chkL (k + lo)) = true) (c : Nat) (h1 : lo ≤ c) (h2 : c < lo + n) : chkL c = true := by
  have := List.all_eq_true.mp h (c - lo) (List.mem_range.mpr (by omega))
  rwa [show c - lo + lo = c by omega] at this
theorem chkL_at (c : Nat) (h1 : 2 ≤ c) (h2 : c ≤ 400) : chkL c = true :=
  if h_2 : c < 27 then chunkL kL_2 c (by omega) (by omega) else
  if h_27 : c < 52 then chunkL kL_27 c (by omega) (by omega) else
  if h_52 : c < 77 then chunkL kL_52 c (by omega) (by omega) else
  if h_77 : c < 102 then chunkL kL_77 c (by omega) (by omega) else
  if h_102 : c < 127 then chunkL kL_102 c (by omega) (by omega) else
  if h_127 : c < 152 then chunkL kL_127 c (by omega) (by omega) else
  if h_152 : c < 177 then chunkL kL_152 c (by omega) (by omega) else
  if h_177 : c < 202 then chunkL kL_177 c (by omega) (by omega) else
  if h_202 : c < 227 then chunkL kL_202 c (by omega) (by omega) else
  if h_227 : c < 252 then chunkL kL_227 c (by omega) (by omega) else
  if h_252 : c < 277 then chunkL kL_252 c (by omega) (by omega) else
  if h_277 : c < 302 then chunkL kL_277 c (by omega) (by omega) else
  if h_302 : c < 327 then chunkL kL_302 c (by omega) (by omega) else
  if h_327 : c < 352 then chunkL kL_327 c (by omega) (by omega) else
  if h_352 : c < 377 then chunkL kL_352 c (by omega) (by omega) else
  chunkL kL_377 c (by omega) (by omega)
structure LamOk (c : Nat) : Prop where
  l1 : 1 ≤ lam c
  l400 : lam c ≤ 400
  all : ∀ u ∈ uns c, u ^ lam c % c = 1 % c
  gun : gen c ∈ uns c
  gord : IsOrd c (gen c) (lam c)
  le : lam c ≤ (uns c).length
  rts : (lam c = (uns c).length) ↔ hasRoots c = true
theorem lam_ok (c : Nat) (h1 : 2 ≤ c) (h2 : c ≤ 400) : LamOk c := by
  have h := chkL_at c h1 h2
  unfold chkL at h
  simp only [Bool.and_eq_true, decide_eq_true_eq, List.all_eq_true, List.mem_range, Bool.or_eq_true, Bool.not_eq_true', decide_eq_false_iff_not, beq_iff_eq] at h
  obtain ⟨a1, a2, a3, a4, a5, a6, a7, a8⟩ := h
  have all : ∀ u ∈ uns c, u ^ lam c % c = 1 % c := fun u hu => by
    obtain ⟨k1, k2⟩ := mem_uns.mp hu
    rcases a6 u k1 with k | k
    · exact absurd k2 k
    · exact k
  have gun := mem_uns.mpr ⟨a3, a4⟩
  exact ⟨a1, a2, all, gun, ⟨a1, all _ gun, fun j hj1 hj2 e => by
    rcases a5 j hj2 with k | k
    · omega
    · exact k e⟩, a7, by rw [← a8]; simp⟩
theorem ord_ok {c u : Nat} (h1 : 2 ≤ c) (h2 : c ≤ 400) (hu : u ∈ uns c) : IsOrd c u (ord c u) ∧ ord c u ≤ lam c :=
  let L := lam_ok c h1 h2
  ord_spec L.l1 L.l400 (L.all u hu)
theorem ord_dvd {c u : Nat} (h1 : 2 ≤ c) (h2 : c ≤ 400) (hu : u ∈ uns c) : ord c u ∣ lam c := (ord_ok h1 h2 hu).1.dvd ((lam_ok c h1 h2).all u hu)
theorem ord_gen {c : Nat} (h1 : 2 ≤ c) (h2 : c ≤ 400) : ord c (gen c) = lam c := (ord_ok h1 h2 (lam_ok c h1 h2).gun).1.uniq (lam_ok c h1 h2).gord
def ords (c : Nat) : List Nat := (uns c).map (ord c)
theorem lam_mem {c : Nat} (h1 : 2 ≤ c) (h2 : c ≤ 400) : lam c ∈ ords c := List.mem_map.mpr ⟨gen c, (lam_ok c h1 h2).gun, ord_gen h1 h2⟩
theorem fold_lcm_dvd (L : Nat) : ∀ (l : List Nat) (e : Nat), e ∣ L → (∀ x ∈ l, x ∣ L) → l.foldl Nat.lcm e ∣ L
  | [], e, he, _ => he
  | x :: l, e, he, h => fold_lcm_dvd L l _ (Nat.lcm_dvd he (h x List.mem_cons_self)) fun y hy => h y (List.mem_cons_of_mem _ hy)
theorem dvd_fold_lcm : ∀ (l : List Nat) (e : Nat), e ∣ l.foldl Nat.lcm e ∧ ∀ x ∈ l, x ∣ l.foldl Nat.lcm e
  | [], e => ⟨Nat.dvd_refl e, fun x h => by cases h⟩
  | x :: l, e => by
    obtain ⟨h1, h2⟩ := dvd_fold_lcm l (Nat.lcm e x)
    refine ⟨Nat.dvd_trans (Nat.dvd_lcm_left e x) h1, fun y hy => ?_⟩
    rcases List.mem_cons.mp hy with rfl | hy
    · exact Nat.dvd_trans (Nat.dvd_lcm_right e y) h1
    · exact h2 y hy
theorem fold_lam {c : Nat} (h1 : 2 ≤ c) (h2 : c ≤ 400) : (ords c).foldl Nat.lcm 1 = lam c := by
  refine Nat.dvd_antisymm (fold_lcm_dvd _ _ _ (Nat.one_dvd _) fun x hx => ?_) ((dvd_fold_lcm (ords c) 1).2 _ (lam_mem h1 h2))
  obtain ⟨u, hu, rfl⟩ := List.mem_map.mp hx
  exact ord_dvd h1 h2 hu
def firm (c : Nat) : List Nat := (uns c).filter fun u => decide (ord c u = (uns c).length)
theorem firm_roots {c : Nat} (h1 : 2 ≤ c) (h2 : c ≤ 400) : (!(firm c).isEmpty) = hasRoots c := by
  have L := lam_ok c h1 h2
  cases e : hasRoots c with
  | true =>
    have := L.rts.mpr e
    have hm : gen c ∈ firm c := List.mem_filter.mpr ⟨L.gun, by rw [decide_eq_true_eq, ord_gen h1 h2]; exact this⟩
    cases q : firm c with
    | nil => rw [q] at hm; cases hm
    | cons _ _ => rfl
  | false =>
    have hn : lam c ≠ (uns c).length := fun z => by rw [L.rts.mp z] at e; cases e
    have : firm c = [] := by
      unfold firm
      rw [List.filter_eq_nil_iff]
      intro u hu
      rw [decide_eq_true_eq]
      intro z
      have k1 := (ord_ok h1 h2 hu).2
      have k2 := L.le
      omega
    rw [this]; rfl
end PF

namespace PF
/-! ### two clocks without a common divisor -/
theorem len_le : ∀ (l m : List Nat) (f : Nat → Nat), l.Nodup → (∀ x ∈ l, f x ∈ m) → (∀ x ∈ l, ∀ y ∈ l, f x = f y → x = y) → l.length ≤ m.length
  | [], _, _, _, _, _ => Nat.zero_le _
  | x :: l, m, f, hn, hf, hi => by
    rw [List.nodup_cons] at hn
    have ih := len_le l (m.erase (f x)) f hn.2 (fun y hy => by
      have h1 := hf y (List.mem_cons_of_mem _ hy)
      have h2 : f y ≠ f x := fun e => hn.1 (by rw [← hi y (List.mem_cons_of_mem _ hy) x List.mem_cons_self e]; exact hy)
      exact (List.mem_erase_of_ne h2).mpr h1) fun y hy z hz => hi y (List.mem_cons_of_mem _ hy) z (List.mem_cons_of_mem _ hz)
    have h3 := List.length_erase_of_mem (hf x List.mem_cons_self)
    have h4 : 0 < m.length := List.length_pos_of_mem (hf x List.mem_cons_self)
    simp only [List.length_cons]
    omega
theorem mod_dvd {m x y : Nat} (hle : y ≤ x) : x % m = y % m ↔ m ∣ x - y := by
  constructor
  · intro h
    exact Nat.dvd_of_mod_eq_zero (Nat.sub_mod_eq_zero_of_mod_eq h)
  · rintro ⟨k, hk⟩
    have : x = y + m * k := by omega
    rw [this, Nat.add_mul_mod_self_left]
theorem crt_eq {a b x y : Nat} (hg : Nat.gcd a b = 1) : x % (a * b) = y % (a * b) ↔ x % a = y % a ∧ x % b = y % b := by
  have main : ∀ x y : Nat, y ≤ x → (x % (a * b) = y % (a * b) ↔ x % a = y % a ∧ x % b = y % b) := by
    intro x y hle
    rw [mod_dvd hle, mod_dvd hle, mod_dvd hle]
    constructor
    · intro h
      exact ⟨Nat.dvd_trans ⟨b, rfl⟩ h, Nat.dvd_trans ⟨a, by rw [Nat.mul_comm]⟩ h⟩
    · rintro ⟨h1, h2⟩
      exact Nat.Coprime.mul_dvd_of_dvd_of_dvd hg h1 h2
  rcases Nat.le_total y x with h | h
  · exact main x y h
  · have := main y x h
    constructor
    · intro e; have := this.mp e.symm; exact ⟨this.1.symm, this.2.symm⟩
    · rintro ⟨e1, e2⟩; exact (this.mpr ⟨e1.symm, e2.symm⟩).symm
theorem crt_ex {a b i j : Nat} (hg : Nat.gcd a b = 1) (hi : i < a) (hj : j < b) : ∃ x, x < a * b ∧ x % a = i ∧ x % b = j := by
  obtain ⟨s, hs⟩ := inv_of (r := b) (c := a) (by rw [Nat.gcd_comm]; exact hg) (by omega)
  obtain ⟨t, ht⟩ := inv_of (r := a) (c := b) hg (by omega)
  have hab : 0 < a * b := Nat.mul_pos (by omega) (by omega)
  refine ⟨(i * (b * s) + j * (a * t)) % (a * b), Nat.mod_lt _ hab, ?_, ?_⟩
  · rw [Nat.mod_mul_right_mod, show i * (b * s) + j * (a * t) = i * (b * s) + a * (j * t) by rw [Nat.mul_left_comm j a t], Nat.add_mul_mod_self_left, Nat.mul_mod, hs, ← Nat.mul_mod, Nat.mul_one, Nat.mod_eq_of_lt hi]
  · rw [Nat.mod_mul_left_mod, show i * (b * s) + j * (a * t) = j * (a * t) + b * (i * s) by rw [Nat.mul_left_comm i b s, Nat.add_comm], Nat.add_mul_mod_self_left, Nat.mul_mod, ht, ← Nat.mul_mod, Nat.mul_one, Nat.mod_eq_of_lt hj]
theorem grid_len (P Q : Nat → Bool) (b : Nat) (hb : 0 < b) : ∀ a, ((List.range (a * b)).filter fun m => P (m / b) && Q (m % b)).length = ((List.range a).filter P).length * ((List.range b).filter Q).length
  | 0 => by simp
  | a + 1 => by
    have ih := grid_len P Q b hb a
    rw [Nat.succ_mul, List.range_add, List.filter_append, List.length_append, ih, List.range_succ, List.filter_append, List.length_append, Nat.add_mul]
    congr 1
    rw [List.filter_map, List.length_map]
    have e : ((List.range b).filter ((fun m => P (m / b) && Q (m % b)) ∘ fun x => a * b + x)) = (List.range b).filter fun j => P a && Q j := by
      refine List.filter_congr fun j hj => ?_
      have hj' := List.mem_range.mp hj
      simp only [Function.comp]
      rw [show a * b + j = j + b * a by rw [Nat.mul_comm, Nat.add_comm], Nat.add_mul_div_left _ _ hb, Nat.add_mul_mod_self_left, Nat.div_eq_of_lt hj', Nat.mod_eq_of_lt hj', Nat.zero_add]
    rw [e]
    cases hp : P a with
    | true => simp [hp]
    | false => simp [hp]
theorem crt_len {a b : Nat} (hg : Nat.gcd a b = 1) (ha : 0 < a) (hb : 0 < b) (P Q : Nat → Bool) : ((List.range (a * b)).filter fun x => P (x % a) && Q (x % b)).length = ((List.range a).filter P).length * ((List.range b).filter Q).length := by
  rw [← grid_len P Q b hb a]
  have nd : ∀ p : Nat → Bool, ((List.range (a * b)).filter p).Nodup := fun p => List.Nodup.sublist List.filter_sublist List.nodup_range
  have decode : ∀ i j, j < b → (i * b + j) / b = i ∧ (i * b + j) % b = j := fun i j hj => by
    rw [show i * b + j = j + b * i by rw [Nat.mul_comm, Nat.add_comm], Nat.add_mul_div_left _ _ hb, Nat.add_mul_mod_self_left, Nat.div_eq_of_lt hj, Nat.mod_eq_of_lt hj, Nat.zero_add]
    exact ⟨rfl, rfl⟩
  have ex : ∀ m, ∃ x, m < a * b → x < a * b ∧ x % a = m / b ∧ x % b = m % b := fun m => by
    by_cases hm : m < a * b
    · obtain ⟨x, h⟩ := crt_ex (i := m / b) (j := m % b) hg (Nat.div_lt_of_lt_mul (by rw [Nat.mul_comm]; exact hm)) (Nat.mod_lt _ hb)
      exact ⟨x, fun _ => h⟩
    · exact ⟨0, fun z => absurd z hm⟩
  refine Nat.le_antisymm ?_ ?_
  · refine len_le _ _ (fun x => (x % a) * b + x % b) (nd _) (fun x hx => ?_) fun x hx y hy e => ?_
    · obtain ⟨h1, h2⟩ := List.mem_filter.mp hx
      have hxa := Nat.mod_lt x ha
      have hxb := Nat.mod_lt x hb
      obtain ⟨d1, d2⟩ := decode (x % a) (x % b) hxb
      refine List.mem_filter.mpr ⟨List.mem_range.mpr ?_, by simp only [d1, d2]; exact h2⟩
      have : (x % a + 1) * b ≤ a * b := Nat.mul_le_mul_right b hxa
      rw [Nat.add_mul, Nat.one_mul] at this
      omega
    · obtain ⟨d1, d2⟩ := decode (x % a) (x % b) (Nat.mod_lt x hb)
      obtain ⟨d3, d4⟩ := decode (y % a) (y % b) (Nat.mod_lt y hb)
      have e : x % a * b + x % b = y % a * b + y % b := e
      have e1 : x % a = y % a := by rw [← d1, ← d3, e]
      have e2 : x % b = y % b := by rw [← d2, ← d4, e]
      have := (crt_eq hg).mpr ⟨e1, e2⟩
      have hx' := List.mem_range.mp (List.mem_filter.mp hx).1
      have hy' := List.mem_range.mp (List.mem_filter.mp hy).1
      rwa [Nat.mod_eq_of_lt hx', Nat.mod_eq_of_lt hy'] at this
  · refine len_le _ _ (fun m => Classical.choose (ex m)) (nd _) (fun m hm => ?_) fun m hm k hk e => ?_
    · obtain ⟨h1, h2⟩ := List.mem_filter.mp hm
      obtain ⟨c1, c2, c3⟩ := Classical.choose_spec (ex m) (List.mem_range.mp h1)
      exact List.mem_filter.mpr ⟨List.mem_range.mpr c1, by simp only [c2, c3]; exact h2⟩
    · obtain ⟨c1, c2, c3⟩ := Classical.choose_spec (ex m) (List.mem_range.mp (List.mem_filter.mp hm).1)
      obtain ⟨d1, d2, d3⟩ := Classical.choose_spec (ex k) (List.mem_range.mp (List.mem_filter.mp hk).1)
      have e : Classical.choose (ex m) = Classical.choose (ex k) := e
      have e1 : m / b = k / b := by rw [← c2, ← d2, e]
      have e2 : m % b = k % b := by rw [← c3, ← d3, e]
      have h1 := Nat.div_add_mod m b
      have h2 := Nat.div_add_mod k b
      rw [← h1, ← h2, e1, e2]
def rts (c n : Nat) : List Nat := (List.range c).filter fun x => decide (x * x % c = n)
theorem rts_crt {a b n : Nat} (hg : Nat.gcd a b = 1) (ha : 0 < a) (hb : 0 < b) (hn : n < a * b) : (rts (a * b) n).length = (rts a (n % a)).length * (rts b (n % b)).length := by
  unfold rts
  rw [← crt_len hg ha hb]
  congr 1
  refine List.filter_congr fun x _ => ?_
  rw [← Bool.decide_and]
  refine decide_eq_decide.mpr ?_
  have := crt_eq (x := x * x) (y := n) hg
  rw [Nat.mod_eq_of_lt hn] at this
  rw [this, Nat.mul_mod x x a, Nat.mul_mod x x b]
theorem unit_crt {a b x : Nat} : Nat.gcd x (a * b) = 1 ↔ Nat.gcd (x % a) a = 1 ∧ Nat.gcd (x % b) b = 1 := by
  have h : Nat.gcd x (a * b) = 1 ↔ Nat.gcd x a = 1 ∧ Nat.gcd x b = 1 := Nat.coprime_mul_iff_right
  rw [h]
  have e : ∀ m, Nat.gcd (x % m) m = Nat.gcd x m := fun m => (Nat.gcd_rec m x).symm.trans (Nat.gcd_comm m x)
  rw [e, e]
theorem uns_crt {a b : Nat} (hg : Nat.gcd a b = 1) (ha : 0 < a) (hb : 0 < b) : (uns (a * b)).length = (uns a).length * (uns b).length := by
  unfold uns
  rw [← crt_len hg ha hb]
  congr 1
  refine List.filter_congr fun x _ => ?_
  rw [← Bool.decide_and]
  exact decide_eq_decide.mpr unit_crt
theorem mem_crt {a b n : Nat} (ha : 0 < a) (hb : 0 < b) (hn : n < a * b) : decide (n ∈ uns (a * b)) = (decide (n % a ∈ uns a) && decide (n % b ∈ uns b)) := by
  rw [← Bool.decide_and]
  refine decide_eq_decide.mpr ?_
  rw [mem_uns, mem_uns, mem_uns, unit_crt]
  exact ⟨fun h => ⟨⟨Nat.mod_lt _ ha, h.2.1⟩, Nat.mod_lt _ hb, h.2.2⟩, fun h => ⟨hn, h.1.2, h.2.2⟩⟩
theorem ord_crt {a b n : Nat} (hg : Nat.gcd a b = 1) (ha : 2 ≤ a) (hb : 2 ≤ b) (hab : a * b ≤ 400) (hn : n ∈ uns (a * b)) : ord (a * b) n = Nat.lcm (ord a (n % a)) (ord b (n % b)) := by
  have hlt := (mem_uns.mp hn).1
  have h4 : 4 ≤ a * b := by have := Nat.mul_le_mul ha hb; omega
  have la : a ≤ 400 := by have := Nat.le_mul_of_pos_right a (show 0 < b by omega); omega
  have lb : b ≤ 400 := by have := Nat.le_mul_of_pos_left b (show 0 < a by omega); omega
  obtain ⟨g1, g2⟩ := unit_crt.mp (mem_uns.mp hn).2
  have na : n % a ∈ uns a := mem_uns.mpr ⟨Nat.mod_lt _ (by omega), g1⟩
  have nb : n % b ∈ uns b := mem_uns.mpr ⟨Nat.mod_lt _ (by omega), g2⟩
  have io := (ord_ok (by omega) hab hn).1
  have ia := (ord_ok ha la na).1
  have ib := (ord_ok hb lb nb).1
  have key : ∀ k, n ^ k % (a * b) = 1 % (a * b) ↔ (n % a) ^ k % a = 1 % a ∧ (n % b) ^ k % b = 1 % b := fun k => by
    rw [crt_eq hg, ← Nat.pow_mod, ← Nat.pow_mod]
  refine Nat.dvd_antisymm (io.dvd ((key _).mpr ⟨pow_dvd ia.one (Nat.dvd_lcm_left _ _), pow_dvd ib.one (Nat.dvd_lcm_right _ _)⟩)) ?_
  obtain ⟨k1, k2⟩ := (key _).mp io.one
  exact Nat.lcm_dvd (ia.dvd k1) (ib.dvd k2)
/-! ### powers -/
def pows (c b : Nat) : List Nat := (List.range (ord c b)).map fun k => b ^ k % c
theorem cancel {r s c x y : Nat} (hs : r * s % c = 1 % c) (e : r * x % c = r * y % c) : x % c = y % c := by
  have h : ∀ z, s * (r * z % c) % c = z % c := fun z => by
    rw [Nat.mul_mod_mod, ← Nat.mul_assoc, Nat.mul_comm s r, Nat.mul_mod, hs, ← Nat.mul_mod, Nat.one_mul]
  rw [← h x, ← h y, e]
theorem pow_ne {c b k j : Nat} (h1 : 2 ≤ c) (h2 : c ≤ 400) (hb : b ∈ uns c) (hj : j < k) (hk : k < ord c b) : b ^ k % c ≠ b ^ j % c := by
  intro e
  have io := (ord_ok h1 h2 hb).1
  have hinv : b ^ j * b ^ (ord c b - j) % c = 1 % c := by rw [← Nat.pow_add, show j + (ord c b - j) = ord c b by omega]; exact io.one
  have e2 : b ^ j * b ^ (k - j) % c = b ^ j * 1 % c := by rw [← Nat.pow_add, show j + (k - j) = k by omega, Nat.mul_one]; exact e
  exact io.min (k - j) (by omega) (by omega) (cancel hinv e2)
/-- a set with 1 that a base leads into itself holds all powers -/
theorem closed_pows {c b : Nat} {ns : List Nat} (hone : 1 % c ∈ ns) (hcl : ∀ n ∈ ns, n * b % c ∈ ns) : ∀ k, b ^ k % c ∈ ns
  | 0 => by rw [Nat.pow_zero]; exact hone
  | k + 1 => by
    have := hcl _ (closed_pows hone hcl k)
    rwa [Nat.mod_mul_mod, ← Nat.pow_succ] at this
end PF

namespace PF
open PySem PySem.Spec PyProof.Rows L2
theorem cfor_st {α β : Type} {i : Nat} {body : C} {p : Pst} (st : Option W → α → Sl) (it : β → D) (hs : ∀ w a d, (st w a).set i (some (.val d)) = st (some (.val d)) a) (Inv : α → Prop) (f : α → β → α) : ∀ (l : List β) (w : Option W) (a : α), Inv a →
    (∀ a b, b ∈ l → Inv a → body (st (some (.val (it b))) a) p = .nx (st (some (.val (it b))) (f a b)) p ∧ Inv (f a b)) → ∃ w', cforGo (tgName i) body (l.map it) (st w a) p = .nx (st w' (l.foldl f a)) p ∧ Inv (l.foldl f a)
  | [], w, a, hI, _ => ⟨w, rfl, hI⟩
  | b :: l, w, a, hI, h => by
    obtain ⟨h1, h2⟩ := h a b List.mem_cons_self hI
    obtain ⟨w', h3, h4⟩ := cfor_st st it hs Inv f l (some (.val (it b))) (f a b) h2 fun a b hb => h a b (List.mem_cons_of_mem _ hb)
    refine ⟨w', ?_, h4⟩
    rw [List.map_cons]
    simp only [cforGo, tgName, hs, h1]
    exact h3
theorem mLc_lstY {i : Nat} {mi : M (List D)} {el : M D} {ρ : Sl} {p p1 : Pst} {items : List D} (hi : mi ρ p = .ok items p1) (g : D → D)
    (h : ∀ d ∈ items, el ((wipeS ρ [i]).set i (some (.val d))) p1 = .ok (g d) p1) : mLc [i] mi (fName i) mYes el ρ p = .ok (items.map g) p1 := by
  have := mLc_lst (i := i) (tt := mYes) hi (fun _ => true) g fun d hd => ⟨rfl, fun _ => h d hd⟩
  rwa [filter_yes] at this
theorem e_is_integer (d : D) (h : noPot d = true) (p : Pst) : F_is_integer [d] p = .ok (.bl (isTy .int d && !isTy .bool d)) false p := by
  rw [en_is_integer, c_is_integer]
  simp [h]
  cases isTy .int d <;> simp [h]
theorem e_is_within (v l m : Nat) (p : Pst) : F_is_within [dI v, dI l, dI m] p = .ok (.bl (decide (l ≤ v) && decide (v ≤ m))) false p := by
  rw [en_is_within, c_is_within]
  simp [e_is_integer]
  by_cases h : l ≤ v <;> simp [h]
theorem e_check_multiplier (v : Nat) (h1 : 2 ≤ v) (h2 : v ≤ 400) (p : Pst) : F_check_multiplier [dI v] p = .ok .non false p := by
  rw [en_check_multiplier, c_check_multiplier]
  simp [e_is_within, h1, h2]
theorem e_check_remainder (c v : Nat) (h1 : 2 ≤ c) (h2 : c ≤ 400) (h4 : v < c) (p : Pst) : F_check_remainder [dI c, dI v] p = .ok .non false p := by
  rw [en_check_remainder, c_check_remainder]
  have h5 : v ≤ c - 1 := by omega
  have s := nSub (a := c) (b := 1) (by omega)
  simp [e_is_within, e_check_multiplier, h1, h2, h5, s]
theorem e_divisor (a b : Nat) (hb : b < 2 ^ 80) (p : Pst) : F_divisor [dI a, dI b] p = .ok (dI (Nat.gcd a b)) false p := by
  rw [en_divisor, c_divisor]
  obtain ⟨⟨x, y⟩, e, he, hl⟩ := cwhile_st (mt := t_divisor_2) (body := b_divisor_1)
    (p := p) (fun (x : Nat × Nat) => [some (.val (dI x.1)), some (.val (dI x.2))]) (fun x => x.2) (fun x => Nat.gcd x.1 x.2 = Nat.gcd a b) (fun x => decide (0 < x.2)) (by
      rintro ⟨x, y⟩ _; simp [t_divisor_2]) (by
      rintro ⟨x, y⟩ he hl
      have y0 : 0 < y := by simpa using hl
      exact ⟨(y, x % y), by simp [b_divisor_1, nMod, y0], by rw [← he]; show Nat.gcd y (x % y) = Nat.gcd x y; rw [Nat.gcd_comm, ← Nat.gcd_rec, Nat.gcd_comm], Nat.mod_lt _ y0⟩) FUEL (a, b) rfl (by show b < FUEL; unfold FUEL; omega)
  have hy : y = 0 := by simpa using hl
  subst hy
  have he' : x = Nat.gcd a b := by simpa using he
  simp [e, he']
theorem e_is_unit_of (c v : Nat) (h1 : 2 ≤ c) (h2 : c ≤ 400) (h4 : v < c) (p : Pst) : F_is_unit_of [dI c, dI v] p = .ok (.bl (decide (Nat.gcd v c = 1))) false p := by
  rw [en_is_unit_of, c_is_unit_of]
  have h5 : v ≤ c - 1 := by omega
  have s := nSub (a := c) (b := 1) (by omega)
  simp [e_is_within, h5, s, e_divisor v c (by omega)]
theorem e_check_unit (c v : Nat) (h1 : 2 ≤ c) (h2 : c ≤ 400) (h4 : v ∈ uns c) (p : Pst) : F_check_unit [dI c, dI v] p = .ok .non false p := by
  rw [en_check_unit, c_check_unit]
  obtain ⟨k1, k2⟩ := mem_uns.mp h4
  simp [e_check_multiplier c h1 h2, e_is_unit_of c v h1 h2 k1, k2]
theorem e_units_of (c : Nat) (h1 : 2 ≤ c) (h2 : c ≤ 400) (p : Pst) : F_units_of [dI c] p = .ok (.lst ((uns c).map dI)) true p := by
  rw [en_units_of, c_units_of]
  have hi : mRange1 (mcons (rd 0) (mret [])) [some (.val (dI c)), none] p = .ok ((List.range c).map dI) p := by simp [nRange1 (show c ≤ 16000000 by omega), rgL_dI]
  have e2 : m_units_of_1 _ _ = _ := mLc_map (i := 1) (tt := mCmp dEq (mFn F_divisor 2 0 [0, 1] (mcons (rd 1) (mcons (rd 0) (mret []))) (mret [])) (mret (dI 1))) (el := rd 1) hi (fun u => decide (Nat.gcd u c = 1)) dI fun x hx => by
    exact ⟨by simp [wipeS, e_divisor x c (by omega)], fun _ => by simp [wipeS]⟩
  simp [e2, uns]
theorem e_units (c : Nat) (h1 : 2 ≤ c) (h2 : c ≤ 400) (p : Pst) : F_units [dI c] p = .ok (.lst ((uns c).map dI)) true p := by
  rw [en_units, c_units]
  simp [e_check_multiplier c h1 h2, e_units_of c h1 h2]
def firstD : List Nat → D
  | [] => .non
  | q :: _ => dI q
theorem first_ix {L : List Nat} (h : L ≠ []) : dIx (.lst (L.map dI)) (dI 0) = some (firstD L) := by
  cases L with
  | nil => exact absurd rfl h
  | cons q L => exact nIx_lst rfl
theorem pow_half (h k : Nat) (c : Nat) (hk : 0 < k) : h ^ k % c = ((h * h % c) ^ (k / 2) * (if k % 2 = 1 then h else 1)) % c := by
  have e : h ^ k = (h * h) ^ (k / 2) * (if k % 2 = 1 then h else 1) := by
    rw [← Nat.pow_two, ← Nat.pow_mul]
    split
    · rename_i q
      rw [← Nat.pow_succ]
      congr 1; omega
    · rename_i q
      rw [Nat.mul_one]
      congr 1; omega
  rw [e, Nat.mul_mod, Nat.pow_mod, ← Nat.mul_mod]
theorem pow_turn {f h l c r : Nat} (hl : 0 < l) (he : f * h ^ l % c = r) : (if l % 2 = 1 then f * h % c else f) * (h * h % c) ^ (l / 2) % c = r := by
  rw [← he]
  have ph := pow_half h l c hl
  split
  · rename_i e
    rw [if_pos e] at ph
    rw [Nat.mod_mul_mod, Nat.mul_assoc, Nat.mul_mod f, Nat.mul_comm h, ← ph, ← Nat.mul_mod]
  · rename_i e
    rw [if_neg e, Nat.mul_one] at ph
    rw [Nat.mul_mod f, ← ph, ← Nat.mul_mod]
theorem pow_start {c n k : Nat} : 1 % c * (n % c) ^ k % c = n ^ k % c := by rw [Nat.mod_mul_mod, Nat.one_mul, ← Nat.pow_mod]
theorem e_power_by (c n k : Nat) (h1 : 2 ≤ c) (h2 : c ≤ 400) (hk : k < 2 ^ 80) (p : Pst) : F_power_by [dI c, dI n, dI k] p = .ok (dI (n ^ k % c)) false p := by
  rw [en_power_by, c_power_by]
  have c0 : 0 < c := by omega
  obtain ⟨⟨f, h, l⟩, e, ⟨hf, hh, he⟩, hl⟩ := cwhile_st (mt := t_power_by_2) (body := b_power_by_1)
    (p := p) (fun (x : Nat × Nat × Nat) => [some (.val (dI c)), some (.val (dI n)), some (.val (dI k)), some (.val (dI x.1)), some (.val (dI x.2.1)), some (.val (dI x.2.2))]) (fun x => x.2.2)
    (fun x => x.1 < c ∧ x.2.1 < c ∧ x.1 * x.2.1 ^ x.2.2 % c = n ^ k % c) (fun x => decide (0 < x.2.2)) (by
      rintro ⟨f, h, l⟩ _; simp [t_power_by_2]) (by
      rintro ⟨f, h, l⟩ ⟨hf, hh, he⟩ hl
      simp only [decide_eq_true_eq] at hf hh he hl
      refine ⟨(if l % 2 = 1 then f * h % c else f, h * h % c, l / 2), ?_, ⟨?_, Nat.mod_lt _ c0, pow_turn hl he⟩, by show l / 2 < l; omega⟩
      · have m1 := nMul (a := f) (b := h) (.inl (by omega))
        have m2 := nMul (a := h) (b := h) (.inl (by omega))
        by_cases e : l % 2 = 1 <;> simp [b_power_by_1, nMod, e, m1, m2, c0, nDiv]
      · show (if l % 2 = 1 then f * h % c else f) < c
        split
        · exact Nat.mod_lt _ c0
        · exact hf) FUEL (1 % c, n % c, k) ⟨Nat.mod_lt _ c0, Nat.mod_lt _ c0, pow_start⟩ (by show k < FUEL; unfold FUEL; omega)
  simp only [decide_eq_false_iff_not] at hl hf he
  have hl0 : l = 0 := by omega
  subst hl0
  rw [Nat.pow_zero, Nat.mul_one, Nat.mod_eq_of_lt hf] at he
  simp [nMod, c0, e, he]
theorem e_order_by_steps (c u : Nat) (h1 : 2 ≤ c) (h2 : c ≤ 400) (hu : u ∈ uns c) (p : Pst) : F_order_by_steps [dI c, dI u] p = .ok (dI (ord c u)) false p := by
  rw [en_order_by_steps, c_order_by_steps]
  have c0 : 0 < c := by omega
  have uc := (mem_uns.mp hu).1
  obtain ⟨io, il⟩ := ord_ok h1 h2 hu
  have l4 := (lam_ok c h1 h2).l400
  generalize ord c u = o at *
  obtain ⟨⟨h, k⟩, e, ⟨he, hk1, hk2⟩, hl⟩ := cwhile_st (mt := t_order_by_steps_2) (body := b_order_by_steps_1)
    (p := p) (fun (x : Nat × Nat) => [some (.val (dI c)), some (.val (dI u)), some (.val (dI x.1)), some (.val (dI x.2))]) (fun x => o - x.2)
    (fun x => x.1 = u ^ x.2 % c ∧ 1 ≤ x.2 ∧ x.2 ≤ o) (fun x => !decide (x.1 = 1 % c)) (by
      rintro ⟨h, k⟩ _; simp [t_order_by_steps_2, nMod c0]) (by
      rintro ⟨h, k⟩ ⟨he, hk1, hk2⟩ hl
      simp only at he hk1 hk2
      have hne : h ≠ 1 % c := by simpa using hl
      have hlt : k < o := by
        rcases Nat.lt_or_eq_of_le hk2 with z | z
        · exact z
        · subst z; exact absurd (he.trans io.one) hne
      have hc : h < c := by rw [he]; exact Nat.mod_lt _ c0
      have m1 := nMul (a := h) (b := u) (.inl (by omega))
      refine ⟨(h * u % c, k + 1), by simp [b_order_by_steps_1, m1, nMod c0], ⟨?_, by show 1 ≤ k + 1; omega, by show k + 1 ≤ o; omega⟩, by show o - (k + 1) < o - k; omega⟩
      show h * u % c = u ^ (k + 1) % c
      rw [he, Nat.mod_mul_mod, Nat.pow_succ]) FUEL (u, 1) ⟨by show u = u ^ 1 % c; rw [Nat.pow_one, Nat.mod_eq_of_lt uc], Nat.le_refl 1, io.pos⟩ (by show o - 1 < FUEL; unfold FUEL; omega)
  simp only at he hk1 hk2
  have hh : h = 1 % c := by simpa using hl
  have hko : k = o := by
    rcases Nat.lt_or_eq_of_le hk2 with z | z
    · exact absurd (he.symm.trans hh) (io.min k hk1 z)
    · exact z
  subst hko
  simp [e]
theorem e_order_of_unit (c u : Nat) (h1 : 2 ≤ c) (h2 : c ≤ 400) (hu : u ∈ uns c) (p : Pst) : F_order_of_unit [dI c, dI u] p = .ok (dI (ord c u)) false p := by
  rw [en_order_of_unit, c_order_of_unit]
  simp [e_check_unit c u h1 h2 hu, e_order_by_steps c u h1 h2 hu]
theorem e__law_divisor (a b : Nat) (hb : b < 2 ^ 80) (p : Pst) : F__law_divisor [dI a, dI b] p = .ok (dI (Nat.gcd a b)) false p := by
  rw [en__law_divisor, c__law_divisor]
  obtain ⟨⟨x, y⟩, e, he, hl⟩ := cwhile_st (mt := t__law_divisor_2) (body := b__law_divisor_1)
    (p := p) (fun (x : Nat × Nat) => [some (.val (dI x.1)), some (.val (dI x.2))]) (fun x => x.2) (fun x => Nat.gcd x.1 x.2 = Nat.gcd a b) (fun x => !decide (x.2 = 0)) (by
      rintro ⟨x, y⟩ _; simp [t__law_divisor_2]) (by
      rintro ⟨x, y⟩ he hl
      have y0 : 0 < y := by simp at hl; omega
      exact ⟨(y, x % y), by simp [b__law_divisor_1, nMod, y0], by rw [← he]; show Nat.gcd y (x % y) = Nat.gcd x y; rw [Nat.gcd_comm, ← Nat.gcd_rec, Nat.gcd_comm], Nat.mod_lt _ y0⟩) FUEL (a, b) rfl (by show b < FUEL; unfold FUEL; omega)
  have hy : y = 0 := by simpa using hl
  subst hy
  have he' : x = Nat.gcd a b := by simpa using he
  simp [e, he']
theorem e__law_units (c : Nat) (h1 : 2 ≤ c) (h2 : c ≤ 400) (p : Pst) : F__law_units [dI c] p = .ok (.lst ((uns c).map dI)) true p := by
  rw [en__law_units, c__law_units]
  have hi : mRange1 (mcons (rd 0) (mret [])) [some (.val (dI c)), none] p = .ok ((List.range c).map dI) p := by simp [nRange1 (show c ≤ 16000000 by omega), rgL_dI]
  have e2 : m__law_units_1 _ _ = _ := mLc_map (i := 1) (tt := mCmp dEq (mFn F__law_divisor 2 0 [0, 1] (mcons (rd 0) (mcons (rd 1) (mret []))) (mret [])) (mret (dI 1))) (el := rd 1) hi (fun u => decide (Nat.gcd u c = 1)) dI fun x hx => by
    have := List.mem_range.mp hx
    exact ⟨by simp [wipeS, e__law_divisor c x (by omega), Nat.gcd_comm c x], fun _ => by simp [wipeS]⟩
  simp [e2, uns]
theorem e_square_roots (c n : Nat) (h1 : 2 ≤ c) (h2 : c ≤ 400) (h3 : n < c) (p : Pst) : F_square_roots [dI c, dI n] p = .ok (.lst ((rts c n).map dI)) true p := by
  rw [en_square_roots, c_square_roots]
  have c0 : 0 < c := by omega
  have e1 := e_check_remainder c n h1 h2 h3 p
  have hi : mRange1 (mcons (rd 0) (mret [])) [some (.val (dI c)), some (.val (dI n)), none] p = .ok ((List.range c).map dI) p := by simp [nRange1 (show c ≤ 16000000 by omega), rgL_dI]
  have e2 : m_square_roots_1 _ _ = _ := mLc_map (i := 2) (tt := mCmp dEq (mOp dMod (mOp dMul (rd 2) (rd 2)) (rd 0)) (rd 1)) (el := rd 2) hi (fun x => decide (x * x % c = n)) dI fun x hx => by
    have hx' := List.mem_range.mp hx
    have m1 := nMul (a := x) (b := x) (.inl (by omega))
    exact ⟨by simp [wipeS, m1, nMod c0], fun _ => by simp [wipeS]⟩
  simp [e1, e2, rts]
theorem e_power_of (c n k : Nat) (h1 : 2 ≤ c) (h2 : c ≤ 400) (h3 : n < c) (hk : k ≤ 1000000000000) (p : Pst) : F_power_of [dI c, dI n, dI k] p = .ok (dI (n ^ k % c)) false p := by
  rw [en_power_of, c_power_of]
  simp [e_check_remainder c n h1 h2 h3, e_is_within, hk, e_power_by c n k h1 h2 (by omega)]
theorem step {a b : C} {ρ ρ1 : Sl} {p p1 : Pst} {Q : SRes → Prop} (h : a ρ p = .nx ρ1 p1) (k : Q (b ρ1 p1)) : Q (cseq a b ρ p) := by
  rw [ev_cseq, h]; exact k
theorem step_if {t : M Bool} {a b : C} {ρ : Sl} {p p1 : Pst} {Q : SRes → Prop} (h : t ρ p = .ok false p1) (k : Q (b ρ p1)) : Q (cseq (cif t a cskip) b ρ p) := by
  rw [ev_cseq, ev_cif, ev_eout, h]; exact k
theorem last_if {t : M Bool} {a : C} {ρ : Sl} {p p1 : Pst} {Q : SRes → Prop} (h : t ρ p = .ok false p1) (k : Q (.nx ρ p1)) : Q (cif t a cskip ρ p) := by
  rw [ev_cif, ev_eout, h]; exact k
theorem repE {d : D} (h : okX d = true) : dReprE [d] = some (.str (rtext d)) := dReprE_ok h
theorem ok_bl2 (b : Bool) : okX (.lst [.bl b, .bl b]) = true := okX_of ((rl_lst (n := 5) (k := 0) (xs := [.bl b, .bl b]) (by intro x hx; simp at hx; subst hx; exact rl_bl b)).ok (by simp) (by simp))
theorem ok_dI2 (k : Nat) (h : k < 10 ^ 12) : okX (.lst [dI k, dI k]) = true := okX_of ((rl_lst (n := 13) (k := 0) (xs := [dI k, dI k]) (by intro x hx; simp at hx; subst hx; exact rl_dI h)).ok (by simp) (by simp))
theorem rl_nats (l : List Nat) (hl : l.length ≤ 400) (h : ∀ k ∈ l, k < 10 ^ 12) : RL (400 * 15 + 3) 1 (.lst (l.map dI)) := (rl_lst (n := 13) (k := 0) (xs := l.map dI) (by
    intro x hx
    obtain ⟨k, hk, rfl⟩ := List.mem_map.mp hx
    exact rl_dI (h k hk))).mono (by rw [List.length_map]; omega) (by omega)
theorem ok_lst1 (l : List Nat) (hl : l.length ≤ 400) (h : ∀ k ∈ l, k < 10 ^ 12) : okX (.lst (l.map dI)) = true := okX_of ((rl_nats l hl h).ok (by omega) (by omega))
theorem ok_lst2 (l : List Nat) (hl : l.length ≤ 400) (h : ∀ k ∈ l, k < 10 ^ 12) : okX (.lst [.lst (l.map dI), .lst (l.map dI)]) = true :=
  okX_of ((rl_lst (n := 400 * 15 + 3) (k := 1) (xs := [.lst (l.map dI), .lst (l.map dI)]) (by intro x hx; simp at hx; subst hx; exact rl_nats l hl h)).ok (by simp) (by simp))
theorem ok_first (L : List Nat) (h : ∀ k ∈ L, k < 10 ^ 12) : okX (.lst [firstD L, firstD L]) = true := by
  cases L with
  | nil => exact okX_of ((rl_lst (n := 4) (k := 0) (xs := [.non, .non]) (by intro x hx; simp at hx; subst hx; exact rl_non)).ok (by simp) (by simp))
  | cons k L => exact ok_dI2 k (h k List.mem_cons_self)
theorem uns_len (c : Nat) : (uns c).length ≤ c := by
  have := List.length_filter_le (fun u => decide (Nat.gcd u c = 1)) (List.range c)
  rw [List.length_range] at this
  exact this
theorem uns_lt {c u : Nat} (h : u ∈ uns c) : u < c := (mem_uns.mp h).1
def idx (u : Nat) : List Nat → Nat
  | [] => 0
  | x :: l => if x = u then 0 else idx u l + 1
theorem firstAt_idx {u : Nat} : ∀ {l : List Nat}, u ∈ l → firstAt (dI u) (l.map dI) = some (idx u l)
  | [], h => by cases h
  | x :: l, h => by
    rw [List.map_cons]
    unfold firstAt idx
    have e : PyData.eqv (toPy (dI x)) (toPy (dI u)) = decide (x = u) := by
      show decide ((x : Int) = (u : Int)) = _
      exact decide_eq_decide.mpr (by omega)
    rw [e]
    by_cases z : x = u
    · simp [z]
    · have : u ∈ l := by
        rcases List.mem_cons.mp h with q | q
        · exact absurd q.symm z
        · exact q
      simp [z, firstAt_idx this]
theorem idx_get {u : Nat} {f : Nat → Nat} : ∀ {l : List Nat}, u ∈ l → (l.map f)[idx u l]? = some (f u)
  | [], h => by cases h
  | x :: l, h => by
    unfold idx
    by_cases z : x = u
    · simp [z]
    · have : u ∈ l := by
        rcases List.mem_cons.mp h with q | q
        · exact absurd q.symm z
        · exact q
      simp [z]
      have := idx_get (f := f) this
      simpa using this
theorem dIndex_nat {u : Nat} {l : List Nat} (h : u ∈ l) : dIndex (.lst (l.map dI)) (dI u) = some (dI (idx u l)) := by
  have h1 : okEq (dI u) = true := okEq_int _
  have h2 : okEq (.lst (l.map dI)) = true := by rw [dI_map]; exact okEq_ints _
  simp only [dIndex, h1, h2, Bool.and_self, if_true, firstAt_idx h, Option.map_some]
  rfl
theorem e_mZip {ms : M (List D)} {ρ : Sl} {p p1 : Pst} {xs ys : List D} (h : ms ρ p = .ok [.lst xs, .lst ys] p1) : mZip ms ρ p = .ok (zipL xs ys) p1 := by
  unfold mZip
  rw [ev_mbind, h, andThen_ok, kM_ap]
  simp
theorem drw {g m : Nat} {p : Pst} (hm : 0 < m) (hm2 : m < 1073741824) (hp : Good g p) : ∃ d p', F__law_draw [.pot g, dI m] p = .ok (dI d) false p' ∧ d < m ∧ Good g p' := by
  obtain ⟨d, p', e, h1, h2, h3⟩ := draw_ok (A := 44351) (B := 1255) (M1 := 2147483629) (M2 := 2147483587) (S := 13) (by decide) (by decide) (by decide) (by decide) (by decide) (g := g) (m := m) (p := p) (by omega) (by omega) hp
  refine ⟨d.toNat, p', ?_, by omega, h3⟩
  rw [← dI_toNat h1]
  exact e
theorem pck {g : Nat} {p : Pst} {xs : List D} (h0 : xs ≠ []) (hl : xs.length < 1073741824) (hp : Good g p) : ∃ d p', F__law_pick [.pot g, .lst xs] p = .ok d false p' ∧ d ∈ xs ∧ Good g p' :=
  pick_ok (dr := F__law_draw) (fun {g m p} h1 h2 h3 => draw_ok (A := 44351) (B := 1255) (M1 := 2147483629) (M2 := 2147483587) (S := 13) (by decide) (by decide) (by decide) (by decide) (by decide) h1 h2 h3) h0 hl hp
theorem e__law_clock {g m : Nat} {p : Pst} (hm : 15 ≤ m) (hm2 : m ≤ 400) (hp : Good g p) : ∃ c p', F__law_clock [.pot g, dI m] p = .ok (dI c) false p' ∧ 2 ≤ c ∧ c ≤ 400 ∧ Good g p' := by
  rw [en__law_clock, c__law_clock]
  obtain ⟨d, p1, e1, h1, g1⟩ := pck (xs := [dI 14, dI 60, dI (m - 1)]) (by simp) (by simp) hp
  obtain ⟨k, rfl, hk, hk2⟩ : ∃ k, d = dI k ∧ 0 < k ∧ k ≤ 399 := by
    simp only [List.mem_cons, List.not_mem_nil, or_false] at h1
    rcases h1 with rfl | rfl | rfl
    · exact ⟨14, rfl, by omega, by omega⟩
    · exact ⟨60, rfl, by omega, by omega⟩
    · exact ⟨m - 1, rfl, by omega, by omega⟩
  obtain ⟨d2, p2, e2, h2, g2⟩ := drw hk (by omega) g1
  refine ⟨2 + d2, p2, ?_, by omega, by omega, g2⟩
  simp [nSub (show 1 ≤ m by omega), e1, e2]
theorem inK_dI {α : Type} (k : Nat) (f : Int → M α) : inK (dI k) f = f (k : Int) := by simp [dI]
theorem e_revo {me : M D} {ρ : Sl} {p p1 : Pst} {xs : List D} (h : me ρ p = .ok (.lst xs) p1) : mRevo me ρ p = .ok xs.reverse p1 := by
  unfold mRevo
  rw [ev_mbind, h, andThen_ok, kM_ap]
  simp
theorem cutA_mem {α : Type} {xs : List α} {lo hi : Option Int} {x : α} (h : x ∈ cutA xs lo hi) : x ∈ xs := by
  unfold cutA at h
  exact List.mem_of_mem_drop (List.mem_of_mem_take h)
theorem cat_ok {xs ys : List D} (h : xs.length + ys.length ≤ 16000000) : dAdd (.lst xs) (.lst ys) = some (.lst (xs ++ ys)) := by
  show dCatL (.lst xs) (.lst ys) = _
  simp only [dCatL]
  rw [if_pos (by rw [sizeLine_eq]; omega)]
def isI : D → Bool
  | .int _ => true
  | _ => false
theorem isI_ty (d : D) : (isTy .int d && !isTy .bool d) = isI d := by cases d <;> rfl
theorem ints_of {zs : List D} (h : zs.all isI = true) : ∃ l : List Int, zs = l.map .int := by
  induction zs with
  | nil => exact ⟨[], rfl⟩
  | cons z zs ih =>
    simp only [List.all_cons, Bool.and_eq_true] at h
    obtain ⟨l, rfl⟩ := ih h.2
    cases z <;> first | (simp [isI] at h; done) | exact ⟨_ :: l, rfl⟩
theorem map_int_inj {a b : List Int} (h : a.map D.int = b.map D.int) : a = b := by
  induction a generalizing b with
  | nil => cases b with
    | nil => rfl
    | cons _ _ => cases h
  | cons x a ih => cases b with
    | nil => cases h
    | cons y b =>
      simp only [List.map_cons, List.cons.injEq, D.int.injEq] at h
      rw [h.1, ih h.2]
theorem okEq_of {d : D} (h : okRepr d = true) : okEq d = true := by
  obtain ⟨h1, _, _, h4⟩ := okRepr_iff.mp h
  unfold okEq
  simp [h1]; omega
def rowsOf : D → Option (List D)
  | .lst ys => some ys
  | .tup ys => some ys
  | _ => none
theorem e_is_list (d : D) (h : noPot d = true) (p : Pst) : F_is_list [d] p = .ok (.bl (isTys [.list, .tuple] d)) false p := by
  rw [en_is_list, c_is_list]
  simp [h]
end PF

namespace PF
open PySem PySem.Spec PyProof.Rows L2
/-! ### powers, one behind another -/
def pw (c b k : Nat) : List Nat := (List.range k).map fun j => b ^ j % c
theorem pw_succ (c b k : Nat) : pw c b (k + 1) = pw c b k ++ [b ^ k % c] := by unfold pw; rw [List.range_succ, List.map_append]; rfl
theorem pw_len (c b k : Nat) : (pw c b k).length = k := by simp [pw]
theorem pw_at (c b : Nat) {j k : Nat} (h : j < k) : (pw c b k)[j]? = some (b ^ j % c) := by simp [pw, h]
theorem ix_last {xs : List D} {k : Nat} {d : D} (hl : xs.length = k + 1) (h : xs[k]? = some d) : atI xs (-1) = some d := by
  have e1 : ((-1 : Int) + (xs.length : Int)) = (k : Int) := by omega
  simp only [atI, ixN]
  rw [if_neg (by omega), if_pos (by omega), e1]
  simpa using h
theorem ixo_neg (s0 s1 : Option W) (xs : List D) (p : Pst) : mIxO 2 (mUn dNeg (mret (dI 1))) [s0, s1, some (.own xs)] p = mopt (atI xs (-1)) [s0, s1, some (.own xs)] p := rfl
theorem ixo_fst (s0 s1 : Option W) (xs : List D) (p : Pst) : mIxO 2 (mret (dI 0)) [s0, s1, some (.own xs)] p = mopt (atI xs 0) [s0, s1, some (.own xs)] p := rfl
theorem e_powers_of (c b : Nat) (h1 : 2 ≤ c) (h2 : c ≤ 400) (hb : b ∈ uns c) (p : Pst) : F_powers_of [dI c, dI b] p = .ok (.lst ((pows c b).map dI)) true p := by
  rw [en_powers_of, c_powers_of]
  have c0 : 0 < c := by omega
  have bc := (mem_uns.mp hb).1
  obtain ⟨io, il⟩ := ord_ok h1 h2 hb
  have l4 := (lam_ok c h1 h2).l400
  have ng : dNeg (dI 1) = some (.int (-1)) := rfl
  have lst : ∀ k, 1 ≤ k → atI ((pw c b k).map dI) (-1) = some (dI (b ^ (k - 1) % c)) := fun k hk => ix_last (k := k - 1) (by rw [List.length_map, pw_len]; omega) (by rw [List.getElem?_map, pw_at c b (show k - 1 < k by omega)]; rfl)
  have fst : ∀ k, 1 ≤ k → atI ((pw c b k).map dI) 0 = some (dI (1 % c)) := fun k hk => by
    have hx : ((pw c b k).map dI)[0]? = some (dI (1 % c)) := by rw [List.getElem?_map, pw_at c b (show 0 < k by omega), Nat.pow_zero]; rfl
    exact nIx_lst hx
  have nxt : ∀ k, 1 ≤ k → b ^ (k - 1) % c * b % c = b ^ k % c := fun k hk => by rw [Nat.mod_mul_mod, ← Nat.pow_succ, Nat.succ_eq_add_one, show k - 1 + 1 = k by omega]
  have mm : ∀ k, dMul (dI (b ^ (k - 1) % c)) (dI b) = some (dI (b ^ (k - 1) % c * b)) := fun k => nMul (.inr (by omega))
  obtain ⟨k, e, ⟨hk1, hk2⟩, hl⟩ := cwhile_st (mt := t_powers_of_2) (body := b_powers_of_1)
    (p := p) (fun (k : Nat) => [some (.val (dI c)), some (.val (dI b)), some (.own ((pw c b k).map dI))]) (fun k => ord c b - k)
    (fun k => 1 ≤ k ∧ k ≤ ord c b) (fun k => !decide (b ^ k % c = 1 % c)) (by
      rintro k ⟨hk1, hk2⟩; simp [t_powers_of_2, ixo_neg, ixo_fst, lst k hk1, fst k hk1, mm, nMod c0, nxt k hk1]) (by
      rintro k ⟨hk1, hk2⟩ hl
      have hne : b ^ k % c ≠ 1 % c := by simpa using hl
      have hlt : k < ord c b := by
        rcases Nat.lt_or_eq_of_le hk2 with z | z
        · exact z
        · subst z; exact absurd io.one hne
      have hlen : (pw c b k).length < 16000000 := by rw [pw_len]; omega
      refine ⟨k + 1, ?_, ⟨by omega, by omega⟩, by show ord c b - (k + 1) < ord c b - k; omega⟩
      rw [pw_succ]
      simp [b_powers_of_1, capp, ixo_neg, lst k hk1, mm, nMod c0, nxt k hk1, hlen]) FUEL 1 ⟨Nat.le_refl 1, io.pos⟩ (by show ord c b - 1 < FUEL; unfold FUEL; omega)
  have hone : b ^ k % c = 1 % c := by simpa using hl
  have hk : k = ord c b := by
    rcases Nat.lt_or_eq_of_le hk2 with z | z
    · exact absurd hone (io.min k hk1 z)
    · exact z
  subst hk
  have e1 : pw c b 1 = [1 % c] := by simp [pw]
  rw [e1] at e
  have e2 : pw c b (ord c b) = pows c b := rfl
  simp only [e2, List.map_cons, List.map_nil] at e
  simp [nMod c0, e, cretown]
theorem e__law_all_powers (c b : Nat) (h1 : 2 ≤ c) (h2 : c ≤ 400) (hb : b ∈ uns c) (p : Pst) : F__law_all_powers [dI c, dI b] p = .ok (.lst ((pows c b).map dI)) false p := by
  rw [en__law_all_powers, c__law_all_powers]
  have c0 : 0 < c := by omega
  have bc := (mem_uns.mp hb).1
  obtain ⟨io, il⟩ := ord_ok h1 h2 hb
  have l4 := (lam_ok c h1 h2).l400
  have inn : ∀ k, 1 ≤ k → k ≤ ord c b → (b ^ k % c ∈ pw c b k ↔ k = ord c b) := fun k hk1 hk2 => by
    constructor
    · intro h
      obtain ⟨j, hj, e⟩ := List.mem_map.mp h
      have hj' := List.mem_range.mp hj
      rcases Nat.lt_or_eq_of_le hk2 with z | z
      · exact absurd e.symm (pow_ne h1 h2 hb hj' z)
      · exact z
    · intro h
      subst h
      exact List.mem_map.mpr ⟨0, List.mem_range.mpr (by omega), by rw [Nat.pow_zero]; exact io.one.symm⟩
  obtain ⟨k, e, ⟨hk1, hk2⟩, hl⟩ := cwhile_st (mt := t__law_all_powers_2) (body := b__law_all_powers_1)
    (p := p) (fun (k : Nat) => [some (.val (dI c)), some (.val (dI b)), some (.val (.lst ((pw c b k).map dI))), some (.val (dI (b ^ k % c)))]) (fun k => ord c b - k)
    (fun k => 1 ≤ k ∧ k ≤ ord c b) (fun k => !decide (b ^ k % c ∈ pw c b k)) (by
      rintro k ⟨hk1, hk2⟩; simp [t__law_all_powers_2, nNotIn]) (by
      rintro k ⟨hk1, hk2⟩ hl
      have hnin : ¬ b ^ k % c ∈ pw c b k := by simpa using hl
      have hlt : k < ord c b := by
        rcases Nat.lt_or_eq_of_le hk2 with z | z
        · exact z
        · exact absurd ((inn k hk1 hk2).mpr z) hnin
      have m1 := nMul (a := b ^ k % c) (b := b) (.inr (by omega))
      have nx : b ^ k % c * b % c = b ^ (k + 1) % c := by rw [Nat.mod_mul_mod, ← Nat.pow_succ]
      have ca := cat_ok (xs := (pw c b k).map dI) (ys := [dI (b ^ k % c)]) (by rw [List.length_map, pw_len]; simp; omega)
      refine ⟨k + 1, ?_, ⟨by omega, by omega⟩, by show ord c b - (k + 1) < ord c b - k; omega⟩
      rw [pw_succ]
      simp [b__law_all_powers_1, m1, nMod c0, nx, ca]) FUEL 1 ⟨Nat.le_refl 1, io.pos⟩ (by show ord c b - 1 < FUEL; unfold FUEL; omega)
  have hin : b ^ k % c ∈ pw c b k := by simpa using hl
  have hk : k = ord c b := (inn k hk1 hk2).mp hin
  subst hk
  have e1 : pw c b 1 = [1 % c] := by simp [pw]
  have e0 : b ^ 1 % c = b := by rw [Nat.pow_one, Nat.mod_eq_of_lt bc]
  simp only [e1, e0] at e
  have e2 : pw c b (ord c b) = pows c b := rfl
  simp only [e2, List.map_cons, List.map_nil] at e
  simp [nMod c0, e]
theorem e_check_two_units (c b u : Nat) (h1 : 2 ≤ c) (h2 : c ≤ 400) (hb : b ∈ uns c) (hu : u ∈ uns c) (p : Pst) : F_check_two_units [dI c, dI b, dI u] p = .ok .non false p := by
  rw [en_check_two_units, c_check_two_units]
  obtain ⟨k1, k2⟩ := mem_uns.mp hu
  simp [e_check_unit c b h1 h2 hb, e_is_unit_of c u h1 h2 k1, k2]
/-! ### logarithms -/
def dueD (c b u : Nat) : D := if u ∈ pows c b then dI (idx u (pows c b)) else .non
theorem e_logarithm (c b u : Nat) (h1 : 2 ≤ c) (h2 : c ≤ 400) (hb : b ∈ uns c) (hu : u ∈ uns c) (p : Pst) : F_logarithm [dI c, dI b, dI u] p = .ok (dueD c b u) false p := by
  rw [en_logarithm, c_logarithm]
  have hin := nIn u (pows c b)
  unfold dueD
  by_cases h : u ∈ pows c b
  · simp [e_check_two_units c b u h1 h2 hb hu, e_powers_of c b h1 h2 hb, hin, h, dIndex_nat h]
  · simp [e_check_two_units c b u h1 h2 hb hu, e_powers_of c b h1 h2 hb, hin, h]
/-! ### sorted powers -/
def spows (c b : Nat) : List Nat := (srt ((pows c b).map iN)).map Int.toNat
theorem srt_nat (l : List Nat) : (srt (l.map iN)).map D.int = ((srt (l.map iN)).map Int.toNat).map dI := by
  rw [List.map_map]
  refine List.map_congr_left fun i hi => ?_
  have : i ∈ l.map iN := (srt_perm _).mem_iff.mp hi
  obtain ⟨n, _, rfl⟩ := List.mem_map.mp this
  simp [dI, iN]
theorem intsOf_nat : ∀ l : List Nat, intsOf (l.map dI) = some (l.map iN)
  | [] => rfl
  | n :: l => by
    have ih := intsOf_nat l
    show (intsOf (l.map dI)).map ((n : Int) :: ·) = _
    rw [ih]; rfl
theorem dSorted_pows (c b : Nat) : dSorted [.lst ((pows c b).map dI)] = some ((spows c b).map dI) := by
  simp only [dSorted, intsOf_nat, Option.map_some]
  rw [srt_nat]; rfl
theorem mem_spows {c b n : Nat} : n ∈ spows c b ↔ n ∈ pows c b := by
  unfold spows
  constructor
  · intro h
    obtain ⟨i, hi, rfl⟩ := List.mem_map.mp h
    obtain ⟨m, hm, rfl⟩ := List.mem_map.mp ((srt_perm _).mem_iff.mp hi)
    simpa [iN] using hm
  · intro h
    exact List.mem_map.mpr ⟨iN n, (srt_perm _).mem_iff.mpr (List.mem_map.mpr ⟨n, h, rfl⟩), by simp [iN]⟩
theorem spows_len (c b : Nat) : (spows c b).length = ord c b := by
  unfold spows
  rw [List.length_map, (srt_perm _).length_eq, List.length_map]
  simp [pows]
theorem pows_lt {c b n : Nat} (hc : 0 < c) (h : n ∈ pows c b) : n < c := by
  obtain ⟨k, _, rfl⟩ := List.mem_map.mp h
  exact Nat.mod_lt _ hc
def barV (c b u : Nat) : D := if u ∈ pows c b then .non else .lst ((spows c b).map dI)
theorem e_power_bar (c b u : Nat) (h1 : 2 ≤ c) (h2 : c ≤ 400) (hb : b ∈ uns c) (hu : u ∈ uns c) (p : Pst) : F_power_bar [dI c, dI b, dI u] p = .ok (barV c b u) (!decide (u ∈ pows c b)) p := by
  rw [en_power_bar, c_power_bar]
  have hin := nIn u (spows c b)
  have e : decide (u ∈ spows c b) = decide (u ∈ pows c b) := decide_eq_decide.mpr mem_spows
  rw [e] at hin
  unfold barV
  by_cases h : u ∈ pows c b
  · simp [e_check_two_units c b u h1 h2 hb hu, e_powers_of c b h1 h2 hb, dSorted_pows, mscalt, thaw, hin, h]
  · simp [e_check_two_units c b u h1 h2 hb hu, e_powers_of c b h1 h2 hb, dSorted_pows, mscalt, thaw, hin, h, cretown]
end PF

namespace PF
open PySem PySem.Spec PyProof.Rows L2
/-! ### bars -/
def unitB (c : Nat) : D → Bool
  | .int i => decide (0 ≤ i) && (decide (i < (c : Int)) && decide (Nat.gcd i.toNat c = 1))
  | _ => false
def natsOf (c : Nat) : List D → Option (List Nat)
  | [] => some []
  | y :: ys => if unitB c y = true then (match y with
    | .int i => (natsOf c ys).map (i.toNat :: ·)
    | _ => none) else none
theorem unitB_nat {c : Nat} {y : D} (h : unitB c y = true) : ∃ n, y = dI n ∧ n ∈ uns c := by
  cases y <;> first | (simp [unitB] at h; done) | skip
  rename_i i
  simp only [unitB, Bool.and_eq_true, decide_eq_true_eq] at h
  refine ⟨i.toNat, (dI_toNat h.1), mem_uns.mpr ⟨by omega, h.2.2⟩⟩
theorem natsOf_spec {c : Nat} : ∀ {ys : List D} {ns : List Nat}, natsOf c ys = some ns → ys = ns.map dI ∧ (∀ n ∈ ns, n ∈ uns c) ∧ ys.all (unitB c) = true
  | [], ns, h => by simp only [natsOf, Option.some.injEq] at h; subst h; exact ⟨rfl, fun n h => (by cases h), rfl⟩
  | y :: ys, ns, h => by
    unfold natsOf at h
    split at h
    · rename_i hu
      obtain ⟨n, rfl, hn⟩ := unitB_nat hu
      simp only [dI] at h
      cases q : natsOf c ys with
      | none => rw [q] at h; cases h
      | some ms =>
        rw [q] at h
        simp only [Option.map_some, Option.some.injEq, Int.toNat_natCast] at h
        subst h
        obtain ⟨h1, h2, h3⟩ := natsOf_spec q
        refine ⟨by rw [h1]; rfl, fun m hm => ?_, by rw [List.all_cons, hu, h3]; rfl⟩
        rcases List.mem_cons.mp hm with e | e
        · rw [e]; exact hn
        · exact h2 m e
    · cases h
theorem natsOf_none {c : Nat} : ∀ {ys : List D}, natsOf c ys = none → ys.all (unitB c) = false
  | [], h => by cases h
  | y :: ys, h => by
    unfold natsOf at h
    split at h
    · rename_i hu
      obtain ⟨n, rfl, hn⟩ := unitB_nat hu
      simp only [dI] at h
      cases q : natsOf c ys with
      | none => rw [List.all_cons, natsOf_none q, Bool.and_false]
      | some ms => rw [q] at h; cases h
    · rename_i hu
      have : unitB c y = false := by simpa using hu
      rw [List.all_cons, this, Bool.false_and]
def chB (ns : List Nat) : Bool := (ns.zip (ns.drop 1)).all fun q => decide (q.1 < q.2)
def barN (c b u : Nat) (ns : List Nat) : Bool := chB ns && (decide (1 ∈ ns) && (!decide (u ∈ ns) && ns.all fun n => decide (n * b % c ∈ ns)))
def barD (c b u : Nat) (d : D) : Bool := match rowsOf d with
  | some ys => (match natsOf c ys with
    | some ns => barN c b u ns
    | none => false)
  | none => false
theorem barD_none {c b u : Nat} {d : D} (h : rowsOf d = none) : barD c b u d = false := by simp only [barD, h]
theorem barD_no {c b u : Nat} {d : D} {ys : List D} (h : rowsOf d = some ys) (h2 : natsOf c ys = none) : barD c b u d = false := by simp only [barD, h, h2]
theorem barD_some {c b u : Nat} {d : D} {ys : List D} {ns : List Nat} (h : rowsOf d = some ys) (h2 : natsOf c ys = some ns) : barD c b u d = barN c b u ns := by simp only [barD, h, h2]
/-- a bar keeps the unit from being a power -/
theorem bar_no {c b u : Nat} (h1 : 2 ≤ c) {d : D} (h : barD c b u d = true) : ¬ u ∈ pows c b := by
  intro hu
  cases r : rowsOf d with
  | none => rw [barD_none r] at h; cases h
  | some ys =>
    cases q : natsOf c ys with
    | none => rw [barD_no r q] at h; cases h
    | some ns =>
      rw [barD_some r q] at h
      unfold barN at h
      simp only [Bool.and_eq_true, decide_eq_true_eq, Bool.not_eq_true', decide_eq_false_iff_not, List.all_eq_true] at h
      obtain ⟨_, h2, h3, h4⟩ := h
      obtain ⟨k, _, rfl⟩ := List.mem_map.mp hu
      exact h3 (closed_pows (by rw [Nat.mod_eq_of_lt (show 1 < c by omega)]; exact h2) h4 k)
/-- values that may be bars -/
structure Vk (d : D) : Prop where
  np : noPot d = true
  ns : ∀ l, d ≠ .scr l
  it : ∀ ys, rowsOf d = some ys → ∀ y ∈ ys, noPot y = true
  x : okX d = true
theorem e_is_within_D (d : D) (l m : Nat) (h : noPot d = true) (p : Pst) : F_is_within [d, dI l, dI m] p = .ok (.bl (match d with | .int i => decide ((l : Int) ≤ i) && decide (i ≤ (m : Int)) | _ => false)) false p := by
  rw [en_is_within, c_is_within]
  have ei := e_is_integer d h p
  rw [isI_ty] at ei
  cases d <;> first | (simp only [isI] at ei; simp [ei]; done) | skip
  rename_i i
  simp only [isI] at ei
  have e1 : dI2b iLe (dI l) (.int i) = some (decide ((l : Int) ≤ i)) := rfl
  have e2 : dI2b iLe (.int i) (dI m) = some (decide (i ≤ (m : Int))) := rfl
  by_cases z : (l : Int) ≤ i <;> simp [ei, e1, e2, z]
theorem e_is_unit_D (c : Nat) (d : D) (h1 : 2 ≤ c) (h2 : c ≤ 400) (h : noPot d = true) (p : Pst) : F_is_unit_of [dI c, d] p = .ok (.bl (unitB c d)) false p := by
  rw [en_is_unit_of, c_is_unit_of]
  have s := nSub (a := c) (b := 1) (by omega)
  have w := e_is_within_D d 0 (c - 1) h p
  cases d <;> first | (simp only at w; simp [s, w, unitB]; done) | skip
  rename_i i
  simp only at w
  by_cases z : 0 ≤ i ∧ i < (c : Int)
  · obtain ⟨n, rfl⟩ : ∃ n : Nat, i = (n : Int) := ⟨i.toNat, by omega⟩
    have e : unitB c (dI n) = decide (Nat.gcd n c = 1) := by simp [unitB, dI, z]
    rw [dI_eq] at w ⊢
    have hw : (decide (((0 : Nat) : Int) ≤ (n : Int)) && decide ((n : Int) ≤ ((c - 1 : Nat) : Int))) = true := by
      rw [Bool.and_eq_true, decide_eq_true_eq, decide_eq_true_eq]; omega
    rw [hw] at w
    simp [s, w, e, e_divisor n c (by omega)]
  · have e : unitB c (.int i) = false := by
      simp only [unitB]
      by_cases q : 0 ≤ i
      · have : ¬ i < (c : Int) := fun r => z ⟨q, r⟩
        simp [this]
      · simp [q]
    have hw : (decide (((0 : Nat) : Int) ≤ i) && decide (i ≤ ((c - 1 : Nat) : Int))) = false := by
      rw [Bool.and_eq_false_iff, decide_eq_false_iff_not, decide_eq_false_iff_not]; omega
    rw [hw] at w
    simp [s, w, e]
/-! looks at the items -/
theorem cut1 {α : Type} (xs : List α) : cutA xs (some 1) none = xs.drop 1 := by
  unfold cutA
  have e1 : HT.sIx xs.length 0 (some 1) = min 1 xs.length := HT.sIx_nat xs.length 0 1
  rw [e1, HT.sIx_none]
  cases xs with
  | nil => rfl
  | cons x xs =>
    have : min 1 (x :: xs).length = 1 := by simp
    rw [this, List.drop_one, List.tail_cons, List.take_of_length_le (by simp)]
theorem zipL_nat : ∀ l m : List Nat, zipL (l.map dI) (m.map dI) = (l.zip m).map fun q => .tup [dI q.1, dI q.2]
  | [], _ => rfl
  | _ :: _, [] => rfl
  | x :: l, y :: m => by
    have := zipL_nat l m
    simp only [zipL, List.map_cons, List.zipWith_cons_cons, List.zip_cons_cons] at this ⊢
    rw [this]
theorem e_mZipT {ms : M (List D)} {ρ : Sl} {p p1 : Pst} {xs ys : List D} (h : ms ρ p = .ok [.tup xs, .tup ys] p1) : mZip ms ρ p = .ok (zipL xs ys) p1 := by
  unfold mZip
  rw [ev_mbind, h, andThen_ok, kM_ap]
  simp
theorem rows_cases {d : D} {ys : List D} (h : rowsOf d = some ys) : d = .lst ys ∨ d = .tup ys := by
  cases d <;> simp [rowsOf] at h <;> subst h
  · exact .inl rfl
  · exact .inr rfl
theorem seq_rows {d : D} {ys : List D} (h : rowsOf d = some ys) {m : M D} {ρ : Sl} {p : Pst} (e : m ρ p = .ok d p) : mSeq m ρ p = .ok ys p := by
  rcases rows_cases h with rfl | rfl <;> simp [e]
theorem in_rows {d : D} {ns : List Nat} (h : rowsOf d = some (ns.map dI)) (k : Nat) : dInX (dI k) d = some (decide (k ∈ ns)) := by
  rcases rows_cases h with rfl | rfl
  · rw [dInX_lst, nIn]
  · exact nInT k ns
theorem look1 (c : Nat) (h1 : 2 ≤ c) (h2 : c ≤ 400) (d : D) (hd : Vk d) (ys : List D) (hr : rowsOf d = some ys) (p : Pst) (s1 s2 s4 s5 : Option W) : m_is_power_bar_1 [some (.val (dI c)), s1, s2, some (.val d), s4, s5] p = .ok (ys.map fun y => .bl (unitB c y)) p := by
  have hi : mSeq (rd 3) [some (.val (dI c)), s1, s2, some (.val d), s4, s5] p = .ok ys p := seq_rows hr (by simp)
  exact mLc_lstY (i := 4) (el := mFn F_is_unit_of 2 0 [0, 1] (mcons (rd 0) (mcons (rd 4) (mret []))) (mret [])) hi (fun y => .bl (unitB c y)) fun y hy => by
    simp [wipeS, e_is_unit_D c y h1 h2 (hd.it ys hr y hy)]
theorem zip_rows {d : D} {ns : List Nat} (hr : rowsOf d = some (ns.map dI)) {m : M D} {ρ : Sl} {p : Pst} (e : m ρ p = .ok d p) : mZip (mcons m (mcons (mSl m (mPart (mret (dI 1))) (mret none)) (mret []))) ρ p = .ok ((ns.zip (ns.drop 1)).map fun q => .tup [dI q.1, dI q.2]) p := by
  rw [← zipL_nat, List.map_drop, ← cut1]
  rcases rows_cases hr with rfl | rfl
  · have sl : dSl (.lst (ns.map dI)) (some 1) none = some (.lst (cutA (ns.map dI) (some 1) none)) := rfl
    exact e_mZip (by simp [e, inK_dI, sl])
  · have sl : dSl (.tup (ns.map dI)) (some 1) none = some (.tup (cutA (ns.map dI) (some 1) none)) := rfl
    exact e_mZipT (by simp [e, inK_dI, sl])
theorem look2 (d : D) (ns : List Nat) (hr : rowsOf d = some (ns.map dI)) (p : Pst) (s0 s1 s2 s4 s5 : Option W) : m_is_power_bar_2 [s0, s1, s2, some (.val d), s4, s5] p = .ok ((ns.zip (ns.drop 1)).map fun q => .bl (decide (q.1 < q.2))) p := by
  have hi := zip_rows hr (m := rd 3) (ρ := [s0, s1, s2, some (.val d), s4, s5]) (p := p) (by simp)
  have key : ∀ l : List (Nat × Nat), lcGo (fTup (fCons (fName 4) (fCons (fName 5) fNil))) mYes (mB (mCmp dLt (rd 4) (rd 5))) (l.map fun q => .tup [dI q.1, dI q.2]) [s0, s1, s2, some (.val d), none, none] p = .ok (l.map fun q => .bl (decide (q.1 < q.2))) p := by
    intro l
    induction l with
    | nil => rfl
    | cons q l ih => simp [lcGo, fTup, fCons, fName, fNil, ih]
  have := key (ns.zip (ns.drop 1))
  unfold m_is_power_bar_2 mLc
  rw [ev_mbind, hi, andThen_ok, kM_ap]
  simp only [wipeS, List.foldl_cons, List.foldl_nil, List.set_cons_succ, List.set_cons_zero]
  simp only [this]
theorem look3 (c b : Nat) (h1 : 2 ≤ c) (h2 : c ≤ 400) (hb : b < c) (d : D) (ns : List Nat) (hr : rowsOf d = some (ns.map dI)) (p : Pst) (s2 s4 s5 : Option W) : m_is_power_bar_3 [some (.val (dI c)), some (.val (dI b)), s2, some (.val d), s4, s5] p = .ok (ns.map fun n => .bl (decide (n * b % c ∈ ns))) p := by
  have hi : mSeq (rd 3) [some (.val (dI c)), some (.val (dI b)), s2, some (.val d), s4, s5] p = .ok (ns.map dI) p := seq_rows hr (by simp)
  exact mLc_mapY (i := 4) (el := mB (mCmp dInX (mOp dMod (mOp dMul (rd 4) (rd 1)) (rd 0)) (rd 3))) hi (fun n => .bl (decide (n * b % c ∈ ns))) fun n hn => by
    have m1 := nMul (a := n) (b := b) (.inr (by omega))
    have c0 : 0 < c := by omega
    simp [wipeS, m1, nMod c0, in_rows hr]
theorem e_is_power_bar (c b u : Nat) (h1 : 2 ≤ c) (h2 : c ≤ 400) (hb : b ∈ uns c) (hu : u ∈ uns c) (d : D) (hd : Vk d) (p : Pst) : F_is_power_bar [dI c, dI b, dI u, d] p = .ok (.bl (barD c b u d)) false p := by
  rw [en_is_power_bar, c_is_power_bar]
  have ck := e_check_two_units c b u h1 h2 hb hu p
  have el := e_is_list d hd.np p
  cases r : rowsOf d with
  | none =>
    have tl : isTys [.list, .tuple] d = false := by
      have nsb := hd.ns
      cases d <;> first | (simp [rowsOf] at r; done) | rfl | exact absurd rfl (nsb _)
    rw [tl] at el
    rw [barD_none r]
    simp [ck, el]
  | some ys =>
    have tl : isTys [.list, .tuple] d = true := by cases d <;> first | (simp [rowsOf] at r; done) | rfl
    rw [tl] at el
    have k1 := look1 c h1 h2 d hd ys r p
    have a1 := dAll_map (unitB c) ys
    cases q : natsOf c ys with
    | none =>
      rw [natsOf_none q] at a1
      rw [barD_no r q]
      simp [ck, el, k1, a1]
    | some ns =>
      obtain ⟨hys, hn, al⟩ := natsOf_spec q
      rw [al] at a1
      rw [barD_some r q]
      have r' : rowsOf d = some (ns.map dI) := by rw [r, hys]
      have k2 := look2 d ns r' p
      have k3 := look3 c b h1 h2 (uns_lt hb) d ns r' p
      have a2 := dAll_map (fun q : Nat × Nat => decide (q.1 < q.2)) (ns.zip (ns.drop 1))
      have a3 := dAll_map (fun n => decide (n * b % c ∈ ns)) ns
      have i1 : dNotInX (dI 1) d = some (!decide (1 ∈ ns)) := by simp [dNotInX, in_rows r']
      have i2 := in_rows r' u
      rw [show ((ns.zip (ns.drop 1)).all fun q : Nat × Nat => decide (q.1 < q.2)) = chB ns from rfl] at a2
      unfold barN
      generalize ns.zip (ns.drop 1) = zs at *
      generalize (ns.all fun n => decide (n * b % c ∈ ns)) = cl at *
      generalize chB ns = ch at *
      generalize decide (1 ∈ ns) = one at *
      generalize decide (u ∈ ns) = un at *
      cases ch <;> cases one <;> cases un <;> simp [ck, el, k1, a1, k2, a2, i1, i2, k3, a3]
end PF

namespace PF
open PySem PySem.Spec PyProof.Rows L2
/-! ### the law's look -/
theorem lookL1 (d : D) (hd : Vk d) (ys : List D) (hr : rowsOf d = some ys) (p : Pst) (s0 s1 s2 s4 s5 s6 : Option W) : m__law_is_bar_1 [s0, s1, s2, some (.val d), s4, s5, s6] p = .ok (ys.map fun y => .bl (isI y)) p := by
  have hi : mSeq (rd 3) [s0, s1, s2, some (.val d), s4, s5, s6] p = .ok ys p := seq_rows hr (by simp)
  exact mLc_lstY (i := 5) (el := mAndV (mIsi .int (rd 5)) (mNotV (mIsi .bool (rd 5)))) hi (fun y => .bl (isI y)) fun y hy => by
    have np := hd.it ys hr y hy
    cases y <;> first | (simp [noPot] at np; done) | simp [wipeS, isTy, isI]
theorem lookL2 (c : Nat) (h1 : 2 ≤ c) (h2 : c ≤ 400) (ys : List D) (hI : ys.all isI = true) (p : Pst) (s1 s2 s3 s5 s6 : Option W) : m__law_is_bar_2 [some (.val (dI c)), s1, s2, s3, some (.val (.lst ys)), s5, s6] p = .ok (ys.map fun y => .bl (unitB c y)) p := by
  have hi : mSeq (rd 4) [some (.val (dI c)), s1, s2, s3, some (.val (.lst ys)), s5, s6] p = .ok ys p := by simp
  exact mLc_lstY (i := 5) (el := mAndV (mB (mChain iLe iLt (mret (dI 0)) (rd 5) (rd 0))) (mB (mCmp dEq (mFn F__law_divisor 2 0 [0, 1] (mcons (rd 0) (mcons (rd 5) (mret []))) (mret [])) (mret (dI 1))))) hi (fun y => .bl (unitB c y)) fun y hy => by
    have iy := List.all_eq_true.mp hI y hy
    cases y <;> first | (simp [isI] at iy; done) | skip
    rename_i i
    have e1 : dI2b iLe (dI 0) (.int i) = some (decide (0 ≤ i)) := rfl
    have e2 : dI2b iLt (.int i) (dI c) = some (decide (i < (c : Int))) := rfl
    by_cases z0 : 0 ≤ i
    · by_cases z1 : i < (c : Int)
      · obtain ⟨n, rfl⟩ : ∃ n : Nat, i = (n : Int) := ⟨i.toNat, by omega⟩
        have e : unitB c (dI n) = decide (Nat.gcd n c = 1) := by simp [unitB, dI, z1]
        rw [dI_eq] at *
        rw [show decide ((0 : Int) ≤ (n : Int)) = true by simp] at e1
        rw [show decide ((n : Int) < (c : Int)) = true by simpa using z1] at e2
        simp [wipeS, e1, e2, e, e__law_divisor c n (by omega), Nat.gcd_comm c n]
      · have e : unitB c (.int i) = false := by simp [unitB, z1]
        simp [wipeS, e1, e2, z0, z1, e]
    · have e : unitB c (.int i) = false := by simp [unitB, z0]
      simp [wipeS, e1, z0, e]
theorem lookL3 (ns : List Nat) (p : Pst) (s0 s1 s2 s3 s5 s6 : Option W) : m__law_is_bar_3 [s0, s1, s2, s3, some (.val (.lst (ns.map dI))), s5, s6] p = .ok ((ns.zip (ns.drop 1)).map fun q => .bl (decide (q.1 < q.2))) p := by
  have hi := zip_rows (d := .lst (ns.map dI)) (ns := ns) rfl (m := rd 4) (ρ := [s0, s1, s2, s3, some (.val (.lst (ns.map dI))), s5, s6]) (p := p) (by simp)
  have key : ∀ l : List (Nat × Nat), lcGo (fTup (fCons (fName 5) (fCons (fName 6) fNil))) mYes (mB (mCmp dLt (rd 5) (rd 6))) (l.map fun q => .tup [dI q.1, dI q.2]) [s0, s1, s2, s3, some (.val (.lst (ns.map dI))), none, none] p = .ok (l.map fun q => .bl (decide (q.1 < q.2))) p := by
    intro l
    induction l with
    | nil => rfl
    | cons q l ih => simp [lcGo, fTup, fCons, fName, fNil, ih]
  have := key (ns.zip (ns.drop 1))
  unfold m__law_is_bar_3 mLc
  rw [ev_mbind, hi, andThen_ok, kM_ap]
  simp only [wipeS, List.foldl_cons, List.foldl_nil, List.set_cons_succ, List.set_cons_zero]
  simp only [this]
theorem lookL4 (c b : Nat) (h1 : 2 ≤ c) (h2 : c ≤ 400) (hb : b < c) (ns : List Nat) (p : Pst) (s2 s3 s5 s6 : Option W) : m__law_is_bar_4 [some (.val (dI c)), some (.val (dI b)), s2, s3, some (.val (.lst (ns.map dI))), s5, s6] p = .ok (ns.map fun n => .bl (decide (n * b % c ∈ ns))) p := by
  have hi : mSeq (rd 4) [some (.val (dI c)), some (.val (dI b)), s2, s3, some (.val (.lst (ns.map dI))), s5, s6] p = .ok (ns.map dI) p := by simp
  exact mLc_mapY (i := 5) (el := mB (mCmp dInX (mOp dMod (mCall dInt (mcons (mOp dMul (rd 5) (rd 1)) (mret []))) (rd 0)) (rd 4))) hi (fun n => .bl (decide (n * b % c ∈ ns))) fun n hn => by
    have m1 := nMul (a := n) (b := b) (.inr (by omega))
    have c0 : 0 < c := by omega
    simp [wipeS, m1, nMod c0, nIn]
theorem unitB_isI {c : Nat} {ys : List D} (h : ys.all (unitB c) = true) : ys.all isI = true := by
  rw [List.all_eq_true] at h ⊢
  intro y hy
  have := h y hy
  cases y <;> first | rfl | (simp [unitB] at this)
theorem e__law_is_bar (c b u : Nat) (h1 : 2 ≤ c) (h2 : c ≤ 400) (hb : b ∈ uns c) (hu : u ∈ uns c) (d : D) (hd : Vk d) (p : Pst) : F__law_is_bar [dI c, dI b, dI u, d] p = .ok (.bl (barD c b u d)) false p := by
  rw [en__law_is_bar, c__law_is_bar]
  cases r : rowsOf d with
  | none =>
    have tl : isTys [.list, .tuple] d = false := by
      have nsb := hd.ns
      cases d <;> first | (simp [rowsOf] at r; done) | rfl | exact absurd rfl (nsb _)
    rw [barD_none r]
    simp [hd.np, tl]
  | some ys =>
    have tl : isTys [.list, .tuple] d = true := by cases d <;> first | (simp [rowsOf] at r; done) | rfl
    have k1 := lookL1 d hd ys r p
    have a1 := dAll_map isI ys
    have hl : dList [d] = some ys := by rcases rows_cases r with rfl | rfl <;> rfl
    cases q : natsOf c ys with
    | none =>
      rw [barD_no r q]
      by_cases hI : ys.all isI = true
      · rw [hI] at a1
        have k2 := lookL2 c h1 h2 ys hI p
        have a2 := dAll_map (unitB c) ys
        rw [natsOf_none q] at a2
        simp [hd.np, tl, k1, a1, hl, k2, a2]
      · have hI' : ys.all isI = false := by simpa using hI
        rw [hI'] at a1
        simp [hd.np, tl, k1, a1]
    | some ns =>
      obtain ⟨hys, hn, al⟩ := natsOf_spec q
      have hI := unitB_isI al
      rw [hI] at a1
      have k2 := lookL2 c h1 h2 ys hI p
      have a2 := dAll_map (unitB c) ys
      rw [al] at a2
      rw [barD_some r q]
      have k3 := lookL3 ns p
      have k4 := lookL4 c b h1 h2 (uns_lt hb) ns p
      have a3 := dAll_map (fun q : Nat × Nat => decide (q.1 < q.2)) (ns.zip (ns.drop 1))
      have a4 := dAll_map (fun n => decide (n * b % c ∈ ns)) ns
      have c0 : 0 < c := by omega
      have c1 : 1 % c = 1 := Nat.mod_eq_of_lt (by omega)
      have i1 := nNotIn 1 ns
      have i2 := nIn u ns
      rw [show ((ns.zip (ns.drop 1)).all fun q : Nat × Nat => decide (q.1 < q.2)) = chB ns from rfl] at a3
      rw [← hys] at k3 k4 i1 i2
      unfold barN
      generalize ns.zip (ns.drop 1) = zs at *
      generalize (ns.all fun n => decide (n * b % c ∈ ns)) = cl at *
      generalize chB ns = ch at *
      generalize decide (1 ∈ ns) = one at *
      generalize decide (u ∈ ns) = un at *
      cases ch <;> cases one <;> cases un <;> simp [hd.np, tl, k1, a1, hl, k2, a2, k3, a3, nMod c0, c1, i1, i2, k4, a4]
/-! ### bent values -/
structure LI (ys : List D) : Prop where
  it : ∀ y ∈ ys, RL 40 1 y ∧ noPot y = true
  le : ys.length ≤ 3000
theorem LI.rl {ys : List D} (h : LI ys) : RL 130000 2 (.lst ys) := (rl_lst fun y hy => (h.it y hy).1).mono (by have := h.le; omega) (by omega)
theorem LI.rlT {ys : List D} (h : LI ys) : RL 130000 2 (.tup ys) := (rl_tup fun y hy => (h.it y hy).1).mono (by have := h.le; omega) (by omega)
theorem LI.vl {ys : List D} (h : LI ys) : Vk (.lst ys) := ⟨by simp, fun l z => (by cases z), fun zs e => (by simp [rowsOf] at e; subst e; exact fun y hy => (h.it y hy).2), okX_of (h.rl.ok (by omega) (by omega))⟩
theorem LI.vt {ys : List D} (h : LI ys) : Vk (.tup ys) := ⟨by simp, fun l z => (by cases z), fun zs e => (by simp [rowsOf] at e; subst e; exact fun y hy => (h.it y hy).2), okX_of (h.rlT.ok (by omega) (by omega))⟩
theorem LI.sub {ys zs : List D} (h : LI ys) (hs : ∀ z ∈ zs, z ∈ ys) (hl : zs.length ≤ 3000) : LI zs := ⟨fun z hz => h.it z (hs z hz), hl⟩
theorem LI.app {ys zs : List D} (h : LI ys) (h' : LI zs) (hl : ys.length + zs.length ≤ 3000) : LI (ys ++ zs) := ⟨fun z hz => by
  rcases List.mem_append.mp hz with q | q
  · exact h.it z q
  · exact h'.it z q, by rw [List.length_append]; exact hl⟩
theorem LI.one {y : D} (h : RL 40 1 y) (h' : noPot y = true) : LI [y] := ⟨fun z hz => by simp at hz; subst hz; exact ⟨h, h'⟩, by simp⟩
theorem LI.nats {S : List Nat} (h : ∀ n ∈ S, n < 10 ^ 12) (hl : S.length ≤ 3000) : LI (S.map dI) := ⟨fun z hz => by
  obtain ⟨n, hn, rfl⟩ := List.mem_map.mp hz
  exact ⟨(rl_dI (h n hn)).mono (by omega) (by omega), by simp⟩, by rw [List.length_map]; exact hl⟩
theorem vk_flat {d : D} {n k : Nat} (r : RL n k d) (h1 : n ≤ 16000000) (h2 : k ≤ 60) (hr : rowsOf d = none) (hn : noPot d = true) (hs : ∀ l, d ≠ .scr l) : Vk d := ⟨hn, hs, fun ys e => (by rw [hr] at e; cases e), okX_of (r.ok h1 h2)⟩
theorem okX_empty : okX .emp = true := by
  have e : okE .emp = true := by
    refine okE_iff.mpr ⟨rfl, by simp [toPy, PyData.showable, PyData.showableKv], ?_, by simp [toPy, PyData.depth, PyData.depthKv]⟩
    have h3 : (PyData.shown (toPy .emp)).length = 2 := by decide +kernel
    rw [h3, sizeLine_eq]; omega
  unfold okX
  rw [e, Bool.or_true]
theorem rl_strx : RL 13 0 (.str "x") := ⟨by decide +kernel, by simp [toPy, PyData.showable], by decide +kernel, by simp [dep]⟩
theorem seen_mem : ∀ (ns acc : List Int) (x : Int), x ∈ seen acc ns → x ∈ acc ∨ x ∈ ns
  | [], acc, x, h => .inl h
  | n :: ns, acc, x, h => by
    rcases seen_mem ns _ x h with q | q
    · split at q
      · exact .inl q
      · rcases List.mem_append.mp q with z | z
        · exact .inl z
        · simp at z; exact .inr (by rw [z]; exact List.mem_cons_self)
    · exact .inr (List.mem_cons_of_mem _ q)
theorem fsts_nat : ∀ l : List Nat, fsts (l.map fun n => .tup [dI n, dI 1]) = some (l.map iN)
  | [] => rfl
  | n :: l => by
    have ih := fsts_nat l
    show (fsts (l.map fun n => .tup [dI n, dI 1])).map ((n : Int) :: ·) = _
    rw [ih]; rfl
theorem e__law_bent (c g : Nat) (S : List Nat) (h1 : 2 ≤ c) (h2 : c ≤ 400) (hS : ∀ n ∈ S, n < 400) (hSl : S.length ≤ 400) (hS0 : S ≠ []) (p : Pst) (hp : Good g p) :
    ∃ d fr p', F__law_bent [.pot g, dI c, .lst (S.map dI)] p = .ok d fr p' ∧ Vk d ∧ Good g p' := by
  rw [en__law_bent, c__law_bent]
  obtain ⟨w, p1, e1, hw, g1⟩ := drw (m := 6) (by omega) (by omega) hp
  have hl : dList [.lst (S.map dI)] = some (S.map dI) := rfl
  have LS : LI (S.map dI) := LI.nats (fun n hn => by have := hS n hn; omega) (by omega)
  let Q : SRes → Prop := fun r => ∃ d fr p', sres r = .ok d fr p' ∧ Vk d ∧ Good g p'
  show Q _
  have stepT : ∀ {t : M Bool} {a b : C} {ρ : Sl} {p p1 : Pst} {d : D} {fr : Bool} {q : Pst}, t ρ p = .ok true p1 → a ρ p1 = .rt d fr q → Vk d → Good g q → Q (cseq (cif t a cskip) b ρ p) := fun h k v gq => by
    rw [ev_cseq, ev_cif, ev_eout, h]; simp only [andS_ok, kC_ap, if_true, k, andC_rt]; exact ⟨_, _, _, rfl, v, gq⟩
  refine step (ρ1 := [some (.val (.pot g)), some (.val (dI c)), some (.val (.lst (S.map dI))), none, some (.val (.lst (S.map dI))), some (.val (dI w)), none]) (p1 := p1) ?_ ?_
  · simp [hl, e1]
  have one : cutA (S.map dI) none (some 1) = (S.take 1).map dI := by
    unfold cutA
    have e2 : HT.sIx (S.map dI).length (S.map dI).length (some 1) = min 1 (S.map dI).length := HT.sIx_nat _ _ 1
    rw [HT.sIx_none, e2, List.drop_zero]
    have : 1 ≤ (S.map dI).length := by rw [List.length_map]; exact List.length_pos_iff.mpr hS0
    rw [Nat.min_eq_left this, List.map_take]
    try simp
  by_cases w0 : w = 0
  · subst w0
    obtain ⟨d, p2, e2, hd, g2⟩ := pck (xs := [.non, .emp, .lst [], .str "x", .tup (S.map dI), .lst (S.map dI ++ cutA (S.map dI) none (some 1)), .lst (cutA (S.map dI) (some 1) none), dI 5]) (by simp) (by simp) g1
    have tR : dTuple [.lst (S.map dI)] = some (.tup (S.map dI)) := rfl
    have l1 := cutA_len (S.map dI) none (some 1)
    have l2 := cutA_len (S.map dI) (some 1) none
    rw [List.length_map] at l1 l2
    have ca := cat_ok (xs := S.map dI) (ys := cutA (S.map dI) none (some 1)) (by rw [List.length_map]; omega)
    have sl1 : dSl (.lst (S.map dI)) none (some 1) = some (.lst (cutA (S.map dI) none (some 1))) := rfl
    have sl2 : dSl (.lst (S.map dI)) (some 1) none = some (.lst (cutA (S.map dI) (some 1) none)) := rfl
    have k1 : LI (cutA (S.map dI) none (some 1)) := LS.sub (fun z hz => cutA_mem hz) (by omega)
    have k2 : LI (cutA (S.map dI) (some 1) none) := LS.sub (fun z hz => cutA_mem hz) (by omega)
    have k3 := LS.app k1 (by rw [List.length_map]; omega)
    generalize cutA (S.map dI) none (some 1) = A at *
    generalize cutA (S.map dI) (some 1) none = B at *
    refine stepT (p1 := p1) (d := d) (fr := false) (q := p2) (by simp) ?_ ?_ g2
    · simp [tR, inK_dI, sl1, sl2, ca, e2]
    · simp only [List.mem_cons, List.not_mem_nil, or_false] at hd
      rcases hd with rfl | rfl | rfl | rfl | rfl | rfl | rfl | rfl
      · exact vk_flat rl_non (by omega) (by omega) rfl rfl (by intro l z; cases z)
      · exact ⟨rfl, (by intro l z; cases z), (fun ys e => by simp [rowsOf] at e), okX_empty⟩
      · exact LI.vl ⟨by simp, by simp⟩
      · exact vk_flat rl_strx (by omega) (by omega) rfl rfl (by intro l z; cases z)
      · exact LS.vt
      · exact k3.vl
      · exact k2.vl
      · exact vk_flat (rl_dI (k := 5) (by omega)) (by omega) (by omega) rfl (by simp) (by intro l z; cases z)
  refine step_if (p1 := p1) (by simp [w0]) ?_
  have Spos : 0 < S.length := List.length_pos_iff.mpr hS0
  obtain ⟨t, p2, e2, ht, g2⟩ := drw (m := S.length) Spos (by omega) g1
  refine step (ρ1 := [some (.val (.pot g)), some (.val (dI c)), some (.val (.lst (S.map dI))), some (.val (dI t)), some (.val (.lst (S.map dI))), some (.val (dI w)), none]) (p1 := p2) (by simp [e2]) ?_
  by_cases w1 : w = 1
  · subst w1
    have rv : mRevo (rd 4) [some (.val (.pot g)), some (.val (dI c)), some (.val (.lst (S.map dI))), some (.val (dI t)), some (.val (.lst (S.map dI))), some (.val (dI 1)), none] p2 = .ok (S.map dI).reverse p2 := e_revo (by simp)
    have k : LI (S.map dI).reverse := LS.sub (by simp) (by rw [List.length_reverse, List.length_map]; omega)
    generalize (S.map dI).reverse = R at *
    exact stepT (p1 := p2) (d := .lst R) (fr := false) (q := p2) (by simp) (by simp [rv]) k.vl g2
  refine step_if (p1 := p2) (by simp [w1]) ?_
  by_cases w4 : w < 4
  · obtain ⟨dx, p3, e3, hx, g3⟩ := pck (xs := (uns c).map dI) (by
      intro z
      have : uns c = [] := by simpa using z
      have g := (lam_ok c h1 h2).gun
      rw [this] at g; cases g) (by rw [List.length_map]; have := uns_len c; omega) g2
    obtain ⟨x, hx', rfl⟩ := List.mem_map.mp hx
    have xl := uns_lt hx'
    have ca := cat_ok (xs := S.map dI) (ys := [dI x]) (by simp; omega)
    have hi : mSeq (mOp dAdd (rd 4) (mfrz (mlim (mcons (mFn F__law_pick 2 0 [0, 1] (mcons (rd 0) (mcons (mFn F__law_units 1 0 [0] (mcons (rd 1) (mret [])) (mret [])) (mret []))) (mret [])) (mret []))))) [some (.val (.pot g)), some (.val (dI c)), some (.val (.lst (S.map dI))), some (.val (dI t)), some (.val (.lst (S.map dI))), some (.val (dI w)), none] p2 = .ok ((S ++ [x]).map dI) p3 := by
      simp [e__law_units c h1 h2, e3, ca]
    have em : m__law_bent_1 _ _ = _ := mLc_mapY (i := 6) (el := mtup (mcons (rd 6) (mcons (mret (dI 1)) (mret [])))) hi (fun n => .tup [dI n, dI 1]) fun n hn => by simp [wipeS]
    have ds : dSdict [.lst ((S ++ [x]).map fun n => .tup [dI n, dI 1])] = some ((srt (seen [] ((S ++ [x]).map iN))).map .int) := by
      simp only [dSdict, fsts_nat, Option.map_some]
    have k : LI ((srt (seen [] ((S ++ [x]).map iN))).map .int) := by
      refine ⟨fun z hz => ?_, ?_⟩
      · obtain ⟨i, hi, rfl⟩ := List.mem_map.mp hz
        have h3 := (srt_perm _).mem_iff.mp hi
        rcases seen_mem _ _ _ h3 with q | q
        · cases q
        · obtain ⟨n, hn, rfl⟩ := List.mem_map.mp q
          have : n < 400 := by
            rcases List.mem_append.mp hn with y | y
            · exact hS n y
            · simp at y; omega
          exact ⟨(rl_dI (k := n) (by omega)).mono (by omega) (by omega), by simp⟩
      · rw [List.length_map, (srt_perm _).length_eq]
        have := seen_len ((S ++ [x]).map iN) []
        simp at this
        have e5 : (seen [] (List.map iN (S ++ [x]))).length = (seen [] (List.map iN S ++ [iN x])).length := by rw [List.map_append]; rfl
        omega
    generalize (srt (seen [] ((S ++ [x]).map iN))).map D.int = R at *
    generalize ((S ++ [x]).map fun n => D.tup [dI n, dI 1]) = T at *
    exact stepT (p1 := p2) (d := .lst R) (fr := true) (q := p3) (by simp [w4]) (by simp [em, ds]) k.vl g3
  refine step_if (p1 := p2) (by simp [w4]) ?_
  have it : dIx (.lst (S.map dI)) (dI t) = some (dI S[t]) := nIx_lst (by rw [List.getElem?_map, List.getElem?_eq_getElem ht]; rfl)
  have st4 : S[t] < 400 := hS _ (List.getElem_mem ht)
  obtain ⟨d, p3, e3, hd, g3⟩ := pck (xs := [dI 0, .non, .bl true, dI c, .int (-1), dI (S[t] + 1), .tup [dI 1]]) (by simp) (by simp) g2
  have hdv : RL 40 1 d ∧ noPot d = true := by
    simp only [List.mem_cons, List.not_mem_nil, or_false] at hd
    rcases hd with rfl | rfl | rfl | rfl | rfl | rfl | rfl
    · exact ⟨(rl_dI (by omega)).mono (by omega) (by omega), by simp⟩
    · exact ⟨rl_non.mono (by omega) (by omega), rfl⟩
    · exact ⟨(rl_bl true).mono (by omega) (by omega), rfl⟩
    · exact ⟨(rl_dI (by omega)).mono (by omega) (by omega), by simp⟩
    · exact ⟨(rl_int (i := -1) (by decide)).mono (by omega) (by omega), rfl⟩
    · exact ⟨(rl_dI (by omega)).mono (by omega) (by omega), by simp⟩
    · exact ⟨(rl_tup (n := 13) (k := 0) (xs := [dI 1]) (by simp [rl_dI])).mono (by simp) (by simp), by simp⟩
  have l1 := cutA_len (S.map dI) none (some (t : Int))
  have l2 := cutA_len (S.map dI) (some ((t : Int) + 1)) none
  rw [List.length_map] at l1 l2
  have sl1 : dSl (.lst (S.map dI)) none (some (t : Int)) = some (.lst (cutA (S.map dI) none (some (t : Int)))) := rfl
  have sl2 : dSl (.lst (S.map dI)) (some ((t : Int) + 1)) none = some (.lst (cutA (S.map dI) (some ((t : Int) + 1)) none)) := rfl
  have k1 : LI (cutA (S.map dI) none (some (t : Int))) := LS.sub (fun z hz => cutA_mem hz) (by omega)
  have k2 : LI (cutA (S.map dI) (some ((t : Int) + 1)) none) := LS.sub (fun z hz => cutA_mem hz) (by omega)
  generalize cutA (S.map dI) none (some (t : Int)) = A at *
  generalize cutA (S.map dI) (some ((t : Int) + 1)) none = B at *
  have c1 := cat_ok (xs := A) (ys := [d]) (by simp; omega)
  have c2 : dAddO (.lst (A ++ [d])) (.lst B) = some (A ++ [d] ++ B) := by
    simp only [dAddO]
    rw [if_pos (by rw [sizeLine_eq, List.length_append]; simp; omega)]
  have k := (k1.app (LI.one hdv.1 hdv.2) (by simp; omega)).app k2 (by simp; omega)
  have ng : dNeg (dI 1) = some (.int (-1)) := rfl
  refine ⟨_, true, p3, ?_, k.vl, g3⟩
  simp only [List.append_assoc] at c2 ⊢
  simp [inK_dI, sl1, sl2, it, ng, e3, c1, c2]
end PF

namespace PF
open PySem PySem.Spec PyProof.Rows L2
theorem rts_len (c n : Nat) : (rts c n).length ≤ c := by
  have := List.length_filter_le (fun x => decide (x * x % c = n)) (List.range c)
  rw [List.length_range] at this
  exact this
/-! ### two clocks -/
theorem e__law_parts_right (g : Nat) (p : Pst) (hp : Good g p) : ∃ p', F__law_parts_right [.pot g] p = .ok (.bl true) false p' ∧ Good g p' := by
  rw [en__law_parts_right, c__law_parts_right]
  let Q : SRes → Prop := fun r => ∃ p', sres r = .ok (.bl true) false p' ∧ Good g p'
  show Q _
  obtain ⟨d1, p1, e1, l1, g1⟩ := drw (m := 18) (by omega) (by omega) hp
  obtain ⟨d2, p2, e2, l2, g2⟩ := drw (m := 18) (by omega) (by omega) g1
  have stepT : ∀ {t : M Bool} {a b : C} {ρ : Sl} {p p1 : Pst} {q : Pst}, t ρ p = .ok true p1 → a ρ p1 = .rt (.bl true) false q → Good g q → Q (cseq (cif t a cskip) b ρ p) := fun h k gq => by
    rw [ev_cseq, ev_cif, ev_eout, h]; simp only [andS_ok, kC_ap, if_true, k, andC_rt]; exact ⟨_, rfl, gq⟩
  obtain ⟨a, ea, a2, a19⟩ : ∃ a, a = 2 + d1 ∧ 2 ≤ a ∧ a ≤ 19 := ⟨_, rfl, by omega, by omega⟩
  obtain ⟨b, eb, b2, b19⟩ : ∃ b, b = 2 + d2 ∧ 2 ≤ b ∧ b ≤ 19 := ⟨_, rfl, by omega, by omega⟩
  refine step (ρ1 := [some (.val (.pot g)), none, none, none, some (.val (dI a)), some (.val (dI b)), none, none]) (p1 := p2) ?_ ?_
  · simp [e1, e2, ea, eb]
  have a0 : 0 < a := by omega
  have b0 : 0 < b := by omega
  by_cases hg : Nat.gcd a b = 1
  · refine step_if (p1 := p2) (by simp [e__law_divisor a b (by omega), hg]) ?_
    have hab : a * b ≤ 361 := by have := Nat.mul_le_mul a19 b19; omega
    have hab4 : 4 ≤ a * b := by have := Nat.mul_le_mul a2 b2; omega
    have mw := nMul (a := a) (b := b) (.inl (by omega))
    refine step (ρ1 := [some (.val (.pot g)), some (.val (dI (a * b))), none, none, some (.val (dI a)), some (.val (dI b)), none, none]) (p1 := p2) (by simp [mw]) ?_
    obtain ⟨n, p3, e3, hn, g3⟩ := drw (m := a * b) (by omega) (by omega) g2
    refine step (ρ1 := [some (.val (.pot g)), some (.val (dI (a * b))), some (.val (dI n)), none, some (.val (dI a)), some (.val (dI b)), none, none]) (p1 := p3) (by simp [e3]) ?_
    refine step (ρ1 := [some (.val (.pot g)), some (.val (dI (a * b))), some (.val (dI n)), none, some (.val (dI a)), some (.val (dI b)), some (.val (dI (n % a))), some (.val (dI (n % b)))]) (p1 := p3) (by simp [nMod a0, nMod b0]) ?_
    have uw := e_units (a * b) (by omega) (by omega)
    have ua := e_units a a2 (by omega)
    have ub := e_units b b2 (by omega)
    have iw := nIn n (uns (a * b))
    have ia := nIn (n % a) (uns a)
    have ib := nIn (n % b) (uns b)
    have mc := mem_crt (n := n) a0 b0 hn
    have nw := nNotIn n (uns (a * b))
    have hna : n % a < a := Nat.mod_lt _ a0
    have hnb : n % b < b := Nat.mod_lt _ b0
    have rw1 := e_square_roots (a * b) n (by omega) (by omega) hn
    have ra := e_square_roots a (n % a) a2 (by omega) hna
    have rb := e_square_roots b (n % b) b2 (by omega) hnb
    have hr := rts_crt (n := n) hg a0 b0 hn
    have hu := uns_crt hg a0 b0
    have mr := nMul (a := (rts a (n % a)).length) (b := (rts b (n % b)).length) (.inl (by have := rts_len a (n % a); omega))
    have mu := nMul (a := (uns a).length) (b := (uns b).length) (.inl (by have := uns_len a; omega))
    refine step_if (p1 := p3) ?_ ?_
    · rw [mc] at iw
      cases h3 : decide (n % a ∈ uns a) <;> cases h4 : decide (n % b ∈ uns b) <;> rw [h3] at iw ia <;> rw [h4] at iw ib <;> simp [uw, ua, ub, iw, ia, ib]
    refine step_if (p1 := p3) ?_ ?_
    · simp [rw1, ra, rb, mr, hr]
    refine step_if (p1 := p3) ?_ ?_
    · simp [uw, ua, ub, mu, hu]
    by_cases hin : n ∈ uns (a * b)
    · refine step_if (p1 := p3) (by simp [uw, nw, hin]) ?_
      have hAB : decide (n % a ∈ uns a) = true ∧ decide (n % b ∈ uns b) = true := by
        rw [show decide (n ∈ uns (a * b)) = true by simpa using hin] at mc
        have := mc.symm
        rwa [Bool.and_eq_true] at this
      have na : n % a ∈ uns a := by simpa using hAB.1
      have nb : n % b ∈ uns b := by simpa using hAB.2
      have ow := e_order_of_unit (a * b) n (by omega) (by omega) hin
      have oa := e_order_of_unit a (n % a) a2 (by omega) na
      have ob := e_order_of_unit b (n % b) b2 (by omega) nb
      have oc := ord_crt hg a2 b2 (by omega) hin
      obtain ⟨pa, la⟩ := ord_ok a2 (by omega) na
      obtain ⟨pb, lb⟩ := ord_ok b2 (by omega) nb
      have l4 := (lam_ok a a2 (by omega)).l400
      have l5 := (lam_ok b b2 (by omega)).l400
      have mo := nMul (a := ord a (n % a)) (b := ord b (n % b)) (.inl (by omega))
      have g0 : 0 < Nat.gcd (ord a (n % a)) (ord b (n % b)) := Nat.gcd_pos_of_pos_right _ pb.pos
      have gl : Nat.gcd (ord a (n % a)) (ord b (n % b)) ≤ ord b (n % b) := Nat.le_of_dvd pb.pos (Nat.gcd_dvd_right _ _)
      have gd := e__law_divisor (ord a (n % a)) (ord b (n % b)) (by omega)
      have dv := nDiv (a := ord a (n % a) * ord b (n % b)) g0 (by omega)
      have i0 : dIx (.lst [dI (ord a (n % a)), dI (ord b (n % b))]) (dI 0) = some (dI (ord a (n % a))) := nIx_lst rfl
      have i1 : dIx (.lst [dI (ord a (n % a)), dI (ord b (n % b))]) (dI 1) = some (dI (ord b (n % b))) := nIx_lst rfl
      refine step (ρ1 := [some (.val (.pot g)), some (.val (dI (a * b))), some (.val (dI n)), some (.val (.lst [dI (ord a (n % a)), dI (ord b (n % b))])), some (.val (dI a)), some (.val (dI b)), some (.val (dI (n % a))), some (.val (dI (n % b)))]) (p1 := p3) (by simp [oa, ob]) ?_
      refine ⟨p3, ?_, g3⟩
      have q : ord a (n % a) * ord b (n % b) / Nat.gcd (ord a (n % a)) (ord b (n % b)) = Nat.lcm (ord a (n % a)) (ord b (n % b)) := rfl
      simp [ow, oc, i0, i1, mo, gd, dv, q]
    · exact stepT (p1 := p3) (q := p3) (by simp [uw, nw, hin]) (by simp) g3
  · exact stepT (p1 := p2) (q := p2) (by simp [e__law_divisor a b (by omega), hg]) (by simp) g2
/-! ### one value -/
theorem dueD_non (c b u : Nat) : isNon (dueD c b u) = !decide (u ∈ pows c b) := by
  unfold dueD
  by_cases h : u ∈ pows c b <;> simp [h]
theorem dueD_np (c b u : Nat) : noPot (dueD c b u) = true := by
  unfold dueD
  by_cases h : u ∈ pows c b <;> simp [h]
theorem value_turn (c b u : Nat) (h1 : 2 ≤ c) (h2 : c ≤ 400) (hb : b ∈ uns c) (hu : u ∈ uns c) (d : D) (hd : Vk d) (p : Pst) (s0 s2 s4 s7 s9 s10 s11 s12 : Option W) :
    ∃ t9 t10 t11, b__law_right_2 [s0, some (.val (dI c)), s2, some (.val (dI b)), s4, some (.val (dI u)), some (.val (dueD c b u)), s7, some (.val d), s9, s10, s11, s12] p
      = .nx [s0, some (.val (dI c)), s2, some (.val (dI b)), s4, some (.val (dI u)), some (.val (dueD c b u)), s7, some (.val d), t9, t10, t11, s12] p := by
  have r := repE hd.x
  have r2 := repE (ok_bl2 (barD c b u d))
  have e1 := e__law_is_bar c b u h1 h2 hb hu d hd
  have e2 := e_is_power_bar c b u h1 h2 hb hu d hd
  have nn := dueD_non c b u
  have np := dueD_np c b u
  refine ⟨some (.own [.bl (barD c b u d), .bl (barD c b u d)]), some (.val (.bl (barD c b u d))), some (.val (.str (rtext d))), ?_⟩
  unfold b__law_right_2
  cases hbd : barD c b u d with
  | false =>
    rw [hbd] at r2 e1 e2
    simp [e1, e2, r, capp, mscal, thaw, scal, r2]
  | true =>
    have hno := bar_no h1 hbd
    rw [hbd] at r2 e1 e2
    have nn' : isNon (dueD c b u) = true := by rw [nn]; simp [hno]
    simp [e1, e2, r, capp, mscal, thaw, scal, r2, np, nn']
theorem values_for (c b u : Nat) (h1 : 2 ≤ c) (h2 : c ≤ 400) (hb : b ∈ uns c) (hu : u ∈ uns c) (items : List D) (hi : ∀ d ∈ items, Vk d) (p : Pst) (s0 s2 s4 s7 s8 s9 s10 s11 s12 : Option W) :
    ∃ t8 t9 t10 t11, cforGo (tgName 8) b__law_right_2 items [s0, some (.val (dI c)), s2, some (.val (dI b)), s4, some (.val (dI u)), some (.val (dueD c b u)), s7, s8, s9, s10, s11, s12] p
      = .nx [s0, some (.val (dI c)), s2, some (.val (dI b)), s4, some (.val (dI u)), some (.val (dueD c b u)), s7, t8, t9, t10, t11, s12] p := by
  induction items generalizing s8 s9 s10 s11 with
  | nil => exact ⟨_, _, _, _, rfl⟩
  | cons d ds ih =>
    obtain ⟨t9, t10, t11, e⟩ := value_turn c b u h1 h2 hb hu d (hi d List.mem_cons_self) p s0 s2 s4 s7 s9 s10 s11 s12
    obtain ⟨u8, u9, u10, u11, e2⟩ := ih (fun d hd => hi d (List.mem_cons_of_mem _ hd)) (some (.val d)) t9 t10 t11
    refine ⟨u8, u9, u10, u11, ?_⟩
    simp only [cforGo, tgName, List.set_cons_succ, List.set_cons_zero, e]
    exact e2
/-! ### one unit -/
theorem idx_lt {u : Nat} : ∀ {l : List Nat}, u ∈ l → idx u l < l.length
  | [], h => by cases h
  | x :: l, h => by
    unfold idx
    by_cases z : x = u
    · simp [z]
    · have : u ∈ l := by
        rcases List.mem_cons.mp h with q | q
        · exact absurd q.symm z
        · exact q
      have := idx_lt this
      simp [z]; omega
theorem pows_len (c b : Nat) : (pows c b).length = ord c b := by simp [pows]
theorem spows_li (c b : Nat) (h1 : 2 ≤ c) (h2 : c ≤ 400) (hb : b ∈ uns c) : LI ((spows c b).map dI) := LI.nats (fun n hn => by have := pows_lt (show 0 < c by omega) (mem_spows.mp hn); omega) (by rw [spows_len]; have := (ord_ok h1 h2 hb).2; have := (lam_ok c h1 h2).l400; omega)
theorem unit_turn (c b u g : Nat) (h1 : 2 ≤ c) (h2 : c ≤ 400) (hb : b ∈ uns c) (hu : u ∈ uns c) (p : Pst) (hp : Good g p) (s2 s6 s7 s8 s9 s10 s11 s12 : Option W) :
    ∃ t6 t7 t8 t9 t10 t11 p', b__law_right_3 [some (.val (.pot g)), some (.val (dI c)), s2, some (.val (dI b)), some (.val (.lst ((pows c b).map dI))), some (.val (dI u)), s6, s7, s8, s9, s10, s11, s12] p
      = .nx [some (.val (.pot g)), some (.val (dI c)), s2, some (.val (dI b)), some (.val (.lst ((pows c b).map dI))), some (.val (dI u)), t6, t7, t8, t9, t10, t11, s12] p' ∧ Good g p' := by
  have c0 : 0 < c := by omega
  let Q : SRes → Prop := fun r => ∃ t6 t7 t8 t9 t10 t11 p', r = .nx [some (.val (.pot g)), some (.val (dI c)), s2, some (.val (dI b)), some (.val (.lst ((pows c b).map dI))), some (.val (dI u)), t6, t7, t8, t9, t10, t11, s12] p' ∧ Good g p'
  show Q _
  obtain ⟨io, il⟩ := ord_ok h1 h2 hb
  have l4 := (lam_ok c h1 h2).l400
  have hin := nIn u (pows c b)
  have SL := spows_li c b h1 h2 hb
  have nn := dueD_non c b u
  have np := dueD_np c b u
  unfold b__law_right_3
  refine step (ρ1 := [some (.val (.pot g)), some (.val (dI c)), s2, some (.val (dI b)), some (.val (.lst ((pows c b).map dI))), some (.val (dI u)), some (.val (dueD c b u)), s7, s8, s9, s10, s11, s12]) (p1 := p) ?_ ?_
  · unfold dueD
    by_cases h : u ∈ pows c b
    · simp [hin, h, dIndex_nat h]
    · simp [hin, h]
  have od : okX (.lst [dueD c b u, dueD c b u]) = true := by
    unfold dueD
    by_cases h : u ∈ pows c b
    · have := idx_lt h
      rw [pows_len] at this
      simp only [h, if_true]
      exact ok_dI2 _ (by omega)
    · simp only [h, if_false]
      exact ok_first [] (fun k hk => by cases hk)
  have o1 := repE od
  have lg := e_logarithm c b u h1 h2 hb hu
  apply step_if (p1 := p)
  · simp [lg, o1]
  refine step (ρ1 := [some (.val (.pot g)), some (.val (dI c)), s2, some (.val (dI b)), some (.val (.lst ((pows c b).map dI))), some (.val (dI u)), some (.val (dueD c b u)), some (.val (barV c b u)), s8, s9, s10, s11, s12]) (p1 := p) ?_ ?_
  · unfold barV
    by_cases h : u ∈ pows c b
    · have nn' : isNon (dueD c b u) = false := by rw [nn]; simp [h]
      simp [np, nn', h]
    · have nn' : isNon (dueD c b u) = true := by rw [nn]; simp [h]
      simp [np, nn', h, dSorted_pows]
  have bv : Vk (barV c b u) := by
    unfold barV
    by_cases h : u ∈ pows c b
    · simp only [h, if_true]
      exact vk_flat rl_non (by omega) (by omega) rfl rfl (by intro l z; cases z)
    · simp only [h, if_false]
      exact SL.vl
  have ob : okX (.lst [barV c b u, barV c b u]) = true := by
    have r : RL 130000 2 (barV c b u) := by
      unfold barV
      by_cases h : u ∈ pows c b
      · simp only [h, if_true]; exact rl_non.mono (by omega) (by omega)
      · simp only [h, if_false]; exact SL.rl
    exact okX_of ((rl_lst (n := 130000) (k := 2) (xs := [barV c b u, barV c b u]) (by intro x hx; simp at hx; subst hx; exact r)).ok (by simp) (by omega))
  have o2 := repE ob
  have pb := e_power_bar c b u h1 h2 hb hu
  apply step_if (p1 := p)
  · simp [pb, o2]
  apply step_if (p1 := p)
  · by_cases h : u ∈ pows c b
    · have nn' : isNon (dueD c b u) = false := by rw [nn]; simp [h]
      have il2 := idx_lt h
      rw [pows_len] at il2
      have e : dueD c b u = dI (idx u (pows c b)) := by unfold dueD; simp only [h, if_true]
      have pw := e_power_of c b (idx u (pows c b)) h1 h2 (uns_lt hb) (by omega)
      have ep : b ^ idx u (pows c b) % c = u := by
        have := idx_get (f := id) h
        rw [List.map_id] at this
        unfold pows at this
        rw [List.getElem?_map] at this
        have hr : (List.range (ord c b))[idx u (pows c b)]? = some (idx u (pows c b)) := by rw [List.getElem?_range il2]
        unfold pows at hr
        rw [hr] at this
        simpa [pows] using this
      rw [e] at nn' np ⊢
      simp [pw, ep]
    · have nn' : isNon (dueD c b u) = true := by rw [nn]; simp [h]
      simp [np, nn']
  -- the values
  have hi7 : mRange1 (mcons (mret (dI 8)) (mret [])) [some (.val (.pot g)), some (.val (dI c)), s2, some (.val (dI b)), some (.val (.lst ((pows c b).map dI))), some (.val (dI u)), some (.val (dueD c b u)), some (.val (barV c b u)), s8, s9, s10, s11, s12] p = .ok ((List.range 8).map dI) p := by
    have r10 := nRange1 (n := 8) (by omega)
    rw [rgL_dI] at r10
    simp [r10]
  obtain ⟨bs, p7, e7, g7, rs⟩ := mLc_draw (vs := [12]) (f := fName 12) (el := mFn F__law_bent 3 0 [0, 1, 2] (mcons (rd 0) (mcons (rd 1) (mcons (mfrz (mLst dSorted (mcons (rd 4) (mret [])))) (mret [])))) (mret [])) hi7 (Good g) (fun _ y => Vk y) hp (by
    intro d hd q gq
    obtain ⟨dv, fr, q', e, v, gq'⟩ := e__law_bent c g (spows c b) h1 h2 (fun n hn => by have := pows_lt c0 (mem_spows.mp hn); omega) (by rw [spows_len]; omega) (fun z => by
      have l0 := spows_len c b
      rw [z, List.length_nil] at l0
      have := io.pos
      omega) q gq
    exact ⟨_, rfl, dv, q', by simp [wipeS, dSorted_pows, e], gq', v⟩)
  have e7' : m__law_right_1 _ _ = _ := e7
  have bl : bs.length = 8 := by have := rs.1; simpa using this.symm
  have bvs : ∀ d ∈ bs, Vk d := by
    intro d hd
    obtain ⟨i, hi, rfl⟩ := List.getElem_of_mem hd
    have hi2 : i < ((List.range 8).map dI).length := by rw [rs.1]; exact hi
    exact rs.2 i _ _ (List.getElem?_eq_getElem hi2) (List.getElem?_eq_getElem hi)
  have cat := cat_ok (xs := [barV c b u, .non, .lst ((spows c b).map dI)]) (ys := bs) (by simp [bl])
  obtain ⟨t8, t9, t10, t11, e8⟩ := values_for c b u h1 h2 hb hu ([barV c b u, .non, .lst ((spows c b).map dI)] ++ bs) (by
    intro d hd
    rcases List.mem_append.mp hd with q | q
    · simp only [List.mem_cons, List.not_mem_nil, or_false] at q
      rcases q with rfl | rfl | rfl
      · exact bv
      · exact vk_flat rl_non (by omega) (by omega) rfl rfl (by intro l z; cases z)
      · exact SL.vl
    · exact bvs d q) p7 (some (.val (.pot g))) s2 (some (.val (.lst ((pows c b).map dI)))) (some (.val (barV c b u))) s8 s9 s10 s11 s12
  refine step (ρ1 := [some (.val (.pot g)), some (.val (dI c)), s2, some (.val (dI b)), some (.val (.lst ((pows c b).map dI))), some (.val (dI u)), some (.val (dueD c b u)), some (.val (barV c b u)), t8, t9, t10, t11, s12]) (p1 := p7) ?_ ?_
  · simp only [List.cons_append, List.nil_append] at e8
    simp [cfor, dSorted_pows, e7', cat, e8]
  refine ⟨some (.val (dueD c b u)), some (.val (barV c b u)), t8, t9, t10, t11, p7, ?_, g7⟩
  by_cases h : u ∈ pows c b
  · have eb : barV c b u = .non := by unfold barV; simp only [h, if_true]
    rw [eb]
    simp
  · have eb : barV c b u = .lst ((spows c b).map dI) := by unfold barV; simp only [h, if_false]
    have nq := nNeL (spows c b) (spows c b)
    have hl : (spows c b).length < 16000000 := by rw [spows_len]; omega
    rw [eb] at pb
    have pb' : ∀ q, F_power_bar [dI c, dI b, dI u] q = .ok (.lst ((spows c b).map dI)) true q := fun q => by rw [pb q]; simp [h]
    rw [eb]
    simp [cdropapp, pb', hl, nq]
end PF

namespace PF
open PySem PySem.Spec PyProof.Rows L2
theorem pows_uns {c b n : Nat} (h1 : 2 ≤ c) (hb : b ∈ uns c) (h : n ∈ pows c b) : n ∈ uns c := by
  obtain ⟨k, _, rfl⟩ := List.mem_map.mp h
  refine mem_uns.mpr ⟨Nat.mod_lt _ (by omega), ?_⟩
  have hg : Nat.gcd b c = 1 := (mem_uns.mp hb).2
  have hp : Nat.gcd (b ^ k) c = 1 := Nat.Coprime.pow_left k hg
  rw [← Nat.gcd_rec c (b ^ k), Nat.gcd_comm]
  exact hp
theorem units_for (c b g : Nat) (h1 : 2 ≤ c) (h2 : c ≤ 400) (hb : b ∈ uns c) (items : List D) (hi : ∀ d ∈ items, ∃ u, u ∈ uns c ∧ d = dI u) (p : Pst) (hp : Good g p) (s2 s5 s6 s7 s8 s9 s10 s11 s12 : Option W) :
    ∃ t5 t6 t7 t8 t9 t10 t11 p', cforGo (tgName 5) b__law_right_3 items [some (.val (.pot g)), some (.val (dI c)), s2, some (.val (dI b)), some (.val (.lst ((pows c b).map dI))), s5, s6, s7, s8, s9, s10, s11, s12] p
      = .nx [some (.val (.pot g)), some (.val (dI c)), s2, some (.val (dI b)), some (.val (.lst ((pows c b).map dI))), t5, t6, t7, t8, t9, t10, t11, s12] p' ∧ Good g p' := by
  induction items generalizing p s5 s6 s7 s8 s9 s10 s11 with
  | nil => exact ⟨_, _, _, _, _, _, _, p, rfl, hp⟩
  | cons d ds ih =>
    obtain ⟨u, hu, rfl⟩ := hi d List.mem_cons_self
    obtain ⟨t6, t7, t8, t9, t10, t11, p1, e, g1⟩ := unit_turn c b u g h1 h2 hb hu p hp s2 s6 s7 s8 s9 s10 s11 s12
    obtain ⟨u5, u6, u7, u8, u9, u10, u11, p2, e2, g2⟩ := ih (fun d hd => hi d (List.mem_cons_of_mem _ hd)) p1 g1 (some (.val (dI u))) t6 t7 t8 t9 t10 t11
    refine ⟨u5, u6, u7, u8, u9, u10, u11, p2, ?_, g2⟩
    simp only [cforGo, tgName, List.set_cons_succ, List.set_cons_zero, e]
    exact e2
theorem e__law_right (g : Nat) (p : Pst) (hp : Good g p) : ∃ p', F__law_right [.pot g] p = .ok (.bl true) false p' ∧ Good g p' := by
  rw [en__law_right, c__law_right]
  let Q : SRes → Prop := fun r => ∃ p', sres r = .ok (.bl true) false p' ∧ Good g p'
  show Q _
  obtain ⟨c2, p2, e2, a2, b2, g2⟩ := e__law_clock (m := 400) (by omega) (by omega) hp
  obtain ⟨c3, p3, e3, a3, b3, g3⟩ := e__law_clock (m := 60) (by omega) (by omega) g2
  obtain ⟨d4, p4, e4, m4, g4⟩ := pck (xs := [dI c2, dI c3, dI 15, dI 97]) (by simp) (by simp) g3
  obtain ⟨c, rfl, h1, h2⟩ : ∃ c, d4 = dI c ∧ 2 ≤ c ∧ c ≤ 400 := by
    simp only [List.mem_cons, List.not_mem_nil, or_false] at m4
    rcases m4 with rfl | rfl | rfl | rfl
    · exact ⟨_, rfl, a2, b2⟩
    · exact ⟨_, rfl, a3, b3⟩
    · exact ⟨_, rfl, by omega, by omega⟩
    · exact ⟨_, rfl, by omega, by omega⟩
  have c0 : 0 < c := by omega
  have L := lam_ok c h1 h2
  apply step
  · simp [e2, e3, e4]; exact ⟨rfl, rfl⟩
  apply step
  · simp [e__law_units c h1 h2]; exact ⟨rfl, rfl⟩
  have uc := uns_len c
  have une : (uns c).map dI ≠ [] := by
    intro z
    have : uns c = [] := by simpa using z
    have g := L.gun
    rw [this] at g; cases g
  have unl : ((uns c).map dI).length < 1073741824 := by rw [List.length_map]; omega
  obtain ⟨db, p5, e5, m5, g5⟩ := pck (xs := (uns c).map dI) une unl g4
  obtain ⟨b, hb, rfl⟩ := List.mem_map.mp m5
  apply step
  · simp [e5]; exact ⟨rfl, rfl⟩
  apply step
  · simp [e__law_all_powers c b h1 h2 hb]; exact ⟨rfl, rfl⟩
  obtain ⟨io, il⟩ := ord_ok h1 h2 hb
  have l4 := L.l400
  have pne : (pows c b).map dI ≠ [] := by
    intro z
    have : pows c b = [] := by simpa using z
    have l := pows_len c b
    rw [this, List.length_nil] at l
    have := io.pos
    omega
  obtain ⟨x1, p6, e6, m6, g6⟩ := pck (xs := (uns c).map dI) une unl g5
  obtain ⟨x2, p7, e7, m7, g7⟩ := pck (xs := (pows c b).map dI) pne (by rw [List.length_map, pows_len]; omega) g6
  obtain ⟨x3, p8, e8, m8, g8⟩ := pck (xs := (uns c).map dI) une unl g7
  obtain ⟨t5, t6, t7, t8, t9, t10, t11, p9, e9, g9⟩ := units_for c b g h1 h2 hb [x1, x2, x3] (by
    intro d hd
    simp only [List.mem_cons, List.not_mem_nil, or_false] at hd
    rcases hd with rfl | rfl | rfl
    · obtain ⟨u, hu, e⟩ := List.mem_map.mp m6; exact ⟨u, hu, e.symm⟩
    · obtain ⟨u, hu, e⟩ := List.mem_map.mp m7; exact ⟨u, pows_uns h1 hb hu, e.symm⟩
    · obtain ⟨u, hu, e⟩ := List.mem_map.mp m8; exact ⟨u, hu, e.symm⟩) p8 g8 (some (.val (.lst ((uns c).map dI)))) none none none none none none none none
  apply step
  · simp [cfor, e6, e7, e8, e9]; exact ⟨rfl, rfl⟩
  obtain ⟨p10, e10, g10⟩ := e__law_parts_right g p9 g9
  exact ⟨p10, by simp [e10], g10⟩
theorem law_ok (ns : List Int) (hl : ns.length ≤ 63) : ∃ p', F_law [.scr ns] ⟨0, 0, 0⟩ = .ok (.bl true) false p' := by
  rw [en_law, c_law]
  have hi : mRange1 (mcons (mCall dMax2 (mcons (mret (dI 1)) (mcons (mCall dMin2 (mcons (mret (dI 3)) (mcons (mCall dLen (mcons (rd 0) (mret []))) (mret [])))) (mret [])))) (mret [])) [some (.val (.scr ns)), none, none] ⟨0, 0, 0⟩ = .ok ((List.range (max 1 (min 3 ns.length))).map dI) ⟨0, 0, 0⟩ := by
    have e : mcons (mCall dMax2 (mcons (mret (dI 1)) (mcons (mCall dMin2 (mcons (mret (dI 3)) (mcons (mCall dLen (mcons (rd 0) (mret []))) (mret [])))) (mret [])))) (mret []) [some (.val (.scr ns)), none, none] ⟨0, 0, 0⟩ = .ok [dI (max 1 (min 3 ns.length))] ⟨0, 0, 0⟩ := by simp [nMin2, nMax2]
    rw [ev_mRange1, ev_mbind, e, andThen_ok, kM_ap, nRange1 (by omega), ev_mopt_some, rgL_dI]
  have turns : ∀ (ks : List Nat) (p : Pst) (t1 t2 : Option W), ∃ u1 u2 p', cforGo (tgName 1) b_law_1 (ks.map dI) [some (.val (.scr ns)), t1, t2] p = .nx [some (.val (.scr ns)), u1, u2] p' := by
    intro ks
    induction ks with
    | nil => exact fun p t1 t2 => ⟨_, _, p, rfl⟩
    | cons k ks ih =>
      intro p t1 t2
      obtain ⟨g, p1, e1, g1⟩ := pot_ok (A := 2689) (B := 2190) (U := 44351) (V := 1255) (W := 23424) (M1 := 2147483549) (M2 := 2147483579) (Z := 1) (by decide) (by decide) (by decide) (by decide) (by decide) (by decide) (by decide) (ns := ns) (k := k) (p := p)
      have e1' : F__law_pot [.scr ns, dI k] p = .ok (.pot g) false p1 := e1
      obtain ⟨p2, e2, g2⟩ := e__law_right g p1 g1
      obtain ⟨p3, e3, g3⟩ := e__law_parts_right g p2 g2
      obtain ⟨u1, u2, p4, e4⟩ := ih p3 (some (.val (dI k))) (some (.val (.pot g)))
      refine ⟨u1, u2, p4, ?_⟩
      have eb : b_law_1 [some (.val (.scr ns)), some (.val (dI k)), t2] p = .nx [some (.val (.scr ns)), some (.val (dI k)), some (.val (.pot g))] p3 := by
        simp [b_law_1, e1', e2, e3]
      rw [List.map_cons]
      simp only [cforGo, tgName, List.set_cons_succ, List.set_cons_zero, eb]
      exact e4
  obtain ⟨u1, u2, p', e⟩ := turns (List.range (max 1 (min 3 ns.length))) ⟨0, 0, 0⟩ none none
  refine ⟨p', ?_⟩
  rw [ev_cseq]
  have ef : cfor (mRange1 (mcons (mCall dMax2 (mcons (mret (dI 1)) (mcons (mCall dMin2 (mcons (mret (dI 3)) (mcons (mCall dLen (mcons (rd 0) (mret []))) (mret [])))) (mret [])))) (mret []))) (tgName 1) b_law_1 [some (.val (.scr ns)), none, none] ⟨0, 0, 0⟩ = .nx [some (.val (.scr ns)), u1, u2] p' := by
    unfold cfor
    rw [ev_eout, hi]
    exact e
  rw [ef]
  simp
end PF

namespace PF
open PySem PySem.Spec PyProof.Rows L2
theorem b_is_integer {P : Program} {w : World} {K : PySem.W.Frag} {mg : Str → Option Value} {base : Heap} (m_bool : mg "bool" = none) (m_int : mg "int" = none) (m_isinstance : mg "isinstance" = none) : BodyOk P w K mg base 0 "is_integer" (defBody HeadT.s_is_integer) (defScope HeadT.s_is_integer) N_is_integer c_is_integer := by
  intro f cdv A outer s H E En hr hgd
  have nd : N_is_integer.Nodup := by decide +kernel
  have tk : Takes (cxOf (L2.CX P w) P w K mg base N_is_integer "is_integer" (defScope HeadT.s_is_integer) f cdv A outer s H E) (EX E) := takes_of rfl rfl rfl rfl
  have hp : PassesOwn (model P w) (cxOf (L2.CX P w) P w K mg base N_is_integer "is_integer" (defScope HeadT.s_is_integer) f cdv A outer s H E).A (cxOf (L2.CX P w) P w K mg base N_is_integer "is_integer" (defScope HeadT.s_is_integer) f cdv A outer s H E).env (cxOf (L2.CX P w) P w K mg base N_is_integer "is_integer" (defScope HeadT.s_is_integer) f cdv A outer s H E).xe := passes_of rfl
  delta c_is_integer
  exact (cs_one (cs_ret (pm_and (pm_isi .int (by rfl) m_isinstance (pm_of (pv 0)) (by rfl) m_int ty_int) (pm_one (pm_not (pm_isi .bool (by rfl) m_isinstance (pm_of (pv 0)) (by rfl) m_bool ty_bool))))))
theorem sc_is_integer : FnScope N_is_integer ps_is_integer (defScope HeadT.s_is_integer) := ⟨rfl, rfl, rfl, by decide +kernel, rfl, by decide +kernel, by decide +kernel⟩
theorem b_is_within {P : Program} {w : World} {K : PySem.W.Frag} {mg : Str → Option Value} {base : Heap} (h_is_integer : FnX P w K mg base "is_integer" (defArgs HeadT.s_is_integer) 1 ps_is_integer F_is_integer) : BodyOk P w K mg base 1 "is_within" (defBody HeadT.s_is_within) (defScope HeadT.s_is_within) N_is_within c_is_within := by
  intro f cdv A outer s H E En hr hgd
  have nd : N_is_within.Nodup := by decide +kernel
  have tk : Takes (cxOf (L2.CX P w) P w K mg base N_is_within "is_within" (defScope HeadT.s_is_within) f cdv A outer s H E) (EX E) := takes_of rfl rfl rfl rfl
  have hp : PassesOwn (model P w) (cxOf (L2.CX P w) P w K mg base N_is_within "is_within" (defScope HeadT.s_is_within) f cdv A outer s H E).A (cxOf (L2.CX P w) P w K mg base N_is_within "is_within" (defScope HeadT.s_is_within) f cdv A outer s H E).env (cxOf (L2.CX P w) P w K mg base N_is_within "is_within" (defScope HeadT.s_is_within) f cdv A outer s H E).xe := passes_of rfl
  delta c_is_within
  exact (cs_one (cs_ret (pm_and (pm_fn1 h_is_integer (hr.mono (by decide)) hgd tk (fun _ _ _ _ _ _ _ _ us ws h1 h2 => match us, ws, h1, h2 with | [_], [], _, _ => rfl) (by rfl) (pma_cons (pm_of (pv 0)) pma_nil)) (pm_one (pm_chain (f := iLe) (g := iLe) op_le op_le (pm_of (pv 1)) (pm_of (pv 0)) (pm_of (pv 2)))))))
theorem sc_is_within : FnScope N_is_within ps_is_within (defScope HeadT.s_is_within) := ⟨rfl, rfl, rfl, by decide +kernel, rfl, by decide +kernel, by decide +kernel⟩
theorem b_is_list {P : Program} {w : World} {K : PySem.W.Frag} {mg : Str → Option Value} {base : Heap} (m_isinstance : mg "isinstance" = none) (m_list : mg "list" = none) (m_tuple : mg "tuple" = none) : BodyOk P w K mg base 0 "is_list" (defBody HeadT.s_is_list) (defScope HeadT.s_is_list) N_is_list c_is_list := by
  intro f cdv A outer s H E En hr hgd
  have nd : N_is_list.Nodup := by decide +kernel
  have tk : Takes (cxOf (L2.CX P w) P w K mg base N_is_list "is_list" (defScope HeadT.s_is_list) f cdv A outer s H E) (EX E) := takes_of rfl rfl rfl rfl
  have hp : PassesOwn (model P w) (cxOf (L2.CX P w) P w K mg base N_is_list "is_list" (defScope HeadT.s_is_list) f cdv A outer s H E).A (cxOf (L2.CX P w) P w K mg base N_is_list "is_list" (defScope HeadT.s_is_list) f cdv A outer s H E).env (cxOf (L2.CX P w) P w K mg base N_is_list "is_list" (defScope HeadT.s_is_list) f cdv A outer s H E).xe := passes_of rfl
  delta c_is_list
  exact (cs_one (cs_ret (pm_isi2 .list .tuple (by rfl) m_isinstance (pm_of (pv 0)) (by rfl) m_list ty_list (by rfl) m_tuple ty_tuple)))
theorem sc_is_list : FnScope N_is_list ps_is_list (defScope HeadT.s_is_list) := ⟨rfl, rfl, rfl, by decide +kernel, rfl, by decide +kernel, by decide +kernel⟩
theorem b_divisor {P : Program} {w : World} {K : PySem.W.Frag} {mg : Str → Option Value} {base : Heap} (m_int : mg "int" = none) : BodyOk P w K mg base 0 "divisor" (defBody HeadT.s_divisor) (defScope HeadT.s_divisor) N_divisor c_divisor := by
  intro f cdv A outer s H E En hr hgd
  have nd : N_divisor.Nodup := by decide +kernel
  have tk : Takes (cxOf (L2.CX P w) P w K mg base N_divisor "divisor" (defScope HeadT.s_divisor) f cdv A outer s H E) (EX E) := takes_of rfl rfl rfl rfl
  have hp : PassesOwn (model P w) (cxOf (L2.CX P w) P w K mg base N_divisor "divisor" (defScope HeadT.s_divisor) f cdv A outer s H E).A (cxOf (L2.CX P w) P w K mg base N_divisor "divisor" (defScope HeadT.s_divisor) f cdv A outer s H E).env (cxOf (L2.CX P w) P w K mg base N_divisor "divisor" (defScope HeadT.s_divisor) f cdv A outer s H E).xe := passes_of rfl
  delta c_divisor
  try delta t_divisor_2
  try delta b_divisor_1
  exact (cs_cons (cs_while FUEL hp (pmt_gt (pm_of (pv 1)) (pm_nat (k := 0))) (cs_one (cs_par (ps_par (i := 0) (j := 1) rfl nd rfl rfl (by decide) rfl rfl (PMu.pa (pmu_val (pm_of (pv 1)) (pmu_val (pm_mod (b_int m_int (pma_cons (pm_of (pv 0)) pma_nil)) (pm_of (pv 1))) pmu_nil))) rfl)))) (cs_one (cs_ret (pm_of (pv 0)))))
theorem sc_divisor : FnScope N_divisor ps_divisor (defScope HeadT.s_divisor) := ⟨rfl, rfl, rfl, by decide +kernel, rfl, by decide +kernel, by decide +kernel⟩
theorem b_check_multiplier {P : Program} {w : World} {K : PySem.W.Frag} {mg : Str → Option Value} {base : Heap} (m_MOST_CLOCK : ∃ t, mg "MOST_CLOCK" = some (.int 400 t)) (h_is_within : FnX P w K mg base "is_within" (defArgs HeadT.s_is_within) 2 ps_is_within F_is_within) : BodyOk P w K mg base 2 "check_multiplier" (defBody HeadT.s_check_multiplier) (defScope HeadT.s_check_multiplier) N_check_multiplier c_check_multiplier := by
  intro f cdv A outer s H E En hr hgd
  have nd : N_check_multiplier.Nodup := by decide +kernel
  have tk : Takes (cxOf (L2.CX P w) P w K mg base N_check_multiplier "check_multiplier" (defScope HeadT.s_check_multiplier) f cdv A outer s H E) (EX E) := takes_of rfl rfl rfl rfl
  have hp : PassesOwn (model P w) (cxOf (L2.CX P w) P w K mg base N_check_multiplier "check_multiplier" (defScope HeadT.s_check_multiplier) f cdv A outer s H E).A (cxOf (L2.CX P w) P w K mg base N_check_multiplier "check_multiplier" (defScope HeadT.s_check_multiplier) f cdv A outer s H E).env (cxOf (L2.CX P w) P w K mg base N_check_multiplier "check_multiplier" (defScope HeadT.s_check_multiplier) f cdv A outer s H E).xe := passes_of rfl
  delta c_check_multiplier
  exact (cs_one (cs_if (pmt_not (pmt_val (pm_fn1 h_is_within (hr.mono (by decide)) hgd tk (fun _ _ _ _ _ _ _ _ us ws h1 h2 => match us, ws, h1, h2 with | [_, _, _], [], _, _ => rfl) (by rfl) (pma_cons (pm_of (pv 0)) (pma_cons (pm_nat (k := 2)) (pma_cons (pm_gnat (k := 400) (by rfl) m_MOST_CLOCK) pma_nil)))))) (cs_one cs_never) cs_nil))
theorem sc_check_multiplier : FnScope N_check_multiplier ps_check_multiplier (defScope HeadT.s_check_multiplier) := ⟨rfl, rfl, rfl, by decide +kernel, rfl, by decide +kernel, by decide +kernel⟩
theorem b_check_remainder {P : Program} {w : World} {K : PySem.W.Frag} {mg : Str → Option Value} {base : Heap} (h_check_multiplier : FnX P w K mg base "check_multiplier" (defArgs HeadT.s_check_multiplier) 3 ps_check_multiplier F_check_multiplier) (h_is_within : FnX P w K mg base "is_within" (defArgs HeadT.s_is_within) 2 ps_is_within F_is_within) : BodyOk P w K mg base 3 "check_remainder" (defBody HeadT.s_check_remainder) (defScope HeadT.s_check_remainder) N_check_remainder c_check_remainder := by
  intro f cdv A outer s H E En hr hgd
  have nd : N_check_remainder.Nodup := by decide +kernel
  have tk : Takes (cxOf (L2.CX P w) P w K mg base N_check_remainder "check_remainder" (defScope HeadT.s_check_remainder) f cdv A outer s H E) (EX E) := takes_of rfl rfl rfl rfl
  have hp : PassesOwn (model P w) (cxOf (L2.CX P w) P w K mg base N_check_remainder "check_remainder" (defScope HeadT.s_check_remainder) f cdv A outer s H E).A (cxOf (L2.CX P w) P w K mg base N_check_remainder "check_remainder" (defScope HeadT.s_check_remainder) f cdv A outer s H E).env (cxOf (L2.CX P w) P w K mg base N_check_remainder "check_remainder" (defScope HeadT.s_check_remainder) f cdv A outer s H E).xe := passes_of rfl
  delta c_check_remainder
  exact (cs_cons (cs_expr (pm_fn1 h_check_multiplier (hr.mono (by decide)) hgd tk (fun _ _ _ _ _ _ _ _ us ws h1 h2 => match us, ws, h1, h2 with | [_], [], _, _ => rfl) (by rfl) (pma_cons (pm_of (pv 0)) pma_nil))) (cs_one (cs_if (pmt_not (pmt_val (pm_fn1 h_is_within (hr.mono (by decide)) hgd tk (fun _ _ _ _ _ _ _ _ us ws h1 h2 => match us, ws, h1, h2 with | [_, _, _], [], _, _ => rfl) (by rfl) (pma_cons (pm_of (pv 1)) (pma_cons (pm_nat (k := 0)) (pma_cons (pm_sub (pm_of (pv 0)) (pm_nat (k := 1))) pma_nil)))))) (cs_one cs_never) cs_nil)))
theorem sc_check_remainder : FnScope N_check_remainder ps_check_remainder (defScope HeadT.s_check_remainder) := ⟨rfl, rfl, rfl, by decide +kernel, rfl, by decide +kernel, by decide +kernel⟩
theorem b_is_unit_of {P : Program} {w : World} {K : PySem.W.Frag} {mg : Str → Option Value} {base : Heap} (h_divisor : FnX P w K mg base "divisor" (defArgs HeadT.s_divisor) 1 ps_divisor F_divisor) (h_is_within : FnX P w K mg base "is_within" (defArgs HeadT.s_is_within) 2 ps_is_within F_is_within) : BodyOk P w K mg base 2 "is_unit_of" (defBody HeadT.s_is_unit_of) (defScope HeadT.s_is_unit_of) N_is_unit_of c_is_unit_of := by
  intro f cdv A outer s H E En hr hgd
  have nd : N_is_unit_of.Nodup := by decide +kernel
  have tk : Takes (cxOf (L2.CX P w) P w K mg base N_is_unit_of "is_unit_of" (defScope HeadT.s_is_unit_of) f cdv A outer s H E) (EX E) := takes_of rfl rfl rfl rfl
  have hp : PassesOwn (model P w) (cxOf (L2.CX P w) P w K mg base N_is_unit_of "is_unit_of" (defScope HeadT.s_is_unit_of) f cdv A outer s H E).A (cxOf (L2.CX P w) P w K mg base N_is_unit_of "is_unit_of" (defScope HeadT.s_is_unit_of) f cdv A outer s H E).env (cxOf (L2.CX P w) P w K mg base N_is_unit_of "is_unit_of" (defScope HeadT.s_is_unit_of) f cdv A outer s H E).xe := passes_of rfl
  delta c_is_unit_of
  exact (cs_one (cs_ret (pm_and (pm_fn1 h_is_within (hr.mono (by decide)) hgd tk (fun _ _ _ _ _ _ _ _ us ws h1 h2 => match us, ws, h1, h2 with | [_, _, _], [], _, _ => rfl) (by rfl) (pma_cons (pm_of (pv 1)) (pma_cons (pm_nat (k := 0)) (pma_cons (pm_sub (pm_of (pv 0)) (pm_nat (k := 1))) pma_nil)))) (pm_one (pm_eq (un_of hr) (pm_fn1 h_divisor (hr.mono (by decide)) hgd tk (fun _ _ _ _ _ _ _ _ us ws h1 h2 => match us, ws, h1, h2 with | [_, _], [], _, _ => rfl) (by rfl) (pma_cons (pm_of (pv 1)) (pma_cons (pm_of (pv 0)) pma_nil))) (pm_nat (k := 1)))))))
theorem sc_is_unit_of : FnScope N_is_unit_of ps_is_unit_of (defScope HeadT.s_is_unit_of) := ⟨rfl, rfl, rfl, by decide +kernel, rfl, by decide +kernel, by decide +kernel⟩
theorem b_check_unit {P : Program} {w : World} {K : PySem.W.Frag} {mg : Str → Option Value} {base : Heap} (h_check_multiplier : FnX P w K mg base "check_multiplier" (defArgs HeadT.s_check_multiplier) 3 ps_check_multiplier F_check_multiplier) (h_is_unit_of : FnX P w K mg base "is_unit_of" (defArgs HeadT.s_is_unit_of) 3 ps_is_unit_of F_is_unit_of) : BodyOk P w K mg base 3 "check_unit" (defBody HeadT.s_check_unit) (defScope HeadT.s_check_unit) N_check_unit c_check_unit := by
  intro f cdv A outer s H E En hr hgd
  have nd : N_check_unit.Nodup := by decide +kernel
  have tk : Takes (cxOf (L2.CX P w) P w K mg base N_check_unit "check_unit" (defScope HeadT.s_check_unit) f cdv A outer s H E) (EX E) := takes_of rfl rfl rfl rfl
  have hp : PassesOwn (model P w) (cxOf (L2.CX P w) P w K mg base N_check_unit "check_unit" (defScope HeadT.s_check_unit) f cdv A outer s H E).A (cxOf (L2.CX P w) P w K mg base N_check_unit "check_unit" (defScope HeadT.s_check_unit) f cdv A outer s H E).env (cxOf (L2.CX P w) P w K mg base N_check_unit "check_unit" (defScope HeadT.s_check_unit) f cdv A outer s H E).xe := passes_of rfl
  delta c_check_unit
  exact (cs_cons (cs_expr (pm_fn1 h_check_multiplier (hr.mono (by decide)) hgd tk (fun _ _ _ _ _ _ _ _ us ws h1 h2 => match us, ws, h1, h2 with | [_], [], _, _ => rfl) (by rfl) (pma_cons (pm_of (pv 0)) pma_nil))) (cs_one (cs_if (pmt_not (pmt_val (pm_fn1 h_is_unit_of (hr.mono (by decide)) hgd tk (fun _ _ _ _ _ _ _ _ us ws h1 h2 => match us, ws, h1, h2 with | [_, _], [], _, _ => rfl) (by rfl) (pma_cons (pm_of (pv 0)) (pma_cons (pm_of (pv 1)) pma_nil))))) (cs_one cs_never) cs_nil)))
theorem sc_check_unit : FnScope N_check_unit ps_check_unit (defScope HeadT.s_check_unit) := ⟨rfl, rfl, rfl, by decide +kernel, rfl, by decide +kernel, by decide +kernel⟩
theorem b_units_of {P : Program} {w : World} {K : PySem.W.Frag} {mg : Str → Option Value} {base : Heap} (h_divisor : FnX P w K mg base "divisor" (defArgs HeadT.s_divisor) 1 ps_divisor F_divisor) (m_range : mg "range" = none) : BodyOk P w K mg base 1 "units_of" (defBody HeadT.s_units_of) (defScope HeadT.s_units_of) N_units_of c_units_of := by
  intro f cdv A outer s H E En hr hgd
  have nd : N_units_of.Nodup := by decide +kernel
  have tk : Takes (cxOf (L2.CX P w) P w K mg base N_units_of "units_of" (defScope HeadT.s_units_of) f cdv A outer s H E) (EX E) := takes_of rfl rfl rfl rfl
  have hp : PassesOwn (model P w) (cxOf (L2.CX P w) P w K mg base N_units_of "units_of" (defScope HeadT.s_units_of) f cdv A outer s H E).A (cxOf (L2.CX P w) P w K mg base N_units_of "units_of" (defScope HeadT.s_units_of) f cdv A outer s H E).env (cxOf (L2.CX P w) P w K mg base N_units_of "units_of" (defScope HeadT.s_units_of) f cdv A outer s H E).xe := passes_of rfl
  delta c_units_of
  try delta m_units_of_1
  exact (cs_one (cs_reto (pmo_lc (own := [("one", 1)]) rfl nd (pmi_range1 (by rfl) m_range (pma_cons (pm_of (pv 0)) pma_nil)) (blkOk_by (by kernel_rfl)) (fun _ _ _ _ _ => (pg_name (i := 1) nd rfl (by first | exact Or.inl rfl | exact Or.inr rfl))) gok_name (fun _ _ _ _ _ => (pmts_one (pmt_eq (un_of hr) (pm_fn1 h_divisor (hr.mono (by decide)) hgd takes_w0 (fun _ _ _ _ _ _ _ _ us ws h1 h2 => match us, ws, h1, h2 with | [_, _], [], _, _ => rfl) (by rfl) (pma_cons (pm_of (pv 1)) (pma_cons (pm_of (pv 0)) pma_nil))) (pm_nat (k := 1))))) (fun _ _ _ _ _ => (pm_of (pv 1))))))
theorem sc_units_of : FnScope N_units_of ps_units_of (defScope HeadT.s_units_of) := ⟨rfl, rfl, rfl, by decide +kernel, rfl, by decide +kernel, by decide +kernel⟩
theorem b_power_by {P : Program} {w : World} {K : PySem.W.Frag} {mg : Str → Option Value} {base : Heap} : BodyOk P w K mg base 0 "power_by" (defBody HeadT.s_power_by) (defScope HeadT.s_power_by) N_power_by c_power_by := by
  intro f cdv A outer s H E En hr hgd
  have nd : N_power_by.Nodup := by decide +kernel
  have tk : Takes (cxOf (L2.CX P w) P w K mg base N_power_by "power_by" (defScope HeadT.s_power_by) f cdv A outer s H E) (EX E) := takes_of rfl rfl rfl rfl
  have hp : PassesOwn (model P w) (cxOf (L2.CX P w) P w K mg base N_power_by "power_by" (defScope HeadT.s_power_by) f cdv A outer s H E).A (cxOf (L2.CX P w) P w K mg base N_power_by "power_by" (defScope HeadT.s_power_by) f cdv A outer s H E).env (cxOf (L2.CX P w) P w K mg base N_power_by "power_by" (defScope HeadT.s_power_by) f cdv A outer s H E).xe := passes_of rfl
  delta c_power_by
  try delta t_power_by_2
  try delta b_power_by_1
  exact (cs_cons (cs_par3 (ps_par3 (i := 3) (j := 4) (l := 5) rfl nd rfl rfl rfl (by decide) (by decide) (by decide) rfl rfl rfl (PMu.pa (pmu_val (pm_mod (pm_nat (k := 1)) (pm_of (pv 0))) (pmu_val (pm_mod (pm_of (pv 1)) (pm_of (pv 0))) (pmu_val (pm_of (pv 2)) pmu_nil)))) rfl)) (cs_cons (cs_while FUEL hp (pmt_gt (pm_of (pv 5)) (pm_nat (k := 0))) (cs_cons (cs_if (pmt_eq (un_of hr) (pm_mod (pm_of (pv 5)) (pm_nat (k := 2))) (pm_nat (k := 1))) (cs_one (cs_set (i := 3) nd rfl (by first | exact Or.inl rfl | exact Or.inr rfl) (pm_mod (pm_mul (pm_of (pv 3)) (pm_of (pv 4))) (pm_of (pv 0))))) cs_nil) (cs_one (cs_par (ps_par (i := 4) (j := 5) rfl nd rfl rfl (by decide) rfl rfl (PMu.pa (pmu_val (pm_mod (pm_mul (pm_of (pv 4)) (pm_of (pv 4))) (pm_of (pv 0))) (pmu_val (pm_div (pm_of (pv 5)) (pm_nat (k := 2))) pmu_nil))) rfl))))) (cs_one (cs_ret (pm_of (pv 3))))))
theorem sc_power_by : FnScope N_power_by ps_power_by (defScope HeadT.s_power_by) := ⟨rfl, rfl, rfl, by decide +kernel, rfl, by decide +kernel, by decide +kernel⟩
theorem b_order_by_steps {P : Program} {w : World} {K : PySem.W.Frag} {mg : Str → Option Value} {base : Heap} : BodyOk P w K mg base 0 "order_by_steps" (defBody HeadT.s_order_by_steps) (defScope HeadT.s_order_by_steps) N_order_by_steps c_order_by_steps := by
  intro f cdv A outer s H E En hr hgd
  have nd : N_order_by_steps.Nodup := by decide +kernel
  have tk : Takes (cxOf (L2.CX P w) P w K mg base N_order_by_steps "order_by_steps" (defScope HeadT.s_order_by_steps) f cdv A outer s H E) (EX E) := takes_of rfl rfl rfl rfl
  have hp : PassesOwn (model P w) (cxOf (L2.CX P w) P w K mg base N_order_by_steps "order_by_steps" (defScope HeadT.s_order_by_steps) f cdv A outer s H E).A (cxOf (L2.CX P w) P w K mg base N_order_by_steps "order_by_steps" (defScope HeadT.s_order_by_steps) f cdv A outer s H E).env (cxOf (L2.CX P w) P w K mg base N_order_by_steps "order_by_steps" (defScope HeadT.s_order_by_steps) f cdv A outer s H E).xe := passes_of rfl
  delta c_order_by_steps
  try delta t_order_by_steps_2
  try delta b_order_by_steps_1
  exact (cs_cons (cs_par (ps_par (i := 2) (j := 3) rfl nd rfl rfl (by decide) rfl rfl (PMu.pa (pmu_val (pm_of (pv 1)) (pmu_val (pm_nat (k := 1)) pmu_nil))) rfl)) (cs_cons (cs_while FUEL hp (pmt_ne (un_of hr) (pm_of (pv 2)) (pm_mod (pm_nat (k := 1)) (pm_of (pv 0)))) (cs_one (cs_par (ps_par (i := 2) (j := 3) rfl nd rfl rfl (by decide) rfl rfl (PMu.pa (pmu_val (pm_mod (pm_mul (pm_of (pv 2)) (pm_of (pv 1))) (pm_of (pv 0))) (pmu_val (pm_add (pm_of (pv 3)) (pm_nat (k := 1))) pmu_nil))) rfl)))) (cs_one (cs_ret (pm_of (pv 3))))))
theorem sc_order_by_steps : FnScope N_order_by_steps ps_order_by_steps (defScope HeadT.s_order_by_steps) := ⟨rfl, rfl, rfl, by decide +kernel, rfl, by decide +kernel, by decide +kernel⟩
theorem b_units {P : Program} {w : World} {K : PySem.W.Frag} {mg : Str → Option Value} {base : Heap} (h_check_multiplier : FnX P w K mg base "check_multiplier" (defArgs HeadT.s_check_multiplier) 3 ps_check_multiplier F_check_multiplier) (h_units_of : FnX P w K mg base "units_of" (defArgs HeadT.s_units_of) 2 ps_units_of F_units_of) : BodyOk P w K mg base 3 "units" (defBody HeadT.s_units) (defScope HeadT.s_units) N_units c_units := by
  intro f cdv A outer s H E En hr hgd
  have nd : N_units.Nodup := by decide +kernel
  have tk : Takes (cxOf (L2.CX P w) P w K mg base N_units "units" (defScope HeadT.s_units) f cdv A outer s H E) (EX E) := takes_of rfl rfl rfl rfl
  have hp : PassesOwn (model P w) (cxOf (L2.CX P w) P w K mg base N_units "units" (defScope HeadT.s_units) f cdv A outer s H E).A (cxOf (L2.CX P w) P w K mg base N_units "units" (defScope HeadT.s_units) f cdv A outer s H E).env (cxOf (L2.CX P w) P w K mg base N_units "units" (defScope HeadT.s_units) f cdv A outer s H E).xe := passes_of rfl
  delta c_units
  exact (cs_cons (cs_expr (pm_fn1 h_check_multiplier (hr.mono (by decide)) hgd tk (fun _ _ _ _ _ _ _ _ us ws h1 h2 => match us, ws, h1, h2 with | [_], [], _, _ => rfl) (by rfl) (pma_cons (pm_of (pv 0)) pma_nil))) (cs_one (cs_reto (pmo_fn1 h_units_of (hr.mono (by decide)) hgd tk (fun _ _ _ _ _ _ _ _ us ws h1 h2 => match us, ws, h1, h2 with | [_], [], _, _ => rfl) (by rfl) (pma_cons (pm_of (pv 0)) pma_nil)))))
theorem sc_units : FnScope N_units ps_units (defScope HeadT.s_units) := ⟨rfl, rfl, rfl, by decide +kernel, rfl, by decide +kernel, by decide +kernel⟩
theorem b_order_of_unit {P : Program} {w : World} {K : PySem.W.Frag} {mg : Str → Option Value} {base : Heap} (h_check_unit : FnX P w K mg base "check_unit" (defArgs HeadT.s_check_unit) 4 ps_check_unit F_check_unit) (h_order_by_steps : FnX P w K mg base "order_by_steps" (defArgs HeadT.s_order_by_steps) 1 ps_order_by_steps F_order_by_steps) : BodyOk P w K mg base 4 "order_of_unit" (defBody HeadT.s_order_of_unit) (defScope HeadT.s_order_of_unit) N_order_of_unit c_order_of_unit := by
  intro f cdv A outer s H E En hr hgd
  have nd : N_order_of_unit.Nodup := by decide +kernel
  have tk : Takes (cxOf (L2.CX P w) P w K mg base N_order_of_unit "order_of_unit" (defScope HeadT.s_order_of_unit) f cdv A outer s H E) (EX E) := takes_of rfl rfl rfl rfl
  have hp : PassesOwn (model P w) (cxOf (L2.CX P w) P w K mg base N_order_of_unit "order_of_unit" (defScope HeadT.s_order_of_unit) f cdv A outer s H E).A (cxOf (L2.CX P w) P w K mg base N_order_of_unit "order_of_unit" (defScope HeadT.s_order_of_unit) f cdv A outer s H E).env (cxOf (L2.CX P w) P w K mg base N_order_of_unit "order_of_unit" (defScope HeadT.s_order_of_unit) f cdv A outer s H E).xe := passes_of rfl
  delta c_order_of_unit
  exact (cs_cons (cs_expr (pm_fn1 h_check_unit (hr.mono (by decide)) hgd tk (fun _ _ _ _ _ _ _ _ us ws h1 h2 => match us, ws, h1, h2 with | [_, _], [], _, _ => rfl) (by rfl) (pma_cons (pm_of (pv 0)) (pma_cons (pm_of (pv 1)) pma_nil)))) (cs_one (cs_ret (pm_fn1 h_order_by_steps (hr.mono (by decide)) hgd tk (fun _ _ _ _ _ _ _ _ us ws h1 h2 => match us, ws, h1, h2 with | [_, _], [], _, _ => rfl) (by rfl) (pma_cons (pm_of (pv 0)) (pma_cons (pm_of (pv 1)) pma_nil))))))
theorem sc_order_of_unit : FnScope N_order_of_unit ps_order_of_unit (defScope HeadT.s_order_of_unit) := ⟨rfl, rfl, rfl, by decide +kernel, rfl, by decide +kernel, by decide +kernel⟩
theorem b_check_two_units {P : Program} {w : World} {K : PySem.W.Frag} {mg : Str → Option Value} {base : Heap} (h_check_unit : FnX P w K mg base "check_unit" (defArgs HeadT.s_check_unit) 4 ps_check_unit F_check_unit) (h_is_unit_of : FnX P w K mg base "is_unit_of" (defArgs HeadT.s_is_unit_of) 3 ps_is_unit_of F_is_unit_of) : BodyOk P w K mg base 4 "check_two_units" (defBody HeadT.s_check_two_units) (defScope HeadT.s_check_two_units) N_check_two_units c_check_two_units := by
  intro f cdv A outer s H E En hr hgd
  have nd : N_check_two_units.Nodup := by decide +kernel
  have tk : Takes (cxOf (L2.CX P w) P w K mg base N_check_two_units "check_two_units" (defScope HeadT.s_check_two_units) f cdv A outer s H E) (EX E) := takes_of rfl rfl rfl rfl
  have hp : PassesOwn (model P w) (cxOf (L2.CX P w) P w K mg base N_check_two_units "check_two_units" (defScope HeadT.s_check_two_units) f cdv A outer s H E).A (cxOf (L2.CX P w) P w K mg base N_check_two_units "check_two_units" (defScope HeadT.s_check_two_units) f cdv A outer s H E).env (cxOf (L2.CX P w) P w K mg base N_check_two_units "check_two_units" (defScope HeadT.s_check_two_units) f cdv A outer s H E).xe := passes_of rfl
  delta c_check_two_units
  exact (cs_cons (cs_expr (pm_fn1 h_check_unit (hr.mono (by decide)) hgd tk (fun _ _ _ _ _ _ _ _ us ws h1 h2 => match us, ws, h1, h2 with | [_, _], [], _, _ => rfl) (by rfl) (pma_cons (pm_of (pv 0)) (pma_cons (pm_of (pv 1)) pma_nil)))) (cs_one (cs_if (pmt_not (pmt_val (pm_fn1 h_is_unit_of (hr.mono (by decide)) hgd tk (fun _ _ _ _ _ _ _ _ us ws h1 h2 => match us, ws, h1, h2 with | [_, _], [], _, _ => rfl) (by rfl) (pma_cons (pm_of (pv 0)) (pma_cons (pm_of (pv 2)) pma_nil))))) (cs_one cs_never) cs_nil)))
theorem sc_check_two_units : FnScope N_check_two_units ps_check_two_units (defScope HeadT.s_check_two_units) := ⟨rfl, rfl, rfl, by decide +kernel, rfl, by decide +kernel, by decide +kernel⟩
theorem b_powers_of {P : Program} {w : World} {K : PySem.W.Frag} {mg : Str → Option Value} {base : Heap} : BodyOk P w K mg base 0 "powers_of" (defBody HeadT.s_powers_of) (defScope HeadT.s_powers_of) N_powers_of c_powers_of := by
  intro f cdv A outer s H E En hr hgd
  have nd : N_powers_of.Nodup := by decide +kernel
  have tk : Takes (cxOf (L2.CX P w) P w K mg base N_powers_of "powers_of" (defScope HeadT.s_powers_of) f cdv A outer s H E) (EX E) := takes_of rfl rfl rfl rfl
  have hp : PassesOwn (model P w) (cxOf (L2.CX P w) P w K mg base N_powers_of "powers_of" (defScope HeadT.s_powers_of) f cdv A outer s H E).A (cxOf (L2.CX P w) P w K mg base N_powers_of "powers_of" (defScope HeadT.s_powers_of) f cdv A outer s H E).env (cxOf (L2.CX P w) P w K mg base N_powers_of "powers_of" (defScope HeadT.s_powers_of) f cdv A outer s H E).xe := passes_of rfl
  delta c_powers_of
  try delta t_powers_of_2
  try delta b_powers_of_1
  exact (cs_cons (cs_seto (i := 2) nd rfl (by first | exact Or.inl rfl | exact Or.inr rfl) (pmo_lst (pma_cons (pm_mod (pm_nat (k := 1)) (pm_of (pv 0))) pma_nil))) (cs_cons (cs_while FUEL hp (pmt_ne (un_of hr) (pm_mod (pm_mul (pm_ixo (pv 2) (pm_neg (pm_nat (k := 1)))) (pm_of (pv 1))) (pm_of (pv 0))) (pm_ixo (pv 2) (pm_nat (k := 0)))) (cs_one (cs_append (pe_bm PySem.F.plainAttrs_list PySem.F.slot_list_append PySem.F.type_list_append mt_append (pv 2) (pa_cons (PM.pe (pm_mod (pm_mul (pm_ixo (pv 2) (pm_neg (pm_nat (k := 1)))) (pm_of (pv 1))) (pm_of (pv 0)))) pa_nil))))) (cs_one (cs_retown (pv 2)))))
theorem sc_powers_of : FnScope N_powers_of ps_powers_of (defScope HeadT.s_powers_of) := ⟨rfl, rfl, rfl, by decide +kernel, rfl, by decide +kernel, by decide +kernel⟩
theorem b_power_of {P : Program} {w : World} {K : PySem.W.Frag} {mg : Str → Option Value} {base : Heap} (m_MOST_POWER : ∃ t, mg "MOST_POWER" = some (.int 1000000000000 t)) (h_check_remainder : FnX P w K mg base "check_remainder" (defArgs HeadT.s_check_remainder) 4 ps_check_remainder F_check_remainder) (h_is_within : FnX P w K mg base "is_within" (defArgs HeadT.s_is_within) 2 ps_is_within F_is_within) (h_power_by : FnX P w K mg base "power_by" (defArgs HeadT.s_power_by) 1 ps_power_by F_power_by) : BodyOk P w K mg base 4 "power_of" (defBody HeadT.s_power_of) (defScope HeadT.s_power_of) N_power_of c_power_of := by
  intro f cdv A outer s H E En hr hgd
  have nd : N_power_of.Nodup := by decide +kernel
  have tk : Takes (cxOf (L2.CX P w) P w K mg base N_power_of "power_of" (defScope HeadT.s_power_of) f cdv A outer s H E) (EX E) := takes_of rfl rfl rfl rfl
  have hp : PassesOwn (model P w) (cxOf (L2.CX P w) P w K mg base N_power_of "power_of" (defScope HeadT.s_power_of) f cdv A outer s H E).A (cxOf (L2.CX P w) P w K mg base N_power_of "power_of" (defScope HeadT.s_power_of) f cdv A outer s H E).env (cxOf (L2.CX P w) P w K mg base N_power_of "power_of" (defScope HeadT.s_power_of) f cdv A outer s H E).xe := passes_of rfl
  delta c_power_of
  exact (cs_cons (cs_expr (pm_fn1 h_check_remainder (hr.mono (by decide)) hgd tk (fun _ _ _ _ _ _ _ _ us ws h1 h2 => match us, ws, h1, h2 with | [_, _], [], _, _ => rfl) (by rfl) (pma_cons (pm_of (pv 0)) (pma_cons (pm_of (pv 1)) pma_nil)))) (cs_cons (cs_if (pmt_not (pmt_val (pm_fn1 h_is_within (hr.mono (by decide)) hgd tk (fun _ _ _ _ _ _ _ _ us ws h1 h2 => match us, ws, h1, h2 with | [_, _, _], [], _, _ => rfl) (by rfl) (pma_cons (pm_of (pv 2)) (pma_cons (pm_nat (k := 0)) (pma_cons (pm_gnat (k := 1000000000000) (by rfl) m_MOST_POWER) pma_nil)))))) (cs_one cs_never) cs_nil) (cs_one (cs_ret (pm_fn1 h_power_by (hr.mono (by decide)) hgd tk (fun _ _ _ _ _ _ _ _ us ws h1 h2 => match us, ws, h1, h2 with | [_, _, _], [], _, _ => rfl) (by rfl) (pma_cons (pm_of (pv 0)) (pma_cons (pm_of (pv 1)) (pma_cons (pm_of (pv 2)) pma_nil))))))))
theorem sc_power_of : FnScope N_power_of ps_power_of (defScope HeadT.s_power_of) := ⟨rfl, rfl, rfl, by decide +kernel, rfl, by decide +kernel, by decide +kernel⟩
theorem b_square_roots {P : Program} {w : World} {K : PySem.W.Frag} {mg : Str → Option Value} {base : Heap} (h_check_remainder : FnX P w K mg base "check_remainder" (defArgs HeadT.s_check_remainder) 4 ps_check_remainder F_check_remainder) (m_range : mg "range" = none) : BodyOk P w K mg base 4 "square_roots" (defBody HeadT.s_square_roots) (defScope HeadT.s_square_roots) N_square_roots c_square_roots := by
  intro f cdv A outer s H E En hr hgd
  have nd : N_square_roots.Nodup := by decide +kernel
  have tk : Takes (cxOf (L2.CX P w) P w K mg base N_square_roots "square_roots" (defScope HeadT.s_square_roots) f cdv A outer s H E) (EX E) := takes_of rfl rfl rfl rfl
  have hp : PassesOwn (model P w) (cxOf (L2.CX P w) P w K mg base N_square_roots "square_roots" (defScope HeadT.s_square_roots) f cdv A outer s H E).A (cxOf (L2.CX P w) P w K mg base N_square_roots "square_roots" (defScope HeadT.s_square_roots) f cdv A outer s H E).env (cxOf (L2.CX P w) P w K mg base N_square_roots "square_roots" (defScope HeadT.s_square_roots) f cdv A outer s H E).xe := passes_of rfl
  delta c_square_roots
  try delta m_square_roots_1
  exact (cs_cons (cs_expr (pm_fn1 h_check_remainder (hr.mono (by decide)) hgd tk (fun _ _ _ _ _ _ _ _ us ws h1 h2 => match us, ws, h1, h2 with | [_, _], [], _, _ => rfl) (by rfl) (pma_cons (pm_of (pv 0)) (pma_cons (pm_of (pv 1)) pma_nil)))) (cs_one (cs_reto (pmo_lc (own := [("one", 2)]) rfl nd (pmi_range1 (by rfl) m_range (pma_cons (pm_of (pv 0)) pma_nil)) (blkOk_by (by kernel_rfl)) (fun _ _ _ _ _ => (pg_name (i := 2) nd rfl (by first | exact Or.inl rfl | exact Or.inr rfl))) gok_name (fun _ _ _ _ _ => (pmts_one (pmt_eq (un_of hr) (pm_mod (pm_mul (pm_of (pv 2)) (pm_of (pv 2))) (pm_of (pv 0))) (pm_of (pv 1))))) (fun _ _ _ _ _ => (pm_of (pv 2)))))))
theorem sc_square_roots : FnScope N_square_roots ps_square_roots (defScope HeadT.s_square_roots) := ⟨rfl, rfl, rfl, by decide +kernel, rfl, by decide +kernel, by decide +kernel⟩
theorem b_logarithm {P : Program} {w : World} {K : PySem.W.Frag} {mg : Str → Option Value} {base : Heap} (h_check_two_units : FnX P w K mg base "check_two_units" (defArgs HeadT.s_check_two_units) 5 ps_check_two_units F_check_two_units) (h_powers_of : FnX P w K mg base "powers_of" (defArgs HeadT.s_powers_of) 1 ps_powers_of F_powers_of) : BodyOk P w K mg base 5 "logarithm" (defBody HeadT.s_logarithm) (defScope HeadT.s_logarithm) N_logarithm c_logarithm := by
  intro f cdv A outer s H E En hr hgd
  have nd : N_logarithm.Nodup := by decide +kernel
  have tk : Takes (cxOf (L2.CX P w) P w K mg base N_logarithm "logarithm" (defScope HeadT.s_logarithm) f cdv A outer s H E) (EX E) := takes_of rfl rfl rfl rfl
  have hp : PassesOwn (model P w) (cxOf (L2.CX P w) P w K mg base N_logarithm "logarithm" (defScope HeadT.s_logarithm) f cdv A outer s H E).A (cxOf (L2.CX P w) P w K mg base N_logarithm "logarithm" (defScope HeadT.s_logarithm) f cdv A outer s H E).env (cxOf (L2.CX P w) P w K mg base N_logarithm "logarithm" (defScope HeadT.s_logarithm) f cdv A outer s H E).xe := passes_of rfl
  delta c_logarithm
  exact (cs_cons (cs_expr (pm_fn1 h_check_two_units (hr.mono (by decide)) hgd tk (fun _ _ _ _ _ _ _ _ us ws h1 h2 => match us, ws, h1, h2 with | [_, _, _], [], _, _ => rfl) (by rfl) (pma_cons (pm_of (pv 0)) (pma_cons (pm_of (pv 1)) (pma_cons (pm_of (pv 2)) pma_nil))))) (cs_cons (cs_set (i := 3) nd rfl (by first | exact Or.inl rfl | exact Or.inr rfl) (pm_fn1 h_powers_of (hr.mono (by decide)) hgd tk (fun _ _ _ _ _ _ _ _ us ws h1 h2 => match us, ws, h1, h2 with | [_, _], [], _, _ => rfl) (by rfl) (pma_cons (pm_of (pv 0)) (pma_cons (pm_of (pv 1)) pma_nil)))) (cs_one (cs_ret (pm_if (pmt_inX (un_of hr) (pm_of (pv 2)) (pm_of (pv 3))) (pm_index (un_of hr) (pm_of (pv 3)) (pm_of (pv 2))) pm_non)))))
theorem sc_logarithm : FnScope N_logarithm ps_logarithm (defScope HeadT.s_logarithm) := ⟨rfl, rfl, rfl, by decide +kernel, rfl, by decide +kernel, by decide +kernel⟩
theorem b_power_bar {P : Program} {w : World} {K : PySem.W.Frag} {mg : Str → Option Value} {base : Heap} (h_check_two_units : FnX P w K mg base "check_two_units" (defArgs HeadT.s_check_two_units) 5 ps_check_two_units F_check_two_units) (h_powers_of : FnX P w K mg base "powers_of" (defArgs HeadT.s_powers_of) 1 ps_powers_of F_powers_of) (m_sorted : mg "sorted" = none) : BodyOk P w K mg base 5 "power_bar" (defBody HeadT.s_power_bar) (defScope HeadT.s_power_bar) N_power_bar c_power_bar := by
  intro f cdv A outer s H E En hr hgd
  have nd : N_power_bar.Nodup := by decide +kernel
  have tk : Takes (cxOf (L2.CX P w) P w K mg base N_power_bar "power_bar" (defScope HeadT.s_power_bar) f cdv A outer s H E) (EX E) := takes_of rfl rfl rfl rfl
  have hp : PassesOwn (model P w) (cxOf (L2.CX P w) P w K mg base N_power_bar "power_bar" (defScope HeadT.s_power_bar) f cdv A outer s H E).A (cxOf (L2.CX P w) P w K mg base N_power_bar "power_bar" (defScope HeadT.s_power_bar) f cdv A outer s H E).env (cxOf (L2.CX P w) P w K mg base N_power_bar "power_bar" (defScope HeadT.s_power_bar) f cdv A outer s H E).xe := passes_of rfl
  delta c_power_bar
  exact (cs_cons (cs_expr (pm_fn1 h_check_two_units (hr.mono (by decide)) hgd tk (fun _ _ _ _ _ _ _ _ us ws h1 h2 => match us, ws, h1, h2 with | [_, _, _], [], _, _ => rfl) (by rfl) (pma_cons (pm_of (pv 0)) (pma_cons (pm_of (pv 1)) (pma_cons (pm_of (pv 2)) pma_nil))))) (cs_cons (cs_seto (i := 3) nd rfl (by first | exact Or.inl rfl | exact Or.inr rfl) (b_sorted m_sorted (pma_cons (pm_fn1 h_powers_of (hr.mono (by decide)) hgd tk (fun _ _ _ _ _ _ _ _ us ws h1 h2 => match us, ws, h1, h2 with | [_, _], [], _, _ => rfl) (by rfl) (pma_cons (pm_of (pv 0)) (pma_cons (pm_of (pv 1)) pma_nil))) pma_nil))) (cs_one (cs_retif_vo (pmt_scal (pmt_inX (un_of hr) (pm_of (pv 2)) (pm_of (pv 3)))) pm_non (pv 3)))))
theorem sc_power_bar : FnScope N_power_bar ps_power_bar (defScope HeadT.s_power_bar) := ⟨rfl, rfl, rfl, by decide +kernel, rfl, by decide +kernel, by decide +kernel⟩
theorem b_is_power_bar {P : Program} {w : World} {K : PySem.W.Frag} {mg : Str → Option Value} {base : Heap} (h_check_two_units : FnX P w K mg base "check_two_units" (defArgs HeadT.s_check_two_units) 5 ps_check_two_units F_check_two_units) (h_is_list : FnX P w K mg base "is_list" (defArgs HeadT.s_is_list) 1 ps_is_list F_is_list) (h_is_unit_of : FnX P w K mg base "is_unit_of" (defArgs HeadT.s_is_unit_of) 3 ps_is_unit_of F_is_unit_of) (m_all : mg "all" = none) (m_zip : mg "zip" = none) : BodyOk P w K mg base 5 "is_power_bar" (defBody HeadT.s_is_power_bar) (defScope HeadT.s_is_power_bar) N_is_power_bar c_is_power_bar := by
  intro f cdv A outer s H E En hr hgd
  have nd : N_is_power_bar.Nodup := by decide +kernel
  have tk : Takes (cxOf (L2.CX P w) P w K mg base N_is_power_bar "is_power_bar" (defScope HeadT.s_is_power_bar) f cdv A outer s H E) (EX E) := takes_of rfl rfl rfl rfl
  have hp : PassesOwn (model P w) (cxOf (L2.CX P w) P w K mg base N_is_power_bar "is_power_bar" (defScope HeadT.s_is_power_bar) f cdv A outer s H E).A (cxOf (L2.CX P w) P w K mg base N_is_power_bar "is_power_bar" (defScope HeadT.s_is_power_bar) f cdv A outer s H E).env (cxOf (L2.CX P w) P w K mg base N_is_power_bar "is_power_bar" (defScope HeadT.s_is_power_bar) f cdv A outer s H E).xe := passes_of rfl
  delta c_is_power_bar
  try delta m_is_power_bar_3
  try delta m_is_power_bar_2
  try delta m_is_power_bar_1
  exact (cs_cons (cs_expr (pm_fn1 h_check_two_units (hr.mono (by decide)) hgd tk (fun _ _ _ _ _ _ _ _ us ws h1 h2 => match us, ws, h1, h2 with | [_, _, _], [], _, _ => rfl) (by rfl) (pma_cons (pm_of (pv 0)) (pma_cons (pm_of (pv 1)) (pma_cons (pm_of (pv 2)) pma_nil))))) (cs_cons (cs_if (PMw.pt (pmw_or (pmt_not (pmt_val (pm_fn1 h_is_list (hr.mono (by decide)) hgd tk (fun _ _ _ _ _ _ _ _ us ws h1 h2 => match us, ws, h1, h2 with | [_], [], _, _ => rfl) (by rfl) (pma_cons (pm_of (pv 3)) pma_nil)))) (pmw_or1 (pmt_not (pmt_val (b_all rfl m_all (pma_cons (PMo.pm (pmo_lc (own := [("one", 4)]) rfl nd (pmi_seq (pm_of (pv 3))) (blkOk_by (by kernel_rfl)) (fun _ _ _ _ _ => (pg_name (i := 4) nd rfl (by first | exact Or.inl rfl | exact Or.inr rfl))) gok_name (fun _ _ _ _ _ => pmts_nil) (fun _ _ _ _ _ => (pm_fn1 h_is_unit_of (hr.mono (by decide)) hgd takes_w0 (fun _ _ _ _ _ _ _ _ us ws h1 h2 => match us, ws, h1, h2 with | [_, _], [], _, _ => rfl) (by rfl) (pma_cons (pm_of (pv 0)) (pma_cons (pm_of (pv 4)) pma_nil)))))) pma_nil))))))) (cs_one (cs_ret pm_bl)) cs_nil) (cs_cons (cs_if (PMw.pt (pmw_or (pmt_not (pmt_val (b_all rfl m_all (pma_cons (PMo.pm (pmo_lc (own := [("one", 4), ("late", 5)]) rfl nd (pmi_zip (by rfl) m_zip (pma_cons (pm_of (pv 3)) (pma_cons (pm_sl (pm_of (pv 3)) (pmO_some (pm_nat (k := 1))) pmO_none) pma_nil))) (blkOk_by (by kernel_rfl)) (fun _ _ _ _ _ => (pg_tup rfl (pgs_cons (pg_name (i := 4) nd rfl (by first | exact Or.inl rfl | exact Or.inr rfl)) (pgs_cons (pg_name (i := 5) nd rfl (by first | exact Or.inl rfl | exact Or.inr rfl)) pgs_nil)))) (gok_tup (gsok_cons gok_name (gsok_cons gok_name gsok_nil)) (fs_len_cons (fs_len_cons fs_len_nil))) (fun _ _ _ _ _ => pmts_nil) (fun _ _ _ _ _ => (pm_lt (pm_of (pv 4)) (pm_of (pv 5)))))) pma_nil)))) (pmw_or (pmt_notInX (un_of hr) (pm_nat (k := 1)) (pm_of (pv 3))) (pmw_or1 (pmt_inX (un_of hr) (pm_of (pv 2)) (pm_of (pv 3))))))) (cs_one (cs_ret pm_bl)) cs_nil) (cs_one (cs_ret (b_all rfl m_all (pma_cons (PMo.pm (pmo_lc (own := [("one", 4)]) rfl nd (pmi_seq (pm_of (pv 3))) (blkOk_by (by kernel_rfl)) (fun _ _ _ _ _ => (pg_name (i := 4) nd rfl (by first | exact Or.inl rfl | exact Or.inr rfl))) gok_name (fun _ _ _ _ _ => pmts_nil) (fun _ _ _ _ _ => (pm_inX (un_of hr) (pm_mod (pm_mul (pm_of (pv 4)) (pm_of (pv 1))) (pm_of (pv 0))) (pm_of (pv 3)))))) pma_nil)))))))
theorem sc_is_power_bar : FnScope N_is_power_bar ps_is_power_bar (defScope HeadT.s_is_power_bar) := ⟨rfl, rfl, rfl, by decide +kernel, rfl, by decide +kernel, by decide +kernel⟩
theorem b__law_pot {P : Program} {w : World} {K : PySem.W.Frag} {mg : Str → Option Value} {base : Heap} (m_abs : mg "abs" = none) (m_int : mg "int" = none) (m_len : mg "len" = none) (m_max : mg "max" = none) : BodyOk P w K mg base 0 "_law_pot" (defBody HeadT.s__law_pot) (defScope HeadT.s__law_pot) N__law_pot c__law_pot := by
  intro f cdv A outer s H E En hr hgd
  have nd : N__law_pot.Nodup := by decide +kernel
  have tk : Takes (cxOf (L2.CX P w) P w K mg base N__law_pot "_law_pot" (defScope HeadT.s__law_pot) f cdv A outer s H E) (EX E) := takes_of rfl rfl rfl rfl
  have hp : PassesOwn (model P w) (cxOf (L2.CX P w) P w K mg base N__law_pot "_law_pot" (defScope HeadT.s__law_pot) f cdv A outer s H E).A (cxOf (L2.CX P w) P w K mg base N__law_pot "_law_pot" (defScope HeadT.s__law_pot) f cdv A outer s H E).env (cxOf (L2.CX P w) P w K mg base N__law_pot "_law_pot" (defScope HeadT.s__law_pot) f cdv A outer s H E).xe := passes_of rfl
  delta c__law_pot
  exact (cs_cons (cs_set (i := 2) nd rfl (by first | exact Or.inl rfl | exact Or.inr rfl) (pm_if (pmt_lt (pm_of (pv 1)) (b_len m_len (pma_cons (pm_of (pv 0)) pma_nil))) (b_abs m_abs (pma_cons (pm_ixd (pm_of (pv 0)) (pm_of (pv 1))) pma_nil)) (pm_add (pm_mul (pm_nat (k := 2689)) (pm_of (pv 1))) (pm_nat (k := 2190))))) (cs_one (cs_retpot (pma_cons (b_max2 rfl m_max (pma_cons (pm_nat (k := 0)) (pma_cons (pm_sub (pm_of (pv 2)) (pm_pow (pm_nat (k := 10)) (pm_nat (k := 18)))) pma_nil))) (pma_cons (pm_add (pm_mod (b_int m_int (pma_cons (pm_add (pm_add (pm_mul (pm_mod (b_int m_int (pma_cons (pm_of (pv 2)) pma_nil)) (pm_nat (k := 2147483549))) (pm_nat (k := 44351))) (pm_mul (pm_nat (k := 1255)) (pm_of (pv 1)))) (pm_nat (k := 23424))) pma_nil)) (pm_nat (k := 2147483579))) (pm_nat (k := 1))) pma_nil)))))
theorem sc__law_pot : FnScope N__law_pot ps__law_pot (defScope HeadT.s__law_pot) := ⟨rfl, rfl, rfl, by decide +kernel, rfl, by decide +kernel, by decide +kernel⟩
theorem b__law_draw {P : Program} {w : World} {K : PySem.W.Frag} {mg : Str → Option Value} {base : Heap} (m_divmod : mg "divmod" = none) (m_int : mg "int" = none) : BodyOk P w K mg base 0 "_law_draw" (defBody HeadT.s__law_draw) (defScope HeadT.s__law_draw) N__law_draw c__law_draw := by
  intro f cdv A outer s H E En hr hgd
  have nd : N__law_draw.Nodup := by decide +kernel
  have tk : Takes (cxOf (L2.CX P w) P w K mg base N__law_draw "_law_draw" (defScope HeadT.s__law_draw) f cdv A outer s H E) (EX E) := takes_of rfl rfl rfl rfl
  have hp : PassesOwn (model P w) (cxOf (L2.CX P w) P w K mg base N__law_draw "_law_draw" (defScope HeadT.s__law_draw) f cdv A outer s H E).A (cxOf (L2.CX P w) P w K mg base N__law_draw "_law_draw" (defScope HeadT.s__law_draw) f cdv A outer s H E).env (cxOf (L2.CX P w) P w K mg base N__law_draw "_law_draw" (defScope HeadT.s__law_draw) f cdv A outer s H E).xe := passes_of rfl
  delta c__law_draw
  exact (cs_cons (cs_if (pmt_gt (pm_ix (pm_of (pv 0)) (pm_nat (k := 0))) (pm_nat (k := 0))) (cs_cons (cs_asgT (ps_asg (PM.pe (b_divmod m_divmod (pma_cons (pm_ix (pm_of (pv 0)) (pm_nat (k := 0))) (pma_cons (pm_of (pv 1)) pma_nil)))) (pg_tup rfl (pgs_cons (pg_sub (pv 0) (PM.pe (pm_nat (k := 0))) set_list) (pgs_cons (pg_name (i := 2) nd rfl (by first | exact Or.inl rfl | exact Or.inr rfl)) pgs_nil)))) (tg_tup (tgs_cons tg_sub (tgs_cons tg_name tgs_nil)))) (cs_one (cs_ret (pm_of (pv 2))))) cs_nil) (cs_cons (cs_asgT (ps_asg (PM.pe (pm_mod (b_int m_int (pma_cons (pm_add (pm_mul (pm_ix (pm_of (pv 0)) (pm_nat (k := 1))) (pm_nat (k := 44351))) (pm_nat (k := 1255))) pma_nil)) (pm_nat (k := 2147483629)))) (pg_sub (pv 0) (PM.pe (pm_nat (k := 1))) set_list)) tg_sub) (cs_one (cs_ret (pm_mod (b_int m_int (pma_cons (pm_div (pm_mod (b_int m_int (pma_cons (pm_mul (pm_ix (pm_of (pv 0)) (pm_nat (k := 1))) (pm_ix (pm_of (pv 0)) (pm_nat (k := 1)))) pma_nil)) (pm_nat (k := 2147483587))) (pm_nat (k := 13))) pma_nil)) (pm_of (pv 1)))))))
theorem sc__law_draw : FnScope N__law_draw ps__law_draw (defScope HeadT.s__law_draw) := ⟨rfl, rfl, rfl, by decide +kernel, rfl, by decide +kernel, by decide +kernel⟩
theorem b__law_pick {P : Program} {w : World} {K : PySem.W.Frag} {mg : Str → Option Value} {base : Heap} (h__law_draw : FnX P w K mg base "_law_draw" (defArgs HeadT.s__law_draw) 1 ps__law_draw F__law_draw) (m_len : mg "len" = none) : BodyOk P w K mg base 1 "_law_pick" (defBody HeadT.s__law_pick) (defScope HeadT.s__law_pick) N__law_pick c__law_pick := by
  intro f cdv A outer s H E En hr hgd
  have nd : N__law_pick.Nodup := by decide +kernel
  have tk : Takes (cxOf (L2.CX P w) P w K mg base N__law_pick "_law_pick" (defScope HeadT.s__law_pick) f cdv A outer s H E) (EX E) := takes_of rfl rfl rfl rfl
  have hp : PassesOwn (model P w) (cxOf (L2.CX P w) P w K mg base N__law_pick "_law_pick" (defScope HeadT.s__law_pick) f cdv A outer s H E).A (cxOf (L2.CX P w) P w K mg base N__law_pick "_law_pick" (defScope HeadT.s__law_pick) f cdv A outer s H E).env (cxOf (L2.CX P w) P w K mg base N__law_pick "_law_pick" (defScope HeadT.s__law_pick) f cdv A outer s H E).xe := passes_of rfl
  delta c__law_pick
  exact (cs_one (cs_ret (pm_ixd (pm_of (pv 1)) (pm_fn1 h__law_draw (hr.mono (by decide)) hgd tk (fun _ _ _ _ _ _ _ _ us ws h1 h2 => match us, ws, h1, h2 with | [_, _], [], _, _ => rfl) (by rfl) (pma_cons (pm_of (pv 0)) (pma_cons (b_len m_len (pma_cons (pm_of (pv 1)) pma_nil)) pma_nil))))))
theorem sc__law_pick : FnScope N__law_pick ps__law_pick (defScope HeadT.s__law_pick) := ⟨rfl, rfl, rfl, by decide +kernel, rfl, by decide +kernel, by decide +kernel⟩
theorem b__law_divisor {P : Program} {w : World} {K : PySem.W.Frag} {mg : Str → Option Value} {base : Heap} (m_int : mg "int" = none) : BodyOk P w K mg base 0 "_law_divisor" (defBody HeadT.s__law_divisor) (defScope HeadT.s__law_divisor) N__law_divisor c__law_divisor := by
  intro f cdv A outer s H E En hr hgd
  have nd : N__law_divisor.Nodup := by decide +kernel
  have tk : Takes (cxOf (L2.CX P w) P w K mg base N__law_divisor "_law_divisor" (defScope HeadT.s__law_divisor) f cdv A outer s H E) (EX E) := takes_of rfl rfl rfl rfl
  have hp : PassesOwn (model P w) (cxOf (L2.CX P w) P w K mg base N__law_divisor "_law_divisor" (defScope HeadT.s__law_divisor) f cdv A outer s H E).A (cxOf (L2.CX P w) P w K mg base N__law_divisor "_law_divisor" (defScope HeadT.s__law_divisor) f cdv A outer s H E).env (cxOf (L2.CX P w) P w K mg base N__law_divisor "_law_divisor" (defScope HeadT.s__law_divisor) f cdv A outer s H E).xe := passes_of rfl
  delta c__law_divisor
  try delta t__law_divisor_2
  try delta b__law_divisor_1
  exact (cs_cons (cs_while FUEL hp (pmt_ne (un_of hr) (pm_of (pv 1)) (pm_nat (k := 0))) (cs_one (cs_par (ps_par (i := 0) (j := 1) rfl nd rfl rfl (by decide) rfl rfl (PMu.pa (pmu_val (pm_of (pv 1)) (pmu_val (pm_mod (b_int m_int (pma_cons (pm_of (pv 0)) pma_nil)) (pm_of (pv 1))) pmu_nil))) rfl)))) (cs_one (cs_ret (pm_of (pv 0)))))
theorem sc__law_divisor : FnScope N__law_divisor ps__law_divisor (defScope HeadT.s__law_divisor) := ⟨rfl, rfl, rfl, by decide +kernel, rfl, by decide +kernel, by decide +kernel⟩
theorem b__law_clock {P : Program} {w : World} {K : PySem.W.Frag} {mg : Str → Option Value} {base : Heap} (h__law_draw : FnX P w K mg base "_law_draw" (defArgs HeadT.s__law_draw) 1 ps__law_draw F__law_draw) (h__law_pick : FnX P w K mg base "_law_pick" (defArgs HeadT.s__law_pick) 2 ps__law_pick F__law_pick) : BodyOk P w K mg base 2 "_law_clock" (defBody HeadT.s__law_clock) (defScope HeadT.s__law_clock) N__law_clock c__law_clock := by
  intro f cdv A outer s H E En hr hgd
  have nd : N__law_clock.Nodup := by decide +kernel
  have tk : Takes (cxOf (L2.CX P w) P w K mg base N__law_clock "_law_clock" (defScope HeadT.s__law_clock) f cdv A outer s H E) (EX E) := takes_of rfl rfl rfl rfl
  have hp : PassesOwn (model P w) (cxOf (L2.CX P w) P w K mg base N__law_clock "_law_clock" (defScope HeadT.s__law_clock) f cdv A outer s H E).A (cxOf (L2.CX P w) P w K mg base N__law_clock "_law_clock" (defScope HeadT.s__law_clock) f cdv A outer s H E).env (cxOf (L2.CX P w) P w K mg base N__law_clock "_law_clock" (defScope HeadT.s__law_clock) f cdv A outer s H E).xe := passes_of rfl
  delta c__law_clock
  exact (cs_one (cs_ret (pm_add (pm_nat (k := 2)) (pm_fn1 h__law_draw (hr.mono (by decide)) hgd tk (fun _ _ _ _ _ _ _ _ us ws h1 h2 => match us, ws, h1, h2 with | [_, _], [], _, _ => rfl) (by rfl) (pma_cons (pm_of (pv 0)) (pma_cons (pm_fn1 h__law_pick (hr.mono (by decide)) hgd tk (fun _ _ _ _ _ _ _ _ us ws h1 h2 => match us, ws, h1, h2 with | [_, _], [], _, _ => rfl) (by rfl) (pma_cons (pm_of (pv 0)) (pma_cons (PMo.pm (pmo_lst (pma_cons (pm_nat (k := 14)) (pma_cons (pm_nat (k := 60)) (pma_cons (pm_sub (pm_of (pv 1)) (pm_nat (k := 1))) pma_nil))))) pma_nil))) pma_nil))))))
theorem sc__law_clock : FnScope N__law_clock ps__law_clock (defScope HeadT.s__law_clock) := ⟨rfl, rfl, rfl, by decide +kernel, rfl, by decide +kernel, by decide +kernel⟩
theorem b__law_units {P : Program} {w : World} {K : PySem.W.Frag} {mg : Str → Option Value} {base : Heap} (h__law_divisor : FnX P w K mg base "_law_divisor" (defArgs HeadT.s__law_divisor) 1 ps__law_divisor F__law_divisor) (m_range : mg "range" = none) : BodyOk P w K mg base 1 "_law_units" (defBody HeadT.s__law_units) (defScope HeadT.s__law_units) N__law_units c__law_units := by
  intro f cdv A outer s H E En hr hgd
  have nd : N__law_units.Nodup := by decide +kernel
  have tk : Takes (cxOf (L2.CX P w) P w K mg base N__law_units "_law_units" (defScope HeadT.s__law_units) f cdv A outer s H E) (EX E) := takes_of rfl rfl rfl rfl
  have hp : PassesOwn (model P w) (cxOf (L2.CX P w) P w K mg base N__law_units "_law_units" (defScope HeadT.s__law_units) f cdv A outer s H E).A (cxOf (L2.CX P w) P w K mg base N__law_units "_law_units" (defScope HeadT.s__law_units) f cdv A outer s H E).env (cxOf (L2.CX P w) P w K mg base N__law_units "_law_units" (defScope HeadT.s__law_units) f cdv A outer s H E).xe := passes_of rfl
  delta c__law_units
  try delta m__law_units_1
  exact (cs_one (cs_reto (pmo_lc (own := [("one", 1)]) rfl nd (pmi_range1 (by rfl) m_range (pma_cons (pm_of (pv 0)) pma_nil)) (blkOk_by (by kernel_rfl)) (fun _ _ _ _ _ => (pg_name (i := 1) nd rfl (by first | exact Or.inl rfl | exact Or.inr rfl))) gok_name (fun _ _ _ _ _ => (pmts_one (pmt_eq (un_of hr) (pm_fn1 h__law_divisor (hr.mono (by decide)) hgd takes_w0 (fun _ _ _ _ _ _ _ _ us ws h1 h2 => match us, ws, h1, h2 with | [_, _], [], _, _ => rfl) (by rfl) (pma_cons (pm_of (pv 0)) (pma_cons (pm_of (pv 1)) pma_nil))) (pm_nat (k := 1))))) (fun _ _ _ _ _ => (pm_of (pv 1))))))
theorem sc__law_units : FnScope N__law_units ps__law_units (defScope HeadT.s__law_units) := ⟨rfl, rfl, rfl, by decide +kernel, rfl, by decide +kernel, by decide +kernel⟩
theorem b__law_all_powers {P : Program} {w : World} {K : PySem.W.Frag} {mg : Str → Option Value} {base : Heap} (m_int : mg "int" = none) : BodyOk P w K mg base 0 "_law_all_powers" (defBody HeadT.s__law_all_powers) (defScope HeadT.s__law_all_powers) N__law_all_powers c__law_all_powers := by
  intro f cdv A outer s H E En hr hgd
  have nd : N__law_all_powers.Nodup := by decide +kernel
  have tk : Takes (cxOf (L2.CX P w) P w K mg base N__law_all_powers "_law_all_powers" (defScope HeadT.s__law_all_powers) f cdv A outer s H E) (EX E) := takes_of rfl rfl rfl rfl
  have hp : PassesOwn (model P w) (cxOf (L2.CX P w) P w K mg base N__law_all_powers "_law_all_powers" (defScope HeadT.s__law_all_powers) f cdv A outer s H E).A (cxOf (L2.CX P w) P w K mg base N__law_all_powers "_law_all_powers" (defScope HeadT.s__law_all_powers) f cdv A outer s H E).env (cxOf (L2.CX P w) P w K mg base N__law_all_powers "_law_all_powers" (defScope HeadT.s__law_all_powers) f cdv A outer s H E).xe := passes_of rfl
  delta c__law_all_powers
  try delta t__law_all_powers_2
  try delta b__law_all_powers_1
  exact (cs_cons (cs_par (ps_par (i := 2) (j := 3) rfl nd rfl rfl (by decide) rfl rfl (PMu.pa (pmu_val (PMo.pm (pmo_lst (pma_cons (pm_mod (b_int m_int (pma_cons (pm_nat (k := 1)) pma_nil)) (pm_of (pv 0))) pma_nil))) (pmu_val (pm_of (pv 1)) pmu_nil))) rfl)) (cs_cons (cs_while FUEL hp (pmt_notInX (un_of hr) (pm_of (pv 3)) (pm_of (pv 2))) (cs_one (cs_par (ps_par (i := 2) (j := 3) rfl nd rfl rfl (by decide) rfl rfl (PMu.pa (pmu_val (pm_add (pm_of (pv 2)) (PMo.pm (pmo_lst (pma_cons (pm_of (pv 3)) pma_nil)))) (pmu_val (pm_mod (b_int m_int (pma_cons (pm_mul (pm_of (pv 3)) (pm_of (pv 1))) pma_nil)) (pm_of (pv 0))) pmu_nil))) rfl)))) (cs_one (cs_ret (pm_of (pv 2))))))
theorem sc__law_all_powers : FnScope N__law_all_powers ps__law_all_powers (defScope HeadT.s__law_all_powers) := ⟨rfl, rfl, rfl, by decide +kernel, rfl, by decide +kernel, by decide +kernel⟩
theorem b__law_is_bar {P : Program} {w : World} {K : PySem.W.Frag} {mg : Str → Option Value} {base : Heap} (h__law_divisor : FnX P w K mg base "_law_divisor" (defArgs HeadT.s__law_divisor) 1 ps__law_divisor F__law_divisor) (m_all : mg "all" = none) (m_bool : mg "bool" = none) (m_int : mg "int" = none) (m_isinstance : mg "isinstance" = none) (m_list : mg "list" = none) (m_tuple : mg "tuple" = none) (m_zip : mg "zip" = none) : BodyOk P w K mg base 1 "_law_is_bar" (defBody HeadT.s__law_is_bar) (defScope HeadT.s__law_is_bar) N__law_is_bar c__law_is_bar := by
  intro f cdv A outer s H E En hr hgd
  have nd : N__law_is_bar.Nodup := by decide +kernel
  have tk : Takes (cxOf (L2.CX P w) P w K mg base N__law_is_bar "_law_is_bar" (defScope HeadT.s__law_is_bar) f cdv A outer s H E) (EX E) := takes_of rfl rfl rfl rfl
  have hp : PassesOwn (model P w) (cxOf (L2.CX P w) P w K mg base N__law_is_bar "_law_is_bar" (defScope HeadT.s__law_is_bar) f cdv A outer s H E).A (cxOf (L2.CX P w) P w K mg base N__law_is_bar "_law_is_bar" (defScope HeadT.s__law_is_bar) f cdv A outer s H E).env (cxOf (L2.CX P w) P w K mg base N__law_is_bar "_law_is_bar" (defScope HeadT.s__law_is_bar) f cdv A outer s H E).xe := passes_of rfl
  delta c__law_is_bar
  try delta m__law_is_bar_4
  try delta m__law_is_bar_3
  try delta m__law_is_bar_2
  try delta m__law_is_bar_1
  exact (cs_cons (cs_if (pmt_not (pmt_val (pm_isi2 .list .tuple (by rfl) m_isinstance (pm_of (pv 3)) (by rfl) m_list ty_list (by rfl) m_tuple ty_tuple))) (cs_one (cs_ret pm_bl)) cs_nil) (cs_cons (cs_if (pmt_not (pmt_val (b_all rfl m_all (pma_cons (PMo.pm (pmo_lc (own := [("one", 5)]) rfl nd (pmi_seq (pm_of (pv 3))) (blkOk_by (by kernel_rfl)) (fun _ _ _ _ _ => (pg_name (i := 5) nd rfl (by first | exact Or.inl rfl | exact Or.inr rfl))) gok_name (fun _ _ _ _ _ => pmts_nil) (fun _ _ _ _ _ => (pm_and (pm_isi .int (by rfl) m_isinstance (pm_of (pv 5)) (by rfl) m_int ty_int) (pm_one (pm_not (pm_isi .bool (by rfl) m_isinstance (pm_of (pv 5)) (by rfl) m_bool ty_bool))))))) pma_nil)))) (cs_one (cs_ret pm_bl)) cs_nil) (cs_cons (cs_set (i := 4) nd rfl (by first | exact Or.inl rfl | exact Or.inr rfl) (PMo.pm (b_list m_list (pma_cons (pm_of (pv 3)) pma_nil)))) (cs_cons (cs_if (pmt_not (pmt_val (b_all rfl m_all (pma_cons (PMo.pm (pmo_lc (own := [("one", 5)]) rfl nd (pmi_seq (pm_of (pv 4))) (blkOk_by (by kernel_rfl)) (fun _ _ _ _ _ => (pg_name (i := 5) nd rfl (by first | exact Or.inl rfl | exact Or.inr rfl))) gok_name (fun _ _ _ _ _ => pmts_nil) (fun _ _ _ _ _ => (pm_and (pm_chain (f := iLe) (g := iLt) op_le op_lt (pm_nat (k := 0)) (pm_of (pv 5)) (pm_of (pv 0))) (pm_one (pm_eq (un_of hr) (pm_fn1 h__law_divisor (hr.mono (by decide)) hgd takes_w0 (fun _ _ _ _ _ _ _ _ us ws h1 h2 => match us, ws, h1, h2 with | [_, _], [], _, _ => rfl) (by rfl) (pma_cons (pm_of (pv 0)) (pma_cons (pm_of (pv 5)) pma_nil))) (pm_nat (k := 1)))))))) pma_nil)))) (cs_one (cs_ret pm_bl)) cs_nil) (cs_cons (cs_if (PMw.pt (pmw_or (pmt_not (pmt_val (b_all rfl m_all (pma_cons (PMo.pm (pmo_lc (own := [("one", 5), ("late", 6)]) rfl nd (pmi_zip (by rfl) m_zip (pma_cons (pm_of (pv 4)) (pma_cons (pm_sl (pm_of (pv 4)) (pmO_some (pm_nat (k := 1))) pmO_none) pma_nil))) (blkOk_by (by kernel_rfl)) (fun _ _ _ _ _ => (pg_tup rfl (pgs_cons (pg_name (i := 5) nd rfl (by first | exact Or.inl rfl | exact Or.inr rfl)) (pgs_cons (pg_name (i := 6) nd rfl (by first | exact Or.inl rfl | exact Or.inr rfl)) pgs_nil)))) (gok_tup (gsok_cons gok_name (gsok_cons gok_name gsok_nil)) (fs_len_cons (fs_len_cons fs_len_nil))) (fun _ _ _ _ _ => pmts_nil) (fun _ _ _ _ _ => (pm_lt (pm_of (pv 5)) (pm_of (pv 6)))))) pma_nil)))) (pmw_or (pmt_notInX (un_of hr) (pm_mod (b_int m_int (pma_cons (pm_nat (k := 1)) pma_nil)) (pm_of (pv 0))) (pm_of (pv 4))) (pmw_or1 (pmt_inX (un_of hr) (pm_of (pv 2)) (pm_of (pv 4))))))) (cs_one (cs_ret pm_bl)) cs_nil) (cs_one (cs_ret (b_all rfl m_all (pma_cons (PMo.pm (pmo_lc (own := [("one", 5)]) rfl nd (pmi_seq (pm_of (pv 4))) (blkOk_by (by kernel_rfl)) (fun _ _ _ _ _ => (pg_name (i := 5) nd rfl (by first | exact Or.inl rfl | exact Or.inr rfl))) gok_name (fun _ _ _ _ _ => pmts_nil) (fun _ _ _ _ _ => (pm_inX (un_of hr) (pm_mod (b_int m_int (pma_cons (pm_mul (pm_of (pv 5)) (pm_of (pv 1))) pma_nil)) (pm_of (pv 0))) (pm_of (pv 4)))))) pma_nil)))))))))
theorem sc__law_is_bar : FnScope N__law_is_bar ps__law_is_bar (defScope HeadT.s__law_is_bar) := ⟨rfl, rfl, rfl, by decide +kernel, rfl, by decide +kernel, by decide +kernel⟩
theorem b__law_bent {P : Program} {w : World} {K : PySem.W.Frag} {mg : Str → Option Value} {base : Heap} (h__law_draw : FnX P w K mg base "_law_draw" (defArgs HeadT.s__law_draw) 1 ps__law_draw F__law_draw) (h__law_pick : FnX P w K mg base "_law_pick" (defArgs HeadT.s__law_pick) 2 ps__law_pick F__law_pick) (h__law_units : FnX P w K mg base "_law_units" (defArgs HeadT.s__law_units) 2 ps__law_units F__law_units) (m_dict : mg "dict" = none) (m_len : mg "len" = none) (m_list : mg "list" = none) (m_sorted : mg "sorted" = none) (m_tuple : mg "tuple" = none) : BodyOk P w K mg base 2 "_law_bent" (defBody HeadT.s__law_bent) (defScope HeadT.s__law_bent) N__law_bent c__law_bent := by
  intro f cdv A outer s H E En hr hgd
  have nd : N__law_bent.Nodup := by decide +kernel
  have tk : Takes (cxOf (L2.CX P w) P w K mg base N__law_bent "_law_bent" (defScope HeadT.s__law_bent) f cdv A outer s H E) (EX E) := takes_of rfl rfl rfl rfl
  have hp : PassesOwn (model P w) (cxOf (L2.CX P w) P w K mg base N__law_bent "_law_bent" (defScope HeadT.s__law_bent) f cdv A outer s H E).A (cxOf (L2.CX P w) P w K mg base N__law_bent "_law_bent" (defScope HeadT.s__law_bent) f cdv A outer s H E).env (cxOf (L2.CX P w) P w K mg base N__law_bent "_law_bent" (defScope HeadT.s__law_bent) f cdv A outer s H E).xe := passes_of rfl
  delta c__law_bent
  try delta m__law_bent_1
  exact (cs_cons (cs_par (ps_par (i := 4) (j := 5) rfl nd rfl rfl (by decide) rfl rfl (PMu.pa (pmu_val (PMo.pm (b_list m_list (pma_cons (pm_of (pv 2)) pma_nil))) (pmu_val (pm_fn1 h__law_draw (hr.mono (by decide)) hgd tk (fun _ _ _ _ _ _ _ _ us ws h1 h2 => match us, ws, h1, h2 with | [_, _], [], _, _ => rfl) (by rfl) (pma_cons (pm_of (pv 0)) (pma_cons (pm_nat (k := 6)) pma_nil))) pmu_nil))) rfl)) (cs_cons (cs_if (pmt_eq (un_of hr) (pm_of (pv 5)) (pm_nat (k := 0))) (cs_one (cs_ret (pm_fn1 h__law_pick (hr.mono (by decide)) hgd tk (fun _ _ _ _ _ _ _ _ us ws h1 h2 => match us, ws, h1, h2 with | [_, _], [], _, _ => rfl) (by rfl) (pma_cons (pm_of (pv 0)) (pma_cons (PMo.pm (pmo_lst (pma_cons pm_non (pma_cons pm_emp (pma_cons (PMo.pm (pmo_lst pma_nil)) (pma_cons pm_str (pma_cons (b_tuple m_tuple (pma_cons (pm_of (pv 4)) pma_nil)) (pma_cons (pm_add (pm_of (pv 4)) (pm_sl (pm_of (pv 4)) pmO_none (pmO_some (pm_nat (k := 1))))) (pma_cons (pm_sl (pm_of (pv 4)) (pmO_some (pm_nat (k := 1))) pmO_none) (pma_cons (pm_nat (k := 5)) pma_nil)))))))))) pma_nil))))) cs_nil) (cs_cons (cs_set (i := 3) nd rfl (by first | exact Or.inl rfl | exact Or.inr rfl) (pm_fn1 h__law_draw (hr.mono (by decide)) hgd tk (fun _ _ _ _ _ _ _ _ us ws h1 h2 => match us, ws, h1, h2 with | [_, _], [], _, _ => rfl) (by rfl) (pma_cons (pm_of (pv 0)) (pma_cons (b_len m_len (pma_cons (pm_of (pv 4)) pma_nil)) pma_nil)))) (cs_cons (cs_if (pmt_eq (un_of hr) (pm_of (pv 5)) (pm_nat (k := 1))) (cs_one (cs_ret (PMo.pm (pmo_rev (pm_of (pv 4)))))) cs_nil) (cs_cons (cs_if (pmt_lt (pm_of (pv 5)) (pm_nat (k := 4))) (cs_one (cs_reto (pmo_sdict rfl m_sorted m_dict (pma_cons (PMo.pm (pmo_lc (own := [("one", 6)]) rfl nd (pmi_seq (pm_add (pm_of (pv 4)) (PMo.pm (pmo_lst (pma_cons (pm_fn1 h__law_pick (hr.mono (by decide)) hgd tk (fun _ _ _ _ _ _ _ _ us ws h1 h2 => match us, ws, h1, h2 with | [_, _], [], _, _ => rfl) (by rfl) (pma_cons (pm_of (pv 0)) (pma_cons (pm_fn1 h__law_units (hr.mono (by decide)) hgd tk (fun _ _ _ _ _ _ _ _ us ws h1 h2 => match us, ws, h1, h2 with | [_], [], _, _ => rfl) (by rfl) (pma_cons (pm_of (pv 1)) pma_nil)) pma_nil))) pma_nil))))) (blkOk_by (by kernel_rfl)) (fun _ _ _ _ _ => (pg_name (i := 6) nd rfl (by first | exact Or.inl rfl | exact Or.inr rfl))) gok_name (fun _ _ _ _ _ => pmts_nil) (fun _ _ _ _ _ => (pm_tup (pma_cons (pm_of (pv 6)) (pma_cons (pm_nat (k := 1)) pma_nil)))))) pma_nil)))) cs_nil) (cs_one (cs_reto (pmo_add (pm_add (pm_sl (pm_of (pv 4)) pmO_none (pmO_some (pm_of (pv 3)))) (PMo.pm (pmo_lst (pma_cons (pm_fn1 h__law_pick (hr.mono (by decide)) hgd tk (fun _ _ _ _ _ _ _ _ us ws h1 h2 => match us, ws, h1, h2 with | [_, _], [], _, _ => rfl) (by rfl) (pma_cons (pm_of (pv 0)) (pma_cons (PMo.pm (pmo_lst (pma_cons (pm_nat (k := 0)) (pma_cons pm_non (pma_cons pm_bl (pma_cons (pm_of (pv 1)) (pma_cons (pm_neg (pm_nat (k := 1))) (pma_cons (pm_add (pm_ixd (pm_of (pv 4)) (pm_of (pv 3))) (pm_nat (k := 1))) (pma_cons (pm_tup (pma_cons (pm_nat (k := 1)) pma_nil)) pma_nil))))))))) pma_nil))) pma_nil)))) (pm_sl (pm_of (pv 4)) (pmO_some (pm_add (pm_of (pv 3)) (pm_nat (k := 1)))) pmO_none)))))))))
theorem sc__law_bent : FnScope N__law_bent ps__law_bent (defScope HeadT.s__law_bent) := ⟨rfl, rfl, rfl, by decide +kernel, rfl, by decide +kernel, by decide +kernel⟩
theorem b__law_parts_right {P : Program} {w : World} {K : PySem.W.Frag} {mg : Str → Option Value} {base : Heap} (h__law_divisor : FnX P w K mg base "_law_divisor" (defArgs HeadT.s__law_divisor) 1 ps__law_divisor F__law_divisor) (h__law_draw : FnX P w K mg base "_law_draw" (defArgs HeadT.s__law_draw) 1 ps__law_draw F__law_draw) (h_order_of_unit : FnX P w K mg base "order_of_unit" (defArgs HeadT.s_order_of_unit) 5 ps_order_of_unit F_order_of_unit) (h_square_roots : FnX P w K mg base "square_roots" (defArgs HeadT.s_square_roots) 5 ps_square_roots F_square_roots) (h_units : FnX P w K mg base "units" (defArgs HeadT.s_units) 4 ps_units F_units) (m_int : mg "int" = none) (m_len : mg "len" = none) : BodyOk P w K mg base 5 "_law_parts_right" (defBody HeadT.s__law_parts_right) (defScope HeadT.s__law_parts_right) N__law_parts_right c__law_parts_right := by
  intro f cdv A outer s H E En hr hgd
  have nd : N__law_parts_right.Nodup := by decide +kernel
  have tk : Takes (cxOf (L2.CX P w) P w K mg base N__law_parts_right "_law_parts_right" (defScope HeadT.s__law_parts_right) f cdv A outer s H E) (EX E) := takes_of rfl rfl rfl rfl
  have hp : PassesOwn (model P w) (cxOf (L2.CX P w) P w K mg base N__law_parts_right "_law_parts_right" (defScope HeadT.s__law_parts_right) f cdv A outer s H E).A (cxOf (L2.CX P w) P w K mg base N__law_parts_right "_law_parts_right" (defScope HeadT.s__law_parts_right) f cdv A outer s H E).env (cxOf (L2.CX P w) P w K mg base N__law_parts_right "_law_parts_right" (defScope HeadT.s__law_parts_right) f cdv A outer s H E).xe := passes_of rfl
  delta c__law_parts_right
  exact (cs_cons (cs_par (ps_par (i := 4) (j := 5) rfl nd rfl rfl (by decide) rfl rfl (PMu.pa (pmu_val (pm_add (pm_nat (k := 2)) (pm_fn1 h__law_draw (hr.mono (by decide)) hgd tk (fun _ _ _ _ _ _ _ _ us ws h1 h2 => match us, ws, h1, h2 with | [_, _], [], _, _ => rfl) (by rfl) (pma_cons (pm_of (pv 0)) (pma_cons (pm_nat (k := 18)) pma_nil)))) (pmu_val (pm_add (pm_nat (k := 2)) (pm_fn1 h__law_draw (hr.mono (by decide)) hgd tk (fun _ _ _ _ _ _ _ _ us ws h1 h2 => match us, ws, h1, h2 with | [_, _], [], _, _ => rfl) (by rfl) (pma_cons (pm_of (pv 0)) (pma_cons (pm_nat (k := 18)) pma_nil)))) pmu_nil))) rfl)) (cs_cons (cs_if (pmt_ne (un_of hr) (pm_fn1 h__law_divisor (hr.mono (by decide)) hgd tk (fun _ _ _ _ _ _ _ _ us ws h1 h2 => match us, ws, h1, h2 with | [_, _], [], _, _ => rfl) (by rfl) (pma_cons (pm_of (pv 4)) (pma_cons (pm_of (pv 5)) pma_nil))) (pm_nat (k := 1))) (cs_one (cs_ret pm_bl)) cs_nil) (cs_cons (cs_set (i := 1) nd rfl (by first | exact Or.inl rfl | exact Or.inr rfl) (pm_mul (pm_of (pv 4)) (pm_of (pv 5)))) (cs_cons (cs_set (i := 2) nd rfl (by first | exact Or.inl rfl | exact Or.inr rfl) (pm_fn1 h__law_draw (hr.mono (by decide)) hgd tk (fun _ _ _ _ _ _ _ _ us ws h1 h2 => match us, ws, h1, h2 with | [_, _], [], _, _ => rfl) (by rfl) (pma_cons (pm_of (pv 0)) (pma_cons (pm_of (pv 1)) pma_nil)))) (cs_cons (cs_par (ps_par (i := 6) (j := 7) rfl nd rfl rfl (by decide) rfl rfl (PMu.pa (pmu_val (pm_mod (b_int m_int (pma_cons (pm_of (pv 2)) pma_nil)) (pm_of (pv 4))) (pmu_val (pm_mod (b_int m_int (pma_cons (pm_of (pv 2)) pma_nil)) (pm_of (pv 5))) pmu_nil))) rfl)) (cs_cons (cs_if (pmt_ne (un_of hr) (pm_inX (un_of hr) (pm_of (pv 2)) (pm_fn1 h_units (hr.mono (by decide)) hgd tk (fun _ _ _ _ _ _ _ _ us ws h1 h2 => match us, ws, h1, h2 with | [_], [], _, _ => rfl) (by rfl) (pma_cons (pm_of (pv 1)) pma_nil))) (pm_and (pm_inX (un_of hr) (pm_of (pv 6)) (pm_fn1 h_units (hr.mono (by decide)) hgd tk (fun _ _ _ _ _ _ _ _ us ws h1 h2 => match us, ws, h1, h2 with | [_], [], _, _ => rfl) (by rfl) (pma_cons (pm_of (pv 4)) pma_nil))) (pm_one (pm_inX (un_of hr) (pm_of (pv 7)) (pm_fn1 h_units (hr.mono (by decide)) hgd tk (fun _ _ _ _ _ _ _ _ us ws h1 h2 => match us, ws, h1, h2 with | [_], [], _, _ => rfl) (by rfl) (pma_cons (pm_of (pv 5)) pma_nil)))))) (cs_one (cs_ret pm_bl)) cs_nil) (cs_cons (cs_if (pmt_ne (un_of hr) (b_len m_len (pma_cons (pm_fn1 h_square_roots (hr.mono (by decide)) hgd tk (fun _ _ _ _ _ _ _ _ us ws h1 h2 => match us, ws, h1, h2 with | [_, _], [], _, _ => rfl) (by rfl) (pma_cons (pm_of (pv 1)) (pma_cons (pm_of (pv 2)) pma_nil))) pma_nil)) (pm_mul (b_len m_len (pma_cons (pm_fn1 h_square_roots (hr.mono (by decide)) hgd tk (fun _ _ _ _ _ _ _ _ us ws h1 h2 => match us, ws, h1, h2 with | [_, _], [], _, _ => rfl) (by rfl) (pma_cons (pm_of (pv 4)) (pma_cons (pm_of (pv 6)) pma_nil))) pma_nil)) (b_len m_len (pma_cons (pm_fn1 h_square_roots (hr.mono (by decide)) hgd tk (fun _ _ _ _ _ _ _ _ us ws h1 h2 => match us, ws, h1, h2 with | [_, _], [], _, _ => rfl) (by rfl) (pma_cons (pm_of (pv 5)) (pma_cons (pm_of (pv 7)) pma_nil))) pma_nil)))) (cs_one (cs_ret pm_bl)) cs_nil) (cs_cons (cs_if (pmt_ne (un_of hr) (b_len m_len (pma_cons (pm_fn1 h_units (hr.mono (by decide)) hgd tk (fun _ _ _ _ _ _ _ _ us ws h1 h2 => match us, ws, h1, h2 with | [_], [], _, _ => rfl) (by rfl) (pma_cons (pm_of (pv 1)) pma_nil)) pma_nil)) (pm_mul (b_len m_len (pma_cons (pm_fn1 h_units (hr.mono (by decide)) hgd tk (fun _ _ _ _ _ _ _ _ us ws h1 h2 => match us, ws, h1, h2 with | [_], [], _, _ => rfl) (by rfl) (pma_cons (pm_of (pv 4)) pma_nil)) pma_nil)) (b_len m_len (pma_cons (pm_fn1 h_units (hr.mono (by decide)) hgd tk (fun _ _ _ _ _ _ _ _ us ws h1 h2 => match us, ws, h1, h2 with | [_], [], _, _ => rfl) (by rfl) (pma_cons (pm_of (pv 5)) pma_nil)) pma_nil)))) (cs_one (cs_ret pm_bl)) cs_nil) (cs_cons (cs_if (pmt_notInX (un_of hr) (pm_of (pv 2)) (pm_fn1 h_units (hr.mono (by decide)) hgd tk (fun _ _ _ _ _ _ _ _ us ws h1 h2 => match us, ws, h1, h2 with | [_], [], _, _ => rfl) (by rfl) (pma_cons (pm_of (pv 1)) pma_nil))) (cs_one (cs_ret pm_bl)) cs_nil) (cs_cons (cs_set (i := 3) nd rfl (by first | exact Or.inl rfl | exact Or.inr rfl) (PMo.pm (pmo_lst (pma_cons (pm_fn1 h_order_of_unit (hr.mono (by decide)) hgd tk (fun _ _ _ _ _ _ _ _ us ws h1 h2 => match us, ws, h1, h2 with | [_, _], [], _, _ => rfl) (by rfl) (pma_cons (pm_of (pv 4)) (pma_cons (pm_of (pv 6)) pma_nil))) (pma_cons (pm_fn1 h_order_of_unit (hr.mono (by decide)) hgd tk (fun _ _ _ _ _ _ _ _ us ws h1 h2 => match us, ws, h1, h2 with | [_, _], [], _, _ => rfl) (by rfl) (pma_cons (pm_of (pv 5)) (pma_cons (pm_of (pv 7)) pma_nil))) pma_nil))))) (cs_one (cs_ret (pm_eq (un_of hr) (pm_fn1 h_order_of_unit (hr.mono (by decide)) hgd tk (fun _ _ _ _ _ _ _ _ us ws h1 h2 => match us, ws, h1, h2 with | [_, _], [], _, _ => rfl) (by rfl) (pma_cons (pm_of (pv 1)) (pma_cons (pm_of (pv 2)) pma_nil))) (pm_div (pm_mul (pm_ixd (pm_of (pv 3)) (pm_nat (k := 0))) (pm_ixd (pm_of (pv 3)) (pm_nat (k := 1)))) (pm_fn1 h__law_divisor (hr.mono (by decide)) hgd tk (fun _ _ _ _ _ _ _ _ us ws h1 h2 => match us, ws, h1, h2 with | [_, _], [], _, _ => rfl) (by rfl) (pma_cons (pm_ixd (pm_of (pv 3)) (pm_nat (k := 0))) (pma_cons (pm_ixd (pm_of (pv 3)) (pm_nat (k := 1))) pma_nil)))))))))))))))))
theorem sc__law_parts_right : FnScope N__law_parts_right ps__law_parts_right (defScope HeadT.s__law_parts_right) := ⟨rfl, rfl, rfl, by decide +kernel, rfl, by decide +kernel, by decide +kernel⟩
theorem b__law_right {P : Program} {w : World} {K : PySem.W.Frag} {mg : Str → Option Value} {base : Heap} (h__law_all_powers : FnX P w K mg base "_law_all_powers" (defArgs HeadT.s__law_all_powers) 1 ps__law_all_powers F__law_all_powers) (h__law_bent : FnX P w K mg base "_law_bent" (defArgs HeadT.s__law_bent) 3 ps__law_bent F__law_bent) (h__law_clock : FnX P w K mg base "_law_clock" (defArgs HeadT.s__law_clock) 3 ps__law_clock F__law_clock) (h__law_is_bar : FnX P w K mg base "_law_is_bar" (defArgs HeadT.s__law_is_bar) 2 ps__law_is_bar F__law_is_bar) (h__law_parts_right : FnX P w K mg base "_law_parts_right" (defArgs HeadT.s__law_parts_right) 6 ps__law_parts_right F__law_parts_right) (h__law_pick : FnX P w K mg base "_law_pick" (defArgs HeadT.s__law_pick) 2 ps__law_pick F__law_pick) (h__law_units : FnX P w K mg base "_law_units" (defArgs HeadT.s__law_units) 2 ps__law_units F__law_units) (h_is_power_bar : FnX P w K mg base "is_power_bar" (defArgs HeadT.s_is_power_bar) 6 ps_is_power_bar F_is_power_bar) (h_logarithm : FnX P w K mg base "logarithm" (defArgs HeadT.s_logarithm) 6 ps_logarithm F_logarithm) (h_power_bar : FnX P w K mg base "power_bar" (defArgs HeadT.s_power_bar) 6 ps_power_bar F_power_bar) (h_power_of : FnX P w K mg base "power_of" (defArgs HeadT.s_power_of) 5 ps_power_of F_power_of) (m_range : mg "range" = none) (m_repr : mg "repr" = none) (m_sorted : mg "sorted" = none) : BodyOk P w K mg base 6 "_law_right" (defBody HeadT.s__law_right) (defScope HeadT.s__law_right) N__law_right c__law_right := by
  intro f cdv A outer s H E En hr hgd
  have nd : N__law_right.Nodup := by decide +kernel
  have tk : Takes (cxOf (L2.CX P w) P w K mg base N__law_right "_law_right" (defScope HeadT.s__law_right) f cdv A outer s H E) (EX E) := takes_of rfl rfl rfl rfl
  have hp : PassesOwn (model P w) (cxOf (L2.CX P w) P w K mg base N__law_right "_law_right" (defScope HeadT.s__law_right) f cdv A outer s H E).A (cxOf (L2.CX P w) P w K mg base N__law_right "_law_right" (defScope HeadT.s__law_right) f cdv A outer s H E).env (cxOf (L2.CX P w) P w K mg base N__law_right "_law_right" (defScope HeadT.s__law_right) f cdv A outer s H E).xe := passes_of rfl
  delta c__law_right
  try delta b__law_right_3
  try delta b__law_right_2
  try delta m__law_right_1
  exact (cs_cons (cs_set (i := 1) nd rfl (by first | exact Or.inl rfl | exact Or.inr rfl) (pm_fn1 h__law_pick (hr.mono (by decide)) hgd tk (fun _ _ _ _ _ _ _ _ us ws h1 h2 => match us, ws, h1, h2 with | [_, _], [], _, _ => rfl) (by rfl) (pma_cons (pm_of (pv 0)) (pma_cons (PMo.pm (pmo_lst (pma_cons (pm_fn1 h__law_clock (hr.mono (by decide)) hgd tk (fun _ _ _ _ _ _ _ _ us ws h1 h2 => match us, ws, h1, h2 with | [_, _], [], _, _ => rfl) (by rfl) (pma_cons (pm_of (pv 0)) (pma_cons (pm_nat (k := 400)) pma_nil))) (pma_cons (pm_fn1 h__law_clock (hr.mono (by decide)) hgd tk (fun _ _ _ _ _ _ _ _ us ws h1 h2 => match us, ws, h1, h2 with | [_, _], [], _, _ => rfl) (by rfl) (pma_cons (pm_of (pv 0)) (pma_cons (pm_nat (k := 60)) pma_nil))) (pma_cons (pm_nat (k := 15)) (pma_cons (pm_nat (k := 97)) pma_nil)))))) pma_nil)))) (cs_cons (cs_set (i := 2) nd rfl (by first | exact Or.inl rfl | exact Or.inr rfl) (pm_fn1 h__law_units (hr.mono (by decide)) hgd tk (fun _ _ _ _ _ _ _ _ us ws h1 h2 => match us, ws, h1, h2 with | [_], [], _, _ => rfl) (by rfl) (pma_cons (pm_of (pv 1)) pma_nil))) (cs_cons (cs_set (i := 3) nd rfl (by first | exact Or.inl rfl | exact Or.inr rfl) (pm_fn1 h__law_pick (hr.mono (by decide)) hgd tk (fun _ _ _ _ _ _ _ _ us ws h1 h2 => match us, ws, h1, h2 with | [_, _], [], _, _ => rfl) (by rfl) (pma_cons (pm_of (pv 0)) (pma_cons (pm_of (pv 2)) pma_nil)))) (cs_cons (cs_set (i := 4) nd rfl (by first | exact Or.inl rfl | exact Or.inr rfl) (pm_fn1 h__law_all_powers (hr.mono (by decide)) hgd tk (fun _ _ _ _ _ _ _ _ us ws h1 h2 => match us, ws, h1, h2 with | [_, _], [], _, _ => rfl) (by rfl) (pma_cons (pm_of (pv 1)) (pma_cons (pm_of (pv 3)) pma_nil)))) (cs_cons (cs_for hp rfl (pmi_seq (PMo.pm (pmo_lst (pma_cons (pm_fn1 h__law_pick (hr.mono (by decide)) hgd tk (fun _ _ _ _ _ _ _ _ us ws h1 h2 => match us, ws, h1, h2 with | [_, _], [], _, _ => rfl) (by rfl) (pma_cons (pm_of (pv 0)) (pma_cons (pm_of (pv 2)) pma_nil))) (pma_cons (pm_fn1 h__law_pick (hr.mono (by decide)) hgd tk (fun _ _ _ _ _ _ _ _ us ws h1 h2 => match us, ws, h1, h2 with | [_, _], [], _, _ => rfl) (by rfl) (pma_cons (pm_of (pv 0)) (pma_cons (pm_of (pv 4)) pma_nil))) (pma_cons (pm_fn1 h__law_pick (hr.mono (by decide)) hgd tk (fun _ _ _ _ _ _ _ _ us ws h1 h2 => match us, ws, h1, h2 with | [_, _], [], _, _ => rfl) (by rfl) (pma_cons (pm_of (pv 0)) (pma_cons (pm_of (pv 2)) pma_nil))) pma_nil)))))) (pg_name (i := 5) nd rfl (by first | exact Or.inl rfl | exact Or.inr rfl)) tg_name (cs_cons (cs_set (i := 6) nd rfl (by first | exact Or.inl rfl | exact Or.inr rfl) (pm_if (pmt_inX (un_of hr) (pm_of (pv 5)) (pm_of (pv 4))) (pm_index (un_of hr) (pm_of (pv 4)) (pm_of (pv 5))) pm_non)) (cs_cons (cs_if (pmt_ne (un_of hr) (b_reprE (un_of hr) hgd m_repr (pma_cons (PMo.pm (pmo_lst (pma_cons (pm_fn1 h_logarithm (hr.mono (by decide)) hgd tk (fun _ _ _ _ _ _ _ _ us ws h1 h2 => match us, ws, h1, h2 with | [_, _, _], [], _, _ => rfl) (by rfl) (pma_cons (pm_of (pv 1)) (pma_cons (pm_of (pv 3)) (pma_cons (pm_of (pv 5)) pma_nil)))) (pma_cons (pm_fnk0 (ks := ["unit", "base", "clock"]) h_logarithm (hr.mono (by decide)) hgd tk (fun _ _ _ _ _ _ _ _ us ws h1 h2 => match us, ws, h1, h2 with | [], [_, _, _], _, _ => rfl) (by rfl) (pmk_cons (pm_of (pv 5)) (pmk_cons (pm_of (pv 3)) (pmk_cons (pm_of (pv 1)) pmk_nil)))) pma_nil)))) pma_nil)) (b_reprE (un_of hr) hgd m_repr (pma_cons (PMo.pm (pmo_lst (pma_cons (pm_of (pv 6)) (pma_cons (pm_of (pv 6)) pma_nil)))) pma_nil))) (cs_one (cs_ret pm_bl)) cs_nil) (cs_cons (cs_set (i := 7) nd rfl (by first | exact Or.inl rfl | exact Or.inr rfl) (pm_if (pmt_isN (pm_of (pv 6))) (PMo.pm (b_sorted m_sorted (pma_cons (pm_of (pv 4)) pma_nil))) pm_non)) (cs_cons (cs_if (pmt_ne (un_of hr) (b_reprE (un_of hr) hgd m_repr (pma_cons (PMo.pm (pmo_lst (pma_cons (pm_fn1 h_power_bar (hr.mono (by decide)) hgd tk (fun _ _ _ _ _ _ _ _ us ws h1 h2 => match us, ws, h1, h2 with | [_, _, _], [], _, _ => rfl) (by rfl) (pma_cons (pm_of (pv 1)) (pma_cons (pm_of (pv 3)) (pma_cons (pm_of (pv 5)) pma_nil)))) (pma_cons (pm_fnk0 (ks := ["unit", "base", "clock"]) h_power_bar (hr.mono (by decide)) hgd tk (fun _ _ _ _ _ _ _ _ us ws h1 h2 => match us, ws, h1, h2 with | [], [_, _, _], _, _ => rfl) (by rfl) (pmk_cons (pm_of (pv 5)) (pmk_cons (pm_of (pv 3)) (pmk_cons (pm_of (pv 1)) pmk_nil)))) pma_nil)))) pma_nil)) (b_reprE (un_of hr) hgd m_repr (pma_cons (PMo.pm (pmo_lst (pma_cons (pm_of (pv 7)) (pma_cons (pm_of (pv 7)) pma_nil)))) pma_nil))) (cs_one (cs_ret pm_bl)) cs_nil) (cs_cons (cs_if (PMw.pt (pmw_and (pmt_notN (pm_of (pv 6))) (pmw_and1 (pmt_ne (un_of hr) (pm_fn1 h_power_of (hr.mono (by decide)) hgd tk (fun _ _ _ _ _ _ _ _ us ws h1 h2 => match us, ws, h1, h2 with | [_, _, _], [], _, _ => rfl) (by rfl) (pma_cons (pm_of (pv 1)) (pma_cons (pm_of (pv 3)) (pma_cons (pm_of (pv 6)) pma_nil)))) (pm_of (pv 5)))))) (cs_one (cs_ret pm_bl)) cs_nil) (cs_cons (cs_for hp rfl (pmi_seq (pm_add (PMo.pm (pmo_lst (pma_cons (pm_of (pv 7)) (pma_cons pm_non (pma_cons (PMo.pm (b_sorted m_sorted (pma_cons (pm_of (pv 4)) pma_nil))) pma_nil))))) (PMo.pm (pmo_lc (own := [("turn", 12)]) rfl nd (pmi_range1 (by rfl) m_range (pma_cons (pm_nat (k := 8)) pma_nil)) (blkOk_by (by kernel_rfl)) (fun _ _ _ _ _ => (pg_name (i := 12) nd rfl (by first | exact Or.inl rfl | exact Or.inr rfl))) gok_name (fun _ _ _ _ _ => pmts_nil) (fun _ _ _ _ _ => (pm_fn1 h__law_bent (hr.mono (by decide)) hgd takes_w0 (fun _ _ _ _ _ _ _ _ us ws h1 h2 => match us, ws, h1, h2 with | [_, _, _], [], _, _ => rfl) (by rfl) (pma_cons (pm_of (pv 0)) (pma_cons (pm_of (pv 1)) (pma_cons (PMo.pm (b_sorted m_sorted (pma_cons (pm_of (pv 4)) pma_nil))) pma_nil))))))))) (pg_name (i := 8) nd rfl (by first | exact Or.inl rfl | exact Or.inr rfl)) tg_name (cs_cons (cs_par (ps_par (i := 10) (j := 11) rfl nd rfl rfl (by decide) rfl rfl (PMu.pa (pmu_val (pm_fn1 h__law_is_bar (hr.mono (by decide)) hgd tk (fun _ _ _ _ _ _ _ _ us ws h1 h2 => match us, ws, h1, h2 with | [_, _, _, _], [], _, _ => rfl) (by rfl) (pma_cons (pm_of (pv 1)) (pma_cons (pm_of (pv 3)) (pma_cons (pm_of (pv 5)) (pma_cons (pm_of (pv 8)) pma_nil))))) (pmu_val (b_reprE (un_of hr) hgd m_repr (pma_cons (pm_of (pv 8)) pma_nil)) pmu_nil))) rfl)) (cs_cons (cs_seto (i := 9) nd rfl (by first | exact Or.inl rfl | exact Or.inr rfl) (pmo_lst (pma_cons (pm_fn1 h_is_power_bar (hr.mono (by decide)) hgd tk (fun _ _ _ _ _ _ _ _ us ws h1 h2 => match us, ws, h1, h2 with | [_, _, _, _], [], _, _ => rfl) (by rfl) (pma_cons (pm_of (pv 1)) (pma_cons (pm_of (pv 3)) (pma_cons (pm_of (pv 5)) (pma_cons (pm_of (pv 8)) pma_nil))))) pma_nil))) (cs_cons (cs_append (pe_bm PySem.F.plainAttrs_list PySem.F.slot_list_append PySem.F.type_list_append mt_append (pv 9) (pa_cons (PM.pe (pm_fnk0 (ks := ["value", "unit", "base", "clock"]) h_is_power_bar (hr.mono (by decide)) hgd tk (fun _ _ _ _ _ _ _ _ us ws h1 h2 => match us, ws, h1, h2 with | [], [_, _, _, _], _, _ => rfl) (by rfl) (pmk_cons (pm_of (pv 8)) (pmk_cons (pm_of (pv 5)) (pmk_cons (pm_of (pv 3)) (pmk_cons (pm_of (pv 1)) pmk_nil)))))) pa_nil))) (cs_one (cs_if (PMw.pt (pmw_or (pmt_ne (un_of hr) (pm_scal (b_reprE (un_of hr) hgd m_repr (pma_cons (pm_of (pv 9)) pma_nil))) (b_reprE (un_of hr) hgd m_repr (pma_cons (PMo.pm (pmo_lst (pma_cons (pm_of (pv 10)) (pma_cons (pm_of (pv 10)) pma_nil)))) pma_nil))) (pmw_or (pmt_ne (un_of hr) (b_reprE (un_of hr) hgd m_repr (pma_cons (pm_of (pv 8)) pma_nil)) (pm_of (pv 11))) (pmw_or1 (PMw.pt (pmw_and (pmt_val (pm_of (pv 10))) (pmw_and1 (pmt_notN (pm_of (pv 6)))))))))) (cs_one (cs_ret pm_bl)) cs_nil)))))) (cs_one (cs_if (pmt_notN (pm_of (pv 7))) (cs_cons (cs_dropapp (pe_bm PySem.F.plainAttrs_list PySem.F.slot_list_append PySem.F.type_list_append mt_append (PMo.pe (pmo_fn1 h_power_bar (hr.mono (by decide)) hgd tk (fun _ _ _ _ _ _ _ _ us ws h1 h2 => match us, ws, h1, h2 with | [_, _, _], [], _, _ => rfl) (by rfl) (pma_cons (pm_of (pv 1)) (pma_cons (pm_of (pv 3)) (pma_cons (pm_of (pv 5)) pma_nil))))) (pa_cons (PM.pe pm_non) pa_nil))) (cs_one (cs_if (pmt_ne (un_of hr) (pm_fn1 h_power_bar (hr.mono (by decide)) hgd tk (fun _ _ _ _ _ _ _ _ us ws h1 h2 => match us, ws, h1, h2 with | [_, _, _], [], _, _ => rfl) (by rfl) (pma_cons (pm_of (pv 1)) (pma_cons (pm_of (pv 3)) (pma_cons (pm_of (pv 5)) pma_nil)))) (pm_of (pv 7))) (cs_one (cs_ret pm_bl)) cs_nil))) cs_nil))))))))) (cs_one (cs_ret (pm_fn1 h__law_parts_right (hr.mono (by decide)) hgd tk (fun _ _ _ _ _ _ _ _ us ws h1 h2 => match us, ws, h1, h2 with | [_], [], _, _ => rfl) (by rfl) (pma_cons (pm_of (pv 0)) pma_nil)))))))))
theorem sc__law_right : FnScope N__law_right ps__law_right (defScope HeadT.s__law_right) := ⟨rfl, rfl, rfl, by decide +kernel, rfl, by decide +kernel, by decide +kernel⟩
theorem b_law {P : Program} {w : World} {K : PySem.W.Frag} {mg : Str → Option Value} {base : Heap} (h__law_parts_right : FnX P w K mg base "_law_parts_right" (defArgs HeadT.s__law_parts_right) 6 ps__law_parts_right F__law_parts_right) (h__law_pot : FnX P w K mg base "_law_pot" (defArgs HeadT.s__law_pot) 1 ps__law_pot F__law_pot) (h__law_right : FnX P w K mg base "_law_right" (defArgs HeadT.s__law_right) 7 ps__law_right F__law_right) (m_len : mg "len" = none) (m_max : mg "max" = none) (m_min : mg "min" = none) (m_range : mg "range" = none) : BodyOk P w K mg base 7 "law" (defBody HeadT.s_law) (defScope HeadT.s_law) N_law c_law := by
  intro f cdv A outer s H E En hr hgd
  have nd : N_law.Nodup := by decide +kernel
  have tk : Takes (cxOf (L2.CX P w) P w K mg base N_law "law" (defScope HeadT.s_law) f cdv A outer s H E) (EX E) := takes_of rfl rfl rfl rfl
  have hp : PassesOwn (model P w) (cxOf (L2.CX P w) P w K mg base N_law "law" (defScope HeadT.s_law) f cdv A outer s H E).A (cxOf (L2.CX P w) P w K mg base N_law "law" (defScope HeadT.s_law) f cdv A outer s H E).env (cxOf (L2.CX P w) P w K mg base N_law "law" (defScope HeadT.s_law) f cdv A outer s H E).xe := passes_of rfl
  delta c_law
  try delta b_law_1
  exact (cs_cons (cs_for hp rfl (pmi_range1 (by rfl) m_range (pma_cons (b_max2 rfl m_max (pma_cons (pm_nat (k := 1)) (pma_cons (b_min2 rfl m_min (pma_cons (pm_nat (k := 3)) (pma_cons (b_len m_len (pma_cons (pm_of (pv 0)) pma_nil)) pma_nil))) pma_nil))) pma_nil)) (pg_name (i := 1) nd rfl (by first | exact Or.inl rfl | exact Or.inr rfl)) tg_name (cs_cons (cs_set (i := 2) nd rfl (by first | exact Or.inl rfl | exact Or.inr rfl) (pm_fn1 h__law_pot (hr.mono (by decide)) hgd tk (fun _ _ _ _ _ _ _ _ us ws h1 h2 => match us, ws, h1, h2 with | [_, _], [], _, _ => rfl) (by rfl) (pma_cons (pm_of (pv 0)) (pma_cons (pm_of (pv 1)) pma_nil)))) (cs_one (cs_if (PMw.pt (pmw_or (pmt_not (pmt_val (pm_fn1 h__law_right (hr.mono (by decide)) hgd tk (fun _ _ _ _ _ _ _ _ us ws h1 h2 => match us, ws, h1, h2 with | [_], [], _, _ => rfl) (by rfl) (pma_cons (pm_of (pv 2)) pma_nil)))) (pmw_or1 (pmt_not (pmt_val (pm_fn1 h__law_parts_right (hr.mono (by decide)) hgd tk (fun _ _ _ _ _ _ _ _ us ws h1 h2 => match us, ws, h1, h2 with | [_], [], _, _ => rfl) (by rfl) (pma_cons (pm_of (pv 2)) pma_nil))))))) (cs_one (cs_ret pm_bl)) cs_nil)))) (cs_one (cs_ret pm_bl)))
theorem sc_law : FnScope N_law ps_law (defScope HeadT.s_law) := ⟨rfl, rfl, rfl, by decide +kernel, rfl, by decide +kernel, by decide +kernel⟩
abbrev lawParams : Arguments := defArgs HeadT.s_law
theorem facts {P : Program} {w : World} {K : PySem.W.Frag} {base : Heap} {mg : Str → Option Value} (KX : K.In base) (G : base.Ns mainGlobals mg) (c : He.SaysD HeadT.fa HeadT.fn K) : FnX P w K mg base "law" (defArgs HeadT.s_law) 8 ps_law F_law := by
  have m_abs : mg "abs" = none := He.free_ok KX G (c.fact 32 (f := .free "abs") rfl)
  have m_all : mg "all" = none := He.free_ok KX G (c.fact 33 (f := .free "all") rfl)
  have m_bool : mg "bool" = none := He.free_ok KX G (c.fact 34 (f := .free "bool") rfl)
  have m_dict : mg "dict" = none := He.free_ok KX G (c.fact 35 (f := .free "dict") rfl)
  have m_divmod : mg "divmod" = none := He.free_ok KX G (c.fact 36 (f := .free "divmod") rfl)
  have m_int : mg "int" = none := He.free_ok KX G (c.fact 37 (f := .free "int") rfl)
  have m_isinstance : mg "isinstance" = none := He.free_ok KX G (c.fact 38 (f := .free "isinstance") rfl)
  have m_len : mg "len" = none := He.free_ok KX G (c.fact 39 (f := .free "len") rfl)
  have m_list : mg "list" = none := He.free_ok KX G (c.fact 40 (f := .free "list") rfl)
  have m_max : mg "max" = none := He.free_ok KX G (c.fact 41 (f := .free "max") rfl)
  have m_min : mg "min" = none := He.free_ok KX G (c.fact 42 (f := .free "min") rfl)
  have m_range : mg "range" = none := He.free_ok KX G (c.fact 43 (f := .free "range") rfl)
  have m_repr : mg "repr" = none := He.free_ok KX G (c.fact 44 (f := .free "repr") rfl)
  have m_sorted : mg "sorted" = none := He.free_ok KX G (c.fact 45 (f := .free "sorted") rfl)
  have m_tuple : mg "tuple" = none := He.free_ok KX G (c.fact 46 (f := .free "tuple") rfl)
  have m_zip : mg "zip" = none := He.free_ok KX G (c.fact 47 (f := .free "zip") rfl)
  have m_MOST_CLOCK : ∃ t, mg "MOST_CLOCK" = some (.int 400 t) := He.int_ok KX G (c.fact 48 (f := .int "MOST_CLOCK" 400) rfl)
  have m_MOST_POWER : ∃ t, mg "MOST_POWER" = some (.int 1000000000000 t) := He.int_ok KX G (c.fact 49 (f := .int "MOST_POWER" 1000000000000) rfl)
  obtain ⟨fd_is_integer, D_is_integer⟩ := c.def_ 0 (d := HeadT.d_is_integer) rfl
  have h_is_integer : FnX P w K mg base "is_integer" (defArgs HeadT.s_is_integer) 1 ps_is_integer F_is_integer := fnx D_is_integer (He.glo_ok KX G (c.fact 0 (f := .glo "is_integer") rfl)) sc_is_integer (b_is_integer m_bool m_int m_isinstance)
  obtain ⟨fd_is_within, D_is_within⟩ := c.def_ 1 (d := HeadT.d_is_within) rfl
  have h_is_within : FnX P w K mg base "is_within" (defArgs HeadT.s_is_within) 2 ps_is_within F_is_within := fnx D_is_within (He.glo_ok KX G (c.fact 1 (f := .glo "is_within") rfl)) sc_is_within (b_is_within h_is_integer)
  obtain ⟨fd_is_list, D_is_list⟩ := c.def_ 2 (d := HeadT.d_is_list) rfl
  have h_is_list : FnX P w K mg base "is_list" (defArgs HeadT.s_is_list) 1 ps_is_list F_is_list := fnx D_is_list (He.glo_ok KX G (c.fact 2 (f := .glo "is_list") rfl)) sc_is_list (b_is_list m_isinstance m_list m_tuple)
  obtain ⟨fd_divisor, D_divisor⟩ := c.def_ 3 (d := HeadT.d_divisor) rfl
  have h_divisor : FnX P w K mg base "divisor" (defArgs HeadT.s_divisor) 1 ps_divisor F_divisor := fnx D_divisor (He.glo_ok KX G (c.fact 3 (f := .glo "divisor") rfl)) sc_divisor (b_divisor m_int)
  obtain ⟨fd_check_multiplier, D_check_multiplier⟩ := c.def_ 4 (d := HeadT.d_check_multiplier) rfl
  have h_check_multiplier : FnX P w K mg base "check_multiplier" (defArgs HeadT.s_check_multiplier) 3 ps_check_multiplier F_check_multiplier := fnx D_check_multiplier (He.glo_ok KX G (c.fact 4 (f := .glo "check_multiplier") rfl)) sc_check_multiplier (b_check_multiplier m_MOST_CLOCK h_is_within)
  obtain ⟨fd_check_remainder, D_check_remainder⟩ := c.def_ 5 (d := HeadT.d_check_remainder) rfl
  have h_check_remainder : FnX P w K mg base "check_remainder" (defArgs HeadT.s_check_remainder) 4 ps_check_remainder F_check_remainder := fnx D_check_remainder (He.glo_ok KX G (c.fact 5 (f := .glo "check_remainder") rfl)) sc_check_remainder (b_check_remainder h_check_multiplier h_is_within)
  obtain ⟨fd_is_unit_of, D_is_unit_of⟩ := c.def_ 6 (d := HeadT.d_is_unit_of) rfl
  have h_is_unit_of : FnX P w K mg base "is_unit_of" (defArgs HeadT.s_is_unit_of) 3 ps_is_unit_of F_is_unit_of := fnx D_is_unit_of (He.glo_ok KX G (c.fact 6 (f := .glo "is_unit_of") rfl)) sc_is_unit_of (b_is_unit_of h_divisor h_is_within)
  obtain ⟨fd_check_unit, D_check_unit⟩ := c.def_ 7 (d := HeadT.d_check_unit) rfl
  have h_check_unit : FnX P w K mg base "check_unit" (defArgs HeadT.s_check_unit) 4 ps_check_unit F_check_unit := fnx D_check_unit (He.glo_ok KX G (c.fact 7 (f := .glo "check_unit") rfl)) sc_check_unit (b_check_unit h_check_multiplier h_is_unit_of)
  obtain ⟨fd_units_of, D_units_of⟩ := c.def_ 8 (d := HeadT.d_units_of) rfl
  have h_units_of : FnX P w K mg base "units_of" (defArgs HeadT.s_units_of) 2 ps_units_of F_units_of := fnx D_units_of (He.glo_ok KX G (c.fact 8 (f := .glo "units_of") rfl)) sc_units_of (b_units_of h_divisor m_range)
  obtain ⟨fd_power_by, D_power_by⟩ := c.def_ 9 (d := HeadT.d_power_by) rfl
  have h_power_by : FnX P w K mg base "power_by" (defArgs HeadT.s_power_by) 1 ps_power_by F_power_by := fnx D_power_by (He.glo_ok KX G (c.fact 9 (f := .glo "power_by") rfl)) sc_power_by (b_power_by)
  obtain ⟨fd_order_by_steps, D_order_by_steps⟩ := c.def_ 10 (d := HeadT.d_order_by_steps) rfl
  have h_order_by_steps : FnX P w K mg base "order_by_steps" (defArgs HeadT.s_order_by_steps) 1 ps_order_by_steps F_order_by_steps := fnx D_order_by_steps (He.glo_ok KX G (c.fact 10 (f := .glo "order_by_steps") rfl)) sc_order_by_steps (b_order_by_steps)
  obtain ⟨fd_units, D_units⟩ := c.def_ 11 (d := HeadT.d_units) rfl
  have h_units : FnX P w K mg base "units" (defArgs HeadT.s_units) 4 ps_units F_units := fnx D_units (He.glo_ok KX G (c.fact 11 (f := .glo "units") rfl)) sc_units (b_units h_check_multiplier h_units_of)
  obtain ⟨fd_order_of_unit, D_order_of_unit⟩ := c.def_ 12 (d := HeadT.d_order_of_unit) rfl
  have h_order_of_unit : FnX P w K mg base "order_of_unit" (defArgs HeadT.s_order_of_unit) 5 ps_order_of_unit F_order_of_unit := fnx D_order_of_unit (He.glo_ok KX G (c.fact 12 (f := .glo "order_of_unit") rfl)) sc_order_of_unit (b_order_of_unit h_check_unit h_order_by_steps)
  obtain ⟨fd_check_two_units, D_check_two_units⟩ := c.def_ 13 (d := HeadT.d_check_two_units) rfl
  have h_check_two_units : FnX P w K mg base "check_two_units" (defArgs HeadT.s_check_two_units) 5 ps_check_two_units F_check_two_units := fnx D_check_two_units (He.glo_ok KX G (c.fact 13 (f := .glo "check_two_units") rfl)) sc_check_two_units (b_check_two_units h_check_unit h_is_unit_of)
  obtain ⟨fd_powers_of, D_powers_of⟩ := c.def_ 14 (d := HeadT.d_powers_of) rfl
  have h_powers_of : FnX P w K mg base "powers_of" (defArgs HeadT.s_powers_of) 1 ps_powers_of F_powers_of := fnx D_powers_of (He.glo_ok KX G (c.fact 14 (f := .glo "powers_of") rfl)) sc_powers_of (b_powers_of)
  obtain ⟨fd_power_of, D_power_of⟩ := c.def_ 15 (d := HeadT.d_power_of) rfl
  have h_power_of : FnX P w K mg base "power_of" (defArgs HeadT.s_power_of) 5 ps_power_of F_power_of := fnx D_power_of (He.glo_ok KX G (c.fact 15 (f := .glo "power_of") rfl)) sc_power_of (b_power_of m_MOST_POWER h_check_remainder h_is_within h_power_by)
  obtain ⟨fd_square_roots, D_square_roots⟩ := c.def_ 16 (d := HeadT.d_square_roots) rfl
  have h_square_roots : FnX P w K mg base "square_roots" (defArgs HeadT.s_square_roots) 5 ps_square_roots F_square_roots := fnx D_square_roots (He.glo_ok KX G (c.fact 16 (f := .glo "square_roots") rfl)) sc_square_roots (b_square_roots h_check_remainder m_range)
  obtain ⟨fd_logarithm, D_logarithm⟩ := c.def_ 17 (d := HeadT.d_logarithm) rfl
  have h_logarithm : FnX P w K mg base "logarithm" (defArgs HeadT.s_logarithm) 6 ps_logarithm F_logarithm := fnx D_logarithm (He.glo_ok KX G (c.fact 17 (f := .glo "logarithm") rfl)) sc_logarithm (b_logarithm h_check_two_units h_powers_of)
  obtain ⟨fd_power_bar, D_power_bar⟩ := c.def_ 18 (d := HeadT.d_power_bar) rfl
  have h_power_bar : FnX P w K mg base "power_bar" (defArgs HeadT.s_power_bar) 6 ps_power_bar F_power_bar := fnx D_power_bar (He.glo_ok KX G (c.fact 18 (f := .glo "power_bar") rfl)) sc_power_bar (b_power_bar h_check_two_units h_powers_of m_sorted)
  obtain ⟨fd_is_power_bar, D_is_power_bar⟩ := c.def_ 19 (d := HeadT.d_is_power_bar) rfl
  have h_is_power_bar : FnX P w K mg base "is_power_bar" (defArgs HeadT.s_is_power_bar) 6 ps_is_power_bar F_is_power_bar := fnx D_is_power_bar (He.glo_ok KX G (c.fact 19 (f := .glo "is_power_bar") rfl)) sc_is_power_bar (b_is_power_bar h_check_two_units h_is_list h_is_unit_of m_all m_zip)
  obtain ⟨fd__law_pot, D__law_pot⟩ := c.def_ 20 (d := HeadT.d__law_pot) rfl
  have h__law_pot : FnX P w K mg base "_law_pot" (defArgs HeadT.s__law_pot) 1 ps__law_pot F__law_pot := fnx D__law_pot (He.glo_ok KX G (c.fact 20 (f := .glo "_law_pot") rfl)) sc__law_pot (b__law_pot m_abs m_int m_len m_max)
  obtain ⟨fd__law_draw, D__law_draw⟩ := c.def_ 21 (d := HeadT.d__law_draw) rfl
  have h__law_draw : FnX P w K mg base "_law_draw" (defArgs HeadT.s__law_draw) 1 ps__law_draw F__law_draw := fnx D__law_draw (He.glo_ok KX G (c.fact 21 (f := .glo "_law_draw") rfl)) sc__law_draw (b__law_draw m_divmod m_int)
  obtain ⟨fd__law_pick, D__law_pick⟩ := c.def_ 22 (d := HeadT.d__law_pick) rfl
  have h__law_pick : FnX P w K mg base "_law_pick" (defArgs HeadT.s__law_pick) 2 ps__law_pick F__law_pick := fnx D__law_pick (He.glo_ok KX G (c.fact 22 (f := .glo "_law_pick") rfl)) sc__law_pick (b__law_pick h__law_draw m_len)
  obtain ⟨fd__law_divisor, D__law_divisor⟩ := c.def_ 23 (d := HeadT.d__law_divisor) rfl
  have h__law_divisor : FnX P w K mg base "_law_divisor" (defArgs HeadT.s__law_divisor) 1 ps__law_divisor F__law_divisor := fnx D__law_divisor (He.glo_ok KX G (c.fact 23 (f := .glo "_law_divisor") rfl)) sc__law_divisor (b__law_divisor m_int)
  obtain ⟨fd__law_clock, D__law_clock⟩ := c.def_ 24 (d := HeadT.d__law_clock) rfl
  have h__law_clock : FnX P w K mg base "_law_clock" (defArgs HeadT.s__law_clock) 3 ps__law_clock F__law_clock := fnx D__law_clock (He.glo_ok KX G (c.fact 24 (f := .glo "_law_clock") rfl)) sc__law_clock (b__law_clock h__law_draw h__law_pick)
  obtain ⟨fd__law_units, D__law_units⟩ := c.def_ 25 (d := HeadT.d__law_units) rfl
  have h__law_units : FnX P w K mg base "_law_units" (defArgs HeadT.s__law_units) 2 ps__law_units F__law_units := fnx D__law_units (He.glo_ok KX G (c.fact 25 (f := .glo "_law_units") rfl)) sc__law_units (b__law_units h__law_divisor m_range)
  obtain ⟨fd__law_all_powers, D__law_all_powers⟩ := c.def_ 26 (d := HeadT.d__law_all_powers) rfl
  have h__law_all_powers : FnX P w K mg base "_law_all_powers" (defArgs HeadT.s__law_all_powers) 1 ps__law_all_powers F__law_all_powers := fnx D__law_all_powers (He.glo_ok KX G (c.fact 26 (f := .glo "_law_all_powers") rfl)) sc__law_all_powers (b__law_all_powers m_int)
  obtain ⟨fd__law_is_bar, D__law_is_bar⟩ := c.def_ 27 (d := HeadT.d__law_is_bar) rfl
  have h__law_is_bar : FnX P w K mg base "_law_is_bar" (defArgs HeadT.s__law_is_bar) 2 ps__law_is_bar F__law_is_bar := fnx D__law_is_bar (He.glo_ok KX G (c.fact 27 (f := .glo "_law_is_bar") rfl)) sc__law_is_bar (b__law_is_bar h__law_divisor m_all m_bool m_int m_isinstance m_list m_tuple m_zip)
  obtain ⟨fd__law_bent, D__law_bent⟩ := c.def_ 28 (d := HeadT.d__law_bent) rfl
  have h__law_bent : FnX P w K mg base "_law_bent" (defArgs HeadT.s__law_bent) 3 ps__law_bent F__law_bent := fnx D__law_bent (He.glo_ok KX G (c.fact 28 (f := .glo "_law_bent") rfl)) sc__law_bent (b__law_bent h__law_draw h__law_pick h__law_units m_dict m_len m_list m_sorted m_tuple)
  obtain ⟨fd__law_parts_right, D__law_parts_right⟩ := c.def_ 29 (d := HeadT.d__law_parts_right) rfl
  have h__law_parts_right : FnX P w K mg base "_law_parts_right" (defArgs HeadT.s__law_parts_right) 6 ps__law_parts_right F__law_parts_right := fnx D__law_parts_right (He.glo_ok KX G (c.fact 29 (f := .glo "_law_parts_right") rfl)) sc__law_parts_right (b__law_parts_right h__law_divisor h__law_draw h_order_of_unit h_square_roots h_units m_int m_len)
  obtain ⟨fd__law_right, D__law_right⟩ := c.def_ 30 (d := HeadT.d__law_right) rfl
  have h__law_right : FnX P w K mg base "_law_right" (defArgs HeadT.s__law_right) 7 ps__law_right F__law_right := fnx D__law_right (He.glo_ok KX G (c.fact 30 (f := .glo "_law_right") rfl)) sc__law_right (b__law_right h__law_all_powers h__law_bent h__law_clock h__law_is_bar h__law_parts_right h__law_pick h__law_units h_is_power_bar h_logarithm h_power_bar h_power_of m_range m_repr m_sorted)
  obtain ⟨fd_law, D_law⟩ := c.def_ 31 (d := HeadT.d_law) rfl
  have h_law : FnX P w K mg base "law" (defArgs HeadT.s_law) 8 ps_law F_law := fnx D_law (He.glo_ok KX G (c.fact 31 (f := .glo "law") rfl)) sc_law (b_law h__law_parts_right h__law_pot h__law_right m_len m_max m_min m_range)
  exact h_law
end PF

open PySem PySem.W PySem.Calls PyProof.Rows
theorem PySem.Challenge.cw_wholegrids_k91_whole_logarithms_and_part_holds : PySem.Challenge.rw_wholegrids_k91_whole_logarithms_and_part.Holds := by
  w_on; o_law
  refine HandSHeadRun.head_any (r := OpenLaw.row PySem.Challenge.rw_wholegrids_k91_whole_logarithms_and_part) (q := view (OpenLaw.row PySem.Challenge.rw_wholegrids_k91_whole_logarithms_and_part).prog [43]) (H := HeadT.hk) (ob := HeadT.ob) (M := 4000) (loose := HeadT.loose) (d := HandSHeadRun.topDef (OpenLaw.row PySem.Challenge.rw_wholegrids_k91_whole_logarithms_and_part).prog 43) (kwd := []) HeadT.ob_eq
    (by kernel_rfl) (fun s => by kernel_rfl) HeadT.run (by kernel_rfl) (by kernel_rfl) (by kernel_rfl) (by rfl) (by first | assumption | decide +kernel) (by decide +kernel) ⟨rfl, rfl, rfl, rfl, rfl, by decide +kernel⟩ ?hw ?hc
  case hw => w_witness2
  case hc =>
    have en : (HandSHeadRun.topDef (OpenLaw.row PySem.Challenge.rw_wholegrids_k91_whole_logarithms_and_part).prog 43).name = ("law" : PySem.Str) := by kernel_rfl
    refine PF.law_walk (l := PySem.Challenge.rw_wholegrids_k91_whole_logarithms_and_part) (n := 63) (k := 8) (x := "script") (params := PF.lawParams) (G := PF.F_law) rfl (by decide) (by kernel_rfl) ⟨rfl, by decide, by decide⟩ (by rw [en]; exact fun _ _ _ _ _ _ _ _ us ws h1 h2 => match us, ws, h1, h2 with | [_], [], _, _ => rfl) ?F PF.law_ok
    intro w mg fa h Y G hmg0
    obtain ⟨K, KX, c⟩ := Y
    refine ⟨K, KX, fun base KB GB => ?_⟩
    rw [en]
    exact PF.facts KB GB c

