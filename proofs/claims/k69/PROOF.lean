import PyProof.Rows.All
import Wide.All
import OpenK.AllK
import Wide.FinOn
import PyProof.EqAt
import PyProof.EqKinds
import PyProof.TupleCall
import HandS.Base
import HandS.Call
import HandS.List
import HandS.Comp
import HandS.Iter
import HandS.Exc
import HandS.Words
import HandS.WordsExc
import HandS.Lambda
import HandS.TupAny
import HandS.Style
import HandS.Deep
import HandS.Conv
import HandS.IsInst
import HandS.Zip
import HandS.WideBits
import HandS.SortInts
import HandS.Defaults
import HandS.Head0
import HandS.Head1
import HandS.Head2
import HandS.HeadEnd
import HandS.HeadHook1
import HandS.HeadHook2
import PyProof.ReprRoads
import PyProof.ReprLen
import PyProof.Rows.ReprOcc
import HandS.More
import HandS.Dict
import KE.GoesNew
import HandS.SortRule
import KE.KDictZip
import HandS.TryOnly
import KE.KRevSl
import KE.GoesEnum
import KE.KStateDown
import Lean
import HandS.Ends
import PySem.Challenge.RW_wholegrids_k69_any_value_as_coins_list_o
set_option Elab.async false
set_option linter.all false
set_option maxRecDepth 100000
set_option maxHeartbeats 0
/-! PF: pure data, a frozen part of the heap, expressions as functions over data. -/
namespace PF
open PySem PySem.Spec PyProof.Rows L2

inductive D where
  | non | bl (b : Bool) | int (i : Int) | str (x : Str) | lst (xs : List D) | tup (xs : List D)
  | scr (ns : List Int) | pot (g : Nat) | emp

structure Pst where
  g : Nat
  a : Int
  b : Int

structure Ex where
  cls : Str
  args : List D

inductive Res (α : Type) where
  | ok (a : α) (p : Pst) | exc (x : Ex) (p : Pst) | stuck

inductive W where
  | val (d : D) | own (xs : List D)

abbrev Sl := List (Option W)
abbrev M (α : Type) := Sl → Pst → Res α

/-! ### values stand for data: F the frozen part of the heap -/
inductive Rep (K : PySem.W.Frag) (F : Hp) (g : Nat) (pa : Option Addr) : V → D → Prop
  | non : Rep K F g pa .non .non
  | bl (b : Bool) : Rep K F g pa (.bl b) (.bl b)
  | int (i : Int) : Rep K F g pa (.int i) (.int i)
  | str (x : Str) : Rep K F g pa (.str x) (.str x)
  | lst {a : Addr} {vs : List V} {ds : List D} : F a = some (.lst vs) → ds.length ≤ sizeLine → vs.length = ds.length → (∀ (i : Nat) v d, vs[i]? = some v → ds[i]? = some d → Rep K F g pa v d) → Rep K F g pa (.ref a) (.lst ds)
  | tup {a : Addr} {vs : List V} {ds : List D} : F a = some (.tup vs) → ds.length ≤ sizeLine → vs.length = ds.length → (∀ (i : Nat) v d, vs[i]? = some v → ds[i]? = some d → Rep K F g pa v d) → Rep K F g pa (.ref a) (.tup ds)
  | scr {a : Addr} {ns : List Int} : SqL K F a (ns.map V.int) → Rep K F g pa (.ref a) (.scr ns)
  | pot {v : V} {k : Nat} : k ≤ g → (k = g → ∃ a, pa = some a ∧ v = .ref a) → Rep K F g pa v (.pot k)
  | emp {a : Addr} : F a = some (.dK []) → Rep K F g pa (.ref a) .emp

def AllR {α β : Type} (R : α → β → Prop) (xs : List α) (ys : List β) : Prop := xs.length = ys.length ∧ ∀ (i : Nat) x y, xs[i]? = some x → ys[i]? = some y → R x y

theorem AllR.nil {α β : Type} {R : α → β → Prop} : AllR R ([] : List α) ([] : List β) := ⟨rfl, fun i x y h => by simp at h⟩
theorem AllR.cons {α β : Type} {R : α → β → Prop} {x : α} {y : β} {xs : List α} {ys : List β} (h : R x y) (t : AllR R xs ys) : AllR R (x :: xs) (y :: ys) :=
  ⟨by simp [t.1], fun i a b ha hb => by
    cases i with
    | zero => simp at ha hb; subst ha hb; exact h
    | succ j => exact t.2 j a b (by simpa using ha) (by simpa using hb)⟩
theorem AllR.head {α β : Type} {R : α → β → Prop} {x : α} {y : β} {xs : List α} {ys : List β} (t : AllR R (x :: xs) (y :: ys)) : R x y := t.2 0 x y rfl rfl
theorem AllR.tail {α β : Type} {R : α → β → Prop} {x : α} {y : β} {xs : List α} {ys : List β} (t : AllR R (x :: xs) (y :: ys)) : AllR R xs ys :=
  ⟨by have := t.1; simpa using this, fun i a b ha hb => t.2 (i + 1) a b (by simpa using ha) (by simpa using hb)⟩
theorem AllR.cases {α β : Type} {R : α → β → Prop} : ∀ {xs : List α} {ys : List β}, AllR R xs ys → (xs = [] ∧ ys = []) ∨ ∃ x y xs' ys', xs = x :: xs' ∧ ys = y :: ys' ∧ R x y ∧ AllR R xs' ys'
  | [], [], _ => .inl ⟨rfl, rfl⟩
  | [], _ :: _, h => by have := h.1; simp at this
  | _ :: _, [], h => by have := h.1; simp at this
  | x :: xs, y :: ys, h => .inr ⟨x, y, xs, ys, rfl, rfl, h.head, h.tail⟩
theorem AllR.append {α β : Type} {R : α → β → Prop} {xs xs' : List α} {ys ys' : List β} (h : AllR R xs ys) (h' : AllR R xs' ys') : AllR R (xs ++ xs') (ys ++ ys') :=
  ⟨by simp [h.1, h'.1], fun i a b ha hb => by
    by_cases hi : i < xs.length
    · rw [List.getElem?_append_left hi] at ha
      rw [List.getElem?_append_left (by rw [← h.1]; exact hi)] at hb
      exact h.2 i a b ha hb
    · rw [List.getElem?_append_right (by omega)] at ha
      rw [List.getElem?_append_right (by rw [← h.1]; omega), ← h.1] at hb
      exact h'.2 _ a b ha hb⟩
theorem AllR.mono {α β : Type} {R R' : α → β → Prop} {xs : List α} {ys : List β} (h : AllR R xs ys) (f : ∀ x y, R x y → R' x y) : AllR R' xs ys := ⟨h.1, fun i a b ha hb => f _ _ (h.2 i a b ha hb)⟩
theorem AllR.get {α β : Type} {R : α → β → Prop} {xs : List α} {ys : List β} (h : AllR R xs ys) {i : Nat} {y : β} (e : ys[i]? = some y) : ∃ x, xs[i]? = some x ∧ R x y := by
  have hi : i < ys.length := (List.getElem?_eq_some_iff.mp e).1
  have hi' : i < xs.length := by rw [h.1]; exact hi
  exact ⟨xs[i], by simp [hi'], h.2 i _ _ (by simp [hi']) e⟩
theorem AllR.get' {α β : Type} {R : α → β → Prop} {xs : List α} {ys : List β} (h : AllR R xs ys) {i : Nat} {x : α} (e : xs[i]? = some x) : ∃ y, ys[i]? = some y ∧ R x y := by
  have hi : i < xs.length := (List.getElem?_eq_some_iff.mp e).1
  have hi' : i < ys.length := by rw [← h.1]; exact hi
  exact ⟨ys[i], by simp [hi'], h.2 i _ _ e (by simp [hi'])⟩
theorem AllR.set {α β : Type} {R : α → β → Prop} {xs : List α} {ys : List β} {x : α} {y : β} (h : AllR R xs ys) (r : R x y) (j : Nat) : AllR R (xs.set j x) (ys.set j y) :=
  ⟨by simp [h.1], fun i a b ha hb => by
    rw [List.getElem?_set] at ha hb
    by_cases e : j = i
    · subst e
      simp only [if_true] at ha hb
      split at ha
      · split at hb
        · cases ha; cases hb; exact r
        · cases hb
      · cases ha
    · rw [if_neg e] at ha hb
      exact h.2 i a b ha hb⟩
theorem AllR.take {α β : Type} {R : α → β → Prop} {xs : List α} {ys : List β} (h : AllR R xs ys) (n : Nat) : AllR R (xs.take n) (ys.take n) :=
  ⟨by simp [h.1], fun i a b ha hb => by
    rw [List.getElem?_take] at ha hb
    split at ha
    · rename_i hi; rw [if_pos hi] at hb; exact h.2 i a b ha hb
    · cases ha⟩
theorem AllR.drop {α β : Type} {R : α → β → Prop} {xs : List α} {ys : List β} (h : AllR R xs ys) (n : Nat) : AllR R (xs.drop n) (ys.drop n) :=
  ⟨by simp [h.1], fun i a b ha hb => by
    rw [List.getElem?_drop] at ha hb
    exact h.2 _ a b ha hb⟩
theorem AllR.reverse {α β : Type} {R : α → β → Prop} {xs : List α} {ys : List β} (h : AllR R xs ys) : AllR R xs.reverse ys.reverse :=
  ⟨by simp [h.1], fun i a b ha hb => by
    have hi : i < xs.reverse.length := (List.getElem?_eq_some_iff.mp ha).1
    have hi2 : i < xs.length := by simpa using hi
    rw [List.getElem?_reverse hi2] at ha
    rw [List.getElem?_reverse (by rw [← h.1]; exact hi2), ← h.1] at hb
    exact h.2 _ a b ha hb⟩

abbrev Reps (K : PySem.W.Frag) (F : Hp) (g : Nat) (pa : Option Addr) : List V → List D → Prop := AllR (Rep K F g pa)

/-- the frozen part and the pot's generation go on -/
structure Fz (F : Hp) (g : Nat) (pa : Option Addr) (F' : Hp) (g' : Nat) (pa' : Option Addr) : Prop where
  sub : ∀ a o, F a = some o → F' a = some o
  gle : g ≤ g'
  same : g = g' → pa' = pa
theorem Fz.refl {F : Hp} {g : Nat} {pa : Option Addr} : Fz F g pa F g pa := ⟨fun _ _ h => h, Nat.le_refl _, fun _ => rfl⟩
theorem Fz.trans {F F1 F2 : Hp} {g g1 g2 : Nat} {pa pa1 pa2 : Option Addr} (a : Fz F g pa F1 g1 pa1) (b : Fz F1 g1 pa1 F2 g2 pa2) : Fz F g pa F2 g2 pa2 :=
  ⟨fun c o h => b.sub c o (a.sub c o h), Nat.le_trans a.gle b.gle, fun e => by
    have h1 := a.gle
    have h2 := b.gle
    rw [b.same (by omega), a.same (by omega)]⟩
theorem sqL_mono {K : PySem.W.Frag} {F F' : Hp} {a : Addr} {xs : List V} (h : ∀ a o, F a = some o → F' a = some o) (s : SqL K F a xs) : SqL K F' a xs := by
  rcases s with (s | ⟨o, s⟩) | s
  · exact .inl (.inl (h _ _ s))
  · exact .inl (.inr ⟨o, h _ _ s⟩)
  · exact .inr s
theorem Rep.mono {K : PySem.W.Frag} {F F' : Hp} {g g' : Nat} {pa pa' : Option Addr} {v : V} {d : D} (r : Rep K F g pa v d) (z : Fz F g pa F' g' pa') : Rep K F' g' pa' v d := by
  induction r with
  | non => exact .non
  | bl b => exact .bl b
  | int i => exact .int i
  | str x => exact .str x
  | lst h hz hl _ ih => exact .lst (z.sub _ _ h) hz hl fun i v d h1 h2 => ih i v d h1 h2
  | tup h hz hl _ ih => exact .tup (z.sub _ _ h) hz hl fun i v d h1 h2 => ih i v d h1 h2
  | scr h => exact .scr (sqL_mono z.sub h)
  | pot h1 h2 =>
    refine .pot (Nat.le_trans h1 z.gle) fun e => ?_
    have h3 := z.gle
    obtain ⟨a, e1, e2⟩ := h2 (by omega)
    exact ⟨a, by rw [z.same (by omega)]; exact e1, e2⟩
  | emp h => exact .emp (z.sub _ _ h)
theorem Reps.mono {K : PySem.W.Frag} {F F' : Hp} {g g' : Nat} {pa pa' : Option Addr} {v : List V} {d : List D} (r : Reps K F g pa v d) (z : Fz F g pa F' g' pa') : Reps K F' g' pa' v d := AllR.mono r fun _ _ h => h.mono z
theorem Rep.lst' {K : PySem.W.Frag} {F : Hp} {g : Nat} {pa : Option Addr} {a : Addr} {vs : List V} {ds : List D} (h : F a = some (.lst vs)) (hz : ds.length ≤ sizeLine) (r : Reps K F g pa vs ds) : Rep K F g pa (.ref a) (.lst ds) := .lst h hz r.1 r.2
theorem Rep.tup' {K : PySem.W.Frag} {F : Hp} {g : Nat} {pa : Option Addr} {a : Addr} {vs : List V} {ds : List D} (h : F a = some (.tup vs)) (hz : ds.length ≤ sizeLine) (r : Reps K F g pa vs ds) : Rep K F g pa (.ref a) (.tup ds) := .tup h hz r.1 r.2
theorem Rep.lst_inv {K : PySem.W.Frag} {F : Hp} {g : Nat} {pa : Option Addr} {v : V} {ds : List D} (r : Rep K F g pa v (.lst ds)) : ∃ a vs, v = .ref a ∧ F a = some (.lst vs) ∧ ds.length ≤ sizeLine ∧ Reps K F g pa vs ds := by
  cases r with
  | lst h hz hl hr => exact ⟨_, _, rfl, h, hz, hl, hr⟩
theorem Rep.tup_inv {K : PySem.W.Frag} {F : Hp} {g : Nat} {pa : Option Addr} {v : V} {ds : List D} (r : Rep K F g pa v (.tup ds)) : ∃ a vs, v = .ref a ∧ F a = some (.tup vs) ∧ ds.length ≤ sizeLine ∧ Reps K F g pa vs ds := by
  cases r with
  | tup h hz hl hr => exact ⟨_, _, rfl, h, hz, hl, hr⟩

/-! ### the state: slots, frozen part, heap, pot -/
/-- what is true of the heap alone -/
structure GS (F H : Hp) (pa : Option Addr) (p : Pst) : Prop where
  sub : ∀ a o, F a = some o → H a = some o
  pot : ∀ a, pa = some a → H a = some (.lst [.int p.a, .int p.b]) ∧ F a = none
def WRep (K : PySem.W.Frag) (F H : Hp) (g : Nat) (pa : Option Addr) (v : V) : W → Prop
  | .val d => Rep K F g pa v d
  | .own xs => ∃ a vs, v = .ref a ∧ H a = some (.lst vs) ∧ F a = none ∧ pa ≠ some a ∧ xs.length ≤ sizeLine ∧ Reps K F g pa vs xs
structure SRel (K : PySem.W.Frag) (F H : Hp) (g : Nat) (pa : Option Addr) (σ : L2.St) (ρ : Sl) : Prop where
  len : ρ.length = σ.length
  rep : ∀ (i : Nat) w, ρ[i]? = some (some w) → ∃ v, σ[i]? = some (some v) ∧ WRep K F H g pa v w
  apart : ∀ (i j : Nat) xs ys v, ρ[i]? = some (some (.own xs)) → ρ[j]? = some (some (.own ys)) → σ[i]? = some (some v) → σ[j]? = some (some v) → i = j
/-- the heap goes on -/
structure Gr (F H : Hp) (g : Nat) (pa : Option Addr) (F' H' : Hp) (g' : Nat) (pa' : Option Addr) : Prop where
  fz : Fz F g pa F' g' pa'
  new : ∀ a o, F' a = some o → F a = some o ∨ H a = none
  keep : ∀ a o, H a = some o → pa ≠ some a → H' a = some o
  there : ∀ a o, H a = some o → ∃ o', H' a = some o'
  pot : pa' = pa ∨ ∃ a, pa' = some a ∧ H a = none
theorem Gr.refl {F H : Hp} {g : Nat} {pa : Option Addr} : Gr F H g pa F H g pa := ⟨.refl, fun _ _ h => .inl h, fun _ _ h _ => h, fun _ o h => ⟨o, h⟩, .inl rfl⟩
theorem Gr.trans {F H F1 H1 F2 H2 : Hp} {g g1 g2 : Nat} {pa pa1 pa2 : Option Addr} (x : Gr F H g pa F1 H1 g1 pa1) (y : Gr F1 H1 g1 pa1 F2 H2 g2 pa2) : Gr F H g pa F2 H2 g2 pa2 := by
  refine ⟨x.fz.trans y.fz, fun a o h => ?_, fun a o h n => ?_, fun a o h => ?_, ?_⟩
  · rcases y.new a o h with h | h
    · exact x.new a o h
    · right
      cases q : H a with
      | none => rfl
      | some u =>
        obtain ⟨o', e⟩ := x.there a u q
        rw [e] at h; cases h
  · refine y.keep a o (x.keep a o h n) fun e => ?_
    rcases x.pot with q | ⟨b, q, hb⟩
    · exact n (by rw [← q]; exact e)
    · rw [q] at e; cases e; rw [h] at hb; cases hb
  · obtain ⟨o1, h1⟩ := x.there a o h
    exact y.there a o1 h1
  · rcases y.pot with q | ⟨b, q, hb⟩
    · rcases x.pot with q' | ⟨c, q', hc⟩
      · exact .inl (q.trans q')
      · exact .inr ⟨c, q.trans q', hc⟩
    · refine .inr ⟨b, q, ?_⟩
      cases e : H b with
      | none => rfl
      | some u =>
        obtain ⟨o', e'⟩ := x.there b u e
        rw [e'] at hb; cases hb
/-- the slots' meaning goes along -/
theorem SRel.grow {K : PySem.W.Frag} {F H F' H' : Hp} {g g' : Nat} {pa pa' : Option Addr} {σ : L2.St} {ρ : Sl} (s : SRel K F H g pa σ ρ) (x : Gr F H g pa F' H' g' pa') : SRel K F' H' g' pa' σ ρ := by
  refine ⟨s.len, fun i w h => ?_, s.apart⟩
  obtain ⟨v, e, r⟩ := s.rep i w h
  refine ⟨v, e, ?_⟩
  cases w with
  | val d => exact Rep.mono r x.fz
  | own xs =>
    obtain ⟨a, vs, e1, e2, e3, e4, e6, e5⟩ := r
    refine ⟨a, vs, e1, x.keep a _ e2 e4, ?_, fun q => ?_, e6, e5.mono x.fz⟩
    · cases q : F' a with
      | none => rfl
      | some o =>
        rcases x.new a o q with z | z
        · rw [e3] at z; cases z
        · rw [e2] at z; cases z
    · rcases x.pot with z | ⟨b, z, hb⟩
      · exact e4 (by rw [← z]; exact q)
      · rw [z] at q; cases q; rw [e2] at hb; cases hb

/-! ### expressions -/
/-- an exception stands for x: its class by the module's name, its own dict -/
def fldNames : Str → List Str := fun c => if c = "TooMany" then ["what", "limit"] else if c = "BadText" then ["place"] else ["value"]
def ExRep (K : PySem.W.Frag) (mg : Str → Option Value) (F : Hp) (g : Nat) (pa : Option Addr) (cls : Value) (d : Option Addr) (x : Ex) : Prop :=
  mg x.cls = some cls ∧ (x.args = [] ∨ ∃ dd vs, d = some dd ∧ F dd = some (.xd ((fldNames x.cls).zip vs)) ∧ Reps K F g pa vs x.args)
/-- what a result leaves, from F, H, g, pa on: P of it, or the wish of an exception -/
def Out {α : Type} (K : PySem.W.Frag) (mg : Str → Option Value) (Wx : WX) (σ : L2.St) (F H : Hp) (g : Nat) (pa : Option Addr) (P : α → Pst → Hp → Hp → Option Addr → Prop) : Res α → Prop
  | .ok a p' => ∀ F' H' pa', Gr F H g pa F' H' p'.g pa' → GS F' H' pa' p' → P a p' F' H' pa'
  | .exc x p' => ∀ cls dd F' H' pa', Gr F H g pa F' H' p'.g pa' → GS F' H' pa' p' → ExRep K mg F' p'.g pa' cls dd x → Wx cls dd σ H'
  | .stuck => False
/-- at some state of the slots ρ, m leaves P -/
def At {α : Type} (K : PySem.W.Frag) (mg : Str → Option Value) (Wx : WX) (m : M α) (σ : L2.St) (H : Hp) (P : Hp → Option Addr → α → Pst → Hp → Hp → Option Addr → Prop) : Prop :=
  ∃ F pa p ρ, GS F H pa p ∧ SRel K F H p.g pa σ ρ ∧ Out K mg Wx σ F H p.g pa (P F pa) (m ρ p)
/-- the reading of an expression by m; Wx: what is wished of an exception -/
def TM (K : PySem.W.Frag) (mg : Str → Option Value) (Wx : WX) (m : M D) : TE := fun σ H Q => At K mg Wx m σ H fun _ _ d p' F' H' pa' => ∀ v, Rep K F' p'.g pa' v d → Q v H'
structure PM (X : Cx) (Wx : WX) (e : Expr) (m : M D) : Prop where
  pe : PE X e (TM X.K X.mg Wx m)
/-- a fresh list -/
def TMo (K : PySem.W.Frag) (mg : Str → Option Value) (Wx : WX) (m : M (List D)) : TE := fun σ H Q => At K mg Wx m σ H fun _ _ ds p' F' H' pa' => ∀ a vs, H a = none → H' a = some (.lst vs) → F' a = none → pa' ≠ some a → ds.length ≤ sizeLine → Reps K F' p'.g pa' vs ds → Q (.ref a) H'
structure PMo (X : Cx) (Wx : WX) (e : Expr) (m : M (List D)) : Prop where
  pe : PE X e (TMo X.K X.mg Wx m)
/-- a test -/
def TMt (K : PySem.W.Frag) (mg : Str → Option Value) (Wx : WX) (m : M Bool) : TT := fun σ H Q => At K mg Wx m σ H fun _ _ b p' F' H' pa' => Q b H'
structure PMt (X : Cx) (Wx : WX) (e : Expr) (m : M Bool) : Prop where
  pt : PT X e (TMt X.K X.mg Wx m)
/-- an argument list -/
def TMa (K : PySem.W.Frag) (mg : Str → Option Value) (Wx : WX) (m : M (List D)) : TA := fun σ H Q => At K mg Wx m σ H fun _ _ ds p' F' H' pa' => ∀ vs, Reps K F' p'.g pa' vs ds → Q vs H'
structure PMa (X : Cx) (Wx : WX) (es : List Expr) (m : M (List D)) : Prop where
  pa : PA X es (TMa X.K X.mg Wx m)

theorem _root_.L2.PE.imp {X : Cx} {e : Expr} {t t' : TE} (h : PE X e t) (f : ∀ σ H Q, t' σ H Q → t σ H Q) : PE X e t' := ⟨fun pins s σ H Q I q => h.run pins s σ H Q I (f σ H Q q)⟩
theorem _root_.L2.PT.imp {X : Cx} {e : Expr} {t t' : TT} (h : PT X e t) (f : ∀ σ H Q, t' σ H Q → t σ H Q) : PT X e t' := ⟨fun pins s σ H Q I q => h.run pins s σ H Q I (f σ H Q q)⟩
theorem _root_.L2.PW.imp {X : Cx} {e : Expr} {t t' : TT} (h : PW X e t) (f : ∀ σ H Q, t' σ H Q → t σ H Q) : PW X e t' := ⟨fun wh pins s σ H Q I q => h.run wh pins s σ H Q I (f σ H Q q)⟩
theorem _root_.L2.PA.imp {X : Cx} {e : List Expr} {t t' : TA} (h : PA X e t) (f : ∀ σ H Q, t' σ H Q → t σ H Q) : PA X e t' := ⟨fun pos pins s σ H Q I q => h.run pos pins s σ H Q I (f σ H Q q)⟩

/-! ### the monad -/
def mret {α : Type} (a : α) : M α := fun _ p => .ok a p
def mbind {α β : Type} (m : M α) (k : α → M β) : M β := fun ρ p => match m ρ p with
  | .ok a p' => k a ρ p'
  | .exc x p' => .exc x p'
  | .stuck => .stuck
def mstuck {α : Type} : M α := fun _ _ => .stuck
def mopt {α : Type} (o : Option α) : M α := fun _ p => match o with
  | some a => .ok a p
  | none => .stuck

section
variable {K : PySem.W.Frag} {mg : Str → Option Value} {Wx : WX} {σ : L2.St} {F H : Hp} {g : Nat} {pa : Option Addr}
theorem Out.bind {α β : Type} {P : β → Pst → Hp → Hp → Option Addr → Prop} {m : M α} {k : α → M β} {ρ : Sl} {p : Pst} (h : Out K mg Wx σ F H g pa P (mbind m k ρ p)) :
    Out K mg Wx σ F H g pa (fun a p' F' H' pa' => Out K mg Wx σ F' H' p'.g pa' P (k a ρ p')) (m ρ p) := by
  unfold mbind at h
  cases e : m ρ p with
  | stuck => rw [e] at h; exact h
  | exc x p' => rw [e] at h; exact h
  | ok a p' =>
    rw [e] at h
    intro F' H' pa' gr gs
    cases e2 : k a ρ p' with
    | stuck => simp only [e2] at h; exact h
    | exc x p2 => simp only [e2] at h; exact fun cls dd F2 H2 pa2 gr2 gs2 r => h cls dd F2 H2 pa2 (gr.trans gr2) gs2 r
    | ok b p2 => simp only [e2] at h; exact fun F2 H2 pa2 gr2 gs2 => h F2 H2 pa2 (gr.trans gr2) gs2
theorem Out.mono {α : Type} {P P' : α → Pst → Hp → Hp → Option Addr → Prop} {r : Res α} (h : Out K mg Wx σ F H g pa P r) (f : ∀ a p' F' H' pa', Gr F H g pa F' H' p'.g pa' → GS F' H' pa' p' → P a p' F' H' pa' → P' a p' F' H' pa') : Out K mg Wx σ F H g pa P' r := by
  cases r with
  | stuck => exact h
  | exc x p' => exact h
  | ok a p' => exact fun F' H' pa' gr gs => f _ _ _ _ _ gr gs (h F' H' pa' gr gs)
theorem Out.ret {α : Type} {P : α → Pst → Hp → Hp → Option Addr → Prop} {a : α} {p : Pst} (h : Out K mg Wx σ F H p.g pa P (.ok a p)) (gs : GS F H pa p) : P a p F H pa := h F H pa .refl gs
theorem Out.opt {α : Type} {P : α → Pst → Hp → Hp → Option Addr → Prop} {o : Option α} {ρ : Sl} {p : Pst} (h : Out K mg Wx σ F H g pa P (mopt o ρ p)) : ∃ a, o = some a ∧ Out K mg Wx σ F H g pa P (.ok a p) := by
  cases o with
  | none => exact h.elim
  | some a => exact ⟨a, rfl, h⟩
end
end PF

namespace PF
open PySem PySem.Spec PyProof.Rows L2

/-! ### new objects -/
section
variable {K : PySem.W.Frag} {F H : Hp} {p : Pst} {pa : Option Addr} {q : Addr} {o : HO}
theorem GS.pne (gs : GS F H pa p) (hq : H q = none) : pa ≠ some q := fun e => by
  obtain ⟨z, _⟩ := gs.pot q e
  rw [hq] at z; cases z
theorem GS.fnone (gs : GS F H pa p) (hq : H q = none) : F q = none := by
  cases e : F q with
  | none => rfl
  | some o => rw [gs.sub _ _ e] at hq; cases hq
/-- a new object that is frozen -/
theorem GS.alloc (gs : GS F H pa p) (hq : H q = none) : GS (upd F q o) (upd H q o) pa p := by
  refine ⟨fun a u h => ?_, fun a e => ?_⟩
  · by_cases ha : a = q
    · subst ha; rw [upd_same] at h ⊢; exact h
    · rw [upd_ne ha] at h ⊢; exact gs.sub a u h
  · have ha : a ≠ q := fun z => gs.pne hq (by rw [← z]; exact e)
    rw [upd_ne ha, upd_ne ha]; exact gs.pot a e
theorem Gr.alloc (gs : GS F H pa p) (hq : H q = none) {g : Nat} : Gr F H g pa (upd F q o) (upd H q o) g pa := by
  refine ⟨⟨fun a u h => ?_, Nat.le_refl _, fun _ => rfl⟩, fun a u h => ?_, fun a u h _ => ?_, fun a u h => ?_, .inl rfl⟩
  · rw [upd_ne fun z => ?_]; exact h
    subst z; rw [gs.fnone hq] at h; cases h
  · by_cases ha : a = q
    · subst ha; exact .inr hq
    · rw [upd_ne ha] at h; exact .inl h
  · rw [upd_ne (ne_of_none h hq)]; exact h
  · exact ⟨u, by rw [upd_ne (ne_of_none h hq)]; exact h⟩
/-- a new object that is not -/
theorem GS.allocO (gs : GS F H pa p) (hq : H q = none) : GS F (upd H q o) pa p := by
  refine ⟨fun a u h => ?_, fun a e => ?_⟩
  · rw [upd_ne fun z => ?_]; exact gs.sub a u h
    subst z; rw [gs.fnone hq] at h; cases h
  · have ha : a ≠ q := fun z => gs.pne hq (by rw [← z]; exact e)
    rw [upd_ne ha]; exact gs.pot a e
theorem Gr.allocO (hq : H q = none) {g : Nat} : Gr F H g pa F (upd H q o) g pa := by
  refine ⟨.refl, fun a u h => .inl h, fun a u h _ => ?_, fun a u h => ?_, .inl rfl⟩
  · rw [upd_ne (ne_of_none h hq)]; exact h
  · exact ⟨u, by rw [upd_ne (ne_of_none h hq)]; exact h⟩
/-- a fresh list is frozen -/
theorem GS.freeze (gs : GS F H pa p) (hH : H q = some o) (hp : pa ≠ some q) : GS (upd F q o) H pa p := by
  refine ⟨fun a u h => ?_, fun a e => ?_⟩
  · by_cases ha : a = q
    · subst ha; rw [upd_same] at h; rw [← h]; exact hH
    · rw [upd_ne ha] at h; exact gs.sub a u h
  · have ha : a ≠ q := fun z => hp (by rw [← z]; exact e)
    rw [upd_ne ha]; exact gs.pot a e
theorem Gr.freeze {F' H' : Hp} {g g' : Nat} {pa' : Option Addr} (x : Gr F H g pa F' H' g' pa') (hq : H q = none) (hF : F' q = none) : Gr F H g pa (upd F' q o) H' g' pa' := by
  refine ⟨⟨fun a u h => ?_, x.fz.gle, x.fz.same⟩, fun a u h => ?_, x.keep, x.there, x.pot⟩
  · have := x.fz.sub a u h
    rw [upd_ne fun z => ?_]; exact this
    subst z; rw [hF] at this; cases this
  · by_cases ha : a = q
    · subst ha; exact .inr hq
    · rw [upd_ne ha] at h; exact x.new a u h
theorem Fz.upd (hF : F q = none) {g : Nat} : Fz F g pa (L2.upd F q o) g pa := by
  refine ⟨fun a u h => ?_, Nat.le_refl _, fun _ => rfl⟩
  rw [upd_ne fun z => ?_]; exact h
  subst z; rw [hF] at h; cases h
end

section
variable {X : Cx} {Wx : WX} {a b c e : Expr} {es : List Expr} {ma mb mc m : M D} {pos : Pos}

/-! ### names, constants -/
def rd (i : Nat) : M D := fun ρ p => match ρ[i]? with
  | some (some (.val d)) => .ok d p
  | _ => .stuck
theorem pm_of {i : Nat} {x : Str} (h : PE X (.Name x pos) (tVar i)) : PM X Wx (.Name x pos) (rd i) := ⟨h.imp fun σ H Q ⟨F, pa, p, ρ, gs, s, o⟩ => by
  unfold rd at o
  cases e : ρ[i]? with
  | none => rw [e] at o; exact o.elim
  | some w =>
    rw [e] at o
    cases w with
    | none => exact o.elim
    | some w =>
      cases w with
      | own xs => exact o.elim
      | val d =>
        obtain ⟨v, h1, r⟩ := s.rep i _ e
        exact ⟨v, h1, o.ret gs v r⟩⟩
theorem pm_const {v : V} {d : D} {e : Expr} (h : PE X e (tC v)) (r : ∀ F g pa, Rep X.K F g pa v d) : PM X Wx e (mret d) := ⟨h.imp fun σ H Q ⟨F, pa, p, ρ, gs, s, o⟩ => Out.ret o gs v (r _ _ _)⟩
theorem pm_int {i j} : PM X Wx (.Constant (.int i) j pos) (mret (.int i)) := pm_const pe_int fun _ _ _ => .int i
theorem pm_bl {i j} : PM X Wx (.Constant (.bool i) j pos) (mret (.bl i)) := pm_const pe_bl fun _ _ _ => .bl i
theorem pm_str {i j} : PM X Wx (.Constant (.str i) j pos) (mret (.str i)) := pm_const pe_str fun _ _ _ => .str i
theorem pm_non {j} : PM X Wx (.Constant .none j pos) (mret .non) := pm_const pe_non fun _ _ _ => .non
theorem pm_gint {x : Str} {i : Int} (hg : Gl X x) (hm : ∃ t, X.mg x = some (.int i t)) (hd : (x == ("__debug__" : Str)) = false := by decide) : PM X Wx (.Name x pos) (mret (.int i)) := by
  obtain ⟨t, e⟩ := hm
  exact pm_const (pe_glob hg e (v := .int i) ⟨t, rfl⟩ hd) fun _ _ _ => .int i
theorem pm_gstr {x : Str} {i : Str} (hg : Gl X x) (hm : ∃ t, X.mg x = some (.str i t)) (hd : (x == ("__debug__" : Str)) = false := by decide) : PM X Wx (.Name x pos) (mret (.str i)) := by
  obtain ⟨t, e⟩ := hm
  exact pm_const (pe_glob hg e (v := .str i) ⟨t, rfl⟩ hd) fun _ _ _ => .str i

/-! ### two in a row -/
theorem TM.of {K : PySem.W.Frag} {mg : Str → Option Value} {σ : L2.St} {F H : Hp} {pa : Option Addr} {p : Pst} {ρ : Sl} {Q : VK} (gs : GS F H pa p) (s : SRel K F H p.g pa σ ρ)
    (h : Out K mg Wx σ F H p.g pa (fun d p' F' H' pa' => SRel K F' H' p'.g pa' σ ρ → ∀ v, Rep K F' p'.g pa' v d → Q v H') (m ρ p)) : TM K mg Wx m σ H Q :=
  ⟨F, pa, p, ρ, gs, s, h.mono fun _ _ _ _ _ gr _ k v r => k (s.grow gr) v r⟩
def OpS (X : Cx) (r : R2) (op : D → D → Option D) : Prop := ∀ (x y : V) (d e z : D) (F H : Hp) (p : Pst) (pa : Option Addr) (Q : VK), GS F H pa p → Rep X.K F p.g pa x d → Rep X.K F p.g pa y e → op d e = some z →
  (∀ v F' H', Gr F H p.g pa F' H' p.g pa → GS F' H' pa p → Rep X.K F' p.g pa v z → Q v H') → r x y H Q
def mOp (op : D → D → Option D) (ma mb : M D) : M D := mbind ma fun x => mbind mb fun y => mopt (op x y)
theorem tm_op {r : R2} {f : D → D → Option D} (hs : OpS X r f) : ∀ σ H Q, TM X.K X.mg Wx (mOp f ma mb) σ H Q → tOp r (TM X.K X.mg Wx ma) (TM X.K X.mg Wx mb) σ H Q := fun σ H Q ⟨F, pa, p, ρ, gs, s, o⟩ => by
  refine TM.of gs s (o.bind.mono fun d p1 F1 H1 pa1 gr1 gs1 o1 s1 v1 r1 => ?_)
  refine TM.of gs1 s1 (o1.bind.mono fun e p2 F2 H2 pa2 gr2 gs2 o2 s2 v2 r2 => ?_)
  obtain ⟨z, ez, o3⟩ := o2.opt
  exact hs v1 v2 d e z F2 H2 p2 pa2 Q gs2 (r1.mono gr2.fz) r2 ez fun v F3 H3 gr3 gs3 r3 => o3 F3 H3 pa2 gr3 gs3 v r3
theorem pm_op {op : Operator} {r : R2} {f : D → D → Option D} (ho : OpR X (binaryOp op) r) (hs : OpS X r f) (ha : PM X Wx a ma) (hb : PM X Wx b mb) : PM X Wx (.BinOp a op b pos) (mOp f ma mb) :=
  ⟨(pe_op ho ha.pe hb.pe).imp (tm_op hs)⟩
theorem OpS.or {r r' : R2} {f f' : D → D → Option D} (h : OpS X r f) (h' : OpS X r' f') : OpS X (fun x y H Q => r x y H Q ∨ r' x y H Q) (fun d e => (f d e).or (f' d e)) := by
  intro x y d e z F H p pa Q gs rx ry ez k
  have ez : (f d e).or (f' d e) = some z := ez
  cases q : f d e with
  | some z' =>
    rw [q] at ez
    have : z' = z := by simpa using ez
    subst this
    exact .inl (h x y d e z' F H p pa Q gs rx ry q k)
  | none =>
    rw [q] at ez
    exact .inr (h' x y d e z F H p pa Q gs rx ry (by simpa using ez) k)
theorem OpS.imp {r : R2} {f f' : D → D → Option D} (h : OpS X r f) (hf : ∀ d e z, f' d e = some z → f d e = some z) : OpS X r f' := fun x y d e z F H p pa Q gs rx ry ez k => h x y d e z F H p pa Q gs rx ry (hf d e z ez) k

/-! ### ints -/
def dI2 (f : Int → Int → Int) : D → D → Option D
  | .int i, .int j => some (.int (f i j))
  | _, _ => none
def dI2c (C : Int → Int → Bool) (f : Int → Int → Int) : D → D → Option D
  | .int i, .int j => if C i j = true then some (.int (f i j)) else none
  | _, _ => none
theorem ops_I0 {g : Int → Int → Int} : OpS X (rI0 fun i j => .int (g i j)) (dI2 g) := by
  intro x y d e z F H p pa Q gs rx ry ez k
  cases d <;> cases e <;> first | (simp [dI2] at ez; done) | skip
  cases rx; cases ry
  simp only [dI2, Option.some.injEq] at ez
  subst ez
  exact ⟨_, _, rfl, rfl, k _ F H .refl gs (.int _)⟩
theorem ops_I {C : Int → Int → Prop} {Cb : Int → Int → Bool} {g : Int → Int → Int} (hC : ∀ i j, Cb i j = true → C i j) : OpS X (rI C fun i j => .int (g i j)) (dI2c Cb g) := by
  intro x y d e z F H p pa Q gs rx ry ez k
  cases d <;> cases e <;> first | (simp [dI2c] at ez; done) | skip
  cases rx; cases ry
  simp only [dI2c] at ez
  split at ez
  · rename_i hc
    simp only [Option.some.injEq] at ez
    subst ez
    exact ⟨_, _, rfl, rfl, hC _ _ hc, k _ F H .refl gs (.int _)⟩
  · cases ez
def dSub : D → D → Option D := dI2 fun i j => i - j
theorem ops_sub : OpS X (rI0 fun i j => .int (i - j)) dSub := ops_I0
def okMul (i j : Int) : Bool := decide (i.natAbs < 2 ^ 64) || decide (j.natAbs < 2 ^ 64)
def dMulI : D → D → Option D := dI2c okMul fun i j => i * j
theorem ops_mulI : OpS X (rI CMul fun i j => .int (i * j)) dMulI := ops_I fun i j h => by
  unfold okMul at h
  simp only [Bool.or_eq_true, decide_eq_true_eq] at h
  rcases h with h | h
  · left; constructor <;> omega
  · right; constructor <;> omega
def okDiv (_ j : Int) : Bool := decide (j ≠ 0) && decide (j.natAbs < 1073741824)
def dDiv : D → D → Option D := dI2c okDiv fun i j => i.fdiv j
theorem ops_div : OpS X (rI CDivN fun i j => .int (i.fdiv j)) dDiv := ops_I fun i j h => by
  unfold okDiv at h
  simp only [Bool.and_eq_true, decide_eq_true_eq] at h
  exact h
def dMod : D → D → Option D := dI2c (fun _ j => decide (j ≠ 0)) fun i j => i.fmod j
theorem ops_mod : OpS X (rI (fun _ j => j ≠ 0) fun i j => .int (i.fmod j)) dMod := ops_I fun i j h => by simpa using h
def okPow (i j : Int) : Bool := decide (0 ≤ j) && decide (j ≤ 1000000) && decide (i.natAbs < 2 ^ 64)
def dPow : D → D → Option D := dI2c okPow fun i j => i ^ j.toNat
theorem ops_pow : OpS X (rI CPow fun i j => .int (i ^ j.toNat)) dPow := ops_I fun i j h => by
  unfold okPow at h
  simp only [Bool.and_eq_true, decide_eq_true_eq] at h
  exact ⟨h.1.1, h.1.2, h.2⟩
theorem pm_sub (ha : PM X Wx a ma) (hb : PM X Wx b mb) : PM X Wx (.BinOp a .Sub b pos) (mOp dSub ma mb) := pm_op op_sub ops_sub ha hb
theorem pm_div (ha : PM X Wx a ma) (hb : PM X Wx b mb) : PM X Wx (.BinOp a .FloorDiv b pos) (mOp dDiv ma mb) := pm_op op_fdivN ops_div ha hb
theorem pm_mod (ha : PM X Wx a ma) (hb : PM X Wx b mb) : PM X Wx (.BinOp a .Mod b pos) (mOp dMod ma mb) := pm_op op_modN ops_mod ha hb
theorem pm_pow (ha : PM X Wx a ma) (hb : PM X Wx b mb) : PM X Wx (.BinOp a .Pow b pos) (mOp dPow ma mb) := pm_op op_pow ops_pow ha hb

/-! ### sequences put together -/
theorem Rep.lstH {K : PySem.W.Frag} {F H : Hp} {p : Pst} {pa : Option Addr} {v : V} {ds : List D} (gs : GS F H pa p) (r : Rep K F p.g pa v (.lst ds)) : ∃ a vs, v = .ref a ∧ H a = some (.lst vs) ∧ ds.length ≤ sizeLine ∧ Reps K F p.g pa vs ds := by
  obtain ⟨a, vs, e, h, hz, rs⟩ := r.lst_inv
  exact ⟨a, vs, e, gs.sub _ _ h, hz, rs⟩
theorem Rep.tupH {K : PySem.W.Frag} {F H : Hp} {p : Pst} {pa : Option Addr} {v : V} {ds : List D} (gs : GS F H pa p) (r : Rep K F p.g pa v (.tup ds)) : ∃ a vs, v = .ref a ∧ H a = some (.tup vs) ∧ ds.length ≤ sizeLine ∧ Reps K F p.g pa vs ds := by
  obtain ⟨a, vs, e, h, hz, rs⟩ := r.tup_inv
  exact ⟨a, vs, e, gs.sub _ _ h, hz, rs⟩
def dCatL : D → D → Option D
  | .lst xs, .lst ys => if xs.length + ys.length ≤ sizeLine then some (.lst (xs ++ ys)) else none
  | _, _ => none
theorem ops_catL : OpS X rCat dCatL := by
  intro x y d e z F H p pa Q gs rx ry ez k
  cases d <;> cases e <;> first | (simp [dCatL] at ez; done) | skip
  simp only [dCatL] at ez
  split at ez
  · rename_i hc
    simp only [Option.some.injEq] at ez
    subst ez
    obtain ⟨l, xs, rfl, hl, hz1, r1⟩ := rx.lstH gs
    obtain ⟨m, ys, rfl, hm, hz2, r2⟩ := ry.lstH gs
    refine ⟨l, m, xs, ys, rfl, rfl, hl, hm, by rw [r1.1, r2.1]; exact hc, fun q hq => ?_⟩
    exact k _ _ _ (Gr.alloc gs hq) (gs.alloc hq) (Rep.lst' upd_same (by rw [List.length_append]; exact hc) ((AllR.append r1 r2).mono fun _ _ h => h.mono (Fz.upd (gs.fnone hq))))
  · cases ez
def dCatT : D → D → Option D
  | .tup xs, .tup ys => if xs.length + ys.length ≤ sizeLine then some (.tup (xs ++ ys)) else none
  | _, _ => none
theorem ops_catT : OpS X (rCatA X.K) dCatT := by
  intro x y d e z F H p pa Q gs rx ry ez k
  cases d <;> cases e <;> first | (simp [dCatT] at ez; done) | skip
  simp only [dCatT] at ez
  split at ez
  · rename_i hc
    simp only [Option.some.injEq] at ez
    subst ez
    have rx' := rx
    have ry' := ry
    obtain ⟨l, xs, rfl, hl, hz1, r1⟩ := rx.tupH gs
    obtain ⟨m, ys, rfl, hm, hz2, r2⟩ := ry.tupH gs
    refine ⟨l, m, xs, ys, rfl, rfl, SqT.of hl, SqT.of hm, by rw [r1.1, r2.1]; exact hc, fun e => ?_, fun e1 e2 => ?_, fun e1 e2 q hq => ?_⟩
    · subst e
      have e3 := List.eq_nil_of_length_eq_zero (r1.1.symm)
      subst e3
      exact k _ _ _ .refl gs ry'
    · subst e2
      have e3 := List.eq_nil_of_length_eq_zero (r2.1.symm)
      subst e3
      exact k _ _ _ .refl gs (by rw [List.append_nil]; exact rx')
    · exact k _ _ _ (Gr.alloc gs hq) (gs.alloc hq) (Rep.tup' upd_same (by rw [List.length_append]; exact hc) ((AllR.append r1 r2).mono fun _ _ h => h.mono (Fz.upd (gs.fnone hq))))
  · cases ez
def dAddS : D → D → Option D
  | .str x, .str y => if x.length + y.length ≤ sizeLine then some (.str (x ++ y)) else none
  | _, _ => none
theorem ops_addS : OpS X (fun x y H Q => ∃ i j, x = .str i ∧ y = .str j ∧ i.length + j.length ≤ sizeLine ∧ Q (.str (i ++ j)) H) dAddS := by
  intro x y d e z F H p pa Q gs rx ry ez k
  cases d <;> cases e <;> first | (simp [dAddS] at ez; done) | skip
  cases rx; cases ry
  simp only [dAddS] at ez
  split at ez
  · rename_i hc
    simp only [Option.some.injEq] at ez
    subst ez
    exact ⟨_, _, rfl, rfl, hc, k _ F H .refl gs (.str _)⟩
  · cases ez
def dAdd : D → D → Option D
  | .int i, .int j => some (.int (i + j))
  | .lst xs, .lst ys => dCatL (.lst xs) (.lst ys)
  | .tup xs, .tup ys => dCatT (.tup xs) (.tup ys)
  | .str x, .str y => dAddS (.str x) (.str y)
  | _, _ => none
theorem pm_add (ha : PM X Wx a ma) (hb : PM X Wx b mb) : PM X Wx (.BinOp a .Add b pos) (mOp dAdd ma mb) :=
  pm_op (op_add.or (op_cat.or (op_catA.or op_add_str))) ((ops_I0.or (ops_catL.or (ops_catT.or ops_addS))).imp fun d e z h => by
    cases d <;> cases e <;> first
      | (simp [dAdd] at h; done)
      | (simp only [dAdd, dI2, dCatL, dCatT, dAddS] at h ⊢; simp only [Option.some_or, Option.none_or, Option.or_none]; exact h)) ha hb
/-- a list so many times -/
def dRep : D → D → Option D
  | .lst xs, .int k => if -(2 ^ 63) ≤ k ∧ k < 2 ^ 63 ∧ xs.length * k.toNat ≤ sizeLine then some (.lst (List.replicate k.toNat xs).flatten) else none
  | _, _ => none
theorem AllR.rep {α β : Type} {R : α → β → Prop} {xs : List α} {ys : List β} (h : AllR R xs ys) : ∀ k : Nat, AllR R (List.replicate k xs).flatten (List.replicate k ys).flatten
  | 0 => by simpa using AllR.nil
  | k + 1 => by
    rw [List.replicate_succ, List.replicate_succ, List.flatten_cons, List.flatten_cons]
    exact h.append (h.rep k)
theorem ops_rep : OpS X rRep dRep := by
  intro x y d e z F H p pa Q gs rx ry ez k
  cases d <;> cases e <;> first | (simp [dRep] at ez; done) | skip
  simp only [dRep] at ez
  split at ez
  · rename_i hc
    simp only [Option.some.injEq] at ez
    subst ez
    cases ry
    obtain ⟨l, xs, rfl, hl, hz1, r1⟩ := rx.lstH gs
    refine ⟨l, _, xs, rfl, rfl, hl, hc.1, hc.2.1, by rw [r1.1]; exact hc.2.2, fun q hq => ?_⟩
    exact k _ _ _ (Gr.alloc gs hq) (gs.alloc hq) (Rep.lst' upd_same (by simpa [Nat.mul_comm] using hc.2.2) ((AllR.rep r1 _).mono fun _ _ h => h.mono (Fz.upd (gs.fnone hq))))
  · cases ez
def dMul : D → D → Option D
  | .int i, .int j => dMulI (.int i) (.int j)
  | .lst xs, .int k => dRep (.lst xs) (.int k)
  | _, _ => none
theorem pm_mul (ha : PM X Wx a ma) (hb : PM X Wx b mb) : PM X Wx (.BinOp a .Mult b pos) (mOp dMul ma mb) :=
  pm_op (op_mul.or op_rep) ((ops_mulI.or ops_rep).imp fun d e z h => by
    cases d <;> cases e <;> first
      | (simp [dMul] at h; done)
      | (simp only [dMul, dMulI, dI2c, dRep] at h ⊢; simp only [Option.some_or, Option.none_or, Option.or_none]; exact h)) ha hb

/-! ### one operand -/
def dNeg : D → Option D
  | .int i => some (.int (-i))
  | _ => none
def mUn (f : D → Option D) (ma : M D) : M D := mbind ma fun x => mopt (f x)
theorem pm_neg (ha : PM X Wx a ma) : PM X Wx (.UnaryOp .USub a pos) (mUn dNeg ma) := ⟨(pe_un un_neg ha.pe).imp fun σ H Q ⟨F, pa, p, ρ, gs, s, o⟩ => by
  refine TM.of gs s (o.bind.mono fun d p1 F1 H1 pa1 gr1 gs1 o1 s1 v1 r1 => ?_)
  obtain ⟨z, ez, o3⟩ := o1.opt
  cases d <;> first | (simp [dNeg] at ez; done) | skip
  cases r1
  simp only [dNeg, Option.some.injEq] at ez
  subst ez
  exact ⟨_, rfl, o3.ret gs1 _ (.int _)⟩⟩

/-! ### tests -/
def mB (m : M Bool) : M D := mbind m fun b => mret (.bl b)
def CmpS (X : Cx) (r : R2) (c : D → D → Option Bool) : Prop := ∀ (x y : V) (d e : D) (z : Bool) (F H : Hp) (p : Pst) (pa : Option Addr) (Q : VK), GS F H pa p → Rep X.K F p.g pa x d → Rep X.K F p.g pa y e → c d e = some z → Q (.bl z) H → r x y H Q
def mCmp (c : D → D → Option Bool) (ma mb : M D) : M Bool := mbind ma fun x => mbind mb fun y => mopt (c x y)
theorem tm_cmp {r : R2} {c : D → D → Option Bool} (hs : CmpS X r c) : ∀ σ H Q, TMt X.K X.mg Wx (mCmp c ma mb) σ H Q → tOp r (TM X.K X.mg Wx ma) (TM X.K X.mg Wx mb) σ H fun x H' => ∃ k, x = .bl k ∧ Q k H' := fun σ H Q ⟨F, pa, p, ρ, gs, s, o⟩ => by
  refine TM.of gs s (o.bind.mono fun d p1 F1 H1 pa1 gr1 gs1 o1 s1 v1 r1 => ?_)
  refine TM.of gs1 s1 (o1.bind.mono fun e p2 F2 H2 pa2 gr2 gs2 o2 s2 v2 r2 => ?_)
  obtain ⟨z, ez, o3⟩ := o2.opt
  exact hs v1 v2 d e z F2 H2 p2 pa2 _ gs2 (r1.mono gr2.fz) r2 ez ⟨_, rfl, o3.ret gs2⟩
theorem pmt_cmp {op : CmpOp} {r : R2} {c : D → D → Option Bool} (ho : OpR X (compareOp op) r) (hs : CmpS X r c) (ha : PM X Wx a ma) (hb : PM X Wx b mb) (hm : behindInMarks op b = false := by exact nomark _) : PMt X Wx (.Compare a [op] [b] pos) (mCmp c ma mb) :=
  ⟨(pt_cmpR ho ha.pe hb.pe hm).imp (tm_cmp hs)⟩
theorem TM.ofB {K : PySem.W.Frag} {mg : Str → Option Value} {m : M Bool} {σ : L2.St} {H : Hp} {Q : VK} (h : TM K mg Wx (mB m) σ H Q) : TMt K mg Wx m σ H fun b H' => Q (.bl b) H' := by
  obtain ⟨F, pa, p, ρ, gs, s, o⟩ := h
  exact ⟨F, pa, p, ρ, gs, s, o.bind.mono fun b p1 F1 H1 pa1 gr1 gs1 o1 => o1.ret gs1 _ (.bl b)⟩
theorem tOp_mono {r : R2} {ta tb : TE} : True := trivial
theorem pm_cmp {op : CmpOp} {r : R2} {c : D → D → Option Bool} (ho : OpR X (compareOp op) r) (hs : CmpS X r c) (ha : PM X Wx a ma) (hb : PM X Wx b mb) (hm : behindInMarks op b = false := by exact nomark _) : PM X Wx (.Compare a [op] [b] pos) (mB (mCmp c ma mb)) :=
  ⟨(pe_cmpR ho ha.pe hb.pe hm).imp fun σ H Q h => by
    obtain ⟨F, pa, p, ρ, gs, s, o⟩ := h.ofB
    refine TM.of gs s (o.bind.mono fun d p1 F1 H1 pa1 gr1 gs1 o1 s1 v1 r1 => ?_)
    refine TM.of gs1 s1 (o1.bind.mono fun e p2 F2 H2 pa2 gr2 gs2 o2 s2 v2 r2 => ?_)
    obtain ⟨z, ez, o3⟩ := o2.opt
    exact hs v1 v2 d e z F2 H2 p2 pa2 _ gs2 (r1.mono gr2.fz) r2 ez (o3.ret gs2)⟩
def dI2b (f : Int → Int → Bool) : D → D → Option Bool
  | .int i, .int j => some (f i j)
  | _, _ => none
theorem cmps_I {f : Int → Int → Bool} : CmpS X (rI0 fun i j => .bl (f i j)) (dI2b f) := by
  intro x y d e z F H p pa Q gs rx ry ez k
  cases d <;> cases e <;> first | (simp [dI2b] at ez; done) | skip
  cases rx; cases ry
  simp only [dI2b, Option.some.injEq] at ez
  subst ez
  exact ⟨_, _, rfl, rfl, k⟩
def dLt : D → D → Option Bool := dI2b fun i j => decide (i < j)
def dLe : D → D → Option Bool := dI2b fun i j => decide (i ≤ j)
def dGt : D → D → Option Bool := dI2b fun i j => decide (j < i)
def dGe : D → D → Option Bool := dI2b fun i j => decide (j ≤ i)
theorem pmt_lt (ha : PM X Wx a ma) (hb : PM X Wx b mb) : PMt X Wx (.Compare a [.Lt] [b] pos) (mCmp dLt ma mb) := pmt_cmp op_lt cmps_I ha hb
theorem pmt_le (ha : PM X Wx a ma) (hb : PM X Wx b mb) : PMt X Wx (.Compare a [.LtE] [b] pos) (mCmp dLe ma mb) := pmt_cmp op_le cmps_I ha hb
theorem pmt_gt (ha : PM X Wx a ma) (hb : PM X Wx b mb) : PMt X Wx (.Compare a [.Gt] [b] pos) (mCmp dGt ma mb) := pmt_cmp op_gt cmps_I ha hb
theorem pmt_ge (ha : PM X Wx a ma) (hb : PM X Wx b mb) : PMt X Wx (.Compare a [.GtE] [b] pos) (mCmp dGe ma mb) := pmt_cmp op_ge cmps_I ha hb
theorem pm_lt (ha : PM X Wx a ma) (hb : PM X Wx b mb) : PM X Wx (.Compare a [.Lt] [b] pos) (mB (mCmp dLt ma mb)) := pm_cmp op_lt cmps_I ha hb
theorem pm_le (ha : PM X Wx a ma) (hb : PM X Wx b mb) : PM X Wx (.Compare a [.LtE] [b] pos) (mB (mCmp dLe ma mb)) := pm_cmp op_le cmps_I ha hb
theorem pm_gt (ha : PM X Wx a ma) (hb : PM X Wx b mb) : PM X Wx (.Compare a [.Gt] [b] pos) (mB (mCmp dGt ma mb)) := pm_cmp op_gt cmps_I ha hb
theorem pm_ge (ha : PM X Wx a ma) (hb : PM X Wx b mb) : PM X Wx (.Compare a [.GtE] [b] pos) (mB (mCmp dGe ma mb)) := pm_cmp op_ge cmps_I ha hb
end
end PF

namespace PF
open PySem PySem.Spec PyProof.Rows L2

/-! ### data as the library has it -/
mutual
def toPy : D → PyData
  | .non => .none
  | .bl b => .bool b
  | .int i => .int i
  | .str x => .str x
  | .lst xs => .list (toPys xs)
  | .tup xs => .tuple (toPys xs)
  | .scr ns => .list (ns.map .int)
  | .pot _ => .none
  | .emp => .dict []
def toPys : List D → List PyData
  | [] => []
  | x :: xs => toPy x :: toPys xs
end
mutual
/-- plain data: no pot, no dict, no script within -/
def pl : D → Bool
  | .non | .bl _ | .int _ => true
  | .str x => PyData.strOk x
  | .lst xs => pls xs
  | .tup xs => pls xs
  | .scr _ => false
  | .pot _ => false
  | .emp => false
def pls : List D → Bool
  | [] => true
  | x :: xs => pl x && pls xs
end
mutual
def dep : D → Nat
  | .lst xs => deps xs + 1
  | .tup xs => deps xs + 1
  | _ => 0
def deps : List D → Nat
  | [] => 0
  | x :: xs => max (dep x) (deps xs)
end
theorem toPys_map (xs : List D) : toPys xs = xs.map toPy := by
  induction xs with
  | nil => simp [toPys]
  | cons x xs ih => simp [toPys, ih]
theorem pls_all (xs : List D) : pls xs = xs.all pl := by
  induction xs with
  | nil => simp [pls]
  | cons x xs ih => simp [pls, ih]
mutual
theorem canLay_pl : ∀ d : D, pl d = true → (toPy d).canLay0 = true
  | .non, _ => by simp [toPy, PyData.canLay0]
  | .bl _, _ => by simp [toPy, PyData.canLay0]
  | .int _, _ => by simp [toPy, PyData.canLay0]
  | .str _, h => by simp only [toPy, PyData.canLay0]; simpa [pl] using h
  | .lst xs, h => by simp only [toPy, PyData.canLay0]; exact canLay_pls xs (by simpa [pl] using h)
  | .tup xs, h => by simp only [toPy, PyData.canLay0]; exact canLay_pls xs (by simpa [pl] using h)
  | .scr _, h => by simp [pl] at h
  | .pot _, h => by simp [pl] at h
  | .emp, h => by simp [pl] at h
theorem canLay_pls : ∀ ds : List D, pls ds = true → PyData.canLayAll0 (toPys ds) = true
  | [], _ => by simp [toPys, PyData.canLayAll0]
  | x :: xs, h => by
    simp only [pls, Bool.and_eq_true] at h
    simp only [toPys, PyData.canLayAll0, Bool.and_eq_true]
    exact ⟨canLay_pl x h.1, canLay_pls xs h.2⟩
end
mutual
theorem depth_dep : ∀ d : D, pl d = true → (toPy d).depth = dep d
  | .non, _ => by simp [toPy, PyData.depth, dep]
  | .bl _, _ => by simp [toPy, PyData.depth, dep]
  | .int _, _ => by simp [toPy, PyData.depth, dep]
  | .str _, _ => by simp [toPy, PyData.depth, dep]
  | .lst xs, h => by simp only [toPy, PyData.depth, dep]; rw [depth_deps xs (by simpa [pl] using h)]
  | .tup xs, h => by simp only [toPy, PyData.depth, dep]; rw [depth_deps xs (by simpa [pl] using h)]
  | .scr _, h => by simp [pl] at h
  | .pot _, h => by simp [pl] at h
  | .emp, h => by simp [pl] at h
theorem depth_deps : ∀ ds : List D, pls ds = true → PyData.depthAll (toPys ds) = deps ds
  | [], _ => by simp [toPys, PyData.depthAll, deps]
  | x :: xs, h => by
    simp only [pls, Bool.and_eq_true] at h
    simp only [toPys, PyData.depthAll, deps]
    rw [depth_dep x h.1, depth_deps xs h.2]
end
/-- data that == and in look through -/
def okEq (d : D) : Bool := pl d && decide (dep d ≤ 64)
theorem shaped_ok {d : D} (h : okEq d = true) : SeqAt.shaped (toPy d) = true := by
  unfold okEq at h
  simp only [Bool.and_eq_true, decide_eq_true_eq] at h
  unfold SeqAt.shaped
  simp only [Bool.and_eq_true, decide_eq_true_eq]
  exact ⟨canLay_pl d h.1, by rw [depth_dep d h.1]; exact h.2⟩
theorem dpAll_of {K : PySem.W.Frag} {H : Hp} : ∀ {vs : List V} {ds : List D}, AllR (fun v d => pl d = true → Dp K H v (toPy d)) vs ds → pls ds = true → DpAll K H vs (toPys ds)
  | [], [], _, _ => by simpa [toPys] using DpAll.nil
  | [], _ :: _, h, _ => by have := h.1; simp at this
  | _ :: _, [], h, _ => by have := h.1; simp at this
  | v :: vs, d :: ds, h, hp => by
    simp only [pls, Bool.and_eq_true] at hp
    simp only [toPys]
    exact .cons (h.head hp.1) (dpAll_of h.tail hp.2)
theorem Rep.dp {K : PySem.W.Frag} {F H : Hp} {g : Nat} {pa : Option Addr} (sub : ∀ a o, F a = some o → H a = some o) {v : V} {d : D} (r : Rep K F g pa v d) : pl d = true → Dp K H v (toPy d) := by
  induction r with
  | non => intro _; simpa [toPy] using Dp.non
  | bl b => intro _; simpa [toPy] using Dp.bl b
  | int i => intro _; simpa [toPy] using Dp.int i
  | str x => intro _; simpa [toPy] using Dp.str x
  | lst h _ hl _ ih =>
    intro hp
    simp only [toPy]
    exact .lst (SqL.of (sub _ _ h)) (dpAll_of ⟨hl, fun i v d h1 h2 => ih i v d h1 h2⟩ (by simpa [pl] using hp))
  | tup h _ hl _ ih =>
    intro hp
    simp only [toPy]
    exact .tup (SqT.of (sub _ _ h)) (dpAll_of ⟨hl, fun i v d h1 h2 => ih i v d h1 h2⟩ (by simpa [pl] using hp))
  | scr _ => intro hp; simp [pl] at hp
  | pot _ _ => intro hp; simp [pl] at hp
  | emp _ => intro hp; simp [pl] at hp

section
variable {X : Cx} {Wx : WX} {a b c e : Expr} {es rest : List Expr} {ma mb mc m : M D} {ta tb : M Bool} {pos : Pos}
/-! ### ==, in -/
def dEq : D → D → Option Bool
  | .int i, .int j => some (decide (i = j))
  | .str x, .str y => some (decide (x = y))
  | d, e => if okEq d && okEq e then some (PyData.eqv (toPy d) (toPy e)) else none
def dNe : D → D → Option Bool := fun d e => (dEq d e).map fun b => !b
theorem dEq_spec {d e : D} {z : Bool} (h : dEq d e = some z) : (∃ i j, d = .int i ∧ e = .int j ∧ z = decide (i = j)) ∨ (∃ x y, d = .str x ∧ e = .str y ∧ z = decide (x = y)) ∨ ((okEq d = true ∧ okEq e = true) ∧ z = PyData.eqv (toPy d) (toPy e)) := by
  unfold dEq at h
  split at h
  · simp only [Option.some.injEq] at h
    exact .inl ⟨_, _, rfl, rfl, h.symm⟩
  · simp only [Option.some.injEq] at h
    exact .inr (.inl ⟨_, _, rfl, rfl, h.symm⟩)
  · split at h
    · rename_i hc
      simp only [Option.some.injEq] at h
      subst h
      simp only [Bool.and_eq_true] at hc
      exact .inr (.inr ⟨hc, rfl⟩)
    · cases h
theorem pl_of {d : D} (h : okEq d = true) : pl d = true := by
  unfold okEq at h
  simp only [Bool.and_eq_true] at h
  exact h.1
theorem cmps_eq : CmpS X (fun x y H Q => rEq x y H Q ∨ rEqD X.K x y H Q) dEq := by
  intro x y d e z F H p pa Q gs rx ry ez k
  rcases dEq_spec ez with ⟨i, j, rfl, rfl, h⟩ | ⟨i, j, rfl, rfl, h⟩ | ⟨⟨h1, h2⟩, h3⟩
  · cases rx; cases ry
    exact .inl ⟨rfl, by rw [show decide (V.int i = V.int j) = z by rw [h]; simp]; exact k⟩
  · cases rx; cases ry
    exact .inl ⟨rfl, by rw [show decide (V.str i = V.str j) = z by rw [h]; simp]; exact k⟩
  · exact .inr ⟨_, _, rx.dp gs.sub (pl_of h1), ry.dp gs.sub (pl_of h2), shaped_ok h1, shaped_ok h2, by rw [← h3]; exact k⟩
theorem cmps_ne : CmpS X (fun x y H Q => rNe x y H Q ∨ rNeD X.K x y H Q) dNe := by
  intro x y d e z F H p pa Q gs rx ry ez k
  unfold dNe at ez
  cases q : dEq d e with
  | none => rw [q] at ez; cases ez
  | some w =>
    rw [q] at ez
    have ez : (!w) = z := by simpa using ez
    rcases dEq_spec q with ⟨i, j, rfl, rfl, h⟩ | ⟨i, j, rfl, rfl, h⟩ | ⟨⟨h1, h2⟩, h3⟩
    · cases rx; cases ry
      exact .inl ⟨rfl, by rw [show (!decide (V.int i = V.int j)) = z by rw [← ez, h]; simp]; exact k⟩
    · cases rx; cases ry
      exact .inl ⟨rfl, by rw [show (!decide (V.str i = V.str j)) = z by rw [← ez, h]; simp]; exact k⟩
    · exact .inr ⟨_, _, rx.dp gs.sub (pl_of h1), ry.dp gs.sub (pl_of h2), shaped_ok h1, shaped_ok h2, by rw [← h3, ez]; exact k⟩
def Un (X : Cx) : Prop := X.A.units + 65 < cLine
theorem pmt_eq (hu : Un X) (ha : PM X Wx a ma) (hb : PM X Wx b mb) : PMt X Wx (.Compare a [.Eq] [b] pos) (mCmp dEq ma mb) := pmt_cmp (op_eq.or (op_eqD (Nat.lt_of_succ_lt hu))) cmps_eq ha hb
theorem pmt_ne (hu : Un X) (ha : PM X Wx a ma) (hb : PM X Wx b mb) : PMt X Wx (.Compare a [.NotEq] [b] pos) (mCmp dNe ma mb) := pmt_cmp (op_ne.or (op_neD (Nat.lt_of_succ_lt hu))) cmps_ne ha hb
theorem pm_eq (hu : Un X) (ha : PM X Wx a ma) (hb : PM X Wx b mb) : PM X Wx (.Compare a [.Eq] [b] pos) (mB (mCmp dEq ma mb)) := pm_cmp (op_eq.or (op_eqD (Nat.lt_of_succ_lt hu))) cmps_eq ha hb
theorem pm_ne (hu : Un X) (ha : PM X Wx a ma) (hb : PM X Wx b mb) : PM X Wx (.Compare a [.NotEq] [b] pos) (mB (mCmp dNe ma mb)) := pm_cmp (op_ne.or (op_neD (Nat.lt_of_succ_lt hu))) cmps_ne ha hb
def dIn : D → D → Option Bool
  | d, .lst xs => if okEq d && okEq (.lst xs) then some (xs.any fun z => PyData.eqv (toPy z) (toPy d)) else none
  | _, _ => none
def dNotIn : D → D → Option Bool := fun d e => (dIn d e).map fun b => !b
theorem any_toPys (xs : List D) (f : PyData → Bool) : (toPys xs).any f = xs.any fun z => f (toPy z) := by
  rw [toPys_map, List.any_map]; rfl
theorem cmps_in : CmpS X (rInD X.K) dIn := by
  intro x y d e z F H p pa Q gs rx ry ez k
  cases e <;> first | (simp [dIn] at ez; done) | skip
  rename_i xs
  simp only [dIn] at ez
  split at ez
  · rename_i hc
    simp only [Bool.and_eq_true] at hc
    have h2 := ry.dp gs.sub (pl_of hc.2)
    have s2 := shaped_ok hc.2
    simp only [toPy] at h2 s2
    refine ⟨_, _, rx.dp gs.sub (pl_of hc.1), h2, shaped_ok hc.1, s2, ?_⟩
    rw [any_toPys]
    simp only [Option.some.injEq] at ez
    rw [ez]; exact k
  · cases ez
theorem cmps_notIn : CmpS X (rNotInD X.K) dNotIn := by
  intro x y d e z F H p pa Q gs rx ry ez k
  unfold dNotIn at ez
  cases q : dIn d e with
  | none => rw [q] at ez; cases ez
  | some w =>
    rw [q] at ez
    have ez : (!w) = z := by simpa using ez
    cases e <;> first | (simp [dIn] at q; done) | skip
    rename_i xs
    simp only [dIn] at q
    split at q
    · rename_i hc
      simp only [Bool.and_eq_true] at hc
      have h2 := ry.dp gs.sub (pl_of hc.2)
      have s2 := shaped_ok hc.2
      simp only [toPy] at h2 s2
      refine ⟨_, _, rx.dp gs.sub (pl_of hc.1), h2, shaped_ok hc.1, s2, ?_⟩
      rw [any_toPys]
      simp only [Option.some.injEq] at q
      rw [q, ez]; exact k
    · cases q
theorem pmt_in (hu : Un X) (ha : PM X Wx a ma) (hb : PM X Wx b mb) (hm : behindInMarks .In b = false := by rfl) : PMt X Wx (.Compare a [.In] [b] pos) (mCmp dIn ma mb) := pmt_cmp (op_inD hu) cmps_in ha hb hm
theorem pmt_notIn (hu : Un X) (ha : PM X Wx a ma) (hb : PM X Wx b mb) (hm : behindInMarks .NotIn b = false := by rfl) : PMt X Wx (.Compare a [.NotIn] [b] pos) (mCmp dNotIn ma mb) := pmt_cmp (op_notInD hu) cmps_notIn ha hb hm
theorem pm_in (hu : Un X) (ha : PM X Wx a ma) (hb : PM X Wx b mb) (hm : behindInMarks .In b = false := by rfl) : PM X Wx (.Compare a [.In] [b] pos) (mB (mCmp dIn ma mb)) := pm_cmp (op_inD hu) cmps_in ha hb hm
theorem pm_notIn (hu : Un X) (ha : PM X Wx a ma) (hb : PM X Wx b mb) (hm : behindInMarks .NotIn b = false := by rfl) : PM X Wx (.Compare a [.NotIn] [b] pos) (mB (mCmp dNotIn ma mb)) := pm_cmp (op_notInD hu) cmps_notIn ha hb hm

/-! ### is None, is True -/
def isNon : D → Bool
  | .non => true
  | _ => false
def noPot : D → Bool
  | .pot _ => false
  | _ => true
theorem Rep.isNon {K : PySem.W.Frag} {F : Hp} {g : Nat} {pa : Option Addr} {v : V} {d : D} (r : Rep K F g pa v d) (h : noPot d = true) : decide (v = .non) = PF.isNon d := by
  cases r <;> first | rfl | (simp [noPot] at h)
def mIsN (ma : M D) : M Bool := mbind ma fun x => if noPot x = true then mret (isNon x) else mstuck
def mNotN (ma : M D) : M Bool := mbind ma fun x => if noPot x = true then mret (!isNon x) else mstuck
theorem pm_isN {j pos'} (ha : PM X Wx a ma) : PM X Wx (.Compare a [.Is] [.Constant .none j pos'] pos) (mB (mIsN ma)) := ⟨(pe_cmp (pc_isN ha.pe) (nomark _)).imp fun σ H Q h => by
  obtain ⟨F, pa, p, ρ, gs, s, o⟩ := h.ofB
  refine TM.of gs s (o.bind.mono fun d p1 F1 H1 pa1 gr1 gs1 o1 s1 v1 r1 => ?_)
  by_cases hn : noPot d = true
  · rw [if_pos hn] at o1
    rw [r1.isNon hn]; exact o1.ret gs1
  · rw [if_neg hn] at o1; exact o1.elim⟩
theorem pm_notN {j pos'} (ha : PM X Wx a ma) : PM X Wx (.Compare a [.IsNot] [.Constant .none j pos'] pos) (mB (mNotN ma)) := ⟨(pe_cmp (pc_notN ha.pe) (nomark _)).imp fun σ H Q h => by
  obtain ⟨F, pa, p, ρ, gs, s, o⟩ := h.ofB
  refine TM.of gs s (o.bind.mono fun d p1 F1 H1 pa1 gr1 gs1 o1 s1 v1 r1 => ?_)
  by_cases hn : noPot d = true
  · rw [if_pos hn] at o1
    rw [r1.isNon hn]; exact o1.ret gs1
  · rw [if_neg hn] at o1; exact o1.elim⟩
theorem pmt_isN {j pos'} (ha : PM X Wx a ma) : PMt X Wx (.Compare a [.Is] [.Constant .none j pos'] pos) (mIsN ma) := ⟨(pt_cmp (pc_isN ha.pe) (nomark _)).imp fun σ H Q h => by
  obtain ⟨F, pa, p, ρ, gs, s, o⟩ := h
  refine TM.of gs s (o.bind.mono fun d p1 F1 H1 pa1 gr1 gs1 o1 s1 v1 r1 => ?_)
  by_cases hn : noPot d = true
  · rw [if_pos hn] at o1
    exact ⟨_, by rw [r1.isNon hn], o1.ret gs1⟩
  · rw [if_neg hn] at o1; exact o1.elim⟩
theorem pmt_notN {j pos'} (ha : PM X Wx a ma) : PMt X Wx (.Compare a [.IsNot] [.Constant .none j pos'] pos) (mNotN ma) := ⟨(pt_cmp (pc_notN ha.pe) (nomark _)).imp fun σ H Q h => by
  obtain ⟨F, pa, p, ρ, gs, s, o⟩ := h
  refine TM.of gs s (o.bind.mono fun d p1 F1 H1 pa1 gr1 gs1 o1 s1 v1 r1 => ?_)
  by_cases hn : noPot d = true
  · rw [if_pos hn] at o1
    exact ⟨_, by rw [r1.isNon hn], o1.ret gs1⟩
  · rw [if_neg hn] at o1; exact o1.elim⟩
def dIsB : D → D → Option Bool
  | .bl a, .bl b => some (decide (a = b))
  | _, _ => none
def dNotB : D → D → Option Bool
  | .bl a, .bl b => some (!decide (a = b))
  | _, _ => none
theorem cmps_isB : CmpS X rIsB dIsB := by
  intro x y d e z F H p pa Q gs rx ry ez k
  cases d <;> cases e <;> first | (simp [dIsB] at ez; done) | skip
  cases rx; cases ry
  simp only [dIsB, Option.some.injEq] at ez
  subst ez
  exact ⟨_, _, rfl, rfl, k⟩
theorem cmps_notB : CmpS X rNotB dNotB := by
  intro x y d e z F H p pa Q gs rx ry ez k
  cases d <;> cases e <;> first | (simp [dNotB] at ez; done) | skip
  cases rx; cases ry
  simp only [dNotB, Option.some.injEq] at ez
  subst ez
  exact ⟨_, _, rfl, rfl, k⟩
theorem pmt_isB (ha : PM X Wx a ma) (hb : PM X Wx b mb) : PMt X Wx (.Compare a [.Is] [b] pos) (mCmp dIsB ma mb) := pmt_cmp op_isBl cmps_isB ha hb
theorem pmt_notB (ha : PM X Wx a ma) (hb : PM X Wx b mb) : PMt X Wx (.Compare a [.IsNot] [b] pos) (mCmp dNotB ma mb) := pmt_cmp op_notBl cmps_notB ha hb
theorem pm_isB (ha : PM X Wx a ma) (hb : PM X Wx b mb) : PM X Wx (.Compare a [.Is] [b] pos) (mB (mCmp dIsB ma mb)) := pm_cmp op_isBl cmps_isB ha hb
theorem pm_notB (ha : PM X Wx a ma) (hb : PM X Wx b mb) : PM X Wx (.Compare a [.IsNot] [b] pos) (mB (mCmp dNotB ma mb)) := pm_cmp op_notBl cmps_notB ha hb

/-! ### chains of two comparisons (ints) -/
def mChain (f g : Int → Int → Bool) (ma mb mc : M D) : M Bool := mbind ma fun x => mbind mb fun y => mbind (mopt (dI2b f x y)) fun k => if k = true then mbind mc fun z => mopt (dI2b g y z) else mret false
theorem dI2b_some {f : Int → Int → Bool} {d e : D} {k : Bool} (h : dI2b f d e = some k) : ∃ i j, d = .int i ∧ e = .int j ∧ f i j = k := by
  cases d <;> cases e <;> first | (simp [dI2b] at h; done) | skip
  simp only [dI2b, Option.some.injEq] at h
  exact ⟨_, _, rfl, rfl, h⟩
theorem chain_out {f g : Int → Int → Bool} {K : PySem.W.Frag} {mg : Str → Option Value} {σ : L2.St} {H : Hp} {Q : Bool → Hp → Prop} (h : TMt K mg Wx (mChain f g ma mb mc) σ H Q) :
    TM K mg Wx ma σ H fun x H1 => TM K mg Wx mb σ H1 fun y H2 => ∃ i j, x = .int i ∧ y = .int j ∧ (if f i j = true then TM K mg Wx mc σ H2 fun z H3 => ∃ k, z = .int k ∧ Q (g j k) H3 else Q false H2) := by
  obtain ⟨F, pa, p, ρ, gs, s, o⟩ := h
  refine TM.of gs s (o.bind.mono fun d p1 F1 H1 pa1 gr1 gs1 o1 s1 v1 r1 => ?_)
  refine TM.of gs1 s1 (o1.bind.mono fun e p2 F2 H2 pa2 gr2 gs2 o2 s2 v2 r2 => ?_)
  have o2 := o2.bind
  obtain ⟨k, ek, o3⟩ := o2.opt
  obtain ⟨i, j, rfl, rfl, ek'⟩ := dI2b_some ek
  cases r1; cases r2
  refine ⟨i, j, rfl, rfl, ?_⟩
  have o4 := o3.ret gs2
  rw [ek']
  cases k with
  | false => simp only [Bool.false_eq_true, if_false] at o4 ⊢; exact o4.ret gs2
  | true =>
    simp only [if_true] at o4 ⊢
    refine TM.of gs2 s2 (o4.bind.mono fun w p3 F3 H3 pa3 gr3 gs3 o5 s3 v3 r3 => ?_)
    obtain ⟨k2, ek2, o6⟩ := o5.opt
    obtain ⟨_, _, e1, rfl, ek3⟩ := dI2b_some ek2
    cases e1
    cases r3
    exact ⟨_, rfl, by rw [ek3]; exact o6.ret gs3⟩
theorem pmt_chain {op op' : CmpOp} {f g : Int → Int → Bool} (ho : OpR X (compareOp op) (rI0 fun i j => .bl (f i j))) (ho' : OpR X (compareOp op') (rI0 fun i j => .bl (g i j))) (ha : PM X Wx a ma) (hb : PM X Wx b mb) (hc : PM X Wx c mc)
    (hm : lastMarks [op, op'] [b, c] = false := by with_unfolding_all rfl) : PMt X Wx (.Compare a [op, op'] [b, c] pos) (mChain f g ma mb mc) := ⟨(pt_chain ho ho' ha.pe hb.pe hc.pe hm).imp fun σ H Q h => by
  obtain ⟨F, pa, p, ρ, gs, s, o⟩ := chain_out h
  refine ⟨F, pa, p, ρ, gs, s, o.mono fun d p1 F1 H1 pa1 gr1 gs1 o1 v1 r1 => ?_⟩
  obtain ⟨F, pa, p, ρ, gs, s, o⟩ := o1 v1 r1
  refine ⟨F, pa, p, ρ, gs, s, o.mono fun d p1 F1 H1 pa1 gr1 gs1 o1 v2 r2 => ?_⟩
  obtain ⟨i, j, rfl, rfl, q⟩ := o1 v2 r2
  refine ⟨i, j, rfl, rfl, f i j, rfl, ?_⟩
  cases e : f i j with
  | false => rw [e] at q; simp only [Bool.false_eq_true, if_false] at q ⊢; exact ⟨_, rfl, q⟩
  | true =>
    rw [e] at q
    simp only [if_true] at q ⊢
    obtain ⟨F, pa, p, ρ, gs, s, o⟩ := q
    refine ⟨F, pa, p, ρ, gs, s, o.mono fun d p1 F1 H1 pa1 gr1 gs1 o1 v3 r3 => ?_⟩
    obtain ⟨k, rfl, q⟩ := o1 v3 r3
    exact ⟨j, k, rfl, rfl, _, rfl, q⟩⟩
theorem pm_chain {op op' : CmpOp} {f g : Int → Int → Bool} (ho : OpR X (compareOp op) (rI0 fun i j => .bl (f i j))) (ho' : OpR X (compareOp op') (rI0 fun i j => .bl (g i j))) (ha : PM X Wx a ma) (hb : PM X Wx b mb) (hc : PM X Wx c mc)
    (hm : lastMarks [op, op'] [b, c] = false := by with_unfolding_all rfl) : PM X Wx (.Compare a [op, op'] [b, c] pos) (mB (mChain f g ma mb mc)) := ⟨(pe_chain ho ho' ha.pe hb.pe hc.pe hm).imp fun σ H Q h => by
  obtain ⟨F, pa, p, ρ, gs, s, o⟩ := chain_out h.ofB
  refine ⟨F, pa, p, ρ, gs, s, o.mono fun d p1 F1 H1 pa1 gr1 gs1 o1 v1 r1 => ?_⟩
  obtain ⟨F, pa, p, ρ, gs, s, o⟩ := o1 v1 r1
  refine ⟨F, pa, p, ρ, gs, s, o.mono fun d p1 F1 H1 pa1 gr1 gs1 o1 v2 r2 => ?_⟩
  obtain ⟨i, j, rfl, rfl, q⟩ := o1 v2 r2
  refine ⟨i, j, rfl, rfl, f i j, rfl, ?_⟩
  cases e : f i j with
  | false => rw [e] at q; simp only [Bool.false_eq_true, if_false] at q ⊢; exact q
  | true =>
    rw [e] at q
    simp only [if_true] at q ⊢
    obtain ⟨F, pa, p, ρ, gs, s, o⟩ := q
    refine ⟨F, pa, p, ρ, gs, s, o.mono fun d p1 F1 H1 pa1 gr1 gs1 o1 v3 r3 => ?_⟩
    obtain ⟨k, rfl, q⟩ := o1 v3 r3
    exact ⟨j, k, rfl, rfl, q⟩⟩
abbrev iLt : Int → Int → Bool := fun i j => decide (i < j)
abbrev iLe : Int → Int → Bool := fun i j => decide (i ≤ j)

/-! ### and, or, not, if .. else -/
structure PMw (X : Cx) (Wx : WX) (e : Expr) (m : M Bool) : Prop where
  pw : PW X e (TMt X.K X.mg Wx m)
theorem PMw.pt (h : PMw X Wx e ta) : PMt X Wx e ta := ⟨h.pw.pt⟩
def mAnd (t u : M Bool) : M Bool := mbind t fun k => if k = true then u else mret false
def mOr (t u : M Bool) : M Bool := mbind t fun k => if k = true then mret true else u
def mNot (t : M Bool) : M Bool := mbind t fun k => mret (!k)
theorem TMt.of {K : PySem.W.Frag} {mg : Str → Option Value} {t : M Bool} {σ : L2.St} {F H : Hp} {pa : Option Addr} {p : Pst} {ρ : Sl} {Q : Bool → Hp → Prop} (gs : GS F H pa p) (s : SRel K F H p.g pa σ ρ)
    (h : Out K mg Wx σ F H p.g pa (fun d p' F' H' pa' => SRel K F' H' p'.g pa' σ ρ → Q d H') (t ρ p)) : TMt K mg Wx t σ H Q :=
  ⟨F, pa, p, ρ, gs, s, h.mono fun _ _ _ _ _ gr _ k => k (s.grow gr)⟩
theorem pmw_and1 (ha : PMt X Wx a ta) : PMw X Wx (.BoolOp .And [a] pos) ta := ⟨pw_and1 ha.pt⟩
theorem pmw_or1 (ha : PMt X Wx a ta) : PMw X Wx (.BoolOp .Or [a] pos) ta := ⟨pw_or1 ha.pt⟩
theorem pmw_and (ha : PMt X Wx a ta) (hb : PMw X Wx (.BoolOp .And (b :: rest) pos) tb) : PMw X Wx (.BoolOp .And (a :: b :: rest) pos) (mAnd ta tb) := ⟨(pw_and ha.pt hb.pw).imp fun σ H Q ⟨F, pa, p, ρ, gs, s, o⟩ => by
  refine TMt.of gs s (o.bind.mono fun k p1 F1 H1 pa1 gr1 gs1 o1 s1 => ?_)
  cases k with
  | false => simp only [Bool.false_eq_true, if_false] at o1 ⊢; exact o1.ret gs1
  | true => simp only [if_true] at o1 ⊢; exact ⟨_, _, _, _, gs1, s1, o1⟩⟩
theorem pmw_or (ha : PMt X Wx a ta) (hb : PMw X Wx (.BoolOp .Or (b :: rest) pos) tb) : PMw X Wx (.BoolOp .Or (a :: b :: rest) pos) (mOr ta tb) := ⟨(pw_or ha.pt hb.pw).imp fun σ H Q ⟨F, pa, p, ρ, gs, s, o⟩ => by
  refine TMt.of gs s (o.bind.mono fun k p1 F1 H1 pa1 gr1 gs1 o1 s1 => ?_)
  cases k with
  | false => simp only [Bool.false_eq_true, if_false] at o1 ⊢; exact ⟨_, _, _, _, gs1, s1, o1⟩
  | true => simp only [if_true] at o1 ⊢; exact o1.ret gs1⟩
theorem pmt_not (ha : PMt X Wx a ta) : PMt X Wx (.UnaryOp .Not a pos) (mNot ta) := ⟨(pt_not ha.pt).imp fun σ H Q ⟨F, pa, p, ρ, gs, s, o⟩ => by
  refine TMt.of gs s (o.bind.mono fun k p1 F1 H1 pa1 gr1 gs1 o1 s1 => ?_)
  exact o1.ret gs1⟩
/-- a bool value as a test -/
def mT (ma : M D) : M Bool := mbind ma fun d => match d with
  | .bl k => mret k
  | _ => mstuck
theorem pmt_val (ha : PM X Wx e ma) (he : ∀ whole, isTrue e X.env whole = (do let v ← whole; standAt e.pos; holding [v] (truthy v)) := by intro _; rfl) : PMt X Wx e (mT ma) := ⟨(pt_val ha.pe he).imp fun σ H Q ⟨F, pa, p, ρ, gs, s, o⟩ => by
  refine TM.of gs s (o.bind.mono fun d p1 F1 H1 pa1 gr1 gs1 o1 s1 v1 r1 => ?_)
  cases d <;> first | exact o1.elim | skip
  cases r1
  exact ⟨_, rfl, o1.ret gs1⟩⟩
/-- and, or, not as values of bools -/
def mAndV (t u : M D) : M D := mbind t fun d => match d with
  | .bl k => if k = true then u else mret (.bl false)
  | _ => mstuck
def mOrV (t u : M D) : M D := mbind t fun d => match d with
  | .bl k => if k = true then mret (.bl true) else u
  | _ => mstuck
def mNotV (t : M D) : M D := mbind t fun d => match d with
  | .bl k => mret (.bl (!k))
  | _ => mstuck
theorem pm_one {op} (ha : PM X Wx a ma) : PM X Wx (.BoolOp op [a] pos) ma := ⟨pe_one ha.pe⟩
theorem pm_and (ha : PM X Wx a ma) (hb : PM X Wx (.BoolOp .And (b :: rest) pos) mb) : PM X Wx (.BoolOp .And (a :: b :: rest) pos) (mAndV ma mb) := ⟨(pe_and ha.pe hb.pe).imp fun σ H Q ⟨F, pa, p, ρ, gs, s, o⟩ => by
  refine TM.of gs s (o.bind.mono fun d p1 F1 H1 pa1 gr1 gs1 o1 s1 v1 r1 => ?_)
  cases d <;> first | exact o1.elim | skip
  rename_i k
  cases r1
  refine ⟨k, rfl, ?_⟩
  cases k with
  | false => simp only [Bool.false_eq_true, if_false] at o1 ⊢; exact o1.ret gs1 _ (.bl false)
  | true => simp only [if_true] at o1 ⊢; exact ⟨_, _, _, _, gs1, s1, o1⟩⟩
theorem pm_or (ha : PM X Wx a ma) (hb : PM X Wx (.BoolOp .Or (b :: rest) pos) mb) : PM X Wx (.BoolOp .Or (a :: b :: rest) pos) (mOrV ma mb) := ⟨(pe_or ha.pe hb.pe).imp fun σ H Q ⟨F, pa, p, ρ, gs, s, o⟩ => by
  refine TM.of gs s (o.bind.mono fun d p1 F1 H1 pa1 gr1 gs1 o1 s1 v1 r1 => ?_)
  cases d <;> first | exact o1.elim | skip
  rename_i k
  cases r1
  refine ⟨k, rfl, ?_⟩
  cases k with
  | false => simp only [Bool.false_eq_true, if_false] at o1 ⊢; exact ⟨_, _, _, _, gs1, s1, o1⟩
  | true => simp only [if_true] at o1 ⊢; exact o1.ret gs1 _ (.bl true)⟩
theorem pm_not (ha : PM X Wx a ma) : PM X Wx (.UnaryOp .Not a pos) (mNotV ma) := ⟨(pe_not ha.pe).imp fun σ H Q ⟨F, pa, p, ρ, gs, s, o⟩ => by
  refine TM.of gs s (o.bind.mono fun d p1 F1 H1 pa1 gr1 gs1 o1 s1 v1 r1 => ?_)
  cases d <;> first | exact o1.elim | skip
  cases r1
  exact ⟨_, rfl, o1.ret gs1 _ (.bl _)⟩⟩
def mIf {α : Type} (t : M Bool) (ma mb : M α) : M α := mbind t fun k => if k = true then ma else mb
theorem pm_if (hc : PMt X Wx c ta) (ha : PM X Wx a ma) (hb : PM X Wx b mb) : PM X Wx (.IfExp c a b pos) (mIf ta ma mb) := ⟨(pe_ifExp hc.pt ha.pe hb.pe).imp fun σ H Q ⟨F, pa, p, ρ, gs, s, o⟩ => by
  refine TMt.of gs s (o.bind.mono fun k p1 F1 H1 pa1 gr1 gs1 o1 s1 => ?_)
  cases k with
  | false => simp only [Bool.false_eq_true, if_false] at o1 ⊢; exact ⟨_, _, _, _, gs1, s1, o1⟩
  | true => simp only [if_true] at o1 ⊢; exact ⟨_, _, _, _, gs1, s1, o1⟩⟩

/-! ### fresh lists, displays, arguments -/
def mfrz (mo : M (List D)) : M D := mbind mo fun ds => mret (.lst ds)
theorem PMo.pm {mo : M (List D)} (h : PMo X Wx e mo) : PM X Wx e (mfrz mo) := ⟨h.pe.imp fun σ H Q ⟨F, pa, p, ρ, gs, s, o⟩ => by
  refine ⟨F, pa, p, ρ, gs, s, ?_⟩
  unfold mfrz mbind at o
  cases q : mo ρ p with
  | stuck => rw [q] at o; exact o
  | exc x p' => rw [q] at o; exact o
  | ok ds p' =>
    rw [q] at o
    intro F1 H1 pa1 gr1 gs1 a vs ha hH hF hp hz rs
    have fz : Fz F1 p'.g pa1 (upd F1 a (.lst vs)) p'.g pa1 := Fz.upd hF
    exact o _ H1 pa1 (gr1.freeze ha hF) (gs1.freeze hH hp) _ (Rep.lst' upd_same hz (rs.mono fz))⟩
end
end PF

namespace PF
open PySem PySem.Spec PyProof.Rows L2

section
variable {X : Cx} {Wx : WX} {a b c e : Expr} {es rest : List Expr} {ma mb mc m : M D} {mo ms : M (List D)} {ta tb : M Bool} {pos : Pos}
/-! ### arguments, displays -/
def mcons (ma : M D) (ms : M (List D)) : M (List D) := mbind ma fun d => mbind ms fun ds => mret (d :: ds)
theorem TMa.of {K : PySem.W.Frag} {mg : Str → Option Value} {σ : L2.St} {F H : Hp} {pa : Option Addr} {p : Pst} {ρ : Sl} {Q : List V → Hp → Prop} (gs : GS F H pa p) (s : SRel K F H p.g pa σ ρ)
    (h : Out K mg Wx σ F H p.g pa (fun ds p' F' H' pa' => SRel K F' H' p'.g pa' σ ρ → ∀ vs, Reps K F' p'.g pa' vs ds → Q vs H') (ms ρ p)) : TMa K mg Wx ms σ H Q :=
  ⟨F, pa, p, ρ, gs, s, h.mono fun _ _ _ _ _ gr _ k v r => k (s.grow gr) v r⟩
theorem pma_nil : PMa X Wx [] (mret []) := ⟨pa_nil.imp fun σ H Q ⟨F, pa, p, ρ, gs, s, o⟩ => o.ret gs _ .nil⟩
theorem pma_cons (ha : PM X Wx e ma) (hr : PMa X Wx es ms) (hs : starEach (e :: es) X.env = (false, eval e X.env) :: starEach es X.env := by rfl) : PMa X Wx (e :: es) (mcons ma ms) := ⟨(pa_cons ha.pe hr.pa hs).imp fun σ H Q ⟨F, pa, p, ρ, gs, s, o⟩ => by
  refine TM.of gs s (o.bind.mono fun d p1 F1 H1 pa1 gr1 gs1 o1 s1 v1 r1 => ?_)
  refine TMa.of gs1 s1 (o1.bind.mono fun ds p2 F2 H2 pa2 gr2 gs2 o2 s2 vs2 rs2 => ?_)
  exact o2.ret gs2 _ (.cons (r1.mono gr2.fz) rs2)⟩
def mlim (ms : M (List D)) : M (List D) := mbind ms fun ds => if ds.length ≤ 4096 then mret ds else mstuck
theorem lim_size {n : Nat} (h : n ≤ 4096) : n ≤ sizeLine := by rw [sizeLine_eq]; omega
theorem pmo_lst (h : PMa X Wx es ms) : PMo X Wx (.List es pos) (mlim ms) := ⟨(pe_lst h.pa).imp fun σ H Q ⟨F, pa, p, ρ, gs, s, o⟩ => by
  refine ⟨F, pa, p, ρ, gs, s, ?_⟩
  unfold mlim mbind at o
  cases q : ms ρ p with
  | stuck => rw [q] at o; exact o
  | exc x p' => rw [q] at o; exact o
  | ok ds p' =>
    rw [q] at o
    simp only at o
    by_cases hc : ds.length ≤ 4096
    · rw [if_pos hc] at o
      intro F1 H1 pa1 gr1 gs1 vs rs
      refine ⟨by rw [rs.1]; exact lim_size hc, fun q hq => ?_⟩
      have hq0 : H q = none := by
        cases z : H q with
        | none => rfl
        | some u => obtain ⟨u', z'⟩ := gr1.there q u z; rw [hq] at z'; cases z'
      exact o F1 _ pa1 (gr1.trans (Gr.allocO hq)) (gs1.allocO hq) q vs hq0 upd_same (gs1.fnone hq) (gs1.pne hq) (lim_size hc) rs
    · rw [if_neg hc] at o; exact o.elim⟩
def mtup (ms : M (List D)) : M D := mbind ms fun ds => if ds.length ≤ 4096 then mret (.tup ds) else mstuck
theorem pm_tup {x1} (h : PMa X Wx es ms) : PM X Wx (.Tuple es x1 pos) (mtup ms) := ⟨(pe_tup h.pa).imp fun σ H Q ⟨F, pa, p, ρ, gs, s, o⟩ => by
  refine TMa.of gs s (o.bind.mono fun ds p1 F1 H1 pa1 gr1 gs1 o1 s1 vs rs => ?_)
  by_cases hc : ds.length ≤ 4096
  · rw [if_pos hc] at o1
    refine ⟨by rw [rs.1]; exact lim_size hc, fun q hq => ?_⟩
    exact o1 _ _ pa1 (Gr.alloc gs1 hq) (gs1.alloc hq) _ (Rep.tup' upd_same (lim_size hc) (rs.mono (Fz.upd (gs1.fnone hq))))
  · rw [if_neg hc] at o1; exact o1.elim⟩
/-- {} -/
theorem pm_emp : PM X Wx (.Dict [] [] pos) (mret .emp) := ⟨pe_dnewK.imp fun σ H Q ⟨F, pa, p, ρ, gs, s, o⟩ => by
  intro q hq
  exact o _ _ pa (Gr.alloc gs hq) (gs.alloc hq) _ (.emp upd_same)⟩

/-! ### items -/
theorem atI_rep {R : V → D → Prop} {vs : List V} {ds : List D} {i : Int} {d : D} (r : AllR R vs ds) (h : atI ds i = some d) : ∃ v, atI vs i = some v ∧ R v d := by
  unfold atI at h ⊢
  rw [r.1]
  cases q : ixN ds.length i with
  | none => rw [q] at h; cases h
  | some j =>
    rw [q] at h
    exact r.get h
def dIx : D → D → Option D
  | .lst ds, .int i => atI ds i
  | .tup ds, .int i => atI ds i
  | .scr ns, .int i => (atI ns i).map .int
  | .str s, .int i => if s.length ≤ sizeLine then (atI s.cps.toList i).map (fun c => .str ⟨#[c]⟩) else none
  | _, _ => none
theorem atI_map {α β : Type} (f : α → β) (xs : List α) (i : Int) : atI (xs.map f) i = (atI xs i).map f := by
  unfold atI
  rw [List.length_map]
  cases ixN xs.length i with
  | none => rfl
  | some j => simp
theorem ops_ix : OpS X (rIx X.K) dIx := by
  intro x y d e z F H p pa Q gs rx ry ez k
  cases d <;> cases e <;> first | (simp [dIx] at ez; done) | skip
  all_goals cases ry
  all_goals simp only [dIx] at ez
  · -- a text
    split at ez
    · rename_i s i hc
      cases q : atI s.cps.toList i with
      | none => rw [q] at ez; cases ez
      | some c =>
        rw [q] at ez
        simp only [Option.map_some, Option.some.injEq] at ez
        subst ez
        cases rx
        exact .inr (.inr ⟨_, _, c, rfl, rfl, hc, q, k _ _ _ .refl gs (.str _)⟩)
    · cases ez
  · obtain ⟨l, xs, rfl, hl, hzr1, r1⟩ := rx.lstH gs
    obtain ⟨v, e1, r2⟩ := atI_rep r1 ez
    exact .inl ⟨l, xs, _, v, rfl, rfl, SqL.of hl, e1, k _ _ _ .refl gs r2⟩
  · obtain ⟨l, xs, rfl, hl, hzr1, r1⟩ := rx.tupH gs
    obtain ⟨v, e1, r2⟩ := atI_rep r1 ez
    exact .inr (.inl ⟨l, xs, _, v, rfl, rfl, SqT.of hl, e1, k _ _ _ .refl gs r2⟩)
  · rename_i ns i
    cases rx with
    | scr hs =>
      cases q : atI ns i with
      | none => rw [q] at ez; cases ez
      | some n =>
        rw [q] at ez
        simp only [Option.map_some, Option.some.injEq] at ez
        subst ez
        exact .inl ⟨_, _, _, .int n, rfl, rfl, sqL_mono gs.sub hs, by rw [atI_map, q]; rfl, k _ _ _ .refl gs (.int _)⟩
/-- an item of the pot -/
def ixPot (k : Nat) (y : D) : M D := fun _ p => if k = p.g then (match y with
  | .int 0 => .ok (.int p.a) p
  | .int 1 => .ok (.int p.b) p
  | _ => .stuck) else .stuck
def ixAny (x y : D) : M D := match x with
  | .pot k => ixPot k y
  | d => mopt (dIx d y)
def mIx (ma mb : M D) : M D := mbind ma fun x => mbind mb fun y => ixAny x y
theorem pm_ix (ha : PM X Wx a ma) (hb : PM X Wx b mb) (hs : PlainIx b := by exact fun _ _ => rfl) : PM X Wx (.Subscript a b pos) (mIx ma mb) := ⟨(pe_ix ix_seq ha.pe hb.pe hs).imp fun σ H Q ⟨F, pa, p, ρ, gs, s, o⟩ => by
  refine TM.of gs s (o.bind.mono fun d p1 F1 H1 pa1 gr1 gs1 o1 s1 v1 r1 => ?_)
  refine TM.of gs1 s1 (o1.bind.mono fun e p2 F2 H2 pa2 gr2 gs2 o2 s2 v2 r2 => ?_)
  unfold ixAny at o2
  have r1' := r1.mono gr2.fz
  clear r1
  split at o2
  · unfold ixPot at o2
    split at o2
    · rename_i hk
      cases r1' with
      | pot h1 h2 =>
        obtain ⟨a, e1, rfl⟩ := h2 hk
        obtain ⟨h3, _⟩ := gs2.pot a e1
        split at o2
        · cases r2
          exact .inl ⟨a, _, 0, .int p2.a, rfl, rfl, SqL.of h3, rfl, o2.ret gs2 _ (.int _)⟩
        · cases r2
          exact .inl ⟨a, _, 1, .int p2.b, rfl, rfl, SqL.of h3, rfl, o2.ret gs2 _ (.int _)⟩
        · exact o2.elim
    · exact o2.elim
  · obtain ⟨z, ez, o3⟩ := o2.opt
    exact ops_ix v1 v2 d e z F2 H2 p2 pa2 Q gs2 r1' r2 ez fun v F3 H3 gr3 gs3 r3 => o3 F3 H3 pa2 gr3 gs3 v r3⟩

/-! ### slices -/
def cutA {α : Type} (xs : List α) (lo hi : Option Int) : List α := (xs.drop (HT.sIx xs.length 0 lo)).take (HT.sIx xs.length xs.length hi - HT.sIx xs.length 0 lo)
theorem AllR.cut {α β : Type} {R : α → β → Prop} {xs : List α} {ys : List β} (r : AllR R xs ys) (lo hi : Option Int) : AllR R (cutA xs lo hi) (cutA ys lo hi) := by
  unfold cutA
  rw [r.1]
  exact (r.drop _).take _
theorem cutA_len {α : Type} (xs : List α) (lo hi : Option Int) : (cutA xs lo hi).length ≤ xs.length := by
  unfold cutA
  rw [List.length_take, List.length_drop]
  omega
/-- a bound of a slice -/
def TMO (K : PySem.W.Frag) (mg : Str → Option Value) (Wx : WX) (m : M (Option Int)) : L2.St → Hp → (Option Int → Hp → Prop) → Prop := fun σ H Q => At K mg Wx m σ H fun _ _ o p' F' H' pa' => Q o H'
structure PMO (X : Cx) (Wx : WX) (e : Option Expr) (m : M (Option Int)) : Prop where
  po : PO X e (TMO X.K X.mg Wx m)
def mPart (ma : M D) : M (Option Int) := mbind ma fun d => match d with
  | .int i => mret (some i)
  | _ => mstuck
theorem pmO_none : PMO X Wx none (mret none) := ⟨⟨fun pins s σ H Q I ⟨F, pa, p, ρ, gs, sr, o⟩ => po_none.run pins s σ H Q I (o.ret gs)⟩⟩
theorem pmO_some (ha : PM X Wx e ma) : PMO X Wx (some e) (mPart ma) := ⟨⟨fun pins s σ H Q I ⟨F, pa, p, ρ, gs, sr, o⟩ => (po_some ha.pe).run pins s σ H Q I (by
  refine TM.of gs sr (o.bind.mono fun d p1 F1 H1 pa1 gr1 gs1 o1 s1 v1 r1 => ?_)
  cases d <;> first | exact o1.elim | skip
  cases r1
  exact ⟨_, rfl, o1.ret gs1⟩)⟩⟩
theorem TMO.of {K : PySem.W.Frag} {mg : Str → Option Value} {t : M (Option Int)} {σ : L2.St} {F H : Hp} {pa : Option Addr} {p : Pst} {ρ : Sl} {Q : Option Int → Hp → Prop} (gs : GS F H pa p) (s : SRel K F H p.g pa σ ρ)
    (h : Out K mg Wx σ F H p.g pa (fun d p' F' H' pa' => SRel K F' H' p'.g pa' σ ρ → Q d H') (t ρ p)) : TMO K mg Wx t σ H Q :=
  ⟨F, pa, p, ρ, gs, s, h.mono fun _ _ _ _ _ gr _ k => k (s.grow gr)⟩
def dSl (d : D) (lo hi : Option Int) : Option D := match d with
  | .lst xs => some (.lst (cutA xs lo hi))
  | .tup xs => some (.tup (cutA xs lo hi))
  | _ => none
def mSl (me : M D) (ml mh : M (Option Int)) : M D := mbind me fun d => mbind ml fun lo => mbind mh fun hi => mopt (dSl d lo hi)
theorem cut_whole {α : Type} {xs : List α} {lo hi : Option Int} (h : HT.sIx xs.length 0 lo = 0 ∧ HT.sIx xs.length xs.length hi = xs.length) : cutA xs lo hi = xs := by
  unfold cutA
  rw [h.1, h.2]
  simp
variable {ml mh : M (Option Int)} {lo hi : Option Expr} {p2 : Pos}
theorem pm_sl (he : PM X Wx e m) (hl : PMO X Wx lo ml) (hh : PMO X Wx hi mh) : PM X Wx (.Subscript e (.Slice lo hi none p2) pos) (mSl m ml mh) := ⟨(pe_slice (SlR.or sl_list sl_tupA) he.pe hl.po hh.po).imp fun σ H Q ⟨F, pa, p, ρ, gs, s, o⟩ => by
  refine TM.of gs s (o.bind.mono fun d p1 F1 H1 pa1 gr1 gs1 o1 s1 v1 r1 => ?_)
  refine TMO.of gs1 s1 (o1.bind.mono fun l p2 F2 H2 pa2 gr2 gs2 o2 s2 => ?_)
  refine TMO.of gs2 s2 (o2.bind.mono fun u p3 F3 H3 pa3 gr3 gs3 o3 s3 => ?_)
  have r1 := (r1.mono gr2.fz).mono gr3.fz
  obtain ⟨z, ez, o4⟩ := o3.opt
  cases d <;> first | (simp [dSl] at ez; done) | skip
  · simp only [dSl, Option.some.injEq] at ez
    subst ez
    obtain ⟨a, xs, rfl, hl, hzrs, rs⟩ := r1.lstH gs3
    refine .inl ⟨a, xs, rfl, SqL.of hl, fun q hq => ?_⟩
    exact o4 _ _ pa3 (Gr.alloc gs3 hq) (gs3.alloc hq) _ (Rep.lst' upd_same (Nat.le_trans (cutA_len _ _ _) hzrs) ((rs.cut l u).mono fun _ _ h => h.mono (Fz.upd (gs3.fnone hq))))
  · simp only [dSl, Option.some.injEq] at ez
    subst ez
    have r1' := r1
    obtain ⟨a, xs, rfl, hl, hzrs, rs⟩ := r1.tupH gs3
    refine .inr ⟨a, xs, rfl, SqT.of hl, fun hw => ?_, fun hw q hq => ?_⟩
    · rw [rs.1] at hw
      exact o4.ret gs3 _ (by rw [cut_whole hw]; exact r1')
    · exact o4 _ _ pa3 (Gr.alloc gs3 hq) (gs3.alloc hq) _ (Rep.tup' upd_same (Nat.le_trans (cutA_len _ _ _) hzrs) ((rs.cut l u).mono fun _ _ h => h.mono (Fz.upd (gs3.fnone hq))))⟩
/-- a slice of a list, fresh -/
def mSlo (me : M D) (ml mh : M (Option Int)) : M (List D) := mbind me fun d => mbind ml fun lo => mbind mh fun hi => match d with
  | .lst xs => mret (cutA xs lo hi)
  | _ => mstuck
theorem Gr.free0 {F H F' H' : Hp} {g g' : Nat} {pa pa' : Option Addr} (gr : Gr F H g pa F' H' g' pa') {q : Addr} (hq : H' q = none) : H q = none := by
  cases z : H q with
  | none => rfl
  | some u => obtain ⟨u', z'⟩ := gr.there q u z; rw [hq] at z'; cases z'
/-- the last step makes a fresh list -/
theorem out_fresh {K : PySem.W.Frag} {mg : Str → Option Value} {σ : L2.St} {F H F1 H1 : Hp} {pa pa1 : Option Addr} {p p1 : Pst} {Q : VK} {ds : List D} (gr : Gr F H p.g pa F1 H1 p1.g pa1) (gs : GS F1 H1 pa1 p1)
    (o : Out K mg Wx σ F H p.g pa (fun ds p' F' H' pa' => ∀ a vs, H a = none → H' a = some (.lst vs) → F' a = none → pa' ≠ some a → ds.length ≤ sizeLine → Reps K F' p'.g pa' vs ds → Q (.ref a) H') (.ok ds p1)) {q : Addr} (hq : H1 q = none) {vs : List V} (hz : ds.length ≤ sizeLine) (rs : Reps K F1 p1.g pa1 vs ds) : Q (.ref q) (upd H1 q (.lst vs)) :=
  o F1 _ pa1 (gr.trans (Gr.allocO hq)) (gs.allocO hq) q vs (gr.free0 hq) upd_same (gs.fnone hq) (gs.pne hq) hz rs
theorem mbind_ok {α β : Type} {m : M α} {k : α → M β} {ρ : Sl} {p p' : Pst} {a : α} (h : m ρ p = .ok a p') : mbind m k ρ p = k a ρ p' := by
  unfold mbind; rw [h]
/-- where all but the last step's result is wanted: the steps in a row, from the start on -/
theorem Out.bindS {α β : Type} {K : PySem.W.Frag} {mg : Str → Option Value} {σ : L2.St} {F H F0 H0 : Hp} {g g0 : Nat} {pa pa0 : Option Addr} {P : β → Pst → Hp → Hp → Option Addr → Prop} {m : M α} {k : α → M β} {ρ : Sl} {p : Pst}
    (x : Gr F0 H0 g0 pa0 F H g pa) (h : Out K mg Wx σ F0 H0 g0 pa0 P (mbind m k ρ p)) :
    Out K mg Wx σ F H g pa (fun a p' F' H' pa' => Gr F0 H0 g0 pa0 F' H' p'.g pa' ∧ Out K mg Wx σ F0 H0 g0 pa0 P (k a ρ p')) (m ρ p) := by
  unfold mbind at h
  cases e : m ρ p with
  | stuck => rw [e] at h; exact h
  | exc x' p' => rw [e] at h; exact fun cls dd F' H' pa' gr gs r => h cls dd F' H' pa' (x.trans gr) gs r
  | ok a p' =>
    rw [e] at h
    exact fun F' H' pa' gr gs => ⟨x.trans gr, h⟩
theorem pmo_sl (he : PM X Wx e m) (hl : PMO X Wx lo ml) (hh : PMO X Wx hi mh) : PMo X Wx (.Subscript e (.Slice lo hi none p2) pos) (mSlo m ml mh) := ⟨(pe_slice sl_list he.pe hl.po hh.po).imp fun σ H Q ⟨F, pa, p, ρ, gs, s, o⟩ => by
  refine TM.of gs s ((Out.bindS .refl o).mono fun d p1 F1 H1 pa1 _ gs1 ⟨gr1, o1⟩ s1 v1 r1 => ?_)
  refine TMO.of gs1 s1 ((Out.bindS gr1 o1).mono fun l p2 F2 H2 pa2 gr2' gs2 ⟨gr2, o2⟩ s2 => ?_)
  refine TMO.of gs2 s2 ((Out.bindS gr2 o2).mono fun u p3 F3 H3 pa3 gr3' gs3 ⟨gr3, o3⟩ s3 => ?_)
  have r1 := (r1.mono gr2'.fz).mono gr3'.fz
  cases d <;> first | exact o3.elim | skip
  obtain ⟨a, xs, rfl, hl, hzrs, rs⟩ := r1.lstH gs3
  exact ⟨a, xs, rfl, SqL.of hl, fun q hq => out_fresh gr3 gs3 o3 hq (Nat.le_trans (cutA_len _ _ _) hzrs) (rs.cut l u)⟩⟩
/-- xs[::-1] -/
def mRevo (me : M D) : M (List D) := mbind me fun d => match d with
  | .lst xs => mret xs.reverse
  | _ => mstuck
theorem pmo_rev {k : Nat} {p1 p2 p3 : Pos} (he : PM X Wx e m) : PMo X Wx (.Subscript e (.Slice none none (some (.UnaryOp .USub (.Constant (.int 1) k p1) p2)) p3) pos) (mRevo m) := ⟨(pe_revL he.pe).imp fun σ H Q ⟨F, pa, p, ρ, gs, s, o⟩ => by
  refine TM.of gs s ((Out.bindS .refl o).mono fun d p1 F1 H1 pa1 _ gs1 ⟨gr1, o1⟩ s1 v1 r1 => ?_)
  cases d <;> first | exact o1.elim | skip
  obtain ⟨a, xs, rfl, hl, hzrs, rs⟩ := r1.lstH gs1
  exact ⟨a, xs, rfl, SqL.of hl, fun q hq => out_fresh gr1 gs1 o1 hq (by rw [List.length_reverse]; exact hzrs) rs.reverse⟩⟩

/-! ### calls of built-ins -/
def CallS (X : Cx) (r : List V → Hp → VK → Prop) (f : List D → Option D) : Prop := ∀ (xs : List V) (ds : List D) (z : D) (F H : Hp) (p : Pst) (pa : Option Addr) (Q : VK), GS F H pa p → Reps X.K F p.g pa xs ds → f ds = some z →
  (∀ v F' H', Gr F H p.g pa F' H' p.g pa → GS F' H' pa p → Rep X.K F' p.g pa v z → Q v H') → r xs H Q
def mCall (f : List D → Option D) (ms : M (List D)) : M D := mbind ms fun ds => mopt (f ds)
theorem tm_call {r : List V → Hp → VK → Prop} {f : List D → Option D} (hs : CallS X r f) : ∀ σ H Q, TM X.K X.mg Wx (mCall f ms) σ H Q → tCB r (TMa X.K X.mg Wx ms) σ H Q := fun σ H Q ⟨F, pa, p, ρ, gs, s, o⟩ => by
  refine TMa.of gs s (o.bind.mono fun ds p1 F1 H1 pa1 gr1 gs1 o1 s1 vs rs => ?_)
  obtain ⟨z, ez, o2⟩ := o1.opt
  exact hs vs ds z F1 H1 p1 pa1 Q gs1 rs ez fun v F3 H3 gr3 gs3 r3 => o2 F3 H3 pa1 gr3 gs3 v r3
variable {bid T : String} {x : Str} {p : Pos}
theorem pm_callB {r : List V → Hp → VK → Prop} {f : List D → Option D} (hc : CallR X (.builtin bid) r) (hs : CallS X r f) (hg : Gl X x) (hm : X.mg x = none) (hv : bootBuiltins x = some (.builtin bid)) (ha : PMa X Wx (e :: es) ms) (hn : x ≠ "__name__" := by decide) (hdb : (x == ("__debug__" : Str)) = false := by decide)
    (he : starEach (e :: es) X.env = (false, eval e X.env) :: starEach es X.env := by rfl) (hpl : (backTo pos (starEach es X.env)).any (·.1) = false := by rfl) : PM X Wx (.Call (.Name x p) (e :: es) [] pos) (mCall f ms) :=
  ⟨(pe_callB hc hg hm hv ha.pa hn hdb he hpl).imp (tm_call hs)⟩
theorem pm_callTy {r : List V → Hp → VK → Prop} {f : List D → Option D} (hc : CallR X (.type T) r) (hs : CallS X r f) (hg : Gl X x) (hm : X.mg x = none) (hv : bootBuiltins x = some (.type T)) (ha : PMa X Wx (e :: es) ms) (hn : x ≠ "__name__" := by decide) (hdb : (x == ("__debug__" : Str)) = false := by decide)
    (he : starEach (e :: es) X.env = (false, eval e X.env) :: starEach es X.env := by rfl) (hpl : (backTo pos (starEach es X.env)).any (·.1) = false := by rfl) : PM X Wx (.Call (.Name x p) (e :: es) [] pos) (mCall f ms) :=
  ⟨(pe_callTy hc hg hm hv ha.pa hn hdb he hpl).imp (tm_call hs)⟩
theorem reps1 {K : PySem.W.Frag} {F : Hp} {g : Nat} {pa : Option Addr} {xs : List V} {d : D} (r : Reps K F g pa xs [d]) : ∃ v, xs = [v] ∧ Rep K F g pa v d := by
  rcases r.cases with ⟨_, h⟩ | ⟨x, y, xs', ys', rfl, h, r1, r2⟩
  · cases h
  · cases h
    rcases r2.cases with ⟨rfl, _⟩ | ⟨_, _, _, _, _, h, _⟩
    · exact ⟨x, rfl, r1⟩
    · cases h
theorem reps2 {K : PySem.W.Frag} {F : Hp} {g : Nat} {pa : Option Addr} {xs : List V} {d e : D} (r : Reps K F g pa xs [d, e]) : ∃ v w, xs = [v, w] ∧ Rep K F g pa v d ∧ Rep K F g pa w e := by
  rcases r.cases with ⟨_, h⟩ | ⟨x, y, xs', ys', rfl, h, r1, r2⟩
  · cases h
  · cases h
    obtain ⟨v, rfl, r3⟩ := reps1 r2
    exact ⟨x, v, rfl, r1, r3⟩
def dLen : List D → Option D
  | [.lst xs] => some (.int xs.length)
  | [.tup xs] => some (.int xs.length)
  | [.scr xs] => some (.int xs.length)
  | [.str x] => if x.length ≤ sizeLine then some (.int x.length) else none
  | _ => none
theorem calls_len : CallS X (fun xs H Q => ∃ x n, xs = [x] ∧ LenV X.K x H n ∧ Q (.int n) H) dLen := by
  intro xs ds z F H p pa Q gs rs ez k
  unfold dLen at ez
  split at ez <;> first | (cases ez; done) | skip
  · obtain ⟨v, rfl, r⟩ := reps1 rs
    obtain ⟨a, vs, rfl, h, hzr2, r2⟩ := r.lstH gs
    simp only [Option.some.injEq] at ez
    subst ez
    exact ⟨_, vs.length, rfl, .inl ⟨vs, SqL.of h, rfl⟩, by rw [r2.1]; exact k _ _ _ .refl gs (.int _)⟩
  · obtain ⟨v, rfl, r⟩ := reps1 rs
    obtain ⟨a, vs, rfl, h, hzr2, r2⟩ := r.tupH gs
    simp only [Option.some.injEq] at ez
    subst ez
    exact ⟨_, vs.length, rfl, .inr ⟨vs, SqT.of h, rfl⟩, by rw [r2.1]; exact k _ _ _ .refl gs (.int _)⟩
  · obtain ⟨v, rfl, r⟩ := reps1 rs
    simp only [Option.some.injEq] at ez
    subst ez
    cases r with
    | scr hs => exact ⟨_, _, rfl, .inl ⟨_, sqL_mono gs.sub hs, rfl⟩, by rw [List.length_map]; exact k _ _ _ .refl gs (.int _)⟩
  · split at ez
    · rename_i hc
      obtain ⟨v, rfl, r⟩ := reps1 rs
      cases r
      simp only [Option.some.injEq] at ez
      subst ez
      exact ⟨_, _, rfl, ⟨hc, rfl⟩, k _ _ _ .refl gs (.int _)⟩
    · cases ez
def dAbs : List D → Option D
  | [.int i] => some (.int (if i < 0 then -i else i))
  | _ => none
theorem calls_abs : CallS X (fun xs H Q => ∃ i, xs = [.int i] ∧ Q (.int (if i < 0 then -i else i)) H) dAbs := by
  intro xs ds z F H p pa Q gs rs ez k
  unfold dAbs at ez
  split at ez <;> first | (cases ez; done) | skip
  obtain ⟨v, rfl, r⟩ := reps1 rs
  cases r
  simp only [Option.some.injEq] at ez
  subst ez
  exact ⟨_, rfl, k _ _ _ .refl gs (.int _)⟩
def dInt : List D → Option D
  | [.int i] => some (.int i)
  | [.bl b] => some (.int (if b then 1 else 0))
  | _ => none
theorem calls_int : CallS X (fun xs H Q => (∃ i, xs = [.int i] ∧ Q (.int i) H) ∨ ∃ k, xs = [.bl k] ∧ Q (.int (if k then 1 else 0)) H) dInt := by
  intro xs ds z F H p pa Q gs rs ez k
  unfold dInt at ez
  split at ez <;> first | (cases ez; done) | skip
  · obtain ⟨v, rfl, r⟩ := reps1 rs
    cases r
    simp only [Option.some.injEq] at ez
    subst ez
    exact .inl ⟨_, rfl, k _ _ _ .refl gs (.int _)⟩
  · obtain ⟨v, rfl, r⟩ := reps1 rs
    cases r
    simp only [Option.some.injEq] at ez
    subst ez
    exact .inr ⟨_, rfl, k _ _ _ .refl gs (.int _)⟩
def dDivmod : List D → Option D
  | [.int i, .int j] => if 0 < j ∧ j < 1073741824 then some (.tup [.int (i / j), .int (i % j)]) else none
  | _ => none
theorem calls_divmod : CallS X (fun xs H Q => ∃ i j, xs = [.int i, .int j] ∧ CDiv i j ∧ ∀ p, H p = none → Q (.ref p) (upd H p (.tup [.int (i / j), .int (i % j)]))) dDivmod := by
  intro xs ds z F H p pa Q gs rs ez k
  unfold dDivmod at ez
  split at ez <;> first | (cases ez; done) | skip
  split at ez
  · rename_i hc
    obtain ⟨v, w, rfl, r1, r2⟩ := reps2 rs
    cases r1; cases r2
    simp only [Option.some.injEq] at ez
    subst ez
    refine ⟨_, _, rfl, hc, fun q hq => ?_⟩
    exact k _ _ _ (Gr.alloc gs hq) (gs.alloc hq) (Rep.tup' upd_same (lim_size (by show 2 ≤ 4096; decide)) (.cons (.int _) (.cons (.int _) .nil)))
  · cases ez
def intsOf : List D → Option (List Int)
  | [] => some []
  | .int i :: r => (intsOf r).map (i :: ·)
  | _ :: _ => none
theorem intsOf_map (ns : List Int) : intsOf (ns.map .int) = some ns := by
  induction ns with
  | nil => rfl
  | cons n ns ih => simp [intsOf, ih]
theorem reps_ints {K : PySem.W.Frag} {F : Hp} {g : Nat} {pa : Option Addr} : ∀ {vs : List V} {ds : List D} {ns : List Int}, Reps K F g pa vs ds → intsOf ds = some ns → vs = ns.map V.int
  | [], [], ns, _, h => by simp [intsOf] at h; subst h; rfl
  | [], _ :: _, _, r, _ => by have := r.1; simp at this
  | _ :: _, [], _, r, _ => by have := r.1; simp at this
  | v :: vs, d :: ds, ns, r, h => by
    cases d <;> first | (simp [intsOf] at h; done) | skip
    simp only [intsOf] at h
    cases q : intsOf ds with
    | none => rw [q] at h; cases h
    | some ms =>
      rw [q] at h
      simp only [Option.map_some, Option.some.injEq] at h
      subst h
      have r1 := r.head
      cases r1
      rw [reps_ints r.tail q]; rfl
def bsOf : List D → Option (List Bool)
  | [] => some []
  | .bl i :: r => (bsOf r).map (i :: ·)
  | _ :: _ => none
theorem bsOf_map (ns : List Bool) : bsOf (ns.map .bl) = some ns := by
  induction ns with
  | nil => rfl
  | cons n ns ih => simp [bsOf, ih]
theorem reps_bs {K : PySem.W.Frag} {F : Hp} {g : Nat} {pa : Option Addr} : ∀ {vs : List V} {ds : List D} {ns : List Bool}, Reps K F g pa vs ds → bsOf ds = some ns → vs = ns.map V.bl
  | [], [], ns, _, h => by simp [bsOf] at h; subst h; rfl
  | [], _ :: _, _, r, _ => by have := r.1; simp at this
  | _ :: _, [], _, r, _ => by have := r.1; simp at this
  | v :: vs, d :: ds, ns, r, h => by
    cases d <;> first | (simp [bsOf] at h; done) | skip
    simp only [bsOf] at h
    cases q : bsOf ds with
    | none => rw [q] at h; cases h
    | some ms =>
      rw [q] at h
      simp only [Option.map_some, Option.some.injEq] at h
      subst h
      have r1 := r.head
      cases r1
      rw [reps_bs r.tail q]; rfl
def dSum : List D → Option D
  | [.lst xs] => (intsOf xs).map fun ns => .int ns.sum
  | _ => none
theorem calls_sum : CallS X (rSum X.K) dSum := by
  intro xs ds z F H p pa Q gs rs ez k
  unfold dSum at ez
  split at ez <;> first | (cases ez; done) | skip
  rename_i ys
  obtain ⟨v, rfl, r⟩ := reps1 rs
  obtain ⟨a, vs, rfl, h, hzr2, r2⟩ := r.lstH gs
  cases q : intsOf ys with
  | none => rw [q] at ez; cases ez
  | some ns =>
    rw [q] at ez
    simp only [Option.map_some, Option.some.injEq] at ez
    subst ez
    exact ⟨a, ns, rfl, SqL.of (by rw [← reps_ints r2 q]; exact h), k _ _ _ .refl gs (.int _)⟩
def dAll : List D → Option D
  | [.lst xs] => (bsOf xs).map fun ns => .bl (ns.all id)
  | _ => none
def dAny : List D → Option D
  | [.lst xs] => (bsOf xs).map fun ns => .bl (ns.any id)
  | _ => none
theorem calls_all : CallS X (rAll X.K) dAll := by
  intro xs ds z F H p pa Q gs rs ez k
  unfold dAll at ez
  split at ez <;> first | (cases ez; done) | skip
  rename_i ys
  obtain ⟨v, rfl, r⟩ := reps1 rs
  obtain ⟨a, vs, rfl, h, hzr2, r2⟩ := r.lstH gs
  cases q : bsOf ys with
  | none => rw [q] at ez; cases ez
  | some ns =>
    rw [q] at ez
    simp only [Option.map_some, Option.some.injEq] at ez
    subst ez
    exact ⟨a, ns, rfl, SqL.of (by rw [← reps_bs r2 q]; exact h), k _ _ _ .refl gs (.bl _)⟩
theorem calls_any : CallS X (rAny X.K) dAny := by
  intro xs ds z F H p pa Q gs rs ez k
  unfold dAny at ez
  split at ez <;> first | (cases ez; done) | skip
  rename_i ys
  obtain ⟨v, rfl, r⟩ := reps1 rs
  obtain ⟨a, vs, rfl, h, hzr2, r2⟩ := r.lstH gs
  cases q : bsOf ys with
  | none => rw [q] at ez; cases ez
  | some ns =>
    rw [q] at ez
    simp only [Option.map_some, Option.some.injEq] at ez
    subst ez
    exact ⟨a, ns, rfl, SqL.of (by rw [← reps_bs r2 q]; exact h), k _ _ _ .refl gs (.bl _)⟩
/-- greatest, least -/
def maxI : List Int → Int
  | [] => 0
  | [x] => x
  | x :: xs => max x (maxI xs)
def minI : List Int → Int
  | [] => 0
  | [x] => x
  | x :: xs => min x (minI xs)
theorem maxI_spec : ∀ {ns : List Int}, ns ≠ [] → maxI ns ∈ ns ∧ ∀ y ∈ ns, y ≤ maxI ns
  | [], h => absurd rfl h
  | [x], _ => by simp [maxI]
  | x :: y :: r, _ => by
    obtain ⟨h1, h2⟩ := maxI_spec (ns := y :: r) (by simp)
    have e : maxI (x :: y :: r) = max x (maxI (y :: r)) := by simp [maxI]
    rw [e]
    constructor
    · by_cases hx : x ≤ maxI (y :: r)
      · rw [show max x (maxI (y :: r)) = maxI (y :: r) by omega]; exact List.mem_cons_of_mem _ h1
      · rw [show max x (maxI (y :: r)) = x by omega]; exact List.mem_cons_self
    · intro z hz
      rcases List.mem_cons.mp hz with rfl | hz
      · omega
      · have := h2 z hz; omega
theorem minI_spec : ∀ {ns : List Int}, ns ≠ [] → minI ns ∈ ns ∧ ∀ y ∈ ns, minI ns ≤ y
  | [], h => absurd rfl h
  | [x], _ => by simp [minI]
  | x :: y :: r, _ => by
    obtain ⟨h1, h2⟩ := minI_spec (ns := y :: r) (by simp)
    have e : minI (x :: y :: r) = min x (minI (y :: r)) := by simp [minI]
    rw [e]
    constructor
    · by_cases hx : minI (y :: r) ≤ x
      · rw [show min x (minI (y :: r)) = minI (y :: r) by omega]; exact List.mem_cons_of_mem _ h1
      · rw [show min x (minI (y :: r)) = x by omega]; exact List.mem_cons_self
    · intro z hz
      rcases List.mem_cons.mp hz with rfl | hz
      · omega
      · have := h2 z hz; omega
def dMax1 : List D → Option D
  | [.lst xs] => (intsOf xs).bind fun ns => if ns = [] then none else some (.int (maxI ns))
  | _ => none
def dMin1 : List D → Option D
  | [.lst xs] => (intsOf xs).bind fun ns => if ns = [] then none else some (.int (minI ns))
  | _ => none
theorem calls_max1 : CallS X (rMax X.K) dMax1 := by
  intro xs ds z F H p pa Q gs rs ez k
  unfold dMax1 at ez
  split at ez <;> first | (cases ez; done) | skip
  rename_i ys
  obtain ⟨v, rfl, r⟩ := reps1 rs
  obtain ⟨a, vs, rfl, h, hzr2, r2⟩ := r.lstH gs
  cases q : intsOf ys with
  | none => rw [q] at ez; cases ez
  | some ns =>
    rw [q] at ez
    simp only [Option.bind_some] at ez
    split at ez
    · cases ez
    · rename_i hne
      simp only [Option.some.injEq] at ez
      subst ez
      refine ⟨a, ns, rfl, SqL.of (by rw [← reps_ints r2 q]; exact h), List.length_pos_iff.mpr hne, fun m hm hle => ?_⟩
      obtain ⟨h1, h2⟩ := maxI_spec hne
      have : m = maxI ns := by have a1 := hle _ h1; have a2 := h2 _ hm; omega
      rw [this]
      exact k _ _ _ .refl gs (.int _)
theorem calls_min1 : CallS X (rMin X.K) dMin1 := by
  intro xs ds z F H p pa Q gs rs ez k
  unfold dMin1 at ez
  split at ez <;> first | (cases ez; done) | skip
  rename_i ys
  obtain ⟨v, rfl, r⟩ := reps1 rs
  obtain ⟨a, vs, rfl, h, hzr2, r2⟩ := r.lstH gs
  cases q : intsOf ys with
  | none => rw [q] at ez; cases ez
  | some ns =>
    rw [q] at ez
    simp only [Option.bind_some] at ez
    split at ez
    · cases ez
    · rename_i hne
      simp only [Option.some.injEq] at ez
      subst ez
      refine ⟨a, ns, rfl, SqL.of (by rw [← reps_ints r2 q]; exact h), List.length_pos_iff.mpr hne, fun m hm hle => ?_⟩
      obtain ⟨h1, h2⟩ := minI_spec hne
      have : m = minI ns := by have a1 := hle _ h1; have a2 := h2 _ hm; omega
      rw [this]
      exact k _ _ _ .refl gs (.int _)
def dMax2 : List D → Option D
  | [.int i, .int j] => some (.int (if j > i then j else i))
  | _ => none
def dMin2 : List D → Option D
  | [.int i, .int j] => some (.int (if j < i then j else i))
  | _ => none
theorem calls_max2 : CallS X (fun xs H Q => ∃ i j, xs = [.int i, .int j] ∧ Q (.int (if j > i then j else i)) H) dMax2 := by
  intro xs ds z F H p pa Q gs rs ez k
  unfold dMax2 at ez
  split at ez <;> first | (cases ez; done) | skip
  obtain ⟨v, w, rfl, r1, r2⟩ := reps2 rs
  cases r1; cases r2
  simp only [Option.some.injEq] at ez
  subst ez
  exact ⟨_, _, rfl, k _ _ _ .refl gs (.int _)⟩
theorem calls_min2 : CallS X (fun xs H Q => ∃ i j, xs = [.int i, .int j] ∧ Q (.int (if j < i then j else i)) H) dMin2 := by
  intro xs ds z F H p pa Q gs rs ez k
  unfold dMin2 at ez
  split at ez <;> first | (cases ez; done) | skip
  obtain ⟨v, w, rfl, r1, r2⟩ := reps2 rs
  cases r1; cases r2
  simp only [Option.some.injEq] at ez
  subst ez
  exact ⟨_, _, rfl, k _ _ _ .refl gs (.int _)⟩
/-- tuple(x) -/
def dTuple : List D → Option D
  | [.lst xs] => some (.tup xs)
  | [.tup xs] => some (.tup xs)
  | _ => none
theorem calls_tuple : CallS X (fun xs H Q => ∃ p ys, xs = [.ref p] ∧ ((SqL X.K H p ys ∧ ∀ l, H l = none → Q (.ref l) (upd H l (.tup ys))) ∨ (SqT X.K H p ys ∧ Q (.ref p) H))) dTuple := by
  intro xs ds z F H p pa Q gs rs ez k
  unfold dTuple at ez
  split at ez <;> first | (cases ez; done) | skip
  · obtain ⟨v, rfl, r⟩ := reps1 rs
    obtain ⟨a, vs, rfl, h, hzr2, r2⟩ := r.lstH gs
    simp only [Option.some.injEq] at ez
    subst ez
    exact ⟨a, vs, rfl, .inl ⟨SqL.of h, fun q hq => k _ _ _ (Gr.alloc gs hq) (gs.alloc hq) (Rep.tup' upd_same hzr2 (r2.mono (Fz.upd (gs.fnone hq))))⟩⟩
  · obtain ⟨v, rfl, r⟩ := reps1 rs
    have r' := r
    obtain ⟨a, vs, rfl, h, hzr2, r2⟩ := r.tupH gs
    simp only [Option.some.injEq] at ez
    subst ez
    exact ⟨a, vs, rfl, .inr ⟨SqT.of h, k _ _ _ .refl gs r'⟩⟩
end
end PF

namespace PF
open PySem PySem.Spec PyProof.Rows L2

section
variable {X : Cx} {Wx : WX} {a b c e : Expr} {es rest : List Expr} {ma mb mc m : M D} {mo ms mi : M (List D)} {ta tb : M Bool} {pos : Pos} {x : Str} {p : Pos} {tg : Expr}
/-! ### fresh lists from built-ins -/
def mLst (f : List D → Option (List D)) (ms : M (List D)) : M (List D) := mbind ms fun ds => mopt (f ds)
def CallSo (X : Cx) (r : List V → Hp → VK → Prop) (f : List D → Option (List D)) : Prop := ∀ (xs : List V) (ds zs : List D) (F H : Hp) (p : Pst) (pa : Option Addr) (Q : VK), GS F H pa p → Reps X.K F p.g pa xs ds → f ds = some zs →
  (∀ q vs, H q = none → zs.length ≤ sizeLine → Reps X.K F p.g pa vs zs → Q (.ref q) (upd H q (.lst vs))) → r xs H Q
theorem tm_callo {r : List V → Hp → VK → Prop} {f : List D → Option (List D)} (hs : CallSo X r f) : ∀ σ H Q, TMo X.K X.mg Wx (mLst f ms) σ H Q → tCB r (TMa X.K X.mg Wx ms) σ H Q := fun σ H Q ⟨F, pa, p, ρ, gs, s, o⟩ => by
  refine TMa.of gs s ((Out.bindS .refl o).mono fun ds p1 F1 H1 pa1 _ gs1 ⟨gr1, o1⟩ s1 vs rs => ?_)
  obtain ⟨z, ez, o2⟩ := o1.opt
  exact hs vs ds z F1 H1 p1 pa1 Q gs1 rs ez fun q ws hq hz rz => out_fresh gr1 gs1 o2 hq hz rz
theorem pmo_callB {bid : String} {r : List V → Hp → VK → Prop} {f : List D → Option (List D)} (hc : CallR X (.builtin bid) r) (hs : CallSo X r f) (hg : Gl X x) (hm : X.mg x = none) (hv : bootBuiltins x = some (.builtin bid)) (ha : PMa X Wx (e :: es) ms) (hn : x ≠ "__name__" := by decide) (hdb : (x == ("__debug__" : Str)) = false := by decide)
    (he : starEach (e :: es) X.env = (false, eval e X.env) :: starEach es X.env := by rfl) (hpl : (backTo pos (starEach es X.env)).any (·.1) = false := by rfl) : PMo X Wx (.Call (.Name x p) (e :: es) [] pos) (mLst f ms) :=
  ⟨(pe_callB hc hg hm hv ha.pa hn hdb he hpl).imp (tm_callo hs)⟩
theorem pmo_callTy {T : String} {r : List V → Hp → VK → Prop} {f : List D → Option (List D)} (hc : CallR X (.type T) r) (hs : CallSo X r f) (hg : Gl X x) (hm : X.mg x = none) (hv : bootBuiltins x = some (.type T)) (ha : PMa X Wx (e :: es) ms) (hn : x ≠ "__name__" := by decide) (hdb : (x == ("__debug__" : Str)) = false := by decide)
    (he : starEach (e :: es) X.env = (false, eval e X.env) :: starEach es X.env := by rfl) (hpl : (backTo pos (starEach es X.env)).any (·.1) = false := by rfl) : PMo X Wx (.Call (.Name x p) (e :: es) [] pos) (mLst f ms) :=
  ⟨(pe_callTy hc hg hm hv ha.pa hn hdb he hpl).imp (tm_callo hs)⟩
/-- list(x) of a list, a tuple -/
def dList : List D → Option (List D)
  | [.lst xs] => some xs
  | [.tup xs] => some xs
  | _ => none
theorem calls_list : CallSo X (fun xs H Q => ∃ p ys, xs = [.ref p] ∧ (SqL X.K H p ys ∨ SqT X.K H p ys) ∧ ∀ l, H l = none → Q (.ref l) (upd H l (.lst ys))) dList := by
  intro xs ds z F H p pa Q gs rs ez k
  unfold dList at ez
  split at ez <;> first | (cases ez; done) | skip
  · obtain ⟨v, rfl, r⟩ := reps1 rs
    obtain ⟨a, vs, rfl, h, hz, r2⟩ := r.lstH gs
    simp only [Option.some.injEq] at ez
    subst ez
    exact ⟨a, vs, rfl, .inl (SqL.of h), fun l hl => k l vs hl hz r2⟩
  · obtain ⟨v, rfl, r⟩ := reps1 rs
    obtain ⟨a, vs, rfl, h, hz, r2⟩ := r.tupH gs
    simp only [Option.some.injEq] at ez
    subst ez
    exact ⟨a, vs, rfl, .inr (SqT.of h), fun l hl => k l vs hl hz r2⟩
/-- sorted(x) of a list of ints -/
def ins (x : Int) : List Int → List Int
  | [] => [x]
  | y :: ys => if x ≤ y then x :: y :: ys else y :: ins x ys
def srt : List Int → List Int
  | [] => []
  | x :: xs => ins x (srt xs)
theorem ins_perm (x : Int) : ∀ l, (ins x l).Perm (x :: l)
  | [] => .refl _
  | y :: ys => by
    unfold ins
    split
    · exact .refl _
    · exact ((ins_perm x ys).cons y).trans (.swap x y ys)
theorem srt_perm : ∀ ns : List Int, (srt ns).Perm ns
  | [] => .refl _
  | x :: xs => (ins_perm x (srt xs)).trans ((srt_perm xs).cons x)
theorem ins_sorted (x : Int) : ∀ l : List Int, l.Pairwise (· ≤ ·) → (ins x l).Pairwise (· ≤ ·)
  | [], _ => by simp [ins]
  | y :: ys, h => by
    rw [List.pairwise_cons] at h
    unfold ins
    split
    · rename_i hc
      refine List.Pairwise.cons (fun z hz => ?_) (List.Pairwise.cons h.1 h.2)
      rcases List.mem_cons.mp hz with rfl | hz
      · exact hc
      · exact Int.le_trans hc (h.1 z hz)
    · rename_i hc
      refine List.Pairwise.cons (fun z hz => ?_) (ins_sorted x ys h.2)
      have hz' := (ins_perm x ys).mem_iff.mp hz
      rcases List.mem_cons.mp hz' with rfl | hz'
      · omega
      · exact h.1 z hz'
theorem srt_sorted : ∀ ns : List Int, (srt ns).Pairwise (· ≤ ·)
  | [] => .nil
  | x :: xs => ins_sorted x (srt xs) (srt_sorted xs)
theorem sorted_unique : ∀ {xs ys : List Int}, xs.Perm ys → xs.Pairwise (· ≤ ·) → ys.Pairwise (· ≤ ·) → xs = ys := by
  intro xs ys hp h1 h2
  exact List.Perm.eq_of_pairwise (le := (· ≤ ·)) (fun a b _ _ h3 h4 => by omega) h1 h2 hp
def dSorted : List D → Option (List D)
  | [.lst xs] => (intsOf xs).map fun ns => (srt ns).map .int
  | _ => none
theorem reps_int_map {K : PySem.W.Frag} {F : Hp} {g : Nat} {pa : Option Addr} : ∀ ns : List Int, Reps K F g pa (ns.map V.int) (ns.map D.int)
  | [] => .nil
  | n :: ns => .cons (.int n) (reps_int_map ns)
theorem intsOf_len : ∀ {ds : List D} {ns : List Int}, intsOf ds = some ns → ns.length = ds.length
  | [], ns, h => by simp [intsOf] at h; subst h; rfl
  | d :: ds, ns, h => by
    cases d <;> first | (simp [intsOf] at h; done) | skip
    simp only [intsOf] at h
    cases q : intsOf ds with
    | none => rw [q] at h; cases h
    | some ms =>
      rw [q] at h
      simp only [Option.map_some, Option.some.injEq] at h
      subst h
      simp [intsOf_len q]
theorem calls_sorted : CallSo X (rSortedI X.K) dSorted := by
  intro xs ds z F H p pa Q gs rs ez k
  unfold dSorted at ez
  split at ez <;> first | (cases ez; done) | skip
  rename_i ys
  obtain ⟨v, rfl, r⟩ := reps1 rs
  obtain ⟨a, vs, rfl, h, hz, r2⟩ := r.lstH gs
  cases q : intsOf ys with
  | none => rw [q] at ez; cases ez
  | some ns =>
    rw [q] at ez
    simp only [Option.map_some, Option.some.injEq] at ez
    subst ez
    refine ⟨a, ns, rfl, SqL.of (by rw [← reps_ints r2 q]; exact h), fun ns' l hp hs hl => ?_⟩
    have e : ns' = srt ns := sorted_unique (hp.trans (srt_perm ns).symm) hs (srt_sorted ns)
    subst e
    exact k l _ hl (by rw [List.length_map, (srt_perm ns).length_eq, intsOf_len q]; exact hz) (reps_int_map _)

/-! ### isinstance -/
inductive Ty | int | bool | str | list | tuple | dict
def Ty.name : Ty → String
  | .int => "int" | .bool => "bool" | .str => "str" | .list => "list" | .tuple => "tuple" | .dict => "dict"
def isTy : Ty → D → Bool
  | .int, .int _ => true
  | .int, .bl _ => true
  | .bool, .bl _ => true
  | .str, .str _ => true
  | .list, .lst _ => true
  | .list, .scr _ => true
  | .tuple, .tup _ => true
  | .dict, .emp => true
  | _, _ => false
def tyOf : D → String
  | .non => "NoneType" | .bl _ => "bool" | .int _ => "int" | .str _ => "str" | .lst _ => "list" | .scr _ => "list" | .pot _ => "list" | .tup _ => "tuple" | .emp => "dict"
theorem Rep.ty {K : PySem.W.Frag} {F H : Hp} {p : Pst} {pa : Option Addr} {v : V} {d : D} (gs : GS F H pa p) (r : Rep K F p.g pa v d) (hnp : noPot d = true) : TyX K H v (.type (tyOf d)) := by
  cases r with
  | non => exact .base .non
  | bl b => exact .base (.bl b)
  | int i => exact .base (.int i)
  | str s => exact .base (.str s)
  | lst h _ _ _ => exact .base (.lst (gs.sub _ _ h))
  | tup h _ _ _ => exact .base (.tup (gs.sub _ _ h))
  | scr h =>
    rcases h with (h | ⟨o, h⟩) | ⟨o, its, n, h1, h2, _⟩
    · exact .base (.lst (gs.sub _ _ h))
    · exact .base (.frz (gs.sub _ _ h))
    · exact .kList h1 h2
  | pot _ _ => simp [noPot] at hnp
  | emp h => exact .base (.dK (gs.sub _ _ h))
theorem kit_tab (t : Ty) (d : D) : kitB (tyOf d) t.name = some (isTy t d) ∨ noPot d = false := by
  cases d <;> cases t <;> first | exact .inr rfl | (left; simp only [tyOf, Ty.name, isTy]; decide +kernel)
def mIsi (t : Ty) (m : M D) : M D := mbind m fun d => if noPot d = true then mret (.bl (isTy t d)) else mstuck
def isTys (ts : List Ty) (d : D) : Bool := ts.any fun t => isTy t d
def mIsis (ts : List Ty) (m : M D) : M D := mbind m fun d => if noPot d = true then mret (.bl (isTys ts d)) else mstuck
theorem pm_isi {y : Str} {p2 : Pos} (t : Ty) (hg : Gl X "isinstance") (hm : X.mg "isinstance" = none) (ha : PM X Wx a m) (hgy : Gl X y) (hmy : X.mg y = none) (hvy : bootBuiltins y = some (.type t.name)) (hny : y ≠ "__name__" := by decide) (hdy : (y == ("__debug__" : Str)) = false := by decide)
    (hs : starEach (a :: [.Name y p2]) X.env = (false, eval a X.env) :: starEach [.Name y p2] X.env := by rfl) (hs2 : starEach [.Name y p2] X.env = (false, eval (.Name y p2) X.env) :: starEach [] X.env := by rfl)
    (hpl : (backTo pos (starEach [.Name y p2] X.env)).any (·.1) = false := by rfl) : PM X Wx (.Call (.Name "isinstance" p) [a, .Name y p2] [] pos) (mIsi t m) :=
  ⟨(pe_callB call_isi hg hm PyProof.Rows.boot_isinstance (pa_cons ha.pe (pa_cons (pe_bltn (v := .ty t.name) hgy hmy hvy rfl hny hdy) pa_nil hs2) hs) (by decide) (by decide) hs hpl).imp fun σ H Q ⟨F, pa, p, ρ, gs, s, o⟩ => by
    refine TM.of gs s (o.bind.mono fun d p1 F1 H1 pa1 gr1 gs1 o1 s1 v1 r1 => ?_)
    by_cases hn : noPot d = true
    · rw [if_pos hn] at o1
      refine ⟨v1, .ty t.name, _, _, isTy t d, rfl, .ty _, r1.ty gs1 hn, ?_, o1.ret gs1 _ (.bl _)⟩
      rcases kit_tab t d with h | h
      · exact kit_ty h
      · rw [h] at hn; cases hn
    · rw [if_neg hn] at o1; exact o1.elim⟩
theorem kitAny_tys {K : PySem.W.Frag} {d : D} (hn : noPot d = true) : ∀ ts : List Ty, PySem.W.kitAny K (.type (tyOf d)) (ts.map fun t => Value.type t.name) = some (isTys ts d)
  | [] => kitAny_nil
  | t :: ts => by
    have h : PySem.W.kitOne K (.type (tyOf d)) (.type t.name) = some (isTy t d) := by
      rcases kit_tab t d with h | h
      · exact kit_ty h
      · rw [h] at hn; cases hn
    refine kitAny_cons h (fun e => ?_) fun e => ?_
    · rw [kitAny_tys hn ts]; simp [isTys, e]
    · simp [isTys, e]
theorem pm_isi2 {y z : Str} {p2 p3 p4 : Pos} {kk} (t u : Ty) (hg : Gl X "isinstance") (hm : X.mg "isinstance" = none) (ha : PM X Wx a m) (hgy : Gl X y) (hmy : X.mg y = none) (hvy : bootBuiltins y = some (.type t.name)) (hgz : Gl X z) (hmz : X.mg z = none) (hvz : bootBuiltins z = some (.type u.name))
    (hny : y ≠ "__name__" := by decide) (hdy : (y == ("__debug__" : Str)) = false := by decide) (hnz : z ≠ "__name__" := by decide) (hdz : (z == ("__debug__" : Str)) = false := by decide)
    (hs : starEach (a :: [.Tuple [.Name y p2, .Name z p3] kk p4]) X.env = (false, eval a X.env) :: starEach [.Tuple [.Name y p2, .Name z p3] kk p4] X.env := by rfl)
    (hs2 : starEach [.Tuple [.Name y p2, .Name z p3] kk p4] X.env = (false, eval (.Tuple [.Name y p2, .Name z p3] kk p4) X.env) :: starEach [] X.env := by rfl)
    (hs3 : starEach [.Name y p2, .Name z p3] X.env = (false, eval (.Name y p2) X.env) :: starEach [.Name z p3] X.env := by rfl) (hs4 : starEach [.Name z p3] X.env = (false, eval (.Name z p3) X.env) :: starEach [] X.env := by rfl)
    (hpl : (backTo pos (starEach [.Tuple [.Name y p2, .Name z p3] kk p4] X.env)).any (·.1) = false := by rfl) : PM X Wx (.Call (.Name "isinstance" p) [a, .Tuple [.Name y p2, .Name z p3] kk p4] [] pos) (mIsis [t, u] m) :=
  ⟨(pe_callB call_isiT hg hm PyProof.Rows.boot_isinstance (pa_cons ha.pe (pa_cons (pe_tup (pa_cons (pe_bltn (v := .ty t.name) hgy hmy hvy rfl hny hdy) (pa_cons (pe_bltn (v := .ty u.name) hgz hmz hvz rfl hnz hdz) pa_nil hs4) hs3)) pa_nil hs2) hs) (by decide) (by decide) hs hpl).imp fun σ H Q ⟨F, pa, p, ρ, gs, s, o⟩ => by
    refine TM.of gs s (o.bind.mono fun d p1 F1 H1 pa1 gr1 gs1 o1 s1 v1 r1 => ?_)
    by_cases hn : noPot d = true
    · rw [if_pos hn] at o1
      refine ⟨lim_size (by show 2 ≤ 4096; decide), fun q hq => ?_⟩
      have gs2 := gs1.allocO (o := .tup [.ty t.name, .ty u.name]) hq
      have gr2 : Gr F1 H1 p1.g pa1 F1 (upd H1 q (.tup [.ty t.name, .ty u.name])) p1.g pa1 := Gr.allocO hq
      refine ⟨v1, q, _, _, _, isTys [t, u] d, rfl, upd_same, .cons (.ty _) (.cons (.ty _) .nil), r1.ty gs2 hn, kitAny_tys hn [t, u], o1 _ _ pa1 gr2 gs2 _ (.bl _)⟩
    · rw [if_neg hn] at o1; exact o1.elim⟩

/-! ### what is walked -/
def IterOk (K : PySem.W.Frag) (F0 : Hp) (g0 : Nat) (pa0 : Option Addr) (J : It) (items : List D) : Prop := ∀ (i : Nat) (F H : Hp) (pa : Option Addr) (p : Pst), Fz F0 g0 pa0 F p.g pa → GS F H pa p →
  (items.length ≤ i → J.stop i H) ∧ ∀ d, items[i]? = some d → J.go i H ∧ ∀ x H', J.yld i H x H' → ∃ F', Gr F H p.g pa F' H' p.g pa ∧ GS F' H' pa p ∧ Rep K F' p.g pa x d
def TMi (K : PySem.W.Frag) (mg : Str → Option Value) (Wx : WX) (m : M (List D)) : TI := fun σ H R => At K mg Wx m σ H fun _ _ items p' F' H' pa' => ∀ J, IterOk K F' p'.g pa' J items → items.length ≤ sizeLine → R J H'
structure PMi (X : Cx) (Wx : WX) (tg e : Expr) (m : M (List D)) : Prop where
  pi : PI X tg e (TMi X.K X.mg Wx m)
theorem _root_.L2.PI.imp {X : Cx} {tg e : Expr} {t t' : TI} (h : PI X tg e t) (f : ∀ σ H R, t' σ H R → t σ H R) : PI X tg e t' := ⟨fun pins s σ H R I q => h.run pins s σ H R I (f σ H R q)⟩
theorem iter_list {K : PySem.W.Frag} {F : Hp} {g : Nat} {pa : Option Addr} {a : Addr} {vs : List V} {ds : List D} (h : F a = some (.lst vs)) (r : Reps K F g pa vs ds) : IterOk K F g pa (Itl K a) ds := by
  intro i F1 H1 pa1 p1 fz gs1
  have h1 : SqL K H1 a vs := SqL.of (gs1.sub _ _ (fz.sub _ _ h))
  have r1 := r.mono fz
  refine ⟨fun hi => ⟨vs, h1, by rw [r.1]; exact hi⟩, fun d hd => ?_⟩
  obtain ⟨v, hv, rv⟩ := r1.get hd
  refine ⟨⟨vs, v, h1, hv⟩, fun x H' ⟨e, hx⟩ => ?_⟩
  subst e
  have := hx vs h1
  rw [hv] at this
  cases this
  exact ⟨F1, .refl, gs1, rv⟩
theorem iter_tup {K : PySem.W.Frag} {F : Hp} {g : Nat} {pa : Option Addr} {a : Addr} {vs : List V} {ds : List D} (h : F a = some (.tup vs)) (r : Reps K F g pa vs ds) : IterOk K F g pa (Itt K a) ds := by
  intro i F1 H1 pa1 p1 fz gs1
  have h1 : SqT K H1 a vs := SqT.of (gs1.sub _ _ (fz.sub _ _ h))
  have r1 := r.mono fz
  refine ⟨fun hi => ⟨vs, h1, by rw [r.1]; exact hi⟩, fun d hd => ?_⟩
  obtain ⟨v, hv, rv⟩ := r1.get hd
  refine ⟨⟨vs, v, h1, hv⟩, fun x H' ⟨e, hx⟩ => ?_⟩
  subst e
  have := hx vs h1
  rw [hv] at this
  cases this
  exact ⟨F1, .refl, gs1, rv⟩
theorem iter_scr {K : PySem.W.Frag} {F : Hp} {g : Nat} {pa : Option Addr} {a : Addr} {ns : List Int} (h : SqL K F a (ns.map V.int)) : IterOk K F g pa (Itl K a) (ns.map .int) := by
  intro i F1 H1 pa1 p1 fz gs1
  have h1 : SqL K H1 a (ns.map V.int) := sqL_mono gs1.sub (sqL_mono fz.sub h)
  refine ⟨fun hi => ⟨_, h1, by simpa using hi⟩, fun d hd => ?_⟩
  rw [List.getElem?_map] at hd
  cases q : ns[i]? with
  | none => rw [q] at hd; cases hd
  | some n =>
    rw [q] at hd
    cases hd
    have hv : (ns.map V.int)[i]? = some (.int n) := by rw [List.getElem?_map, q]; rfl
    refine ⟨⟨_, _, h1, hv⟩, fun x H' ⟨e, hx⟩ => ?_⟩
    subst e
    have := hx _ h1
    rw [hv] at this
    cases this
    exact ⟨F1, .refl, gs1, .int n⟩
/-- a list or a tuple -/
theorem pi_lt {l : Expr} {tl : TE} (hl : PE X l tl) : PI X tg l (fun σ H R => tl σ H fun x H1 => (∃ a, x = .ref a ∧ (∃ xs, SqL X.K H1 a xs) ∧ R (Itl X.K a) H1) ∨ (∃ a, x = .ref a ∧ (∃ xs, SqT X.K H1 a xs) ∧ R (Itt X.K a) H1)) := by
  refine ⟨fun pins s σ H R I h => ?_⟩
  refine thn (hl.run pins s σ H _ I h) fun v s1 ⟨x, H1, I1, r1, q1⟩ => ?_
  rcases q1 with ⟨a, e, ⟨xs, hq⟩, q⟩ | ⟨a, e, ⟨xs, hq⟩, q⟩
  · subst e
    cases r1
    obtain ⟨its, rv, p, hz⟩ := I1.list hq
    refine wpAny_pyIter_list p.isList ?_
    refine ⟨s1.heap.objs.size, [s1.heap.objs.size], _, _, H1, rfl, I1.kept (t' := s1.toks) fun b o e => Heap.get?_push_of_some _ e, turn_list a _, ⟨_, Heap.get?_push_size _ rfl, rfl, rfl⟩, fun b hb => ?_, q⟩
    have e : b = s1.heap.objs.size := by simpa using hb
    subst e
    exact I1.fpOk (Nat.le_refl _) (I1.hok.fresh (Nat.le_refl _))
  · subst e
    cases r1
    obtain ⟨its, rv, p, hz⟩ := I1.tuple hq
    refine wpAny_pyIter_tuple (show s1.heap.IsTuple a its.toArray from p) ?_
    refine ⟨s1.heap.objs.size, [s1.heap.objs.size], _, _, H1, rfl, I1.kept (t' := s1.toks) fun b o e => Heap.get?_push_of_some _ e, turn_tuple a _, ⟨_, Heap.get?_push_size _ rfl, rfl, rfl⟩, fun b hb => ?_, q⟩
    have e : b = s1.heap.objs.size := by simpa using hb
    subst e
    exact I1.fpOk (Nat.le_refl _) (I1.hok.fresh (Nat.le_refl _))
def seqD : D → M (List D)
  | .lst xs => mret xs
  | .tup xs => mret xs
  | .scr ns => if ns.length ≤ 4096 then mret (ns.map .int) else mstuck
  | _ => mstuck
def mSeq (m : M D) : M (List D) := mbind m seqD
theorem pmi_seq (he : PM X Wx e m) : PMi X Wx tg e (mSeq m) := ⟨(pi_lt he.pe).imp fun σ H R ⟨F, pa, p, ρ, gs, s, o⟩ => by
  refine TM.of gs s (o.bind.mono fun d p1 F1 H1 pa1 gr1 gs1 o1 s1 v1 r1 => ?_)
  cases d <;> first | exact o1.elim | skip
  · obtain ⟨a, vs, rfl, h, hz, rs⟩ := r1.lst_inv
    exact .inl ⟨a, rfl, ⟨vs, SqL.of (gs1.sub _ _ h)⟩, o1.ret gs1 _ (iter_list h rs) hz⟩
  · obtain ⟨a, vs, rfl, h, hz, rs⟩ := r1.tup_inv
    exact .inr ⟨a, rfl, ⟨vs, SqT.of (gs1.sub _ _ h)⟩, o1.ret gs1 _ (iter_tup h rs) hz⟩
  · rename_i ns
    cases r1 with
    | scr h =>
      simp only [seqD] at o1
      by_cases hc : ns.length ≤ 4096
      · rw [if_pos hc] at o1
        exact .inl ⟨_, rfl, ⟨_, sqL_mono gs1.sub h⟩, o1.ret gs1 _ (iter_scr h) (by rw [List.length_map]; exact lim_size hc)⟩
      · rw [if_neg hc] at o1; exact o1.elim⟩
/-- ranges -/
def rgL (lo : Int) (n : Nat) : List D := (List.range n).map fun (k : Nat) => D.int (lo + k)
theorem iter_rng {K : PySem.W.Frag} {F : Hp} {g : Nat} {pa : Option Addr} {lo : Int} {n : Nat} : IterOk K F g pa (Itr lo n) (rgL lo n) := by
  intro i F1 H1 pa1 p1 fz gs1
  refine ⟨fun hi => by simpa [rgL, Itr] using hi, fun d hd => ?_⟩
  unfold rgL at hd
  rw [List.getElem?_map] at hd
  by_cases hi : i < n
  · rw [List.getElem?_range hi] at hd
    cases hd
    exact ⟨hi, fun x H' ⟨e, hx⟩ => by subst e hx; exact ⟨F1, .refl, gs1, .int _⟩⟩
  · rw [List.getElem?_eq_none (by simpa using hi)] at hd
    cases hd
theorem sz16 {n : Nat} (h : n ≤ 16000000) : n ≤ sizeLine := by rw [sizeLine_eq]; omega
theorem rgL_len (lo : Int) (n : Nat) : (rgL lo n).length = n := by simp [rgL]
def dRange1 : List D → Option (List D)
  | [.int j] => if j ≤ 16000000 ∧ -(2 ^ 60) ≤ j then some (rgL 0 j.toNat) else none
  | _ => none
def dRange2 : List D → Option (List D)
  | [.int i, .int j] => if -(2 ^ 60) ≤ i ∧ i < 2 ^ 60 ∧ -(2 ^ 60) ≤ j ∧ j < 2 ^ 60 ∧ j - i ≤ 16000000 then some (rgL i (j - i).toNat) else none
  | _ => none
def mRange1 (ms : M (List D)) : M (List D) := mbind ms fun ds => mopt (dRange1 ds)
def mRange2 (ms : M (List D)) : M (List D) := mbind ms fun ds => mopt (dRange2 ds)
theorem pmi_range1 (hg : Gl X "range") (hm : X.mg "range" = none) (ha : PMa X Wx [a] ms) (hs : starEach [a] X.env = [(false, eval a X.env)] := by rfl) : PMi X Wx tg (.Call (.Name "range" p) [a] [] pos) (mRange1 ms) := ⟨(pi_range1 hg hm ha.pa hs).imp fun σ H R ⟨F, pa, p, ρ, gs, s, o⟩ => by
  refine TMa.of gs s (o.bind.mono fun ds p1 F1 H1 pa1 gr1 gs1 o1 s1 vs rs => ?_)
  obtain ⟨z, ez, o2⟩ := o1.opt
  unfold dRange1 at ez
  split at ez <;> first | (cases ez; done) | skip
  split at ez <;> first | (cases ez; done) | skip
  rename_i hc
  simp only [Option.some.injEq] at ez
  subst ez
  obtain ⟨v, rfl, r⟩ := reps1 rs
  cases r
  exact ⟨_, rfl, by omega, by omega, o2.ret gs1 _ iter_rng (by rw [rgL_len]; exact sz16 (by omega))⟩⟩
theorem pmi_range2 (hg : Gl X "range") (hm : X.mg "range" = none) (ha : PMa X Wx [a, b] ms) (hs : starEach [a, b] X.env = [(false, eval a X.env), (false, eval b X.env)] := by rfl) (hs2 : starEach [b] X.env = [(false, eval b X.env)] := by rfl) : PMi X Wx tg (.Call (.Name "range" p) [a, b] [] pos) (mRange2 ms) := ⟨(pi_range2 hg hm ha.pa hs hs2).imp fun σ H R ⟨F, pa, p, ρ, gs, s, o⟩ => by
  refine TMa.of gs s (o.bind.mono fun ds p1 F1 H1 pa1 gr1 gs1 o1 s1 vs rs => ?_)
  obtain ⟨z, ez, o2⟩ := o1.opt
  unfold dRange2 at ez
  split at ez <;> first | (cases ez; done) | skip
  split at ez <;> first | (cases ez; done) | skip
  rename_i hc
  simp only [Option.some.injEq] at ez
  subst ez
  obtain ⟨v, w, rfl, r1, r2⟩ := reps2 rs
  cases r1; cases r2
  exact ⟨_, _, rfl, ⟨by omega, by omega, by omega, by omega⟩, o2.ret gs1 _ iter_rng (by rw [rgL_len]; exact sz16 (by omega))⟩⟩
/-- enumerate(list) -/
def enumL (xs : List D) : List D := xs.mapIdx fun i x => .tup [.int (i : Nat), x]
theorem two_line : 2 ≤ sizeLine := lim_size (by decide)
theorem iter_enum {K : PySem.W.Frag} {F : Hp} {g : Nat} {pa : Option Addr} {a : Addr} {vs : List V} {ds : List D} (h : F a = some (.lst vs)) (r : Reps K F g pa vs ds) : IterOk K F g pa (Ite K a) (enumL ds) := by
  intro i F1 H1 pa1 p1 fz gs1
  have h1 : SqL K H1 a vs := SqL.of (gs1.sub _ _ (fz.sub _ _ h))
  have r1 := r.mono fz
  refine ⟨fun hi => ⟨vs, h1, by rw [r.1]; simpa [enumL] using hi⟩, fun d hd => ?_⟩
  unfold enumL at hd
  rw [List.getElem?_mapIdx] at hd
  cases q : ds[i]? with
  | none => rw [q] at hd; cases hd
  | some e =>
    rw [q] at hd
    cases hd
    obtain ⟨v, hv, rv⟩ := r1.get q
    refine ⟨⟨vs, v, h1, hv⟩, fun x H' ⟨T, y, e1, e2, e3, hx⟩ => ?_⟩
    subst e1 e3
    have := hx vs h1
    rw [hv] at this
    cases this
    have fu : Fz F1 p1.g pa1 (upd F1 T (.tup [.int (i : Nat), v])) p1.g pa1 := Fz.upd (gs1.fnone e2)
    exact ⟨_, Gr.alloc gs1 e2, gs1.alloc e2, Rep.tup' upd_same two_line (.cons (.int _) (.cons (rv.mono fu) .nil))⟩
def mEnum (ms : M (List D)) : M (List D) := mbind ms fun ds => match ds with
  | [.lst xs] => mret (enumL xs)
  | _ => mstuck
theorem pmi_enum {elts : List Expr} {kk : Nat} {tpos : Pos} (hg : Gl X "enumerate") (hm : X.mg "enumerate" = none) (ha : PMa X Wx [e] ms) (hs : starEach [e] X.env = [(false, eval e X.env)] := by rfl) : PMi X Wx (.Tuple elts kk tpos) (.Call (.Name "enumerate" p) [e] [] pos) (mEnum ms) := ⟨(pi_enum hg hm ha.pa hs).imp fun σ H R ⟨F, pa, p, ρ, gs, s, o⟩ => by
  refine TMa.of gs s (o.bind.mono fun ds p1 F1 H1 pa1 gr1 gs1 o1 s1 vs rs => ?_)
  split at o1 <;> first | exact o1.elim | skip
  obtain ⟨v, rfl, r⟩ := reps1 rs
  obtain ⟨a, vs, rfl, h, hz, r2⟩ := r.lst_inv
  exact ⟨a, vs, rfl, SqL.of (gs1.sub _ _ h), o1.ret gs1 _ (iter_enum h r2) (by simpa [enumL] using hz)⟩⟩
/-- zip of two lists, of two tuples -/
def zipL (xs ys : List D) : List D := List.zipWith (fun x y => .tup [x, y]) xs ys
theorem zip_item {K : PySem.W.Frag} {F H : Hp} {p : Pst} {pa : Option Addr} {T : Addr} {v w : V} {d e : D} (gs : GS F H pa p) (hT : H T = none) (r1 : Rep K F p.g pa v d) (r2 : Rep K F p.g pa w e) :
    ∃ F', Gr F H p.g pa F' (upd H T (.tup [v, w])) p.g pa ∧ GS F' (upd H T (.tup [v, w])) pa p ∧ Rep K F' p.g pa (.ref T) (.tup [d, e]) :=
  have fu : Fz F p.g pa (upd F T (.tup [v, w])) p.g pa := Fz.upd (gs.fnone hT)
  ⟨_, Gr.alloc gs hT, gs.alloc hT, Rep.tup' upd_same two_line (.cons (r1.mono fu) (.cons (r2.mono fu) .nil))⟩
theorem zipL_get {ds es : List D} {i : Nat} {z : D} (h : (zipL ds es)[i]? = some z) : ∃ d e, ds[i]? = some d ∧ es[i]? = some e ∧ z = .tup [d, e] := by
  unfold zipL at h
  rw [List.getElem?_zipWith] at h
  cases q : ds[i]? with
  | none => rw [q] at h; cases h
  | some d =>
    cases q2 : es[i]? with
    | none => rw [q, q2] at h; cases h
    | some e => rw [q, q2] at h; cases h; exact ⟨d, e, rfl, rfl, rfl⟩
theorem iter_zipL {K : PySem.W.Frag} {F : Hp} {g : Nat} {pa : Option Addr} {a b : Addr} {vs ws : List V} {ds es : List D} (h : F a = some (.lst vs)) (r : Reps K F g pa vs ds) (h' : F b = some (.lst ws)) (r' : Reps K F g pa ws es) : IterOk K F g pa (Itz K a b) (zipL ds es) := by
  intro i F1 H1 pa1 p1 fz gs1
  have h1 : SqL K H1 a vs := SqL.of (gs1.sub _ _ (fz.sub _ _ h))
  have h2 : SqL K H1 b ws := SqL.of (gs1.sub _ _ (fz.sub _ _ h'))
  refine ⟨fun hi => ⟨vs, ws, h1, h2, ?_⟩, fun z hz => ?_⟩
  · simp only [zipL, List.length_zipWith] at hi
    rw [r.1, r'.1]; omega
  · obtain ⟨d, e, q1, q2, rfl⟩ := zipL_get hz
    obtain ⟨v, hv, rv⟩ := (r.mono fz).get q1
    obtain ⟨w, hw, rw'⟩ := (r'.mono fz).get q2
    refine ⟨⟨vs, ws, v, w, h1, h2, hv, hw⟩, fun x H' ⟨T, y1, y2, e1, e2, e3, hx, hy⟩ => ?_⟩
    subst e1 e3
    have t1 := hx vs h1
    rw [hv] at t1
    cases t1
    have t2 := hy ws h2
    rw [hw] at t2
    cases t2
    exact zip_item gs1 e2 rv rw'
theorem iter_zipT {K : PySem.W.Frag} {F : Hp} {g : Nat} {pa : Option Addr} {a b : Addr} {vs ws : List V} {ds es : List D} (h : F a = some (.tup vs)) (r : Reps K F g pa vs ds) (h' : F b = some (.tup ws)) (r' : Reps K F g pa ws es) : IterOk K F g pa (RZ.ItzT K a b) (zipL ds es) := by
  intro i F1 H1 pa1 p1 fz gs1
  have h1 : SqT K H1 a vs := SqT.of (gs1.sub _ _ (fz.sub _ _ h))
  have h2 : SqT K H1 b ws := SqT.of (gs1.sub _ _ (fz.sub _ _ h'))
  refine ⟨fun hi => ⟨vs, ws, h1, h2, ?_⟩, fun z hz => ?_⟩
  · simp only [zipL, List.length_zipWith] at hi
    rw [r.1, r'.1]; omega
  · obtain ⟨d, e, q1, q2, rfl⟩ := zipL_get hz
    obtain ⟨v, hv, rv⟩ := (r.mono fz).get q1
    obtain ⟨w, hw, rw'⟩ := (r'.mono fz).get q2
    refine ⟨⟨vs, ws, v, w, h1, h2, hv, hw⟩, fun x H' ⟨T, y1, y2, e1, e2, e3, hx, hy⟩ => ?_⟩
    subst e1 e3
    have t1 := hx vs h1
    rw [hv] at t1
    cases t1
    have t2 := hy ws h2
    rw [hw] at t2
    cases t2
    exact zip_item gs1 e2 rv rw'
def mZip (ms : M (List D)) : M (List D) := mbind ms fun ds => match ds with
  | [.lst xs, .lst ys] => mret (zipL xs ys)
  | [.tup xs, .tup ys] => mret (zipL xs ys)
  | _ => mstuck
theorem zipL_len (xs ys : List D) : (zipL xs ys).length ≤ xs.length := by
  unfold zipL; rw [List.length_zipWith]; omega
theorem pmi_zip {elts : List Expr} {kk : Nat} {tpos : Pos} (hg : Gl X "zip") (hm : X.mg "zip" = none) (ha : PMa X Wx [a, b] ms) (hs : starEach [a, b] X.env = (false, eval a X.env) :: starEach [b] X.env := by rfl) (hpl : (backTo pos (starEach [b] X.env)).any (·.1) = false := by rfl) :
    PMi X Wx (.Tuple elts kk tpos) (.Call (.Name "zip" p) [a, b] [] pos) (mZip ms) := ⟨(RZ.pi_zipA hg hm ha.pa hs hpl).imp fun σ H R ⟨F, pa, p, ρ, gs, s, o⟩ => by
  refine TMa.of gs s (o.bind.mono fun ds p1 F1 H1 pa1 gr1 gs1 o1 s1 vs rs => ?_)
  split at o1 <;> first | exact o1.elim | skip
  · obtain ⟨v, w, rfl, r1, r2⟩ := reps2 rs
    obtain ⟨a, vs, rfl, h, hz, r3⟩ := r1.lst_inv
    obtain ⟨b, ws, rfl, h', hz', r4⟩ := r2.lst_inv
    exact ⟨a, b, vs, ws, rfl, .inl ⟨SqL.of (gs1.sub _ _ h), SqL.of (gs1.sub _ _ h'), o1.ret gs1 _ (iter_zipL h r3 h' r4) (Nat.le_trans (zipL_len _ _) hz)⟩⟩
  · obtain ⟨v, w, rfl, r1, r2⟩ := reps2 rs
    obtain ⟨a, vs, rfl, h, hz, r3⟩ := r1.tup_inv
    obtain ⟨b, ws, rfl, h', hz', r4⟩ := r2.tup_inv
    exact ⟨a, b, vs, ws, rfl, .inr ⟨SqT.of (gs1.sub _ _ h), SqT.of (gs1.sub _ _ h'), o1.ret gs1 _ (iter_zipT h r3 h' r4) (Nat.le_trans (zipL_len _ _) hz)⟩⟩⟩

/-! ### targets -/
/-- the target's store is f, on slots of vs alone -/
def GOk (K : PySem.W.Frag) (vs : List Nat) (g : TG) (f : D → Sl → Option Sl) : Prop := ∀ (F H : Hp) (gg : Nat) (pa : Option Addr) (x : V) (d : D) (σ : L2.St) (ρ ρ' : Sl) (Q : L2.St → Hp → Prop), (∀ a o, F a = some o → H a = some o) → Rep K F gg pa x d → SRel K F H gg pa σ ρ → f d ρ = some ρ' →
  (∀ σ', SRel K F H gg pa σ' ρ' → σ'.length = σ.length → (∀ j, j ∉ vs → σ'[j]? = σ[j]?) → Q σ' H) → g x σ H Q
theorem SRel.set {K : PySem.W.Frag} {F H : Hp} {g : Nat} {pa : Option Addr} {σ : L2.St} {ρ : Sl} (s : SRel K F H g pa σ ρ) {x : V} {d : D} (r : Rep K F g pa x d) (i : Nat) : SRel K F H g pa (σ.set i (some x)) (ρ.set i (some (.val d))) := by
  refine ⟨by simp [s.len], fun j w h => ?_, fun j k xs ys v h1 h2 h3 h4 => ?_⟩
  · rw [List.getElem?_set] at h ⊢
    by_cases e : i = j
    · subst e
      simp only [if_true] at h ⊢
      by_cases hi : i < ρ.length
      · rw [if_pos hi] at h
        rw [if_pos (by rw [← s.len]; exact hi)]
        cases h
        exact ⟨x, rfl, r⟩
      · rw [if_neg hi] at h; cases h
    · rw [if_neg e] at h ⊢
      exact s.rep j w h
  · rw [List.getElem?_set] at h1 h2 h3 h4
    by_cases e : i = j
    · subst e
      simp only [if_true] at h1
      split at h1 <;> cases h1
    · by_cases e2 : i = k
      · subst e2
        simp only [if_true] at h2
        split at h2 <;> cases h2
      · rw [if_neg e] at h1 h3
        rw [if_neg e2] at h2 h4
        exact s.apart j k xs ys v h1 h2 h3 h4
def fName (i : Nat) : D → Sl → Option Sl := fun d ρ => some (ρ.set i (some (.val d)))
theorem gok_name {K : PySem.W.Frag} {vs : List Nat} {i : Nat} (h : i ∈ vs := by decide) : GOk K vs (gName i) (fName i) := by
  intro F H gg pa x d σ ρ ρ' Q sub r s e k
  cases e
  exact k _ (s.set r i) (by simp) fun j hj => by
    have z : i ≠ j := fun e => hj (e ▸ h)
    exact List.getElem?_set_ne z
/-- several targets -/
def GsOk (K : PySem.W.Frag) (vs : List Nat) (g : TGs) (f : List D → Sl → Option Sl) : Prop := ∀ (F H : Hp) (gg : Nat) (pa : Option Addr) (xs : List V) (ds : List D) (σ : L2.St) (ρ ρ' : Sl) (Q : L2.St → Hp → Prop), (∀ a o, F a = some o → H a = some o) → Reps K F gg pa xs ds → SRel K F H gg pa σ ρ → f ds ρ = some ρ' →
  (∀ σ', SRel K F H gg pa σ' ρ' → σ'.length = σ.length → (∀ j, j ∉ vs → σ'[j]? = σ[j]?) → Q σ' H) → g xs σ H Q
def fNil : List D → Sl → Option Sl := fun ds ρ => match ds with
  | [] => some ρ
  | _ => none
def fCons (f : D → Sl → Option Sl) (fs : List D → Sl → Option Sl) : List D → Sl → Option Sl := fun ds ρ => match ds with
  | d :: r => (f d ρ).bind fun ρ1 => fs r ρ1
  | [] => none
theorem gsok_nil {K : PySem.W.Frag} {vs : List Nat} : GsOk K vs gNil fNil := by
  intro F H gg pa xs ds σ ρ ρ' Q sub r s e k
  cases ds with
  | nil =>
    have hx := List.eq_nil_of_length_eq_zero r.1
    cases e
    exact ⟨hx, k σ s rfl fun _ _ => rfl⟩
  | cons d ds => cases e
theorem gsok_cons {K : PySem.W.Frag} {vs : List Nat} {g : TG} {gs : TGs} {f : D → Sl → Option Sl} {fs : List D → Sl → Option Sl} (h1 : GOk K vs g f) (h2 : GsOk K vs gs fs) : GsOk K vs (gCons g gs) (fCons f fs) := by
  intro F H gg pa xs ds σ ρ ρ' Q sub r s e k
  cases ds with
  | nil => cases e
  | cons d ds =>
    rcases r.cases with ⟨_, z⟩ | ⟨x, y, xs', ys', rfl, z, r1, r2⟩
    · cases z
    · cases z
      simp only [fCons] at e
      cases q : f d ρ with
      | none => rw [q] at e; cases e
      | some ρ1 =>
        rw [q] at e
        refine ⟨x, xs', rfl, h1 F H gg pa x d σ ρ ρ1 _ sub r1 s q fun σ1 s1 l1 n1 => ?_⟩
        exact h2 F H gg pa xs' ds σ1 ρ1 ρ' Q sub r2 s1 e fun σ2 s2 l2 n2 => k σ2 s2 (l2.trans l1) fun j hj => (n2 j hj).trans (n1 j hj)
def fTup (fs : List D → Sl → Option Sl) : D → Sl → Option Sl := fun d ρ => match d with
  | .tup xs => fs xs ρ
  | _ => none
theorem fs_len_cons {f : D → Sl → Option Sl} {fs : List D → Sl → Option Sl} {n : Nat} (h : ∀ ds ρ ρ', fs ds ρ = some ρ' → ds.length = n) : ∀ ds ρ ρ', fCons f fs ds ρ = some ρ' → ds.length = n + 1 := by
  intro ds ρ ρ' e
  cases ds with
  | nil => cases e
  | cons d ds =>
    simp only [fCons] at e
    cases q : f d ρ with
    | none => rw [q] at e; cases e
    | some ρ1 =>
      rw [q] at e
      simp [h ds ρ1 ρ' e]
theorem fs_len_nil : ∀ ds ρ ρ', fNil ds ρ = some ρ' → ds.length = 0 := by
  intro ds ρ ρ' e
  cases ds with
  | nil => rfl
  | cons d ds => cases e
theorem gok_tup {K : PySem.W.Frag} {vs : List Nat} {n : Nat} {g : TGs} {fs : List D → Sl → Option Sl} (h : GsOk K vs g fs) (hn : ∀ ds ρ ρ', fs ds ρ = some ρ' → ds.length = n) : GOk K vs (gTup K n g) (fTup fs) := by
  intro F H gg pa x d σ ρ ρ' Q sub r s e k
  cases d <;> first | (simp [fTup] at e; done) | skip
  simp only [fTup] at e
  obtain ⟨a, ws, rfl, h1, hz, rs⟩ := r.tup_inv
  exact ⟨a, ws, rfl, SqT.of (sub _ _ h1), by rw [rs.1]; exact hn _ _ _ e, h F H gg pa ws _ σ ρ ρ' Q sub rs s e k⟩
end
end PF

namespace PF
open PySem PySem.Spec PyProof.Rows L2

section
variable {X : Cx} {Wx : WX} {a b c e : Expr} {es rest : List Expr} {ma mb mc m : M D} {mo ms mi : M (List D)} {ta tb : M Bool} {pos : Pos} {x : Str} {p : Pos} {tg : Expr}
/-! ### list comprehensions -/
/-- the slots of vs forgotten -/
def wipeS (ρ : Sl) : List Nat → Sl
  | [] => ρ
  | v :: vs => (wipeS ρ vs).set v none
theorem wipeS_len (ρ : Sl) : ∀ vs, (wipeS ρ vs).length = ρ.length
  | [] => rfl
  | v :: vs => by simp [wipeS, wipeS_len ρ vs]
theorem SRel.none {K : PySem.W.Frag} {F H : Hp} {g : Nat} {pa : Option Addr} {σ : L2.St} {ρ : Sl} (s : SRel K F H g pa σ ρ) (i : Nat) : SRel K F H g pa (σ.set i none) (ρ.set i none) := by
  refine ⟨by simp [s.len], fun j w h => ?_, fun j k xs ys v h1 h2 h3 h4 => ?_⟩
  · rw [List.getElem?_set] at h ⊢
    by_cases e : i = j
    · subst e
      simp only [if_true] at h
      split at h <;> cases h
    · rw [if_neg e] at h ⊢
      exact s.rep j w h
  · rw [List.getElem?_set] at h1 h2 h3 h4
    by_cases e : i = j
    · subst e
      simp only [if_true] at h1
      split at h1 <;> cases h1
    · by_cases e2 : i = k
      · subst e2
        simp only [if_true] at h2
        split at h2 <;> cases h2
      · rw [if_neg e] at h1 h3
        rw [if_neg e2] at h2 h4
        exact s.apart j k xs ys v h1 h2 h3 h4
theorem SRel.wipe {K : PySem.W.Frag} {F H : Hp} {g : Nat} {pa : Option Addr} {σ : L2.St} {ρ : Sl} (s : SRel K F H g pa σ ρ) : ∀ vs, SRel K F H g pa (wipe σ vs) (wipeS ρ vs)
  | [] => s
  | v :: vs => (s.wipe vs).none v
theorem wipe_get {σ : L2.St} {j : Nat} : ∀ {vs : List Nat}, j ∈ vs → (wipe σ vs)[j]? = some none ∨ (wipe σ vs)[j]? = none
  | v :: vs, h => by
    unfold wipe
    rw [List.getElem?_set]
    by_cases e : v = j
    · rw [if_pos e]
      split
      · exact .inl rfl
      · exact .inr rfl
    · rw [if_neg e]
      rcases List.mem_cons.mp h with q | q
      · exact absurd q.symm e
      · exact wipe_get q
theorem wipe_out' {σ : L2.St} {j : Nat} : ∀ {vs : List Nat}, j ∉ vs → (wipe σ vs)[j]? = σ[j]?
  | [], _ => rfl
  | v :: vs, h => by
    unfold wipe
    have h1 : v ≠ j := fun e => h (e ▸ List.mem_cons_self)
    rw [List.getElem?_set_ne h1]
    exact wipe_out' fun q => h (List.mem_cons_of_mem _ q)
theorem wipe_eq {σ σ' : L2.St} {vs : List Nat} (hl : σ'.length = σ.length) (h : ∀ j, j ∉ vs → σ'[j]? = (wipe σ vs)[j]?) : wipe σ' vs = wipe σ vs := by
  apply List.ext_getElem?
  intro j
  by_cases hj : j ∈ vs
  · by_cases hlt : j < σ.length
    · rcases wipe_get (σ := σ') hj with q | q
      · rcases wipe_get (σ := σ) hj with q2 | q2
        · rw [q, q2]
        · have := List.getElem?_eq_none_iff.mp q2
          rw [wipe_length] at this
          omega
      · have := List.getElem?_eq_none_iff.mp q
        rw [wipe_length] at this
        omega
    · rw [List.getElem?_eq_none (by rw [wipe_length]; omega), List.getElem?_eq_none (by rw [wipe_length]; omega)]
  · rw [wipe_out' hj, h j hj]
/-- the block, item by item -/
def lcGo (f : D → Sl → Option Sl) (tt : M Bool) (el : M D) : List D → M (List D)
  | [] => mret []
  | x :: xs => fun ρ p => match f x ρ with
    | some ρ1 => (match tt ρ1 p with
      | .ok true p1 => (match el ρ1 p1 with
        | .ok y p2 => (match lcGo f tt el xs ρ p2 with
          | .ok ys p3 => .ok (y :: ys) p3
          | _ => .stuck)
        | _ => .stuck)
      | .ok false p1 => lcGo f tt el xs ρ p1
      | _ => .stuck)
    | none => .stuck
def mLc (vs : List Nat) (mi : M (List D)) (f : D → Sl → Option Sl) (tt : M Bool) (el : M D) : M (List D) := mbind mi fun items ρ p => match lcGo f tt el items (wipeS ρ vs) p with
  | .ok ys p' => .ok ys p'
  | _ => .stuck
/-- inside a comprehension nothing is raised -/
abbrev W0 : WX := fun _ _ _ _ => False
def mYes : M Bool := mret true
structure PMts (X : Cx) (Wx : WX) (es : List Expr) (m : M Bool) : Prop where
  pt : PTs X es (TMt X.K X.mg Wx m)
theorem pmts_nil : PMts X Wx [] mYes := ⟨⟨fun pins s σ H Q I ⟨F, pa, p, ρ, gs, sr, o⟩ => pts_nil.run pins s σ H Q I (o.ret gs)⟩⟩
theorem pmts_one (h : PMt X Wx e ta) : PMts X Wx [e] ta := ⟨pts_one h.pt⟩
theorem lc_inv {K : PySem.W.Frag} {mg : Str → Option Value} {f : D → Sl → Option Sl} {tt : M Bool} {el : M D} {g : TG} {vs : List Nat} {items all : List D} {σ : L2.St} {ρ : Sl} {F0 H0 F1 H1 : Hp} {g0 : Nat} {pa0 pa1 : Option Addr} {p1 pend : Pst} {J : It} {Q : VK} {Dd : Addr}
    (hg : GOk K vs g f) (gr1 : Gr F0 H0 g0 pa0 F1 H1 p1.g pa1) (gs1 : GS F1 H1 pa1 p1) (s1 : SRel K F1 H1 p1.g pa1 σ ρ) (ij : IterOk K F1 p1.g pa1 J items) (hz : items.length ≤ sizeLine) (hD : H1 Dd = none)
    (e : lcGo f tt el items (wipeS ρ vs) p1 = .ok all pend)
    (k : ∀ F' H' pa' ws, Gr F0 H0 g0 pa0 F' H' pend.g pa' → GS F' H' pa' pend → H' Dd = some (.lst ws) → F' Dd = none → pa' ≠ some Dd → all.length ≤ sizeLine → Reps K F' pend.g pa' ws all → Q (.ref Dd) H') :
    ∃ W : Nat → Nat → Hp → Prop, (∃ m, W 0 m (upd H1 Dd (.lst []))) ∧ ∀ i m H, W i m H →
      (J.stop i H ∧ Q (.ref Dd) H) ∨ (J.go i H ∧ ∃ Nx : Hp → Prop, (∀ H', Nx H' → ∃ m', m' < m ∧ W (i + 1) m' H') ∧ ∀ x H', J.yld i H x H' → g x (wipe σ vs) H' fun σ2 H2 => wipe σ2 vs = wipe σ vs ∧ TMt K mg W0 tt σ2 H2 fun b H3 =>
        if b = true then TM K mg W0 el σ2 H3 fun y H4 => ∃ acc, H4 Dd = some (.lst acc) ∧ acc.length < sizeLine ∧ Nx (upd H4 Dd (.lst (acc ++ [y]))) else Nx H3) := by
  refine ⟨fun i m H => m = items.length - i ∧ i ≤ items.length ∧ ∃ F pa p acc ds ys, Gr F0 H0 g0 pa0 F H p.g pa ∧ Fz F1 p1.g pa1 F p.g pa ∧ GS F H pa p ∧ SRel K F H p.g pa (wipe σ vs) (wipeS ρ vs) ∧ H Dd = some (.lst acc) ∧ F Dd = none ∧ pa ≠ some Dd ∧ ds.length ≤ i ∧ Reps K F p.g pa acc ds ∧
      lcGo f tt el (items.drop i) (wipeS ρ vs) p = .ok ys pend ∧ ds ++ ys = all, ⟨items.length, by simp, Nat.zero_le _, F1, pa1, p1, [], [], all, gr1.trans (Gr.allocO hD), .refl, gs1.allocO hD, (s1.wipe vs).grow (Gr.allocO hD), upd_same, gs1.fnone hD, gs1.pne hD, Nat.le_refl _, .nil, by simpa using e, rfl⟩, ?_⟩
  rintro i m H ⟨rfl, hi, F, pa, p, acc, ds, ys, gr, fz, gs, sr, hH, hF, hp, hl, rs, el1, ea⟩
  obtain ⟨stop, go⟩ := ij i F H pa p fz gs
  by_cases hlt : i < items.length
  · -- a turn
    have hd : items[i]? = some items[i] := by simp [hlt]
    obtain ⟨hgo, hy⟩ := go _ hd
    have ed : items.drop i = items[i] :: items.drop (i + 1) := List.drop_eq_getElem_cons hlt
    rw [ed] at el1
    simp only [lcGo] at el1
    have hzd : ds.length < sizeLine := by omega
    cases q : f items[i] (wipeS ρ vs) with
    | none => rw [q] at el1; cases el1
    | some ρ1 =>
      rw [q] at el1
      simp only at el1
      refine .inr ⟨hgo, fun H' => ∃ F' pa' p' acc' ds' ys', Gr F0 H0 g0 pa0 F' H' p'.g pa' ∧ Fz F1 p1.g pa1 F' p'.g pa' ∧ GS F' H' pa' p' ∧ SRel K F' H' p'.g pa' (wipe σ vs) (wipeS ρ vs) ∧ H' Dd = some (.lst acc') ∧ F' Dd = none ∧ pa' ≠ some Dd ∧ ds'.length ≤ i + 1 ∧ Reps K F' p'.g pa' acc' ds' ∧
          lcGo f tt el (items.drop (i + 1)) (wipeS ρ vs) p' = .ok ys' pend ∧ ds' ++ ys' = all, fun H' n => ⟨items.length - (i + 1), by omega, rfl, hlt, n⟩, fun xv H' yl => ?_⟩
      obtain ⟨F2, gr2, gs2, r2⟩ := hy xv H' yl
      have sr2 := sr.grow gr2
      have hne : ∀ {F3 H3 : Hp} {p3 : Pst} {pa3 : Option Addr}, Gr F H p.g pa F3 H3 p3.g pa3 → H3 Dd = some (.lst acc) ∧ F3 Dd = none ∧ pa3 ≠ some Dd := fun {F3 H3 p3 pa3} gr3 => by
        refine ⟨gr3.keep _ _ hH hp, ?_, fun z => ?_⟩
        · cases q3 : F3 Dd with
          | none => rfl
          | some o =>
            rcases gr3.new _ _ q3 with z | z
            · rw [hF] at z; cases z
            · rw [hH] at z; cases z
        · rcases gr3.pot with z2 | ⟨b, z2, hb⟩
          · exact hp (by rw [← z2]; exact z)
          · rw [z2] at z; cases z; rw [hH] at hb; cases hb
      refine hg F2 H' _ _ xv _ _ _ ρ1 _ gs2.sub r2 sr2 q fun σ2 sr3 hl2 hn => ?_
      refine ⟨wipe_eq (by rw [hl2, wipe_length]) hn, F2, pa, p, ρ1, gs2, sr3, ?_⟩
      cases qt : tt ρ1 p with
      | stuck => rw [qt] at el1; cases el1
      | exc x' p' => rw [qt] at el1; cases el1
      | ok b p3 =>
        rw [qt] at el1
        intro F3 H3 pa3 gr3 gs3
        cases b with
        | false =>
          simp only [Bool.false_eq_true, if_false] at el1 ⊢
          have gr5 := gr2.trans gr3
          obtain ⟨n1, n2, n3⟩ := hne gr5
          exact ⟨F3, pa3, p3, acc, ds, ys, gr.trans gr5, fz.trans gr5.fz, gs3, sr.grow gr5, n1, n2, n3, Nat.le_succ_of_le hl, rs.mono gr5.fz, el1, ea⟩
        | true =>
          simp only [if_true] at el1 ⊢
          refine ⟨F3, pa3, p3, ρ1, gs3, sr3.grow gr3, ?_⟩
          cases qe : el ρ1 p3 with
          | stuck => rw [qe] at el1; cases el1
          | exc x' p' => rw [qe] at el1; cases el1
          | ok y p4 =>
            rw [qe] at el1
            simp only at el1
            intro F4 H4 pa4 gr4 gs4 yv ry
            have gr5 := (gr2.trans gr3).trans gr4
            obtain ⟨n1, n2, n3⟩ := hne gr5
            have rs4 := rs.mono gr5.fz
            cases ql : lcGo f tt el (items.drop (i + 1)) (wipeS ρ vs) p4 with
            | stuck => rw [ql] at el1; cases el1
            | exc x' p' => rw [ql] at el1; cases el1
            | ok zs p5 =>
              rw [ql] at el1
              simp only [Res.ok.injEq] at el1
              obtain ⟨e1, e2⟩ := el1
              subst e1 e2
              have gs5 : GS F4 (upd H4 Dd (.lst (acc ++ [yv]))) pa4 p4 := by
                refine ⟨fun a u h => ?_, fun a e => ?_⟩
                · rw [upd_ne fun z => ?_]; exact gs4.sub a u h
                  subst z; rw [n2] at h; cases h
                · have ha : a ≠ Dd := fun z => n3 (by rw [← z]; exact e)
                  rw [upd_ne ha]; exact gs4.pot a e
              have grA : Gr F0 H0 g0 pa0 F4 H4 p4.g pa4 := gr.trans gr5
              have hD0 : H0 Dd = none := gr1.free0 hD
              have grB : Gr F0 H0 g0 pa0 F4 (upd H4 Dd (.lst (acc ++ [yv]))) p4.g pa4 := by
                refine ⟨grA.fz, grA.new, fun a o h1 h2 => ?_, fun a o h1 => ?_, grA.pot⟩
                · rw [upd_ne (ne_of_none h1 hD0)]; exact grA.keep a o h1 h2
                · rw [upd_ne (ne_of_none h1 hD0)]; exact grA.there a o h1
              have srB : SRel K F4 (upd H4 Dd (.lst (acc ++ [yv]))) p4.g pa4 (wipe σ vs) (wipeS ρ vs) := by
                have sr5 := sr.grow gr5
                refine ⟨sr5.len, fun j w h => ?_, sr5.apart⟩
                obtain ⟨v, e, r⟩ := sr5.rep j w h
                refine ⟨v, e, ?_⟩
                cases w with
                | val d => exact r
                | own xs =>
                  obtain ⟨a, vs', z1, z2, z3, z4, z5, z6⟩ := r
                  refine ⟨a, vs', z1, ?_, z3, z4, z5, z6⟩
                  rw [upd_ne fun z => ?_]; exact z2
                  -- an own list of the frame is older than the block's
                  obtain ⟨v1, e1, r1⟩ := (s1.wipe vs).rep j _ h
                  obtain ⟨a1, vs1, y1, y2, _⟩ := r1
                  rw [e] at e1
                  cases e1
                  rw [z1] at y1
                  cases y1
                  rw [z, hD] at y2; cases y2
              exact ⟨acc, n1, by rw [rs4.1]; omega, F4, pa4, p4, acc ++ [yv], ds ++ [y], zs, grB, fz.trans gr5.fz, gs5, srB, upd_same, n2, n3, by simp; omega, rs4.append (.cons ry .nil), ql, by rw [← ea]; simp⟩
  · have e0 : items.drop i = [] := List.drop_eq_nil_of_le (by omega)
    rw [e0] at el1
    cases el1
    rw [List.append_nil] at ea
    subst ea
    exact .inl ⟨stop (by omega), k F H pa acc gr gs hH hF hp (by omega) rs⟩
theorem lc_out {K : PySem.W.Frag} {mg : Str → Option Value} {f : D → Sl → Option Sl} {tt : M Bool} {el : M D} {g : TG} {vs : List Nat} (hg : GOk K vs g f) : ∀ σ H Q, TMo K mg Wx (mLc vs mi f tt el) σ H Q → tLc (TMi K mg Wx mi) g (TMt K mg W0 tt) (TM K mg W0 el) vs σ H Q := by
  intro σ H Q ⟨F, pa, p, ρ, gs, s, o⟩
  refine ⟨F, pa, p, ρ, gs, s, (Out.bindS .refl o).mono fun items p1 F1 H1 pa1 gr gs1 ⟨gr1, o1⟩ J ij hz Dd hD => ?_⟩
  cases e : lcGo f tt el items (wipeS ρ vs) p1 with
  | stuck => simp only [e] at o1; exact o1.elim
  | exc x' p' => simp only [e] at o1; exact o1.elim
  | ok all pend =>
    simp only [e] at o1
    exact lc_inv hg gr1 gs1 (s.grow gr1) ij hz hD e fun F' H' pa' ws gr' gs' h1 h2 h3 h4 h5 => o1 F' H' pa' gr' gs' Dd ws (gr1.free0 hD) h1 h2 h3 h4 h5
theorem pmo_lc {f : D → Sl → Option Sl} {tt : M Bool} {el : M D} {g : TG} {elt iter : Expr} {ifs : List Expr} {scope : Scope} {own : List (Str × Nat)} (hc : X.calm = true) (hN : X.N.Nodup) (hi : PMi X Wx tg iter mi) (ok : BlkOk X.N X.env.scope scope own)
    (hg : ∀ (s : Shared) (H : Hp) (C : Addr) (cl : List (Str × Addr)) (fp : List Addr), PG (X.blk s H scope (compEnvC scope cl C X.env) fp) tg g) (hf : GOk X.K (own.map (·.2)) g f)
    (ht : ∀ (s : Shared) (H : Hp) (C : Addr) (cl : List (Str × Addr)) (fp : List Addr), PMts (X.blk s H scope (compEnvC scope cl C X.env) fp) W0 ifs tt)
    (he : ∀ (s : Shared) (H : Hp) (C : Addr) (cl : List (Str × Addr)) (fp : List Addr), PM (X.blk s H scope (compEnvC scope cl C X.env) fp) W0 elt el) (hs : ∀ x, foldedSetIterable iter X.env x = pure x := by intro _; rfl) :
    PMo X Wx (.ListComp elt [⟨tg, iter, ifs, 0⟩] scope pos) (mLc (own.map (·.2)) mi f tt el) :=
  ⟨(pe_lc hc hN hi.pi ok hg (fun s H C cl fp => (ht s H C cl fp).pt) (fun s H C cl fp => (he s H C cl fp).pe) hs).imp (lc_out hf)⟩
end
end PF

namespace PF
open PySem PySem.Spec PyProof.Rows L2

/-! ### functions -/
inductive FRes where
  | ok (d : D) (fr : Bool) (p : Pst) | exc (x : Ex) (p : Pst) | stuck
abbrev Fn := List D → Pst → FRes
/-- a def's result: fr: a fresh list -/
def ResRep (K : PySem.W.Frag) (F' H H' : Hp) (g : Nat) (pa : Option Addr) : Bool → V → D → Prop
  | false, v, d => Rep K F' g pa v d
  | true, v, d => ∃ a vs ds, v = .ref a ∧ d = .lst ds ∧ H a = none ∧ H' a = some (.lst vs) ∧ F' a = none ∧ pa ≠ some a ∧ ds.length ≤ sizeLine ∧ Reps K F' g pa vs ds
def FOut (K : PySem.W.Frag) (mg : Str → Option Value) (F H : Hp) (g : Nat) (pa : Option Addr) (Q : VK) (E : XK) : FRes → Prop
  | .ok d fr p' => ∀ v F' H' pa', Gr F H g pa F' H' p'.g pa' → GS F' H' pa' p' → ResRep K F' H H' p'.g pa' fr v d → Q v H'
  | .exc x p' => ∀ cls dd F' H' pa', Gr F H g pa F' H' p'.g pa' → GS F' H' pa' p' → ExRep K mg F' p'.g pa' cls dd x → E cls dd H'
  | .stuck => False
structure FnM (P : Program) (w : World) (K : PySem.W.Frag) (mg : Str → Option Value) (base : Heap) (k : Nat) (f : Addr) (fd : FuncData) (ps : List Str) (G : Fn) : Prop where
  len : ∀ ds p, G ds p ≠ .stuck → ds.length = ps.length
  run : ∀ (A : Around) (outer : List Env) (s : Shared) (H : Hp) (args : Args) (us : List Value) (vs : List V) (ds : List D) (F : Hp) (pa : Option Addr) (p : Pst) (Q : VK) (E : XK), Room k A → A.guards = some [] → Env0 P w K mg base A outer s H → BindsTo s fd args (ps.zip us) → Vals vs us →
    GS F H pa p → Reps K F p.g pa vs ds → FOut K mg F H p.g pa Q E (G ds p) → codeAny (model P w) A (.call (.ref f) args) (CR (L2.CX P w) outer P w H s Q E) s
/-- the def that the module's name x stands for -/
structure FnX (P : Program) (w : World) (K : PySem.W.Frag) (mg : Str → Option Value) (base : Heap) (x : Str) (params : Arguments) (k : Nat) (ps : List Str) (G : Fn) : Prop where
  ex : ∃ (f : Addr) (fd : FuncData), mg x = some (.ref f) ∧ PySem.W.keepIn K (.ref f) = true ∧ (∃ (body : List Stmt) (scope : Scope) (kV doc pm : Value) (an : Option Addr) (cdv ct : Value), fd = PySem.W.fnOf x x params body scope .none kV doc pm an cdv ct) ∧ FnM P w K mg base k f fd ps G
/-- the values at the places ix -/
def permL {α : Type} (ix : List Nat) (l : List α) : List α := ix.filterMap fun i => l[i]?
theorem permL_rep {α β : Type} {R : α → β → Prop} {xs : List α} {ys : List β} (r : AllR R xs ys) : ∀ ix, AllR R (permL ix xs) (permL ix ys)
  | [] => .nil
  | i :: ix => by
    have ih := permL_rep r ix
    unfold permL at ih ⊢
    simp only [List.filterMap_cons]
    cases q : xs[i]? with
    | none =>
      have : ys[i]? = none := by
        rw [List.getElem?_eq_none_iff] at q ⊢
        rw [← r.1]; exact q
      rw [this]
      exact ih
    | some v =>
      obtain ⟨d, hd, rv⟩ := r.get' q
      rw [hd]
      exact .cons rv ih
theorem permL_vals {xs : List V} {us : List Value} (r : Vals xs us) : ∀ ix, Vals (permL ix xs) (permL ix us)
  | [] => .nil
  | i :: ix => by
    have ih := permL_vals r ix
    unfold permL at ih ⊢
    simp only [List.filterMap_cons]
    cases q : xs[i]? with
    | none => rw [r.none_of q]; exact ih
    | some v =>
      obtain ⟨u, hu, ru⟩ := r.get q
      rw [hu]
      exact .cons ru ih
/-- how a call's arguments are bound: n positional ones, the keywords ks; ix: their places, parameter by parameter -/
def Bd (x : Str) (params : Arguments) (ps : List Str) (n : Nat) (ks : List Str) (ix : List Nat) : Prop := ∀ (body : List Stmt) (scope : Scope) (kV doc pm : Value) (an : Option Addr) (cdv ct : Value) (us ws : List Value), us.length = n → ws.length = ks.length →
  bindArgs (PySem.W.fnOf x x params body scope .none kV doc pm an cdv ct) ⟨us, ks.zip ws⟩ = pure (ps.zip (permL ix (us ++ ws)))

section
variable {X : Cx} {Wx : WX} {a b c e : Expr} {es rest : List Expr} {ma mb mc m : M D} {mo ms mk mi : M (List D)} {ta tb : M Bool} {pos : Pos} {x : Str} {p : Pos} {tg : Expr} {params : Arguments} {k : Nat} {ps ks : List Str} {ix : List Nat} {n : Nat} {G : Fn} {kws : List Keyword}
/-- keywords' values -/
structure PMk (X : Cx) (Wx : WX) (kws : List Keyword) (m : M (List D)) : Prop where
  pk : PK X kws (TMa X.K X.mg Wx m)
theorem _root_.L2.PK.imp {X : Cx} {e : List Keyword} {t t' : TA} (h : PK X e t) (f : ∀ σ H Q, t' σ H Q → t σ H Q) : PK X e t' := ⟨fun pos pins s σ H Q I q => h.run pos pins s σ H Q I (f σ H Q q)⟩
theorem pmk_nil : PMk X Wx [] (mret []) := ⟨pk_nil.imp fun σ H Q ⟨F, pa, p, ρ, gs, s, o⟩ => o.ret gs _ .nil⟩
theorem pmk_cons {nm : Option Str} {kpos : Pos} (ha : PM X Wx e ma) (hr : PMk X Wx kws ms) : PMk X Wx (⟨nm, e, kpos⟩ :: kws) (mcons ma ms) := ⟨(pk_cons ha.pe hr.pk).imp fun σ H Q ⟨F, pa, p, ρ, gs, s, o⟩ => by
  refine TM.of gs s (o.bind.mono fun d p1 F1 H1 pa1 gr1 gs1 o1 s1 v1 r1 => ?_)
  refine TMa.of gs1 s1 (o1.bind.mono fun ds p2 F2 H2 pa2 gr2 gs2 o2 s2 vs2 rs2 => ?_)
  exact o2.ret gs2 _ (.cons (r1.mono gr2.fz) rs2)⟩
/-- the callee runs; fr: what is made of its result -/
theorem run_fnM {f : Addr} {fd : FuncData} {pins : List (Addr × Obj)} {σ : L2.St} {H : Hp} {s : Shared} {Q : VK} {us : List Value} {vs : List V} {ds : List D} {F : Hp} {pa : Option Addr} {p : Pst} {args : Args} {E : XK} (Fm : FnM X.prog X.w X.K X.mg X.base k f fd ps G) (hr : Room k X.A) (hgd : X.A.guards = some []) (tk : Takes X Wx)
    (hb : BindsTo s fd args (ps.zip us)) (I : Inv X pins σ H s) (r : Vals vs us) (gs : GS F H pa p) (rs : Reps X.K F p.g pa vs ds) (hE : ∀ cls d H', E cls d H' → Wx cls d σ H') (o : FOut X.K X.mg F H p.g pa Q E (G ds p)) :
    codeAny (model X.prog X.w) X.A (.call (.ref f) args) (fun r s' => match r with
      | .ok (.ret u) => EP X pins σ Q u s'
      | .ok _ => False
      | .error e => X.xe e s') s := by
  refine codeAny_mono (Fm.run X.A X.stack s H args us vs ds F pa p Q E hr hgd I.env0 hb r gs rs o) fun r s' hq => ?_
  cases r with
  | error e => exact tk e s' (XE.of_call I hE hq)
  | ok fl =>
    cases fl with
    | ret u => exact I.after hq
    | next => exact False.elim hq
    | brk => exact False.elim hq
    | cont => exact False.elim hq
def outFn {α : Type} (f : D → Bool → Option α) : FRes → Res α
  | .ok d fr p' => (match f d fr with
    | some a => .ok a p'
    | none => .stuck)
  | .exc x p' => .exc x p'
  | .stuck => .stuck
/-- f(..): ms the positional arguments, mk the keywords' -/
def mFn (G : Fn) (n m : Nat) (ix : List Nat) (ms mk : M (List D)) : M D := mbind ms fun ds => mbind mk fun es _ p => if ds.length = n ∧ es.length = m then outFn (fun d _ => some d) (G (permL ix (ds ++ es)) p) else .stuck
def frOf (d : D) (fr : Bool) : Option (List D) := match d, fr with
  | .lst ds, true => some ds
  | _, _ => none
def mFno (G : Fn) (n m : Nat) (ix : List Nat) (ms mk : M (List D)) : M (List D) := mbind ms fun ds => mbind mk fun es _ p => if ds.length = n ∧ es.length = m then outFn frOf (G (permL ix (ds ++ es)) p) else .stuck
theorem AllR.len_perm {α β : Type} {R : α → β → Prop} {xs : List α} {ys : List β} (r : AllR R xs ys) (ix : List Nat) : (permL ix xs).length = (permL ix ys).length := (permL_rep r ix).1
/-- the common part of all forms of a call -/
theorem call_core {pins : List (Addr × Obj)} {s : Shared} {σ : L2.St} {H : Hp} {Q : VK} {f : Addr} {fd : FuncData} {us ws : List Value} {vs zs : List V} {ds es : List D} {F : Hp} {pa : Option Addr} {p : Pst} {E : XK}
    (hfd : ∃ (body : List Stmt) (scope : Scope) (kV doc pm : Value) (an : Option Addr) (cdv ct : Value), fd = PySem.W.fnOf x x params body scope .none kV doc pm an cdv ct) (Fm : FnM X.prog X.w X.K X.mg X.base k f fd ps G) (hr : Room k X.A) (hgd : X.A.guards = some []) (tk : Takes X Wx)
    (hb : Bd x params ps n ks ix) (hn : us.length = n) (hm : ws.length = ks.length) (I : Inv X pins σ H s) (r : Vals vs us) (rz : Vals zs ws) (gs : GS F H pa p) (rs : Reps X.K F p.g pa vs ds) (rz' : Reps X.K F p.g pa zs es)
    (hE : ∀ cls d H', E cls d H' → Wx cls d σ H') (o : FOut X.K X.mg F H p.g pa Q E (G (permL ix (ds ++ es)) p)) : wpAny (model X.prog X.w) X.A (call (.ref f) us (ks.zip ws)) (EP X pins σ Q) X.xe s := by
  obtain ⟨body, scope, kV, doc, pm, an, cdv, ct, rfl⟩ := hfd
  have hbt : BindsTo s (PySem.W.fnOf x x params body scope .none kV doc pm an cdv ct) ⟨us, ks.zip ws⟩ (ps.zip (permL ix (us ++ ws))) := .of_eq (hb _ _ _ _ _ _ _ _ us ws hn hm)
  exact wpAny_call (codeAny_mono (run_fnM Fm hr hgd tk hbt I (permL_vals (r.append rz) ix) gs (permL_rep (rs.append rz') ix) hE o) fun r s' h => by
    cases r with
    | error e => exact h
    | ok fl =>
      cases fl with
      | ret u => exact h
      | next => exact h
      | brk => exact h
      | cont => exact h)
theorem fout_val {K : PySem.W.Frag} {mg : Str → Option Value} {σ : L2.St} {F H F0 H0 : Hp} {pa pa0 : Option Addr} {g0 : Nat} {p : Pst} {Q : VK} {r : FRes} (gr : Gr F0 H0 g0 pa0 F H p.g pa)
    (o : Out K mg Wx σ F0 H0 g0 pa0 (fun d p' F' H' pa' => ∀ v, Rep K F' p'.g pa' v d → Q v H') (outFn (fun d _ => some d) r)) : FOut K mg F H p.g pa Q (fun cls dd H' => Wx cls dd σ H') r := by
  cases r with
  | stuck => exact o
  | exc x p' => exact fun cls dd F' H' pa' gr' gs' r => o cls dd F' H' pa' (gr.trans gr') gs' r
  | ok d fr p' =>
    intro v F' H' pa' gr' gs' rr
    cases fr with
    | false => exact o F' H' pa' (gr.trans gr') gs' v rr
    | true =>
      obtain ⟨a, vs, ds, rfl, rfl, h1, h2, h3, h4, h5, h6⟩ := rr
      have gr2 := (gr.trans gr')
      have h0 : H0 a = none := gr.free0 h1
      exact o _ H' pa' (gr2.freeze h0 h3) (gs'.freeze h2 h4) _ (Rep.lst' upd_same h5 (h6.mono (Fz.upd h3)))
theorem fout_o {K : PySem.W.Frag} {mg : Str → Option Value} {σ : L2.St} {F H F0 H0 : Hp} {pa pa0 : Option Addr} {g0 : Nat} {p : Pst} {Q : VK} {r : FRes} (gr : Gr F0 H0 g0 pa0 F H p.g pa)
    (o : Out K mg Wx σ F0 H0 g0 pa0 (fun ds p' F' H' pa' => ∀ a vs, H0 a = none → H' a = some (.lst vs) → F' a = none → pa' ≠ some a → ds.length ≤ sizeLine → Reps K F' p'.g pa' vs ds → Q (.ref a) H') (outFn frOf r)) : FOut K mg F H p.g pa Q (fun cls dd H' => Wx cls dd σ H') r := by
  cases r with
  | stuck => exact o
  | exc x p' => exact fun cls dd F' H' pa' gr' gs' r => o cls dd F' H' pa' (gr.trans gr') gs' r
  | ok d fr p' =>
    intro v F' H' pa' gr' gs' rr
    cases fr with
    | false => cases d <;> exact o.elim
    | true =>
      obtain ⟨a, vs, ds, rfl, rfl, h1, h2, h3, h4, h5, h6⟩ := rr
      exact o F' H' pa' (gr.trans gr') gs' a vs (gr.free0 h1) h2 h3 h4 h5 h6
/-- where the arguments have come: one transformer for both kinds of results -/
def tFn (n m : Nat) (ta tk : TA) (R : List V → List V → Hp → VK → Prop) : TE := fun σ H Q => ta σ H fun vs H1 => tk σ H1 fun zs H2 => vs.length = n ∧ zs.length = m ∧ R vs zs H2 Q
def FR (X : Cx) (Wx : WX) (G : Fn) (ix : List Nat) (σ : L2.St) : List V → List V → Hp → VK → Prop := fun vs zs H Q => ∃ F pa p ds es, GS F H pa p ∧ Reps X.K F p.g pa vs ds ∧ Reps X.K F p.g pa zs es ∧ FOut X.K X.mg F H p.g pa Q (fun cls dd H' => Wx cls dd σ H') (G (permL ix (ds ++ es)) p)
def tFnX (X : Cx) (Wx : WX) (G : Fn) (ix : List Nat) (n m : Nat) (ta tk : TA) : TE := fun σ H Q => tFn n m ta tk (FR X Wx G ix σ) σ H Q
theorem fr_run {pins : List (Addr × Obj)} {s : Shared} {σ : L2.St} {H : Hp} {Q : VK} {f : Addr} {fd : FuncData} {us ws : List Value} {vs zs : List V}
    (hfd : ∃ (body : List Stmt) (scope : Scope) (kV doc pm : Value) (an : Option Addr) (cdv ct : Value), fd = PySem.W.fnOf x x params body scope .none kV doc pm an cdv ct) (Fm : FnM X.prog X.w X.K X.mg X.base k f fd ps G) (hr : Room k X.A) (hgd : X.A.guards = some []) (tk : Takes X Wx)
    (hb : Bd x params ps n ks ix) (I : Inv X pins σ H s) (r : Vals vs us) (rz : Vals zs ws) (hn : vs.length = n) (hm : zs.length = ks.length) (h : FR X Wx G ix σ vs zs H Q) : wpAny (model X.prog X.w) X.A (call (.ref f) us (ks.zip ws)) (EP X pins σ Q) X.xe s := by
  obtain ⟨F, pa, p, ds, es, gs, rs, rz', o⟩ := h
  exact call_core hfd Fm hr hgd tk hb (by rw [← r.length]; exact hn) (by rw [← rz.length]; exact hm) I r rz gs rs rz' (fun _ _ _ h => h) o
theorem pe_fn1 (Fx : FnX X.prog X.w X.K X.mg X.base x params k ps G) (hr : Room k X.A) (hgd : X.A.guards = some []) (tk : Takes X Wx) (hb : Bd x params ps n [] ix) (hg : Gl X x) {t : TA} (ha : PA X (e :: es) t) (hdb : (x == ("__debug__" : Str)) = false := by decide)
    (he : starEach (e :: es) X.env = (false, eval e X.env) :: starEach es X.env := by rfl) (hpl : (backTo pos (starEach es X.env)).any (·.1) = false := by rfl) : PE X (.Call (.Name x p) (e :: es) [] pos) (tFnX X Wx G ix n 0 t tNil) := by
  obtain ⟨f, fd, hm, hk, hfd, Fm⟩ := Fx.ex
  refine ⟨fun pins s σ H Q I h => ?_⟩
  refine wpAny_Call_Name_kw (ld_glob I hg hm ?_ hdb)
  refine PySem.W.callWith_K (h₀ := X.base) I.ok.mod.kin hk (thn (ha.run pos pins s σ H _ I h) fun us s1 ⟨vs, H1, I1, r, h1, h2, q⟩ => ⟨I1.kIn, ?_⟩) he hpl
  exact fr_run (ks := []) (ws := []) hfd Fm hr hgd tk hb I1 r .nil h1 rfl q
theorem pe_fn0 (Fx : FnX X.prog X.w X.K X.mg X.base x params k ps G) (hr : Room k X.A) (hgd : X.A.guards = some []) (tk : Takes X Wx) (hb : Bd x params ps 0 [] ix) (hg : Gl X x) (hdb : (x == ("__debug__" : Str)) = false := by decide) : PE X (.Call (.Name x p) [] [] pos) (tFnX X Wx G ix 0 0 tNil tNil) := by
  obtain ⟨f, fd, hm, hk, hfd, Fm⟩ := Fx.ex
  refine ⟨fun pins s σ H Q I h => ?_⟩
  refine wpAny_Call_Name_kw (ld_glob I hg hm ?_ hdb)
  exact PySem.W.callWith_K0 I.kIn hk (fr_run (ks := []) (ws := []) (us := []) hfd Fm hr hgd tk hb I .nil .nil rfl rfl h.2.2)
theorem pe_fnk (Fx : FnX X.prog X.w X.K X.mg X.base x params k ps G) (hr : Room k X.A) (hgd : X.A.guards = some []) (tk : Takes X Wx) (hb : Bd x params ps n ks ix) (hg : Gl X x) {t t2 : TA} (ha : PA X (e :: es) t) (hkw : PK X kws t2)
    (hall : (backToKw pos (keywordEach kws X.env)).all (·.1.isSome) = true := by rfl) (hks : (backToKw pos (keywordEach kws X.env)).filterMap (·.1) = ks := by rfl) (hdb : (x == ("__debug__" : Str)) = false := by decide) (he : starEach (e :: es) X.env = (false, eval e X.env) :: starEach es X.env := by rfl)
    (hpl : ((backTo pos (starEach (e :: es) X.env)).any (·.1) || (backToKw pos (keywordEach kws X.env)).any (·.1.isNone)) = false := by rfl) : PE X (.Call (.Name x p) (e :: es) kws pos) (tFnX X Wx G ix n ks.length t t2) := by
  obtain ⟨f, fd, hm, hk, hfd, Fm⟩ := Fx.ex
  refine ⟨fun pins s σ H Q I h => ?_⟩
  refine wpAny_Call_Name_kw (ld_glob I hg hm ?_ hdb)
  refine PySem.W.callWith_KW (h₀ := X.base) I.ok.mod.kin hk hall (thn (ha.run pos pins s σ H _ I h) fun us s1 ⟨vs, H1, I1, r, q⟩ => ?_) hpl he
  refine thn (hkw.run pos pins s1 σ H1 _ I1 q) fun ws s2 ⟨zs, H2, I2, rz, h1, h2, q2⟩ => ⟨I2.kIn, ?_⟩
  rw [hks]
  exact fr_run hfd Fm hr hgd tk hb I2 r rz h1 h2 q2
theorem pe_fnk0 (Fx : FnX X.prog X.w X.K X.mg X.base x params k ps G) (hr : Room k X.A) (hgd : X.A.guards = some []) (tk : Takes X Wx) (hb : Bd x params ps 0 ks ix) (hg : Gl X x) {t2 : TA} (hkw : PK X kws t2)
    (hall : (backToKw pos (keywordEach kws X.env)).all (·.1.isSome) = true := by rfl) (hks : (backToKw pos (keywordEach kws X.env)).filterMap (·.1) = ks := by rfl) (hdb : (x == ("__debug__" : Str)) = false := by decide)
    (hpl : ((backTo pos (starEach [] X.env)).any (·.1) || (backToKw pos (keywordEach kws X.env)).any (·.1.isNone)) = false := by rfl) : PE X (.Call (.Name x p) [] kws pos) (tFnX X Wx G ix 0 ks.length tNil t2) := by
  obtain ⟨f, fd, hm, hk, hfd, Fm⟩ := Fx.ex
  refine ⟨fun pins s σ H Q I h => ?_⟩
  refine wpAny_Call_Name_kw (ld_glob I hg hm ?_ hdb)
  refine PySem.W.callWith_KW0 (h₀ := X.base) I.ok.mod.kin hk hall (thn (hkw.run pos pins s σ H _ I h) fun ws s2 ⟨zs, H2, I2, rz, h1, h2, q2⟩ => ⟨I2.kIn, ?_⟩) hpl
  rw [hks]
  exact fr_run (us := []) hfd Fm hr hgd tk hb I2 .nil rz h1 h2 q2
theorem tNil_of {K : PySem.W.Frag} {mg : Str → Option Value} {σ : L2.St} {H : Hp} {Q : List V → Hp → Prop} (h : Q [] H) : tNil σ H Q := h
/-- from the data to the transformer -/
theorem fn_tm {m' : Nat} {t2 : TA} (ht : ∀ σ H Q, TMa X.K X.mg Wx mk σ H Q → t2 σ H Q) : ∀ σ H Q, TM X.K X.mg Wx (mFn G n m' ix ms mk) σ H Q → tFnX X Wx G ix n m' (TMa X.K X.mg Wx ms) t2 σ H Q := by
  intro σ H Q ⟨F, pa, p, ρ, gs, s, o⟩
  refine TMa.of gs s ((Out.bindS .refl o).mono fun ds p1 F1 H1 pa1 gr1' gs1 ⟨gr1, o1⟩ s1 vs rs => ht _ _ _ ?_)
  refine TMa.of gs1 s1 ((Out.bindS gr1 o1).mono fun es p2 F2 H2 pa2 gr2' gs2 ⟨gr2, o2⟩ s2 zs rz => ?_)
  by_cases hc : ds.length = n ∧ es.length = m'
  · rw [if_pos hc] at o2
    exact ⟨by rw [rs.1]; exact hc.1, by rw [rz.1]; exact hc.2, F2, pa2, p2, ds, es, gs2, rs.mono gr2'.fz, rz, fout_val gr2 o2⟩
  · rw [if_neg hc] at o2; exact o2.elim
theorem fn_tmo {m' : Nat} {t2 : TA} (ht : ∀ σ H Q, TMa X.K X.mg Wx mk σ H Q → t2 σ H Q) : ∀ σ H Q, TMo X.K X.mg Wx (mFno G n m' ix ms mk) σ H Q → tFnX X Wx G ix n m' (TMa X.K X.mg Wx ms) t2 σ H Q := by
  intro σ H Q ⟨F, pa, p, ρ, gs, s, o⟩
  refine TMa.of gs s ((Out.bindS .refl o).mono fun ds p1 F1 H1 pa1 gr1' gs1 ⟨gr1, o1⟩ s1 vs rs => ht _ _ _ ?_)
  refine TMa.of gs1 s1 ((Out.bindS gr1 o1).mono fun es p2 F2 H2 pa2 gr2' gs2 ⟨gr2, o2⟩ s2 zs rz => ?_)
  by_cases hc : ds.length = n ∧ es.length = m'
  · rw [if_pos hc] at o2
    exact ⟨by rw [rs.1]; exact hc.1, by rw [rz.1]; exact hc.2, F2, pa2, p2, ds, es, gs2, rs.mono gr2'.fz, rz, fout_o gr2 o2⟩
  · rw [if_neg hc] at o2; exact o2.elim
theorem nil_tma : ∀ (σ : L2.St) (H : Hp) (Q : List V → Hp → Prop), TMa X.K X.mg Wx (mret []) σ H Q → tNil σ H Q := fun σ H Q ⟨F, pa, p, ρ, gs, s, o⟩ => o.ret gs _ .nil
theorem nil_fn {t2 : TA} {m' : Nat} : ∀ σ H Q, tFnX X Wx G ix n m' (TMa X.K X.mg Wx (mret [])) t2 σ H Q → tFnX X Wx G ix n m' tNil t2 σ H Q := fun σ H Q h => nil_tma _ _ _ h
theorem pm_fn1 (Fx : FnX X.prog X.w X.K X.mg X.base x params k ps G) (hr : Room k X.A) (hgd : X.A.guards = some []) (tk : Takes X Wx) (hb : Bd x params ps n [] ix) (hg : Gl X x) (ha : PMa X Wx (e :: es) ms) (hdb : (x == ("__debug__" : Str)) = false := by decide)
    (he : starEach (e :: es) X.env = (false, eval e X.env) :: starEach es X.env := by rfl) (hpl : (backTo pos (starEach es X.env)).any (·.1) = false := by rfl) : PM X Wx (.Call (.Name x p) (e :: es) [] pos) (mFn G n 0 ix ms (mret [])) := ⟨(pe_fn1 Fx hr hgd tk hb hg ha.pa hdb he hpl).imp (fn_tm nil_tma)⟩
theorem pm_fn0 (Fx : FnX X.prog X.w X.K X.mg X.base x params k ps G) (hr : Room k X.A) (hgd : X.A.guards = some []) (tk : Takes X Wx) (hb : Bd x params ps 0 [] ix) (hg : Gl X x) (hdb : (x == ("__debug__" : Str)) = false := by decide) : PM X Wx (.Call (.Name x p) [] [] pos) (mFn G 0 0 ix (mret []) (mret [])) :=
  ⟨(pe_fn0 Fx hr hgd tk hb hg hdb).imp fun σ H Q h => nil_fn _ _ _ (fn_tm nil_tma σ H Q h)⟩
theorem pm_fnk (Fx : FnX X.prog X.w X.K X.mg X.base x params k ps G) (hr : Room k X.A) (hgd : X.A.guards = some []) (tk : Takes X Wx) (hb : Bd x params ps n ks ix) (hg : Gl X x) (ha : PMa X Wx (e :: es) ms) (hkw : PMk X Wx kws mk)
    (hall : (backToKw pos (keywordEach kws X.env)).all (·.1.isSome) = true := by rfl) (hks : (backToKw pos (keywordEach kws X.env)).filterMap (·.1) = ks := by rfl) (hdb : (x == ("__debug__" : Str)) = false := by decide) (he : starEach (e :: es) X.env = (false, eval e X.env) :: starEach es X.env := by rfl)
    (hpl : ((backTo pos (starEach (e :: es) X.env)).any (·.1) || (backToKw pos (keywordEach kws X.env)).any (·.1.isNone)) = false := by rfl) : PM X Wx (.Call (.Name x p) (e :: es) kws pos) (mFn G n ks.length ix ms mk) := ⟨(pe_fnk Fx hr hgd tk hb hg ha.pa hkw.pk hall hks hdb he hpl).imp (fn_tm fun _ _ _ h => h)⟩
theorem pm_fnk0 (Fx : FnX X.prog X.w X.K X.mg X.base x params k ps G) (hr : Room k X.A) (hgd : X.A.guards = some []) (tk : Takes X Wx) (hb : Bd x params ps 0 ks ix) (hg : Gl X x) (hkw : PMk X Wx kws mk)
    (hall : (backToKw pos (keywordEach kws X.env)).all (·.1.isSome) = true := by rfl) (hks : (backToKw pos (keywordEach kws X.env)).filterMap (·.1) = ks := by rfl) (hdb : (x == ("__debug__" : Str)) = false := by decide)
    (hpl : ((backTo pos (starEach [] X.env)).any (·.1) || (backToKw pos (keywordEach kws X.env)).any (·.1.isNone)) = false := by rfl) : PM X Wx (.Call (.Name x p) [] kws pos) (mFn G 0 ks.length ix (mret []) mk) := ⟨(pe_fnk0 Fx hr hgd tk hb hg hkw.pk hall hks hdb hpl).imp fun σ H Q h => nil_fn _ _ _ (fn_tm (fun _ _ _ h => h) σ H Q h)⟩
theorem pmo_fn1 (Fx : FnX X.prog X.w X.K X.mg X.base x params k ps G) (hr : Room k X.A) (hgd : X.A.guards = some []) (tk : Takes X Wx) (hb : Bd x params ps n [] ix) (hg : Gl X x) (ha : PMa X Wx (e :: es) ms) (hdb : (x == ("__debug__" : Str)) = false := by decide)
    (he : starEach (e :: es) X.env = (false, eval e X.env) :: starEach es X.env := by rfl) (hpl : (backTo pos (starEach es X.env)).any (·.1) = false := by rfl) : PMo X Wx (.Call (.Name x p) (e :: es) [] pos) (mFno G n 0 ix ms (mret [])) := ⟨(pe_fn1 Fx hr hgd tk hb hg ha.pa hdb he hpl).imp (fn_tmo nil_tma)⟩
theorem pmo_fn0 (Fx : FnX X.prog X.w X.K X.mg X.base x params k ps G) (hr : Room k X.A) (hgd : X.A.guards = some []) (tk : Takes X Wx) (hb : Bd x params ps 0 [] ix) (hg : Gl X x) (hdb : (x == ("__debug__" : Str)) = false := by decide) : PMo X Wx (.Call (.Name x p) [] [] pos) (mFno G 0 0 ix (mret []) (mret [])) :=
  ⟨(pe_fn0 Fx hr hgd tk hb hg hdb).imp fun σ H Q h => nil_fn _ _ _ (fn_tmo nil_tma σ H Q h)⟩
theorem pmo_fnk (Fx : FnX X.prog X.w X.K X.mg X.base x params k ps G) (hr : Room k X.A) (hgd : X.A.guards = some []) (tk : Takes X Wx) (hb : Bd x params ps n ks ix) (hg : Gl X x) (ha : PMa X Wx (e :: es) ms) (hkw : PMk X Wx kws mk)
    (hall : (backToKw pos (keywordEach kws X.env)).all (·.1.isSome) = true := by rfl) (hks : (backToKw pos (keywordEach kws X.env)).filterMap (·.1) = ks := by rfl) (hdb : (x == ("__debug__" : Str)) = false := by decide) (he : starEach (e :: es) X.env = (false, eval e X.env) :: starEach es X.env := by rfl)
    (hpl : ((backTo pos (starEach (e :: es) X.env)).any (·.1) || (backToKw pos (keywordEach kws X.env)).any (·.1.isNone)) = false := by rfl) : PMo X Wx (.Call (.Name x p) (e :: es) kws pos) (mFno G n ks.length ix ms mk) := ⟨(pe_fnk Fx hr hgd tk hb hg ha.pa hkw.pk hall hks hdb he hpl).imp (fn_tmo fun _ _ _ h => h)⟩
end
end PF

namespace PF
open PySem PySem.Spec PyProof.Rows L2

/-! ### statements -/
inductive SRes where
  | nx (ρ : Sl) (p : Pst) | rt (d : D) (fr : Bool) (p : Pst) | bk (ρ : Sl) (p : Pst) | ct (ρ : Sl) (p : Pst) | exc (x : Ex) (ρ : Sl) (p : Pst) | stuck
abbrev C := Sl → Pst → SRes
/-- the def's entry -/
structure Ent where
  F : Hp
  H : Hp
  g : Nat
  pa : Option Addr
/-- a state within the def -/
structure SS (K : PySem.W.Frag) (En : Ent) (F H : Hp) (pa : Option Addr) (p : Pst) (σ : L2.St) (ρ : Sl) : Prop where
  gr : Gr En.F En.H En.g En.pa F H p.g pa
  gs : GS F H pa p
  sr : SRel K F H p.g pa σ ρ
  nw : ∀ (i : Nat) xs v, ρ[i]? = some (some (.own xs)) → σ[i]? = some (some v) → ∀ a, v = .ref a → En.H a = none
def SOut (K : PySem.W.Frag) (mg : Str → Option Value) (En : Ent) (Wx : WX) (F : Hp) (g : Nat) (pa : Option Addr) (Dn : Ends) : SRes → Prop
  | .nx ρ' p' => ∀ σ' F' H' pa', Fz F g pa F' p'.g pa' → SS K En F' H' pa' p' σ' ρ' → Dn.nx σ' H'
  | .bk ρ' p' => ∀ σ' F' H' pa', Fz F g pa F' p'.g pa' → SS K En F' H' pa' p' σ' ρ' → Dn.bk σ' H'
  | .ct ρ' p' => ∀ σ' F' H' pa', Fz F g pa F' p'.g pa' → SS K En F' H' pa' p' σ' ρ' → Dn.ct σ' H'
  | .rt d fr p' => ∀ v F' H' pa', Fz F g pa F' p'.g pa' → Gr En.F En.H En.g En.pa F' H' p'.g pa' → GS F' H' pa' p' → ResRep K F' En.H H' p'.g pa' fr v d → Dn.rt v H'
  | .exc x ρ' p' => ∀ cls dd σ' F' H' pa', Fz F g pa F' p'.g pa' → SS K En F' H' pa' p' σ' ρ' → ExRep K mg F' p'.g pa' cls dd x → Wx cls dd σ' H'
  | .stuck => False
def TC (K : PySem.W.Frag) (mg : Str → Option Value) (En : Ent) (Wx : WX) (m : C) : TS := fun Dn σ H => ∃ F pa p ρ, SS K En F H pa p σ ρ ∧ SOut K mg En Wx F p.g pa Dn (m ρ p)
structure PMs (X : Cx) (En : Ent) (Wx : WX) (st : Stmt) (m : C) : Prop where
  ps : PS X st (TC X.K X.mg En Wx m)
structure PMss (X : Cx) (En : Ent) (Wx : WX) (st : List Stmt) (m : C) : Prop where
  ps : PSs X st (TC X.K X.mg En Wx m)
theorem _root_.L2.PS.imp {X : Cx} {e : Stmt} {t t' : TS} (h : PS X e t) (f : ∀ D σ H, t' D σ H → t D σ H) : PS X e t' := ⟨fun pins s σ H D I q => h.run pins s σ H D I (f D σ H q)⟩
theorem _root_.L2.PSs.imp {X : Cx} {e : List Stmt} {t t' : TS} (h : PSs X e t) (f : ∀ D σ H, t' D σ H → t D σ H) : PSs X e t' := ⟨fun pins s σ H D I q => h.run pins s σ H D I (f D σ H q)⟩
section
variable {K : PySem.W.Frag} {mg : Str → Option Value} {En : Ent} {Wx : WX} {F H F' H' : Hp} {g g' : Nat} {pa pa' : Option Addr} {p p' : Pst} {σ : L2.St} {ρ : Sl} {Dn : Ends}
theorem SOut.later {r : SRes} (h : SOut K mg En Wx F g pa Dn r) (z : Fz F g pa F' g' pa') : SOut K mg En Wx F' g' pa' Dn r := by
  cases r with
  | nx ρ p => exact fun σ F2 H2 pa2 f s => h σ F2 H2 pa2 (z.trans f) s
  | bk ρ p => exact fun σ F2 H2 pa2 f s => h σ F2 H2 pa2 (z.trans f) s
  | ct ρ p => exact fun σ F2 H2 pa2 f s => h σ F2 H2 pa2 (z.trans f) s
  | rt d fr p => exact fun v F2 H2 pa2 f => h v F2 H2 pa2 (z.trans f)
  | exc x ρ p => exact fun cls dd σ F2 H2 pa2 f => h cls dd σ F2 H2 pa2 (z.trans f)
  | stuck => exact h
theorem SS.grow (s : SS K En F H pa p σ ρ) (gr : Gr F H p.g pa F' H' p'.g pa') (gs : GS F' H' pa' p') : SS K En F' H' pa' p' σ ρ := ⟨s.gr.trans gr, gs, s.sr.grow gr, s.nw⟩
end

/-! ### blocks -/
def cskip : C := fun ρ p => .nx ρ p
def cseq (a b : C) : C := fun ρ p => match a ρ p with
  | .nx ρ' p' => b ρ' p'
  | r => r
def cbrk : C := fun ρ p => .bk ρ p
def ccnt : C := fun ρ p => .ct ρ p
def cstuck : C := fun _ _ => .stuck
section
variable {X : Cx} {En : Ent} {Wx : WX} {st : Stmt} {sts : List Stmt} {m m' : C} {ms mi : M (List D)} {e a b : Expr} {me ma mb : M D} {mo : M (List D)} {mt : M Bool} {pos : Pos} {i : Nat} {x : Str}
theorem cs_nil : PMss X En Wx [] cskip := ⟨pss_nil.imp fun Dn σ H ⟨F, pa, p, ρ, s, o⟩ => o σ F H pa .refl s⟩
theorem cs_pass : PMs X En Wx (.Pass pos) cskip := ⟨ps_pass.imp fun Dn σ H ⟨F, pa, p, ρ, s, o⟩ => o σ F H pa .refl s⟩
theorem cs_break : PMs X En Wx (.Break pos) cbrk := ⟨ps_break.imp fun Dn σ H ⟨F, pa, p, ρ, s, o⟩ => o σ F H pa .refl s⟩
theorem cs_cont : PMs X En Wx (.Continue pos) ccnt := ⟨ps_continue.imp fun Dn σ H ⟨F, pa, p, ρ, s, o⟩ => o σ F H pa .refl s⟩
theorem cs_never : PMs X En Wx st cstuck := ⟨ps_never.imp fun Dn σ H ⟨F, pa, p, ρ, s, o⟩ => o⟩
theorem cs_one (h : PMs X En Wx st m) : PMss X En Wx [st] m := ⟨pss_one h.ps⟩
theorem cs_cons (h1 : PMs X En Wx st m) (h2 : PMss X En Wx sts m') : PMss X En Wx (st :: sts) (cseq m m') := ⟨(pss_cons h1.ps h2.ps).imp fun Dn σ H ⟨F, pa, p, ρ, s, o⟩ => by
  refine ⟨F, pa, p, ρ, s, ?_⟩
  unfold cseq at o
  cases q : m ρ p with
  | nx ρ1 p1 =>
    rw [q] at o
    exact fun σ1 F1 H1 pa1 f s1 => ⟨F1, pa1, p1, ρ1, s1, o.later f⟩
  | bk ρ1 p1 => rw [q] at o; exact o
  | ct ρ1 p1 => rw [q] at o; exact o
  | rt d fr p1 => rw [q] at o; exact o
  | exc y ρ1 p1 => rw [q] at o; exact o
  | stuck => rw [q] at o; exact o⟩

/-! ### an expression within a statement -/
def eout {α : Type} (m : M α) (k : α → C) : C := fun ρ p => match m ρ p with
  | .ok a p' => k a ρ p'
  | .exc x p' => .exc x ρ p'
  | .stuck => .stuck
theorem SOut.expr {α : Type} {K : PySem.W.Frag} {mg : Str → Option Value} {F H : Hp} {pa : Option Addr} {p : Pst} {σ : L2.St} {ρ : Sl} {Dn : Ends} {me : M α} {k : α → C} (s : SS K En F H pa p σ ρ) (o : SOut K mg En Wx F p.g pa Dn (eout me k ρ p)) :
    Out K mg Wx σ F H p.g pa (fun d p' F' H' pa' => SS K En F' H' pa' p' σ ρ ∧ SOut K mg En Wx F' p'.g pa' Dn (k d ρ p')) (me ρ p) := by
  unfold eout at o
  cases q : me ρ p with
  | ok d p' =>
    rw [q] at o
    exact fun F' H' pa' gr gs => ⟨s.grow gr gs, o.later gr.fz⟩
  | exc x p' =>
    rw [q] at o
    exact fun cls dd F' H' pa' gr gs r => o cls dd σ F' H' pa' gr.fz (s.grow gr gs) r
  | stuck => rw [q] at o; exact o
theorem tm_s {K : PySem.W.Frag} {mg : Str → Option Value} {F H : Hp} {pa : Option Addr} {p : Pst} {σ : L2.St} {ρ : Sl} {Dn : Ends} {k : D → C} {Q : VK} (s : SS K En F H pa p σ ρ) (o : SOut K mg En Wx F p.g pa Dn (eout me k ρ p))
    (h : ∀ v d p' F' H' pa', SS K En F' H' pa' p' σ ρ → Fz F p.g pa F' p'.g pa' → Rep K F' p'.g pa' v d → SOut K mg En Wx F' p'.g pa' Dn (k d ρ p') → Q v H') : TM K mg Wx me σ H Q :=
  ⟨F, pa, p, ρ, s.gs, s.sr, (o.expr s).mono fun d p' F' H' pa' gr gs ⟨s', o'⟩ v r => h v d p' F' H' pa' s' gr.fz r o'⟩
def cexpr (me : M D) : C := eout me fun _ => cskip
theorem cs_expr (he : PM X Wx e me) (hs : swapsWith e none pos.line X.env = pure false := by rfl) : PMs X En Wx (.Expr e pos) (cexpr me) := ⟨(ps_expr he.pe hs).imp fun Dn σ H ⟨F, pa, p, ρ, s, o⟩ => by
  exact tm_s s o fun v d p' F' H' pa' s' _ r o' => o' σ F' H' pa' .refl s'⟩
/-- return e -/
def cret (me : M D) : C := eout me fun d _ p => .rt d false p
theorem cs_ret (he : PM X Wx e me) : PMs X En Wx (.Return (some e) pos) (cret me) := ⟨(ps_ret he.pe).imp fun Dn σ H ⟨F, pa, p, ρ, s, o⟩ => by
  exact tm_s s o fun v d p' F' H' pa' s' _ r o' => o' v F' H' pa' .refl s'.gr s'.gs r⟩
def cretN : C := fun _ p => .rt .non false p
theorem cs_retN : PMs X En Wx (.Return none pos) cretN := ⟨ps_retN.imp fun Dn σ H ⟨F, pa, p, ρ, s, o⟩ => o _ F H pa .refl s.gr s.gs (show Rep _ _ _ _ _ _ from .non)⟩
/-- return a fresh list -/
def creto (mo : M (List D)) : C := eout mo fun ds _ p => .rt (.lst ds) true p
theorem Gr.enter {En : Ent} {F H : Hp} {g : Nat} {pa : Option Addr} {a : Addr} (x : Gr En.F En.H En.g En.pa F H g pa) (h : H a = none) : En.H a = none := x.free0 h
theorem tmo_s {K : PySem.W.Frag} {mg : Str → Option Value} {F H : Hp} {pa : Option Addr} {p : Pst} {σ : L2.St} {ρ : Sl} {Dn : Ends} {k : List D → C} {Q : VK} (s : SS K En F H pa p σ ρ) (o : SOut K mg En Wx F p.g pa Dn (eout mo k ρ p))
    (h : ∀ a vs ds p' F' H' pa', SS K En F' H' pa' p' σ ρ → Fz F p.g pa F' p'.g pa' → H a = none → H' a = some (.lst vs) → F' a = none → pa' ≠ some a → ds.length ≤ sizeLine → Reps K F' p'.g pa' vs ds → SOut K mg En Wx F' p'.g pa' Dn (k ds ρ p') → Q (.ref a) H') : TMo K mg Wx mo σ H Q :=
  ⟨F, pa, p, ρ, s.gs, s.sr, (o.expr s).mono fun d p' F' H' pa' gr gs ⟨s', o'⟩ a vs h1 h2 h3 h4 h5 h6 => h a vs d p' F' H' pa' s' gr.fz h1 h2 h3 h4 h5 h6 o'⟩
theorem cs_reto (he : PMo X Wx e mo) : PMs X En Wx (.Return (some e) pos) (creto mo) := ⟨(ps_ret he.pe).imp fun Dn σ H ⟨F, pa, p, ρ, s, o⟩ => by
  exact tmo_s s o fun a vs ds p' F' H' pa' s' _ h1 h2 h3 h4 h5 h6 o' => o' _ F' H' pa' .refl s'.gr s'.gs ⟨a, vs, ds, rfl, rfl, s.gr.enter h1, h2, h3, h4, h5, h6⟩⟩
/-- return x, x an own list -/
def cretown (i : Nat) : C := fun ρ p => match ρ[i]? with
  | some (some (.own xs)) => .rt (.lst xs) true p
  | _ => .stuck
theorem cs_retown (h : PE X (.Name x pos) (tVar i)) {pos'} : PMs X En Wx (.Return (some (.Name x pos)) pos') (cretown i) := ⟨(ps_ret h).imp fun Dn σ H ⟨F, pa, p, ρ, s, o⟩ => by
  unfold cretown at o
  cases q : ρ[i]? with
  | none => rw [q] at o; exact o.elim
  | some w =>
    rw [q] at o
    cases w with
    | none => exact o.elim
    | some w =>
      cases w with
      | val d => exact o.elim
      | own xs =>
        obtain ⟨v, e1, a, vs, rfl, h2, h3, h4, h5, h6⟩ := s.sr.rep i _ q
        exact ⟨_, e1, o _ F H pa .refl s.gr s.gs ⟨a, vs, xs, rfl, rfl, s.nw i xs _ q e1 a rfl, h2, h3, h4, h5, h6⟩⟩⟩
/-- if -/
def cif (t : M Bool) (a b : C) : C := eout t fun k => if k = true then a else b
theorem cs_if {c : Expr} {sa sb : List Stmt} {ca cb : C} (hc : PMt X Wx c mt) (ha : PMss X En Wx sa ca) (hb : PMss X En Wx sb cb) : PMs X En Wx (.If c sa sb pos) (cif mt ca cb) := ⟨(ps_if hc.pt ha.ps hb.ps).imp fun Dn σ H ⟨F, pa, p, ρ, s, o⟩ => by
  refine ⟨F, pa, p, ρ, s.gs, s.sr, (o.expr s).mono fun k p' F' H' pa' gr gs ⟨s', o'⟩ => ?_⟩
  cases k with
  | true => simp only [if_true] at o' ⊢; exact ⟨F', pa', p', ρ, s', o'⟩
  | false => simp only [Bool.false_eq_true, if_false] at o' ⊢; exact ⟨F', pa', p', ρ, s', o'⟩⟩

/-! ### stores -/
theorem SS.set {K : PySem.W.Frag} {F H : Hp} {pa : Option Addr} {p : Pst} {σ : L2.St} {ρ : Sl} (s : SS K En F H pa p σ ρ) {v : V} {d : D} (r : Rep K F p.g pa v d) (i : Nat) : SS K En F H pa p (σ.set i (some v)) (ρ.set i (some (.val d))) := by
  refine ⟨s.gr, s.gs, s.sr.set r i, fun j xs w h1 h2 => ?_⟩
  rw [List.getElem?_set] at h1 h2
  by_cases e : i = j
  · subst e
    simp only [if_true] at h1
    split at h1 <;> cases h1
  · rw [if_neg e] at h1 h2
    exact s.nw j xs w h1 h2
/-- a fresh list, into slot i -/
theorem SS.setO {K : PySem.W.Frag} {F H H0 : Hp} {pa : Option Addr} {p : Pst} {σ : L2.St} {ρ : Sl} (s : SS K En F H pa p σ ρ) {a : Addr} {vs : List V} {ds : List D} (i : Nat) (hE : En.H a = none) (hO : ∀ (j : Nat) ys, ρ[j]? = some (some (.own ys)) → σ[j]? ≠ some (some (.ref a))) (h2 : H a = some (.lst vs)) (h3 : F a = none) (h4 : pa ≠ some a) (h5 : ds.length ≤ sizeLine) (h6 : Reps K F p.g pa vs ds) :
    SS K En F H pa p (σ.set i (some (.ref a))) (ρ.set i (some (.own ds))) := by
  refine ⟨s.gr, s.gs, ⟨by simp [s.sr.len], fun j w h => ?_, fun j k xs ys v q1 q2 q3 q4 => ?_⟩, fun j xs w q1 q2 b hb => ?_⟩
  · rw [List.getElem?_set] at h ⊢
    by_cases e : i = j
    · subst e
      simp only [if_true] at h ⊢
      by_cases hi : i < ρ.length
      · rw [if_pos hi] at h
        rw [if_pos (by rw [← s.sr.len]; exact hi)]
        cases h
        exact ⟨_, rfl, a, vs, rfl, h2, h3, h4, h5, h6⟩
      · rw [if_neg hi] at h; cases h
    · rw [if_neg e] at h ⊢
      exact s.sr.rep j w h
  · rw [List.getElem?_set] at q1 q2 q3 q4
    by_cases e : i = j
    · by_cases e2 : i = k
      · omega
      · rw [if_pos e] at q1 q3
        rw [if_neg e2] at q2 q4
        split at q3
        · cases q3
          exact absurd q4 (hO k _ q2)
        · cases q3
    · by_cases e2 : i = k
      · rw [if_neg e] at q1 q3
        rw [if_pos e2] at q2 q4
        split at q4
        · cases q4
          exact absurd q3 (hO j _ q1)
        · cases q4
      · rw [if_neg e] at q1 q3
        rw [if_neg e2] at q2 q4
        exact s.sr.apart j k xs ys v q1 q2 q3 q4
  · rw [List.getElem?_set] at q1 q2
    by_cases e : i = j
    · rw [if_pos e] at q2
      split at q2
      · cases q2; cases hb; exact hE
      · cases q2
    · rw [if_neg e] at q1 q2
      exact s.nw j xs w q1 q2 b hb
def casg (i : Nat) (me : M D) : C := eout me fun d ρ p => .nx (ρ.set i (some (.val d))) p
def caso (i : Nat) (mo : M (List D)) : C := eout mo fun ds ρ p => .nx (ρ.set i (some (.own ds))) p
/-- what is stored is told by its transformer -/
theorem asg_tm : ∀ D σ H, TC X.K X.mg En Wx (casg i me) D σ H → tAsg (TM X.K X.mg Wx me) (gName i) D σ H := fun Dn σ H ⟨F, pa, p, ρ, s, o⟩ =>
  tm_s s o fun v d p' F' H' pa' s' _ r o' => o' _ F' H' pa' .refl (s'.set r i)
theorem fresh_ne {K : PySem.W.Frag} {F H : Hp} {pa : Option Addr} {p : Pst} {σ : L2.St} {ρ : Sl} (s : SS K En F H pa p σ ρ) {a : Addr} (h : H a = none) : ∀ (j : Nat) ys, ρ[j]? = some (some (.own ys)) → σ[j]? ≠ some (some (.ref a)) := fun j ys q e => by
  obtain ⟨v, e1, b, vs, rfl, h2, _⟩ := s.sr.rep j _ q
  rw [e] at e1
  cases e1
  rw [h] at h2; cases h2
theorem aso_tm : ∀ D σ H, TC X.K X.mg En Wx (caso i mo) D σ H → tAsg (TMo X.K X.mg Wx mo) (gName i) D σ H := fun Dn σ H ⟨F, pa, p, ρ, s, o⟩ =>
  tmo_s s o fun a vs ds p' F' H' pa' s' _ h1 h2 h3 h4 h5 h6 o' => o' _ F' H' pa' .refl (s'.setO (H0 := H) i (s.gr.enter h1) (fresh_ne s h1) h2 h3 h4 h5 h6)
theorem cs_set {pos' : Pos} (hN : X.N.Nodup) (hi : X.N[i]? = some x) (hx : Loc X.env.scope x) (he : PM X Wx e me) (hs : swapsWith e (some (.Name x pos')) pos.line X.env = pure false := by rfl) (hf : X.fn x = true ∨ X.env.scope.names.lookup x = some .local := by first | exact .inl rfl | exact .inr rfl) :
    PMs X En Wx (.Assign [.Name x pos'] e pos) (casg i me) := ⟨(ps_set hN hi hx he.pe hs hf).imp asg_tm⟩
theorem cs_seto {pos' : Pos} (hN : X.N.Nodup) (hi : X.N[i]? = some x) (hx : Loc X.env.scope x) (he : PMo X Wx e mo) (hs : swapsWith e (some (.Name x pos')) pos.line X.env = pure false := by rfl) (hf : X.fn x = true ∨ X.env.scope.names.lookup x = some .local := by first | exact .inl rfl | exact .inr rfl) :
    PMs X En Wx (.Assign [.Name x pos'] e pos) (caso i mo) := ⟨(ps_set hN hi hx he.pe hs hf).imp aso_tm⟩
/-- y = [..], on one line, y a plain local -/
theorem cs_setlc_gen {f : D → Sl → Option Sl} {tt : M Bool} {el : M D} {g : TG} {elt iter tg : Expr} {ifs : List Expr} {scope : Scope} {own : List (Str × Nat)} {py spos : Pos} (hc : X.calm = true) (hN : X.N.Nodup) (hy : X.N[i]? = some x) (hyl : X.env.scope.names.lookup x = some .local)
    (hsw : swapsWith (.ListComp elt [⟨tg, iter, ifs, 0⟩] scope pos) (some (.Name x py)) spos.line X.env = pure true) (hi : PMi X Wx tg iter mi) (ok : BlkOk X.N X.env.scope scope own)
    (hg : ∀ (s : Shared) (H : Hp) (C : Addr) (cl : List (Str × Addr)) (fp : List Addr), PG (X.blk s H scope (compEnvC scope cl C X.env) fp) tg g) (hf : GOk X.K (own.map (·.2)) g f)
    (ht : ∀ (s : Shared) (H : Hp) (C : Addr) (cl : List (Str × Addr)) (fp : List Addr), PMts (X.blk s H scope (compEnvC scope cl C X.env) fp) W0 ifs tt)
    (he : ∀ (s : Shared) (H : Hp) (C : Addr) (cl : List (Str × Addr)) (fp : List Addr), PM (X.blk s H scope (compEnvC scope cl C X.env) fp) W0 elt el) (hs : ∀ x, foldedSetIterable iter X.env x = pure x := by intro _; rfl) :
    PS X (.Assign [.Name x py] (.ListComp elt [⟨tg, iter, ifs, 0⟩] scope pos) spos) (tAsg (TMo X.K X.mg Wx (mLc (own.map (·.2)) mi f tt el)) (gName i)) :=
  (ps_setLc hc hN hy hyl hsw hi.pi ok hg (fun s H C cl fp => (ht s H C cl fp).pt) (fun s H C cl fp => (he s H C cl fp).pe) hs).imp fun D σ H h => lc_out hf σ H _ h
theorem cs_lco {st : Stmt} (h : PS X st (tAsg (TMo X.K X.mg Wx mo) (gName i))) : PMs X En Wx st (caso i mo) := ⟨h.imp aso_tm⟩
theorem mo_m : ∀ σ H Q, TM X.K X.mg Wx (mfrz mo) σ H Q → TMo X.K X.mg Wx mo σ H Q := fun σ H Q ⟨F, pa, p, ρ, gs, s, o⟩ => by
  refine ⟨F, pa, p, ρ, gs, s, ?_⟩
  unfold mfrz mbind at o
  cases q : mo ρ p with
  | stuck => rw [q] at o; exact o
  | exc x p' => rw [q] at o; exact o
  | ok ds p' =>
    rw [q] at o
    intro F1 H1 pa1 gr1 gs1 a vs ha hH hF hp hz rs
    have fz : Fz F1 p'.g pa1 (upd F1 a (.lst vs)) p'.g pa1 := Fz.upd hF
    exact o _ H1 pa1 (gr1.freeze ha hF) (gs1.freeze hH hp) _ (Rep.lst' upd_same hz (rs.mono fz))
theorem cs_lcv {st : Stmt} (h : PS X st (tAsg (TMo X.K X.mg Wx mo) (gName i))) : PMs X En Wx st (casg i (mfrz mo)) := ⟨h.imp fun D σ H q => mo_m σ H _ (asg_tm D σ H q)⟩
/-- an own list becomes a value -/
def cfrz (i : Nat) : C := fun ρ p => match ρ[i]? with
  | some (some (.own xs)) => .nx (ρ.set i (some (.val (.lst xs)))) p
  | some (some (.val _)) => .nx ρ p
  | _ => .stuck
theorem SS.freeze {K : PySem.W.Frag} {F H : Hp} {pa : Option Addr} {p : Pst} {σ : L2.St} {ρ : Sl} {xs : List D} (s : SS K En F H pa p σ ρ) (q : ρ[i]? = some (some (.own xs))) : ∃ F', Fz F p.g pa F' p.g pa ∧ SS K En F' H pa p σ (ρ.set i (some (.val (.lst xs)))) := by
  obtain ⟨v, e1, a, vs, rfl, h2, h3, h4, h5, h6⟩ := s.sr.rep i _ q
  have hE := s.nw i xs _ q e1 a rfl
  have fz : Fz F p.g pa (upd F a (.lst vs)) p.g pa := Fz.upd h3
  refine ⟨upd F a (.lst vs), fz, ⟨s.gr.freeze hE h3, s.gs.freeze h2 h4, ⟨by simp [s.sr.len], fun j w h => ?_, fun j k ys zs v q1 q2 q3 q4 => ?_⟩, fun j ys w q1 q2 => ?_⟩⟩
  · rw [List.getElem?_set] at h
    by_cases e : i = j
    · subst e
      rw [if_pos rfl] at h
      split at h
      · cases h
        exact ⟨_, e1, Rep.lst' upd_same h5 (h6.mono fz)⟩
      · cases h
    · rw [if_neg e] at h
      obtain ⟨v2, e2, r2⟩ := s.sr.rep j w h
      refine ⟨v2, e2, ?_⟩
      cases w with
      | val d => exact Rep.mono r2 fz
      | own ys =>
        obtain ⟨b, ws, z1, z2, z3, z4, z5, z6⟩ := r2
        refine ⟨b, ws, z1, z2, ?_, z4, z5, z6.mono fz⟩
        rw [upd_ne fun z => ?_]; exact z3
        subst z1 z
        exact e (s.sr.apart i j xs ys _ q h e1 e2)
  · rw [List.getElem?_set] at q1 q2
    by_cases e : i = j
    · rw [if_pos e] at q1
      split at q1 <;> cases q1
    · by_cases e2 : i = k
      · rw [if_pos e2] at q2
        split at q2 <;> cases q2
      · rw [if_neg e] at q1
        rw [if_neg e2] at q2
        exact s.sr.apart j k ys zs v q1 q2 q3 q4
  · rw [List.getElem?_set] at q1
    by_cases e : i = j
    · rw [if_pos e] at q1
      split at q1 <;> cases q1
    · rw [if_neg e] at q1
      exact s.nw j ys w q1 q2
theorem cs_frz (h : PMss X En Wx sts m) : PMss X En Wx sts (cseq (cfrz i) m) := ⟨h.ps.imp fun Dn σ H ⟨F, pa, p, ρ, s, o⟩ => by
  unfold cseq cfrz at o
  cases q : ρ[i]? with
  | none => rw [q] at o; exact o.elim
  | some w =>
    rw [q] at o
    cases w with
    | none => exact o.elim
    | some w =>
      cases w with
      | val d => exact ⟨F, pa, p, ρ, s, o⟩
      | own xs =>
        obtain ⟨F', fz, s'⟩ := s.freeze q
        exact ⟨F', pa, p, _, s', o.later fz⟩⟩
end
end PF

namespace PF
open PySem PySem.Spec PyProof.Rows L2

section
variable {X : Cx} {En : Ent} {Wx : WX} {st : Stmt} {sts : List Stmt} {m m' : C} {ms mi : M (List D)} {e a b : Expr} {me ma mb : M D} {mo : M (List D)} {mt : M Bool} {pos : Pos} {i : Nat} {x : Str}
/-! ### own lists change -/
theorem SS.upd {K : PySem.W.Frag} {F H : Hp} {pa : Option Addr} {p : Pst} {σ : L2.St} {ρ : Sl} (s : SS K En F H pa p σ ρ) {xs ys : List D} {a : Addr} {vs : List V} (q : ρ[i]? = some (some (.own xs))) (e : σ[i]? = some (some (.ref a))) (hz : ys.length ≤ sizeLine) (rs : Reps K F p.g pa vs ys) :
    SS K En F (L2.upd H a (.lst vs)) pa p σ (ρ.set i (some (.own ys))) := by
  obtain ⟨v, e1, b, ws, rfl, h2, h3, h4, h5, h6⟩ := s.sr.rep i _ q
  rw [e] at e1
  cases e1
  have hE := s.nw i xs _ q e a rfl
  refine ⟨⟨s.gr.fz, s.gr.new, fun b o z1 z2 => ?_, fun b o z1 => ?_, s.gr.pot⟩, ⟨fun b o z => ?_, fun b z => ?_⟩, ⟨by simp [s.sr.len], fun j w h => ?_, fun j k xs' ys' v q1 q2 q3 q4 => ?_⟩, fun j ys' w q1 q2 b hb => ?_⟩
  · rw [upd_ne (ne_of_none z1 hE)]; exact s.gr.keep b o z1 z2
  · rw [upd_ne (ne_of_none z1 hE)]; exact s.gr.there b o z1
  · rw [upd_ne fun t => ?_]; exact s.gs.sub b o z
    subst t; rw [h3] at z; cases z
  · have hb : b ≠ a := fun t => h4 (by rw [← t]; exact z)
    rw [upd_ne hb]; exact s.gs.pot b z
  · rw [List.getElem?_set] at h
    by_cases ej : i = j
    · subst ej
      rw [if_pos rfl] at h
      split at h
      · cases h
        exact ⟨_, e, a, vs, rfl, upd_same, h3, h4, hz, rs⟩
      · cases h
    · rw [if_neg ej] at h
      obtain ⟨v2, e2, r2⟩ := s.sr.rep j w h
      refine ⟨v2, e2, ?_⟩
      cases w with
      | val d => exact r2
      | own zs =>
        obtain ⟨b, ws2, z1, z2, z3, z4, z5, z6⟩ := r2
        refine ⟨b, ws2, z1, ?_, z3, z4, z5, z6⟩
        rw [upd_ne fun t => ?_]; exact z2
        subst z1 t
        exact ej (s.sr.apart i j xs zs _ q h e e2)
  · rw [List.getElem?_set] at q1 q2
    by_cases e1 : i = j
    · by_cases e2 : i = k
      · omega
      · rw [if_neg e2] at q2
        subst e1
        exact s.sr.apart i k xs ys' v q q2 q3 q4
    · by_cases e2 : i = k
      · rw [if_neg e1] at q1
        subst e2
        exact s.sr.apart j i xs' xs v q1 q q3 q4
      · rw [if_neg e1] at q1
        rw [if_neg e2] at q2
        exact s.sr.apart j k xs' ys' v q1 q2 q3 q4
  · rw [List.getElem?_set] at q1
    by_cases e1 : i = j
    · subst e1
      exact s.nw i xs w q q2 b hb
    · rw [if_neg e1] at q1
      exact s.nw j ys' w q1 q2 b hb
theorem SS.own {K : PySem.W.Frag} {F H : Hp} {pa : Option Addr} {p : Pst} {σ : L2.St} {ρ : Sl} (s : SS K En F H pa p σ ρ) {xs : List D} (q : ρ[i]? = some (some (.own xs))) : ∃ a vs, σ[i]? = some (some (.ref a)) ∧ H a = some (.lst vs) ∧ xs.length ≤ sizeLine ∧ Reps K F p.g pa vs xs := by
  obtain ⟨v, e1, b, ws, rfl, h2, h3, h4, h5, h6⟩ := s.sr.rep i _ q
  exact ⟨b, ws, e1, h2, h5, h6⟩
def capp (i : Nat) (me : M D) : C := fun ρ p => match ρ[i]? with
  | some (some (.own xs)) => eout me (fun d ρ p => if xs.length < 16000000 then .nx (ρ.set i (some (.own (xs ++ [d])))) p else .stuck) ρ p
  | _ => .stuck
theorem cs_append (h : PE X e (tBM X.K "list" rAppend (tVar i) (tCons (TM X.K X.mg Wx me) tNil))) (hs : swapsWith e none pos.line X.env = pure false := by rfl) : PMs X En Wx (.Expr e pos) (capp i me) := ⟨(ps_expr h hs).imp fun Dn σ H ⟨F, pa, p, ρ, s, o⟩ => by
  unfold capp at o
  cases q : ρ[i]? with
  | none => rw [q] at o; exact o.elim
  | some w =>
    rw [q] at o
    cases w with
    | none => exact o.elim
    | some w =>
      cases w with
      | val d => exact o.elim
      | own xs =>
        obtain ⟨a, vs, e1, h1, _, _⟩ := s.own q
        refine ⟨_, e1, .inl ⟨rfl, _, SqL.of h1⟩, ?_⟩
        refine tm_s s o fun v d p' F' H' pa' s' _ r o' => ?_
        obtain ⟨a', vs', e2, h2, h3, rs⟩ := s'.own q
        rw [e1] at e2
        cases e2
        by_cases hc : xs.length < 16000000
        · rw [if_pos hc] at o'
          refine ⟨a, vs', v, rfl, rfl, h2, by rw [rs.1, sizeLine_eq]; omega, ?_⟩
          exact o' σ F' _ pa' .refl (s'.upd q e1 (by rw [List.length_append, sizeLine_eq]; simp; omega) (rs.append (.cons r .nil)))
        · rw [if_neg hc] at o'; exact o'.elim⟩
def cext (i : Nat) (me : M D) : C := fun ρ p => match ρ[i]? with
  | some (some (.own xs)) => eout me (fun d ρ p => match d with
    | .lst ys => if xs.length + ys.length ≤ 16000000 then .nx (ρ.set i (some (.own (xs ++ ys)))) p else .stuck
    | _ => .stuck) ρ p
  | _ => .stuck
theorem cs_extend (h : PE X e (tBM X.K "list" rExtend (tVar i) (tCons (TM X.K X.mg Wx me) tNil))) (hs : swapsWith e none pos.line X.env = pure false := by rfl) : PMs X En Wx (.Expr e pos) (cext i me) := ⟨(ps_expr h hs).imp fun Dn σ H ⟨F, pa, p, ρ, s, o⟩ => by
  unfold cext at o
  cases q : ρ[i]? with
  | none => rw [q] at o; exact o.elim
  | some w =>
    rw [q] at o
    cases w with
    | none => exact o.elim
    | some w =>
      cases w with
      | val d => exact o.elim
      | own xs =>
        obtain ⟨a, vs, e1, h1, _, _⟩ := s.own q
        refine ⟨_, e1, .inl ⟨rfl, _, SqL.of h1⟩, ?_⟩
        refine tm_s s o fun v d p' F' H' pa' s' _ r o' => ?_
        obtain ⟨a', vs', e2, h2, h3, rs⟩ := s'.own q
        rw [e1] at e2
        cases e2
        cases d <;> first | exact o'.elim | skip
        rename_i ys
        simp only at o'
        by_cases hc : xs.length + ys.length ≤ 16000000
        · rw [if_pos hc] at o'
          obtain ⟨b, ws, rfl, hb, hz, rb⟩ := r.lstH s'.gs
          refine ⟨a, b, vs', ws, rfl, rfl, h2, hb, by rw [rs.1, rb.1, sizeLine_eq]; omega, ?_⟩
          exact o' σ F' _ pa' .refl (s'.upd q e1 (by rw [List.length_append, sizeLine_eq]; omega) (rs.append rb))
        · rw [if_neg hc] at o'; exact o'.elim⟩
theorem getLast_rep {K : PySem.W.Frag} {F : Hp} {g : Nat} {pa : Option Addr} {vs : List V} {xs : List D} (rs : Reps K F g pa vs xs) {d : D} (h : xs[xs.length - 1]? = some d) : ∃ v, vs[vs.length - 1]? = some v ∧ Rep K F g pa v d := by
  rw [rs.1]; exact rs.get h
theorem dropLast_rep {K : PySem.W.Frag} {F : Hp} {g : Nat} {pa : Option Addr} {vs : List V} {xs : List D} (rs : Reps K F g pa vs xs) : Reps K F g pa vs.dropLast xs.dropLast := by
  rw [List.dropLast_eq_take, List.dropLast_eq_take, rs.1]
  exact rs.take _
def cpop (i : Nat) : C := fun ρ p => match ρ[i]? with
  | some (some (.own xs)) => if xs = [] then .stuck else .nx (ρ.set i (some (.own xs.dropLast))) p
  | _ => .stuck
theorem cs_pop (h : PE X e (tBM0 X.K "list" rPop (tVar i))) (hs : swapsWith e none pos.line X.env = pure false := by rfl) : PMs X En Wx (.Expr e pos) (cpop i) := ⟨(ps_expr h hs).imp fun Dn σ H ⟨F, pa, p, ρ, s, o⟩ => by
  unfold cpop at o
  cases q : ρ[i]? with
  | none => rw [q] at o; exact o.elim
  | some w =>
    rw [q] at o
    cases w with
    | none => exact o.elim
    | some w =>
      cases w with
      | val d => exact o.elim
      | own xs =>
        simp only at o
        by_cases hc : xs = []
        · rw [if_pos hc] at o; exact o.elim
        · rw [if_neg hc] at o
          obtain ⟨a, vs, e1, h1, hz, rs⟩ := s.own q
          have hl : xs.length - 1 < xs.length := by have := List.length_pos_iff.mpr hc; omega
          obtain ⟨v, hv, _⟩ := getLast_rep rs (d := xs[xs.length - 1]) (by simp [hl])
          refine ⟨_, e1, .inl ⟨rfl, _, SqL.of h1⟩, a, vs, v, rfl, rfl, h1, hv, ?_⟩
          exact o σ F _ pa .refl (s.upd q e1 (by rw [List.length_dropLast]; omega) (dropLast_rep rs))⟩
/-- y = x.pop() -/
def casgpop (j i : Nat) : C := fun ρ p => match ρ[i]? with
  | some (some (.own xs)) => (match xs[xs.length - 1]? with
    | some d => .nx ((ρ.set i (some (.own xs.dropLast))).set j (some (.val d))) p
    | none => .stuck)
  | _ => .stuck
theorem cs_asgpop {j : Nat} {y : Str} {pos' : Pos} (h : PE X e (tBM0 X.K "list" rPop (tVar i))) (hN : X.N.Nodup) (hj : X.N[j]? = some y) (hx : Loc X.env.scope y) (hs : swapsWith e (some (.Name y pos')) pos.line X.env = pure false := by rfl) (hf : X.fn y = true ∨ X.env.scope.names.lookup y = some .local := by first | exact .inl rfl | exact .inr rfl) :
    PMs X En Wx (.Assign [.Name y pos'] e pos) (casgpop j i) := ⟨(ps_set hN hj hx h hs hf).imp fun Dn σ H ⟨F, pa, p, ρ, s, o⟩ => by
  unfold casgpop at o
  cases q : ρ[i]? with
  | none => rw [q] at o; exact o.elim
  | some w =>
    rw [q] at o
    cases w with
    | none => exact o.elim
    | some w =>
      cases w with
      | val d => exact o.elim
      | own xs =>
        simp only at o
        cases q2 : xs[xs.length - 1]? with
        | none => rw [q2] at o; exact o.elim
        | some d =>
          rw [q2] at o
          obtain ⟨a, vs, e1, h1, hz, rs⟩ := s.own q
          obtain ⟨v, hv, rv⟩ := getLast_rep rs q2
          refine ⟨_, e1, .inl ⟨rfl, _, SqL.of h1⟩, a, vs, v, rfl, rfl, h1, hv, ?_⟩
          have s2 := s.upd q e1 (by rw [List.length_dropLast]; omega) (dropLast_rep rs)
          exact o _ F _ pa .refl (s2.set rv j)⟩
/-- a fresh list to which an item is put, then dropped -/
def cdropapp (mo : M (List D)) (me : M D) : C := eout mo fun ds => eout me fun _ => if ds.length < 16000000 then cskip else cstuck
theorem cs_dropapp (h : PE X e (tBM X.K "list" rAppend (TMo X.K X.mg Wx mo) (tCons (TM X.K X.mg Wx me) tNil))) (hs : swapsWith e none pos.line X.env = pure false := by rfl) : PMs X En Wx (.Expr e pos) (cdropapp mo me) := ⟨(ps_expr h hs).imp fun Dn σ H ⟨F, pa, p, ρ, s, o⟩ => by
  unfold tDrop tBM
  refine tmo_s s o fun a vs ds p' F' H' pa' s' _ h1 h2 h3 h4 h5 h6 o' => ⟨.inl ⟨rfl, _, SqL.of h2⟩, ?_⟩
  refine ⟨F', pa', p', ρ, s'.gs, s'.sr, (o'.expr s').mono fun d p2 F2 H2 pa2 gr2 gs2 ⟨s2, o2⟩ v r => ?_⟩
  by_cases hc : ds.length < 16000000
  · rw [if_pos hc] at o2
    have h7 := gr2.keep _ _ h2 h4
    refine ⟨a, vs, v, rfl, rfl, h7, by rw [h6.1, sizeLine_eq]; omega, ?_⟩
    have hE := s.gr.enter h1
    have hF2 : F2 a = none := by
      cases q : F2 a with
      | none => rfl
      | some u =>
        rcases gr2.new _ _ q with z | z
        · rw [h3] at z; cases z
        · rw [h2] at z; cases z
    have hp2 : pa2 ≠ some a := fun z => by
      rcases gr2.pot with z2 | ⟨b, z2, hb⟩
      · exact h4 (by rw [← z2]; exact z)
      · rw [z2] at z; cases z; rw [h2] at hb; cases hb
    refine o2 σ F2 _ pa2 .refl ⟨⟨s2.gr.fz, s2.gr.new, fun b o z1 z2 => ?_, fun b o z1 => ?_, s2.gr.pot⟩, ⟨fun b o z => ?_, fun b z => ?_⟩, ⟨s2.sr.len, fun j w h => ?_, s2.sr.apart⟩, s2.nw⟩
    · rw [upd_ne (ne_of_none z1 hE)]; exact s2.gr.keep b o z1 z2
    · rw [upd_ne (ne_of_none z1 hE)]; exact s2.gr.there b o z1
    · rw [upd_ne fun t => ?_]; exact s2.gs.sub b o z
      subst t; rw [hF2] at z; cases z
    · have hb : b ≠ a := fun t => hp2 (by rw [← t]; exact z)
      rw [upd_ne hb]; exact s2.gs.pot b z
    · obtain ⟨v2, e2, r2⟩ := s2.sr.rep j w h
      refine ⟨v2, e2, ?_⟩
      cases w with
      | val d => exact r2
      | own zs =>
        obtain ⟨b, ws2, z1, z2, z3, z4, z5, z6⟩ := r2
        refine ⟨b, ws2, z1, ?_, z3, z4, z5, z6⟩
        rw [upd_ne fun t => ?_]; exact z2
        subst z1 t
        exact fresh_ne s h1 j zs h e2
  · rw [if_neg hc] at o2; exact o2.elim⟩

/-! ### targets of statements -/
def TgOk (K : PySem.W.Frag) (mg : Str → Option Value) (En : Ent) (Wx : WX) (g : TG) (G : D → Sl → Pst → Option (Sl × Pst)) : Prop := ∀ (F H : Hp) (pa : Option Addr) (p : Pst) (x : V) (d : D) (σ : L2.St) (ρ ρ' : Sl) (p' : Pst) (Q : L2.St → Hp → Prop), SS K En F H pa p σ ρ → Rep K F p.g pa x d → G d ρ p = some (ρ', p') →
  (∀ σ' F' H' pa', Fz F p.g pa F' p'.g pa' → SS K En F' H' pa' p' σ' ρ' → Q σ' H') → g x σ H Q
def tgName (i : Nat) : D → Sl → Pst → Option (Sl × Pst) := fun d ρ p => some (ρ.set i (some (.val d)), p)
theorem tg_name {K : PySem.W.Frag} {mg : Str → Option Value} : TgOk K mg En Wx (gName i) (tgName i) := by
  intro F H pa p x d σ ρ ρ' p' Q s r e k
  cases e
  exact k _ F H pa .refl (s.set r i)
def TgsOk (K : PySem.W.Frag) (mg : Str → Option Value) (En : Ent) (Wx : WX) (g : TGs) (G : List D → Sl → Pst → Option (Sl × Pst)) : Prop := ∀ (F H : Hp) (pa : Option Addr) (p : Pst) (xs : List V) (ds : List D) (σ : L2.St) (ρ ρ' : Sl) (p' : Pst) (Q : L2.St → Hp → Prop), SS K En F H pa p σ ρ → Reps K F p.g pa xs ds → G ds ρ p = some (ρ', p') →
  (∀ σ' F' H' pa', Fz F p.g pa F' p'.g pa' → SS K En F' H' pa' p' σ' ρ' → Q σ' H') → g xs σ H Q
def tgNil : List D → Sl → Pst → Option (Sl × Pst) := fun ds ρ p => match ds with
  | [] => some (ρ, p)
  | _ => none
def tgCons (f : D → Sl → Pst → Option (Sl × Pst)) (fs : List D → Sl → Pst → Option (Sl × Pst)) : List D → Sl → Pst → Option (Sl × Pst) := fun ds ρ p => match ds with
  | d :: r => (match f d ρ p with
    | some (ρ1, p1) => fs r ρ1 p1
    | none => none)
  | [] => none
theorem tgs_nil {K : PySem.W.Frag} {mg : Str → Option Value} : TgsOk K mg En Wx gNil tgNil := by
  intro F H pa p xs ds σ ρ ρ' p' Q s r e k
  cases ds with
  | nil =>
    have hx := List.eq_nil_of_length_eq_zero r.1
    cases e
    exact ⟨hx, k σ F H pa .refl s⟩
  | cons d ds => cases e
theorem tgs_cons {K : PySem.W.Frag} {mg : Str → Option Value} {g : TG} {gs : TGs} {f : D → Sl → Pst → Option (Sl × Pst)} {fs : List D → Sl → Pst → Option (Sl × Pst)} (h1 : TgOk K mg En Wx g f) (h2 : TgsOk K mg En Wx gs fs) : TgsOk K mg En Wx (gCons g gs) (tgCons f fs) := by
  intro F H pa p xs ds σ ρ ρ' p' Q s r e k
  cases ds with
  | nil => cases e
  | cons d ds =>
    rcases r.cases with ⟨_, z⟩ | ⟨x, y, xs', ys', rfl, z, r1, r2⟩
    · cases z
    · cases z
      simp only [tgCons] at e
      cases q : f d ρ p with
      | none => rw [q] at e; cases e
      | some w =>
        obtain ⟨ρ1, p1⟩ := w
        rw [q] at e
        refine ⟨x, xs', rfl, h1 F H pa p x d σ ρ ρ1 p1 _ s r1 q fun σ1 F1 H1 pa1 fz1 s1 => ?_⟩
        exact h2 F1 H1 pa1 p1 xs' ds σ1 ρ1 ρ' p' Q s1 (Reps.mono r2 fz1) e fun σ2 F2 H2 pa2 fz2 s2 => k σ2 F2 H2 pa2 (fz1.trans fz2) s2
def tgTup (n : Nat) (fs : List D → Sl → Pst → Option (Sl × Pst)) : D → Sl → Pst → Option (Sl × Pst) := fun d ρ p => match d with
  | .tup xs => if xs.length = n then fs xs ρ p else none
  | _ => none
theorem tg_tup {K : PySem.W.Frag} {mg : Str → Option Value} {n : Nat} {g : TGs} {fs : List D → Sl → Pst → Option (Sl × Pst)} (h : TgsOk K mg En Wx g fs) : TgOk K mg En Wx (gTup K n g) (tgTup n fs) := by
  intro F H pa p x d σ ρ ρ' p' Q s r e k
  cases d <;> first | (simp [tgTup] at e; done) | skip
  simp only [tgTup] at e
  split at e
  · rename_i hn
    obtain ⟨a, ws, rfl, h1, hz, rs⟩ := r.tupH s.gs
    exact ⟨a, ws, rfl, SqT.of h1, by rw [rs.1]; exact hn, h F H pa p ws _ σ ρ ρ' p' Q s rs e k⟩
  · cases e
/-- x[i] = d: an own list, or the pot -/
def setPot (p : Pst) : D → D → Option Pst
  | .int 0, .int n => some { p with a := n }
  | .int 1, .int n => some { p with b := n }
  | _, _ => none
def tgSub (r : Nat) (mi : M D) : D → Sl → Pst → Option (Sl × Pst) := fun d ρ p => match mi ρ p with
  | .ok k p1 => (match ρ[r]? with
    | some (some (.own xs)) => (match k with
      | .int k => (match ixN xs.length k with
        | some j => some (ρ.set r (some (.own (xs.set j d))), p1)
        | none => none)
      | _ => none)
    | some (some (.val (.pot g))) => if g = p1.g then (setPot p1 k d).map fun p2 => (ρ, p2) else none
    | _ => none)
  | _ => none
theorem SS.pot {K : PySem.W.Frag} {F H : Hp} {pa : Option Addr} {p p' : Pst} {σ : L2.St} {ρ : Sl} {a : Addr} (s : SS K En F H pa p σ ρ) (ha : pa = some a) (hg : p'.g = p.g) : SS K En F (L2.upd H a (.lst [.int p'.a, .int p'.b])) pa p' σ ρ := by
  obtain ⟨h1, h2⟩ := s.gs.pot a ha
  refine ⟨⟨by rw [hg]; exact s.gr.fz, s.gr.new, fun b o z1 z2 => ?_, fun b o z1 => ?_, s.gr.pot⟩, ⟨fun b o z => ?_, fun b z => ?_⟩, ⟨s.sr.len, fun j w h => ?_, s.sr.apart⟩, s.nw⟩
  · have hb : b ≠ a := fun t => by
      subst t
      rcases s.gr.pot with z | ⟨c, z, hc⟩
      · exact z2 (by rw [← z]; exact ha)
      · rw [ha] at z; cases z; rw [z1] at hc; cases hc
    rw [upd_ne hb]; exact s.gr.keep b o z1 z2
  · by_cases hb : b = a
    · exact ⟨_, by rw [hb]; exact upd_same⟩
    · rw [upd_ne hb]; exact s.gr.there b o z1
  · rw [upd_ne fun t => ?_]; exact s.gs.sub b o z
    subst t; rw [h2] at z; cases z
  · rw [ha] at z
    cases z
    exact ⟨upd_same, h2⟩
  · obtain ⟨v2, e2, r2⟩ := s.sr.rep j w h
    refine ⟨v2, e2, ?_⟩
    cases w with
    | val d => rw [hg]; exact r2
    | own zs =>
      obtain ⟨b, ws2, z1, z2, z3, z4, z5, z6⟩ := r2
      refine ⟨b, ws2, z1, ?_, z3, z4, z5, by rw [hg]; exact z6⟩
      rw [upd_ne fun t => ?_]; exact z2
      subst t
      exact z4 ha
theorem setPot_g {p p' : Pst} {k d : D} (h : setPot p k d = some p') : p'.g = p.g := by
  unfold setPot at h
  split at h <;> first | (cases h; rfl) | cases h
theorem tg_sub {r : Nat} {mi : M D} : TgOk X.K X.mg En Wx (gSub (tVar r) (TM X.K X.mg Wx mi) rSetL) (tgSub r mi) := by
  intro F H pa p x d σ ρ ρ' p' Q s rx e k
  unfold tgSub at e
  cases q0 : mi ρ p with
  | stuck => rw [q0] at e; cases e
  | exc y p1 => rw [q0] at e; cases e
  | ok kd p1 =>
    rw [q0] at e
    simp only at e
    have tm : ∀ (R : VK), (∀ v F' H' pa', Gr F H p.g pa F' H' p1.g pa' → GS F' H' pa' p1 → Rep X.K F' p1.g pa' v kd → R v H') → TM X.K X.mg Wx mi σ H R := fun R hR =>
      ⟨F, pa, p, ρ, s.gs, s.sr, by rw [q0]; exact fun F' H' pa' gr gs v r => hR v F' H' pa' gr gs r⟩
    split at e
    · rename_i xs q
      obtain ⟨a, vs, e1, _⟩ := s.own q
      refine ⟨_, e1, tm _ fun v F' H' pa' gr gs rk => ?_⟩
      have s' := s.grow gr gs
      obtain ⟨a', vs', e2, h2, hz, rs⟩ := s'.own q
      rw [e1] at e2
      cases e2
      split at e
      · rename_i kk
        cases rk
        split at e
        · rename_i j qj
          cases e
          refine ⟨a, vs', kk, j, rfl, rfl, h2, by rw [rs.1]; exact qj, ?_⟩
          exact k σ F' _ pa' gr.fz (s'.upd q e1 (by simpa using hz) (rs.set (rx.mono gr.fz) j))
        · cases e
      · cases e
    · rename_i g q
      split at e
      · rename_i hg
        cases q2 : setPot p1 kd d with
        | none => rw [q2] at e; cases e
        | some p2 =>
          rw [q2] at e
          cases e
          obtain ⟨v0, e1, r0⟩ := s.sr.rep r _ q
          refine ⟨_, e1, tm _ fun v F' H' pa' gr gs rk => ?_⟩
          have s' := s.grow gr gs
          have r0' : Rep X.K F' p1.g pa' v0 (.pot g) := Rep.mono r0 gr.fz
          cases r0' with
          | pot h1 h2 =>
            obtain ⟨a, ha, rfl⟩ := h2 hg
            obtain ⟨h3, _⟩ := gs.pot a ha
            have rx' := rx.mono gr.fz
            have hg2 := setPot_g q2
            have s2 := s'.pot ha hg2
            unfold setPot at q2
            split at q2 <;> first | (cases q2; done) | skip
            · cases rk; cases rx'
              cases q2
              exact ⟨a, _, 0, 0, rfl, rfl, h3, rfl, k σ F' _ pa' gr.fz s2⟩
            · cases rk; cases rx'
              cases q2
              exact ⟨a, _, 1, 1, rfl, rfl, h3, rfl, k σ F' _ pa' gr.fz s2⟩
      · cases e
    · cases e
def casgT (G : D → Sl → Pst → Option (Sl × Pst)) (me : M D) : C := eout me fun d ρ p => match G d ρ p with
  | some (ρ', p') => .nx ρ' p'
  | none => .stuck
theorem cs_asgT {g : TG} {G : D → Sl → Pst → Option (Sl × Pst)} {st : Stmt} (h : PS X st (tAsg (TM X.K X.mg Wx me) g)) (hG : TgOk X.K X.mg En Wx g G) : PMs X En Wx st (casgT G me) := ⟨h.imp fun Dn σ H ⟨F, pa, p, ρ, s, o⟩ => by
  refine tm_s s o fun v d p' F' H' pa' s' _ r o' => ?_
  cases q : G d ρ p' with
  | none => rw [q] at o'; exact o'.elim
  | some w =>
    obtain ⟨ρ1, p1⟩ := w
    rw [q] at o'
    exact hG F' H' pa' p' v d σ ρ ρ1 p1 _ s' r q fun σ2 F2 H2 pa2 fz2 s2 => o' σ2 F2 H2 pa2 fz2 s2⟩
end
end PF

namespace PF
open PySem PySem.Spec PyProof.Rows L2

section
variable {X : Cx} {En : Ent} {Wx : WX} {st : Stmt} {sts : List Stmt} {m m' : C} {ms mi : M (List D)} {e a b : Expr} {me ma mb : M D} {mo : M (List D)} {mt : M Bool} {pos : Pos} {i : Nat} {x : Str} {es : List Expr}
/-! ### loops -/
def cforGo (G : D → Sl → Pst → Option (Sl × Pst)) (body : C) : List D → C
  | [] => cskip
  | d :: ds => fun ρ p => match G d ρ p with
    | none => .stuck
    | some (ρ1, p1) => (match body ρ1 p1 with
      | .nx ρ' p' => cforGo G body ds ρ' p'
      | .ct ρ' p' => cforGo G body ds ρ' p'
      | .bk ρ' p' => .nx ρ' p'
      | r => r)
def cfor (mi : M (List D)) (G : D → Sl → Pst → Option (Sl × Pst)) (body : C) : C := eout mi fun items => cforGo G body items
theorem cs_for {iter tg : Expr} {body : List Stmt} {g : TG} {G : D → Sl → Pst → Option (Sl × Pst)} {cb : C} (hp : PassesOwn (model X.prog X.w) X.A X.env X.xe) (hc : X.calm = true) (hi : PMi X Wx tg iter mi) (hg : PG X tg g) (hG : TgOk X.K X.mg En Wx g G) (hb : PMss X En Wx body cb)
    (hs : ∀ x, foldedSetIterable iter X.env x = pure x := by intro _; rfl) : PMs X En Wx (.For tg iter body [] pos) (cfor mi G cb) := ⟨(ps_for hp hc hi.pi hg hb.ps hs).imp fun Dn σ H ⟨F, pa, p, ρ, s, o⟩ => by
  refine ⟨F, pa, p, ρ, s.gs, s.sr, (o.expr s).mono fun items p1 F1 H1 pa1 gr1 gs1 ⟨s1, o1⟩ J hJ hz => ?_⟩
  refine ⟨fun i m σ' H' => m = items.length - i ∧ i ≤ items.length ∧ ∃ F' pa' p' ρ', Fz F1 p1.g pa1 F' p'.g pa' ∧ SS X.K En F' H' pa' p' σ' ρ' ∧ SOut X.K X.mg En Wx F' p'.g pa' Dn (cforGo G cb (items.drop i) ρ' p'), ⟨_, rfl, Nat.zero_le _, F1, pa1, p1, ρ, .refl, s1, by simpa using o1⟩, ?_⟩
  rintro i m σ2 H2 ⟨rfl, hi, F2, pa2, p2, ρ2, fz2, s2, o2⟩
  obtain ⟨hst, hgo⟩ := hJ i F2 H2 pa2 p2 fz2 s2.gs
  by_cases hlt : i < items.length
  · obtain ⟨hg1, hy⟩ := hgo items[i] (by simp [hlt])
    rw [List.drop_eq_getElem_cons hlt] at o2
    simp only [cforGo] at o2
    cases q : G items[i] ρ2 p2 with
    | none => rw [q] at o2; exact o2.elim
    | some w =>
      obtain ⟨ρ3, p3⟩ := w
      rw [q] at o2
      simp only at o2
      refine .inr ⟨hg1, fun σ' H' => (i + 1 ≤ items.length ∧ ∃ F' pa' p' ρ', Fz F1 p1.g pa1 F' p'.g pa' ∧ SS X.K En F' H' pa' p' σ' ρ' ∧ SOut X.K X.mg En Wx F' p'.g pa' Dn (cforGo G cb (items.drop (i + 1)) ρ' p')), fun σ' H' ⟨h1, h2⟩ => ⟨_, by omega, rfl, h1, h2⟩, fun x H' yl => ?_⟩
      obtain ⟨F', gr', gs', rx⟩ := hy x H' yl
      have s' := s2.grow gr' gs'
      refine hG F' H' pa2 p2 x _ σ2 ρ2 ρ3 p3 _ s' rx q fun σ4 F4 H4 pa4 fz4 s4 => ?_
      refine ⟨F4, pa4, p3, ρ3, s4, ?_⟩
      have fzA : Fz F1 p1.g pa1 F4 p3.g pa4 := (fz2.trans gr'.fz).trans fz4
      have o4 := o2.later (gr'.fz.trans fz4)
      cases q5 : cb ρ3 p3 with
      | nx ρ5 p5 =>
        rw [q5] at o4
        exact fun σ5 F5 H5 pa5 fz5 s5 => ⟨hlt, F5, pa5, p5, ρ5, fzA.trans fz5, s5, o4.later fz5⟩
      | ct ρ5 p5 =>
        rw [q5] at o4
        exact fun σ5 F5 H5 pa5 fz5 s5 => ⟨hlt, F5, pa5, p5, ρ5, fzA.trans fz5, s5, o4.later fz5⟩
      | bk ρ5 p5 =>
        rw [q5] at o4
        exact fun σ5 F5 H5 pa5 fz5 s5 => o4 σ5 F5 H5 pa5 fz5 s5
      | rt d fr p5 => rw [q5] at o4; exact o4
      | exc y ρ5 p5 => rw [q5] at o4; exact o4
      | stuck => rw [q5] at o4; exact o4.elim
  · have hi2 : items.length ≤ i := by omega
    rw [List.drop_eq_nil_of_le hi2] at o2
    exact .inl ⟨hst hi2, o2 σ2 F2 H2 pa2 .refl s2⟩⟩
def cwhile (mt : M Bool) (body : C) : Nat → C
  | 0 => cstuck
  | n + 1 => eout mt fun k => if k = true then (fun ρ p => match body ρ p with
    | .nx ρ' p' => cwhile mt body n ρ' p'
    | .ct ρ' p' => cwhile mt body n ρ' p'
    | .bk ρ' p' => .nx ρ' p'
    | r => r) else cskip
theorem cs_while {c : Expr} {body : List Stmt} {cb : C} (n : Nat) (hp : PassesOwn (model X.prog X.w) X.A X.env X.xe) (hc : PMt X Wx c mt) (hb : PMss X En Wx body cb) : PMs X En Wx (.While c body [] pos) (cwhile mt cb n) := ⟨(ps_while hp hc.pt hb.ps).imp fun Dn σ H ⟨F, pa, p, ρ, s, o⟩ => by
  refine ⟨fun m σ' H' => ∃ F' pa' p' ρ', SS X.K En F' H' pa' p' σ' ρ' ∧ SOut X.K X.mg En Wx F' p'.g pa' Dn (cwhile mt cb m ρ' p'), ⟨n, F, pa, p, ρ, s, o⟩, ?_⟩
  rintro m σ1 H1 ⟨F1, pa1, p1, ρ1, s1, o1⟩
  cases m with
  | zero => exact o1.elim
  | succ m =>
    refine ⟨F1, pa1, p1, ρ1, s1.gs, s1.sr, (o1.expr s1).mono fun k p2 F2 H2 pa2 gr2 gs2 ⟨s2, o2⟩ => ?_⟩
    cases k with
    | false =>
      simp only [Bool.false_eq_true, if_false] at o2 ⊢
      exact o2 σ1 F2 H2 pa2 .refl s2
    | true =>
      simp only [if_true] at o2 ⊢
      refine ⟨fun σ' H' => ∃ F' pa' p' ρ', SS X.K En F' H' pa' p' σ' ρ' ∧ SOut X.K X.mg En Wx F' p'.g pa' Dn (cwhile mt cb m ρ' p'), fun σ' H' h => ⟨m, Nat.lt_succ_self m, h⟩, F2, pa2, p2, ρ1, s2, ?_⟩
      cases q5 : cb ρ1 p2 with
      | nx ρ5 p5 =>
        rw [q5] at o2
        exact fun σ5 F5 H5 pa5 fz5 s5 => ⟨F5, pa5, p5, ρ5, s5, o2.later fz5⟩
      | ct ρ5 p5 =>
        rw [q5] at o2
        exact fun σ5 F5 H5 pa5 fz5 s5 => ⟨F5, pa5, p5, ρ5, s5, o2.later fz5⟩
      | bk ρ5 p5 =>
        rw [q5] at o2
        exact fun σ5 F5 H5 pa5 fz5 s5 => o2 σ5 F5 H5 pa5 fz5 s5
      | rt d fr p5 => rw [q5] at o2; exact o2
      | exc y ρ5 p5 => rw [q5] at o2; exact o2
      | stuck => rw [q5] at o2; exact o2.elim⟩

/-! ### own lists are read -/
def mIxO (i : Nat) (mb : M D) : M D := fun ρ p => match ρ[i]? with
  | some (some (.own xs)) => mbind mb (fun y => mopt (match y with
    | .int k => atI xs k
    | _ => none)) ρ p
  | _ => .stuck
theorem pm_ixo (ha : PE X (.Name x pos) (tVar i)) (hb : PM X Wx b mb) {pos'} (hs : PlainIx b := by exact fun _ _ => rfl) : PM X Wx (.Subscript (.Name x pos) b pos') (mIxO i mb) := ⟨(pe_ix ix_seq ha hb.pe hs).imp fun σ H Q ⟨F, pa, p, ρ, gs, s, o⟩ => by
  unfold mIxO at o
  split at o <;> first | exact o.elim | skip
  rename_i xs q
  obtain ⟨v, e1, a, vs, rfl, h2, h3, h4, h5, h6⟩ := s.rep i _ q
  refine ⟨_, e1, TM.of gs s (o.bind.mono fun y p1 F1 H1 pa1 gr1 gs1 o1 s1 v1 r1 => ?_)⟩
  obtain ⟨z, ez, o2⟩ := o1.opt
  split at ez <;> first | (cases ez; done) | skip
  cases r1
  have h6' := h6.mono gr1.fz
  obtain ⟨v2, e2, r2⟩ := atI_rep h6' ez
  exact .inl ⟨a, vs, _, v2, rfl, rfl, SqL.of (gr1.keep _ _ h2 h4), e2, o2.ret gs1 _ r2⟩⟩
/-- the own lists stand as values, for a while -/
def thaw (ρ : Sl) : Sl := ρ.map fun o => o.map fun w => match w with
  | .own xs => .val (.lst xs)
  | .val d => .val d
theorem thaw_get {ρ : Sl} {i : Nat} {w : W} (h : (thaw ρ)[i]? = some (some w)) : ∃ w0, ρ[i]? = some (some w0) ∧ ((∃ xs, w0 = .own xs ∧ w = .val (.lst xs)) ∨ ∃ d, w0 = .val d ∧ w = .val d) := by
  unfold thaw at h
  rw [List.getElem?_map] at h
  cases q : ρ[i]? with
  | none => rw [q] at h; cases h
  | some o =>
    rw [q] at h
    cases o with
    | none => cases h
    | some w0 =>
      refine ⟨w0, rfl, ?_⟩
      cases w0 with
      | own xs => simp at h; exact .inl ⟨xs, rfl, h.symm⟩
      | val d => simp at h; exact .inr ⟨d, rfl, h.symm⟩
open Classical in
theorem thaw_state {K : PySem.W.Frag} {F H : Hp} {pa : Option Addr} {p : Pst} {σ : L2.St} {ρ : Sl} (gs : GS F H pa p) (s : SRel K F H p.g pa σ ρ) : ∃ F', Fz F p.g pa F' p.g pa ∧ GS F' H pa p ∧ SRel K F' H p.g pa σ (thaw ρ) := by
  let own : Addr → Prop := fun a => ∃ (i : Nat) (xs : List D), ρ[i]? = some (some (W.own xs)) ∧ σ[i]? = some (some (V.ref a))
  have hown : ∀ a, own a → F a = none ∧ pa ≠ some a ∧ ∃ o, H a = some o := fun a ⟨i, xs, h1, h2⟩ => by
    obtain ⟨v, e1, b, vs, rfl, z2, z3, z4, _⟩ := s.rep i _ h1
    rw [h2] at e1
    cases e1
    exact ⟨z3, z4, _, z2⟩
  have fz : Fz F p.g pa (fun a => if own a then H a else F a) p.g pa := ⟨fun a o h => by
    by_cases c : own a
    · rw [(hown a c).1] at h; cases h
    · simp only [c, if_false]; exact h, Nat.le_refl _, fun _ => rfl⟩
  refine ⟨_, fz, ⟨fun a o h => ?_, fun a h => ⟨(gs.pot a h).1, ?_⟩⟩, ⟨by rw [thaw, List.length_map]; exact s.len, fun i w h => ?_, fun i j xs ys v h1 => ?_⟩⟩
  · by_cases c : own a
    · simp only [c, if_true] at h; exact h
    · simp only [c, if_false] at h; exact gs.sub a o h
  · by_cases c : own a
    · exact absurd h (hown a c).2.1
    · simp only [c, if_false]; exact (gs.pot a h).2
  · obtain ⟨w0, h0, h⟩ := thaw_get h
    obtain ⟨v, e1, r⟩ := s.rep i _ h0
    refine ⟨v, e1, ?_⟩
    rcases h with ⟨xs, rfl, rfl⟩ | ⟨d, rfl, rfl⟩
    · obtain ⟨a, vs, rfl, h2, h3, h4, h5, h6⟩ := r
      have c : own a := ⟨i, xs, h0, e1⟩
      exact Rep.lst' (by simp only [c, if_true]; exact h2) h5 (h6.mono fz)
    · exact Rep.mono r fz
  · obtain ⟨w0, h0, h⟩ := thaw_get h1
    rcases h with ⟨_, _, z⟩ | ⟨_, _, z⟩ <;> cases z
def scal : D → Bool
  | .non | .bl _ | .int _ | .str _ => true
  | _ => false
theorem scal_rep {K : PySem.W.Frag} {F F' : Hp} {g g' : Nat} {pa pa' : Option Addr} {v : V} {d : D} (h : scal d = true) (r : Rep K F g pa v d) : Rep K F' g' pa' v d := by
  cases r <;> first | (cases h; done) | constructor
def mscal (m : M D) : M D := fun ρ p => match m (thaw ρ) p with
  | .ok d p' => if scal d = true then .ok d p' else .stuck
  | _ => .stuck
def mscalt (m : M Bool) : M Bool := fun ρ p => match m (thaw ρ) p with
  | .ok d p' => .ok d p'
  | _ => .stuck
theorem thaw_back {F F1 H F' H' : Hp} {g : Nat} {pa pa' : Option Addr} {p' : Pst} (fz : Fz F g pa F1 g pa) (gr : Gr F1 H g pa F' H' p'.g pa') (gs : GS F' H' pa' p') : Gr F H g pa F H' p'.g pa' ∧ GS F H' pa' p' :=
  ⟨⟨⟨fun _ _ h => h, gr.fz.gle, gr.fz.same⟩, fun a o h => .inl h, gr.keep, gr.there, gr.pot⟩, ⟨fun a o h => gs.sub a o (gr.fz.sub a o (fz.sub a o h)), fun a h => ⟨(gs.pot a h).1, by
    cases q : F a with
    | none => rfl
    | some o =>
      have z := (gs.pot a h).2
      rw [gr.fz.sub a o (fz.sub a o q)] at z
      cases z⟩⟩⟩
theorem pm_scal (h : PM X Wx e me) : PM X Wx e (mscal me) := ⟨h.pe.imp fun σ H Q ⟨F, pa, p, ρ, gs, s, o⟩ => by
  obtain ⟨F1, fz, gs1, s1⟩ := thaw_state gs s
  refine ⟨F1, pa, p, thaw ρ, gs1, s1, ?_⟩
  unfold mscal at o
  cases q : me (thaw ρ) p with
  | stuck => rw [q] at o; exact o
  | exc y p' => rw [q] at o; exact o.elim
  | ok d p' =>
    rw [q] at o
    simp only at o
    by_cases hd : scal d = true
    · rw [if_pos hd] at o
      intro F' H' pa' gr gs' v r
      obtain ⟨gr2, gs2⟩ := thaw_back fz gr gs'
      exact o F H' pa' gr2 gs2 v (scal_rep hd r)
    · rw [if_neg hd] at o; exact o.elim⟩
theorem pmt_scal (h : PMt X Wx e mt) : PMt X Wx e (mscalt mt) := ⟨h.pt.imp fun σ H Q ⟨F, pa, p, ρ, gs, s, o⟩ => by
  obtain ⟨F1, fz, gs1, s1⟩ := thaw_state gs s
  refine ⟨F1, pa, p, thaw ρ, gs1, s1, ?_⟩
  unfold mscalt at o
  cases q : mt (thaw ρ) p with
  | stuck => rw [q] at o; exact o
  | exc y p' => rw [q] at o; exact o.elim
  | ok d p' =>
    rw [q] at o
    intro F' H' pa' gr gs'
    obtain ⟨gr2, gs2⟩ := thaw_back fz gr gs'
    exact o F H' pa' gr2 gs2⟩

/-! ### several stores at once -/
def WF (K : PySem.W.Frag) (F H0 H : Hp) (g : Nat) (pa : Option Addr) (v : V) : W → Prop
  | .val d => Rep K F g pa v d
  | .own xs => ∃ a vs, v = .ref a ∧ H0 a = none ∧ H a = some (.lst vs) ∧ F a = none ∧ pa ≠ some a ∧ xs.length ≤ sizeLine ∧ Reps K F g pa vs xs
structure WReps (K : PySem.W.Frag) (F H0 H : Hp) (g : Nat) (pa : Option Addr) (vs : List V) (ws : List W) : Prop where
  rep : AllR (WF K F H0 H g pa) vs ws
  ne : ∀ (i j : Nat) xs ys v, ws[i]? = some (.own xs) → ws[j]? = some (.own ys) → vs[i]? = some v → vs[j]? = some v → i = j
def TMu (K : PySem.W.Frag) (mg : Str → Option Value) (Wx : WX) (m : M (List W)) : TA := fun σ H Q => At K mg Wx m σ H fun _ _ ws p' F' H' pa' => ∀ vs, WReps K F' H H' p'.g pa' vs ws → Q vs H'
structure PMu (X : Cx) (Wx : WX) (es : List Expr) (m : M (List W)) : Prop where
  pa : PA X es (TMu X.K X.mg Wx m)
theorem pmu_nil : PMu X Wx [] (mret []) := ⟨pa_nil.imp fun σ H Q ⟨F, pa, p, ρ, gs, s, o⟩ => o.ret gs _ ⟨.nil, fun i j xs ys v h => by cases h⟩⟩
def muV (ma : M D) (ms : M (List W)) : M (List W) := mbind ma fun d => mbind ms fun ws => mret (.val d :: ws)
def muO (ma : M (List D)) (ms : M (List W)) : M (List W) := mbind ma fun d => mbind ms fun ws => mret (.own d :: ws)
theorem WF.older {K : PySem.W.Frag} {F H0 H1 H : Hp} {g : Nat} {pa : Option Addr} {v : V} {w : W} (h : WF K F H1 H g pa v w) (t : ∀ a, H1 a = none → H0 a = none) : WF K F H0 H g pa v w := by
  cases w with
  | val d => exact h
  | own xs =>
    obtain ⟨a, vs, e, h0, r⟩ := h
    exact ⟨a, vs, e, t a h0, r⟩
theorem pmu_val {mu : M (List W)} (ha : PM X Wx e ma) (hr : PMu X Wx es mu) (hs : starEach (e :: es) X.env = (false, eval e X.env) :: starEach es X.env := by rfl) : PMu X Wx (e :: es) (muV ma mu) := ⟨(pa_cons ha.pe hr.pa hs).imp fun σ H Q ⟨F, pa, p, ρ, gs, s, o⟩ => by
  refine TM.of gs s (o.bind.mono fun d p1 F1 H1 pa1 gr1 gs1 o1 s1 v1 r1 => ?_)
  refine ⟨F1, pa1, p1, ρ, gs1, s1, o1.bind.mono fun ws p2 F2 H2 pa2 gr2 gs2 o2 vs rs => ?_⟩
  refine o2.ret gs2 _ ⟨.cons (show WF _ _ _ _ _ _ _ (.val d) from r1.mono gr2.fz) (rs.rep.mono fun v w h => h.older fun a z => gr1.free0 z), fun i j xs ys v h1 h2 h3 h4 => ?_⟩
  cases i with
  | zero => simp at h1
  | succ i =>
    cases j with
    | zero => simp at h2
    | succ j => simp at h1 h2 h3 h4; rw [rs.ne i j xs ys v h1 h2 h3 h4]⟩
theorem pmu_own {mu : M (List W)} (ha : PMo X Wx e mo) (hr : PMu X Wx es mu) (hs : starEach (e :: es) X.env = (false, eval e X.env) :: starEach es X.env := by rfl) : PMu X Wx (e :: es) (muO mo mu) := ⟨(pa_cons ha.pe hr.pa hs).imp fun σ H Q ⟨F, pa, p, ρ, gs, s, o⟩ => by
  refine ⟨F, pa, p, ρ, gs, s, o.bind.mono fun ds p1 F1 H1 pa1 gr1 gs1 o1 a vs0 h1 h2 h3 h4 h5 h6 => ?_⟩
  refine ⟨F1, pa1, p1, ρ, gs1, s.grow gr1, o1.bind.mono fun ws p2 F2 H2 pa2 gr2 gs2 o2 vs rs => ?_⟩
  have hF2 : F2 a = none := by
    cases q : F2 a with
    | none => rfl
    | some u =>
      rcases gr2.new _ _ q with z | z
      · rw [h3] at z; cases z
      · rw [h2] at z; cases z
  have hp2 : pa2 ≠ some a := fun z => by
    rcases gr2.pot with z2 | ⟨b, z2, hb⟩
    · exact h4 (by rw [← z2]; exact z)
    · rw [z2] at z; cases z; rw [h2] at hb; cases hb
  have later : ∀ (j : Nat) ys, ws[j]? = some (.own ys) → vs[j]? ≠ some (.ref a) := fun j ys q z => by
    obtain ⟨b, _, e, hb, _⟩ := rs.rep.2 j _ _ z q
    cases e
    rw [h2] at hb; cases hb
  refine o2.ret gs2 _ ⟨.cons (show WF _ _ _ _ _ _ _ (.own ds) from ⟨a, vs0, rfl, h1, gr2.keep _ _ h2 h4, hF2, hp2, h5, h6.mono gr2.fz⟩) (rs.rep.mono fun v w h => h.older fun a z => gr1.free0 z), fun i j xs ys v q1 q2 q3 q4 => ?_⟩
  cases i with
  | zero =>
    cases j with
    | zero => rfl
    | succ j => simp at q1 q2 q3 q4; subst q3; exact absurd q4 (later j ys q2)
  | succ i =>
    cases j with
    | zero => simp at q1 q2 q3 q4; subst q4; exact absurd q3 (later i xs q1)
    | succ j => simp at q1 q2 q3 q4; rw [rs.ne i j xs ys v q1 q2 q3 q4]⟩
def setsS : List Nat → List W → Sl → Sl
  | i :: is, w :: ws, ρ => setsS is ws (ρ.set i (some w))
  | _, _, ρ => ρ
def setsV : List Nat → List V → L2.St → L2.St
  | i :: is, v :: vs, σ => setsV is vs (σ.set i (some v))
  | _, _, σ => σ
def WFr (K : PySem.W.Frag) (En : Ent) (F H : Hp) (g : Nat) (pa : Option Addr) (v : V) : W → Prop
  | .val d => Rep K F g pa v d
  | .own xs => ∃ a vs, v = .ref a ∧ En.H a = none ∧ H a = some (.lst vs) ∧ F a = none ∧ pa ≠ some a ∧ xs.length ≤ sizeLine ∧ Reps K F g pa vs xs
theorem SS.sets {K : PySem.W.Frag} {F H : Hp} {pa : Option Addr} {p : Pst} : ∀ (is : List Nat) (vs : List V) (ws : List W) (σ : L2.St) (ρ : Sl), SS K En F H pa p σ ρ → AllR (WFr K En F H p.g pa) vs ws →
    (∀ (i j : Nat) xs ys v, ws[i]? = some (.own xs) → ws[j]? = some (.own ys) → vs[i]? = some v → vs[j]? = some v → i = j) →
    (∀ (k j : Nat) xs ys v, ws[k]? = some (.own xs) → vs[k]? = some v → ρ[j]? = some (some (.own ys)) → σ[j]? ≠ some (some v)) → SS K En F H pa p (setsV is vs σ) (setsS is ws ρ) := by
  intro is
  induction is with
  | nil => intro vs ws σ ρ s _ _ _; cases vs <;> cases ws <;> exact s
  | cons i is ih =>
    intro vs ws σ ρ s r hne hfr
    rcases r.cases with ⟨rfl, rfl⟩ | ⟨v, w, vs', ws', rfl, rfl, r1, r2⟩
    · exact s
    · simp only [setsV, setsS]
      have hne' : ∀ (a b : Nat) xs ys u, ws'[a]? = some (.own xs) → ws'[b]? = some (.own ys) → vs'[a]? = some u → vs'[b]? = some u → a = b := fun a b xs ys u h1 h2 h3 h4 => by
        have := hne (a + 1) (b + 1) xs ys u (by simpa using h1) (by simpa using h2) (by simpa using h3) (by simpa using h4)
        omega
      have hfr' : ∀ (k j : Nat) xs ys u, ws'[k]? = some (.own xs) → vs'[k]? = some u → (ρ.set i (some w))[j]? = some (some (.own ys)) → (σ.set i (some v))[j]? ≠ some (some u) := fun k j xs ys u h1 h2 h3 h4 => by
        rw [List.getElem?_set] at h3 h4
        by_cases e : i = j
        · rw [if_pos e] at h3 h4
          split at h3
          · split at h4
            · cases h3; cases h4
              have := hne 0 (k + 1) ys xs v rfl (by simpa using h1) rfl (by simpa using h2)
              omega
            · cases h4
          · cases h3
        · rw [if_neg e] at h3 h4
          exact hfr (k + 1) j xs ys u (by simpa using h1) (by simpa using h2) h3 h4
      refine ih vs' ws' _ _ ?_ r2 hne' hfr'
      cases w with
      | val d => exact s.set r1 i
      | own xs =>
        obtain ⟨a, us, rfl, h1, h2, h3, h4, h5, h6⟩ := r1
        exact s.setO (H0 := H) i h1 (fun j ys q => hfr 0 j xs ys _ rfl rfl q) h2 h3 h4 h5 h6
def casgW (is : List Nat) (mu : M (List W)) : C := eout mu fun ws ρ p => if ws.length = is.length then .nx (setsS is ws ρ) p else .stuck
theorem tmu_s {K : PySem.W.Frag} {mg : Str → Option Value} {F H : Hp} {pa : Option Addr} {p : Pst} {σ : L2.St} {ρ : Sl} {Dn : Ends} {is : List Nat} {mu : M (List W)} {Q : List V → Hp → Prop} (s : SS K En F H pa p σ ρ) (o : SOut K mg En Wx F p.g pa Dn (casgW is mu ρ p))
    (h : ∀ vs ws p' F' H' pa', SS K En F' H' pa' p' σ ρ → Fz F p.g pa F' p'.g pa' → vs.length = is.length → SS K En F' H' pa' p' (setsV is vs σ) (setsS is ws ρ) → SOut K mg En Wx F' p'.g pa' Dn (.nx (setsS is ws ρ) p') → Q vs H') : TMu K mg Wx mu σ H Q :=
  ⟨F, pa, p, ρ, s.gs, s.sr, (o.expr s).mono fun ws p' F' H' pa' gr gs ⟨s', o'⟩ vs r => by
    by_cases hc : ws.length = is.length
    · rw [if_pos hc] at o'
      refine h vs ws p' F' H' pa' s' gr.fz (by rw [r.rep.1]; exact hc) (SS.sets is vs ws σ ρ s' (r.rep.mono fun v w q => ?_) r.ne fun k j xs ys v h1 h2 h3 h4 => ?_) o'
      · cases w with
        | val d => exact q
        | own xs =>
          obtain ⟨a, us, rfl, z1, z⟩ := q
          exact ⟨a, us, rfl, s.gr.enter z1, z⟩
      · obtain ⟨a, us, rfl, z1, z⟩ := r.rep.2 k _ _ h2 h1
        exact fresh_ne s z1 j ys h3 h4
    · rw [if_neg hc] at o'; exact o'.elim⟩
theorem cs_par {i j : Nat} {mu : M (List W)} (h : PS X st (tPar i j (TMu X.K X.mg Wx mu))) : PMs X En Wx st (casgW [i, j] mu) := ⟨h.imp fun Dn σ H ⟨F, pa, p, ρ, s, o⟩ => tmu_s s o fun vs ws p' F' H' pa' s' fz hl s2 o2 => by
  match vs, hl with
  | [v, w], _ => exact ⟨v, w, rfl, o2 _ F' H' pa' .refl s2⟩⟩
theorem cs_par3 {i j l : Nat} {mu : M (List W)} (h : PS X st (tPar3 i j l (TMu X.K X.mg Wx mu))) : PMs X En Wx st (casgW [i, j, l] mu) := ⟨h.imp fun Dn σ H ⟨F, pa, p, ρ, s, o⟩ => tmu_s s o fun vs ws p' F' H' pa' s' fz hl s2 o2 => by
  match vs, hl with
  | [v, w, u], _ => exact ⟨v, w, u, rfl, o2 _ F' H' pa' .refl s2⟩⟩
def gNs : List Nat → TGs
  | [] => gNil
  | i :: is => gCons (gName i) (gNs is)
theorem gNs_of : ∀ (is : List Nat) (vs : List V) (σ : L2.St) (H : Hp) (Q : L2.St → Hp → Prop), vs.length = is.length → Q (setsV is vs σ) H → gNs is vs σ H Q
  | [], [], σ, H, Q, _, h => ⟨rfl, h⟩
  | i :: is, v :: vs, σ, H, Q, hl, h => ⟨v, vs, rfl, gNs_of is vs _ H Q (by simpa using hl) h⟩
theorem cs_parT {is : List Nat} {n : Nat} {mu : M (List W)} (hn : is.length = n) (hz : n ≤ 4096) (h : PS X st (tAsg (tTup (TMu X.K X.mg Wx mu)) (gTup X.K n (gNs is)))) : PMs X En Wx st (casgW is mu) := ⟨h.imp fun Dn σ H ⟨F, pa, p, ρ, s, o⟩ => tmu_s s o fun vs ws p' F' H' pa' s' fz hl s2 o2 => by
  refine ⟨by rw [hl, hn]; exact lim_size hz, fun q hq => ⟨q, vs, rfl, SqT.of upd_same, by rw [hl, hn], gNs_of is vs σ _ _ hl ?_⟩⟩
  exact o2 _ F' _ pa' .refl (s2.grow (Gr.allocO hq) (s2.gs.allocO hq))⟩
end
end PF

namespace PF
open PySem PySem.Spec PyProof.Rows L2

section
variable {X : Cx} {En : Ent} {Wx : WX} {st : Stmt} {sts : List Stmt} {m m' : C} {ms mi : M (List D)} {e a b c : Expr} {me ma mb : M D} {mo mo' : M (List D)} {mt : M Bool} {pos : Pos} {i : Nat} {x : Str} {es : List Expr}
/-! ### fresh lists by operators -/
def OpSo (X : Cx) (r : R2) (op : D → D → Option (List D)) : Prop := ∀ (x y : V) (d e : D) (z : List D) (F H : Hp) (p : Pst) (pa : Option Addr) (Q : VK), GS F H pa p → Rep X.K F p.g pa x d → Rep X.K F p.g pa y e → op d e = some z →
  (∀ q vs, H q = none → z.length ≤ sizeLine → Reps X.K F p.g pa vs z → Q (.ref q) (upd H q (.lst vs))) → r x y H Q
def mOpo (op : D → D → Option (List D)) (ma mb : M D) : M (List D) := mbind ma fun x => mbind mb fun y => mopt (op x y)
theorem pmo_op {op : Operator} {r : R2} {f : D → D → Option (List D)} (ho : OpR X (binaryOp op) r) (hs : OpSo X r f) (ha : PM X Wx a ma) (hb : PM X Wx b mb) : PMo X Wx (.BinOp a op b pos) (mOpo f ma mb) := ⟨(pe_op ho ha.pe hb.pe).imp fun σ H Q ⟨F, pa, p, ρ, gs, s, o⟩ => by
  refine TM.of gs s ((Out.bindS .refl o).mono fun d p1 F1 H1 pa1 gr1' gs1 ⟨gr1, o1⟩ s1 v1 r1 => ?_)
  refine TM.of gs1 s1 ((Out.bindS gr1 o1).mono fun y p2 F2 H2 pa2 gr2' gs2 ⟨gr2, o2⟩ s2 v2 r2 => ?_)
  obtain ⟨z, ez, o3⟩ := o2.opt
  refine hs v1 v2 d y z F2 H2 p2 pa2 Q gs2 (r1.mono gr2'.fz) r2 ez fun q vs hq hz rs => ?_
  exact o3 F2 _ pa2 (gr2.trans (Gr.allocO hq)) (gs2.allocO hq) q vs (gr2.free0 hq) upd_same (gs2.fnone hq) (gs2.pne hq) hz rs⟩
def dAddO : D → D → Option (List D)
  | .lst xs, .lst ys => if xs.length + ys.length ≤ sizeLine then some (xs ++ ys) else none
  | _, _ => none
theorem opso_cat : OpSo X rCat dAddO := by
  intro x y d e z F H p pa Q gs rx ry ez k
  cases d <;> cases e <;> first | (simp [dAddO] at ez; done) | skip
  simp only [dAddO] at ez
  split at ez
  · rename_i hc
    simp only [Option.some.injEq] at ez
    subst ez
    obtain ⟨l, xs, rfl, hl, hz1, r1⟩ := rx.lstH gs
    obtain ⟨m, ys, rfl, hm, hz2, r2⟩ := ry.lstH gs
    refine ⟨l, m, xs, ys, rfl, rfl, hl, hm, by rw [r1.1, r2.1]; exact hc, fun q hq => ?_⟩
    exact k _ _ hq (by rw [List.length_append]; exact hc) (AllR.append r1 r2)
  · cases ez
theorem pmo_add (ha : PM X Wx a ma) (hb : PM X Wx b mb) : PMo X Wx (.BinOp a .Add b pos) (mOpo dAddO ma mb) := pmo_op op_cat opso_cat ha hb
def dRepO : D → D → Option (List D)
  | .lst xs, .int k => if -(2 ^ 63) ≤ k ∧ k < 2 ^ 63 ∧ xs.length * k.toNat ≤ sizeLine then some (List.replicate k.toNat xs).flatten else none
  | _, _ => none
theorem opso_rep : OpSo X rRep dRepO := by
  intro x y d e z F H p pa Q gs rx ry ez k
  cases d <;> cases e <;> first | (simp [dRepO] at ez; done) | skip
  simp only [dRepO] at ez
  split at ez
  · rename_i hc
    simp only [Option.some.injEq] at ez
    subst ez
    cases ry
    obtain ⟨l, xs, rfl, hl, hz1, r1⟩ := rx.lstH gs
    refine ⟨l, _, xs, rfl, rfl, hl, hc.1, hc.2.1, by rw [r1.1]; exact hc.2.2, fun q hq => ?_⟩
    exact k _ _ hq (by simpa [Nat.mul_comm] using hc.2.2) (AllR.rep r1 _)
  · cases ez
theorem pmo_mul (ha : PM X Wx a ma) (hb : PM X Wx b mb) : PMo X Wx (.BinOp a .Mult b pos) (mOpo dRepO ma mb) := pmo_op op_rep opso_rep ha hb
theorem pmo_if (hc : PMt X Wx c mt) (ha : PMo X Wx a mo) (hb : PMo X Wx b mo') : PMo X Wx (.IfExp c a b pos) (mIf mt mo mo') := ⟨(pe_ifExp hc.pt ha.pe hb.pe).imp fun σ H Q ⟨F, pa, p, ρ, gs, s, o⟩ => by
  refine ⟨F, pa, p, ρ, gs, s, o.bind.mono fun k p1 F1 H1 pa1 gr1 gs1 o1 => ?_⟩
  cases k with
  | true =>
    simp only [if_true] at o1 ⊢
    refine ⟨F1, pa1, p1, ρ, gs1, s.grow gr1, Out.mono o1 fun ds p2 F2 H2 pa2 gr2 gs2 h a vs h1 => h a vs (gr1.free0 h1)⟩
  | false =>
    simp only [Bool.false_eq_true, if_false] at o1 ⊢
    refine ⟨F1, pa1, p1, ρ, gs1, s.grow gr1, Out.mono o1 fun ds p2 F2 H2 pa2 gr2 gs2 h a vs h1 => h a vs (gr1.free0 h1)⟩⟩

/-! ### the pot is made -/
def cretpot (ms : M (List D)) : C := eout ms fun ds _ p => match ds with
  | [.int a, .int b] => .rt (.pot (p.g + 1)) false ⟨p.g + 1, a, b⟩
  | _ => .stuck
theorem cs_retpot {lp : Pos} (h : PMa X Wx es ms) : PMs X En Wx (.Return (some (.List es lp)) pos) (cretpot ms) := ⟨(ps_ret (pe_lst h.pa)).imp fun Dn σ H ⟨F, pa, p, ρ, s, o⟩ => by
  refine ⟨F, pa, p, ρ, s.gs, s.sr, (o.expr s).mono fun ds p' F' H' pa' gr gs ⟨s', o'⟩ vs rs => ?_⟩
  split at o' <;> first | exact o'.elim | skip
  obtain ⟨v, w, rfl, r1, r2⟩ := reps2 rs
  cases r1; cases r2
  refine ⟨by show 2 ≤ sizeLine; exact two_line, fun q hq => ?_⟩
  have gs2 := s'.gs
  have hF : F' q = none := gs2.fnone hq
  have hz : ∀ a o, F' a = some o → a ≠ q := fun a o h e => by rw [e, hF] at h; cases h
  refine o' _ F' _ (some q) ⟨fun _ _ h => h, Nat.le_succ _, fun z => absurd z (Nat.ne_of_lt (Nat.lt_succ_self _))⟩ ?_ ⟨fun a o h => ?_, fun a h => ?_⟩ (show Rep _ _ _ _ _ _ from .pot (Nat.le_refl _) fun _ => ⟨q, rfl, rfl⟩)
  · have gr0 := s'.gr
    refine Gr.trans gr0 ⟨⟨fun _ _ h => h, Nat.le_succ _, fun z => absurd z (Nat.ne_of_lt (Nat.lt_succ_self _))⟩, fun a o h => .inl h, fun a o h _ => ?_, fun a o h => ?_, .inr ⟨q, rfl, hq⟩⟩
    · rw [upd_ne (ne_of_none h hq)]; exact h
    · exact ⟨o, by rw [upd_ne (ne_of_none h hq)]; exact h⟩
  · rw [upd_ne (hz a o h)]; exact gs2.sub a o h
  · cases h
    exact ⟨upd_same, hF⟩⟩
end

/-! ### the def -/
def sres (r : SRes) : FRes := match r with
  | .nx _ p => .ok .non false p
  | .rt d fr p => .ok d fr p
  | .exc x _ p => .exc x p
  | _ => .stuck
/-- what a def with n slots and k parameters does -/
def fres (n k : Nat) (c : C) : Fn := fun ds p => if ds.length = k then sres (c (ds.map (fun d => some (W.val d)) ++ List.replicate (n - k) none) p) else .stuck
abbrev EX (E : XK) : WX := fun cls d _ H => E cls d H
/-- the body within its context -/
def BodyOk (P : Program) (w : World) (K : PySem.W.Frag) (mg : Str → Option Value) (base : Heap) (k : Nat) (qual : Str) (body : List Stmt) (scope : Scope) (N : List Str) (c : C) : Prop :=
  ∀ (f : Addr) (cdv : Value) (A : Around) (outer : List Env) (s : Shared) (H : Hp) (E : XK) (En : Ent), Room k (A.deeper (envOfC qual scope s.heap.objs.size f cdv)) → (A.deeper (envOfC qual scope s.heap.objs.size f cdv)).guards = some [] →
    PMss (cxOf (L2.CX P w) P w K mg base N qual scope f cdv A outer s H E) En (EX E) body c
theorem srel_start {K : PySem.W.Frag} {F H : Hp} {g : Nat} {pa : Option Addr} {vs : List V} {ds : List D} {N : List Str} {k : Nat} (r : Reps K F g pa vs ds) (hk : ds.length = k) : SRel K F H g pa (L2.start N vs) (ds.map (fun d => some (W.val d)) ++ List.replicate (N.length - k) none) := by
  have hl : vs.length = ds.length := r.1
  unfold L2.start
  have key : ∀ (i : Nat) w, (ds.map (fun d => some (W.val d)) ++ List.replicate (N.length - k) none)[i]? = some (some w) → ∃ d, ds[i]? = some d ∧ w = .val d := fun i w h => by
    by_cases hi : i < ds.length
    · rw [List.getElem?_append_left (by simpa using hi), List.getElem?_map] at h
      cases q : ds[i]? with
      | none => rw [q] at h; cases h
      | some d => rw [q] at h; cases h; exact ⟨d, rfl, rfl⟩
    · rw [List.getElem?_append_right (by simpa using hi), List.getElem?_replicate] at h
      split at h <;> cases h
  refine ⟨by simp [hl, hk], fun i w h => ?_, fun i j xs ys v h => ?_⟩
  · obtain ⟨d, hd, rfl⟩ := key i w h
    obtain ⟨v, hv, rv⟩ := r.get hd
    refine ⟨v, ?_, rv⟩
    rw [List.getElem?_append_left (by have := (List.getElem?_eq_some_iff.mp hv).1; simpa using this), List.getElem?_map, hv]
    rfl
  · obtain ⟨d, hd, e⟩ := key i _ h
    cases e
theorem fnx {P : Program} {w : World} {K : PySem.W.Frag} {mg : Str → Option Value} {base : Heap} {x : Str} {params : Arguments} {body : List Stmt} {scope : Scope} {f : Addr} {fd : FuncData} {N ps : List Str} {k : Nat} {c : C}
    (F : FunD K x x params body scope [] [] f fd) (hm : mg x = some (.ref f)) (S : FnScope N ps scope) (hb : BodyOk P w K mg base k x body scope N c) : FnX P w K mg base x params (k + 1) ps (fres N.length ps.length c) := by
  obtain ⟨oc, od, dV, kV, doc, pm, an, cdv, ct, osl, rfl, lk, hcd, hD, _⟩ := F.ex
  obtain rfl : dV = .none := by
    rcases hD with ⟨_, h⟩ | ⟨h, _⟩
    · exact h
    · exact absurd rfl h
  refine ⟨f, _, hm, F.kp, ⟨body, scope, kV, doc, pm, an, cdv, ct, rfl⟩, ⟨fun ds p h => ?_, fun A outer s H args us vs ds Fz0 pa p Q E hr hgd e0 hbt rv gs rs o => ?_⟩⟩
  · unfold fres at h
    by_cases hc : ds.length = ps.length
    · exact hc
    · rw [if_neg hc] at h; exact absurd rfl h
  · have hc : ds.length = ps.length := by
      by_cases hc : ds.length = ps.length
      · exact hc
      · unfold fres at o; rw [if_neg hc] at o; exact o.elim
    unfold fres at o
    rw [if_pos hc] at o
    refine LamX.run_ofS (N := N) lk hcd S hr e0 hbt rv (by rw [rs.1]; exact hc) fun hr' => ?_
    let En : Ent := ⟨Fz0, H, p.g, pa⟩
    refine ⟨_, (hb f cdv A outer s H E En hr' (by show A.guards = some []; exact hgd)).ps, Fz0, pa, p, _, ⟨.refl, gs, srel_start rs hc, fun i xs v h => ?_⟩, ?_⟩
    · have := (srel_start (H := H) rs hc).rep i _ h
      exfalso
      have key : ∀ (i : Nat) w, (ds.map (fun d => some (W.val d)) ++ List.replicate (N.length - ps.length) none)[i]? = some (some w) → ∃ d, w = .val d := fun i w h => by
        by_cases hi : i < ds.length
        · rw [List.getElem?_append_left (by simpa using hi), List.getElem?_map] at h
          cases q : ds[i]? with
          | none => rw [q] at h; cases h
          | some d => rw [q] at h; cases h; exact ⟨d, rfl⟩
        · rw [List.getElem?_append_right (by simpa using hi), List.getElem?_replicate] at h
          split at h <;> cases h
      obtain ⟨d, e⟩ := key i _ h
      cases e
    · cases q : c (ds.map (fun d => some (W.val d)) ++ List.replicate (N.length - ps.length) none) p with
      | nx ρ' p' =>
        rw [q] at o
        exact fun σ' F' H' pa' fz s' => o .non F' H' pa' s'.gr s'.gs (show Rep _ _ _ _ _ _ from .non)
      | rt d fr p' =>
        rw [q] at o
        exact fun v F' H' pa' fz gr gs' r => o v F' H' pa' gr gs' r
      | exc y ρ' p' =>
        rw [q] at o
        exact fun cls dd σ' F' H' pa' fz s' r => o cls dd F' H' pa' s'.gr s'.gs r
      | bk ρ' p' => rw [q] at o; exact o.elim
      | ct ρ' p' => rw [q] at o; exact o.elim
      | stuck => rw [q] at o; exact o.elim
end PF

namespace PF
open PySem PySem.Spec PyProof.Rows L2

mutual
theorem noDict_pl : ∀ d : D, pl d = true → (toPy d).hasDict = false
  | .non, _ => by simp [toPy, PyData.hasDict]
  | .bl _, _ => by simp [toPy, PyData.hasDict]
  | .int _, _ => by simp [toPy, PyData.hasDict]
  | .str _, _ => by simp [toPy, PyData.hasDict]
  | .lst xs, h => by simp only [toPy, PyData.hasDict]; exact noDict_pls xs (by simpa [pl] using h)
  | .tup xs, h => by simp only [toPy, PyData.hasDict]; exact noDict_pls xs (by simpa [pl] using h)
  | .scr _, h => by simp [pl] at h
  | .pot _, h => by simp [pl] at h
  | .emp, h => by simp [pl] at h
theorem noDict_pls : ∀ ds : List D, pls ds = true → PyData.hasDictAll (toPys ds) = false
  | [], _ => by simp [toPys, PyData.hasDictAll]
  | x :: xs, h => by
    simp only [pls, Bool.and_eq_true] at h
    simp only [toPys, PyData.hasDictAll, Bool.or_eq_false_iff]
    exact ⟨noDict_pl x h.1, noDict_pls xs h.2⟩
end
def okRepr (d : D) : Bool := pl d && (toPy d).showable && decide ((toPy d).shown.length ≤ sizeLine) && decide (dep d ≤ 60)
theorem okRepr_iff {d : D} : okRepr d = true ↔ pl d = true ∧ (toPy d).showable = true ∧ (toPy d).shown.length ≤ sizeLine ∧ dep d ≤ 60 := by
  unfold okRepr
  simp only [Bool.and_eq_true, decide_eq_true_eq, and_assoc]
def rtext (d : D) : Str := (toPy d).shown
def dReprF : List D → Option D
  | [d] => if okRepr d = true then some (.str (rtext d)) else none
  | _ => none
def rReprD (X : Cx) : List V → Hp → VK → Prop := fun xs H Q => ∃ v d, xs = [v] ∧ okRepr d = true ∧ Dp X.K H v (toPy d) ∧ Q (.str (rtext d)) H
section
variable {X : Cx} {Wx : WX} {e : Expr} {m : M D}
theorem call_reprD (hu : Un X) (hg : X.A.guards = some []) : CallR X (.builtin "repr") (rReprD X) := by
  intro pins s σ H xs us Q I r h
  obtain ⟨v, d, rfl, hd, dp, q⟩ := h
  obtain ⟨h1, h2, h3, h4⟩ := okRepr_iff.mp hd
  have hu' : X.A.units + 65 < cLine := hu
  obtain ⟨u, rfl, ru⟩ : ∃ u, us = [u] ∧ L2.RelV v u := by
    cases r with
    | cons r r2 => cases r2; exact ⟨_, rfl, r⟩
  cases d with
  | non =>
    simp only [toPy] at dp
    cases dp
    cases ru
    exact PySem.P.repr_of_none ⟨.str (rtext .non), H, I.tok _, ⟨_, rfl⟩, q⟩
  | bl b =>
    simp only [toPy] at dp
    cases dp
    cases ru
    exact PySem.P.repr_of_bool ⟨.str (rtext (.bl b)), H, I.tok _, ⟨_, by cases b <;> rfl⟩, q⟩
  | int i =>
    simp only [toPy] at dp
    cases dp
    obtain ⟨t, rfl⟩ := ru
    have h5 : i.natAbs.log2 < 1920 := by simpa [toPy, PyData.showable] using h2
    exact PySem.P.repr_of_int h5 ⟨.str (rtext (.int i)), H, I.tok _, ⟨_, rfl⟩, q⟩
  | str x =>
    simp only [toPy] at dp
    cases dp
    obtain ⟨t, rfl⟩ := ru
    exact PySem.P.repr_of_str ⟨.str (rtext (.str x)), H, I.tok _, ⟨_, rfl⟩, q⟩ (by simpa [toPy, PyData.shown] using h3)
  | scr ns => simp [pl] at h1
  | pot k => simp [pl] at h1
  | emp => simp [pl] at h1
  | lst xs =>
    obtain ⟨as, rd⟩ := Dp.reads I _ v u dp ru
    simp only [toPy] at dp
    cases dp
    cases ru
    refine PySem.repr_of_reads' rd h2 (fun z => ?_) hg ?_ (fun _ _ z => z) (fun h' u' tk hk => ⟨.str (rtext _), H, I.kept (h' := h') (t' := tk) hk, ⟨u', rfl⟩, q⟩) h3
    · rw [noDict_pl _ h1] at z; cases z
    · rw [depth_dep _ h1]; omega
  | tup xs =>
    obtain ⟨as, rd⟩ := Dp.reads I _ v u dp ru
    simp only [toPy] at dp
    cases dp
    cases ru
    refine PySem.repr_of_reads' rd h2 (fun z => ?_) hg ?_ (fun _ _ z => z) (fun h' u' tk hk => ⟨.str (rtext _), H, I.kept (h' := h') (t' := tk) hk, ⟨u', rfl⟩, q⟩) h3
    · rw [noDict_pl _ h1] at z; cases z
    · rw [depth_dep _ h1]; omega
theorem calls_repr : CallS X (rReprD X) dReprF := by
  intro xs ds z F H p pa Q gs rs ez k
  unfold dReprF at ez
  split at ez <;> first | (cases ez; done) | skip
  split at ez <;> first | (cases ez; done) | skip
  rename_i d hd
  obtain ⟨v, rfl, r⟩ := reps1 rs
  simp only [Option.some.injEq] at ez
  subst ez
  exact ⟨v, d, rfl, hd, r.dp gs.sub (okRepr_iff.mp hd).1, k _ _ _ .refl gs (.str _)⟩
end
end PF

namespace PF
open PySem PySem.Spec PyProof.Rows L2

/-! ### the law's own call -/
section
variable {P : Program} {w : World} {K : PySem.W.Frag} {mg mb : Str → Option Value} {k : Nat} {fa a : Addr} {s₁ : Shared} {vs : List Value} {ns : List Int} {params : Arguments} {G : Fn} {x y : Str}
/-- at a heap H that tracks the script alone (or nothing) -/
theorem law_at {H : Hp} (hns : s₁.heap.Ns mainGlobals mg) (hb : s₁.heap.Ns builtinsNs mb) (hbb : ∀ x : Str, x ≠ "__name__" → mb x = bootBuiltins x) (hlim : s₁.heap.NoLimit) (hg : s₁.gens = #[])
    (ha : s₁.heap.get? a = some { cls := .type "list", data := .seq vs.toArray }) (KX : K.In s₁.heap) (hr : Room k callerA) (F : ∀ base : Heap, K.In base → base.Ns mainGlobals mg → FnX P w K mg base y params k [x] G) (hmg : mg y = some (.ref fa)) (hbd : Bd y params [x] 1 [] [0])
    (hG : ∃ p', G [.scr ns] ⟨0, 0, 0⟩ = .ok (.bl true) false p') (hS : SqL K H a (ns.map V.int)) (hok : HOk P w H s₁.heap) (only : ∀ b u, H b = some u → b = a ∧ K.lookup a = none ∧ ∃ o xs, u = .frz o (.lst xs)) :
    codeAny (model P w) callerA (.call (.ref fa) ⟨[.ref a], []⟩) (fun r s' => r = .ok (.ret (.bool true)) ∧ OldK s₁.heap s'.heap ∧ s'.os = s₁.os ∧ AllBare s'.gens) s₁ := by
  have free : ∀ {b : Addr} {o : Obj}, s₁.heap.get? b = some o → o ≠ { cls := .type "list", data := .seq vs.toArray } → H b = none := fun {b o} e hne => by
    cases q : H b with
    | none => rfl
    | some u =>
      obtain ⟨rfl, _⟩ := only b u q
      rw [ha] at e
      exact absurd (Option.some.inj e).symm hne
  have ns2 : ∀ {b : Addr} {m : Str → Option Value}, s₁.heap.Ns b m → (hidT s₁.heap H).Ns b m := fun {b m} ⟨o, es, ep, e, d, r⟩ =>
    ⟨o, es, ep, hidT_get e (free e fun z => by rw [z] at d; exact nomatch d), d, r⟩
  have kin : K.In (hidT s₁.heap H) := fun b o e => hidT_get (KX b o e) (by
    cases q : H b with
    | none => rfl
    | some u =>
      obtain ⟨rfl, z, _⟩ := only b u q
      rw [z] at e; exact nomatch e)
  obtain ⟨mc, hc1, hc2⟩ := hlim
  have e0 : Env0 P w K mg (hidT s₁.heap H) callerA [] s₁ H :=
    { frames := rfl, mod := ⟨kin, ns2 hns, ⟨mb, ns2 hb, hbb⟩, ⟨mc, ns2 hc1, hc2⟩⟩, bs := fun b o e => of_hidT e, bsz := Nat.le_of_eq (hidT_size _ _), funs := trivial, frf := fun b hb => (nomatch (show b ∈ ([] : List Addr) from hb)), hok := hok, bare := .of_eq hg }
  obtain ⟨f, fd, hm, hk, ⟨body, scope, kV, doc, pm, an, cdv, ct, rfl⟩, Fm⟩ := (F _ kin (ns2 hns)).ex
  rw [hmg] at hm
  cases hm
  obtain ⟨p', hp⟩ := hG
  have hbt : BindsTo s₁ (PySem.W.fnOf y y params body scope .none kV doc pm an cdv ct) ⟨[.ref a], []⟩ ([x].zip [.ref a]) := .of_eq (hbd _ _ _ _ _ _ _ _ [.ref a] [] rfl rfl)
  refine codeAny_mono (Fm.run callerA [] s₁ H _ [.ref a] [.ref a] [.scr ns] H none ⟨0, 0, 0⟩ (fun v _ => v = .bl true) (fun _ _ _ => False) hr rfl e0 hbt (.cons rfl .nil) ⟨fun _ _ h => h, fun _ h => nomatch h⟩ (.cons (.scr hS) .nil) ?_) fun r s' h => ?_
  · rw [hp]
    intro v F' H' pa' _ _ r
    cases (show Rep _ _ _ _ v (.bl true) from r)
    rfl
  · match r, h with
    | .error e, h =>
      obtain ⟨_, _, _, _, _, _, _, _, _, _, _, _, h⟩ := h
      exact h.elim
    | .ok .next, h => exact False.elim h
    | .ok .brk, h => exact False.elim h
    | .ok .cont, h => exact False.elim h
    | .ok (.ret u), h =>
      obtain ⟨v, H', os, bare, un, hok', r', q⟩ := h
      obtain rfl : v = .bl true := q
      obtain rfl : u = Value.bool true := r'
      refine ⟨rfl, OldK.of_keep fun b o e => ?_, os, bare⟩
      cases q : H b with
      | none => exact un.keep b o e q (fun z => nomatch (show b ∈ ([] : List Addr) from z)) (fun z => nomatch z)
      | some u =>
        obtain ⟨rfl, _, ob, xs, rfl⟩ := only b u q
        obtain ⟨e1, _⟩ := hok _ _ q
        obtain ⟨e2, _⟩ := hok' _ _ (un.frzs _ _ _ q)
        rw [e] at e1
        cases e1
        exact e2
theorem law_run (hns : s₁.heap.Ns mainGlobals mg) (hb : s₁.heap.Ns builtinsNs mb) (hbb : ∀ x : Str, x ≠ "__name__" → mb x = bootBuiltins x) (hlim : s₁.heap.NoLimit) (hg : s₁.gens = #[])
    (ha : s₁.heap.get? a = some { cls := .type "list", data := .seq vs.toArray }) (hi : IntsAre vs ns) (hl : ns.length ≤ sizeLine) (KX : K.In s₁.heap) (hr : Room k callerA) (F : ∀ base : Heap, K.In base → base.Ns mainGlobals mg → FnX P w K mg base y params k [x] G) (hmg : mg y = some (.ref fa)) (hbd : Bd y params [x] 1 [] [0])
    (hG : ∃ p', G [.scr ns] ⟨0, 0, 0⟩ = .ok (.bl true) false p') :
    codeAny (model P w) callerA (.call (.ref fa) ⟨[.ref a], []⟩) (fun r s' => r = .ok (.ret (.bool true)) ∧ OldK s₁.heap s'.heap ∧ s'.os = s₁.os ∧ AllBare s'.gens) s₁ := by
  have rv := vals_ints hi
  cases hk : K.lookup a with
  | some o =>
    have e := KX a o hk
    rw [ha] at e
    cases e
    exact law_at (H := fun _ => none) hns hb hbb hlim hg ha KX hr F hmg hbd hG (.inr ⟨_, vs.toArray, _, hk, rfl, rfl, rfl, by rw [List.size_toArray, hi.length]; exact hl, by simpa using rv⟩) (fun b u z => nomatch z) fun b u z => nomatch z
  | none =>
    refine law_at (H := upd (fun _ => none) a (.frz { cls := .type "list", data := .seq vs.toArray } (.lst (ns.map V.int)))) hns hb hbb hlim hg ha KX hr F hmg hbd hG (.inl (.inr ⟨_, upd_same⟩)) (fun b u z => ?_) fun b u z => ?_
    · by_cases hb : b = a
      · subst hb
        rw [upd_same] at z
        cases z
        exact ⟨ha, by rw [List.length_map]; exact hl, vs, _, rv, ha⟩
      · rw [upd_ne hb] at z; cases z
    · by_cases hb : b = a
      · subst hb
        rw [upd_same] at z
        cases z
        exact ⟨rfl, hk, _, _, rfl⟩
      · rw [upd_ne hb] at z; cases z
end
/-- the goal that the head leaves -/
theorem law_walk {l : PySem.W.OpenLaw} {n k : Nat} {q : Program} {loose : List Str} {XP : (Str → Option Value) → Heap → Prop} {YP : World → Heap → Prop} {d : DefRec} {x : Str} {params : Arguments} {G : Fn}
    (hn : l.most = some n) (hn2 : n ≤ sizeLine) (hdf : d.params.defaults = []) (hr : Room k callerA) (hbd : Bd d.name params [x] 1 [] [0])
    (F : ∀ (w : World) (mg : Str → Option Value) (fa : Addr) (h : Heap), YP w h → h.Ns mainGlobals mg → mg d.name = some (.ref fa) →
      ∃ K : PySem.W.Frag, K.In h ∧ ∀ base : Heap, K.In base → base.Ns mainGlobals mg → FnX l.prog w K mg base d.name params k [x] G)
    (hG : ∀ ns : List Int, ns.length ≤ n → ∃ p', G [.scr ns] ⟨0, 0, 0⟩ = .ok (.bl true) false p') :
    PySem.W.WalkO q loose XP YP l.row.toRowW d [] (fun f vs => PySem.call f vs) := by
  refine Att.attach_call hn hdf fun w s₀ s₁ mg mb fa o pm cd doc a vs ns G' Y ho hd hcd hmg hobj hints hlen hg => ?_
  obtain ⟨K, KX, hF⟩ := F w mg fa _ Y G'.T.g hmg
  exact law_run G'.T.g G'.T.b G'.T.builtins G'.T.nolimit hg hobj hints (Nat.le_trans hlen hn2) KX hr hF hmg hbd (hG ns hlen)
end PF

namespace PF
open PySem PySem.Spec PyProof.Rows L2
section
variable {X : Cx} {En : Ent} {Wx : WX} {e a b c : Expr} {me ma mb m : M D} {ms : M (List D)} {pos p : Pos} {es : List Expr}
theorem b_len (hm : X.mg "len" = none) (ha : PMa X Wx (e :: es) ms) (hg : Gl X "len" := by rfl) (he : starEach (e :: es) X.env = (false, eval e X.env) :: starEach es X.env := by rfl) (hpl : (backTo pos (starEach es X.env)).any (·.1) = false := by rfl) : PM X Wx (.Call (.Name "len" p) (e :: es) [] pos) (mCall dLen ms) := pm_callB call_len calls_len hg hm PySem.boot_len ha (by decide) (by decide) he hpl
theorem b_abs (hm : X.mg "abs" = none) (ha : PMa X Wx (e :: es) ms) (hg : Gl X "abs" := by rfl) (he : starEach (e :: es) X.env = (false, eval e X.env) :: starEach es X.env := by rfl) (hpl : (backTo pos (starEach es X.env)).any (·.1) = false := by rfl) : PM X Wx (.Call (.Name "abs" p) (e :: es) [] pos) (mCall dAbs ms) := pm_callB call_abs calls_abs hg hm boot_abs ha (by decide) (by decide) he hpl
theorem b_int (hm : X.mg "int" = none) (ha : PMa X Wx (e :: es) ms) (hg : Gl X "int" := by rfl) (he : starEach (e :: es) X.env = (false, eval e X.env) :: starEach es X.env := by rfl) (hpl : (backTo pos (starEach es X.env)).any (·.1) = false := by rfl) : PM X Wx (.Call (.Name "int" p) (e :: es) [] pos) (mCall dInt ms) := pm_callTy call_int1 calls_int hg hm boot_int ha (by decide) (by decide) he hpl
theorem b_divmod (hm : X.mg "divmod" = none) (ha : PMa X Wx (e :: es) ms) (hg : Gl X "divmod" := by rfl) (he : starEach (e :: es) X.env = (false, eval e X.env) :: starEach es X.env := by rfl) (hpl : (backTo pos (starEach es X.env)).any (·.1) = false := by rfl) : PM X Wx (.Call (.Name "divmod" p) (e :: es) [] pos) (mCall dDivmod ms) := pm_callB call_divmod calls_divmod hg hm boot_divmod ha (by decide) (by decide) he hpl
theorem b_sum (hc : X.calm = true) (hm : X.mg "sum" = none) (ha : PMa X Wx (e :: es) ms) (hg : Gl X "sum" := by rfl) (he : starEach (e :: es) X.env = (false, eval e X.env) :: starEach es X.env := by rfl) (hpl : (backTo pos (starEach es X.env)).any (·.1) = false := by rfl) : PM X Wx (.Call (.Name "sum" p) (e :: es) [] pos) (mCall dSum ms) := pm_callB (cr_sum hc) calls_sum hg hm boot_sum ha (by decide) (by decide) he hpl
theorem b_all (hc : X.calm = true) (hm : X.mg "all" = none) (ha : PMa X Wx (e :: es) ms) (hg : Gl X "all" := by rfl) (he : starEach (e :: es) X.env = (false, eval e X.env) :: starEach es X.env := by rfl) (hpl : (backTo pos (starEach es X.env)).any (·.1) = false := by rfl) : PM X Wx (.Call (.Name "all" p) (e :: es) [] pos) (mCall dAll ms) := pm_callB (cr_all hc) calls_all hg hm boot_all ha (by decide) (by decide) he hpl
theorem b_any (hc : X.calm = true) (hm : X.mg "any" = none) (ha : PMa X Wx (e :: es) ms) (hg : Gl X "any" := by rfl) (he : starEach (e :: es) X.env = (false, eval e X.env) :: starEach es X.env := by rfl) (hpl : (backTo pos (starEach es X.env)).any (·.1) = false := by rfl) : PM X Wx (.Call (.Name "any" p) (e :: es) [] pos) (mCall dAny ms) := pm_callB (cr_any hc) calls_any hg hm boot_any ha (by decide) (by decide) he hpl
theorem b_max1 (hc : X.calm = true) (hm : X.mg "max" = none) (ha : PMa X Wx (e :: es) ms) (hg : Gl X "max" := by rfl) (he : starEach (e :: es) X.env = (false, eval e X.env) :: starEach es X.env := by rfl) (hpl : (backTo pos (starEach es X.env)).any (·.1) = false := by rfl) : PM X Wx (.Call (.Name "max" p) (e :: es) [] pos) (mCall dMax1 ms) := pm_callB (cr_max hc) calls_max1 hg hm boot_max ha (by decide) (by decide) he hpl
theorem b_min1 (hc : X.calm = true) (hm : X.mg "min" = none) (ha : PMa X Wx (e :: es) ms) (hg : Gl X "min" := by rfl) (he : starEach (e :: es) X.env = (false, eval e X.env) :: starEach es X.env := by rfl) (hpl : (backTo pos (starEach es X.env)).any (·.1) = false := by rfl) : PM X Wx (.Call (.Name "min" p) (e :: es) [] pos) (mCall dMin1 ms) := pm_callB (cr_min hc) calls_min1 hg hm boot_min ha (by decide) (by decide) he hpl
theorem b_max2 (hc : X.calm = true) (hm : X.mg "max" = none) (ha : PMa X Wx (e :: es) ms) (hg : Gl X "max" := by rfl) (he : starEach (e :: es) X.env = (false, eval e X.env) :: starEach es X.env := by rfl) (hpl : (backTo pos (starEach es X.env)).any (·.1) = false := by rfl) : PM X Wx (.Call (.Name "max" p) (e :: es) [] pos) (mCall dMax2 ms) := pm_callB (call_max2 hc) calls_max2 hg hm boot_max ha (by decide) (by decide) he hpl
theorem b_min2 (hc : X.calm = true) (hm : X.mg "min" = none) (ha : PMa X Wx (e :: es) ms) (hg : Gl X "min" := by rfl) (he : starEach (e :: es) X.env = (false, eval e X.env) :: starEach es X.env := by rfl) (hpl : (backTo pos (starEach es X.env)).any (·.1) = false := by rfl) : PM X Wx (.Call (.Name "min" p) (e :: es) [] pos) (mCall dMin2 ms) := pm_callB (call_min2 hc) calls_min2 hg hm boot_min ha (by decide) (by decide) he hpl
theorem b_tuple (hm : X.mg "tuple" = none) (ha : PMa X Wx (e :: es) ms) (hg : Gl X "tuple" := by rfl) (he : starEach (e :: es) X.env = (false, eval e X.env) :: starEach es X.env := by rfl) (hpl : (backTo pos (starEach es X.env)).any (·.1) = false := by rfl) : PM X Wx (.Call (.Name "tuple" p) (e :: es) [] pos) (mCall dTuple ms) := pm_callTy call_tuple_of calls_tuple hg hm boot_tuple ha (by decide) (by decide) he hpl
theorem b_list (hm : X.mg "list" = none) (ha : PMa X Wx (e :: es) ms) (hg : Gl X "list" := by rfl) (he : starEach (e :: es) X.env = (false, eval e X.env) :: starEach es X.env := by rfl) (hpl : (backTo pos (starEach es X.env)).any (·.1) = false := by rfl) : PMo X Wx (.Call (.Name "list" p) (e :: es) [] pos) (mLst dList ms) := pmo_callTy call_list_of calls_list hg hm boot_list ha (by decide) (by decide) he hpl
theorem b_sorted (hm : X.mg "sorted" = none) (ha : PMa X Wx (e :: es) ms) (hg : Gl X "sorted" := by rfl) (he : starEach (e :: es) X.env = (false, eval e X.env) :: starEach es X.env := by rfl) (hpl : (backTo pos (starEach es X.env)).any (·.1) = false := by rfl) : PMo X Wx (.Call (.Name "sorted" p) (e :: es) [] pos) (mLst dSorted ms) := pmo_callB cr_sortedI calls_sorted hg hm boot_sorted ha (by decide) (by decide) he hpl
theorem b_repr (hu : Un X) (hgd : X.A.guards = some []) (hm : X.mg "repr" = none) (ha : PMa X Wx (e :: es) ms) (hg : Gl X "repr" := by rfl) (he : starEach (e :: es) X.env = (false, eval e X.env) :: starEach es X.env := by rfl) (hpl : (backTo pos (starEach es X.env)).any (·.1) = false := by rfl) : PM X Wx (.Call (.Name "repr" p) (e :: es) [] pos) (mCall dReprF ms) := pm_callB (call_reprD hu hgd) calls_repr hg hm boot_repr ha (by decide) (by decide) he hpl
/-- an item of what is no pot -/
theorem pm_ixd (ha : PM X Wx a ma) (hb : PM X Wx b mb) (hs : PlainIx b := by exact fun _ _ => rfl) : PM X Wx (.Subscript a b pos) (mOp dIx ma mb) := ⟨(pe_ix ix_seq ha.pe hb.pe hs).imp (tm_op ops_ix)⟩
/-- the types' names, for isinstance -/
theorem ty_int : bootBuiltins "int" = some (.type Ty.int.name) := boot_int
theorem ty_bool : bootBuiltins "bool" = some (.type Ty.bool.name) := boot_bool
theorem ty_str : bootBuiltins "str" = some (.type Ty.str.name) := boot_str
theorem ty_list : bootBuiltins "list" = some (.type Ty.list.name) := boot_list
theorem ty_tuple : bootBuiltins "tuple" = some (.type Ty.tuple.name) := boot_tuple
theorem ty_dict : bootBuiltins "dict" = some (.type Ty.dict.name) := boot_dict
def dI (k : Nat) : D := .int (k : Int)
theorem pm_nat {k : Nat} {j} : PM X Wx (.Constant (.int (k : Int)) j pos) (mret (dI k)) := pm_int
theorem pm_gnat {x : Str} {k : Nat} (hg : Gl X x) (hm : ∃ t, X.mg x = some (.int (k : Int) t)) (hd : (x == ("__debug__" : Str)) = false := by decide) : PM X Wx (.Name x pos) (mret (dI k)) := pm_gint hg hm hd
theorem un_of {k : Nat} (hr : Room k X.A) : Un X := by have := hr.un; show X.A.units + 65 < cLine; omega
theorem takes_w0 {X : Cx} : Takes X W0 := fun u s' ⟨_, _, _, _, _, _, _, _, _, _, _, _, _, _, _, _, h⟩ => h.elim
theorem loc_of {sc : Scope} {x : Str} (h : sc.names.lookup x = some .local) : Loc sc x := .inl h
end
end PF

namespace PF
open PySem PySem.Spec PyProof.Rows L2
/-! ### evaluation: printed by gen14.py -/
def Res.andThen {α β : Type} (r : Res α) (k : α → Pst → Res β) : Res β := match r with
  | .ok a p => k a p
  | .exc x p => .exc x p
  | .stuck => .stuck
def Res.andS {α : Type} (r : Res α) (ρ : Sl) (k : α → Pst → SRes) : SRes := match r with
  | .ok a p => k a p
  | .exc x p => .exc x ρ p
  | .stuck => .stuck
def SRes.andC (r : SRes) (b : C) : SRes := match r with
  | .nx ρ p => b ρ p
  | r => r
def blK {α : Type} (d : D) (k : Bool → M α) : M α := match d with
  | .bl b => k b
  | _ => mstuck
def inK {α : Type} (d : D) (k : Int → M α) : M α := match d with
  | .int b => k b
  | _ => mstuck
def rdO (o : Option (Option W)) (p : Pst) : Res D := match o with
  | some (some (.val d)) => .ok d p
  | _ => .stuck
def kM {α β : Type} (k : α → M β) (ρ : Sl) (a : α) (p : Pst) : Res β := k a ρ p
def kC {α : Type} (k : α → C) (ρ : Sl) (a : α) (p : Pst) : SRes := k a ρ p
@[simp] theorem kM_ap {α β : Type} (k : α → M β) (ρ : Sl) (a : α) (p : Pst) : kM k ρ a p = k a ρ p := rfl
@[simp] theorem kC_ap {α : Type} (k : α → C) (ρ : Sl) (a : α) (p : Pst) : kC k ρ a p = k a ρ p := rfl
@[simp] theorem andThen_ok {α β : Type} (a : α) (p : Pst) (k : α → Pst → Res β) : (Res.ok a p).andThen k = k a p := rfl
@[simp] theorem andS_ok {α : Type} (a : α) (p : Pst) (ρ : Sl) (k : α → Pst → SRes) : (Res.ok a p).andS ρ k = k a p := rfl
@[simp] theorem andC_nx (ρ : Sl) (p : Pst) (b : C) : (SRes.nx ρ p).andC b = b ρ p := rfl
@[simp] theorem andC_rt (d : D) (fr : Bool) (p : Pst) (b : C) : (SRes.rt d fr p).andC b = .rt d fr p := rfl
@[simp] theorem andC_bk (ρ : Sl) (p : Pst) (b : C) : (SRes.bk ρ p).andC b = .bk ρ p := rfl
@[simp] theorem andC_ct (ρ : Sl) (p : Pst) (b : C) : (SRes.ct ρ p).andC b = .ct ρ p := rfl
@[simp] theorem blK_bl {α : Type} (b : Bool) (k : Bool → M α) : blK (.bl b) k = k b := rfl
@[simp] theorem inK_int {α : Type} (b : Int) (k : Int → M α) : inK (.int b) k = k b := rfl
@[simp] theorem rdO_val (d : D) (p : Pst) : rdO (some (some (.val d))) p = .ok d p := rfl
section
variable {ρ : Sl} {p : Pst}
@[simp] theorem ev_mret {α : Type} (a : α) : mret a ρ p = Res.ok a p := by cases p; first | rfl | (unfold mret; rfl) | (unfold mret; exact congrFun (congrFun (congrArg _ (funext fun d => by cases d <;> rfl)) _) _)
@[simp] theorem ev_mstuck {α : Type} : (mstuck : M α) ρ p = (Res.stuck : Res α) := by cases p; first | rfl | (unfold mstuck; rfl) | (unfold mstuck; exact congrFun (congrFun (congrArg _ (funext fun d => by cases d <;> rfl)) _) _)
@[simp] theorem ev_mopt_some {α : Type} (a : α) : mopt (some a) ρ p = Res.ok a p := by cases p; first | rfl | (unfold mopt; rfl) | (unfold mopt; exact congrFun (congrFun (congrArg _ (funext fun d => by cases d <;> rfl)) _) _)
@[simp] theorem ev_mopt_none {α : Type} : mopt (none : Option α) ρ p = (Res.stuck : Res α) := by cases p; first | rfl | (unfold mopt; rfl) | (unfold mopt; exact congrFun (congrFun (congrArg _ (funext fun d => by cases d <;> rfl)) _) _)
@[simp] theorem ev_mbind {α β : Type} (m : M α) (k : α → M β) : mbind m k ρ p = (m ρ p).andThen (kM k ρ) := by cases p; first | rfl | (unfold mbind; rfl) | (unfold mbind; exact congrFun (congrFun (congrArg _ (funext fun d => by cases d <;> rfl)) _) _)
@[simp] theorem ev_mOp (f) (ma mb : M D) : mOp f ma mb ρ p = mbind ma (fun x => mbind mb fun y => mopt (f x y)) ρ p := by cases p; first | rfl | (unfold mOp; rfl) | (unfold mOp; exact congrFun (congrFun (congrArg _ (funext fun d => by cases d <;> rfl)) _) _)
@[simp] theorem ev_mOpo (f) (ma mb : M D) : mOpo f ma mb ρ p = mbind ma (fun x => mbind mb fun y => mopt (f x y)) ρ p := by cases p; first | rfl | (unfold mOpo; rfl) | (unfold mOpo; exact congrFun (congrFun (congrArg _ (funext fun d => by cases d <;> rfl)) _) _)
@[simp] theorem ev_mCmp (f) (ma mb : M D) : mCmp f ma mb ρ p = mbind ma (fun x => mbind mb fun y => mopt (f x y)) ρ p := by cases p; first | rfl | (unfold mCmp; rfl) | (unfold mCmp; exact congrFun (congrFun (congrArg _ (funext fun d => by cases d <;> rfl)) _) _)
@[simp] theorem ev_mB (m : M Bool) : mB m ρ p = mbind m (fun b => mret (.bl b)) ρ p := by cases p; first | rfl | (unfold mB; rfl) | (unfold mB; exact congrFun (congrFun (congrArg _ (funext fun d => by cases d <;> rfl)) _) _)
@[simp] theorem ev_mUn (f) (ma : M D) : mUn f ma ρ p = mbind ma (fun x => mopt (f x)) ρ p := by cases p; first | rfl | (unfold mUn; rfl) | (unfold mUn; exact congrFun (congrFun (congrArg _ (funext fun d => by cases d <;> rfl)) _) _)
@[simp] theorem ev_mAnd (t u : M Bool) : mAnd t u ρ p = mbind t (fun k => if k = true then u else mret false) ρ p := by cases p; first | rfl | (unfold mAnd; rfl) | (unfold mAnd; exact congrFun (congrFun (congrArg _ (funext fun d => by cases d <;> rfl)) _) _)
@[simp] theorem ev_mOr (t u : M Bool) : mOr t u ρ p = mbind t (fun k => if k = true then mret true else u) ρ p := by cases p; first | rfl | (unfold mOr; rfl) | (unfold mOr; exact congrFun (congrFun (congrArg _ (funext fun d => by cases d <;> rfl)) _) _)
@[simp] theorem ev_mNot (t : M Bool) : mNot t ρ p = mbind t (fun k => mret (!k)) ρ p := by cases p; first | rfl | (unfold mNot; rfl) | (unfold mNot; exact congrFun (congrFun (congrArg _ (funext fun d => by cases d <;> rfl)) _) _)
@[simp] theorem ev_mIf {α : Type} (t : M Bool) (ma mb : M α) : mIf t ma mb ρ p = mbind t (fun k => if k = true then ma else mb) ρ p := by cases p; first | rfl | (unfold mIf; rfl) | (unfold mIf; exact congrFun (congrFun (congrArg _ (funext fun d => by cases d <;> rfl)) _) _)
@[simp] theorem ev_mfrz (mo) : mfrz mo ρ p = mbind mo (fun ds => mret (.lst ds)) ρ p := by cases p; first | rfl | (unfold mfrz; rfl) | (unfold mfrz; exact congrFun (congrFun (congrArg _ (funext fun d => by cases d <;> rfl)) _) _)
@[simp] theorem ev_mcons (ma) (ms) : mcons ma ms ρ p = mbind ma (fun d => mbind ms fun ds => mret (d :: ds)) ρ p := by cases p; first | rfl | (unfold mcons; rfl) | (unfold mcons; exact congrFun (congrFun (congrArg _ (funext fun d => by cases d <;> rfl)) _) _)
@[simp] theorem ev_mlim (ms) : mlim ms ρ p = mbind ms (fun ds => if ds.length ≤ 4096 then mret ds else mstuck) ρ p := by cases p; first | rfl | (unfold mlim; rfl) | (unfold mlim; exact congrFun (congrFun (congrArg _ (funext fun d => by cases d <;> rfl)) _) _)
@[simp] theorem ev_mtup (ms) : mtup ms ρ p = mbind ms (fun ds => if ds.length ≤ 4096 then mret (.tup ds) else mstuck) ρ p := by cases p; first | rfl | (unfold mtup; rfl) | (unfold mtup; exact congrFun (congrFun (congrArg _ (funext fun d => by cases d <;> rfl)) _) _)
@[simp] theorem ev_mIx (ma mb) : mIx ma mb ρ p = mbind ma (fun x => mbind mb fun y => ixAny x y) ρ p := by cases p; first | rfl | (unfold mIx; rfl) | (unfold mIx; exact congrFun (congrFun (congrArg _ (funext fun d => by cases d <;> rfl)) _) _)
@[simp] theorem ev_mSl (me ml mh) : mSl me ml mh ρ p = mbind me (fun d => mbind ml fun lo => mbind mh fun hi => mopt (dSl d lo hi)) ρ p := by cases p; first | rfl | (unfold mSl; rfl) | (unfold mSl; exact congrFun (congrFun (congrArg _ (funext fun d => by cases d <;> rfl)) _) _)
@[simp] theorem ev_mCall (f) (ms) : mCall f ms ρ p = mbind ms (fun ds => mopt (f ds)) ρ p := by cases p; first | rfl | (unfold mCall; rfl) | (unfold mCall; exact congrFun (congrFun (congrArg _ (funext fun d => by cases d <;> rfl)) _) _)
@[simp] theorem ev_mLst (f) (ms) : mLst f ms ρ p = mbind ms (fun ds => mopt (f ds)) ρ p := by cases p; first | rfl | (unfold mLst; rfl) | (unfold mLst; exact congrFun (congrFun (congrArg _ (funext fun d => by cases d <;> rfl)) _) _)
@[simp] theorem ev_mIsi (t) (m) : mIsi t m ρ p = mbind m (fun d => if noPot d = true then mret (.bl (isTy t d)) else mstuck) ρ p := by cases p; first | rfl | (unfold mIsi; rfl) | (unfold mIsi; exact congrFun (congrFun (congrArg _ (funext fun d => by cases d <;> rfl)) _) _)
@[simp] theorem ev_mIsis (t) (m) : mIsis t m ρ p = mbind m (fun d => if noPot d = true then mret (.bl (isTys t d)) else mstuck) ρ p := by cases p; first | rfl | (unfold mIsis; rfl) | (unfold mIsis; exact congrFun (congrFun (congrArg _ (funext fun d => by cases d <;> rfl)) _) _)
@[simp] theorem ev_mIsN (m) : mIsN m ρ p = mbind m (fun x => if noPot x = true then mret (isNon x) else mstuck) ρ p := by cases p; first | rfl | (unfold mIsN; rfl) | (unfold mIsN; exact congrFun (congrFun (congrArg _ (funext fun d => by cases d <;> rfl)) _) _)
@[simp] theorem ev_mNotN (m) : mNotN m ρ p = mbind m (fun x => if noPot x = true then mret (!isNon x) else mstuck) ρ p := by cases p; first | rfl | (unfold mNotN; rfl) | (unfold mNotN; exact congrFun (congrFun (congrArg _ (funext fun d => by cases d <;> rfl)) _) _)
@[simp] theorem ev_mChain (f g) (ma mb mc) : mChain f g ma mb mc ρ p = mbind ma (fun x => mbind mb fun y => mbind (mopt (dI2b f x y)) fun k => if k = true then mbind mc fun z => mopt (dI2b g y z) else mret false) ρ p := by cases p; first | rfl | (unfold mChain; rfl) | (unfold mChain; exact congrFun (congrFun (congrArg _ (funext fun d => by cases d <;> rfl)) _) _)
@[simp] theorem ev_mSeq (m) : mSeq m ρ p = mbind m seqD ρ p := by cases p; first | rfl | (unfold mSeq; rfl) | (unfold mSeq; exact congrFun (congrFun (congrArg _ (funext fun d => by cases d <;> rfl)) _) _)
@[simp] theorem ev_mRange1 (ms) : mRange1 ms ρ p = mbind ms (fun ds => mopt (dRange1 ds)) ρ p := by cases p; first | rfl | (unfold mRange1; rfl) | (unfold mRange1; exact congrFun (congrFun (congrArg _ (funext fun d => by cases d <;> rfl)) _) _)
@[simp] theorem ev_mRange2 (ms) : mRange2 ms ρ p = mbind ms (fun ds => mopt (dRange2 ds)) ρ p := by cases p; first | rfl | (unfold mRange2; rfl) | (unfold mRange2; exact congrFun (congrFun (congrArg _ (funext fun d => by cases d <;> rfl)) _) _)
@[simp] theorem ev_muV (ma) (ms) : muV ma ms ρ p = mbind ma (fun d => mbind ms fun ws => mret (.val d :: ws)) ρ p := by cases p; first | rfl | (unfold muV; rfl) | (unfold muV; exact congrFun (congrFun (congrArg _ (funext fun d => by cases d <;> rfl)) _) _)
@[simp] theorem ev_muO (ma) (ms) : muO ma ms ρ p = mbind ma (fun d => mbind ms fun ws => mret (.own d :: ws)) ρ p := by cases p; first | rfl | (unfold muO; rfl) | (unfold muO; exact congrFun (congrFun (congrArg _ (funext fun d => by cases d <;> rfl)) _) _)
@[simp] theorem ev_mFn (G : Fn) (n m : Nat) (ix) (ms mk) : mFn G n m ix ms mk ρ p = mbind ms (fun ds => mbind mk fun es _ p => if ds.length = n ∧ es.length = m then outFn (fun d _ => some d) (G (permL ix (ds ++ es)) p) else .stuck) ρ p := by cases p; first | rfl | (unfold mFn; rfl) | (unfold mFn; exact congrFun (congrFun (congrArg _ (funext fun d => by cases d <;> rfl)) _) _)
@[simp] theorem ev_mFno (G : Fn) (n m : Nat) (ix) (ms mk) : mFno G n m ix ms mk ρ p = mbind ms (fun ds => mbind mk fun es _ p => if ds.length = n ∧ es.length = m then outFn frOf (G (permL ix (ds ++ es)) p) else .stuck) ρ p := by cases p; first | rfl | (unfold mFno; rfl) | (unfold mFno; exact congrFun (congrFun (congrArg _ (funext fun d => by cases d <;> rfl)) _) _)
@[simp] theorem ev_ixAny_lst (xs) (y) : ixAny (.lst xs) y ρ p = mopt (dIx (.lst xs) y) ρ p := by cases p; first | rfl | (unfold ixAny; rfl) | (unfold ixAny; exact congrFun (congrFun (congrArg _ (funext fun d => by cases d <;> rfl)) _) _)
@[simp] theorem ev_ixAny_tup (xs) (y) : ixAny (.tup xs) y ρ p = mopt (dIx (.tup xs) y) ρ p := by cases p; first | rfl | (unfold ixAny; rfl) | (unfold ixAny; exact congrFun (congrFun (congrArg _ (funext fun d => by cases d <;> rfl)) _) _)
@[simp] theorem ev_ixAny_scr (xs) (y) : ixAny (.scr xs) y ρ p = mopt (dIx (.scr xs) y) ρ p := by cases p; first | rfl | (unfold ixAny; rfl) | (unfold ixAny; exact congrFun (congrFun (congrArg _ (funext fun d => by cases d <;> rfl)) _) _)
@[simp] theorem ev_ixAny_str (xs) (y) : ixAny (.str xs) y ρ p = mopt (dIx (.str xs) y) ρ p := by cases p; first | rfl | (unfold ixAny; rfl) | (unfold ixAny; exact congrFun (congrFun (congrArg _ (funext fun d => by cases d <;> rfl)) _) _)
@[simp] theorem ev_seqD_lst (xs) : seqD (.lst xs) ρ p = Res.ok xs p := by cases p; first | rfl | (unfold seqD; rfl) | (unfold seqD; exact congrFun (congrFun (congrArg _ (funext fun d => by cases d <;> rfl)) _) _)
@[simp] theorem ev_seqD_tup (xs) : seqD (.tup xs) ρ p = Res.ok xs p := by cases p; first | rfl | (unfold seqD; rfl) | (unfold seqD; exact congrFun (congrFun (congrArg _ (funext fun d => by cases d <;> rfl)) _) _)
@[simp] theorem ev_mT (m) : mT m ρ p = mbind m (fun d => blK d mret) ρ p := by cases p; first | rfl | (unfold mT; rfl) | (unfold mT; exact congrFun (congrFun (congrArg _ (funext fun d => by cases d <;> rfl)) _) _)
@[simp] theorem ev_mAndV (t u) : mAndV t u ρ p = mbind t (fun d => blK d fun k => if k = true then u else mret (.bl false)) ρ p := by cases p; first | rfl | (unfold mAndV; rfl) | (unfold mAndV; exact congrFun (congrFun (congrArg _ (funext fun d => by cases d <;> rfl)) _) _)
@[simp] theorem ev_mOrV (t u) : mOrV t u ρ p = mbind t (fun d => blK d fun k => if k = true then mret (.bl true) else u) ρ p := by cases p; first | rfl | (unfold mOrV; rfl) | (unfold mOrV; exact congrFun (congrFun (congrArg _ (funext fun d => by cases d <;> rfl)) _) _)
@[simp] theorem ev_mNotV (t) : mNotV t ρ p = mbind t (fun d => blK d fun k => mret (.bl (!k))) ρ p := by cases p; first | rfl | (unfold mNotV; rfl) | (unfold mNotV; exact congrFun (congrFun (congrArg _ (funext fun d => by cases d <;> rfl)) _) _)
@[simp] theorem ev_mPart (t) : mPart t ρ p = mbind t (fun d => inK d fun i => mret (some i)) ρ p := by cases p; first | rfl | (unfold mPart; rfl) | (unfold mPart; exact congrFun (congrFun (congrArg _ (funext fun d => by cases d <;> rfl)) _) _)
@[simp] theorem ev_mYes  : mYes ρ p = Res.ok true p := by cases p; first | rfl | (unfold mYes; rfl) | (unfold mYes; exact congrFun (congrFun (congrArg _ (funext fun d => by cases d <;> rfl)) _) _)
@[simp] theorem ev_cskip  : cskip ρ p = SRes.nx ρ p := by cases p; first | rfl | (unfold cskip; rfl) | (unfold cskip; exact congrFun (congrFun (congrArg _ (funext fun d => by cases d <;> rfl)) _) _)
@[simp] theorem ev_cbrk  : cbrk ρ p = SRes.bk ρ p := by cases p; first | rfl | (unfold cbrk; rfl) | (unfold cbrk; exact congrFun (congrFun (congrArg _ (funext fun d => by cases d <;> rfl)) _) _)
@[simp] theorem ev_ccnt  : ccnt ρ p = SRes.ct ρ p := by cases p; first | rfl | (unfold ccnt; rfl) | (unfold ccnt; exact congrFun (congrFun (congrArg _ (funext fun d => by cases d <;> rfl)) _) _)
@[simp] theorem ev_cstuck  : cstuck ρ p = SRes.stuck := by cases p; first | rfl | (unfold cstuck; rfl) | (unfold cstuck; exact congrFun (congrFun (congrArg _ (funext fun d => by cases d <;> rfl)) _) _)
@[simp] theorem ev_cretN  : cretN ρ p = SRes.rt .non false p := by cases p; first | rfl | (unfold cretN; rfl) | (unfold cretN; exact congrFun (congrFun (congrArg _ (funext fun d => by cases d <;> rfl)) _) _)
@[simp] theorem ev_cseq (a b : C) : cseq a b ρ p = (a ρ p).andC b := by cases p; first | rfl | (unfold cseq; rfl) | (unfold cseq; exact congrFun (congrFun (congrArg _ (funext fun d => by cases d <;> rfl)) _) _)
@[simp] theorem ev_eout {α : Type} (m : M α) (k : α → C) : eout m k ρ p = (m ρ p).andS ρ (kC k ρ) := by cases p; first | rfl | (unfold eout; rfl) | (unfold eout; exact congrFun (congrFun (congrArg _ (funext fun d => by cases d <;> rfl)) _) _)
@[simp] theorem ev_cexpr (m) : cexpr m ρ p = eout m (fun _ => cskip) ρ p := by cases p; first | rfl | (unfold cexpr; rfl) | (unfold cexpr; exact congrFun (congrFun (congrArg _ (funext fun d => by cases d <;> rfl)) _) _)
@[simp] theorem ev_cret (m) : cret m ρ p = eout m (fun d _ p => .rt d false p) ρ p := by cases p; first | rfl | (unfold cret; rfl) | (unfold cret; exact congrFun (congrFun (congrArg _ (funext fun d => by cases d <;> rfl)) _) _)
@[simp] theorem ev_creto (m) : creto m ρ p = eout m (fun d _ p => .rt (.lst d) true p) ρ p := by cases p; first | rfl | (unfold creto; rfl) | (unfold creto; exact congrFun (congrFun (congrArg _ (funext fun d => by cases d <;> rfl)) _) _)
@[simp] theorem ev_cif (t a b) : cif t a b ρ p = eout t (fun k => if k = true then a else b) ρ p := by cases p; first | rfl | (unfold cif; rfl) | (unfold cif; exact congrFun (congrFun (congrArg _ (funext fun d => by cases d <;> rfl)) _) _)
@[simp] theorem ev_casg (i m) : casg i m ρ p = eout m (fun d ρ p => .nx (ρ.set i (some (.val d))) p) ρ p := by cases p; first | rfl | (unfold casg; rfl) | (unfold casg; exact congrFun (congrFun (congrArg _ (funext fun d => by cases d <;> rfl)) _) _)
@[simp] theorem ev_caso (i m) : caso i m ρ p = eout m (fun d ρ p => .nx (ρ.set i (some (.own d))) p) ρ p := by cases p; first | rfl | (unfold caso; rfl) | (unfold caso; exact congrFun (congrFun (congrArg _ (funext fun d => by cases d <;> rfl)) _) _)
@[simp] theorem ev_casgW (is m) : casgW is m ρ p = eout m (fun ws ρ p => if ws.length = is.length then .nx (setsS is ws ρ) p else .stuck) ρ p := by cases p; first | rfl | (unfold casgW; rfl) | (unfold casgW; exact congrFun (congrFun (congrArg _ (funext fun d => by cases d <;> rfl)) _) _)
@[simp] theorem ev_rd (i : Nat) : rd i ρ p = rdO ρ[i]? p := by
  unfold rd rdO
  cases ρ[i]? with
  | none => rfl
  | some o =>
    cases o with
    | none => rfl
    | some w => cases w <;> rfl
@[simp] theorem ev_pot0 : ixAny (.pot p.g) (.int 0) ρ p = .ok (.int p.a) p := by simp [ixAny, ixPot]
@[simp] theorem ev_pot1 : ixAny (.pot p.g) (.int 1) ρ p = .ok (.int p.b) p := by simp [ixAny, ixPot]
@[simp] theorem ev_outFn {α : Type} (f : D → Bool → Option α) (d : D) (fr : Bool) (p : Pst) : outFn f (.ok d fr p) = (match f d fr with | some a => .ok a p | none => .stuck) := rfl
@[simp] theorem ev_permL_nil {α : Type} (l : List α) : permL [] l = [] := rfl
@[simp] theorem ev_permL_cons {α : Type} (i : Nat) (ix : List Nat) (l : List α) : permL (i :: ix) l = (match l[i]? with | some x => x :: permL ix l | none => permL ix l) := by
  unfold permL
  rw [List.filterMap_cons]
  cases l[i]? <;> rfl
@[simp] theorem ev_frOf (ds : List D) : frOf (.lst ds) true = some ds := rfl
@[simp] theorem ev_sets_nil (ws : List W) : setsS [] ws ρ = ρ := by cases ws <;> rfl
@[simp] theorem ev_sets_cons (i : Nat) (is : List Nat) (w : W) (ws : List W) : setsS (i :: is) (w :: ws) ρ = setsS is ws (ρ.set i (some w)) := rfl
theorem ev_fres {n k : Nat} {c : C} {ds : List D} (h : ds.length = k) : fres n k c ds p = sres (c (ds.map (fun d => some (W.val d)) ++ List.replicate (n - k) none) p) := by unfold fres; rw [if_pos h]
@[simp] theorem ev_sres_nx : sres (.nx ρ p) = .ok .non false p := rfl
@[simp] theorem ev_sres_rt (d : D) (fr : Bool) : sres (.rt d fr p) = .ok d fr p := rfl
end
/-! ### operators on data -/
@[simp] theorem dAdd_int (i j : Int) : dAdd (.int i) (.int j) = some (.int (i + j)) := rfl
@[simp] theorem dSub_int (i j : Int) : dSub (.int i) (.int j) = some (.int (i - j)) := rfl
theorem dMul_int {i j : Int} (h : i.natAbs < 2 ^ 64 ∨ j.natAbs < 2 ^ 64) : dMul (.int i) (.int j) = some (.int (i * j)) := by
  have : okMul i j = true := by simpa [okMul] using h
  simp [dMul, dMulI, dI2c, this]
theorem dMod_int {i j : Int} (h : 0 < j) : dMod (.int i) (.int j) = some (.int (i % j)) := by
  have : j ≠ 0 := by omega
  simp [dMod, dI2c, this, Int.fmod_eq_emod_of_nonneg _ (Int.le_of_lt h)]
theorem dDiv_int {i j : Int} (h : 0 < j) (h2 : j < 1073741824) : dDiv (.int i) (.int j) = some (.int (i / j)) := by
  have h3 : j ≠ 0 := by omega
  have h4 : j.natAbs < 1073741824 := by omega
  simp [dDiv, dI2c, okDiv, h3, h4, Int.fdiv_eq_ediv_of_nonneg _ (Int.le_of_lt h)]
theorem dPow_int {i j : Int} (h : 0 ≤ j) (h2 : j ≤ 1000000) (h3 : i.natAbs < 2 ^ 64) : dPow (.int i) (.int j) = some (.int (i ^ j.toNat)) := by
  simp [dPow, dI2c, okPow, h, h2, h3]
@[simp] theorem dNeg_int (i : Int) : dNeg (.int i) = some (.int (-i)) := rfl
@[simp] theorem dLt_int (i j : Int) : dLt (.int i) (.int j) = some (decide (i < j)) := rfl
@[simp] theorem dLe_int (i j : Int) : dLe (.int i) (.int j) = some (decide (i ≤ j)) := rfl
@[simp] theorem dGt_int (i j : Int) : dGt (.int i) (.int j) = some (decide (j < i)) := rfl
@[simp] theorem dGe_int (i j : Int) : dGe (.int i) (.int j) = some (decide (j ≤ i)) := rfl
@[simp] theorem dI2b_int (f : Int → Int → Bool) (i j : Int) : dI2b f (.int i) (.int j) = some (f i j) := rfl
@[simp] theorem dEq_int (i j : Int) : dEq (.int i) (.int j) = some (decide (i = j)) := rfl
@[simp] theorem dNe_int (i j : Int) : dNe (.int i) (.int j) = some (!decide (i = j)) := rfl
@[simp] theorem dEq_str (i j : Str) : dEq (.str i) (.str j) = some (decide (i = j)) := rfl
@[simp] theorem dNe_str (i j : Str) : dNe (.str i) (.str j) = some (!decide (i = j)) := rfl
@[simp] theorem dIsB_bl (i j : Bool) : dIsB (.bl i) (.bl j) = some (decide (i = j)) := rfl
@[simp] theorem dNotB_bl (i j : Bool) : dNotB (.bl i) (.bl j) = some (!decide (i = j)) := rfl
@[simp] theorem dInt_int (i : Int) : dInt [.int i] = some (.int i) := rfl
@[simp] theorem dInt_bl (b : Bool) : dInt [.bl b] = some (.int (if b then 1 else 0)) := rfl
theorem dLen_lst (xs : List D) : dLen [.lst xs] = some (.int xs.length) := rfl
theorem dLen_tup (xs : List D) : dLen [.tup xs] = some (.int xs.length) := rfl
theorem dLen_scr (xs : List Int) : dLen [.scr xs] = some (.int xs.length) := rfl
@[simp] theorem dAbs_int (i : Int) : dAbs [.int i] = some (.int (if i < 0 then -i else i)) := rfl
@[simp] theorem dMax2_int (i j : Int) : dMax2 [.int i, .int j] = some (.int (if j > i then j else i)) := rfl
@[simp] theorem dMin2_int (i j : Int) : dMin2 [.int i, .int j] = some (.int (if j < i then j else i)) := rfl
theorem dDivmod_int {i j : Int} (h : 0 < j) (h2 : j < 1073741824) : dDivmod [.int i, .int j] = some (.tup [.int (i / j), .int (i % j)]) := by simp [dDivmod, h, h2]
theorem dIx_lst {xs : List D} {k : Nat} {d : D} (h : xs[k]? = some d) : dIx (.lst xs) (.int k) = some d := by
  have hk : k < xs.length := (List.getElem?_eq_some_iff.mp h).1
  have h1 : (k : Int) < (xs.length : Int) := by omega
  simp only [dIx, atI, ixN]
  rw [if_pos (by omega), if_pos h1]
  simpa using h
theorem dIx_tup {xs : List D} {k : Nat} {d : D} (h : xs[k]? = some d) : dIx (.tup xs) (.int k) = some d := dIx_lst (xs := xs) h
@[simp] theorem noPot_non : noPot .non = true := by simp [noPot]
@[simp] theorem noPot_bl (b : Bool) : noPot (.bl b) = true := by simp [noPot]
@[simp] theorem noPot_int (b : Int) : noPot (.int b) = true := by simp [noPot]
@[simp] theorem noPot_str (b : Str) : noPot (.str b) = true := by simp [noPot]
@[simp] theorem noPot_lst (b : List D) : noPot (.lst b) = true := by simp [noPot]
@[simp] theorem noPot_tup (b : List D) : noPot (.tup b) = true := by simp [noPot]
@[simp] theorem noPot_scr (b : List Int) : noPot (.scr b) = true := by simp [noPot]
@[simp] theorem noPot_emp : noPot .emp = true := by simp [noPot]
@[simp] theorem isNon_non : isNon .non = true := by simp [isNon]
@[simp] theorem isNon_bl (b : Bool) : isNon (.bl b) = false := by simp [isNon]
@[simp] theorem isNon_int (b : Int) : isNon (.int b) = false := by simp [isNon]
@[simp] theorem isNon_str (b : Str) : isNon (.str b) = false := by simp [isNon]
@[simp] theorem isNon_lst (b : List D) : isNon (.lst b) = false := by simp [isNon]
@[simp] theorem isNon_tup (b : List D) : isNon (.tup b) = false := by simp [isNon]
end PF

namespace PF
open PySem PySem.Spec PyProof.Rows L2

/-! ### rules for loops and comprehensions -/
theorem lcGo_pure {f : D → Sl → Option Sl} {tt : M Bool} {el : M D} {ρ : Sl} {p : Pst} (b : D → Bool) (g : D → D) : ∀ items : List D, (∀ d ∈ items, ∃ ρ1, f d ρ = some ρ1 ∧ tt ρ1 p = .ok (b d) p ∧ (b d = true → el ρ1 p = .ok (g d) p)) → lcGo f tt el items ρ p = .ok ((items.filter b).map g) p
  | [], _ => rfl
  | d :: ds, h => by
    obtain ⟨ρ1, e1, e2, e3⟩ := h d List.mem_cons_self
    have ih := lcGo_pure b g ds fun d hd => h d (List.mem_cons_of_mem _ hd)
    simp only [lcGo, e1, e2]
    cases hb : b d with
    | false => simp [ih, hb]
    | true => simp [ih, hb, e3 hb]
theorem mLc_pure {vs : List Nat} {mi : M (List D)} {f : D → Sl → Option Sl} {tt : M Bool} {el : M D} {ρ : Sl} {p p1 : Pst} {items : List D} (hi : mi ρ p = .ok items p1) (b : D → Bool) (g : D → D)
    (h : ∀ d ∈ items, ∃ ρ1, f d (wipeS ρ vs) = some ρ1 ∧ tt ρ1 p1 = .ok (b d) p1 ∧ (b d = true → el ρ1 p1 = .ok (g d) p1)) : mLc vs mi f tt el ρ p = .ok ((items.filter b).map g) p1 := by
  unfold mLc
  rw [ev_mbind, hi, andThen_ok, kM_ap]
  simp only [lcGo_pure b g items h]
theorem filter_map_rg (lo : Int) (n : Nat) (b : Nat → Bool) (g : Nat → D) (b' : D → Bool) (g' : D → D) (h : ∀ k, k < n → b' (.int (lo + k)) = b k ∧ (b k = true → g' (.int (lo + k)) = g k)) : ((rgL lo n).filter b').map g' = ((List.range n).filter b).map g := by
  unfold rgL
  rw [List.filter_map, List.map_map]
  have e1 : (List.range n).filter (b' ∘ fun (k : Nat) => D.int (lo + k)) = (List.range n).filter b := List.filter_congr fun k hk => (h k (List.mem_range.mp hk)).1
  rw [e1]
  refine List.map_congr_left fun k hk => ?_
  obtain ⟨h1, h2⟩ := List.mem_filter.mp hk
  exact (h k (List.mem_range.mp h1)).2 h2
/-- a comprehension over a range -/
theorem mLc_rng {i n : Nat} {lo : Int} {mi : M (List D)} {tt : M Bool} {el : M D} {ρ : Sl} {p p1 : Pst} (hi : mi ρ p = .ok (rgL lo n) p1) (b : Nat → Bool) (g : Nat → D)
    (h : ∀ k, k < n → tt ((wipeS ρ [i]).set i (some (.val (.int (lo + k))))) p1 = .ok (b k) p1 ∧ (b k = true → el ((wipeS ρ [i]).set i (some (.val (.int (lo + k))))) p1 = .ok (g k) p1)) : mLc [i] mi (fName i) tt el ρ p = .ok (((List.range n).filter b).map g) p1 := by
  unfold mLc
  rw [ev_mbind, hi, andThen_ok, kM_ap]
  have key : ∀ l : List Nat, (∀ k ∈ l, k < n) → lcGo (fName i) tt el (l.map fun (k : Nat) => D.int (lo + k)) (wipeS ρ [i]) p1 = .ok ((l.filter b).map g) p1 := by
    intro l
    induction l with
    | nil => intro _; rfl
    | cons k l ih =>
      intro hl
      obtain ⟨h1, h2⟩ := h k (hl k List.mem_cons_self)
      have ih' := ih fun k hk => hl k (List.mem_cons_of_mem _ hk)
      simp only [List.map_cons, lcGo, fName, h1]
      cases hb : b k with
      | false => simp [ih', hb, fName]
      | true => simp [ih', hb, h2 hb, fName]
  have := key (List.range n) fun k hk => List.mem_range.mp hk
  unfold rgL
  simp only [this]
theorem filter_yes {α : Type} (l : List α) : l.filter (fun _ => true) = l := List.filter_eq_self.mpr fun _ _ => rfl
theorem mLc_rngY {i n : Nat} {lo : Int} {mi : M (List D)} {el : M D} {ρ : Sl} {p p1 : Pst} (hi : mi ρ p = .ok (rgL lo n) p1) (g : Nat → D)
    (h : ∀ k, k < n → el ((wipeS ρ [i]).set i (some (.val (.int (lo + k))))) p1 = .ok (g k) p1) : mLc [i] mi (fName i) mYes el ρ p = .ok ((List.range n).map g) p1 := by
  have := mLc_rng (i := i) (tt := mYes) hi (fun _ => true) g fun k hk => ⟨rfl, fun _ => h k hk⟩
  rwa [filter_yes] at this
/-- a comprehension over a list of data, one name -/
theorem mLc_lst {i : Nat} {mi : M (List D)} {tt : M Bool} {el : M D} {ρ : Sl} {p p1 : Pst} {items : List D} (hi : mi ρ p = .ok items p1) (b : D → Bool) (g : D → D)
    (h : ∀ d ∈ items, tt ((wipeS ρ [i]).set i (some (.val d))) p1 = .ok (b d) p1 ∧ (b d = true → el ((wipeS ρ [i]).set i (some (.val d))) p1 = .ok (g d) p1)) : mLc [i] mi (fName i) tt el ρ p = .ok ((items.filter b).map g) p1 :=
  mLc_pure hi b g fun d hd => ⟨_, rfl, (h d hd).1, (h d hd).2⟩
/-- items of a mapped list -/
theorem mLc_map {α : Type} {i : Nat} {mi : M (List D)} {tt : M Bool} {el : M D} {ρ : Sl} {p p1 : Pst} {xs : List α} {c : α → D} (hi : mi ρ p = .ok (xs.map c) p1) (b : α → Bool) (g : α → D)
    (h : ∀ x ∈ xs, tt ((wipeS ρ [i]).set i (some (.val (c x)))) p1 = .ok (b x) p1 ∧ (b x = true → el ((wipeS ρ [i]).set i (some (.val (c x)))) p1 = .ok (g x) p1)) : mLc [i] mi (fName i) tt el ρ p = .ok ((xs.filter b).map g) p1 := by
  unfold mLc
  rw [ev_mbind, hi, andThen_ok, kM_ap]
  have key : ∀ l : List α, (∀ x ∈ l, x ∈ xs) → lcGo (fName i) tt el (l.map c) (wipeS ρ [i]) p1 = .ok ((l.filter b).map g) p1 := by
    intro l
    induction l with
    | nil => intro _; rfl
    | cons k l ih =>
      intro hl
      obtain ⟨h1, h2⟩ := h k (hl k List.mem_cons_self)
      have ih' := ih fun k hk => hl k (List.mem_cons_of_mem _ hk)
      simp only [List.map_cons, lcGo, fName, h1]
      cases hb : b k with
      | false => simp [ih', hb, fName]
      | true => simp [ih', hb, h2 hb, fName]
  simp only [key xs fun _ h => h]
theorem mLc_mapY {α : Type} {i : Nat} {mi : M (List D)} {el : M D} {ρ : Sl} {p p1 : Pst} {xs : List α} {c : α → D} (hi : mi ρ p = .ok (xs.map c) p1) (g : α → D)
    (h : ∀ x ∈ xs, el ((wipeS ρ [i]).set i (some (.val (c x)))) p1 = .ok (g x) p1) : mLc [i] mi (fName i) mYes el ρ p = .ok (xs.map g) p1 := by
  have := mLc_map (i := i) (tt := mYes) hi (fun _ => true) g fun x hx => ⟨rfl, fun _ => h x hx⟩
  rwa [filter_yes] at this
theorem dRange1_nat (n : Nat) (h : n ≤ 16000000) : dRange1 [.int (n : Int)] = some (rgL 0 n) := by
  show (if _ then _ else _) = _
  rw [if_pos ⟨by omega, by omega⟩, Int.toNat_natCast]
/-- a comprehension whose element draws: an invariant of the pot, a property of each item -/
theorem lcGo_draw {f : D → Sl → Option Sl} {el : M D} {ρ : Sl} (I : Pst → Prop) (R : D → D → Prop) : ∀ (items : List D) (p : Pst), I p → (∀ d ∈ items, ∀ p, I p → ∃ ρ1, f d ρ = some ρ1 ∧ ∃ y p', el ρ1 p = .ok y p' ∧ I p' ∧ R d y) → ∃ ys p', lcGo f mYes el items ρ p = .ok ys p' ∧ I p' ∧ AllR R items ys
  | [], p, hp, _ => ⟨[], p, rfl, hp, .nil⟩
  | d :: ds, p, hp, h => by
    obtain ⟨ρ1, e1, y, p1, e2, hp1, r⟩ := h d List.mem_cons_self p hp
    obtain ⟨ys, p2, e3, hp2, rs⟩ := lcGo_draw I R ds p1 hp1 fun d hd => h d (List.mem_cons_of_mem _ hd)
    refine ⟨y :: ys, p2, ?_, hp2, .cons r rs⟩
    simp only [lcGo, e1, ev_mYes, e2, e3]
theorem mLc_draw {vs : List Nat} {mi : M (List D)} {f : D → Sl → Option Sl} {el : M D} {ρ : Sl} {p p1 : Pst} {items : List D} (hi : mi ρ p = .ok items p1) (I : Pst → Prop) (R : D → D → Prop) (hp : I p1)
    (h : ∀ d ∈ items, ∀ p, I p → ∃ ρ1, f d (wipeS ρ vs) = some ρ1 ∧ ∃ y p', el ρ1 p = .ok y p' ∧ I p' ∧ R d y) : ∃ ys p', mLc vs mi f mYes el ρ p = .ok ys p' ∧ I p' ∧ AllR R items ys := by
  obtain ⟨ys, p2, e, h2, h3⟩ := lcGo_draw I R items p1 hp h
  refine ⟨ys, p2, ?_, h2, h3⟩
  unfold mLc
  rw [ev_mbind, hi, andThen_ok, kM_ap]
  simp only [e]
/-- for -/
theorem cforGo_rule {G : D → Sl → Pst → Option (Sl × Pst)} {body : C} (Q : SRes → Prop) : ∀ (items : List D) (I : Nat → Sl → Pst → Prop) (ρ : Sl) (p : Pst), I 0 ρ p →
    (∀ i d ρ p, items[i]? = some d → I i ρ p → ∃ ρ1 p1, G d ρ p = some (ρ1, p1) ∧ (match body ρ1 p1 with | .nx ρ' p' => I (i + 1) ρ' p' | .ct ρ' p' => I (i + 1) ρ' p' | .bk ρ' p' => Q (.nx ρ' p') | .stuck => False | r => Q r)) →
    (∀ ρ p, I items.length ρ p → Q (.nx ρ p)) → Q (cforGo G body items ρ p)
  | [], I, ρ, p, h0, _, hd => hd ρ p h0
  | d :: ds, I, ρ, p, h0, hs, hd => by
    obtain ⟨ρ1, p1, e, hb⟩ := hs 0 d ρ p rfl h0
    simp only [cforGo, e]
    have again : ∀ ρ' p', I 1 ρ' p' → Q (cforGo G body ds ρ' p') := fun ρ' p' h => cforGo_rule Q ds (fun i => I (i + 1)) ρ' p' h (fun i d ρ p hi hI => hs (i + 1) d ρ p (by simpa using hi) hI) fun ρ p h => hd ρ p h
    cases q : body ρ1 p1 with
    | nx ρ' p' => rw [q] at hb; exact again ρ' p' hb
    | ct ρ' p' => rw [q] at hb; exact again ρ' p' hb
    | bk ρ' p' => rw [q] at hb; exact hb
    | rt d fr p' => rw [q] at hb; exact hb
    | exc x ρ' p' => rw [q] at hb; exact hb
    | stuck => rw [q] at hb; exact hb.elim
/-- while, by a measure -/
theorem cwhile_rule {mt : M Bool} {body : C} (Q : SRes → Prop) (I : Sl → Pst → Prop) (μ : Sl → Pst → Nat)
    (step : ∀ ρ p, I ρ p → ∃ k p1, mt ρ p = .ok k p1 ∧ (k = false → Q (.nx ρ p1)) ∧ (k = true → (match body ρ p1 with | .nx ρ' p' => I ρ' p' ∧ μ ρ' p' < μ ρ p | .ct ρ' p' => I ρ' p' ∧ μ ρ' p' < μ ρ p | .bk ρ' p' => Q (.nx ρ' p') | .stuck => False | r => Q r))) :
    ∀ (n : Nat) (ρ : Sl) (p : Pst), I ρ p → μ ρ p < n → Q (cwhile mt body n ρ p)
  | 0, ρ, p, _, h => absurd h (Nat.not_lt_zero _)
  | n + 1, ρ, p, hI, hm => by
    obtain ⟨k, p1, e, h0, h1⟩ := step ρ p hI
    simp only [cwhile, ev_eout, e, andS_ok, kC_ap]
    cases k with
    | false => simpa using h0 rfl
    | true =>
      have hb := h1 rfl
      simp only [if_true]
      cases q : body ρ p1 with
      | nx ρ' p' =>
        rw [q] at hb
        exact cwhile_rule Q I μ step n ρ' p' hb.1 (by have := hb.2; omega)
      | ct ρ' p' =>
        rw [q] at hb
        exact cwhile_rule Q I μ step n ρ' p' hb.1 (by have := hb.2; omega)
      | bk ρ' p' => rw [q] at hb; exact hb
      | rt d fr p' => rw [q] at hb; exact hb
      | exc x ρ' p' => rw [q] at hb; exact hb
      | stuck => rw [q] at hb; exact hb.elim
/-- while, by the number of turns: s the states turn by turn -/
theorem cwhile_step {mt : M Bool} {body : C} {n : Nat} {ρ ρ' : Sl} {p p1 p' : Pst} (h : mt ρ p = .ok true p1) (h2 : body ρ p1 = .nx ρ' p') : cwhile mt body (n + 1) ρ p = cwhile mt body n ρ' p' := by
  simp [cwhile, h, h2]
theorem cwhile_end {mt : M Bool} {body : C} {n : Nat} {ρ : Sl} {p p1 : Pst} (h : mt ρ p = .ok false p1) : cwhile mt body (n + 1) ρ p = .nx ρ p1 := by
  simp [cwhile, h]

/-! ### the pot -/
structure Good (g : Nat) (p : Pst) : Prop where
  g : p.g = g
  a : 0 ≤ p.a
  b : 0 ≤ p.b
  bl : p.b < 4294967296
/-- _law_draw, with its numbers -/
def drawC (A B M1 M2 S : Int) : C := cseq (cif (mCmp dGt (mIx (rd 0) (mret (.int 0))) (mret (.int 0))) (cseq (casgT (tgTup 2 (tgCons (tgSub 0 (mret (.int 0))) (tgCons (tgName 2) (tgNil)))) (mCall dDivmod (mcons (mIx (rd 0) (mret (.int 0))) (mcons (rd 1) (mret []))))) (cret (rd 2))) (cskip)) (cseq (casgT (tgSub 0 (mret (.int 1))) (mOp dMod (mCall dInt (mcons (mOp dAdd (mOp dMul (mIx (rd 0) (mret (.int 1))) (mret (.int A))) (mret (.int B))) (mret []))) (mret (.int M1)))) (cret (mOp dMod (mCall dInt (mcons (mOp dDiv (mOp dMod (mCall dInt (mcons (mOp dMul (mIx (rd 0) (mret (.int 1))) (mIx (rd 0) (mret (.int 1)))) (mret []))) (mret (.int M2))) (mret (.int S))) (mret []))) (rd 1))))
theorem draw_ok {A B M1 M2 S : Int} (hM1 : 0 < M1) (hM1' : M1 ≤ 4294967296) (hM2 : 0 < M2) (hS : 0 < S) (hS' : S < 1073741824) {g : Nat} {m : Int} {p : Pst} (hm : 0 < m) (hm2 : m < 1073741824) (hp : Good g p) :
    ∃ d p', fres 3 2 (drawC A B M1 M2 S) [.pot g, .int m] p = .ok (.int d) false p' ∧ 0 ≤ d ∧ d < m ∧ Good g p' := by
  obtain ⟨rfl, h1, h2, h3⟩ := hp
  have en : fres 3 2 (drawC A B M1 M2 S) [.pot p.g, .int m] p = sres (drawC A B M1 M2 S [some (.val (.pot p.g)), some (.val (.int m)), none] p) := rfl
  rw [en]
  unfold drawC
  by_cases hc : 0 < p.a
  · refine ⟨p.a % m, ⟨p.g, p.a / m, p.b⟩, ?_, Int.emod_nonneg _ (by omega), Int.emod_lt_of_pos _ hm, rfl, Int.ediv_nonneg h1 (by omega), h2, h3⟩
    simp [hc, casgT, dDivmod_int hm hm2, tgTup, tgCons, tgSub, tgName, tgNil, setPot]
  · have q1 := Int.emod_nonneg (p.b * A + B) (show M1 ≠ 0 by omega)
    have q2 := Int.emod_lt_of_pos (p.b * A + B) hM1
    refine ⟨((p.b * A + B) % M1 * ((p.b * A + B) % M1)) % M2 / S % m, ⟨p.g, p.a, (p.b * A + B) % M1⟩, ?_, Int.emod_nonneg _ (by omega), Int.emod_lt_of_pos _ hm, rfl, h1, q1, (by show (p.b * A + B) % M1 < 4294967296; omega)⟩
    have e1 : dMul (.int p.b) (.int A) = some (.int (p.b * A)) := dMul_int (.inl (by omega))
    have e2 : dMul (.int ((p.b * A + B) % M1)) (.int ((p.b * A + B) % M1)) = some (.int ((p.b * A + B) % M1 * ((p.b * A + B) % M1))) := dMul_int (.inl (by omega))
    have e3 : ∀ (q : Pst) (ρ : Sl), q.g = p.g → ixAny (.pot p.g) (.int 1) ρ q = .ok (.int q.b) q := fun q ρ h => by rw [← h]; exact ev_pot1
    simp [hc, casgT, tgSub, setPot, e1, e2, e3, dMod_int hM1, dMod_int hM2, dMod_int hm, dDiv_int hS hS']
/-- _law_pick -/
def pickC (dr : Fn) : C := cret (mOp dIx (rd 1) (mFn dr 2 0 [0, 1] (mcons (rd 0) (mcons (mCall dLen (mcons (rd 1) (mret []))) (mret []))) (mret [])))
theorem pick_ok {dr : Fn} (hd : ∀ {g : Nat} {m : Int} {p : Pst}, 0 < m → m < 1073741824 → Good g p → ∃ d p', dr [.pot g, .int m] p = .ok (.int d) false p' ∧ 0 ≤ d ∧ d < m ∧ Good g p') {g : Nat} {p : Pst} {xs : List D} (h0 : xs ≠ []) (hl : xs.length < 1073741824) (hp : Good g p) :
    ∃ d p', fres 2 2 (pickC dr) [.pot g, .lst xs] p = .ok d false p' ∧ d ∈ xs ∧ Good g p' := by
  have hpos : 0 < xs.length := List.length_pos_iff.mpr h0
  obtain ⟨i, p', e, h1, h2, h3⟩ := hd (m := (xs.length : Int)) (by omega) (by omega) hp
  have hi : i.toNat < xs.length := by omega
  have hx : xs[i.toNat]? = some xs[i.toNat] := by simp [hi]
  have hix : dIx (.lst xs) (.int i) = some xs[i.toNat] := by
    have := dIx_lst hx
    rwa [Int.toNat_of_nonneg h1] at this
  refine ⟨xs[i.toNat], p', ?_, List.getElem_mem _, h3⟩
  have en : fres 2 2 (pickC dr) [.pot g, .lst xs] p = sres (pickC dr [some (.val (.pot g)), some (.val (.lst xs))] p) := rfl
  rw [en]
  unfold pickC
  simp [dLen_lst, e, hix]
/-- _law_pot, the usual one -/
def potC (A B U V W M1 M2 Z : Int) : C := cseq (casg 2 (mIf (mCmp dLt (rd 1) (mCall dLen (mcons (rd 0) (mret [])))) (mCall dAbs (mcons (mOp dIx (rd 0) (rd 1)) (mret []))) (mOp dAdd (mOp dMul (mret (.int A)) (rd 1)) (mret (.int B))))) (cretpot (mcons (mCall dMax2 (mcons (mret (.int 0)) (mcons (mOp dSub (rd 2) (mOp dPow (mret (.int 10)) (mret (.int 18)))) (mret [])))) (mcons (mOp dAdd (mOp dMod (mCall dInt (mcons (mOp dAdd (mOp dAdd (mOp dMul (mOp dMod (mCall dInt (mcons (rd 2) (mret []))) (mret (.int M1))) (mret (.int U))) (mOp dMul (mret (.int V)) (rd 1))) (mret (.int W))) (mret []))) (mret (.int M2))) (mret (.int Z))) (mret []))))
theorem pot_ok {A B U V W M1 M2 Z : Int} (hM1 : 0 < M1) (hM1' : M1 ≤ 4294967296) (hM2 : 0 < M2) (hM2' : M2 + Z ≤ 4294967296) (hZ : 0 ≤ Z) (hA : A.natAbs < 2 ^ 64) (hV : V.natAbs < 2 ^ 64) {ns : List Int} {k : Nat} {p : Pst} :
    ∃ g p', fres 3 2 (potC A B U V W M1 M2 Z) [.scr ns, .int k] p = .ok (.pot g) false p' ∧ Good g p' := by
  have en : fres 3 2 (potC A B U V W M1 M2 Z) [.scr ns, .int k] p = sres (potC A B U V W M1 M2 Z [some (.val (.scr ns)), some (.val (.int k)), none] p) := rfl
  rw [en]
  obtain ⟨c, hc⟩ : ∃ c : Int, mIf (mCmp dLt (rd 1) (mCall dLen (mcons (rd 0) (mret [])))) (mCall dAbs (mcons (mOp dIx (rd 0) (rd 1)) (mret []))) (mOp dAdd (mOp dMul (mret (.int A)) (rd 1)) (mret (.int B))) [some (.val (.scr ns)), some (.val (.int k)), none] p = .ok (.int c) p := by
    by_cases h : k < ns.length
    · have h1 : (k : Int) < (ns.length : Int) := by omega
      have e : dIx (.scr ns) (.int k) = some (.int ns[k]) := by
        simp only [dIx, atI, ixN]
        rw [if_pos (by omega), if_pos h1]
        simp [h]
      exact ⟨if ns[k] < 0 then -ns[k] else ns[k], by simp [dLen_scr, h, e]⟩
    · exact ⟨A * k + B, by simp [dLen_scr, h, dMul_int (.inl hA)]⟩
  have q1 := Int.emod_nonneg (c % M1 * U + V * k + W) (show M2 ≠ 0 by omega)
  have q2 := Int.emod_lt_of_pos (c % M1 * U + V * k + W) hM2
  have q3 := Int.emod_nonneg c (show M1 ≠ 0 by omega)
  have q4 := Int.emod_lt_of_pos c hM1
  have e1 : dMul (.int (c % M1)) (.int U) = some (.int (c % M1 * U)) := dMul_int (.inl (by omega))
  have e2 : dMul (.int V) (.int k) = some (.int (V * k)) := dMul_int (.inl hV)
  have e3 : dPow (.int 10) (.int 18) = some (.int (10 ^ 18)) := dPow_int (by decide) (by decide) (by decide)
  refine ⟨p.g + 1, ⟨p.g + 1, if 0 < c - 10 ^ 18 then c - 10 ^ 18 else 0, (c % M1 * U + V * k + W) % M2 + Z⟩, ?_, rfl, ?_, ?_, ?_⟩
  · unfold potC
    rw [ev_cseq, ev_casg, ev_eout, hc]
    simp [cretpot, e1, e2, e3, dMod_int hM1, dMod_int hM2]
  · show 0 ≤ (if 0 < c - 10 ^ 18 then c - 10 ^ 18 else 0)
    split <;> omega
  · show 0 ≤ (c % M1 * U + V * k + W) % M2 + Z
    omega
  · show (c % M1 * U + V * k + W) % M2 + Z < 4294967296
    omega
end PF

namespace PF
open PySem PySem.Spec PyProof.Rows L2

/-! ### code that neither looks at the pot nor changes it -/
def Res.at {α : Type} (r : Res α) (q : Pst) : Res α := match r with
  | .ok a _ => .ok a q
  | .exc x _ => .exc x q
  | .stuck => .stuck
def SRes.at (r : SRes) (q : Pst) : SRes := match r with
  | .nx ρ _ => .nx ρ q
  | .rt d fr _ => .rt d fr q
  | .bk ρ _ => .bk ρ q
  | .ct ρ _ => .ct ρ q
  | .exc x ρ _ => .exc x ρ q
  | .stuck => .stuck
def FRes.at (r : FRes) (q : Pst) : FRes := match r with
  | .ok d fr _ => .ok d fr q
  | .exc x _ => .exc x q
  | .stuck => .stuck
def IM {α : Type} (m : M α) : Prop := ∀ ρ p q, m ρ q = (m ρ p).at q
def IC (c : C) : Prop := ∀ ρ p q, c ρ q = (c ρ p).at q
def IF (G : Fn) : Prop := ∀ ds p q, G ds q = (G ds p).at q
section
variable {α β : Type}
theorem im_ret (a : α) : IM (mret a) := fun _ _ _ => rfl
theorem im_stuck : IM (mstuck : M α) := fun _ _ _ => rfl
theorem im_opt (o : Option α) : IM (mopt o) := fun _ _ _ => by cases o <;> rfl
theorem im_bind {m : M α} {k : α → M β} (h : IM m) (hk : ∀ a, IM (k a)) : IM (mbind m k) := fun ρ p q => by
  rw [ev_mbind, ev_mbind, h ρ p q]
  cases e : m ρ p with
  | ok a p' =>
    simp only [Res.at]
    have : p' = p := by
      have := h ρ p p
      rw [e] at this
      simp only [Res.at, Res.ok.injEq] at this
      exact this.2
    subst this
    exact hk a ρ _ q
  | exc x p' => rfl
  | stuck => rfl
theorem im_rd (i : Nat) : IM (rd i) := fun ρ p q => by
  simp only [ev_rd]
  cases ρ[i]? with
  | none => rfl
  | some o =>
    cases o with
    | none => rfl
    | some w => cases w <;> rfl
theorem im_ite {c : Prop} [Decidable c] {m m' : M α} (h : IM m) (h' : IM m') : IM (if c then m else m') := by split <;> assumption
theorem im_op (f) {ma mb : M D} (ha : IM ma) (hb : IM mb) : IM (mOp f ma mb) := im_bind ha fun _ => im_bind hb fun _ => im_opt _
theorem im_opo (f) {ma mb : M D} (ha : IM ma) (hb : IM mb) : IM (mOpo f ma mb) := im_bind ha fun _ => im_bind hb fun _ => im_opt _
theorem im_cmp (f) {ma mb : M D} (ha : IM ma) (hb : IM mb) : IM (mCmp f ma mb) := im_bind ha fun _ => im_bind hb fun _ => im_opt _
theorem im_b {m : M Bool} (h : IM m) : IM (mB m) := im_bind h fun _ => im_ret _
theorem im_un (f) {ma : M D} (ha : IM ma) : IM (mUn f ma) := im_bind ha fun _ => im_opt _
theorem im_and {t u : M Bool} (h : IM t) (h' : IM u) : IM (mAnd t u) := im_bind h fun _ => im_ite h' (im_ret _)
theorem im_or {t u : M Bool} (h : IM t) (h' : IM u) : IM (mOr t u) := im_bind h fun _ => im_ite (im_ret _) h'
theorem im_not {t : M Bool} (h : IM t) : IM (mNot t) := im_bind h fun _ => im_ret _
theorem im_if {t : M Bool} {m m' : M α} (h : IM t) (h1 : IM m) (h2 : IM m') : IM (mIf t m m') := im_bind h fun _ => im_ite h1 h2
theorem im_frz {mo : M (List D)} (h : IM mo) : IM (mfrz mo) := im_bind h fun _ => im_ret _
theorem im_cons {ma : M D} {ms : M (List D)} (h : IM ma) (h' : IM ms) : IM (mcons ma ms) := im_bind h fun _ => im_bind h' fun _ => im_ret _
theorem im_lim {ms : M (List D)} (h : IM ms) : IM (mlim ms) := im_bind h fun _ => im_ite (im_ret _) im_stuck
theorem im_tup {ms : M (List D)} (h : IM ms) : IM (mtup ms) := im_bind h fun _ => im_ite (im_ret _) im_stuck
theorem im_call (f) {ms : M (List D)} (h : IM ms) : IM (mCall f ms) := im_bind h fun _ => im_opt _
theorem im_lst (f) {ms : M (List D)} (h : IM ms) : IM (mLst f ms) := im_bind h fun _ => im_opt _
theorem im_isi (t) {m : M D} (h : IM m) : IM (mIsi t m) := im_bind h fun _ => im_ite (im_ret _) im_stuck
theorem im_isis (t) {m : M D} (h : IM m) : IM (mIsis t m) := im_bind h fun _ => im_ite (im_ret _) im_stuck
theorem im_isN {m : M D} (h : IM m) : IM (mIsN m) := im_bind h fun _ => im_ite (im_ret _) im_stuck
theorem im_notN {m : M D} (h : IM m) : IM (mNotN m) := im_bind h fun _ => im_ite (im_ret _) im_stuck
theorem im_chain (f g) {ma mb mc : M D} (ha : IM ma) (hb : IM mb) (hc : IM mc) : IM (mChain f g ma mb mc) := im_bind ha fun _ => im_bind hb fun _ => im_bind (im_opt _) fun _ => im_ite (im_bind hc fun _ => im_opt _) (im_ret _)
theorem im_seq {m : M D} (h : IM m) : IM (mSeq m) := im_bind h fun d => by
  cases d <;> first | exact im_ret _ | exact im_stuck | (unfold seqD; exact im_ite (im_ret _) im_stuck)
theorem im_range1 {m : M (List D)} (h : IM m) : IM (mRange1 m) := im_bind h fun _ => im_opt _
theorem im_range2 {m : M (List D)} (h : IM m) : IM (mRange2 m) := im_bind h fun _ => im_opt _
theorem im_enum {m : M (List D)} (h : IM m) : IM (mEnum m) := im_bind h fun d => by split <;> first | exact im_ret _ | exact im_stuck
theorem im_zip {m : M (List D)} (h : IM m) : IM (mZip m) := im_bind h fun d => by split <;> first | exact im_ret _ | exact im_stuck
theorem im_t {m : M D} (h : IM m) : IM (mT m) := im_bind h fun d => by cases d <;> first | exact im_ret _ | exact im_stuck
theorem im_notV {m : M D} (h : IM m) : IM (mNotV m) := im_bind h fun d => by cases d <;> first | exact im_ret _ | exact im_stuck
theorem im_andV {t u : M D} (h : IM t) (h' : IM u) : IM (mAndV t u) := im_bind h fun d => by cases d <;> first | exact im_stuck | exact im_ite h' (im_ret _)
theorem im_orV {t u : M D} (h : IM t) (h' : IM u) : IM (mOrV t u) := im_bind h fun d => by cases d <;> first | exact im_stuck | exact im_ite (im_ret _) h'
theorem im_part {m : M D} (h : IM m) : IM (mPart m) := im_bind h fun d => by cases d <;> first | exact im_ret _ | exact im_stuck
theorem im_sl {me : M D} {ml mh : M (Option Int)} (h : IM me) (hl : IM ml) (hh : IM mh) : IM (mSl me ml mh) := im_bind h fun _ => im_bind hl fun _ => im_bind hh fun _ => im_opt _
theorem im_slo {me : M D} {ml mh : M (Option Int)} (h : IM me) (hl : IM ml) (hh : IM mh) : IM (mSlo me ml mh) := im_bind h fun d => im_bind hl fun _ => im_bind hh fun _ => by cases d <;> first | exact im_ret _ | exact im_stuck
theorem im_rev {me : M D} (h : IM me) : IM (mRevo me) := im_bind h fun d => by cases d <;> first | exact im_ret _ | exact im_stuck
theorem im_uV {ma : M D} {ms : M (List W)} (h : IM ma) (h' : IM ms) : IM (muV ma ms) := im_bind h fun _ => im_bind h' fun _ => im_ret _
theorem im_uO {ma : M (List D)} {ms : M (List W)} (h : IM ma) (h' : IM ms) : IM (muO ma ms) := im_bind h fun _ => im_bind h' fun _ => im_ret _
theorem im_outFn {f : D → Bool → Option α} {G : Fn} (h : IF G) (ds : List D) : IM fun _ p => outFn f (G ds p) := fun ρ p q => by
  show outFn f (G ds q) = (outFn f (G ds p)).at q
  rw [h ds p q]
  cases G ds p with
  | ok d fr p' =>
    simp only [FRes.at, ev_outFn]
    cases f d fr <;> rfl
  | exc x p' => rfl
  | stuck => rfl
theorem im_fn {G : Fn} (h : IF G) (n m ix) {ms mk : M (List D)} (hs : IM ms) (hk : IM mk) : IM (mFn G n m ix ms mk) := im_bind hs fun ds => im_bind hk fun es ρ p q => by
  show (if _ then _ else _) = (if _ then _ else _ : Res D).at q
  split
  · exact im_outFn h _ ρ p q
  · rfl
theorem im_fno {G : Fn} (h : IF G) (n m ix) {ms mk : M (List D)} (hs : IM ms) (hk : IM mk) : IM (mFno G n m ix ms mk) := im_bind hs fun ds => im_bind hk fun es ρ p q => by
  show (if _ then _ else _) = (if _ then _ else _ : Res (List D)).at q
  split
  · exact im_outFn h _ ρ p q
  · rfl
/-- items of what is no pot -/
theorem im_ixO (i) {mb : M D} (h : IM mb) : IM (mIxO i mb) := fun ρ p q => by
  unfold mIxO
  split
  · exact im_bind h (fun _ => im_opt _) ρ p q
  · rfl
theorem im_scal {m : M D} (h : IM m) : IM (mscal m) := fun ρ p q => by
  unfold mscal
  rw [h (thaw ρ) p q]
  cases m (thaw ρ) p with
  | ok a p' => simp only [Res.at]; split <;> rfl
  | exc x p' => rfl
  | stuck => rfl
theorem im_scalt {m : M Bool} (h : IM m) : IM (mscalt m) := fun ρ p q => by
  unfold mscalt
  rw [h (thaw ρ) p q]
  cases m (thaw ρ) p with
  | ok a p' => rfl
  | exc x p' => rfl
  | stuck => rfl
theorem im_same {m : M α} (h : IM m) {ρ : Sl} {p p' : Pst} {a : α} (e : m ρ p = .ok a p') : p' = p := by
  have := h ρ p p
  rw [e] at this
  simp only [Res.at, Res.ok.injEq] at this
  exact this.2
theorem im_lcGo {f : D → Sl → Option Sl} {tt : M Bool} {el : M D} (ht : IM tt) (he : IM el) : ∀ items, IM (lcGo f tt el items)
  | [] => im_ret _
  | x :: xs => fun ρ p q => by
    have ih := im_lcGo (f := f) ht he xs
    simp only [lcGo]
    cases f x ρ with
    | none => rfl
    | some ρ1 =>
      simp only
      rw [ht ρ1 p q]
      cases e1 : tt ρ1 p with
      | stuck => rfl
      | exc y p' => rfl
      | ok b p1 =>
        obtain rfl := im_same ht e1
        cases b with
        | false => simp only [Res.at]; exact ih ρ _ q
        | true =>
          simp only [Res.at]
          rw [he ρ1 p1 q]
          cases e2 : el ρ1 p1 with
          | stuck => rfl
          | exc y p' => rfl
          | ok y p2 =>
            obtain rfl := im_same he e2
            simp only [Res.at]
            rw [ih ρ p2 q]
            cases e3 : lcGo f tt el xs ρ p2 <;> rfl
theorem im_lc (vs) {mi : M (List D)} (f) {tt : M Bool} {el : M D} (hi : IM mi) (ht : IM tt) (he : IM el) : IM (mLc vs mi f tt el) := im_bind hi fun items ρ p q => by
  show (match lcGo f tt el items (wipeS ρ vs) q with | .ok ys p' => .ok ys p' | _ => Res.stuck) = Res.at (match lcGo f tt el items (wipeS ρ vs) p with | .ok ys p' => .ok ys p' | _ => Res.stuck) q
  rw [im_lcGo ht he items (wipeS ρ vs) p q]
  cases lcGo f tt el items (wipeS ρ vs) p <;> rfl
theorem im_yes : IM mYes := im_ret _
/-- blocks -/
theorem ic_skip : IC cskip := fun _ _ _ => rfl
theorem ic_brk : IC cbrk := fun _ _ _ => rfl
theorem ic_cnt : IC ccnt := fun _ _ _ => rfl
theorem ic_stuck : IC cstuck := fun _ _ _ => rfl
theorem ic_retN : IC cretN := fun _ _ _ => rfl
theorem ic_seq {a b : C} (ha : IC a) (hb : IC b) : IC (cseq a b) := fun ρ p q => by
  rw [ev_cseq, ev_cseq, ha ρ p q]
  cases e : a ρ p with
  | nx ρ' p' =>
    have := ha ρ p p
    rw [e] at this
    simp only [SRes.at, SRes.nx.injEq, true_and] at this
    subst this
    exact hb ρ' _ q
  | rt d fr p' => rfl
  | bk ρ' p' => rfl
  | ct ρ' p' => rfl
  | exc x ρ' p' => rfl
  | stuck => rfl
theorem ic_eout {m : M α} {k : α → C} (h : IM m) (hk : ∀ a, IC (k a)) : IC (eout m k) := fun ρ p q => by
  rw [ev_eout, ev_eout, h ρ p q]
  cases e : m ρ p with
  | ok a p' =>
    obtain rfl := im_same h e
    exact hk a ρ _ q
  | exc x p' => rfl
  | stuck => rfl
theorem ic_ite {c : Prop} [Decidable c] {m m' : C} (h : IC m) (h' : IC m') : IC (if c then m else m') := by split <;> assumption
theorem ic_expr {m : M D} (h : IM m) : IC (cexpr m) := ic_eout h fun _ => ic_skip
theorem ic_ret {m : M D} (h : IM m) : IC (cret m) := ic_eout h fun _ _ _ _ => rfl
theorem ic_reto {m : M (List D)} (h : IM m) : IC (creto m) := ic_eout h fun _ _ _ _ => rfl
theorem ic_retown (i) : IC (cretown i) := fun ρ p q => by unfold cretown; split <;> rfl
theorem ic_if {t : M Bool} {a b : C} (h : IM t) (ha : IC a) (hb : IC b) : IC (cif t a b) := ic_eout h fun _ => ic_ite ha hb
theorem ic_asg (i) {m : M D} (h : IM m) : IC (casg i m) := ic_eout h fun _ _ _ _ => rfl
theorem ic_aso (i) {m : M (List D)} (h : IM m) : IC (caso i m) := ic_eout h fun _ _ _ _ => rfl
theorem ic_frz (i) : IC (cfrz i) := fun ρ p q => by unfold cfrz; split <;> rfl
theorem ic_asgW (is) {m : M (List W)} (h : IM m) : IC (casgW is m) := ic_eout h fun ws ρ p q => by
  show (if _ then _ else _) = SRes.at (if _ then _ else _) q
  split <;> rfl
theorem ic_app (i) {m : M D} (h : IM m) : IC (capp i m) := fun ρ p q => by
  unfold capp
  split
  · exact ic_eout h (fun a ρ p q => by show (if _ then _ else _) = SRes.at (if _ then _ else _) q; split <;> rfl) ρ p q
  · rfl
theorem ic_pop (i) : IC (cpop i) := fun ρ p q => by
  unfold cpop
  split
  · split <;> rfl
  · rfl
def ITg (G : D → Sl → Pst → Option (Sl × Pst)) : Prop := ∀ d ρ p q, G d ρ q = (G d ρ p).map fun x => (x.1, q)
def ITgs (G : List D → Sl → Pst → Option (Sl × Pst)) : Prop := ∀ d ρ p q, G d ρ q = (G d ρ p).map fun x => (x.1, q)
theorem it_name (i) : ITg (tgName i) := fun _ _ _ _ => rfl
theorem it_nil : ITgs tgNil := fun d ρ p q => by cases d <;> rfl
theorem it_cons {f fs} (h : ITg f) (h' : ITgs fs) : ITgs (tgCons f fs) := fun d ρ p q => by
  cases d with
  | nil => rfl
  | cons d r =>
    simp only [tgCons]
    rw [h d ρ p q]
    cases e : f d ρ p with
    | none => rfl
    | some w =>
      obtain ⟨ρ1, p1⟩ := w
      have := h d ρ p p
      rw [e] at this
      simp only [Option.map_some, Option.some.injEq, Prod.mk.injEq, true_and] at this
      subst this
      exact h' r ρ1 _ q
theorem it_tup (n) {fs} (h : ITgs fs) : ITg (tgTup n fs) := fun d ρ p q => by
  cases d <;> first | rfl | skip
  simp only [tgTup]
  split
  · exact h _ ρ p q
  · rfl
theorem ic_forGo {G} {body : C} (hG : ITg G) (hb : IC body) : ∀ items, IC (cforGo G body items)
  | [] => ic_skip
  | d :: ds => fun ρ p q => by
    have ih := ic_forGo hG hb ds
    simp only [cforGo]
    rw [hG d ρ p q]
    cases e : G d ρ p with
    | none => rfl
    | some w =>
      obtain ⟨ρ1, p1⟩ := w
      have := hG d ρ p p
      rw [e] at this
      simp only [Option.map_some, Option.some.injEq, Prod.mk.injEq, true_and] at this
      subst this
      simp only [Option.map_some]
      rw [hb ρ1 p1 q]
      have same := hb ρ1 p1 p1
      cases e2 : body ρ1 p1 with
      | nx ρ' p' =>
        rw [e2] at same
        simp only [SRes.at, SRes.nx.injEq, true_and] at same
        subst same
        exact ih ρ' _ q
      | ct ρ' p' =>
        rw [e2] at same
        simp only [SRes.at, SRes.ct.injEq, true_and] at same
        subst same
        exact ih ρ' _ q
      | bk ρ' p' => rfl
      | rt d fr p' => rfl
      | exc x ρ' p' => rfl
      | stuck => rfl
theorem ic_for {mi : M (List D)} {G} {body : C} (h : IM mi) (hG : ITg G) (hb : IC body) : IC (cfor mi G body) := ic_eout h fun _ => ic_forGo hG hb _
theorem ic_while {mt : M Bool} {body : C} (h : IM mt) (hb : IC body) : ∀ n, IC (cwhile mt body n)
  | 0 => ic_stuck
  | n + 1 => ic_eout h fun k => ic_ite (fun ρ p q => by
    have ih := ic_while h hb n
    show (match body ρ q with | .nx ρ' p' => cwhile mt body n ρ' p' | .ct ρ' p' => cwhile mt body n ρ' p' | .bk ρ' p' => .nx ρ' p' | r => r) = SRes.at (match body ρ p with | .nx ρ' p' => cwhile mt body n ρ' p' | .ct ρ' p' => cwhile mt body n ρ' p' | .bk ρ' p' => .nx ρ' p' | r => r) q
    rw [hb ρ p q]
    have same := hb ρ p p
    cases e2 : body ρ p with
    | nx ρ' p' =>
      rw [e2] at same
      simp only [SRes.at, SRes.nx.injEq, true_and] at same
      subst same
      exact ih ρ' _ q
    | ct ρ' p' =>
      rw [e2] at same
      simp only [SRes.at, SRes.ct.injEq, true_and] at same
      subst same
      exact ih ρ' _ q
    | bk ρ' p' => rfl
    | rt d fr p' => rfl
    | exc x ρ' p' => rfl
    | stuck => rfl) ic_skip
theorem if_fres (n k) {c : C} (h : IC c) : IF (fres n k c) := fun ds p q => by
  unfold fres
  split
  · rw [h _ p q]
    cases c (ds.map (fun d => some (W.val d)) ++ List.replicate (n - k) none) p <;> rfl
  · rfl
/-- what is seen at one state of the pot holds at all -/
theorem IF.use {G : Fn} (h : IF G) {ds : List D} {p0 p1 : Pst} {d : D} {fr : Bool} (e : G ds p0 = .ok d fr p1) (p : Pst) : G ds p = .ok d fr p := by
  rw [h ds p0 p, e]; rfl
end
/-- a function's own list of ints, looked at -/
def intsR : FRes → Option (List Int)
  | .ok (.lst xs) true _ => intsOf xs
  | _ => none
theorem intsOf_eq : ∀ {ds : List D} {ns : List Int}, intsOf ds = some ns → ds = ns.map .int
  | [], ns, h => by simp [intsOf] at h; subst h; rfl
  | d :: ds, ns, h => by
    cases d <;> simp [intsOf] at h
    obtain ⟨l, h1, rfl⟩ := h
    rw [List.map_cons, ← intsOf_eq h1]
theorem IF.ints {G : Fn} (h : IF G) {ds : List D} {p0 : Pst} {l : List Int} (e : intsR (G ds p0) = some l) (p : Pst) : G ds p = .ok (.lst (l.map .int)) true p := by
  unfold intsR at e
  split at e
  · rename_i xs p1 q
    rw [intsOf_eq e] at q
    exact h.use q p
  · cases e
end PF

namespace PF
open PySem PySem.Spec PyProof.Rows L2

/-! ### texts of data: bounds -/
structure RL (n k : Nat) (d : D) : Prop where
  pl : pl d = true
  sh : (toPy d).showable = true
  len : (toPy d).shown.length ≤ n
  dep : dep d ≤ k
theorem RL.ok {n k : Nat} {d : D} (h : RL n k d) (hn : n ≤ 16000000) (hk : k ≤ 60) : okRepr d = true := okRepr_iff.mpr ⟨h.pl, h.sh, by have := h.len; rw [sizeLine_eq]; omega, Nat.le_trans h.dep hk⟩
theorem RL.mono {n k n' k' : Nat} {d : D} (h : RL n k d) (hn : n ≤ n') (hk : k ≤ k') : RL n' k' d := ⟨h.pl, h.sh, Nat.le_trans h.len hn, Nat.le_trans h.dep hk⟩
theorem rl_non : RL 4 0 .non := ⟨rfl, rfl, by decide, Nat.le_refl _⟩
theorem rl_bl (b : Bool) : RL 5 0 (.bl b) := ⟨rfl, rfl, by cases b <;> decide, Nat.le_refl _⟩
theorem rl_int {i : Int} (h : i.natAbs < 10 ^ 12) : RL 13 0 (.int i) := by
  refine ⟨rfl, ?_, PyData.shown_int_le h, Nat.le_refl _⟩
  simp only [toPy, PyData.showable, decide_eq_true_eq]
  by_cases h0 : i.natAbs = 0
  · rw [h0]; decide
  · have h1 : i.natAbs < 2 ^ 40 := Nat.lt_trans h (by decide)
    have h2 : i.natAbs.log2 < 40 := (Nat.log2_lt h0).mpr h1
    omega
theorem showableAll_map : ∀ xs : List D, (∀ x ∈ xs, (toPy x).showable = true) → PyData.showableAll (toPys xs) = true
  | [], _ => by simp [toPys, PyData.showableAll]
  | x :: xs, h => by
    simp only [toPys, PyData.showableAll, Bool.and_eq_true]
    exact ⟨h x List.mem_cons_self, showableAll_map xs fun y hy => h y (List.mem_cons_of_mem _ hy)⟩
theorem shownAll_sum (n : Nat) : ∀ xs : List D, (∀ x ∈ xs, (toPy x).shown.length ≤ n) → ((PyData.shownAll (toPys xs)).map (·.length)).sum ≤ xs.length * n ∧ (PyData.shownAll (toPys xs)).length = xs.length
  | [], _ => by simp [toPys, PyData.shownAll]
  | x :: xs, h => by
    obtain ⟨h1, h2⟩ := shownAll_sum n xs fun y hy => h y (List.mem_cons_of_mem _ hy)
    have h3 := h x List.mem_cons_self
    simp only [toPys, PyData.shownAll, List.map_cons, List.sum_cons, List.length_cons, h2]
    refine ⟨?_, trivial⟩
    rw [Nat.add_mul]; omega
theorem deps_le (k : Nat) : ∀ xs : List D, (∀ x ∈ xs, dep x ≤ k) → deps xs ≤ k
  | [], _ => by simp [deps]
  | x :: xs, h => by
    simp only [deps]
    exact Nat.max_le.mpr ⟨h x List.mem_cons_self, deps_le k xs fun y hy => h y (List.mem_cons_of_mem _ hy)⟩
theorem rl_lst {n k : Nat} {xs : List D} (h : ∀ x ∈ xs, RL n k x) : RL (xs.length * (n + 2) + 3) (k + 1) (.lst xs) := by
  obtain ⟨h1, h2⟩ := shownAll_sum n xs fun x hx => (h x hx).len
  refine ⟨?_, ?_, ?_, ?_⟩
  · simp only [PF.pl, pls_all, List.all_eq_true]; exact fun x hx => (h x hx).pl
  · simp only [toPy, PyData.showable]; exact showableAll_map xs fun x hx => (h x hx).sh
  · have := listText_len_le (PyData.shownAll (toPys xs))
    simp only [toPy, PyData.shown]
    rw [h2] at this
    rw [Nat.mul_add]; omega
  · simp only [PF.dep]; have := deps_le k xs fun x hx => (h x hx).dep; omega
theorem rl_tup {n k : Nat} {xs : List D} (h : ∀ x ∈ xs, RL n k x) : RL (xs.length * (n + 2) + 3) (k + 1) (.tup xs) := by
  obtain ⟨h1, h2⟩ := shownAll_sum n xs fun x hx => (h x hx).len
  refine ⟨?_, ?_, ?_, ?_⟩
  · simp only [PF.pl, pls_all, List.all_eq_true]; exact fun x hx => (h x hx).pl
  · simp only [toPy, PyData.showable]; exact showableAll_map xs fun x hx => (h x hx).sh
  · have := tupleText_len_le (PyData.shownAll (toPys xs))
    simp only [toPy, PyData.shown]
    rw [h2] at this
    rw [Nat.mul_add]; omega
  · simp only [PF.dep]; have := deps_le k xs fun x hx => (h x hx).dep; omega
theorem dReprF_ok {d : D} (h : okRepr d = true) : dReprF [d] = some (.str (rtext d)) := by simp [dReprF, h]
/-! ### == on data -/
theorem okEq_bl (b : Bool) : okEq (.bl b) = true := by cases b <;> rfl
theorem okEq_non : okEq .non = true := rfl
theorem okEq_int (i : Int) : okEq (.int i) = true := by simp [okEq, pl, dep]
theorem dep_ints (ns : List Int) : deps (ns.map .int) = 0 := by
  induction ns with
  | nil => simp [deps]
  | cons n ns ih => simp [deps, dep, ih]
theorem pls_ints (ns : List Int) : pls (ns.map .int) = true := by
  rw [pls_all, List.all_eq_true]
  intro x hx
  obtain ⟨n, _, rfl⟩ := List.mem_map.mp hx
  rfl
theorem okEq_ints (ns : List Int) : okEq (.lst (ns.map .int)) = true := by simp [okEq, pl, dep, dep_ints, pls_ints]
theorem okEq_intsT (ns : List Int) : okEq (.tup (ns.map .int)) = true := by simp [okEq, pl, dep, dep_ints, pls_ints]
@[simp] theorem dEq_bl (a b : Bool) : dEq (.bl a) (.bl b) = some (decide (a = b)) := by cases a <;> cases b <;> rfl
@[simp] theorem dNe_bl (a b : Bool) : dNe (.bl a) (.bl b) = some (!decide (a = b)) := by cases a <;> cases b <;> rfl
theorem eqvAll_ints : ∀ ms ns : List Int, PyData.eqvAll (toPys (ms.map .int)) (toPys (ns.map .int)) = decide (ms = ns)
  | [], [] => by simp [toPys, PyData.eqvAll]
  | [], n :: ns => by simp [toPys, PyData.eqvAll]
  | m :: ms, [] => by simp [toPys, PyData.eqvAll]
  | m :: ms, n :: ns => by
    simp only [List.map_cons, toPys, PyData.eqvAll, toPy, PyData.eqv, eqvAll_ints ms ns]
    by_cases h1 : m = n <;> by_cases h2 : ms = ns <;> simp [h1, h2]
theorem dEq_ints (ms ns : List Int) : dEq (.lst (ms.map .int)) (.lst (ns.map .int)) = some (decide (ms = ns)) := by
  simp only [dEq, okEq_ints, Bool.and_self, if_true, toPy, PyData.eqv, eqvAll_ints]
theorem dNe_ints (ms ns : List Int) : dNe (.lst (ms.map .int)) (.lst (ns.map .int)) = some (!decide (ms = ns)) := by simp [dNe, dEq_ints]
theorem dEq_intsT (ms ns : List Int) : dEq (.tup (ms.map .int)) (.tup (ns.map .int)) = some (decide (ms = ns)) := by
  simp only [dEq, okEq_intsT, Bool.and_self, if_true, toPy, PyData.eqv, eqvAll_ints]
theorem dNe_intsT (ms ns : List Int) : dNe (.tup (ms.map .int)) (.tup (ns.map .int)) = some (!decide (ms = ns)) := by simp [dNe, dEq_intsT]
theorem dEq_nil {xs : List D} (h : okEq (.lst xs) = true) : dEq (.lst xs) (.lst []) = some xs.isEmpty := by
  have h0 : okEq (.lst []) = true := rfl
  simp only [dEq, h, h0, Bool.and_self, if_true, toPy, PyData.eqv]
  cases xs <;> simp [toPys, PyData.eqvAll]
theorem dNe_nil {xs : List D} (h : okEq (.lst xs) = true) : dNe (.lst xs) (.lst []) = some (!xs.isEmpty) := by simp [dNe, dEq_nil h]
theorem dIn_ints (i : Int) (ns : List Int) : dIn (.int i) (.lst (ns.map .int)) = some (decide (i ∈ ns)) := by
  simp only [dIn, okEq_int, okEq_ints, Bool.and_self, if_true, List.any_map]
  congr 1
  induction ns with
  | nil => simp
  | cons n ns ih =>
    rw [List.any_cons, ih]
    simp only [Function.comp, toPy, PyData.eqv, List.mem_cons]
    by_cases h1 : n = i
    · simp [h1]
    · have h2 : ¬ i = n := fun e => h1 e.symm
      simp [h1, h2]
theorem dNotIn_ints (i : Int) (ns : List Int) : dNotIn (.int i) (.lst (ns.map .int)) = some (!decide (i ∈ ns)) := by simp [dNotIn, dIn_ints]
theorem dIn_non (ns : List Int) : dIn .non (.lst (ns.map .int)) = some false := by
  simp only [dIn, okEq_non, okEq_ints, Bool.and_self, if_true, List.any_map]
  congr 1
  rw [List.any_eq_false]
  intro n _
  simp [toPy, PyData.eqv]
theorem dNotIn_non (ns : List Int) : dNotIn .non (.lst (ns.map .int)) = some true := by simp [dNotIn, dIn_non]
theorem dAny_bls (bs : List Bool) : dAny [.lst (bs.map .bl)] = some (.bl (bs.any id)) := by simp [dAny, bsOf_map]
theorem dAll_bls (bs : List Bool) : dAll [.lst (bs.map .bl)] = some (.bl (bs.all id)) := by simp [dAll, bsOf_map]
theorem dAny_map {α : Type} (f : α → Bool) (l : List α) : dAny [.lst (l.map fun x => .bl (f x))] = some (.bl (l.any f)) := by
  have h := dAny_bls (l.map f)
  rw [List.map_map, List.any_map] at h
  exact h
theorem dAll_map {α : Type} (f : α → Bool) (l : List α) : dAll [.lst (l.map fun x => .bl (f x))] = some (.bl (l.all f)) := by
  have h := dAll_bls (l.map f)
  rw [List.map_map, List.all_map] at h
  exact h
/-! ### whole numbers from 0 on -/
abbrev iN (k : Nat) : Int := (k : Int)
theorem dI_eq (k : Nat) : D.int (k : Int) = dI k := rfl
theorem lit (n : Nat) : D.int (@OfNat.ofNat Int n _) = dI n := rfl
theorem dI_map (l : List Nat) : l.map dI = (l.map iN).map .int := by rw [List.map_map]; rfl
theorem dI_toNat {i : Int} (h : 0 ≤ i) : D.int i = dI i.toNat := by unfold dI; rw [Int.toNat_of_nonneg h]
@[simp] theorem noPot_dI (k : Nat) : noPot (dI k) = true := by simp [dI]
@[simp] theorem isNon_dI (k : Nat) : isNon (dI k) = false := by simp [dI]
@[simp] theorem isTy_dI (k : Nat) : isTy .int (dI k) = true := by simp [dI, isTy]
@[simp] theorem isTyb_dI (k : Nat) : isTy .bool (dI k) = false := by simp [dI, isTy]
theorem nMod {a c : Nat} (h : 0 < c) : dMod (dI a) (dI c) = some (dI (a % c)) := by
  unfold dI; rw [dMod_int (by omega)]; norm_cast
theorem nDiv {a c : Nat} (h : 0 < c) (h2 : c < 1073741824) : dDiv (dI a) (dI c) = some (dI (a / c)) := by
  unfold dI; rw [dDiv_int (by omega) (by omega)]; norm_cast
theorem nMul {a b : Nat} (h : a < 2 ^ 64 ∨ b < 2 ^ 64) : dMul (dI a) (dI b) = some (dI (a * b)) := by
  unfold dI; rw [dMul_int (by omega)]; norm_cast
@[simp] theorem nAdd {a b : Nat} : dAdd (dI a) (dI b) = some (dI (a + b)) := by
  unfold dI; rw [dAdd_int]; norm_cast
theorem nSub {a b : Nat} (h : b ≤ a) : dSub (dI a) (dI b) = some (dI (a - b)) := by
  unfold dI; rw [dSub_int]; norm_cast
@[simp] theorem nEq {a b : Nat} : dEq (dI a) (dI b) = some (decide (a = b)) := by
  unfold dI; rw [dEq_int]; norm_cast
@[simp] theorem nNe {a b : Nat} : dNe (dI a) (dI b) = some (!decide (a = b)) := by
  unfold dI; rw [dNe_int]; norm_cast
@[simp] theorem nLt {a b : Nat} : dLt (dI a) (dI b) = some (decide (a < b)) := by
  unfold dI; rw [dLt_int]; norm_cast
@[simp] theorem nLe {a b : Nat} : dLe (dI a) (dI b) = some (decide (a ≤ b)) := by
  unfold dI; rw [dLe_int]; norm_cast
@[simp] theorem nGt {a b : Nat} : dGt (dI a) (dI b) = some (decide (b < a)) := by
  unfold dI; rw [dGt_int]; norm_cast
@[simp] theorem nGe {a b : Nat} : dGe (dI a) (dI b) = some (decide (b ≤ a)) := by
  unfold dI; rw [dGe_int]; norm_cast
@[simp] theorem niLt {a b : Nat} : dI2b iLt (dI a) (dI b) = some (decide (a < b)) := by
  unfold dI; rw [dI2b_int]; unfold iLt; norm_cast
@[simp] theorem niLe {a b : Nat} : dI2b iLe (dI a) (dI b) = some (decide (a ≤ b)) := by
  unfold dI; rw [dI2b_int]; unfold iLe; norm_cast
@[simp] theorem nInt {a : Nat} : dInt [dI a] = some (dI a) := rfl
@[simp] theorem nAbs {a : Nat} : dAbs [dI a] = some (dI a) := by
  unfold dI; rw [dAbs_int, if_neg (by omega)]
@[simp] theorem nLen_lst (xs : List D) : dLen [.lst xs] = some (dI xs.length) := rfl
@[simp] theorem nLen_tup (xs : List D) : dLen [.tup xs] = some (dI xs.length) := rfl
@[simp] theorem nLen_scr (xs : List Int) : dLen [.scr xs] = some (dI xs.length) := rfl
theorem nMax2 {a b : Nat} : dMax2 [dI a, dI b] = some (dI (max a b)) := by
  unfold dI; rw [dMax2_int]; congr 2; split <;> omega
theorem nMin2 {a b : Nat} : dMin2 [dI a, dI b] = some (dI (min a b)) := by
  unfold dI; rw [dMin2_int]; congr 2; split <;> omega
theorem nIx_lst {xs : List D} {k : Nat} {d : D} (h : xs[k]? = some d) : dIx (.lst xs) (dI k) = some d := dIx_lst h
theorem nIx_tup {xs : List D} {k : Nat} {d : D} (h : xs[k]? = some d) : dIx (.tup xs) (dI k) = some d := dIx_tup h
theorem nRange1 {n : Nat} (h : n ≤ 16000000) : dRange1 [dI n] = some (rgL 0 n) := dRange1_nat n h
theorem rgL_dI (n : Nat) : rgL 0 n = (List.range n).map dI := by
  unfold rgL dI
  refine List.map_congr_left fun k _ => ?_
  rw [Int.zero_add]
theorem rgL_from (lo n : Nat) : rgL (lo : Int) n = (List.range n).map fun k => dI (lo + k) := by
  unfold rgL dI
  refine List.map_congr_left fun k _ => ?_
  norm_cast
theorem nRange2 {a b : Nat} (h : b ≤ 16000000) (ha : a < 2 ^ 60) : dRange2 [dI a, dI b] = some ((List.range (b - a)).map fun k => dI (a + k)) := by
  rw [← rgL_from]
  have hc : -(2 ^ 60) ≤ (a : Int) ∧ (a : Int) < 2 ^ 60 ∧ -(2 ^ 60) ≤ (b : Int) ∧ (b : Int) < 2 ^ 60 ∧ (b : Int) - a ≤ 16000000 := ⟨by omega, by omega, by omega, by omega, by omega⟩
  have e : ((b : Int) - a).toNat = b - a := by omega
  have : dRange2 [.int (a : Int), .int (b : Int)] = some (rgL a ((b : Int) - a).toNat) := by
    simp only [dRange2]
    rw [if_pos hc]
  rw [e] at this
  exact this
/-- ints as lists of whole numbers -/
theorem map_iN_inj (ms ns : List Nat) : (ms.map iN = ns.map iN) ↔ ms = ns := by
  constructor
  · intro h
    have := congrArg (fun l => l.map Int.toNat) h
    simp only [List.map_map] at this
    have e : (Int.toNat ∘ iN) = id := by funext k; simp [iN]
    simpa [e] using this
  · rintro rfl; rfl
theorem nEqL (ms ns : List Nat) : dEq (.lst (ms.map dI)) (.lst (ns.map dI)) = some (decide (ms = ns)) := by
  rw [dI_map, dI_map, dEq_ints]; congr 1; exact decide_eq_decide.mpr (map_iN_inj ms ns)
theorem nNeL (ms ns : List Nat) : dNe (.lst (ms.map dI)) (.lst (ns.map dI)) = some (!decide (ms = ns)) := by simp [dNe, nEqL]
theorem nEqNil (ms : List Nat) : dEq (.lst (ms.map dI)) (.lst []) = some (decide (ms = [])) := nEqL ms []
theorem nNeNil (ms : List Nat) : dNe (.lst (ms.map dI)) (.lst []) = some (!decide (ms = [])) := nNeL ms []
theorem nIn (k : Nat) (ns : List Nat) : dIn (dI k) (.lst (ns.map dI)) = some (decide (k ∈ ns)) := by
  rw [dI_map]
  show dIn (.int (k : Int)) _ = _
  rw [dIn_ints]; congr 1; refine decide_eq_decide.mpr ?_
  constructor
  · intro h
    obtain ⟨n, h1, h2⟩ := List.mem_map.mp h
    have : n = k := Int.ofNat.inj h2
    rwa [this] at h1
  · intro h; exact List.mem_map.mpr ⟨k, h, rfl⟩
theorem nNotIn (k : Nat) (ns : List Nat) : dNotIn (dI k) (.lst (ns.map dI)) = some (!decide (k ∈ ns)) := by simp [dNotIn, nIn]
theorem rl_dI {k : Nat} (h : k < 10 ^ 12) : RL 13 0 (dI k) := rl_int (by simpa using h)
/-- while, over states of some type -/
theorem cwhile_st {α : Type} {mt : M Bool} {body : C} {p : Pst} (st : α → Sl) (μ : α → Nat) (Inv : α → Prop) (t : α → Bool) (ht : ∀ a, Inv a → mt (st a) p = .ok (t a) p)
    (hb : ∀ a, Inv a → t a = true → ∃ a', body (st a) p = .nx (st a') p ∧ Inv a' ∧ μ a' < μ a) : ∀ (n : Nat) (a : α), Inv a → μ a < n → ∃ a', cwhile mt body n (st a) p = .nx (st a') p ∧ Inv a' ∧ t a' = false
  | 0, a, _, h => absurd h (Nat.not_lt_zero _)
  | n + 1, a, hI, hm => by
    cases e : t a with
    | false => exact ⟨a, cwhile_end (by rw [ht a hI, e]), hI, e⟩
    | true =>
      obtain ⟨a', h1, h2, h3⟩ := hb a hI e
      obtain ⟨a2, h4, h5⟩ := cwhile_st st μ Inv t ht hb n a' h2 (by omega)
      exact ⟨a2, by rw [cwhile_step (by rw [ht a hI, e]) h1]; exact h4, h5⟩
end PF

namespace PF
open PySem PySem.Spec PyProof.Rows L2
section
variable {X : Cx} {En : Ent} {Wx : WX} {e a b o : Expr} {me ma mb m : M D} {ms : M (List D)} {pos p : Pos} {es : List Expr}
/-! ### the first place of an equal item -/
def firstAt (z : D) : List D → Option Nat
  | [] => none
  | x :: xs => if PyData.eqv (toPy x) (toPy z) then some 0 else (firstAt z xs).map (· + 1)
theorem firstAt_spec {z : D} : ∀ {xs : List D} {j : Nat}, firstAt z xs = some j → ∃ y, (toPys xs)[j]? = some y ∧ PyData.eqv y (toPy z) = true ∧ ∀ (m : Nat) (y' : PyData), m < j → (toPys xs)[m]? = some y' → PyData.eqv y' (toPy z) = false
  | [], j, h => by simp [firstAt] at h
  | x :: xs, j, h => by
    unfold firstAt at h
    split at h
    · rename_i hc
      simp only [Option.some.injEq] at h
      subst h
      exact ⟨toPy x, by simp [toPys], hc, fun m y' hm => absurd hm (Nat.not_lt_zero _)⟩
    · rename_i hc
      cases q : firstAt z xs with
      | none => rw [q] at h; simp at h
      | some k =>
        rw [q] at h
        simp only [Option.map_some, Option.some.injEq] at h
        subst h
        obtain ⟨y, h1, h2, h3⟩ := firstAt_spec q
        refine ⟨y, by simpa [toPys] using h1, h2, fun m y' hm hy => ?_⟩
        cases m with
        | zero =>
          have : y' = toPy x := by simpa [toPys] using hy.symm
          rw [this]
          simpa using hc
        | succ m => exact h3 m y' (by omega) (by simpa [toPys] using hy)
def dIndex : D → D → Option D
  | .lst xs, z => if okEq z && okEq (.lst xs) then (firstAt z xs).map fun j => .int (j : Nat) else none
  | _, _ => none
theorem dIndex_some {xs : List D} {y z : D} (h : dIndex (.lst xs) y = some z) : okEq y = true ∧ okEq (.lst xs) = true ∧ ∃ j, firstAt y xs = some j ∧ z = .int (j : Nat) := by
  simp only [dIndex] at h
  split at h
  · rename_i hc
    simp only [Bool.and_eq_true] at hc
    cases q : firstAt y xs with
    | none => rw [q] at h; cases h
    | some j =>
      rw [q] at h
      simp only [Option.map_some, Option.some.injEq] at h
      exact ⟨hc.1, hc.2, j, rfl, h.symm⟩
  · cases h
def lstK {α : Type} (d : D) (k : List D → M α) : M α := match d with
  | .lst xs => k xs
  | _ => mstuck
@[simp] theorem lstK_lst {α : Type} (xs : List D) (k : List D → M α) : lstK (.lst xs) k = k xs := rfl
def mIndex (ma mb : M D) : M D := mbind ma fun d => lstK d fun xs => mbind mb fun y => mopt (dIndex (.lst xs) y)
@[simp] theorem ev_mIndex (ma mb : M D) (ρ : Sl) (p : Pst) : mIndex ma mb ρ p = mbind ma (fun d => lstK d fun xs => mbind mb fun y => mopt (dIndex (.lst xs) y)) ρ p := by cases p; rfl
theorem im_lstK {α : Type} (d : D) {k : List D → M α} (h : ∀ xs, IM (k xs)) : IM (lstK d k) := by
  cases d <;> first | exact h _ | exact im_stuck
theorem im_index {ma mb : M D} (ha : IM ma) (hb : IM mb) : IM (mIndex ma mb) := im_bind ha fun d => im_lstK d fun xs => im_bind hb fun _ => im_opt _
theorem pm_index {ap cp : Pos} (hu : Un X) (ho : PM X Wx o ma) (ha : PM X Wx e mb) (hbase : attributeBase o "index" X.env (eval o X.env) = eval o X.env := by rfl)
    (hfew : ((backTo cp (starEach [e] X.env)).all (fun x => !x.1) && (backToKw cp (keywordEach [] X.env)).all (fun x => x.1.isSome) && decide (([e] : List Expr).length + ([] : List Keyword).length + (if ([] : List Keyword).isEmpty then 0 else 1) < 30)) = true := by rfl)
    (hline : (ap.endLine == cp.line) = true := by rfl) (hs : starEach [e] X.env = (false, eval e X.env) :: starEach [] X.env := by rfl) (hpl : (backTo cp (starEach [] X.env)).any (·.1) = false := by rfl) :
    PM X Wx (.Call (.Attribute o "index" ap) [e] [] cp) (mIndex ma mb) :=
  ⟨(pe_bm PySem.F.plainAttrs_list PySem.F.slot_list_index PySem.F.type_list_index (mt_indexD hu) ho.pe (pa_cons ha.pe pa_nil hs) hbase hfew hline hs hpl).imp fun σ H Q ⟨F, pa, p, ρ, gs, s, o⟩ => by
    refine TM.of gs s (o.bind.mono fun d p1 F1 H1 pa1 gr1 gs1 o1 s1 v1 r1 => ?_)
    cases d <;> first | exact o1.elim | skip
    obtain ⟨a, vs, rfl, h1, hz, rs⟩ := r1.lstH gs1
    refine ⟨.inl ⟨rfl, _, SqL.of h1⟩, ?_⟩
    refine TM.of gs1 s1 (o1.bind.mono fun y p2 F2 H2 pa2 gr2 gs2 o2 s2 v2 r2 => ?_)
    obtain ⟨z, ez, o3⟩ := o2.opt
    rename_i xs
    obtain ⟨hy, hx, j, q, rfl⟩ := dIndex_some ez
    obtain ⟨y', e1, e2, e3⟩ := firstAt_spec q
    have r1' := r1.mono gr2.fz
    have d1 := r1'.dp gs2.sub (pl_of hx)
    have sl := shaped_ok hx
    simp only [toPy] at d1 sl
    exact ⟨a, v2, toPy y, toPys xs, j, y', rfl, rfl, d1, r2.dp gs2.sub (pl_of hy), sl, shaped_ok hy, e1, e2, e3, o3.ret gs2 _ (.int _)⟩⟩
/-! ### list(range(..)) -/
theorem rgV_map (a : Int) (n : Nat) : ((List.range n).map fun i => V.int (a + (i : Nat))) = ((List.range n).map fun (k : Nat) => a + (k : Int)).map V.int := by rw [List.map_map]; rfl
theorem rgL_map (a : Int) (n : Nat) : rgL a n = ((List.range n).map fun (k : Nat) => a + (k : Int)).map D.int := by unfold rgL; rw [List.map_map]; rfl
theorem dRange1_some {x : D} {z : List D} (h : dRange1 [x] = some z) : ∃ j, x = .int j ∧ (j ≤ 16000000 ∧ -(2 ^ 60) ≤ j) ∧ z = rgL 0 j.toNat := by
  cases x <;> first | (simp [dRange1] at h; done) | skip
  rename_i j
  simp only [dRange1] at h
  split at h
  · rename_i hc; exact ⟨j, rfl, hc, by simpa using h.symm⟩
  · cases h
theorem dRange2_some {x y : D} {z : List D} (h : dRange2 [x, y] = some z) : ∃ i j, x = .int i ∧ y = .int j ∧ (-(2 ^ 60) ≤ i ∧ i < 2 ^ 60 ∧ -(2 ^ 60) ≤ j ∧ j < 2 ^ 60 ∧ j - i ≤ 16000000) ∧ z = rgL i (j - i).toNat := by
  cases x <;> cases y <;> first | (simp [dRange2] at h; done) | skip
  rename_i i j
  simp only [dRange2] at h
  split at h
  · rename_i hc; exact ⟨i, j, rfl, rfl, hc, by simpa using h.symm⟩
  · cases h
def mLrg1 (ma : M D) : M (List D) := mbind ma fun x => mopt (dRange1 [x])
def mLrg2 (ma mb : M D) : M (List D) := mbind ma fun x => mbind mb fun y => mopt (dRange2 [x, y])
@[simp] theorem ev_mLrg1 (ma : M D) (ρ : Sl) (p : Pst) : mLrg1 ma ρ p = mbind ma (fun x => mopt (dRange1 [x])) ρ p := by cases p; rfl
@[simp] theorem ev_mLrg2 (ma mb : M D) (ρ : Sl) (p : Pst) : mLrg2 ma mb ρ p = mbind ma (fun x => mbind mb fun y => mopt (dRange2 [x, y])) ρ p := by cases p; rfl
theorem im_lrg1 {ma : M D} (ha : IM ma) : IM (mLrg1 ma) := im_bind ha fun _ => im_opt _
theorem im_lrg2 {ma mb : M D} (ha : IM ma) (hb : IM mb) : IM (mLrg2 ma mb) := im_bind ha fun _ => im_bind hb fun _ => im_opt _
theorem pmo_lrg1 {p2 pos2 : Pos} (hc : X.calm = true) (hl : X.mg "list" = none) (hr : X.mg "range" = none) (ha : PM X Wx a ma) (hgl : Gl X "list" := by rfl) (hgr : Gl X "range" := by rfl) (na : starEach [a] X.env = (false, eval a X.env) :: starEach [] X.env := by rfl)
    (nl : starEach [.Call (.Name "range" p2) [a] [] pos2] X.env = (false, eval (.Call (.Name "range" p2) [a] [] pos2) X.env) :: starEach [] X.env := by rfl) :
    PMo X Wx (.Call (.Name "list" p) [.Call (.Name "range" p2) [a] [] pos2] [] pos) (mLrg1 ma) := ⟨(pe_listRg hc hgl hl (prg_1 hgr hr ha.pe na) nl).imp fun σ H Q ⟨F, pa, p, ρ, gs, s, o⟩ => by
  refine TM.of gs s ((Out.bindS .refl o).mono fun d p1 F1 H1 pa1 gr1' gs1 ⟨gr1, o1⟩ s1 v1 r1 => ?_)
  obtain ⟨z, ez, o2⟩ := o1.opt
  obtain ⟨j, rfl, hcc, rfl⟩ := dRange1_some ez
  cases r1
  refine ⟨_, rfl, ?_⟩
  refine ⟨⟨by omega, by omega, by omega, by omega, by rw [Int.sub_zero]; omega⟩, fun q hq => ?_⟩
  have h0 : ∀ n : Nat, ((List.range n).map fun i => V.int (0 + (i : Nat))) = ((List.range n).map fun (k : Nat) => (0 : Int) + (k : Int)).map V.int := rgV_map 0
  refine o2 F1 _ pa1 (gr1.trans (Gr.allocO hq)) (gs1.allocO hq) q _ (gr1.free0 hq) upd_same (gs1.fnone hq) (gs1.pne hq) (by rw [rgL_len]; exact sz16 (by omega)) ?_
  unfold rgV
  rw [Int.sub_zero, rgV_map, rgL_map]
  exact reps_int_map _⟩
theorem pmo_lrg2 {pos2 : Pos} (hc : X.calm = true) (hl : X.mg "list" = none) (hr : X.mg "range" = none) (ha : PM X Wx a ma) (hb : PM X Wx b mb) (hgl : Gl X "list" := by rfl) (hgr : Gl X "range" := by rfl) (na : starEach [a, b] X.env = (false, eval a X.env) :: starEach [b] X.env := by rfl)
    (nb : starEach [b] X.env = (false, eval b X.env) :: starEach [] X.env := by rfl) (hp : (backTo pos2 (starEach [b] X.env)).any (·.1) = false := by rfl) {p2 : Pos}
    (nl : starEach [.Call (.Name "range" p2) [a, b] [] pos2] X.env = (false, eval (.Call (.Name "range" p2) [a, b] [] pos2) X.env) :: starEach [] X.env := by rfl) :
    PMo X Wx (.Call (.Name "list" p) [.Call (.Name "range" p2) [a, b] [] pos2] [] pos) (mLrg2 ma mb) := ⟨(pe_listRg hc hgl hl (prg_2 hgr hr ha.pe hb.pe na nb hp) nl).imp fun σ H Q ⟨F, pa, p, ρ, gs, s, o⟩ => by
  refine TM.of gs s ((Out.bindS .refl o).mono fun d p1 F1 H1 pa1 gr1' gs1 ⟨gr1, o1⟩ s1 v1 r1 => ?_)
  refine TM.of gs1 s1 ((Out.bindS gr1 o1).mono fun y p2 F2 H2 pa2 gr2' gs2 ⟨gr2, o2⟩ s2 v2 r2 => ?_)
  obtain ⟨z, ez, o3⟩ := o2.opt
  have r1' := r1.mono gr2'.fz
  clear r1
  obtain ⟨i, j, rfl, rfl, hcc, rfl⟩ := dRange2_some ez
  cases r1'; cases r2
  refine ⟨_, _, rfl, rfl, ?_⟩
  refine ⟨⟨by omega, by omega, by omega, by omega, by omega⟩, fun q hq => ?_⟩
  refine o3 F2 _ pa2 (gr2.trans (Gr.allocO hq)) (gs2.allocO hq) q _ (gr2.free0 hq) upd_same (gs2.fnone hq) (gs2.pne hq) (by rw [rgL_len]; exact sz16 (by omega)) ?_
  unfold rgV
  rw [rgV_map, rgL_map]
  exact reps_int_map _⟩
/-! ### more that is independent of the pot -/
theorem ic_ext (i) {m : M D} (h : IM m) : IC (cext i m) := fun ρ p q => by
  unfold cext
  split
  · refine ic_eout h (fun a ρ p q => ?_) ρ p q
    cases a <;> first | rfl | skip
    show (if _ then _ else _) = SRes.at (if _ then _ else _) q
    split <;> rfl
  · rfl
theorem ic_asgT {G} {m : M D} (hG : ITg G) (h : IM m) : IC (casgT G m) := ic_eout h fun d ρ p q => by
  show (match G d ρ q with | some (ρ', p') => SRes.nx ρ' p' | none => .stuck) = SRes.at (match G d ρ p with | some (ρ', p') => SRes.nx ρ' p' | none => .stuck) q
  rw [hG d ρ p q]
  cases G d ρ p with
  | none => rfl
  | some w => rfl
/-- an own list's item is stored -/
def tgSubO (r : Nat) (mi : M D) : D → Sl → Pst → Option (Sl × Pst) := fun d ρ p => match ρ[r]? with
  | some (some (.own _)) => tgSub r mi d ρ p
  | _ => none
theorem tg_subO {r : Nat} {mi : M D} : TgOk X.K X.mg En Wx (gSub (tVar r) (TM X.K X.mg Wx mi) rSetL) (tgSubO r mi) := by
  intro F H pa p x d σ ρ ρ' p' Q s rx e k
  unfold tgSubO at e
  split at e
  · exact tg_sub F H pa p x d σ ρ ρ' p' Q s rx e k
  · cases e
theorem it_subO (r) {mi : M D} (h : IM mi) : ITg (tgSubO r mi) := fun d ρ p q => by
  unfold tgSubO
  cases e : ρ[r]? with
  | none => rfl
  | some o =>
    cases o with
    | none => rfl
    | some w =>
      cases w with
      | val d => rfl
      | own xs =>
        simp only [tgSub, e]
        rw [h ρ p q]
        cases e2 : mi ρ p with
        | stuck => rfl
        | exc y p1 => rfl
        | ok kd p1 =>
          obtain rfl := im_same h e2
          simp only [Res.at]
          cases kd <;> first | rfl | skip
          simp only
          split <;> rfl
end
end PF

namespace PF
open PySem PySem.Spec PyProof.Rows L2
/-! ### repr where an empty dict stands within tuples -/
mutual
def pe : D → Bool
  | .non | .bl _ | .int _ | .emp => true
  | .str x => PyData.strOk x
  | .tup xs => pes xs
  | .lst _ | .scr _ | .pot _ => false
def pes : List D → Bool
  | [] => true
  | x :: xs => pe x && pes xs
end
def okE (d : D) : Bool := pe d && (toPy d).showable && decide ((toPy d).shown.length ≤ sizeLine) && decide ((toPy d).depth ≤ 60)
theorem okE_iff {d : D} : okE d = true ↔ pe d = true ∧ (toPy d).showable = true ∧ (toPy d).shown.length ≤ sizeLine ∧ (toPy d).depth ≤ 60 := by
  unfold okE
  simp only [Bool.and_eq_true, decide_eq_true_eq, and_assoc]
theorem readsE {X : Cx} {pins : List (Addr × Obj)} {σ : L2.St} {s : Shared} {F H : Hp} {g : Nat} {pa : Option Addr} (I : L2.Inv X pins σ H s) (sub : ∀ a o, F a = some o → H a = some o) {v : V} {d : D} (r : Rep X.K F g pa v d) :
    pe d = true → ∀ u, L2.RelV v u → ∃ as, Reads s.heap u (toPy d) as ∧ sysModules ∉ as := by
  induction r with
  | non => intro _ u ru; cases ru; exact ⟨_, by simpa only [toPy] using Reads.none, by simp⟩
  | bl b => intro _ u ru; cases ru; exact ⟨_, by simpa only [toPy] using Reads.bool b, by simp⟩
  | int i => intro _ u ru; obtain ⟨t, rfl⟩ := ru; exact ⟨_, by simpa only [toPy] using Reads.int i t, by simp⟩
  | str x => intro _ u ru; obtain ⟨t, rfl⟩ := ru; exact ⟨_, by simpa only [toPy] using Reads.str x t, by simp⟩
  | lst _ _ _ _ _ => intro hp; simp [pe] at hp
  | scr _ => intro hp; simp [pe] at hp
  | pot _ _ => intro hp; simp [pe] at hp
  | emp h =>
    intro _ u ru
    cases ru
    obtain ⟨_, hne, vs, kv, o, es, ep, ho, ⟨hc, _, _⟩, hd, _, hp, _⟩ := I.hok _ _ (sub _ _ h)
    cases kv
    have he : es.toList = [] := by
      generalize es.toList = l at hp
      cases hp
      rfl
    have q : Reads s.heap (.ref _) (.dict []) (_ :: [] ++ []) := Reads.dict (kvs := []) (as := []) (bs := []) ho hc hd (by rw [he]; exact .nil) (by rw [he]; exact .nil)
    refine ⟨_, by simpa only [toPy] using q, ?_⟩
    simp only [List.cons_append, List.nil_append, List.mem_singleton]
    exact fun e => by rw [← e] at hne; simp at hne
  | @tup a vs ds h hz hl hr ih =>
    intro hp u ru
    cases ru
    obtain ⟨its, rv, ⟨o, ho, hc, n, hd⟩, _⟩ := I.tuple (SqT.of (sub _ _ h))
    have all : ∀ (ds : List D) (vs : List V) (us : List Value), pes ds = true → vs.length = ds.length → (∀ (i : Nat) v d, vs[i]? = some v → ds[i]? = some d → pe d = true → ∀ u, L2.RelV v u → ∃ as, Reads s.heap u (toPy d) as ∧ sysModules ∉ as) → Vals vs us → ∃ as, ReadsAll s.heap us (toPys ds) as ∧ sysModules ∉ as := by
      intro ds
      induction ds with
      | nil =>
        intro vs us _ hl _ rv
        have : vs = [] := List.eq_nil_of_length_eq_zero hl
        subst this
        cases rv
        exact ⟨_, by simpa only [toPys] using ReadsAll.nil, by simp⟩
      | cons d ds ih2 =>
        intro vs us hp hl hh rv
        cases rv with
        | nil => simp at hl
        | cons r t =>
          simp only [pes, Bool.and_eq_true] at hp
          obtain ⟨as, q1, n1⟩ := hh 0 _ _ rfl rfl hp.1 _ r
          obtain ⟨bs, q2, n2⟩ := ih2 _ _ hp.2 (by simpa using hl) (fun i v d h1 h2 => hh (i + 1) v d (by simpa using h1) (by simpa using h2)) t
          exact ⟨_, by simpa only [toPys] using ReadsAll.cons q1 q2, by simp [n1, n2]⟩
    obtain ⟨as, q, n⟩ := all ds vs its (by simpa [pe] using hp) hl (fun i v d h1 h2 => ih i v d h1 h2) rv
    exact ⟨_, by simpa only [toPy] using Reads.tuple ho hc hd q, n⟩
def rReprE (X : Cx) : List V → Hp → VK → Prop := fun xs H Q => ∃ v d, xs = [v] ∧ okE d = true ∧ (∃ (F : Hp) (g : Nat) (pa : Option Addr), (∀ a o, F a = some o → H a = some o) ∧ Rep X.K F g pa v d) ∧ Q (.str (rtext d)) H
def rReprX (X : Cx) : List V → Hp → VK → Prop := fun xs H Q => rReprD X xs H Q ∨ rReprE X xs H Q
/-- repr of plain data, and of tuples with an empty dict -/
def dReprE : List D → Option D
  | [d] => if okRepr d = true then some (.str (rtext d)) else if okE d = true then some (.str (rtext d)) else none
  | _ => none
section
variable {X : Cx} {Wx : WX} {e : Expr} {es : List Expr} {m : M D} {ms : M (List D)} {p pos : Pos}
theorem call_reprE (hu : Un X) (hg : X.A.guards = some []) : CallR X (.builtin "repr") (rReprE X) := by
  intro pins s σ H xs us Q I r h
  obtain ⟨v, d, rfl, hd, ⟨F, g, pa, sub, rp⟩, q⟩ := h
  obtain ⟨h1, h2, h3, h4⟩ := okE_iff.mp hd
  have hu' : X.A.units + 65 < cLine := hu
  obtain ⟨u, rfl, ru⟩ : ∃ u, us = [u] ∧ L2.RelV v u := by
    cases r with
    | cons r r2 => cases r2; exact ⟨_, rfl, r⟩
  obtain ⟨as, rd, nm⟩ := readsE I sub rp h1 u ru
  cases rp with
  | non =>
    cases ru
    exact PySem.P.repr_of_none ⟨.str (rtext .non), H, I.tok _, ⟨_, rfl⟩, q⟩
  | bl b =>
    cases ru
    exact PySem.P.repr_of_bool ⟨.str (rtext (.bl b)), H, I.tok _, ⟨_, by cases b <;> rfl⟩, q⟩
  | int i =>
    obtain ⟨t, rfl⟩ := ru
    have h5 : i.natAbs.log2 < 1920 := by simpa [toPy, PyData.showable] using h2
    exact PySem.P.repr_of_int h5 ⟨.str (rtext (.int i)), H, I.tok _, ⟨_, rfl⟩, q⟩
  | str x =>
    obtain ⟨t, rfl⟩ := ru
    exact PySem.P.repr_of_str ⟨.str (rtext (.str x)), H, I.tok _, ⟨_, rfl⟩, q⟩ (by simpa [toPy, PyData.shown] using h3)
  | lst _ _ _ _ => simp [pe] at h1
  | scr _ => simp [pe] at h1
  | pot _ _ => simp [pe] at h1
  | tup _ _ _ _ =>
    cases ru
    exact PySem.repr_of_reads' rd h2 (fun _ => nm) hg (by omega) (fun _ _ z => z) (fun h' u' tk hk => ⟨.str (rtext _), H, I.kept (h' := h') (t' := tk) hk, ⟨u', rfl⟩, q⟩) h3
  | emp _ =>
    cases ru
    exact PySem.repr_of_reads' rd h2 (fun _ => nm) hg (by omega) (fun _ _ z => z) (fun h' u' tk hk => ⟨.str (rtext _), H, I.kept (h' := h') (t' := tk) hk, ⟨u', rfl⟩, q⟩) h3
theorem call_reprX (hu : Un X) (hg : X.A.guards = some []) : CallR X (.builtin "repr") (rReprX X) := by
  intro pins s σ H xs us Q I r h
  rcases h with h | h
  · exact call_reprD hu hg pins s σ H xs us Q I r h
  · exact call_reprE hu hg pins s σ H xs us Q I r h
theorem calls_reprX : CallS X (rReprX X) dReprE := by
  intro xs ds z F H p pa Q gs rs ez k
  unfold dReprE at ez
  split at ez <;> first | (cases ez; done) | skip
  rename_i d
  obtain ⟨v, rfl, r⟩ := reps1 rs
  split at ez
  · rename_i hd
    simp only [Option.some.injEq] at ez
    subst ez
    exact .inl ⟨v, d, rfl, hd, r.dp gs.sub (okRepr_iff.mp hd).1, k _ _ _ .refl gs (.str _)⟩
  · split at ez <;> first | (cases ez; done) | skip
    rename_i hd
    simp only [Option.some.injEq] at ez
    subst ez
    exact .inr ⟨v, d, rfl, hd, ⟨F, _, _, gs.sub, r⟩, k _ _ _ .refl gs (.str _)⟩
theorem b_reprE (hu : Un X) (hgd : X.A.guards = some []) (hm : X.mg "repr" = none) (ha : PMa X Wx (e :: es) ms) (hg : Gl X "repr" := by rfl) (he : starEach (e :: es) X.env = (false, eval e X.env) :: starEach es X.env := by rfl) (hpl : (backTo pos (starEach es X.env)).any (·.1) = false := by rfl) : PM X Wx (.Call (.Name "repr" p) (e :: es) [] pos) (mCall dReprE ms) := pm_callB (call_reprX hu hgd) calls_reprX hg hm boot_repr ha (by decide) (by decide) he hpl
end
/-- what repr shows, either way -/
def okX (d : D) : Bool := okRepr d || okE d
theorem dReprE_ok {d : D} (h : okX d = true) : dReprE [d] = some (.str (rtext d)) := by
  unfold okX at h
  simp only [Bool.or_eq_true] at h
  rcases h with h | h
  · simp [dReprE, h]
  · simp [dReprE, h]
theorem okX_of {d : D} (h : okRepr d = true) : okX d = true := by simp [okX, h]
end PF

namespace PF
open PySem PySem.Spec PyProof.Rows L2
/-! ### equal texts, equal data: numbers, truth values, None, within lists and tuples -/
mutual
def rp : D → Bool
  | .non | .bl _ | .int _ => true
  | .lst xs => rps xs
  | .tup xs => rps xs
  | .str _ | .scr _ | .pot _ | .emp => false
def rps : List D → Bool
  | [] => true
  | x :: xs => rp x && rps xs
end
theorem rps_all (xs : List D) : rps xs = xs.all rp := by
  induction xs with
  | nil => simp [rps]
  | cons x xs ih => simp [rps, ih]
def intc (i : Int) : List Nat := (toString i).toList.map Char.toNat
mutual
def ct : D → List Nat
  | .non => [78, 111, 110, 101]
  | .bl b => if b then [84, 114, 117, 101] else [70, 97, 108, 115, 101]
  | .int i => intc i
  | .lst xs => 91 :: (cj xs ++ [93])
  | .tup xs => 40 :: (cj xs ++ (if xs.length = 1 then [44, 41] else [41]))
  | .str _ | .scr _ | .pot _ | .emp => []
def cj : List D → List Nat
  | [] => []
  | x :: xs => ct x ++ cjt xs
def cjt : List D → List Nat
  | [] => []
  | x :: xs => 44 :: 32 :: (ct x ++ cjt xs)
end
theorem cj_cons (x : D) (xs : List D) : cj (x :: xs) = ct x ++ cjt xs := by simp only [cj]
theorem cp_lit (s : String) : (Str.ofString s).cps.toList = s.toList.map Char.toNat := signs_ofString s
theorem cp_app (a b : Str) : (a ++ b).cps.toList = a.cps.toList ++ b.cps.toList := by simp [Str.cps_append]
theorem cp_join (f : D → Str) : ∀ (xs : List D) (x : D), (∀ y ∈ x :: xs, (f y).cps.toList = ct y) → (Str.join ", " ((x :: xs).map f)).cps.toList = ct x ++ cjt xs
  | [], x, h => by
    show (Str.join ", " [f x]).cps.toList = _
    rw [join_one, h x List.mem_cons_self]; simp [cjt]
  | y :: ys, x, h => by
    show (Str.join ", " (f x :: f y :: ys.map f)).cps.toList = _
    rw [join_cons_cons, cp_app, cp_app, h x List.mem_cons_self]
    have := cp_join f ys y fun z hz => h z (List.mem_cons_of_mem _ hz)
    rw [List.map_cons] at this
    rw [this, cp_lit]
    simp [cjt]
theorem shownAll_map : ∀ xs : List D, PyData.shownAll (toPys xs) = xs.map rtext
  | [] => by simp [toPys, PyData.shownAll]
  | x :: xs => by simp [toPys, PyData.shownAll, shownAll_map xs, rtext]
mutual
theorem cp_rtext : ∀ d : D, rp d = true → (rtext d).cps.toList = ct d
  | .non, _ => by simp only [rtext, toPy, PyData.shown, ct, cp_lit]; decide
  | .bl b, _ => by cases b <;> simp only [rtext, toPy, PyData.shown, ct, cp_lit] <;> decide
  | .int i, _ => by simp only [rtext, toPy, PyData.shown, ct, cp_lit, intc]
  | .str _, h => by simp [rp] at h
  | .scr _, h => by simp [rp] at h
  | .pot _, h => by simp [rp] at h
  | .emp, h => by simp [rp] at h
  | .lst xs, h => by
    have hx : rps xs = true := by simpa [rp] using h
    have ih := cp_rtexts xs hx
    simp only [rtext, toPy, PyData.shown, ct, listText_eq_join, shownAll_map, cp_app, cp_lit]
    cases xs with
    | nil => simp only [List.map_nil, join_nil, cj]; decide
    | cons x xs => rw [cp_join rtext xs x ih, cj_cons]; simp
  | .tup xs, h => by
    have hx : rps xs = true := by simpa [rp] using h
    have ih := cp_rtexts xs hx
    simp only [rtext, toPy, PyData.shown, ct, tupleText, shownAll_map, cp_app, cp_lit, List.length_map]
    cases xs with
    | nil => simp only [List.map_nil, join_nil, cj]; decide
    | cons x xs =>
      rw [cp_join rtext xs x ih, cj_cons]
      by_cases hl : (x :: xs).length = 1
      · have : xs = [] := by simpa using hl
        subst this; simp
      · have : ¬ xs = [] := fun z => hl (by rw [z]; rfl)
        simp [this]
theorem cp_rtexts : ∀ ds : List D, rps ds = true → ∀ y ∈ ds, (rtext y).cps.toList = ct y
  | [], _ => fun y h => by cases h
  | x :: xs, h => by
    simp only [rps, Bool.and_eq_true] at h
    intro y hy
    rcases List.mem_cons.mp hy with e | hy
    · rw [e]; exact cp_rtext x h.1
    · exact cp_rtexts xs h.2 y hy
end
/-! ints -/
def isIc (c : Nat) : Bool := decide (c = 45) || (decide (48 ≤ c) && decide (c ≤ 57))
theorem intc_all (i : Int) : ∀ c ∈ intc i, isIc c = true := by
  intro c hc
  obtain ⟨ch, h1, rfl⟩ := List.mem_map.mp hc
  rcases int_sign i ch h1 with h | h
  · have := digit_range h
    unfold isIc
    simp [this]
  · subst h; decide
theorem intc_ne (i : Int) : intc i ≠ [] := by
  intro h
  have h1 : (toString i).toList = [] := List.map_eq_nil_iff.mp h
  rw [Int.toString_eq_repr, Int.repr_eq_if] at h1
  split at h1
  · rw [Nat.toList_repr] at h1
    exact absurd h1 (by simp)
  · simp at h1
theorem intc_inj {i j : Int} (h : intc i = intc j) : i = j := by
  have h1 : (toString i).toList = (toString j).toList := by
    have inj : ∀ a b : List Char, a.map Char.toNat = b.map Char.toNat → a = b := by
      intro a
      induction a with
      | nil => intro b e; cases b with
        | nil => rfl
        | cons _ _ => cases e
      | cons x a ih => intro b e; cases b with
        | nil => cases e
        | cons y b =>
          rw [List.map_cons, List.map_cons, List.cons.injEq] at e
          have : x = y := Char.toNat_inj.mp e.1
          rw [this, ih b e.2]
    exact inj _ _ h
  have h2 : toString i = toString j := String.toList_inj.mp h1
  rw [Int.toString_eq_repr, Int.toString_eq_repr] at h2
  exact Int.repr_injective h2
/-- what may follow -/
def Del (s : List Nat) : Prop := ∀ c r, s = c :: r → c = 44 ∨ c = 41 ∨ c = 93
theorem del_nil : Del [] := fun c r h => by cases h
theorem del_cons {c : Nat} {r : List Nat} (h : c = 44 ∨ c = 41 ∨ c = 93) : Del (c :: r) := fun c' r' e => by cases e; exact h
theorem tw_app {p : Nat → Bool} : ∀ (l s : List Nat), (∀ c ∈ l, p c = true) → (∀ c r, s = c :: r → p c = false) → (l ++ s).takeWhile p = l
  | [], s, _, h => by
    cases s with
    | nil => rfl
    | cons c r => simp [h c r rfl]
  | x :: l, s, h, h' => by
    rw [List.cons_append, List.takeWhile_cons, h x List.mem_cons_self]
    simp only [if_true]
    rw [tw_app l s (fun c hc => h c (List.mem_cons_of_mem _ hc)) h']
theorem del_ic {s : List Nat} (h : Del s) : ∀ c r, s = c :: r → isIc c = false := fun c r e => by
  rcases h c r e with rfl | rfl | rfl <;> decide
theorem int_cut {i j : Int} {s t : List Nat} (hs : Del s) (ht : Del t) (h : intc i ++ s = intc j ++ t) : i = j ∧ s = t := by
  have h1 := congrArg (List.takeWhile isIc) h
  rw [tw_app _ _ (intc_all i) (del_ic hs), tw_app _ _ (intc_all j) (del_ic ht)] at h1
  exact ⟨intc_inj h1, List.append_cancel_left (by rw [h1] at h; exact h)⟩
theorem intc_head (i : Int) : ∃ c r, intc i = c :: r ∧ isIc c = true := by
  cases e : intc i with
  | nil => exact absurd e (intc_ne i)
  | cons c r => exact ⟨c, r, rfl, intc_all i c (by rw [e]; exact List.mem_cons_self)⟩
/-- the first sign -/
def kd : D → Nat
  | .non => 78
  | .bl true => 84
  | .bl false => 70
  | .int _ => 0
  | .lst _ => 91
  | .tup _ => 40
  | _ => 1
def kc (c : Nat) : Nat := if isIc c = true then 0 else c
theorem ct_head : ∀ d : D, rp d = true → ∃ c r, ct d = c :: r ∧ kc c = kd d
  | .non, _ => ⟨_, _, by simp only [ct]; rfl, by decide⟩
  | .bl true, _ => ⟨_, _, by simp only [ct]; rfl, by decide⟩
  | .bl false, _ => ⟨_, _, by simp only [ct]; rfl, by decide⟩
  | .int i, _ => by
    obtain ⟨c, r, e, h⟩ := intc_head i
    exact ⟨c, r, by simp only [ct]; exact e, by simp [kc, h, kd]⟩
  | .lst xs, _ => ⟨91, _, by simp only [ct]; rfl, by simp [kc, kd, isIc]⟩
  | .tup xs, _ => ⟨40, _, by simp only [ct]; rfl, by simp [kc, kd, isIc]⟩
  | .str _, h => by simp [rp] at h
  | .scr _, h => by simp [rp] at h
  | .pot _, h => by simp [rp] at h
  | .emp, h => by simp [rp] at h
theorem ct_del {d : D} (h : rp d = true) {s : List Nat} {c : Nat} {r : List Nat} (hc : c = 44 ∨ c = 41 ∨ c = 93) (e : ct d ++ s = c :: r) : False := by
  obtain ⟨c', r', e1, e2⟩ := ct_head d h
  rw [e1, List.cons_append, List.cons.injEq] at e
  rw [e.1] at e2
  rcases hc with rfl | rfl | rfl <;> (revert e2; cases d <;> first | (rename_i b; cases b <;> simp [kc, kd, isIc]) | simp [kc, kd, isIc])
theorem same_kd {a b : D} (ha : rp a = true) (hb : rp b = true) {s t : List Nat} (h : ct a ++ s = ct b ++ t) : kd a = kd b := by
  obtain ⟨c, r, e, k⟩ := ct_head a ha
  obtain ⟨c', r', e', k'⟩ := ct_head b hb
  rw [e, e', List.cons_append, List.cons_append, List.cons.injEq] at h
  rw [← k, ← k', h.1]
mutual
theorem ct_cut : ∀ a b : D, rp a = true → rp b = true → ∀ s t : List Nat, Del s → Del t → ct a ++ s = ct b ++ t → a = b ∧ s = t
  | .non, b, ha, hb, s, t, hs, ht, h => by
    have k := same_kd ha hb h
    cases b <;> first | (simp only [kd] at k; contradiction) | skip
    · exact ⟨rfl, List.append_cancel_left h⟩
    · rename_i b; cases b <;> (simp only [kd] at k; contradiction)
  | .bl x, b, ha, hb, s, t, hs, ht, h => by
    have k := same_kd ha hb h
    cases b with
    | bl y => cases x <;> cases y <;> first | (simp only [kd] at k; contradiction) | exact ⟨rfl, List.append_cancel_left h⟩
    | non => cases x <;> (simp only [kd] at k; contradiction)
    | int i => cases x <;> (simp only [kd] at k; contradiction)
    | lst i => cases x <;> (simp only [kd] at k; contradiction)
    | tup i => cases x <;> (simp only [kd] at k; contradiction)
    | str i => simp [rp] at hb
    | scr i => simp [rp] at hb
    | pot i => simp [rp] at hb
    | emp => simp [rp] at hb
  | .int i, b, ha, hb, s, t, hs, ht, h => by
    have k := same_kd ha hb h
    cases b with
    | int j =>
      simp only [ct] at h
      obtain ⟨h1, h2⟩ := int_cut hs ht h
      exact ⟨by rw [h1], h2⟩
    | bl y => cases y <;> (simp only [kd] at k; contradiction)
    | non => simp only [kd] at k; contradiction
    | lst i => simp only [kd] at k; contradiction
    | tup i => simp only [kd] at k; contradiction
    | str i => simp [rp] at hb
    | scr i => simp [rp] at hb
    | pot i => simp [rp] at hb
    | emp => simp [rp] at hb
  | .lst xs, b, ha, hb, s, t, hs, ht, h => by
    have k := same_kd ha hb h
    cases b with
    | lst ys =>
      simp only [ct, List.cons_append, List.append_assoc, List.cons.injEq, true_and, List.nil_append] at h
      obtain ⟨h1, h2⟩ := cj_cut xs ys (by simpa [rp] using ha) (by simpa [rp] using hb) 93 (.inr (.inr rfl)) s t h
      exact ⟨by rw [h1], h2⟩
    | bl y => cases y <;> (simp only [kd] at k; contradiction)
    | non => simp only [kd] at k; contradiction
    | int i => simp only [kd] at k; contradiction
    | tup i => simp only [kd] at k; contradiction
    | str i => simp [rp] at hb
    | scr i => simp [rp] at hb
    | pot i => simp [rp] at hb
    | emp => simp [rp] at hb
  | .tup xs, b, ha, hb, s, t, hs, ht, h => by
    have k := same_kd ha hb h
    cases b with
    | tup ys =>
      have hx : rps xs = true := by simpa [rp] using ha
      have hy : rps ys = true := by simpa [rp] using hb
      simp only [ct, List.cons_append, List.append_assoc, List.cons.injEq, true_and] at h
      by_cases lx : xs.length = 1
      · by_cases ly : ys.length = 1
        · simp only [lx, ly, if_true, List.cons_append, List.nil_append] at h
          obtain ⟨h1, h2⟩ := cj_cut xs ys hx hy 44 (.inl ⟨⟨lx, ly⟩, rfl⟩) (41 :: s) (41 :: t) h
          exact ⟨by rw [h1], by simpa using h2⟩
        · exfalso
          simp only [lx, ly, if_true, if_false, List.cons_append, List.nil_append] at h
          match xs, lx, hx, h with
          | [x], _, hx, h =>
            have hx1 : rp x = true := by simpa [rps] using hx
            simp only [cj, cjt, List.append_nil] at h
            match ys, ly, hy, h with
            | [], _, _, h =>
              simp only [cj, List.nil_append] at h
              exact ct_del hx1 (.inr (.inl rfl)) h
            | [y], ly, _, _ => exact absurd rfl ly
            | y :: y2 :: ys, _, hy, h =>
              simp only [rps, Bool.and_eq_true] at hy
              simp only [cj, cjt, List.append_assoc, List.cons_append] at h
              have := (ct_cut x y hx1 hy.1 _ _ (del_cons (.inl rfl)) (del_cons (.inl rfl)) h).2
              simp at this
      · by_cases ly : ys.length = 1
        · exfalso
          simp only [lx, ly, if_true, if_false, List.cons_append, List.nil_append] at h
          match ys, ly, hy, h with
          | [y], _, hy, h =>
            have hy1 : rp y = true := by simpa [rps] using hy
            simp only [cj, cjt, List.append_nil] at h
            match xs, lx, hx, h with
            | [], _, _, h =>
              simp only [cj, List.nil_append] at h
              exact ct_del hy1 (.inr (.inl rfl)) h.symm
            | [x], lx, _, _ => exact absurd rfl lx
            | x :: x2 :: xs, _, hx, h =>
              simp only [rps, Bool.and_eq_true] at hx
              simp only [cj, cjt, List.append_assoc, List.cons_append] at h
              have := (ct_cut x y hx.1 hy1 _ _ (del_cons (.inl rfl)) (del_cons (.inl rfl)) h).2
              simp at this
        · simp only [lx, ly, if_false, List.cons_append, List.nil_append] at h
          obtain ⟨h1, h2⟩ := cj_cut xs ys hx hy 41 (.inr (.inl rfl)) s t h
          exact ⟨by rw [h1], h2⟩
    | bl y => cases y <;> (simp only [kd] at k; contradiction)
    | non => simp only [kd] at k; contradiction
    | int i => simp only [kd] at k; contradiction
    | lst i => simp only [kd] at k; contradiction
    | str i => simp [rp] at hb
    | scr i => simp [rp] at hb
    | pot i => simp [rp] at hb
    | emp => simp [rp] at hb
  | .str _, _, ha, _, _, _, _, _, _ => by simp [rp] at ha
  | .scr _, _, ha, _, _, _, _, _, _ => by simp [rp] at ha
  | .pot _, _, ha, _, _, _, _, _, _ => by simp [rp] at ha
  | .emp, _, ha, _, _, _, _, _, _ => by simp [rp] at ha
theorem cj_cut : ∀ xs ys : List D, rps xs = true → rps ys = true → ∀ e : Nat, ((xs.length = 1 ∧ ys.length = 1) ∧ e = 44) ∨ (e = 41 ∨ e = 93) → ∀ s t : List Nat, cj xs ++ e :: s = cj ys ++ e :: t → xs = ys ∧ s = t
  | [], [], _, _, e, he, s, t, h => by simpa [cj] using h
  | [], y :: ys, _, hy, e, he, s, t, h => by
    simp only [rps, Bool.and_eq_true] at hy
    simp only [cj, List.nil_append, List.append_assoc] at h
    exact (ct_del hy.1 (by rcases he with he | he <;> omega) h.symm).elim
  | x :: xs, [], hx, _, e, he, s, t, h => by
    simp only [rps, Bool.and_eq_true] at hx
    simp only [cj, List.nil_append, List.append_assoc] at h
    exact (ct_del hx.1 (by rcases he with he | he <;> omega) h).elim
  | x :: xs, y :: ys, hx, hy, e, he, s, t, h => by
    simp only [rps, Bool.and_eq_true] at hx hy
    simp only [cj, List.append_assoc] at h
    have de : e = 44 ∨ e = 41 ∨ e = 93 := by rcases he with he | he <;> omega
    have dl : ∀ (zs : List D) (r : List Nat), Del (cjt zs ++ e :: r) := fun zs r => by
      cases zs with
      | nil => exact del_cons de
      | cons z zs => simp only [cjt, List.cons_append]; exact del_cons (.inl rfl)
    obtain ⟨h1, h2⟩ := ct_cut x y hx.1 hy.1 _ _ (dl xs s) (dl ys t) h
    obtain ⟨h3, h4⟩ := cjt_cut xs ys hx.2 hy.2 e (by
      rcases he with he | he
      · exact .inl ⟨List.eq_nil_of_length_eq_zero (by simpa using he.1.1), List.eq_nil_of_length_eq_zero (by simpa using he.1.2)⟩
      · exact .inr he) s t h2
    exact ⟨by rw [h1, h3], h4⟩
theorem cjt_cut : ∀ xs ys : List D, rps xs = true → rps ys = true → ∀ e : Nat, (xs = [] ∧ ys = []) ∨ (e = 41 ∨ e = 93) → ∀ s t : List Nat, cjt xs ++ e :: s = cjt ys ++ e :: t → xs = ys ∧ s = t
  | [], [], _, _, e, he, s, t, h => by simpa [cjt] using h
  | [], y :: ys, _, hy, e, he, s, t, h => by
    simp only [cjt, List.nil_append, List.cons_append, List.cons.injEq] at h
    rcases he with he | he
    · cases he.2
    · omega
  | x :: xs, [], hx, _, e, he, s, t, h => by
    simp only [cjt, List.nil_append, List.cons_append, List.cons.injEq] at h
    rcases he with he | he
    · cases he.1
    · omega
  | x :: xs, y :: ys, hx, hy, e, he, s, t, h => by
    simp only [rps, Bool.and_eq_true] at hx hy
    simp only [cjt, List.cons_append, List.append_assoc, List.cons.injEq, true_and] at h
    have he' : e = 41 ∨ e = 93 := by
      rcases he with he | he
      · cases he.1
      · exact he
    have dl : ∀ (zs : List D) (r : List Nat), Del (cjt zs ++ e :: r) := fun zs r => by
      cases zs with
      | nil => exact del_cons (.inr he')
      | cons z zs => simp only [cjt, List.cons_append]; exact del_cons (.inl rfl)
    obtain ⟨h1, h2⟩ := ct_cut x y hx.1 hy.1 _ _ (dl xs s) (dl ys t) h
    obtain ⟨h3, h4⟩ := cjt_cut xs ys hx.2 hy.2 e (.inr he') s t h2
    exact ⟨by rw [h1, h3], h4⟩
end
/-- equal texts, equal data -/
theorem rtext_inj {a b : D} (ha : rp a = true) (hb : rp b = true) (h : rtext a = rtext b) : a = b := by
  have h1 := cp_rtext a ha
  have h2 := cp_rtext b hb
  rw [h] at h1
  exact (ct_cut a b ha hb [] [] del_nil del_nil (by rw [← h1, ← h2])).1
end PF

namespace PF
open PySem PySem.Spec PyProof.Rows L2
/-! ### in, in a tuple of flat items -/
def vOf : D → V
  | .bl b => .bl b
  | .int i => .int i
  | .str x => .str x
  | _ => .non
def flatD : D → Bool
  | .non | .bl _ | .int _ | .str _ => true
  | _ => false
theorem vOf_rep {K : PySem.W.Frag} {F : Hp} {g : Nat} {pa : Option Addr} {v : V} {d : D} (r : Rep K F g pa v d) (h : flatD d = true) : v = vOf d ∧ flatV v = true := by
  cases r <;> first | (simp [flatD] at h; done) | exact ⟨rfl, rfl⟩
theorem vOf_reps {K : PySem.W.Frag} {F : Hp} {g : Nat} {pa : Option Addr} : ∀ {vs : List V} {ds : List D}, Reps K F g pa vs ds → ds.all flatD = true → vs = ds.map vOf ∧ vs.all flatV = true
  | [], [], _, _ => ⟨rfl, rfl⟩
  | [], _ :: _, h, _ => by have := h.1; simp at this
  | _ :: _, [], h, _ => by have := h.1; simp at this
  | v :: vs, d :: ds, h, hp => by
    simp only [List.all_cons, Bool.and_eq_true] at hp
    obtain ⟨h1, h2⟩ := vOf_rep h.head hp.1
    obtain ⟨h3, h4⟩ := vOf_reps h.tail hp.2
    exact ⟨by rw [h1, h3]; rfl, by simp [h2, h4]⟩
/-- in, in a list of data or a tuple of flat data -/
def dInX : D → D → Option Bool
  | d, .tup xs => if flatD d && xs.all flatD then some (inV (vOf d) (xs.map vOf)) else none
  | d, e => dIn d e
def dNotInX : D → D → Option Bool := fun d e => (dInX d e).map fun b => !b
@[simp] theorem dInX_lst (d : D) (xs : List D) : dInX d (.lst xs) = dIn d (.lst xs) := rfl
@[simp] theorem dNotInX_lst (d : D) (xs : List D) : dNotInX d (.lst xs) = dNotIn d (.lst xs) := rfl
section
variable {X : Cx} {Wx : WX} {a b : Expr} {ma mb : M D} {pos : Pos}
theorem dIn_lst {d e : D} {z : Bool} (h : dIn d e = some z) : ∃ xs, e = .lst xs := by
  cases e <;> first | exact ⟨_, rfl⟩ | (simp [dIn] at h)
theorem dInX_cases {d e : D} {z : Bool} (h : dInX d e = some z) : dIn d e = some z ∨ ∃ xs, e = .tup xs ∧ flatD d = true ∧ xs.all flatD = true ∧ z = inV (vOf d) (xs.map vOf) := by
  unfold dInX at h
  split at h
  · rename_i d xs
    split at h
    · rename_i hc
      simp only [Bool.and_eq_true] at hc
      simp only [Option.some.injEq] at h
      exact .inr ⟨xs, rfl, hc.1, hc.2, h.symm⟩
    · cases h
  · exact .inl h
theorem cmps_inX : CmpS X (fun x y H Q => rInD X.K x y H Q ∨ rIn X.K false x y H Q) dInX := by
  intro x y d e z F H p pa Q gs rx ry ez k
  rcases dInX_cases ez with h | ⟨xs, rfl, h1, h2, h3⟩
  · exact .inl (cmps_in x y d e z F H p pa Q gs rx ry h k)
  · obtain ⟨a, vs, rfl, ha, _, rs⟩ := ry.tup_inv
    obtain ⟨e1, f1⟩ := vOf_rep rx h1
    obtain ⟨e2, f2⟩ := vOf_reps rs h2
    refine .inr ⟨a, vs, rfl, .inr (SqT.of (gs.sub _ _ ha)), f1, f2, ?_⟩
    rw [e1, e2]
    simp only [Bool.false_eq_true, if_false]
    rw [← h3]; exact k
theorem cmps_notInX : CmpS X (fun x y H Q => rNotInD X.K x y H Q ∨ rIn X.K true x y H Q) dNotInX := by
  intro x y d e z F H p pa Q gs rx ry ez k
  unfold dNotInX at ez
  cases q : dInX d e with
  | none => rw [q] at ez; cases ez
  | some w =>
    rw [q] at ez
    have ez : (!w) = z := by simpa using ez
    rcases dInX_cases q with h | ⟨xs, rfl, h1, h2, h3⟩
    · exact .inl (cmps_notIn x y d e z F H p pa Q gs rx ry (by unfold dNotIn; rw [h]; simp [ez]) k)
    · obtain ⟨a, vs, rfl, ha, _, rs⟩ := ry.tup_inv
      obtain ⟨e1, f1⟩ := vOf_rep rx h1
      obtain ⟨e2, f2⟩ := vOf_reps rs h2
      refine .inr ⟨a, vs, rfl, .inr (SqT.of (gs.sub _ _ ha)), f1, f2, ?_⟩
      rw [e1, e2]
      simp only [if_true]
      rw [← h3, ez]; exact k
theorem pmt_inX (hu : Un X) (ha : PM X Wx a ma) (hb : PM X Wx b mb) (hm : behindInMarks .In b = false := by rfl) : PMt X Wx (.Compare a [.In] [b] pos) (mCmp dInX ma mb) := pmt_cmp ((op_inD hu).or op_in_seq) cmps_inX ha hb hm
theorem pmt_notInX (hu : Un X) (ha : PM X Wx a ma) (hb : PM X Wx b mb) (hm : behindInMarks .NotIn b = false := by rfl) : PMt X Wx (.Compare a [.NotIn] [b] pos) (mCmp dNotInX ma mb) := pmt_cmp ((op_notInD hu).or op_notIn_seq) cmps_notInX ha hb hm
theorem pm_inX (hu : Un X) (ha : PM X Wx a ma) (hb : PM X Wx b mb) (hm : behindInMarks .In b = false := by rfl) : PM X Wx (.Compare a [.In] [b] pos) (mB (mCmp dInX ma mb)) := pm_cmp ((op_inD hu).or op_in_seq) cmps_inX ha hb hm
theorem pm_notInX (hu : Un X) (ha : PM X Wx a ma) (hb : PM X Wx b mb) (hm : behindInMarks .NotIn b = false := by rfl) : PM X Wx (.Compare a [.NotIn] [b] pos) (mB (mCmp dNotInX ma mb)) := pm_cmp ((op_notInD hu).or op_notIn_seq) cmps_notInX ha hb hm
end
/-- whole numbers in a tuple of whole numbers -/
theorem nInT (k : Nat) (ns : List Nat) : dInX (dI k) (.tup (ns.map dI)) = some (decide (k ∈ ns)) := by
  have h : flatD (dI k) = true := rfl
  have h2 : (ns.map dI).all flatD = true := by
    rw [List.all_eq_true]; intro x hx; obtain ⟨n, _, rfl⟩ := List.mem_map.mp hx; rfl
  simp only [dInX, h, h2, Bool.and_self, if_true]
  congr 1
  unfold inV
  rw [List.map_map]
  induction ns with
  | nil => rfl
  | cons n ns ih =>
    have h2' : (ns.map dI).all flatD = true := by simp only [List.map_cons, List.all_cons, Bool.and_eq_true] at h2; exact h2.2
    rw [List.map_cons, List.any_cons, ih h2']
    have e : eqV ((vOf ∘ dI) n) (vOf (dI k)) = decide (k = n) := by
      show ((n : Int) == (k : Int)) = _
      by_cases z : k = n
      · subst z; simp
      · have : ¬ (n : Int) = (k : Int) := by omega
        simp [z, this]
    rw [e]
    by_cases z : k = n <;> simp [z]
end PF

namespace PF
open PySem PySem.Spec PyProof.Rows L2
/-! ### sorted(dict(pairs)): the keys, each once, rising -/
/-- what is put into a dict's keys, in the order of first sight -/
def seen : List Int → List Int → List Int
  | acc, [] => acc
  | acc, k :: ks => seen (if k ∈ acc then acc else acc ++ [k]) ks
theorem keys_put (acc : List (Key × V)) (ks : List Int) (h : acc.map (·.1) = ks.map Sum.inl) (k : Int) (v : V) : (putK acc (Sum.inl k) v).map (·.1) = (if k ∈ ks then ks else ks ++ [k]).map Sum.inl := by
  have hany : (acc.any fun kv => decide (kv.1 = (Sum.inl k : Key))) = decide (k ∈ ks) := by
    have e1 : (acc.any fun kv => decide (kv.1 = (Sum.inl k : Key))) = (acc.map (·.1)).any fun x => decide (x = (Sum.inl k : Key)) := by rw [List.any_map]; rfl
    rw [e1, h, List.any_map, Bool.eq_iff_iff]
    simp only [List.any_eq_true, Function.comp, decide_eq_true_eq, Sum.inl.injEq]
    constructor
    · rintro ⟨x, hx, rfl⟩; exact hx
    · exact fun hk => ⟨k, hk, rfl⟩
  unfold putK
  rw [hany]
  by_cases hk : k ∈ ks
  · simp only [hk, decide_true, if_true]
    rw [List.map_map, ← h]
    refine List.map_congr_left fun kv _ => ?_
    simp only [Function.comp]
    split <;> rfl
  · simp only [hk, decide_false, Bool.false_eq_true, if_false]
    rw [List.map_append, h, List.map_append]
    rfl
theorem keys_merge : ∀ (kvs : List (Key × V)) (ns : List Int) (acc : List (Key × V)) (ks : List Int), kvs.map (·.1) = ns.map Sum.inl → acc.map (·.1) = ks.map Sum.inl → (mergeK acc kvs).map (·.1) = (seen ks ns).map Sum.inl
  | [], [], acc, ks, _, h => h
  | [], _ :: _, _, _, h, _ => by cases h
  | _ :: _, [], _, _, h, _ => by cases h
  | (k', v) :: kvs, n :: ns, acc, ks, h, h' => by
    simp only [List.map_cons, List.cons.injEq] at h
    have e : k' = Sum.inl n := h.1
    subst e
    have ih := keys_merge kvs ns (putK acc (Sum.inl n) v) (if n ∈ ks then ks else ks ++ [n]) h.2 (keys_put acc ks h' n v)
    unfold mergeK at ih ⊢
    rw [List.foldl_cons]
    exact ih
/-- sorted of a dict whose keys are ints, however many -/
theorem call_sortedDX {X : Cx} (hcalm : X.calm = true) : CallR X (.builtin "sorted") (fun xs H Q => ∃ (a : Addr) (kvs : List (Key × V)) (ks : List Int), xs = [.ref a] ∧ H a = some (.dK kvs) ∧ kvs.map (·.1) = ks.map Sum.inl ∧
    ∀ (ys : List Int) (p : Addr), ys.Perm ks → ys.Pairwise (· ≤ ·) → H p = none → Q (.ref p) (upd H p (.lst (ys.map V.int)))) := by
  intro pins s σ H xs us Q I r q
  obtain ⟨a, kvs, ks, rfl, hd, hks, q⟩ := q
  obtain ⟨u, rfl, rx⟩ := vals1 r
  cases rx
  obtain ⟨z, lo, vs, rel, dd⟩ := dk_rd I.hok (.inl hd)
  obtain ⟨ep, hat⟩ := dd.dictAt
  have hkeys : vs.map (·.1) = ks.map Sum.inl := rel.keys.symm.trans hks
  have hl : vs.length = ks.length := by simpa using congrArg List.length hkeys
  have hl2 : kvs.length = ks.length := by simpa using congrArg List.length hks
  have h16 : vs.length ≤ sizeLine := by omega
  refine Calls.call_function_entry PyProof.Rows.kind_sorted PyProof.Rows.plain_sorted PyProof.Rows.entry_sorted (PyProof.Rows.args_sorted1 _) ?_
  unfold Builtin.«sorted»
  refine wpAny_bind (m := checkCount "sorted" 1 1 _) (wpAny_pure ?_)
  refine wpAny_bind (PySem.W.kdu_collect (A := X.A.in1) (PySem.W.kdl_dict (knd := mixKind X.prog X.w) (kvs := vs) (ep := ep) lo) (I.ok.hd hcalm) hat h16
    fun h' tk acc hk hacc => ?_)
  have hal : acc.toList.length = ks.length := by rw [Array.length_toList, hacc.1]; exact hl
  have hS : IntsAre acc.toList ks := ints_each hal fun j v e => by
    obtain ⟨k, x, e1, e2⟩ := hacc.2 j v (by rw [← Array.getElem?_toList]; exact e)
    have e3 : (vs.map (·.1))[j]? = some k := by rw [List.getElem?_map, e1]; rfl
    rw [hkeys, List.getElem?_map] at e3
    cases e4 : ks[j]? with
    | none => rw [e4] at e3; cases e3
    | some y =>
      rw [e4] at e3
      obtain rfl : Sum.inl y = k := Option.some.inj e3
      rcases keyIs_shape (show keyIs (Sum.inl y) v = true from e2) with ⟨i, t, ek, ev⟩ | ⟨z, t, ek, ev⟩ <;> cases ek
      exact ⟨y, t, rfl, ev⟩
  have I1 : Inv X pins σ H { s with heap := h', toks := tk } := I.kept hk
  have hz2 : acc.toList.length ≤ sizeLine := by omega
  refine wpAny_bind (wpAny_newList ?_ hz2)
  have hoL : (h'.push (seqObj "list" acc.toList.toArray 0)).get? h'.objs.size = some (seqObj "list" acc.toList.toArray 0) :=
    Heap.get?_push_size _ rfl
  show wpAny _ _ _ _ _ { s with heap := h'.push (seqObj "list" acc.toList.toArray 0), toks := tk }
  refine wpAny_bind (wpAny_holding (wpAny_call_entry PyProof.Rows.slot_list_sort ⟨_, hoL, rfl⟩ PyProof.Rows.entry_list_sort
    (SrtO.list_sort_ord SrtO.swo_int (s := { s with heap := h'.push (seqObj "list" acc.toList.toArray 0), toks := tk }) hoL hz2 (fun h2 => SrtO.ints_sortable hS h2) fun out g1 g2 => ⟨.none, rfl, ?_⟩) (PyProof.Rows.args_list_sort _)))
  obtain ⟨k1, k2, k3⟩ := SrtO.ints_out hS g1 g2
  obtain ⟨e', he'⟩ := PyProof.Rows.sortedHeap_at (vs := acc.toList) (out := out.toArray) hoL
  have hlen : ((out.map SrtO.iv).map V.int).length ≤ sizeLine := by
    rw [List.length_map, k2.length_eq, ← hl]; exact h16
  refine wpAny_pure ⟨_, rfl, .ref h'.objs.size, upd H h'.objs.size (.lst ((out.map SrtO.iv).map V.int)), I1.laid (t' := tk) (fun b u e => ?_) (Nat.le_refl _)
    (show ObjOk X.prog X.w _ _ _ (.lst ((out.map SrtO.iv).map V.int)) from ⟨hlen, out, e', vals_of_ints k1, he'⟩), rfl, q _ _ k2 k3 (I1.hok.fresh (Nat.le_refl _))⟩
  have hb : b < h'.objs.size := Heap.lt_size e
  rw [PyProof.Rows.sortedHeap_old (Nat.ne_of_lt hb) (by rw [size_push']; exact Nat.lt_succ_of_lt hb)]
  exact Heap.get?_push_of_some _ e
/-- the first parts of pairs -/
def fsts : List D → Option (List Int)
  | [] => some []
  | .tup [.int k, _] :: r => (fsts r).map (k :: ·)
  | _ => none
def dSdict : List D → Option (List D)
  | [.lst xs] => (fsts xs).map fun ns => (srt (seen [] ns)).map .int
  | _ => none
theorem fsts_cons {x : D} {xs : List D} {ns : List Int} (h : fsts (x :: xs) = some ns) : ∃ k v ms, x = .tup [.int k, v] ∧ fsts xs = some ms ∧ ns = k :: ms := by
  unfold fsts at h
  split at h
  · rename_i e; cases e
  · rename_i k v r e
    cases e
    cases q : fsts xs with
    | none => rw [q] at h; cases h
    | some ms => rw [q] at h; simp only [Option.map_some, Option.some.injEq] at h; exact ⟨k, v, ms, rfl, rfl, h.symm⟩
  · cases h
theorem fsts_pairs {K : PySem.W.Frag} {F H : Hp} {g : Nat} {pa : Option Addr} (sub : ∀ a o, F a = some o → H a = some o) : ∀ {xs : List D} {vs : List V} {ns : List Int}, Reps K F g pa vs xs → fsts xs = some ns →
    ∃ (ps : List Addr) (kvs : List (Key × V)), vs = ps.map V.ref ∧ Paired (fun p kv => SqT K H p [kV kv.1, kv.2]) ps kvs ∧ kvs.map (·.1) = ns.map Sum.inl
  | [], [], ns, _, h => by
    simp only [fsts, Option.some.injEq] at h
    subst h
    exact ⟨[], [], rfl, .nil, rfl⟩
  | [], _ :: _, _, r, _ => by have := r.1; simp at this
  | _ :: _, [], _, r, _ => by have := r.1; simp at this
  | x :: xs, v :: vs, ns, r, h => by
    obtain ⟨k, y, ms, rfl, h1, rfl⟩ := fsts_cons h
    obtain ⟨ps, kvs, rfl, hp, hk⟩ := fsts_pairs sub r.tail h1
    obtain ⟨a, ws, rfl, ha, _, rs⟩ := r.head.tup_inv
    rcases rs.cases with ⟨_, z⟩ | ⟨w1, y1, ws1, ys1, rfl, z, r1, rs1⟩
    · cases z
    cases z
    rcases rs1.cases with ⟨_, z⟩ | ⟨w2, y2, ws2, ys2, rfl, z, r2, rs2⟩
    · cases z
    cases z
    have e2 : ws2 = [] := by
      rcases rs2.cases with ⟨e, _⟩ | ⟨_, _, _, _, _, z, _⟩
      · exact e
      · cases z
    subst e2
    cases r1
    exact ⟨a :: ps, (Sum.inl k, w2) :: kvs, rfl, .cons (SqT.of (sub _ _ ha)) hp, by simp [hk]⟩
theorem dSdict_some {ds z : List D} (h : dSdict ds = some z) : ∃ xs ns, ds = [.lst xs] ∧ fsts xs = some ns ∧ z = (srt (seen [] ns)).map .int := by
  unfold dSdict at h
  split at h
  · rename_i xs
    cases q : fsts xs with
    | none => rw [q] at h; cases h
    | some ns => rw [q] at h; simp only [Option.map_some, Option.some.injEq] at h; exact ⟨xs, ns, rfl, q, h.symm⟩
  · cases h
theorem fsts_len : ∀ {xs : List D} {ns : List Int}, fsts xs = some ns → ns.length = xs.length
  | [], ns, h => by simp only [fsts, Option.some.injEq] at h; subst h; rfl
  | x :: xs, ns, h => by
    obtain ⟨k, y, ms, rfl, h1, rfl⟩ := fsts_cons h
    simp [fsts_len h1]
theorem seen_len : ∀ (ns acc : List Int), (seen acc ns).length ≤ acc.length + ns.length
  | [], acc => Nat.le_refl _
  | n :: ns, acc => by
    have := seen_len ns (if n ∈ acc then acc else acc ++ [n])
    simp only [seen, List.length_cons]
    split at this <;> simp at this ⊢ <;> simp_all <;> omega
section
variable {X : Cx} {Wx : WX} {e : Expr} {ms : M (List D)} {p p2 pos pos2 : Pos}
theorem pmo_sdict (hc : X.calm = true) (hm : X.mg "sorted" = none) (hm2 : X.mg "dict" = none) (ha : PMa X Wx [e] ms) (hg : Gl X "sorted" := by rfl) (hg2 : Gl X "dict" := by rfl)
    (he : starEach [e] X.env = (false, eval e X.env) :: starEach [] X.env := by rfl) (hpl : (backTo pos2 (starEach [] X.env)).any (·.1) = false := by rfl)
    (he2 : starEach [.Call (.Name "dict" p2) [e] [] pos2] X.env = (false, eval (.Call (.Name "dict" p2) [e] [] pos2) X.env) :: starEach [] X.env := by rfl) (hpl2 : (backTo pos (starEach [] X.env)).any (·.1) = false := by rfl) :
    PMo X Wx (.Call (.Name "sorted" p) [.Call (.Name "dict" p2) [e] [] pos2] [] pos) (mLst dSdict ms) :=
  ⟨(pe_callB (call_sortedDX hc) hg hm boot_sorted (pa_cons (pe_callTy (call_dictP hc) hg2 hm2 PyProof.Rows.boot_dict ha.pa (by decide) (by decide) he hpl) pa_nil he2) (by decide) (by decide) he2 hpl2).imp fun σ H Q ⟨F, pa, p, ρ, gs, s, o⟩ => by
    refine TMa.of gs s ((Out.bindS .refl o).mono fun ds p1 F1 H1 pa1 _ gs1 ⟨gr1, o1⟩ s1 vs rs => ?_)
    obtain ⟨z, ez, o2⟩ := o1.opt
    obtain ⟨xs, ns, rfl, q, rfl⟩ := dSdict_some ez
    obtain ⟨v, rfl, r⟩ := reps1 rs
    obtain ⟨a, ws, rfl, h1, hz, rw1⟩ := r.lstH gs1
    obtain ⟨ps, kvs, rfl, hp, hk⟩ := fsts_pairs gs1.sub rw1 q
    refine ⟨a, ps, kvs, rfl, SqL.of h1, hp, fun dd hdd => ?_⟩
    have hkey := keys_merge kvs ns [] [] hk rfl
    refine ⟨dd, mergeK [] kvs, seen [] ns, rfl, upd_same, hkey, fun ys l hperm hsort hl => ?_⟩
    have e : ys = srt (seen [] ns) := sorted_unique (hperm.trans (srt_perm _).symm) hsort (srt_sorted _)
    subst e
    have gs2 := gs1.allocO (o := HO.dK (mergeK [] kvs)) hdd
    have gr2 := gr1.trans (Gr.allocO (o := HO.dK (mergeK [] kvs)) hdd)
    refine out_fresh gr2 gs2 o2 hl ?_ (reps_int_map _)
    rw [List.length_map, (srt_perm _).length_eq]
    have h3 := seen_len ns []
    have h4 := fsts_len q
    simp only [List.length_nil] at h3
    omega⟩
end
end PF

namespace PF
open PySem PySem.Spec PyProof.Rows L2
section
variable {X : Cx} {En : Ent} {Wx : WX} {c a : Expr} {mt : M Bool} {ma : M D} {x : Str} {i : Nat} {p1 p2 p3 : Pos}
/-! ### return a if c else x, x an own list -/
theorem own_ret {K : PySem.W.Frag} {F H : Hp} {pa : Option Addr} {p : Pst} {σ : L2.St} {ρ : Sl} {Dn : Ends} (s : SS K En F H pa p σ ρ) {mg : Str → Option Value} (o : SOut K mg En Wx F p.g pa Dn (cretown i ρ p)) : ∃ v, σ[i]? = some (some v) ∧ Dn.rt v H := by
  unfold cretown at o
  cases q : ρ[i]? with
  | none => rw [q] at o; exact o.elim
  | some w =>
    rw [q] at o
    cases w with
    | none => exact o.elim
    | some w =>
      cases w with
      | val d => exact o.elim
      | own xs =>
        obtain ⟨v, e1, a, vs, rfl, h2, h3, h4, h5, h6⟩ := s.sr.rep i _ q
        exact ⟨_, e1, o _ F H pa .refl s.gr s.gs ⟨a, vs, xs, rfl, rfl, s.nw i xs _ q e1 a rfl, h2, h3, h4, h5, h6⟩⟩
theorem cs_retif_vo (hc : PMt X Wx c mt) (ha : PM X Wx a ma) (h : PE X (.Name x p1) (tVar i)) : PMs X En Wx (.Return (some (.IfExp c a (.Name x p1) p2)) p3) (cif mt (cret ma) (cretown i)) :=
  ⟨(ps_ret (pe_ifExp hc.pt ha.pe h)).imp fun Dn σ H ⟨F, pa, p, ρ, s, o⟩ => by
    refine ⟨F, pa, p, ρ, s.gs, s.sr, (o.expr s).mono fun k p' F' H' pa' gr gs ⟨s', o'⟩ => ?_⟩
    cases k with
    | true =>
      simp only [if_true] at o' ⊢
      exact tm_s s' o' fun v d p' F' H' pa' s' _ r o' => o' v F' H' pa' .refl s'.gr s'.gs r
    | false =>
      simp only [Bool.false_eq_true, if_false] at o' ⊢
      exact own_ret s' o'⟩
theorem cs_retif_ov (hc : PMt X Wx c mt) (h : PE X (.Name x p1) (tVar i)) (ha : PM X Wx a ma) : PMs X En Wx (.Return (some (.IfExp c (.Name x p1) a p2)) p3) (cif mt (cretown i) (cret ma)) :=
  ⟨(ps_ret (pe_ifExp hc.pt h ha.pe)).imp fun Dn σ H ⟨F, pa, p, ρ, s, o⟩ => by
    refine ⟨F, pa, p, ρ, s.gs, s.sr, (o.expr s).mono fun k p' F' H' pa' gr gs ⟨s', o'⟩ => ?_⟩
    cases k with
    | true =>
      simp only [if_true] at o' ⊢
      exact own_ret s' o'
    | false =>
      simp only [Bool.false_eq_true, if_false] at o' ⊢
      exact tm_s s' o' fun v d p' F' H' pa' s' _ r o' => o' v F' H' pa' .refl s'.gr s'.gs r⟩
end
end PF

namespace PF
open PySem PySem.Spec PyProof.Rows L2
/-! ### a def that gets a fresh list for its own: f(e), e a fresh list -/
abbrev FnO := List D → Pst → FRes
structure FnMo (P : Program) (w : World) (K : PySem.W.Frag) (mg : Str → Option Value) (base : Heap) (k : Nat) (f : Addr) (fd : FuncData) (ps : List Str) (G : FnO) : Prop where
  run : ∀ (A : Around) (outer : List Env) (s : Shared) (H : Hp) (args : Args) (u : Value) (a : Addr) (ws : List V) (xs : List D) (F Hm : Hp) (pa : Option Addr) (p : Pst) (Q : VK) (E : XK), Room k A → A.guards = some [] → Env0 P w K mg base A outer s H → BindsTo s fd args (ps.zip [u]) → RelV (.ref a) u →
    GS F H pa p → Gr F Hm p.g pa F H p.g pa → Hm a = none → H a = some (.lst ws) → F a = none → pa ≠ some a → xs.length ≤ sizeLine → Reps K F p.g pa ws xs → FOut K mg F Hm p.g pa Q E (G xs p) →
    codeAny (model P w) A (.call (.ref f) args) (CR (L2.CX P w) outer P w H s Q E) s
structure FnXo (P : Program) (w : World) (K : PySem.W.Frag) (mg : Str → Option Value) (base : Heap) (x : Str) (params : Arguments) (k : Nat) (ps : List Str) (G : FnO) : Prop where
  ex : ∃ (f : Addr) (fd : FuncData), mg x = some (.ref f) ∧ PySem.W.keepIn K (.ref f) = true ∧ (∃ (body : List Stmt) (scope : Scope) (kV doc pm : Value) (an : Option Addr) (cdv ct : Value), fd = PySem.W.fnOf x x params body scope .none kV doc pm an cdv ct) ∧ FnMo P w K mg base k f fd ps G
/-- what a def with n slots and one parameter does, the parameter its own list -/
def freso (n : Nat) (c : C) : FnO := fun xs p => sres (c (some (.own xs) :: List.replicate (n - 1) none) p)
theorem srel_own {K : PySem.W.Frag} {F H : Hp} {g : Nat} {pa : Option Addr} {a : Addr} {ws : List V} {xs : List D} {N : List Str} (h1 : H a = some (.lst ws)) (h2 : F a = none) (h3 : pa ≠ some a) (h4 : xs.length ≤ sizeLine) (r : Reps K F g pa ws xs) :
    SRel K F H g pa (L2.start N [.ref a]) (some (.own xs) :: List.replicate (N.length - 1) none) := by
  unfold L2.start
  have key : ∀ (i : Nat) w, (some (W.own xs) :: List.replicate (N.length - 1) none)[i]? = some (some w) → i = 0 ∧ w = .own xs := fun i w h => by
    cases i with
    | zero => simp at h; exact ⟨rfl, h.symm⟩
    | succ i =>
      rw [List.getElem?_cons_succ, List.getElem?_replicate] at h
      split at h <;> cases h
  refine ⟨by simp, fun i w h => ?_, fun i j xs' ys' v hi hj _ _ => ?_⟩
  · obtain ⟨rfl, rfl⟩ := key i w h
    exact ⟨.ref a, by simp, a, ws, rfl, h1, h2, h3, h4, r⟩
  · rw [(key i _ hi).1, (key j _ hj).1]
theorem fnxo {P : Program} {w : World} {K : PySem.W.Frag} {mg : Str → Option Value} {base : Heap} {x : Str} {params : Arguments} {body : List Stmt} {scope : Scope} {f : Addr} {fd : FuncData} {N ps : List Str} {k : Nat} {c : C}
    (F : FunD K x x params body scope [] [] f fd) (hm : mg x = some (.ref f)) (S : FnScope N ps scope) (h1 : ps.length = 1) (hb : BodyOk P w K mg base k x body scope N c) : FnXo P w K mg base x params (k + 1) ps (freso N.length c) := by
  obtain ⟨oc, od, dV, kV, doc, pm, an, cdv, ct, osl, rfl, lk, hcd, hD, _⟩ := F.ex
  obtain rfl : dV = .none := by
    rcases hD with ⟨_, h⟩ | ⟨h, _⟩
    · exact h
    · exact absurd rfl h
  refine ⟨f, _, hm, F.kp, ⟨body, scope, kV, doc, pm, an, cdv, ct, rfl⟩, ⟨fun A outer s H args u a ws xs Fz0 Hm pa p Q E hr hgd e0 hbt rv gs gr ha1 ha2 ha3 ha4 ha5 rs o => ?_⟩⟩
  refine LamX.run_ofS (N := N) lk hcd S hr e0 hbt (.cons rv .nil) (by rw [h1]; rfl) fun hr' => ?_
  let En : Ent := ⟨Fz0, Hm, p.g, pa⟩
  refine ⟨_, (hb f cdv A outer s H E En hr' (by show A.guards = some []; exact hgd)).ps, Fz0, pa, p, _, ⟨gr, gs, srel_own ha2 ha3 ha4 ha5 rs, fun i ys v h hv => ?_⟩, ?_⟩
  · cases i with
    | zero =>
      intro b e
      have : v = .ref a := by
        unfold L2.start at hv
        simpa using hv.symm
      rw [this] at e
      cases e
      exact ha1
    | succ i =>
      rw [List.getElem?_cons_succ, List.getElem?_replicate] at h
      split at h <;> cases h
  · unfold freso at o
    cases q : c (some (.own xs) :: List.replicate (N.length - 1) none) p with
    | nx ρ' p' =>
      rw [q] at o
      exact fun σ' F' H' pa' fz s' => o .non F' H' pa' s'.gr s'.gs (show Rep _ _ _ _ _ _ from .non)
    | rt d fr p' =>
      rw [q] at o
      exact fun v F' H' pa' fz gr gs' r => o v F' H' pa' gr gs' r
    | exc y ρ' p' =>
      rw [q] at o
      exact fun cls dd σ' F' H' pa' fz s' r => o cls dd F' H' pa' s'.gr s'.gs r
    | bk ρ' p' => rw [q] at o; exact o.elim
    | ct ρ' p' => rw [q] at o; exact o.elim
    | stuck => rw [q] at o; exact o.elim
section
variable {X : Cx} {Wx : WX} {e : Expr} {mo : M (List D)} {pos p : Pos} {x : Str} {params : Arguments} {k : Nat} {ps : List Str} {G : FnO}
def FRo (X : Cx) (Wx : WX) (G : FnO) (σ : L2.St) : V → Hp → VK → Prop := fun v H Q => ∃ a ws xs F Hm pa p, v = .ref a ∧ GS F H pa p ∧ Gr F Hm p.g pa F H p.g pa ∧ Hm a = none ∧ H a = some (.lst ws) ∧ F a = none ∧ pa ≠ some a ∧ xs.length ≤ sizeLine ∧ Reps X.K F p.g pa ws xs ∧ FOut X.K X.mg F Hm p.g pa Q (fun cls dd H' => Wx cls dd σ H') (G xs p)
theorem pe_fnO (Fx : FnXo X.prog X.w X.K X.mg X.base x params k ps G) (hr : Room k X.A) (hgd : X.A.guards = some []) (tk : Takes X Wx) (hb : Bd x params ps 1 [] [0]) (hg : Gl X x) {te : TE} (ha : PA X [e] (tCons te tNil)) (hdb : (x == ("__debug__" : Str)) = false := by decide)
    (he : starEach [e] X.env = (false, eval e X.env) :: starEach [] X.env := by rfl) (hpl : (backTo pos (starEach [] X.env)).any (·.1) = false := by rfl) : PE X (.Call (.Name x p) [e] [] pos) (fun σ H Q => tCons te tNil σ H fun vs H1 => ∃ v, vs = [v] ∧ FRo X Wx G σ v H1 Q) := by
  obtain ⟨f, fd, hm, hk, hfd, Fm⟩ := Fx.ex
  refine ⟨fun pins s σ H Q I h => ?_⟩
  refine wpAny_Call_Name_kw (ld_glob I hg hm ?_ hdb)
  refine PySem.W.callWith_K (h₀ := X.base) I.ok.mod.kin hk (thn (ha.run pos pins s σ H _ I h) fun us s1 ⟨vs, H1, I1, r, q⟩ => ⟨I1.kIn, ?_⟩) he hpl
  obtain ⟨v, rfl, a, ws, xs, F, Hm, pa, p, rfl, gs, gr, h1, h2, h3, h4, h5, rs, o⟩ := q
  obtain ⟨body, scope, kV, doc, pm, an, cdv, ct, rfl⟩ := hfd
  obtain ⟨u, rfl, ru⟩ := vals1 r
  have hbt : BindsTo s1 (PySem.W.fnOf x x params body scope .none kV doc pm an cdv ct) ⟨[u], []⟩ (ps.zip [u]) := .of_eq (hb _ _ _ _ _ _ _ _ [u] [] rfl rfl)
  exact wpAny_call (codeAny_mono (Fm.run X.A X.stack s1 H1 ⟨[u], []⟩ u a ws xs F Hm pa p Q (fun cls dd H' => Wx cls dd σ H') hr hgd I1.env0 hbt ru gs gr h1 h2 h3 h4 h5 rs o) fun r s' hq => by
    cases r with
    | error e => exact tk e s' (XE.of_call I1 (fun _ _ _ h => h) hq)
    | ok fl =>
      cases fl with
      | ret u => exact I1.after hq
      | next => exact False.elim hq
      | brk => exact False.elim hq
      | cont => exact False.elim hq)
def mFnO (G : FnO) (mo : M (List D)) : M D := mbind mo fun xs _ p => outFn (fun d _ => some d) (G xs p)
def mFnOo (G : FnO) (mo : M (List D)) : M (List D) := mbind mo fun xs _ p => outFn frOf (G xs p)
@[simp] theorem ev_mFnO (G : FnO) (mo : M (List D)) (ρ : Sl) (p : Pst) : mFnO G mo ρ p = mbind mo (fun xs _ p => outFn (fun d _ => some d) (G xs p)) ρ p := by cases p; rfl
@[simp] theorem ev_mFnOo (G : FnO) (mo : M (List D)) (ρ : Sl) (p : Pst) : mFnOo G mo ρ p = mbind mo (fun xs _ p => outFn frOf (G xs p)) ρ p := by cases p; rfl
/-- the heap without what was made last -/
def less (H : Hp) (a : Addr) : Hp := fun b => if b = a then none else H b
theorem less_gr {F0 H0 F H : Hp} {g0 g : Nat} {pa0 pa : Option Addr} {a : Addr} (gr : Gr F0 H0 g0 pa0 F H g pa) (h0 : H0 a = none) (hp : pa ≠ some a) : Gr F0 H0 g0 pa0 F (less H a) g pa := by
  refine ⟨gr.fz, gr.new, fun b o h n => ?_, fun b o h => ?_, gr.pot⟩
  · have : b ≠ a := fun e => by rw [e, h0] at h; cases h
    unfold less; rw [if_neg this]; exact gr.keep b o h n
  · have : b ≠ a := fun e => by rw [e, h0] at h; cases h
    unfold less; rw [if_neg this]; exact gr.there b o h
theorem gr_less {F H : Hp} {g : Nat} {pa : Option Addr} {a : Addr} : Gr F (less H a) g pa F H g pa := by
  refine ⟨.refl, fun b o h => .inl h, fun b o h _ => ?_, fun b o h => ?_, .inl rfl⟩
  · unfold less at h; split at h
    · cases h
    · exact h
  · unfold less at h; split at h
    · cases h
    · exact ⟨o, h⟩
theorem fno_tm : ∀ σ H Q, TM X.K X.mg Wx (mFnO G mo) σ H Q → tCons (TMo X.K X.mg Wx mo) tNil σ H fun vs H1 => ∃ v, vs = [v] ∧ FRo X Wx G σ v H1 Q := by
  intro σ H Q ⟨F, pa, p, ρ, gs, s, o⟩
  refine ⟨F, pa, p, ρ, gs, s, (Out.bindS .refl o).mono fun xs p1 F1 H1 pa1 gr1 gs1 ⟨gr, o1⟩ a ws h1 h2 h3 h4 h5 rs => ?_⟩
  refine ⟨_, rfl, a, ws, xs, F1, less H1 a, pa1, p1, rfl, gs1, gr_less, by simp [less], h2, h3, h4, h5, rs, ?_⟩
  exact fout_val (less_gr gr h1 h4) o1
theorem fno_tmo : ∀ σ H Q, TMo X.K X.mg Wx (mFnOo G mo) σ H Q → tCons (TMo X.K X.mg Wx mo) tNil σ H fun vs H1 => ∃ v, vs = [v] ∧ FRo X Wx G σ v H1 Q := by
  intro σ H Q ⟨F, pa, p, ρ, gs, s, o⟩
  refine ⟨F, pa, p, ρ, gs, s, (Out.bindS .refl o).mono fun xs p1 F1 H1 pa1 gr1 gs1 ⟨gr, o1⟩ a ws h1 h2 h3 h4 h5 rs => ?_⟩
  refine ⟨_, rfl, a, ws, xs, F1, less H1 a, pa1, p1, rfl, gs1, gr_less, by simp [less], h2, h3, h4, h5, rs, ?_⟩
  exact fout_o (less_gr gr h1 h4) o1
theorem pm_fnO (Fx : FnXo X.prog X.w X.K X.mg X.base x params k ps G) (hr : Room k X.A) (hgd : X.A.guards = some []) (tk : Takes X Wx) (hb : Bd x params ps 1 [] [0]) (hg : Gl X x) (ha : PMo X Wx e mo) (hdb : (x == ("__debug__" : Str)) = false := by decide)
    (he : starEach [e] X.env = (false, eval e X.env) :: starEach [] X.env := by rfl) (hpl : (backTo pos (starEach [] X.env)).any (·.1) = false := by rfl) : PM X Wx (.Call (.Name x p) [e] [] pos) (mFnO G mo) := ⟨(pe_fnO Fx hr hgd tk hb hg (pa_cons ha.pe pa_nil he) hdb he hpl).imp fno_tm⟩
theorem pmo_fnO (Fx : FnXo X.prog X.w X.K X.mg X.base x params k ps G) (hr : Room k X.A) (hgd : X.A.guards = some []) (tk : Takes X Wx) (hb : Bd x params ps 1 [] [0]) (hg : Gl X x) (ha : PMo X Wx e mo) (hdb : (x == ("__debug__" : Str)) = false := by decide)
    (he : starEach [e] X.env = (false, eval e X.env) :: starEach [] X.env := by rfl) (hpl : (backTo pos (starEach [] X.env)).any (·.1) = false := by rfl) : PMo X Wx (.Call (.Name x p) [e] [] pos) (mFnOo G mo) := ⟨(pe_fnO Fx hr hgd tk hb hg (pa_cons ha.pe pa_nil he) hdb he hpl).imp fno_tmo⟩
end
/-- code without the pot -/
def IFo (G : FnO) : Prop := ∀ xs p q, G xs q = (G xs p).at q
theorem ifo_fres (n : Nat) {c : C} (h : IC c) : IFo (freso n c) := fun xs p q => by
  unfold freso
  rw [h _ p q]
  cases c (some (.own xs) :: List.replicate (n - 1) none) p <;> rfl
theorem im_outO {α : Type} {f : D → Bool → Option α} {G : FnO} (h : IFo G) (xs : List D) : IM fun _ p => outFn f (G xs p) := fun ρ p q => by
  show outFn f (G xs q) = (outFn f (G xs p)).at q
  rw [h xs p q]
  cases G xs p with
  | ok d fr p' =>
    simp only [FRes.at, ev_outFn]
    cases f d fr <;> rfl
  | exc x p' => rfl
  | stuck => rfl
theorem im_fnO {G : FnO} (h : IFo G) {mo : M (List D)} (hm : IM mo) : IM (mFnO G mo) := im_bind hm fun xs => im_outO h xs
theorem im_fnOo {G : FnO} (h : IFo G) {mo : M (List D)} (hm : IM mo) : IM (mFnOo G mo) := im_bind hm fun xs => im_outO h xs
end PF

namespace PF
open PySem PySem.Spec PyProof.Rows L2
/-! ### zip over lists, tuples, ranges in any mix -/
section
variable {prog : Program} {w : World} {A : Around} {E : Value → Shared → Prop} {s : Shared}
theorem nextOf_range_item {it : Addr} {x left step : Int} {Q : Value → Shared → Prop} (hit : IsRangeIter s.heap it x left step) (hleft : 0 < left)
    (hQ : ∀ h', IsRangeIter h' it (x + step) (left - 1) step → Heap.SameBut it s.heap h' → Q (.int x s.toks) { s with heap := h', toks := s.toks + 1 }) :
    wpAny (model prog w) A (Builtin.SmallTypes.nextOf (.ref it)) Q E s := by
  have hT : s.TypeIs (.ref it) "range_iterator" := ⟨_, hit, rfl⟩
  unfold Builtin.SmallTypes.nextOf
  refine wpAny_bind (wpAny_callSpecial?_slot (name := Str.ofString "__next__") hT F.slot_range_iterator_next
    (call_meets F.slot_range_iterator_next hT F.entry_range_iterator_next (F.args_range_iterator_next_1 _) (AutoRange.range_iterator___next___range_iterator_1 it x left step (by omega)) ⟨hit, ?_⟩))
  exact wpAny_pure (hQ _ (Heap.get?_update_self _ (Heap.get?_update_self _ hit rfl) rfl) ((Heap.SameBut.update ..).trans (Heap.SameBut.update ..)))
theorem nextOf_range_end {it : Addr} {x left step : Int} {Q : Value → Shared → Prop} (hh : A.handled = none) (hit : IsRangeIter s.heap it x left step) (hleft : left ≤ 0)
    (hE : ∀ h' e, Heap.ExtBut it s.heap h' → (∃ o, h'.get? e = some o ∧ o.cls = .type "StopIteration") → E (.ref e) { s with heap := h' }) : wpAny (model prog w) A (Builtin.SmallTypes.nextOf (.ref it)) Q E s := by
  have hT : s.TypeIs (.ref it) "range_iterator" := ⟨_, hit, rfl⟩
  unfold Builtin.SmallTypes.nextOf
  refine wpAny_bind (wpAny_callSpecial?_slot (name := Str.ofString "__next__") hT F.slot_range_iterator_next
    (wpAny_call_entry F.slot_range_iterator_next hT F.entry_range_iterator_next ?_ (F.args_range_iterator_next_1 _)))
  show wpAny _ _ (field (.ref it) 0 >>= _) _ _ s
  refine wpAny_bind (wpAny_field hit rfl (x := rawInt x) rfl ?_)
  show wpAny _ _ (field (.ref it) 1 >>= _) _ _ s
  refine wpAny_bind (wpAny_field hit rfl (x := rawInt left) rfl ?_)
  show wpAny _ _ (field (.ref it) 2 >>= _) _ _ s
  refine wpAny_bind (wpAny_field hit rfl (x := rawInt step) rfl ?_)
  show wpAny _ _ (if left ≤ 0 then _ else _) _ _ s
  rw [if_pos hleft]
  refine wpAny_bind (wpAny_rule ?_)
  refine wpAny_bind ?_
  show wpAny _ _ (newExc (.type "StopIteration") [] >>= _) _ _ _
  refine wpAny_bind ?_
  simp only [newExc, newTuple]
  refine wpAny_bind (wpAny_newObj_type ?_ (by size_fits))
  refine wpAny_bind (m := firstArgMember _ _) (wpAny_of_eq (a := Value.none) (by first | rfl | (simp only [firstArgMember]; rfl)) ?_)
  refine wpAny_newObj_type ?_ (by size_fits)
  simp only [raiseNew]
  refine wpAny_bind (wpAny_handled ?_)
  first | rw [show A.in1.handled = none from hh] | rw [hh]
  refine wpAny_bind (wpAny_pure (wpAny_throw ?_))
  exact hE _ _ (((Heap.ExtBut.refl it s.heap).push _).push _) ⟨_, Heap.get?_push_size _ rfl, rfl⟩
theorem draws_range (hh : A.handled = none) (it : Addr) (a : Int) (n : Nat) :
    Draws prog w A it [it] n (fun i v => i < n ∧ ∃ t, v = .int (a + (i : Nat)) t) (fun i h => IsRangeIter h it (a + (i : Nat)) ((n : Int) - (i : Nat)) 1) where
  live := fun _ _ st => ⟨_, st⟩
  frame := fun _ _ _ st hk => hk it (by simp) _ st
  item := fun i s Q E hi st hQ => nextOf_range_item st (by omega) fun h' hit' hs' => hQ _ h' (s.toks + 1) ⟨hi, _, rfl⟩ (by
    have e1 : a + ((i + 1 : Nat) : Int) = a + (i : Int) + 1 := by omega
    have e2 : (n : Int) - ((i + 1 : Nat) : Int) = (n : Int) - (i : Int) - 1 := by omega
    show IsRangeIter h' it (a + ((i + 1 : Nat) : Int)) ((n : Int) - ((i + 1 : Nat) : Int)) 1
    rw [e1, e2]; exact hit') hs'
  done := fun s Q E st hE => nextOf_range_end hh st (by omega) hE
theorem begins_range (r : Addr) (a b : Int) (t u v : Tok) (hs : Builtin.Range.small a b 1 = true) : Begins (.ref r) { cls := .type "range_iterator", data := .fields #[rawInt a, rawInt (Builtin.Range.rangeSize a b 1), rawInt 1] } fun h => IsRange h r a b 1 t u v where
  iter := fun prog w A E s Q hr h => wpAny_pyIter_range hr hs h
  keeps := fun h h' x hk => hk r _ x
  free := rfl
end
inductive Src | l (a : Addr) | t (a : Addr) | r (lo : Int) (n : Nat)
def srcV (K : PySem.W.Frag) (H : Hp) : Src → List V → Prop
  | .l a, xs => SqL K H a xs
  | .t a, xs => SqT K H a xs
  | .r lo n, xs => xs = (List.range n).map fun (k : Nat) => V.int (lo + k)
def srcA : Src → List Addr
  | .l a => [a]
  | .t a => [a]
  | .r _ _ => []
def srcSt (it : Addr) (i : Nat) (h : Heap) : Src → Prop
  | .l a => h.IsListIter it a i
  | .t a => h.IsTupleIter it a i
  | .r lo n => IsRangeIter h it (lo + (i : Nat)) ((n : Int) - (i : Nat)) 1
theorem srcSt_obj {it : Addr} {i : Nat} {h : Heap} : ∀ {q : Src}, srcSt it i h q → ∃ o, h.get? it = some o ∧ ∀ v, o.data ≠ .cell v
  | .l _, ⟨o, e, _, d⟩ => ⟨o, e, fun v z => by rw [d] at z; cases z⟩
  | .t _, ⟨o, e, _, d⟩ => ⟨o, e, fun v z => by rw [d] at z; cases z⟩
  | .r _ _, st => ⟨_, st, fun v z => by cases z⟩
theorem srcSt_keep {it : Addr} {i : Nat} {h h' : Heap} (k : ∀ o, h.get? it = some o → h'.get? it = some o) : ∀ {q : Src}, srcSt it i h q → srcSt it i h' q
  | .l _, st => Heap.IsListIter.at st k
  | .t _, st => Heap.IsTupleIter.at st k
  | .r _ _, st => k _ st
section
variable {X : Cx} {pins : List (Addr × Obj)} {σ : L2.St} {H : Hp} {s : Shared}
theorem src_inj (I : Inv X pins σ H s) {q : Src} {xs ys : List V} (h : srcV X.K H q xs) (h' : srcV X.K H q ys) : xs = ys := by
  cases q with
  | l a => exact I.list_inj h h'
  | t a => exact I.tuple_inj h h'
  | r lo n => rw [show xs = _ from h, show ys = _ from h']
theorem vals_get {xs : List V} {us : List Value} (r : Vals xs us) {i : Nat} {u : Value} (h : us[i]? = some u) : ∃ x, xs[i]? = some x ∧ RelV x u := by
  have hl := r.length
  obtain ⟨hi, _⟩ := List.getElem?_eq_some_iff.mp h
  have hx : xs[i]? = some (xs[i]'(by omega)) := List.getElem?_eq_getElem (by omega)
  obtain ⟨u', hu', ru⟩ := r.get hx
  rw [h] at hu'
  cases hu'
  exact ⟨_, hx, ru⟩
/-- what an iterator of a source draws, as its source stands -/
theorem src_draws {A : Around} (hh : A.handled = none) (I : Inv X pins σ H s) {q : Src} {it : Addr} (hne : ∀ b ∈ srcA q, b ≠ it) {xs : List V} (hq : srcV X.K H q xs) :
    ∃ Pd St, Draws X.prog X.w A it (it :: srcA q) xs.length Pd St ∧ (∀ i, srcSt it i s.heap q → St i s.heap) ∧ (∀ i h, St i h → srcSt it i h q) ∧ ∀ i v, Pd i v → ∃ x, xs[i]? = some x ∧ RelV x v := by
  cases q with
  | l a =>
    obtain ⟨its, rv, p, _⟩ := I.list hq
    have e : xs.length = its.toArray.size := by rw [rv.length]; simp
    rw [e]
    exact ⟨_, _, Draws.list hh it a (hne a (by simp [srcA])) its.toArray, fun i st => ⟨st, p.isList⟩, fun i h st => st.1, fun i v hv => vals_get rv (by simpa using hv)⟩
  | t a =>
    obtain ⟨its, rv, p, _⟩ := I.tuple hq
    have e : xs.length = its.toArray.size := by rw [rv.length]; simp
    rw [e]
    exact ⟨_, _, Draws.tuple hh it a (hne a (by simp [srcA])) its.toArray, fun i st => ⟨st, p⟩, fun i h st => st.1, fun i v hv => vals_get rv (by simpa using hv)⟩
  | r lo n =>
    have e : xs = (List.range n).map fun (k : Nat) => V.int (lo + k) := hq
    subst e
    rw [List.length_map, List.length_range]
    refine ⟨_, _, draws_range hh it lo n, fun i st => st, fun i h st => st, fun i v hv => ?_⟩
    obtain ⟨hi, t, rfl⟩ := hv
    exact ⟨.int (lo + i), by rw [List.getElem?_map, List.getElem?_range hi]; rfl, ⟨t, rfl⟩⟩
end
theorem wr_fp {z TI TO i1 i2 b : Addr} (m : b ∈ [z, TO, i1, i2]) : b ∈ [z, TI, TO, i1, i2] := by
  simp only [List.mem_cons, List.not_mem_nil, or_false] at m ⊢
  rcases m with h | h | h | h <;> simp [h]
/-- zip over two sources, N turns -/
def ItS (K : PySem.W.Frag) (q1 q2 : Src) (N : Nat) : It :=
  ⟨fun i H => i < N ∧ ∃ xs ys, srcV K H q1 xs ∧ srcV K H q2 ys ∧ N = min xs.length ys.length,
    fun i H v H' => ∃ T x y, v = .ref T ∧ H T = none ∧ H' = upd H T (.tup [x, y]) ∧ (∀ xs, srcV K H q1 xs → xs[i]? = some x) ∧ ∀ ys, srcV K H q2 ys → ys[i]? = some y,
    fun i H => N ≤ i ∧ ∃ xs ys, srcV K H q1 xs ∧ srcV K H q2 ys ∧ N = min xs.length ys.length⟩
theorem turn_zipS {P : Program} {w : World} {K : PySem.W.Frag} {elts : List Expr} {kk : Nat} {tpos : Pos} {q1 q2 : Src} {z TI TO i1 i2 : Addr} {N : Nat} (S : ZipSep2 z TI TO i1 i2 (i1 :: srcA q1) (i2 :: srcA q2)) (n1 : ∀ b ∈ srcA q1, b ≠ i1) (n2 : ∀ b ∈ srcA q2, b ≠ i2) :
    Turn P w K (.Tuple elts kk tpos) (ItS K q1 q2 N) [z, TI, TO, i1, i2] z (fun i h => i ≤ N ∧ IsZip h z TI TO .none ∧ IsTupOf2 h TI (.ref i1) (.ref i2) ∧ (∃ x y, IsTupOf2 h TO x y) ∧ srcSt i1 i h q1 ∧ srcSt i2 i h q2) where
  mem := by simp
  obj := fun i h st c hc => by
    obtain ⟨_, hz, hTI, ⟨x, y, hTO⟩, h1, h2⟩ := st
    have e' : c = z ∨ c = TI ∨ c = TO ∨ c = i1 ∨ c = i2 := by simpa using hc
    rcases e' with q | q | q | q | q
    · rw [q]; exact ⟨_, hz, fun v q => nomatch q⟩
    · rw [q]; exact ⟨_, hTI, fun v q => nomatch q⟩
    · rw [q]; exact ⟨_, hTO, fun v q => nomatch q⟩
    · rw [q]; exact srcSt_obj h1
    · rw [q]; exact srcSt_obj h2
  keep := fun i h h' st k => by
    obtain ⟨hN, hz, hTI, ⟨x, y, hTO⟩, h1, h2⟩ := st
    exact ⟨hN, k z (by simp) _ hz, k TI (by simp) _ hTI, ⟨x, y, k TO (by simp) _ hTO⟩, srcSt_keep (fun o q => k i1 (by simp) o q) h1, srcSt_keep (fun o q => k i2 (by simp) o q) h2⟩
  item := by
    intro X hP hw hK hc i pins s σ H E I hf st hg
    subst hP hw hK
    obtain ⟨hN, hz, hTI, ⟨x0, y0, hTO⟩, h1, h2⟩ := st
    obtain ⟨hlt, xs, ys, hx, hy, hn⟩ := hg
    obtain ⟨P1, St1, D1, a1, b1, c1⟩ := src_draws (A := X.A.in1) (I.ok.hd hc) I n1 hx
    obtain ⟨P2, St2, D2, a2, b2, c2⟩ := src_draws (A := X.A.in1) (I.ok.hd hc) I n2 hy
    have W := WalksT.zipD2 S D1 D2
    refine W.item i s _ _ (by omega) ⟨hz, hTI, ⟨x0, y0, hTO⟩, a1 i h1, a2 i h2⟩ fun T vals h' tk hP hT hIs hMid hk => ⟨.ref T, rfl, W.go elts kk tpos i T { s with heap := h', toks := tk } _ _ hMid fun h'' st'' hk'' => ?_⟩
    obtain ⟨u1, u2, p1, p2, rfl⟩ := hP
    obtain ⟨x, gx, rx⟩ := c1 i u1 p1
    obtain ⟨y, gy, ry⟩ := c2 i u2 p2
    have hIs2 : h''.IsTuple T #[u1, u2] := hIs.at fun o e => hk'' T o (W.apart i T h' hMid) e
    have new : ObjOk X.prog X.w (upd H T (.tup [x, y])) h'' T (.tup [x, y]) := ⟨by show 2 ≤ sizeLine; decide, [u1, u2], .cons rx (.cons ry .nil), hIs2⟩
    have kk' : ∀ b o, b ∉ [z, TI, TO, i1, i2] → s.heap.get? b = some o → h''.get? b = some o := fun b o hb e =>
      hk'' b o (fun m => hb (wr_fp m)) (hk b o (fun m => hb (wr_fp m)) e)
    have I1 : Inv X pins σ (upd H T (.tup [x, y])) { s with heap := h'', toks := tk } := I.turnedNew (t' := tk) kk' hf hT new
    obtain ⟨z1, z2, z3, z4, z5⟩ := st''
    refine ⟨.ref T, _, I1, rfl, ⟨T, x, y, rfl, I.hok.fresh hT, rfl, fun l hl => by rw [src_inj I hl hx]; exact gx, fun l hl => by rw [src_inj I hl hy]; exact gy⟩, ⟨hlt, z1, z2, z3, b1 _ _ z4, b2 _ _ z5⟩, fun c hcm => ?_⟩
    have hlt : c < s.heap.objs.size := by
      have e' : c = z ∨ c = TI ∨ c = TO ∨ c = i1 ∨ c = i2 := by simpa using hcm
      rcases e' with q | q | q | q | q
      · rw [q]; exact Heap.lt_size hz
      · rw [q]; exact Heap.lt_size hTI
      · rw [q]; exact Heap.lt_size hTO
      · rw [q]; obtain ⟨_, e1, _⟩ := srcSt_obj h1; exact Heap.lt_size e1
      · rw [q]; obtain ⟨_, e2, _⟩ := srcSt_obj h2; exact Heap.lt_size e2
    rw [upd_ne (Nat.ne_of_lt (Nat.lt_of_lt_of_le hlt hT))]
    exact (hf c hcm).1
  done := by
    intro X hP hw hK hc i pins s σ H E I hf st hg
    subst hP hw hK
    obtain ⟨hN, hz, hTI, ⟨x0, y0, hTO⟩, h1, h2⟩ := st
    obtain ⟨hge, xs, ys, hx, hy, hn⟩ := hg
    obtain ⟨P1, St1, D1, a1, b1, c1⟩ := src_draws (A := X.A.in1) (I.ok.hd hc) I n1 hx
    obtain ⟨P2, St2, D2, a2, b2, c2⟩ := src_draws (A := X.A.in1) (I.ok.hd hc) I n2 hy
    have W := WalksT.zipD2 S D1 D2
    have e : i = min xs.length ys.length := by omega
    subst e
    exact W.done s _ _ ⟨hz, hTI, ⟨x0, y0, hTO⟩, a1 _ h1, a2 _ h2⟩ fun h' tk hk => ⟨rfl, I.turnedL (t' := tk) (ch := [z, TI, TO, i1, i2]) (fun c o hb q => hk c o (fun m => hb (wr_fp m)) q) hf⟩
  self := fun A i s Q E st h => wpAny_pyIter_zip st.2.1 h

section
variable {X : Cx} {pins : List (Addr × Obj)} {σ : L2.St} {H : Hp} {s : Shared}
/-- a list's, a tuple's iterator begins -/
theorem src_begins (I : Inv X pins σ H s) {a : Addr} {q : Src} (hq : q = .l a ∨ q = .t a) {xs : List V} (h : srcV X.K H q xs) :
    ∃ o Hb, Begins (.ref a) o Hb ∧ Hb s.heap ∧ (∀ h' it, h'.get? it = some o → srcSt it 0 h' q) ∧ ∀ b ∈ srcA q, b < s.heap.objs.size := by
  rcases hq with rfl | rfl
  · obtain ⟨its, rv, p, _⟩ := I.list h
    exact ⟨_, _, begins_list a its.toArray, p.isList, fun h' it e => ⟨_, e, rfl, rfl⟩, fun b hb => by
      have : b = a := by simpa [srcA] using hb
      subst this; exact p.lt⟩
  · obtain ⟨its, rv, p, _⟩ := I.tuple h
    exact ⟨_, _, begins_tuple a its.toArray, p, fun h' it e => ⟨_, e, rfl, rfl⟩, fun b hb => by
      have : b = a := by simpa [srcA] using hb
      subst this
      obtain ⟨o, e, _⟩ := id p
      exact Heap.lt_size e⟩
theorem fresh5 (I : Inv X pins σ H s) : ∀ c, c ∈ [s.heap.objs.size + 4, s.heap.objs.size + 2, s.heap.objs.size + 3, s.heap.objs.size, s.heap.objs.size + 1] → FpOk X pins H c := fun c hcm => by
  have e' : c = s.heap.objs.size + 4 ∨ c = s.heap.objs.size + 2 ∨ c = s.heap.objs.size + 3 ∨ c = s.heap.objs.size ∨ c = s.heap.objs.size + 1 := by simpa using hcm
  have hle : s.heap.objs.size ≤ c := by
    rcases e' with z | z | z | z | z <;> rw [z]
    · exact Nat.le_add_right _ _
    · exact Nat.le_add_right _ _
    · exact Nat.le_add_right _ _
    · exact Nat.le_refl _
    · exact Nat.le_add_right _ _
  exact I.fpOk hle (I.hok.fresh hle)
/-- zip of two values, each with an iterator of its own -/
theorem zip_start {E : Value → Shared → Prop} {elts : List Expr} {kk : Nat} {tpos : Pos} {R : It → Hp → Prop} {v1 v2 : Value} {q1 q2 : Src} {o1 o2 : Obj} {H1 H2 : Heap → Prop} {N : Nat} (I : Inv X pins σ H s) (B1 : Begins v1 o1 H1) (B2 : Begins v2 o2 H2) (h1 : H1 s.heap) (h2 : H2 s.heap)
    (t1 : ∀ h' it, h'.get? it = some o1 → srcSt it 0 h' q1) (t2 : ∀ h' it, h'.get? it = some o2 → srcSt it 0 h' q2) (l1 : ∀ b ∈ srcA q1, b < s.heap.objs.size) (l2 : ∀ b ∈ srcA q2, b < s.heap.objs.size) (q : R (ItS X.K q1 q2 N) H) :
    wpAny (model X.prog X.w) X.A (call (.type "zip") [v1, v2]) (fun v s1 => wpAny (model X.prog X.w) X.A (pyIter v) (PIE X pins σ (.Tuple elts kk tpos) R) E s1) E s := by
  refine zip_begins2 B1 B2 h1 h2 fun h' hz hTI hTO e1 e2 hsz hk => wpAny_pyIter_zip hz ?_
  have I2 : Inv X pins σ H { s with heap := h' } := I.kept (t' := s.toks) hk
  exact ⟨s.heap.objs.size + 4, [s.heap.objs.size + 4, s.heap.objs.size + 2, s.heap.objs.size + 3, s.heap.objs.size, s.heap.objs.size + 1], _, _, H, rfl, I2,
    turn_zipS (N := N) (zip_sep2 l1 l2) (fun b hb => Nat.ne_of_lt (l1 b hb)) (fun b hb => Nat.ne_of_lt (Nat.lt_succ_of_lt (l2 b hb))), ⟨Nat.zero_le _, hz, hTI, ⟨_, _, hTO⟩, t1 _ _ e1, t2 _ _ e2⟩, fresh5 I, q⟩
end
def iZipS (K : PySem.W.Frag) (ta : TA) : TI := fun σ H R => ta σ H fun vs H1 => ∃ a b xs ys q1 q2, vs = [.ref a, .ref b] ∧ (q1 = .l a ∨ q1 = .t a) ∧ (q2 = .l b ∨ q2 = .t b) ∧ srcV K H1 q1 xs ∧ srcV K H1 q2 ys ∧ R (ItS K q1 q2 (min xs.length ys.length)) H1
theorem pi_zipS {X : Cx} {e e2 : Expr} {ta : TA} {p pos tpos : Pos} {elts : List Expr} {kk : Nat} (hg : Gl X "zip") (hm : X.mg "zip" = none) (ha : PA X [e, e2] ta)
    (hs : starEach [e, e2] X.env = (false, eval e X.env) :: starEach [e2] X.env := by rfl) (hpl : (backTo pos (starEach [e2] X.env)).any (·.1) = false := by rfl) :
    PI X (.Tuple elts kk tpos) (.Call (.Name "zip" p) [e, e2] [] pos) (iZipS X.K ta) := by
  refine ⟨fun pins s σ H R I h => ?_⟩
  refine Call_ (ld_blt I hg hm PyProof.Rows.boot_zip (PyProof.Rows.callWith_type1 (thn (ha.run pos pins s σ H _ I h) fun us s1 ⟨vs, H1, I1, r1, q1⟩ => ?_) hs hpl))
  obtain ⟨a, b, xs, ys, qa, qb, ex, ea, eb, hx, hy, q⟩ := q1
  subst ex
  obtain ⟨o1, B1, b1, c1, d1, f1⟩ := src_begins I1 ea hx
  obtain ⟨o2, B2, b2, c2, d2, f2⟩ := src_begins I1 eb hy
  cases r1 with
  | cons r rr =>
    cases rr with
    | cons r' rr =>
      cases rr
      cases r
      cases r'
      exact zip_start I1 b1 b2 c1 c2 d1 d2 f1 f2 q
/-- zip(range(a, b), e) -/
def iZipR (K : PySem.W.Frag) (ta : TA) (te : TE) : TI := fun σ H R => ta σ H fun vs H1 => ∃ i j : Int, vs = [.int i, .int j] ∧ (-(2 ^ 62) ≤ i ∧ i < 2 ^ 62 ∧ -(2 ^ 62) ≤ j ∧ j < 2 ^ 62) ∧ te σ H1 fun v H2 => ∃ a xs q2, v = .ref a ∧ (q2 = .l a ∨ q2 = .t a) ∧ srcV K H2 q2 xs ∧ R (ItS K (.r i (j - i).toNat) q2 (min (j - i).toNat xs.length)) H2
theorem pi_zipR {X : Cx} {e0 e1 e2 : Expr} {ta : TA} {te : TE} {p p2 pos pos2 tpos : Pos} {elts : List Expr} {kk : Nat} (hg : Gl X "zip") (hm : X.mg "zip" = none) (hgr : Gl X "range") (hmr : X.mg "range" = none) (ha : PA X [e0, e1] ta) (he : PE X e2 te)
    (hs : starEach [e0, e1] X.env = [(false, eval e0 X.env), (false, eval e1 X.env)] := by rfl) (hs2 : starEach [e1] X.env = [(false, eval e1 X.env)] := by rfl)
    (hz : starEach [.Call (.Name "range" p2) [e0, e1] [] pos2, e2] X.env = (false, eval (.Call (.Name "range" p2) [e0, e1] [] pos2) X.env) :: starEach [e2] X.env := by rfl) (hz2 : starEach [e2] X.env = (false, eval e2 X.env) :: starEach [] X.env := by rfl)
    (hpl : (backTo pos (starEach [e2] X.env)).any (·.1) = false := by rfl) :
    PI X (.Tuple elts kk tpos) (.Call (.Name "zip" p) [.Call (.Name "range" p2) [e0, e1] [] pos2, e2] [] pos) (iZipR X.K ta te) := by
  refine ⟨fun pins s σ H R I h => ?_⟩
  refine Call_ (ld_blt I hg hm PyProof.Rows.boot_zip (PyProof.Rows.callWith_type1 ?_ hz hpl))
  refine PyProof.Rows.args_cons ?_ hz
  refine Call_ (ld_blt I hgr hmr boot_range (PyProof.Rows.callWith_type1 (thn (ha.run pos2 pins s σ H _ I h) fun us s1 ⟨vs, H1, I1, r1, q1⟩ => ?_) (by rw [hs, hs2]) (by rw [hs2]; rfl)))
  obtain ⟨i, j, ev, ⟨w1, w2, w3, w4⟩, q1⟩ := q1
  subst ev
  cases r1 with
  | cons r rr =>
    cases rr with
    | cons r' rr =>
      cases rr
      obtain ⟨t, rfl⟩ := r
      obtain ⟨t', rfl⟩ := r'
      refine call_range_2 ?_
      have I2 : Inv X pins σ H1 { s1 with heap := s1.heap.push { cls := .type "range", data := .fields #[.int i t, .int j t', .int 1 s1.toks] }, toks := s1.toks + 1 } := I1.kept fun b o e => Heap.get?_push_of_some _ e
      have hr0 := IsRange.new s1.heap i j 1 t t' s1.toks
      have hfree := I1.fpOk (Nat.le_refl _) (I1.hok.fresh (Nat.le_refl _))
      let r0 : Addr := s1.heap.objs.size
      let ob : Obj := { cls := .type "range", data := .fields #[.int i t, .int j t', .int 1 s1.toks] }
      have I3 : Inv X ((r0, ob) :: pins) σ H1 { s1 with heap := s1.heap.push { cls := .type "range", data := .fields #[.int i t, .int j t', .int 1 s1.toks] }, toks := s1.toks + 1 } := I2.pins_of fun q hq => by
        rcases List.mem_cons.mp hq with rfl | hq
        · exact ⟨hr0, hfree.1, hfree.2.1, hfree.2.2.1, fun v z => by cases z⟩
        · exact I2.pin q (List.mem_append_right _ hq)
      refine PyProof.Rows.args_cons (thn (he.run ((r0, ob) :: pins) _ σ H1 _ I3 q1) fun u s3 ⟨v, H2, I4, rv, q2⟩ => PyProof.Rows.args_nil ?_) hz2
      have hr : IsRange s3.heap r0 i j 1 t t' s1.toks := (I4.pin (r0, ob) (List.mem_append_right _ List.mem_cons_self)).1
      have I5 : Inv X pins σ H2 s3 := I4.pins_of fun q hq => I4.pin q (List.mem_append_right _ (List.mem_cons_of_mem _ hq))
      obtain ⟨b, ys, qb, ev, eb, hy, q⟩ := q2
      subst ev
      cases rv
      obtain ⟨o2, B2, b2, c2, d2, f2⟩ := src_begins I5 eb hy
      have hsm := small_one w1 w2 w3 w4
      refine zip_start I5 (begins_range r0 i j t t' s1.toks hsm) b2 hr c2 (fun h' it e => ?_) d2 (fun b hb => by cases hb) f2 q
      have e1 : i + ((0 : Nat) : Int) = i := by simp
      have e2 : (((j - i).toNat : Nat) : Int) - ((0 : Nat) : Int) = Builtin.Range.rangeSize i j 1 := by rw [rangeSize_one]; split <;> omega
      show IsRangeIter h' it (i + ((0 : Nat) : Int)) ((((j - i).toNat : Nat) : Int) - ((0 : Nat) : Int)) 1
      rw [e1, e2]
      exact e
/-! ### as data -/
def sqD : D → Option (List D)
  | .lst xs => some xs
  | .tup xs => some xs
  | _ => none
@[simp] theorem sqD_lst (xs : List D) : sqD (.lst xs) = some xs := rfl
@[simp] theorem sqD_tup (xs : List D) : sqD (.tup xs) = some xs := rfl
def zipS : List D → Option (List D)
  | [d, e] => (sqD d).bind fun xs => (sqD e).map fun ys => zipL xs ys
  | _ => none
@[simp] theorem zipS_two (d e : D) : zipS [d, e] = (sqD d).bind fun xs => (sqD e).map fun ys => zipL xs ys := rfl
def mZipS (ms : M (List D)) : M (List D) := mbind ms fun ds => mopt (zipS ds)
def mZipR (mr : M (List D)) (me : M D) : M (List D) := mbind (mRange2 mr) fun xs => mbind me fun d => mopt ((sqD d).map fun ys => zipL xs ys)
@[simp] theorem ev_mZipS (ms : M (List D)) (ρ : Sl) (p : Pst) : mZipS ms ρ p = mbind ms (fun ds => mopt (zipS ds)) ρ p := by cases p; rfl
@[simp] theorem ev_mZipR (mr : M (List D)) (me : M D) (ρ : Sl) (p : Pst) : mZipR mr me ρ p = mbind (mRange2 mr) (fun xs => mbind me fun d => mopt ((sqD d).map fun ys => zipL xs ys)) ρ p := by cases p; rfl
theorem im_zipS {m : M (List D)} (h : IM m) : IM (mZipS m) := im_bind h fun _ => im_opt _
theorem im_zipR {m : M (List D)} {me : M D} (h : IM m) (h2 : IM me) : IM (mZipR m me) := im_bind (im_range2 h) fun _ => im_bind h2 fun _ => im_opt _
def SrcF (F : Hp) (q : Src) (vs : List V) : Prop := (∃ a, q = .l a ∧ F a = some (.lst vs)) ∨ (∃ a, q = .t a ∧ F a = some (.tup vs)) ∨ ∃ lo n, q = .r lo n ∧ vs = (List.range n).map fun (k : Nat) => V.int (lo + k)
theorem SrcF.v {K : PySem.W.Frag} {F H : Hp} {q : Src} {vs : List V} (h : SrcF F q vs) (sub : ∀ a o, F a = some o → H a = some o) : srcV K H q vs := by
  rcases h with ⟨a, rfl, h⟩ | ⟨a, rfl, h⟩ | ⟨lo, n, rfl, h⟩
  · exact SqL.of (sub _ _ h)
  · exact SqT.of (sub _ _ h)
  · exact h
/-- a source as data -/
theorem sq_src {K : PySem.W.Frag} {F H : Hp} {g : Nat} {pa : Option Addr} {p : Pst} {v : V} {d : D} {xs : List D} (r : Rep K F g pa v d) (e : sqD d = some xs) : ∃ (a : Addr) (q : Src) (vs : List V), v = .ref a ∧ (q = .l a ∨ q = .t a) ∧ SrcF F q vs ∧ xs.length ≤ sizeLine ∧ Reps K F g pa vs xs := by
  cases d <;> first | (cases e; done) | skip
  · cases e
    obtain ⟨a, vs, rfl, h, hz, rs⟩ := r.lst_inv
    exact ⟨a, .l a, vs, rfl, .inl rfl, .inl ⟨a, rfl, h⟩, hz, rs⟩
  · cases e
    obtain ⟨a, vs, rfl, h, hz, rs⟩ := r.tup_inv
    exact ⟨a, .t a, vs, rfl, .inr rfl, .inr (.inl ⟨a, rfl, h⟩), hz, rs⟩
theorem iter_zipS {K : PySem.W.Frag} {F : Hp} {g : Nat} {pa : Option Addr} {q1 q2 : Src} {vs ws : List V} {ds es : List D} (h : SrcF F q1 vs) (r : Reps K F g pa vs ds) (h' : SrcF F q2 ws) (r' : Reps K F g pa ws es) : IterOk K F g pa (ItS K q1 q2 (min vs.length ws.length)) (zipL ds es) := by
  intro i F1 H1 pa1 p1 fz gs1
  have h1 : srcV K H1 q1 vs := h.v fun a o e => gs1.sub _ _ (fz.sub _ _ e)
  have h2 : srcV K H1 q2 ws := h'.v fun a o e => gs1.sub _ _ (fz.sub _ _ e)
  have hl : (zipL ds es).length = min vs.length ws.length := by simp only [zipL, List.length_zipWith]; rw [r.1, r'.1]
  refine ⟨fun hi => ⟨by omega, vs, ws, h1, h2, rfl⟩, fun z hz => ?_⟩
  have hlt : i < (zipL ds es).length := (List.getElem?_eq_some_iff.mp hz).1
  obtain ⟨d, e, q1, q2, rfl⟩ := zipL_get hz
  obtain ⟨v, hv, rv⟩ := (r.mono fz).get q1
  obtain ⟨w, hw, rw'⟩ := (r'.mono fz).get q2
  refine ⟨⟨by omega, vs, ws, h1, h2, rfl⟩, fun x H' ⟨T, y1, y2, e1, e2, e3, hx, hy⟩ => ?_⟩
  subst e1 e3
  have t1 := hx vs h1
  rw [hv] at t1
  cases t1
  have t2 := hy ws h2
  rw [hw] at t2
  cases t2
  exact zip_item gs1 e2 rv rw'
theorem reps_rng {K : PySem.W.Frag} {F : Hp} {g : Nat} {pa : Option Addr} (lo : Int) (n : Nat) : Reps K F g pa ((List.range n).map fun (k : Nat) => V.int (lo + k)) (rgL lo n) := by
  refine ⟨by simp [rgL], fun i x y hx hy => ?_⟩
  unfold rgL at hy
  rw [List.getElem?_map] at hx hy
  cases q : (List.range n)[i]? with
  | none => rw [q] at hx; cases hx
  | some k =>
    rw [q] at hx hy
    cases hx; cases hy
    exact .int _
section
variable {X : Cx} {Wx : WX} {a b e2 : Expr} {ms mr : M (List D)} {me : M D} {p p2 pos pos2 : Pos}
theorem pmi_zipS {elts : List Expr} {kk : Nat} {tpos : Pos} (hg : Gl X "zip") (hm : X.mg "zip" = none) (ha : PMa X Wx [a, b] ms) (hs : starEach [a, b] X.env = (false, eval a X.env) :: starEach [b] X.env := by rfl) (hpl : (backTo pos (starEach [b] X.env)).any (·.1) = false := by rfl) :
    PMi X Wx (.Tuple elts kk tpos) (.Call (.Name "zip" p) [a, b] [] pos) (mZipS ms) := ⟨(pi_zipS hg hm ha.pa hs hpl).imp fun σ H R ⟨F, pa, p, ρ, gs, s, o⟩ => by
  refine TMa.of gs s (o.bind.mono fun ds p1 F1 H1 pa1 gr1 gs1 o1 s1 vs rs => ?_)
  obtain ⟨z, ez, o2⟩ := o1.opt
  unfold zipS at ez
  split at ez <;> first | (cases ez; done) | skip
  rename_i d e
  cases q : sqD d with
  | none => rw [q] at ez; cases ez
  | some xs =>
    cases q2 : sqD e with
    | none => rw [q, q2] at ez; cases ez
    | some ys =>
      rw [q, q2] at ez
      cases ez
      obtain ⟨v, w, rfl, r1, r2⟩ := reps2 rs
      obtain ⟨a, s1, vs, rfl, ea, f1, hz, ra⟩ := sq_src (H := H1) (p := p1) r1 q
      obtain ⟨b, s2, ws, rfl, eb, f2, hz', rb⟩ := sq_src (H := H1) (p := p1) r2 q2
      exact ⟨a, b, vs, ws, s1, s2, rfl, ea, eb, f1.v gs1.sub, f2.v gs1.sub, o2.ret gs1 _ (iter_zipS f1 ra f2 rb) (Nat.le_trans (zipL_len _ _) hz)⟩⟩
theorem pmi_zipR {e0 e1 : Expr} {elts : List Expr} {kk : Nat} {tpos : Pos} (hg : Gl X "zip") (hm : X.mg "zip" = none) (hgr : Gl X "range") (hmr : X.mg "range" = none) (ha : PMa X Wx [e0, e1] mr) (he : PM X Wx e2 me)
    (hs : starEach [e0, e1] X.env = [(false, eval e0 X.env), (false, eval e1 X.env)] := by rfl) (hs2 : starEach [e1] X.env = [(false, eval e1 X.env)] := by rfl)
    (hz : starEach [.Call (.Name "range" p2) [e0, e1] [] pos2, e2] X.env = (false, eval (.Call (.Name "range" p2) [e0, e1] [] pos2) X.env) :: starEach [e2] X.env := by rfl) (hz2 : starEach [e2] X.env = (false, eval e2 X.env) :: starEach [] X.env := by rfl)
    (hpl : (backTo pos (starEach [e2] X.env)).any (·.1) = false := by rfl) :
    PMi X Wx (.Tuple elts kk tpos) (.Call (.Name "zip" p) [.Call (.Name "range" p2) [e0, e1] [] pos2, e2] [] pos) (mZipR mr me) := ⟨(pi_zipR hg hm hgr hmr ha.pa he.pe hs hs2 hz hz2 hpl).imp fun σ H R ⟨F, pa, p, ρ, gs, s, o⟩ => by
  unfold mZipR mRange2 at o
  refine TMa.of gs s ((o.bind.bind).mono fun ds p1 F1 H1 pa1 gr1 gs1 o1 s1 vs rs => ?_)
  obtain ⟨z, ez, o2⟩ := o1.opt
  unfold dRange2 at ez
  split at ez <;> first | (cases ez; done) | skip
  split at ez <;> first | (cases ez; done) | skip
  rename_i hc
  simp only [Option.some.injEq] at ez
  subst ez
  obtain ⟨v, w, rfl, r1, r2⟩ := reps2 rs
  cases r1; cases r2
  refine ⟨_, _, rfl, ⟨by omega, by omega, by omega, by omega⟩, ?_⟩
  rename_i i0 j0
  have o3 := o2.ret gs1
  refine TM.of gs1 s1 (o3.bind.mono fun d p2 F2 H2 pa2 gr2 gs2 o4 s2 v r => ?_)
  obtain ⟨z, ez, o5⟩ := o4.opt
  cases q : sqD d with
  | none => rw [q] at ez; cases ez
  | some ys =>
    rw [q] at ez
    cases ez
    obtain ⟨a, q2, ws, rfl, ea, f2, hz, rb⟩ := sq_src (H := H2) (p := p2) r q
    have f1 : SrcF F2 (.r i0 (j0 - i0).toNat) ((List.range (j0 - i0).toNat).map fun (k : Nat) => V.int (i0 + k)) := .inr (.inr ⟨_, _, rfl, rfl⟩)
    have it := iter_zipS f1 (reps_rng (K := X.K) (F := F2) (g := p2.g) (pa := pa2) i0 (j0 - i0).toNat) f2 rb
    rw [List.length_map, List.length_range] at it
    refine ⟨a, ws, q2, rfl, ea, f2.v gs2.sub, o5.ret gs2 _ it (Nat.le_trans (zipL_len _ _) ?_)⟩
    rw [rgL_len]
    exact sz16 (by omega)⟩
end
end PF

namespace PF
open PySem PySem.Spec PyProof.Rows L2
/-! ### in, in a tuple of any data -/
def rInT (K : PySem.W.Frag) : R2 := fun x y H Q => ∃ d ds, Dp K H x d ∧ Dp K H y (.tuple ds) ∧ SeqAt.shaped d = true ∧ SeqAt.shaped (.tuple ds) = true ∧ Q (.bl (ds.any fun z => PyData.eqv z d)) H
section
variable {X : Cx} {Wx : WX} {a b : Expr} {ma mb : M D} {pos : Pos}
theorem op_inT (hu : X.A.units + 65 < cLine) : OpR X (compareOp .In) (rInT X.K) := by
  intro pins s σ H x y v u Q I rx ry h
  obtain ⟨d, ds, hd, he, sd, se, q⟩ := h
  obtain ⟨as, r1⟩ := Dp.reads I d x v hd rx
  obtain ⟨bs, r2⟩ := Dp.reads I (.tuple ds) y u he ry
  exact SeqAt.in_tuple_reads r2 r1 (SeqAt.canLay_of_shaped se) (SeqAt.canLay_of_shaped sd) (room_in_shaped sd hu) ⟨.bl _, H, I, rfl, q⟩
def dInT : D → D → Option Bool
  | d, .tup xs => if okEq d && okEq (.tup xs) then some (xs.any fun z => PyData.eqv (toPy z) (toPy d)) else none
  | _, _ => none
theorem cmps_inT : CmpS X (rInT X.K) dInT := by
  intro x y d e z F H p pa Q gs rx ry ez k
  cases e <;> first | (simp [dInT] at ez; done) | skip
  rename_i xs
  simp only [dInT] at ez
  split at ez
  · rename_i hc
    simp only [Bool.and_eq_true] at hc
    have h2 := ry.dp gs.sub (pl_of hc.2)
    have s2 := shaped_ok hc.2
    simp only [toPy] at h2 s2
    refine ⟨_, _, rx.dp gs.sub (pl_of hc.1), h2, shaped_ok hc.1, s2, ?_⟩
    rw [any_toPys]
    simp only [Option.some.injEq] at ez
    rw [ez]; exact k
  · cases ez
theorem pmt_inT (hu : Un X) (ha : PM X Wx a ma) (hb : PM X Wx b mb) (hm : behindInMarks .In b = false := by rfl) : PMt X Wx (.Compare a [.In] [b] pos) (mCmp dInT ma mb) := pmt_cmp (op_inT hu) cmps_inT ha hb hm
theorem pm_inT (hu : Un X) (ha : PM X Wx a ma) (hb : PM X Wx b mb) (hm : behindInMarks .In b = false := by rfl) : PM X Wx (.Compare a [.In] [b] pos) (mB (mCmp dInT ma mb)) := pm_cmp (op_inT hu) cmps_inT ha hb hm
end
end PF

namespace PF
open PySem PySem.Spec PyProof.Rows L2
/-! ### sorted of a list of pairs of ints -/
def le2 (p q : Int × Int) : Bool := decide (p.1 < q.1) || (decide (p.1 = q.1) && decide (p.2 ≤ q.2))
theorem le2_iff {p q : Int × Int} : le2 p q = true ↔ p.1 < q.1 ∨ (p.1 = q.1 ∧ p.2 ≤ q.2) := by simp [le2]
def insP (x : Int × Int) : List (Int × Int) → List (Int × Int)
  | [] => [x]
  | y :: ys => if le2 x y = true then x :: y :: ys else y :: insP x ys
def srtP : List (Int × Int) → List (Int × Int)
  | [] => []
  | x :: xs => insP x (srtP xs)
theorem insP_perm (x : Int × Int) : ∀ l, (insP x l).Perm (x :: l)
  | [] => .refl _
  | y :: ys => by
    unfold insP
    split
    · exact .refl _
    · exact ((insP_perm x ys).cons y).trans (.swap x y ys)
theorem srtP_perm : ∀ ns : List (Int × Int), (srtP ns).Perm ns
  | [] => .refl _
  | x :: xs => (insP_perm x (srtP xs)).trans ((srtP_perm xs).cons x)
theorem insP_sorted (x : Int × Int) : ∀ l : List (Int × Int), l.Pairwise (fun a b => le2 a b = true) → (insP x l).Pairwise (fun a b => le2 a b = true)
  | [], _ => by simp [insP]
  | y :: ys, h => by
    rw [List.pairwise_cons] at h
    unfold insP
    split
    · rename_i hc
      refine List.Pairwise.cons (fun z hz => ?_) (List.Pairwise.cons h.1 h.2)
      rcases List.mem_cons.mp hz with rfl | hz
      · exact hc
      · have := le2_iff.mp hc; have := le2_iff.mp (h.1 z hz); exact le2_iff.mpr (by omega)
    · rename_i hc
      refine List.Pairwise.cons (fun z hz => ?_) (insP_sorted x ys h.2)
      have hz' := (insP_perm x ys).mem_iff.mp hz
      rcases List.mem_cons.mp hz' with rfl | hz'
      · have : ¬ (z.1 < y.1 ∨ (z.1 = y.1 ∧ z.2 ≤ y.2)) := fun q => hc (le2_iff.mpr q)
        exact le2_iff.mpr (by omega)
      · exact h.1 z hz'
theorem srtP_sorted : ∀ ns : List (Int × Int), (srtP ns).Pairwise (fun a b => le2 a b = true)
  | [] => .nil
  | x :: xs => insP_sorted x (srtP xs) (srtP_sorted xs)
theorem sortedP_unique {xs ys : List (Int × Int)} (hp : xs.Perm ys) (h1 : xs.Pairwise (fun a b => le2 a b = true)) (h2 : ys.Pairwise (fun a b => le2 a b = true)) : xs = ys :=
  List.Perm.eq_of_pairwise (le := fun a b => le2 a b = true) (fun a b _ _ h3 h4 => by
    have := le2_iff.mp h3; have := le2_iff.mp h4; exact Prod.ext (by omega) (by omega)) h1 h2 hp
theorem srtP_congr {xs ys : List (Int × Int)} (h : xs.Perm ys) : srtP xs = srtP ys := sortedP_unique ((srtP_perm xs).trans (h.trans (srtP_perm ys).symm)) (srtP_sorted xs) (srtP_sorted ys)
def pairD (q : Int × Int) : D := .tup [.int q.1, .int q.2]
def pairsOf : List D → Option (List (Int × Int))
  | [] => some []
  | .tup [.int a, .int b] :: r => (pairsOf r).map ((a, b) :: ·)
  | _ => none
theorem pairsOf_map (qs : List (Int × Int)) : pairsOf (qs.map pairD) = some qs := by
  induction qs with
  | nil => rfl
  | cons q qs ih => simp [pairsOf, pairD] at ih ⊢; rw [ih]
theorem pairsOf_eq : ∀ {ds : List D} {qs : List (Int × Int)}, pairsOf ds = some qs → ds = qs.map pairD
  | [], qs, h => by simp [pairsOf] at h; subst h; rfl
  | d :: ds, qs, h => by
    unfold pairsOf at h
    split at h
    · rename_i e; cases e
    · rename_i a b r e
      cases e
      cases q : pairsOf ds with
      | none => rw [q] at h; cases h
      | some ms =>
        rw [q] at h
        simp only [Option.map_some, Option.some.injEq] at h
        subst h
        rw [List.map_cons, ← pairsOf_eq q]; rfl
    · cases h
def dSortP : List D → Option (List D)
  | [.lst xs] => (pairsOf xs).map fun qs => (srtP qs).map pairD
  | _ => none
/-- the pair at a tuple as it stands -/
def pairAt (H : Hp) : V → Int × Int
  | .ref t => (match H t with | some (.tup [.int a, .int b]) => (a, b) | _ => (0, 0))
  | _ => (0, 0)
section
variable {X : Cx} {Wx : WX} {e : Expr} {es : List Expr} {ms : M (List D)} {p pos : Pos}
theorem calls_sortP : CallSo X (rSortedPO X.K) dSortP := by
  intro xs ds z F H p pa Q gs rs ez k
  unfold dSortP at ez
  split at ez <;> first | (cases ez; done) | skip
  rename_i ys
  obtain ⟨v, rfl, r⟩ := reps1 rs
  obtain ⟨a, vs, rfl, h, hz, r2⟩ := r.lstH gs
  cases q : pairsOf ys with
  | none => rw [q] at ez; cases ez
  | some qs =>
    rw [q] at ez
    simp only [Option.map_some, Option.some.injEq] at ez
    subst ez
    have eys := pairsOf_eq q
    subst eys
    -- each one is a tuple of two ints
    have key : ∀ (i : Nat) (x : V), vs[i]? = some x → ∃ pr, qs[i]? = some pr ∧ pairAt H x = pr ∧ (∃ t, x = V.ref t ∧ H t = some (.tup [.int pr.1, .int pr.2])) ∧ Rep X.K F p.g pa x (pairD pr) := fun i x hx => by
      obtain ⟨d, hd, rd⟩ := r2.get' hx
      rw [List.getElem?_map] at hd
      cases qi : qs[i]? with
      | none => rw [qi] at hd; cases hd
      | some pr =>
        rw [qi] at hd
        cases hd
        obtain ⟨t, ws, rfl, ht, _, rw'⟩ := rd.tupH gs
        obtain ⟨w1, w2, rfl, q1, q2⟩ := reps2 rw'
        cases q1; cases q2
        exact ⟨pr, rfl, (by simp only [pairAt, ht]), ⟨t, rfl, ht⟩, rd⟩
    have hmap : vs.map (pairAt H) = qs := by
      apply List.ext_getElem?
      intro i
      rw [List.getElem?_map]
      cases hv : vs[i]? with
      | none =>
        have l1 := r2.1
        rw [List.length_map] at l1
        have : qs[i]? = none := List.getElem?_eq_none (by have := List.getElem?_eq_none_iff.mp hv; omega)
        rw [this]; rfl
      | some x =>
        obtain ⟨pr, h1, h2, _, _⟩ := key i x hv
        rw [h1, ← h2]; rfl
    have hmem : ∀ x ∈ vs, (∃ t, x = V.ref t ∧ H t = some (.tup [.int (pairAt H x).1, .int (pairAt H x).2])) ∧ Rep X.K F p.g pa x (pairD (pairAt H x)) := fun x hx => by
      obtain ⟨i, hi⟩ := List.mem_iff_getElem?.mp hx
      obtain ⟨pr, _, h2, h3, h4⟩ := key i x hi
      rw [h2]
      exact ⟨h3, h4⟩
    refine ⟨a, vs, pairAt H, rfl, SqL.of h, fun x hx => (hmem x hx).1, fun zs l hs hst hl => ?_⟩
    have hperm := hst.perm
    have e : zs.map (pairAt H) = srtP qs := by
      refine sortedP_unique (((hperm.map (pairAt H)).trans (by rw [hmap])).trans (srtP_perm qs).symm) ?_ (srtP_sorted qs)
      rw [List.pairwise_map]
      exact hs.imp fun {x y} hxy => by
        have := SrtO.lexB_no.mp hxy
        exact le2_iff.mpr (by omega)
    refine k l zs hl (by rw [List.length_map, (srtP_perm qs).length_eq]; rw [List.length_map] at hz; exact hz) ?_
    rw [← e, List.map_map]
    have hall : ∀ x ∈ zs, Rep X.K F p.g pa x (pairD (pairAt H x)) := fun x hx => (hmem x (hperm.mem_iff.mp hx)).2
    refine ⟨by simp, fun i x d hx hd => ?_⟩
    rw [List.getElem?_map, hx] at hd
    cases hd
    exact hall x (List.mem_of_getElem? hx)
theorem b_sortP (hm : X.mg "sorted" = none) (ha : PMa X Wx (e :: es) ms) (hg : Gl X "sorted" := by rfl) (he : starEach (e :: es) X.env = (false, eval e X.env) :: starEach es X.env := by rfl) (hpl : (backTo pos (starEach es X.env)).any (·.1) = false := by rfl) : PMo X Wx (.Call (.Name "sorted" p) (e :: es) [] pos) (mLst dSortP ms) := pmo_callB cr_sortedPO calls_sortP hg hm boot_sorted ha (by decide) (by decide) he hpl
end
end PF

namespace HT
open PySem PyProof.Rows
section
variable {prog : Program} {w : World} {A : Around} {E : Value → Shared → Prop} {s : Shared}
theorem sliceApplied_rev2 {sl : Addr} {vl vu vs : Value} {Q : Int × Int × Nat → Shared → Prop} (hs : s.heap.IsSliceOf sl vl vu vs) (pl : IsPart vl none) (pu : IsPart vu none) (ps : IsPart vs (some (-1)))
    (h : Q (1, -1, 2) s) : wpAny (model prog w) A (Builtin.Slice.sliceApplied (.ref sl) (pure ((2 : Nat) : Int))) Q E s := by
  obtain ⟨os, hos, hcs, hds⟩ := id hs
  unfold Builtin.Slice.sliceApplied Builtin.Slice.sliceFields
  refine wpAny_bind (wpAny_bind (wpAny_field hos hds (x := vl) rfl (wpAny_bind (wpAny_field hos hds (x := vu) rfl (wpAny_bind (wpAny_field hos hds (x := vs) rfl (wpAny_pure ?_)))))))
  refine wpAny_bind (slicePart_ ps ?_)
  show wpAny _ _ (if ((-1 : Int) == 0) = true then _ else _) _ _ s
  rw [if_neg (by decide)]
  refine wpAny_bind (slicePart_ pl (wpAny_bind (slicePart_ pu (wpAny_bind (wpAny_pure ?_)))))
  exact wpAny_pure h
theorem getItem_tuple_rev2 {t sl : Addr} {x y : Value} {vl vu vs : Value} {Q : Value → Shared → Prop} (ht : IsTup s.heap t #[x, y]) (hs : s.heap.IsSliceOf sl vl vu vs) (pl : IsPart vl none) (pu : IsPart vu none) (ps : IsPart vs (some (-1)))
    (h : Q (.ref s.heap.objs.size) { s with heap := s.heap.push { cls := .type "tuple", data := .seq #[y, x] } }) : wpAny (model prog w) A (getItem (.ref t) (.ref sl)) Q E s := by
  have htake : sizeOk (.seq #[y, x]) := by show 2 ≤ sizeLine; decide
  obtain ⟨os, hos, hcs, hds⟩ := id hs
  have hTs : s.TypeIs (.ref sl) "slice" := ⟨os, hos, hcs⟩
  unfold getItem
  try with_reducible refine wpAny_holding ?_
  first | refine wpAny_bind (wpAny_pure ?_) | skip
  refine wpAny_bind (wpAny_sequenceKey ht.typeIs (by decide) ?_)
  refine wpAny_bind (wpAny_callSpecial?_slot (name := Str.ofString "__getitem__") ht.typeIs PyProof.Rows.slot_tuple_getitem
    (wpAny_call_entry PyProof.Rows.slot_tuple_getitem ht.typeIs entry_tuple_getitem ?_ (args_tuple_getitem _ _)))
  show wpAny _ _ (Builtin.Tuple.tupleItemsOf (.ref t) >>= _) _ _ s
  refine wpAny_bind (tupleItemsOf_ ht ?_)
  refine wpAny_bind (wpAny_typeOf hTs ?_)
  rw [if_pos (by decide)]
  refine wpAny_bind (sliceApplied_rev2 hs pl pu ps ?_)
  show wpAny _ _ (if (((1 : Int)) == 0 && (-1 : Int) == 1 && 2 == 2) = true then _ else _) _ _ s
  rw [if_neg (by decide)]
  first
    | exact wpAny_bind (m := Builtin.Tuple.tupleExact _) (wpAny_newObj_type (wpAny_pure ⟨_, rfl, wpAny_pure h⟩) htake)
    | exact wpAny_bind (m := Builtin.Tuple.tupleExact _) (wpAny_newObj_type (wpAny_bind (wpAny_pure (wpAny_pure ⟨_, rfl, wpAny_pure h⟩))) htake)
    | exact wpAny_bind (wpAny_bind (m := Builtin.Tuple.tupleExact _) (wpAny_newObj_type (wpAny_pure (wpAny_pure ⟨_, rfl, wpAny_pure h⟩)) htake))
    | exact wpAny_bind (wpAny_bind (m := Builtin.Tuple.tupleExact _) (wpAny_newObj_type (wpAny_pure ⟨_, rfl, wpAny_pure h⟩) htake))
end
end HT
namespace PF
open PySem PySem.Spec PyProof.Rows L2
/-! ### xy[::-1], xy a tuple of two -/
def tRev2 (K : PySem.W.Frag) (te : TE) : TE := fun σ H Q => te σ H fun x H1 => ∃ a v w, x = .ref a ∧ SqT K H1 a [v, w] ∧ ∀ p, H1 p = none → Q (.ref p) (upd H1 p (.tup [w, v]))
theorem pe_rev2 {X : Cx} {e : Expr} {te : TE} {k : Nat} {p1 p2 p3 pos : Pos} (he : PE X e te) : PE X (.Subscript e (.Slice none none (some (.UnaryOp .USub (.Constant (.int 1) k p1) p2)) p3) pos) (tRev2 X.K te) := by
  refine ⟨fun pins s σ H Q I h => ?_⟩
  refine Subscript_ (thn (he.run pins s σ H _ I h) fun v s1 ⟨x, H1, I1, r1, q1⟩ => ?_)
  obtain ⟨a, y1, y2, ex, hx, q⟩ := q1
  subst ex
  cases r1
  have hst : PO X (some (.UnaryOp .USub (.Constant (.int 1) k p1) p2)) (tPart (tUn (rU fun i => .int (-i)) (tC (.int 1)))) := po_some (pe_un un_neg pe_int)
  refine wpAny_Slice (thn (po_none.run pins s1 σ H1 (fun o H2 => o = none ∧ H2 = H1) I1 ⟨rfl, rfl⟩) fun vl s2 ⟨l, H2, I2, pl, el, e2⟩ => ?_)
  subst el e2
  refine thn (po_none.run pins s2 σ H2 (fun o H3 => o = none ∧ H3 = H2) I2 ⟨rfl, rfl⟩) fun vu s3 ⟨u, H3, I3, pu, eu, e3⟩ => ?_
  subst eu e3
  refine thn (hst.run pins s3 σ H3 (fun o H4 => o = some (-1) ∧ H4 = H3) I3 ⟨1, rfl, -1, rfl, rfl, rfl⟩) fun vs s4 ⟨o, H4, I4, ps, eo, e4⟩ => ?_
  subst eo e4
  have I5 : Inv X pins σ H4 { s4 with heap := s4.heap.push { cls := .type "slice", data := .fields #[vl, vu, vs] } } := I4.kept (t' := s4.toks) fun b ob q => Heap.get?_push_of_some _ q
  obtain ⟨its, r, ht, hz⟩ := I5.tuple hx
  obtain ⟨u1, u2, rfl, ru1, ru2⟩ := vals2 r
  show wpAny (model X.prog X.w) X.A (subscriptTail e (.Slice none none (some (.UnaryOp .USub (.Constant (.int 1) k p1) p2)) p3) (.ref a) (.ref s4.heap.objs.size)) (EP X pins σ Q) X.xe { s4 with heap := s4.heap.push { cls := .type "slice", data := .fields #[vl, vu, vs] } }
  refine tail_any (ops := [.ref a, .ref s4.heap.objs.size]) ht.typeIs (PyProof.Rows.slot_tuple_getitem.lookup) ?_ (by with_unfolding_all rfl)
  refine HT.getItem_tuple_rev2 ht (Heap.IsSliceOf.new _ vl vu vs) pl pu ps ?_
  refine ⟨.ref _, _, I5.laid (t' := s4.toks) (o := .tup [y2, y1]) (fun b ob q => Heap.get?_push_of_some _ q) (Nat.le_refl _) ?_, rfl, q _ (I5.hok.fresh (Nat.le_refl _))⟩
  exact ⟨by show 2 ≤ sizeLine; decide, [u2, u1], .cons ru2 (.cons ru1 .nil), ⟨_, Heap.get?_push_size _ rfl, rfl, _, rfl⟩⟩
def rev2D : D → Option D
  | .tup [a, b] => some (.tup [b, a])
  | _ => none
@[simp] theorem rev2D_two (a b : D) : rev2D (.tup [a, b]) = some (.tup [b, a]) := rfl
def mRev2 (me : M D) : M D := mbind me fun d => mopt (rev2D d)
@[simp] theorem ev_mRev2 (me : M D) (ρ : Sl) (p : Pst) : mRev2 me ρ p = mbind me (fun d => mopt (rev2D d)) ρ p := by cases p; rfl
theorem im_rev2 {me : M D} (h : IM me) : IM (mRev2 me) := im_bind h fun _ => im_opt _
theorem pm_rev2 {X : Cx} {Wx : WX} {e : Expr} {me : M D} {k : Nat} {p1 p2 p3 pos : Pos} (he : PM X Wx e me) : PM X Wx (.Subscript e (.Slice none none (some (.UnaryOp .USub (.Constant (.int 1) k p1) p2)) p3) pos) (mRev2 me) := ⟨(pe_rev2 he.pe).imp fun σ H Q ⟨F, pa, p, ρ, gs, s, o⟩ => by
  refine TM.of gs s (o.bind.mono fun d p1 F1 H1 pa1 gr1 gs1 o1 s1 v1 r1 => ?_)
  obtain ⟨z, ez, o2⟩ := o1.opt
  unfold rev2D at ez
  split at ez <;> first | (cases ez; done) | skip
  rename_i a b
  cases ez
  obtain ⟨t, ws, rfl, ht, _, rw'⟩ := r1.tup_inv
  obtain ⟨w1, w2, rfl, q1, q2⟩ := reps2 rw'
  refine ⟨t, w1, w2, rfl, SqT.of (gs1.sub _ _ ht), fun q hq => ?_⟩
  obtain ⟨F', gr2, gs2, r2⟩ := zip_item gs1 hq q2 q1
  exact o2 _ _ pa1 gr2 gs2 _ r2⟩
end PF

namespace PF
open PySem PySem.Spec PyProof.Rows L2
/-! ### zip over three lists, tuples -/
theorem wr_fp3 {z TI TO i1 i2 i3 b : Addr} (m : b ∈ [z, TO, i1, i2, i3]) : b ∈ [z, TI, TO, i1, i2, i3] := by
  simp only [List.mem_cons, List.not_mem_nil, or_false] at m ⊢
  rcases m with h | h | h | h | h <;> simp [h]
def ItS3 (K : PySem.W.Frag) (q1 q2 q3 : Src) (N : Nat) : It :=
  ⟨fun i H => i < N ∧ ∃ xs ys zs, srcV K H q1 xs ∧ srcV K H q2 ys ∧ srcV K H q3 zs ∧ N = min (min xs.length ys.length) zs.length,
    fun i H v H' => ∃ T x y u, v = .ref T ∧ H T = none ∧ H' = upd H T (.tup [x, y, u]) ∧ (∀ xs, srcV K H q1 xs → xs[i]? = some x) ∧ (∀ ys, srcV K H q2 ys → ys[i]? = some y) ∧ ∀ zs, srcV K H q3 zs → zs[i]? = some u,
    fun i H => N ≤ i ∧ ∃ xs ys zs, srcV K H q1 xs ∧ srcV K H q2 ys ∧ srcV K H q3 zs ∧ N = min (min xs.length ys.length) zs.length⟩
theorem turn_zipS3 {P : Program} {w : World} {K : PySem.W.Frag} {elts : List Expr} {kk : Nat} {tpos : Pos} {q1 q2 q3 : Src} {z TI TO i1 i2 i3 : Addr} {N : Nat} (S : ZipSep3 z TI TO i1 i2 i3 (i1 :: srcA q1) (i2 :: srcA q2) (i3 :: srcA q3)) (n1 : ∀ b ∈ srcA q1, b ≠ i1) (n2 : ∀ b ∈ srcA q2, b ≠ i2) (n3 : ∀ b ∈ srcA q3, b ≠ i3) :
    Turn P w K (.Tuple elts kk tpos) (ItS3 K q1 q2 q3 N) [z, TI, TO, i1, i2, i3] z (fun i h => i ≤ N ∧ IsZip h z TI TO .none ∧ IsTupOf3 h TI (.ref i1) (.ref i2) (.ref i3) ∧ (∃ x y u, IsTupOf3 h TO x y u) ∧ srcSt i1 i h q1 ∧ srcSt i2 i h q2 ∧ srcSt i3 i h q3) where
  mem := by simp
  obj := fun i h st c hc => by
    obtain ⟨_, hz, hTI, ⟨x, y, u, hTO⟩, h1, h2, h3⟩ := st
    have e' : c = z ∨ c = TI ∨ c = TO ∨ c = i1 ∨ c = i2 ∨ c = i3 := by simpa using hc
    rcases e' with q | q | q | q | q | q
    · rw [q]; exact ⟨_, hz, fun v q => nomatch q⟩
    · rw [q]; exact ⟨_, hTI, fun v q => nomatch q⟩
    · rw [q]; exact ⟨_, hTO, fun v q => nomatch q⟩
    · rw [q]; exact srcSt_obj h1
    · rw [q]; exact srcSt_obj h2
    · rw [q]; exact srcSt_obj h3
  keep := fun i h h' st k => by
    obtain ⟨hN, hz, hTI, ⟨x, y, u, hTO⟩, h1, h2, h3⟩ := st
    exact ⟨hN, k z (by simp) _ hz, k TI (by simp) _ hTI, ⟨x, y, u, k TO (by simp) _ hTO⟩, srcSt_keep (fun o q => k i1 (by simp) o q) h1, srcSt_keep (fun o q => k i2 (by simp) o q) h2, srcSt_keep (fun o q => k i3 (by simp) o q) h3⟩
  item := by
    intro X hP hw hK hc i pins s σ H E I hf st hg
    subst hP hw hK
    obtain ⟨hN, hz, hTI, ⟨x0, y0, u0, hTO⟩, h1, h2, h3⟩ := st
    obtain ⟨hlt, xs, ys, zs, hx, hy, hu, hn⟩ := hg
    obtain ⟨P1, St1, D1, a1, b1, c1⟩ := src_draws (A := X.A.in1) (I.ok.hd hc) I n1 hx
    obtain ⟨P2, St2, D2, a2, b2, c2⟩ := src_draws (A := X.A.in1) (I.ok.hd hc) I n2 hy
    obtain ⟨P3, St3, D3, a3, b3, c3⟩ := src_draws (A := X.A.in1) (I.ok.hd hc) I n3 hu
    have W := WalksT.zipD3 S D1 D2 D3
    refine W.item i s _ _ (by omega) ⟨hz, hTI, ⟨x0, y0, u0, hTO⟩, a1 i h1, a2 i h2, a3 i h3⟩ fun T vals h' tk hP hT hIs hMid hk => ⟨.ref T, rfl, W.go elts kk tpos i T { s with heap := h', toks := tk } _ _ hMid fun h'' st'' hk'' => ?_⟩
    obtain ⟨u1, u2, u3, p1, p2, p3, rfl⟩ := hP
    obtain ⟨x, gx, rx⟩ := c1 i u1 p1
    obtain ⟨y, gy, ry⟩ := c2 i u2 p2
    obtain ⟨u, gu, ru⟩ := c3 i u3 p3
    have hIs2 : h''.IsTuple T #[u1, u2, u3] := hIs.at fun o e => hk'' T o (W.apart i T h' hMid) e
    have new : ObjOk X.prog X.w (upd H T (.tup [x, y, u])) h'' T (.tup [x, y, u]) := ⟨by show 3 ≤ sizeLine; decide, [u1, u2, u3], .cons rx (.cons ry (.cons ru .nil)), hIs2⟩
    have kk' : ∀ b o, b ∉ [z, TI, TO, i1, i2, i3] → s.heap.get? b = some o → h''.get? b = some o := fun b o hb e =>
      hk'' b o (fun m => hb (wr_fp3 m)) (hk b o (fun m => hb (wr_fp3 m)) e)
    have I1 : Inv X pins σ (upd H T (.tup [x, y, u])) { s with heap := h'', toks := tk } := I.turnedNew (t' := tk) kk' hf hT new
    obtain ⟨z1, z2, z3, z4, z5, z6⟩ := st''
    refine ⟨.ref T, _, I1, rfl, ⟨T, x, y, u, rfl, I.hok.fresh hT, rfl, fun l hl => by rw [src_inj I hl hx]; exact gx, fun l hl => by rw [src_inj I hl hy]; exact gy, fun l hl => by rw [src_inj I hl hu]; exact gu⟩, ⟨hlt, z1, z2, z3, b1 _ _ z4, b2 _ _ z5, b3 _ _ z6⟩, fun c hcm => ?_⟩
    have hlt : c < s.heap.objs.size := by
      have e' : c = z ∨ c = TI ∨ c = TO ∨ c = i1 ∨ c = i2 ∨ c = i3 := by simpa using hcm
      rcases e' with q | q | q | q | q | q
      · rw [q]; exact Heap.lt_size hz
      · rw [q]; exact Heap.lt_size hTI
      · rw [q]; exact Heap.lt_size hTO
      · rw [q]; obtain ⟨_, e1, _⟩ := srcSt_obj h1; exact Heap.lt_size e1
      · rw [q]; obtain ⟨_, e2, _⟩ := srcSt_obj h2; exact Heap.lt_size e2
      · rw [q]; obtain ⟨_, e3, _⟩ := srcSt_obj h3; exact Heap.lt_size e3
    rw [upd_ne (Nat.ne_of_lt (Nat.lt_of_lt_of_le hlt hT))]
    exact (hf c hcm).1
  done := by
    intro X hP hw hK hc i pins s σ H E I hf st hg
    subst hP hw hK
    obtain ⟨hN, hz, hTI, ⟨x0, y0, u0, hTO⟩, h1, h2, h3⟩ := st
    obtain ⟨hge, xs, ys, zs, hx, hy, hu, hn⟩ := hg
    obtain ⟨P1, St1, D1, a1, b1, c1⟩ := src_draws (A := X.A.in1) (I.ok.hd hc) I n1 hx
    obtain ⟨P2, St2, D2, a2, b2, c2⟩ := src_draws (A := X.A.in1) (I.ok.hd hc) I n2 hy
    obtain ⟨P3, St3, D3, a3, b3, c3⟩ := src_draws (A := X.A.in1) (I.ok.hd hc) I n3 hu
    have W := WalksT.zipD3 S D1 D2 D3
    have e : i = min (min xs.length ys.length) zs.length := by omega
    subst e
    exact W.done s _ _ ⟨hz, hTI, ⟨x0, y0, u0, hTO⟩, a1 _ h1, a2 _ h2, a3 _ h3⟩ fun h' tk hk => ⟨rfl, I.turnedL (t' := tk) (ch := [z, TI, TO, i1, i2, i3]) (fun c o hb q => hk c o (fun m => hb (wr_fp3 m)) q) hf⟩
  self := fun A i s Q E st h => wpAny_pyIter_zip st.2.1 h
section
variable {X : Cx} {pins : List (Addr × Obj)} {σ : L2.St} {H : Hp} {s : Shared}
theorem fresh6 (I : Inv X pins σ H s) : ∀ c, c ∈ [s.heap.objs.size + 5, s.heap.objs.size + 3, s.heap.objs.size + 4, s.heap.objs.size, s.heap.objs.size + 1, s.heap.objs.size + 2] → FpOk X pins H c := fun c hcm => by
  have hle : s.heap.objs.size ≤ c := by
    have e' : c = s.heap.objs.size + 5 ∨ c = s.heap.objs.size + 3 ∨ c = s.heap.objs.size + 4 ∨ c = s.heap.objs.size ∨ c = s.heap.objs.size + 1 ∨ c = s.heap.objs.size + 2 := by simpa using hcm
    rcases e' with z | z | z | z | z | z <;> rw [z]
    · exact Nat.le_add_right _ _
    · exact Nat.le_add_right _ _
    · exact Nat.le_add_right _ _
    · exact Nat.le_refl _
    · exact Nat.le_add_right _ _
    · exact Nat.le_add_right _ _
  exact I.fpOk hle (I.hok.fresh hle)
theorem zip_start3 {E : Value → Shared → Prop} {elts : List Expr} {kk : Nat} {tpos : Pos} {R : It → Hp → Prop} {v1 v2 v3 : Value} {q1 q2 q3 : Src} {o1 o2 o3 : Obj} {H1 H2 H3 : Heap → Prop} {N : Nat} (I : Inv X pins σ H s) (B1 : Begins v1 o1 H1) (B2 : Begins v2 o2 H2) (B3 : Begins v3 o3 H3) (h1 : H1 s.heap) (h2 : H2 s.heap) (h3 : H3 s.heap)
    (t1 : ∀ h' it, h'.get? it = some o1 → srcSt it 0 h' q1) (t2 : ∀ h' it, h'.get? it = some o2 → srcSt it 0 h' q2) (t3 : ∀ h' it, h'.get? it = some o3 → srcSt it 0 h' q3) (l1 : ∀ b ∈ srcA q1, b < s.heap.objs.size) (l2 : ∀ b ∈ srcA q2, b < s.heap.objs.size) (l3 : ∀ b ∈ srcA q3, b < s.heap.objs.size) (q : R (ItS3 X.K q1 q2 q3 N) H) :
    wpAny (model X.prog X.w) X.A (call (.type "zip") [v1, v2, v3]) (fun v s1 => wpAny (model X.prog X.w) X.A (pyIter v) (PIE X pins σ (.Tuple elts kk tpos) R) E s1) E s := by
  refine zip_begins3 B1 B2 B3 h1 h2 h3 fun h' hz hTI hTO e1 e2 e3 hsz hk => wpAny_pyIter_zip hz ?_
  have I2 : Inv X pins σ H { s with heap := h' } := I.kept (t' := s.toks) hk
  exact ⟨s.heap.objs.size + 5, [s.heap.objs.size + 5, s.heap.objs.size + 3, s.heap.objs.size + 4, s.heap.objs.size, s.heap.objs.size + 1, s.heap.objs.size + 2], _, _, H, rfl, I2,
    turn_zipS3 (N := N) (zip_sep3 l1 l2 l3) (fun b hb => Nat.ne_of_lt (l1 b hb)) (fun b hb => Nat.ne_of_lt (Nat.lt_succ_of_lt (l2 b hb))) (fun b hb => Nat.ne_of_lt (Nat.lt_succ_of_lt (Nat.lt_succ_of_lt (l3 b hb)))), ⟨Nat.zero_le _, hz, hTI, ⟨_, _, _, hTO⟩, t1 _ _ e1, t2 _ _ e2, t3 _ _ e3⟩, fresh6 I, q⟩
end
def iZipS3 (K : PySem.W.Frag) (ta : TA) : TI := fun σ H R => ta σ H fun vs H1 => ∃ a b c xs ys zs q1 q2 q3, vs = [.ref a, .ref b, .ref c] ∧ (q1 = .l a ∨ q1 = .t a) ∧ (q2 = .l b ∨ q2 = .t b) ∧ (q3 = .l c ∨ q3 = .t c) ∧ srcV K H1 q1 xs ∧ srcV K H1 q2 ys ∧ srcV K H1 q3 zs ∧ R (ItS3 K q1 q2 q3 (min (min xs.length ys.length) zs.length)) H1
theorem pi_zipS3 {X : Cx} {e e2 e3 : Expr} {ta : TA} {p pos tpos : Pos} {elts : List Expr} {kk : Nat} (hg : Gl X "zip") (hm : X.mg "zip" = none) (ha : PA X [e, e2, e3] ta)
    (hs : starEach [e, e2, e3] X.env = (false, eval e X.env) :: starEach [e2, e3] X.env := by rfl) (hpl : (backTo pos (starEach [e2, e3] X.env)).any (·.1) = false := by rfl) :
    PI X (.Tuple elts kk tpos) (.Call (.Name "zip" p) [e, e2, e3] [] pos) (iZipS3 X.K ta) := by
  refine ⟨fun pins s σ H R I h => ?_⟩
  refine Call_ (ld_blt I hg hm PyProof.Rows.boot_zip (PyProof.Rows.callWith_type1 (thn (ha.run pos pins s σ H _ I h) fun us s1 ⟨vs, H1, I1, r1, q1⟩ => ?_) hs hpl))
  obtain ⟨a, b, c, xs, ys, zs, qa, qb, qc, ex, ea, eb, ec, hx, hy, hz, q⟩ := q1
  subst ex
  obtain ⟨o1, B1, b1, c1, d1, f1⟩ := src_begins I1 ea hx
  obtain ⟨o2, B2, b2, c2, d2, f2⟩ := src_begins I1 eb hy
  obtain ⟨o3, B3, b3, c3, d3, f3⟩ := src_begins I1 ec hz
  cases r1 with
  | cons r rr =>
    cases rr with
    | cons r' rr =>
      cases rr with
      | cons r'' rr =>
        cases rr
        cases r
        cases r'
        cases r''
        exact zip_start3 I1 b1 b2 b3 c1 c2 c3 d1 d2 d3 f1 f2 f3 q
/-! ### as data -/
def zipL3 (xs ys zs : List D) : List D := List.zipWith (fun x (u : D × D) => .tup [x, u.1, u.2]) xs (ys.zip zs)
theorem zipL3_get {ds es fs : List D} {i : Nat} {z : D} (h : (zipL3 ds es fs)[i]? = some z) : ∃ d e f, ds[i]? = some d ∧ es[i]? = some e ∧ fs[i]? = some f ∧ z = .tup [d, e, f] := by
  unfold zipL3 at h
  rw [List.getElem?_zipWith] at h
  cases q : ds[i]? with
  | none => rw [q] at h; cases h
  | some d =>
    cases q2 : (es.zip fs)[i]? with
    | none => rw [q, q2] at h; cases h
    | some u =>
      rw [q, q2] at h
      have hz := List.getElem?_zip_eq_some.mp q2
      cases h
      exact ⟨d, u.1, u.2, rfl, hz.1, hz.2, rfl⟩
theorem zipL3_len (xs ys zs : List D) : (zipL3 xs ys zs).length = min xs.length (min ys.length zs.length) := by
  unfold zipL3; rw [List.length_zipWith, List.length_zip]
def zipS3 : List D → Option (List D)
  | [d, e, f] => (sqD d).bind fun xs => (sqD e).bind fun ys => (sqD f).map fun zs => zipL3 xs ys zs
  | _ => none
@[simp] theorem zipS3_three (d e f : D) : zipS3 [d, e, f] = (sqD d).bind fun xs => (sqD e).bind fun ys => (sqD f).map fun zs => zipL3 xs ys zs := rfl
def mZipS3 (ms : M (List D)) : M (List D) := mbind ms fun ds => mopt (zipS3 ds)
@[simp] theorem ev_mZipS3 (ms : M (List D)) (ρ : Sl) (p : Pst) : mZipS3 ms ρ p = mbind ms (fun ds => mopt (zipS3 ds)) ρ p := by cases p; rfl
theorem im_zipS3 {m : M (List D)} (h : IM m) : IM (mZipS3 m) := im_bind h fun _ => im_opt _
theorem three_line : 3 ≤ sizeLine := by decide
theorem zip_item3 {K : PySem.W.Frag} {F H : Hp} {p : Pst} {pa : Option Addr} {T : Addr} {v w u : V} {d e f : D} (gs : GS F H pa p) (hT : H T = none) (r1 : Rep K F p.g pa v d) (r2 : Rep K F p.g pa w e) (r3 : Rep K F p.g pa u f) :
    ∃ F', Gr F H p.g pa F' (upd H T (.tup [v, w, u])) p.g pa ∧ GS F' (upd H T (.tup [v, w, u])) pa p ∧ Rep K F' p.g pa (.ref T) (.tup [d, e, f]) :=
  have fu : Fz F p.g pa (upd F T (.tup [v, w, u])) p.g pa := Fz.upd (gs.fnone hT)
  ⟨_, Gr.alloc gs hT, gs.alloc hT, Rep.tup' upd_same three_line (.cons (r1.mono fu) (.cons (r2.mono fu) (.cons (r3.mono fu) .nil)))⟩
theorem reps3' {K : PySem.W.Frag} {F : Hp} {g : Nat} {pa : Option Addr} {xs : List V} {d e f : D} (r : Reps K F g pa xs [d, e, f]) : ∃ v w u, xs = [v, w, u] ∧ Rep K F g pa v d ∧ Rep K F g pa w e ∧ Rep K F g pa u f := by
  rcases r.cases with ⟨_, h⟩ | ⟨x, y, xs', ys', rfl, h, r1, r2⟩
  · cases h
  · cases h
    obtain ⟨v, w, rfl, r3, r4⟩ := reps2 r2
    exact ⟨x, v, w, rfl, r1, r3, r4⟩
theorem iter_zipS3 {K : PySem.W.Frag} {F : Hp} {g : Nat} {pa : Option Addr} {q1 q2 q3 : Src} {vs ws us : List V} {ds es fs : List D} (h : SrcF F q1 vs) (r : Reps K F g pa vs ds) (h' : SrcF F q2 ws) (r' : Reps K F g pa ws es) (h'' : SrcF F q3 us) (r'' : Reps K F g pa us fs) :
    IterOk K F g pa (ItS3 K q1 q2 q3 (min (min vs.length ws.length) us.length)) (zipL3 ds es fs) := by
  intro i F1 H1 pa1 p1 fz gs1
  have h1 : srcV K H1 q1 vs := h.v fun a o e => gs1.sub _ _ (fz.sub _ _ e)
  have h2 : srcV K H1 q2 ws := h'.v fun a o e => gs1.sub _ _ (fz.sub _ _ e)
  have h3 : srcV K H1 q3 us := h''.v fun a o e => gs1.sub _ _ (fz.sub _ _ e)
  have hl : (zipL3 ds es fs).length = min (min vs.length ws.length) us.length := by rw [zipL3_len, r.1, r'.1, r''.1]; omega
  refine ⟨fun hi => ⟨by omega, vs, ws, us, h1, h2, h3, rfl⟩, fun z hz => ?_⟩
  have hlt : i < (zipL3 ds es fs).length := (List.getElem?_eq_some_iff.mp hz).1
  obtain ⟨d, e, f, q1, q2, q3, rfl⟩ := zipL3_get hz
  obtain ⟨v, hv, rv⟩ := (r.mono fz).get q1
  obtain ⟨w, hw, rw'⟩ := (r'.mono fz).get q2
  obtain ⟨u, hu, ru'⟩ := (r''.mono fz).get q3
  refine ⟨⟨by omega, vs, ws, us, h1, h2, h3, rfl⟩, fun x H' ⟨T, y1, y2, y3, e1, e2, e3, hx, hy, hz⟩ => ?_⟩
  subst e1 e3
  have t1 := hx vs h1
  rw [hv] at t1
  cases t1
  have t2 := hy ws h2
  rw [hw] at t2
  cases t2
  have t3 := hz us h3
  rw [hu] at t3
  cases t3
  exact zip_item3 gs1 e2 rv rw' ru'
section
variable {X : Cx} {Wx : WX} {a b c : Expr} {ms : M (List D)} {p pos : Pos}
theorem pmi_zipS3 {elts : List Expr} {kk : Nat} {tpos : Pos} (hg : Gl X "zip") (hm : X.mg "zip" = none) (ha : PMa X Wx [a, b, c] ms) (hs : starEach [a, b, c] X.env = (false, eval a X.env) :: starEach [b, c] X.env := by rfl) (hpl : (backTo pos (starEach [b, c] X.env)).any (·.1) = false := by rfl) :
    PMi X Wx (.Tuple elts kk tpos) (.Call (.Name "zip" p) [a, b, c] [] pos) (mZipS3 ms) := ⟨(pi_zipS3 hg hm ha.pa hs hpl).imp fun σ H R ⟨F, pa, p, ρ, gs, s, o⟩ => by
  refine TMa.of gs s (o.bind.mono fun ds p1 F1 H1 pa1 gr1 gs1 o1 s1 vs rs => ?_)
  obtain ⟨z, ez, o2⟩ := o1.opt
  unfold zipS3 at ez
  split at ez <;> first | (cases ez; done) | skip
  rename_i d e f
  cases q : sqD d with
  | none => rw [q] at ez; cases ez
  | some xs =>
    cases q2 : sqD e with
    | none => rw [q, q2] at ez; cases ez
    | some ys =>
      cases q3 : sqD f with
      | none => rw [q, q2, q3] at ez; cases ez
      | some zs =>
        rw [q, q2, q3] at ez
        cases ez
        obtain ⟨v, w, u, rfl, r1, r2, r3⟩ := reps3' rs
        obtain ⟨a, s1, vs, rfl, ea, f1, hz, ra⟩ := sq_src (H := H1) (p := p1) r1 q
        obtain ⟨b, s2, ws, rfl, eb, f2, hz', rb⟩ := sq_src (H := H1) (p := p1) r2 q2
        obtain ⟨c, s3, us, rfl, ec, f3, hz'', rc⟩ := sq_src (H := H1) (p := p1) r3 q3
        exact ⟨a, b, c, vs, ws, us, s1, s2, s3, rfl, ea, eb, ec, f1.v gs1.sub, f2.v gs1.sub, f3.v gs1.sub, o2.ret gs1 _ (iter_zipS3 f1 ra f2 rb f3 rc) (by rw [zipL3_len]; omega)⟩⟩
end
end PF

namespace PF
open PySem PySem.Spec PyProof.Rows L2
/-! ### enumerate over zip -/
abbrev IsZipF (h : Heap) (z TI TO : Addr) (v0 f : Value) : Prop :=
  h.get? z = some { cls := .type "zip", dict := none, data := .fields #[v0, f, .bool false, .ref TI, .ref TO], slots := #[] }
def ZipAny (h : Heap) (z TI TO : Addr) : Prop := ∃ (v0 : Value) (f : Bool), (v0 = .none ∨ ∃ T : Nat, v0 = rawInt T) ∧ IsZipF h z TI TO v0 (.bool f)
section
variable {prog : Program} {w : World} {A : Around} {E : Value → Shared → Prop} {s : Shared} {z TI TO i1 i2 : Addr} {fp1 fp2 : List Addr} {n1 n2 i : Nat} {P1 P2 : Nat → Value → Prop} {St1 St2 : Nat → Heap → Prop} {a1 a2 : Value}
theorem wpAny_alive {a : Addr} {Q : Option Obj → Shared → Prop} (h : Q (s.heap.get? a) s) : wpAny (model prog w) A (loadIfAlive a) Q E s := fun _ _ _ => h
theorem wpAny_tupleAny {Q : Bool → Shared → Prop} (hz : ZipAny s.heap z TI TO) (hfree : ∀ v0 f, IsZipF s.heap z TI TO v0 f → Q true s) (hheld : ∀ h', ZipAny h' z TI TO → Heap.SameBut z s.heap h' → Q false { s with heap := h' }) :
    wpAny (model prog w) A (Builtin.SmallTypes.ownedTupleIsFree (.ref z)) Q E s := by
  obtain ⟨v0, f, hv, hz⟩ := hz
  unfold Builtin.SmallTypes.ownedTupleIsFree
  rcases hv with rfl | ⟨T, rfl⟩
  · exact wpAny_bind (wpAny_field hz rfl (x := .none) rfl (wpAny_pure (hfree _ _ hz)))
  · refine wpAny_bind (wpAny_field hz rfl (x := rawInt T) rfl ?_)
    show wpAny _ _ (loadIfAlive ((T : Int).toNat) >>= _) _ _ _
    rw [Int.toNat_natCast]
    refine wpAny_bind (wpAny_alive ?_)
    cases hT : s.heap.get? T with
    | none =>
      simp only [Option.isNone_none, if_true]
      exact wpAny_pure (hfree _ _ hz)
    | some oT =>
      simp only [Option.isNone_some, Bool.false_eq_true, if_false]
      refine wpAny_bind (wpAny_field hz rfl (x := .bool f) rfl ?_)
      cases f with
      | true =>
        rw [if_neg (show ¬ ((Value.bool true != Value.bool true) = true) from Bool.false_ne_true)]
        exact wpAny_pure (hheld s.heap ⟨_, _, .inr ⟨T, rfl⟩, hz⟩ (Heap.SameBut.refl _ _))
      | false =>
        rw [if_pos (show (Value.bool false != Value.bool true) = true from rfl)]
        exact wpAny_bind (wpAny_setField_rec hz (by simp) fun h₁ hz₁ hs₁ => wpAny_pure (hheld h₁ ⟨_, true, .inr ⟨T, rfl⟩, hz₁⟩ hs₁))
theorem zipAny_next_item {Q : Value → Shared → Prop} (S : ZipSep2 z TI TO i1 i2 fp1 fp2) (D1 : Draws prog w A i1 fp1 n1 P1 St1) (D2 : Draws prog w A i2 fp2 n2 P2 St2)
    (hz : ZipAny s.heap z TI TO) (hTI : IsTupOf2 s.heap TI (.ref i1) (.ref i2)) (hTO : IsTupOf2 s.heap TO a1 a2) (st1 : St1 i s.heap) (st2 : St2 i s.heap) (hlt1 : i < n1) (hlt2 : i < n2)
    (hQ : ∀ x1 x2 h' tk, P1 i x1 → P2 i x2 → ZipAny h' z TI TO → (∃ b1 b2, IsTupOf2 h' TO b1 b2) → St1 (i + 1) h' → St2 (i + 1) h' → IsTupOf2 h' s.heap.objs.size x1 x2 → h'.objs.size = s.heap.objs.size + 1 →
      (∀ c o, c ≠ z → c ≠ TO → c ≠ i1 → c ≠ i2 → s.heap.get? c = some o → h'.get? c = some o) → Q (.ref s.heap.objs.size) { s with heap := h', toks := tk }) :
    wpAny (model prog w) A (Builtin.«zip.__next__» ⟨[.ref z], []⟩) (fun fin s' => ∃ v, fin = .done (.ret v) ∧ Q v s') E s := by
  obtain ⟨hp, g, d, tk0, os⟩ := s
  obtain ⟨w0, fl, hv0, hzz0⟩ := id hz
  show wpAny _ _ (field (.ref z) 2 >>= _) _ _ _
  refine wpAny_bind (wpAny_field hzz0 rfl (x := .bool false) rfl ?_)
  show wpAny _ _ (field (.ref z) 3 >>= _) _ _ _
  refine wpAny_bind (wpAny_field hzz0 rfl (x := .ref TI) rfl ?_)
  refine wpAny_bind (wpAny_seqItems hTI rfl ?_)
  show wpAny _ _ (Builtin.SmallTypes.ownedTupleIsFree (.ref z) >>= _) _ _ _
  refine wpAny_bind (wpAny_tupleAny hz (fun v0 f hz => ?_) fun h₁ hz₁ hs₁ => ?_)
  · simp only [if_true]
    refine wpAny_bind (wpAny_rule ?_)
    refine wpAny_bind (wpAny_field hz rfl (x := .ref TO) rfl ?_)
    refine wpAny_bind (wpAny_setField_rec hz (by simp) fun g0 hz0 hs0 => ?_)
    replace hz0 : IsZipF g0 z TI TO .ellipsis f := hz0
    replace hs0 : Heap.SameBut z hp g0 := hs0
    refine wpAny_bind ?_
    simp only [List.zipIdx_cons, List.zipIdx_nil, List.forIn_cons, List.forIn_nil]
    refine wpAny_bind (wpAny_bind (wpAny_onRaise ?_))
    show wpAny _ _ (Builtin.SmallTypes.nextOf (.ref i1) >>= _) _ _ ⟨g0, g, d, tk0, os⟩
    refine wpAny_bind (D1.item i _ _ _ hlt1 (D1.over st1 hs0 S.zf1) fun x1 p1 tk1 hx1 sn1 hp1 => wpAny_pure ?_)
    replace hp1 : Heap.SameBut i1 g0 p1 := hp1
    have hU1 : IsTupOf2 p1 TO a1 a2 := hp1.extBut _ _ S.Ti1 (hs0.extBut _ _ S.TOz hTO)
    refine wpAny_bind (wpAny_seqItems (s := ⟨p1, g, d, tk1, os⟩) hU1 rfl ?_)
    refine wpAny_bind (updateSeq_IsTupOf2 (s := ⟨p1, g, d, tk1, os⟩) hU1 fun g1 hT1 hs1 => ?_)
    replace hT1 : IsTupOf2 g1 TO x1 a2 := hT1
    replace hs1 : Heap.SameBut TO p1 g1 := hs1
    refine wpAny_bind (wpAny_letGo (wpAny_pure ?_))
    refine wpAny_bind (wpAny_bind (wpAny_onRaise ?_))
    show wpAny _ _ (Builtin.SmallTypes.nextOf (.ref i2) >>= _) _ _ ⟨g1, g, d, tk1, os⟩
    refine wpAny_bind (D2.item i _ _ _ hlt2 (D2.over (D2.over (D2.over st2 hs0 S.zf2) hp1 S.sep1_2) hs1 S.Tf2) fun x2 p2 tk2 hx2 sn2 hp2 => wpAny_pure ?_)
    replace hp2 : Heap.SameBut i2 g1 p2 := hp2
    have hU2 : IsTupOf2 p2 TO x1 a2 := hp2.extBut _ _ S.Ti2 hT1
    refine wpAny_bind (wpAny_seqItems (s := ⟨p2, g, d, tk2, os⟩) hU2 rfl ?_)
    refine wpAny_bind (updateSeq_IsTupOf2 (s := ⟨p2, g, d, tk2, os⟩) hU2 fun g2 hT2 hs2 => ?_)
    replace hT2 : IsTupOf2 g2 TO x1 x2 := hT2
    replace hs2 : Heap.SameBut TO p2 g2 := hs2
    refine wpAny_bind (wpAny_letGo (wpAny_pure (wpAny_pure ?_)))
    refine wpAny_bind (wpAny_seqItems (s := ⟨g2, g, d, tk2, os⟩) hT2 rfl ?_)
    refine wpAny_bind (wpAny_newTuple ?_)
    have hsz : g2.objs.size = hp.objs.size := by rw [hs2.1, hp2.1, hs1.1, hp1.1, hs0.1]
    have hzz : IsZipF g2 z TI TO .ellipsis f := (hs2.extBut _ _ S.TOz.symm (hp2.extBut _ _ S.zi2 (hs1.extBut _ _ S.TOz.symm (hp1.extBut _ _ S.zi1 hz0))))
    have hkk : ∀ c o, c ≠ z → c ≠ TO → c ≠ i1 → c ≠ i2 → hp.get? c = some o → g2.get? c = some o := fun c o cz cT c1 c2 e =>
      (hs2.extBut _ _ cT (hp2.extBut _ _ c2 (hs1.extBut _ _ cT (hp1.extBut _ _ c1 (hs0.extBut _ _ cz e)))))
    have hj1 : St1 (i + 1) g2 := (D1.over (D1.over (D1.over sn1 hs1 S.Tf1) hp2 S.sep2_1) hs2 S.Tf1)
    have hj2 : St2 (i + 1) g2 := (D2.over sn2 hs2 S.Tf2)
    have hzlt : z < g2.objs.size := Heap.lt_size hzz
    show wpAny _ _ (Builtin.SmallTypes.ownedTupleHandOut (.ref z) (.ref g2.objs.size) >>= _) _ _ ⟨g2.push { cls := .type "tuple", data := .seq #[x1, x2] }, g, d, tk2, os⟩
    refine wpAny_bind ?_
    unfold Builtin.SmallTypes.ownedTupleHandOut
    have hz₆ : IsZipF (g2.push { cls := .type "tuple", data := .seq #[x1, x2] }) z TI TO .ellipsis f := Heap.get?_push_of_some _ hzz
    refine wpAny_bind (wpAny_setField_rec hz₆ (by simp) fun h₇ hz₇ hs₇ => ?_)
    replace hz₇ : IsZipF h₇ z TI TO (rawInt g2.objs.size) f := hz₇
    refine wpAny_setField_rec hz₇ (by simp) fun h₈ hz₈ hs₈ => ?_
    replace hz₈ : IsZipF h₈ z TI TO (rawInt g2.objs.size) (.bool false) := hz₈
    replace hs₇ : Heap.SameBut z (g2.push { cls := .type "tuple", data := .seq #[x1, x2] }) h₇ := hs₇
    replace hs₈ : Heap.SameBut z h₇ h₈ := hs₈
    have up : ∀ c o, c ≠ z → g2.get? c = some o → h₈.get? c = some o := fun c o c1 e => hs₈.extBut _ _ c1 (hs₇.extBut _ _ c1 (Heap.get?_push_of_some _ e))
    have hT₈ : IsTupOf2 h₈ g2.objs.size x1 x2 := hs₈.extBut _ _ (Nat.ne_of_gt hzlt) (hs₇.extBut _ _ (Nat.ne_of_gt hzlt) (Heap.get?_push_size _ rfl))
    have hz8 : h₈.objs.size = g2.objs.size + 1 := by rw [hs₈.1, hs₇.1, Heap.size_push]
    rw [hsz] at hz₈ hT₈ hz8
    refine wpAny_pure ⟨_, rfl, ?_⟩
    show Q (.ref g2.objs.size) ⟨h₈, g, d, tk2, os⟩
    rw [hsz]
    exact hQ x1 x2 h₈ tk2 hx1 hx2 ⟨_, false, .inr ⟨_, rfl⟩, hz₈⟩ ⟨_, _, up _ _ S.TOz hT2⟩ (D1.frame _ _ _ hj1 fun b hb o e => up b o (fun q => S.zf1 (q ▸ hb)) e) (D2.frame _ _ _ hj2 fun b hb o e => up b o (fun q => S.zf2 (q ▸ hb)) e) hT₈ hz8 fun c o cz cT c1 c2 e => up c o cz (hkk c o cz cT c1 c2 e)
  · replace hs₁ : Heap.SameBut z hp h₁ := hs₁
    simp only [Bool.false_eq_true, if_false]
    refine wpAny_bind ?_
    rw [← Array.forIn_toList]
    simp only [List.forIn_cons, List.forIn_nil]
    refine wpAny_bind (wpAny_bind (wpAny_holding ?_))
    show wpAny _ _ (Builtin.SmallTypes.nextOf (.ref i1) >>= _) _ _ ⟨h₁, g, d, tk0, os⟩
    refine wpAny_bind (D1.item i _ _ _ hlt1 (D1.over st1 hs₁ S.zf1) fun x1 h₂ tk1 hx1 sn1 hp1 => wpAny_pure ?_)
    replace hp1 : Heap.SameBut i1 h₁ h₂ := hp1
    refine wpAny_pure ?_
    refine wpAny_bind (wpAny_bind (wpAny_holding ?_))
    show wpAny _ _ (Builtin.SmallTypes.nextOf (.ref i2) >>= _) _ _ ⟨h₂, g, d, tk1, os⟩
    refine wpAny_bind (D2.item i _ _ _ hlt2 (D2.over (D2.over st2 hs₁ S.zf2) hp1 S.sep1_2) fun x2 h₃ tk2 hx2 sn2 hp2 => wpAny_pure ?_)
    replace hp2 : Heap.SameBut i2 h₂ h₃ := hp2
    refine wpAny_pure (wpAny_pure ?_)
    show wpAny _ _ (newTuple [x1, x2] >>= _) _ _ _
    refine wpAny_bind (wpAny_newTuple ?_)
    have hsz : h₃.objs.size = hp.objs.size := by rw [hp2.1, hp1.1, hs₁.1]
    have hz₃ : ZipAny h₃ z TI TO := by
      obtain ⟨v, f, hv, hz⟩ := hz₁
      exact ⟨v, f, hv, hp2.extBut _ _ S.zi2 (hp1.extBut _ _ S.zi1 hz)⟩
    have hk : ∀ c o, c ≠ z → c ≠ i1 → c ≠ i2 → hp.get? c = some o → h₃.get? c = some o := fun c o c1 c2 c3 e => hp2.extBut _ _ c3 (hp1.extBut _ _ c2 (hs₁.extBut _ _ c1 e))
    have hj1 : St1 (i + 1) h₃ := D1.over sn1 hp2 S.sep2_1
    refine wpAny_pure ⟨_, rfl, ?_⟩
    show Q (.ref h₃.objs.size) _
    have hp : IsTupOf2 (h₃.push { cls := .type "tuple", data := .seq #[x1, x2] }) h₃.objs.size x1 x2 := Heap.get?_push_size _ rfl
    have hz4 : (h₃.push { cls := .type "tuple", data := .seq #[x1, x2] }).objs.size = h₃.objs.size + 1 := Heap.size_push ..
    rw [hsz] at hp hz4 ⊢
    refine hQ x1 x2 _ tk2 hx1 hx2 ?_ ⟨_, _, Heap.get?_push_of_some _ (hk TO _ S.TOz S.Ti1 S.Ti2 hTO)⟩ (D1.frame _ _ _ hj1 fun b hb o e => Heap.get?_push_of_some _ e) (D2.frame _ _ _ sn2 fun b hb o e => Heap.get?_push_of_some _ e) hp hz4 fun c o c1 c2 c3 c4 e => Heap.get?_push_of_some _ (hk c o c1 c3 c4 e)
    obtain ⟨v, f, hv, hz⟩ := hz₃
    exact ⟨v, f, hv, Heap.get?_push_of_some _ hz⟩
theorem zipAny_next_end {Q : Fin → Shared → Prop} (S : ZipSep2 z TI TO i1 i2 fp1 fp2) (D1 : Draws prog w A i1 fp1 n1 P1 St1) (D2 : Draws prog w A i2 fp2 n2 P2 St2)
    (hz : ZipAny s.heap z TI TO) (hTI : IsTupOf2 s.heap TI (.ref i1) (.ref i2)) (hTO : IsTupOf2 s.heap TO a1 a2) (st1 : St1 i s.heap) (st2 : St2 i s.heap) (hle1 : i ≤ n1) (hle2 : i ≤ n2) (hend : i = n1 ∨ i = n2)
    (hE : ∀ h' tk e, (∀ c o, c ≠ z → c ≠ TO → c ≠ i1 → c ≠ i2 → s.heap.get? c = some o → h'.get? c = some o) → (∃ o, h'.get? e = some o ∧ o.cls = .type "StopIteration") → E (.ref e) { s with heap := h', toks := tk }) :
    wpAny (model prog w) A (Builtin.«zip.__next__» ⟨[.ref z], []⟩) Q E s := by
  obtain ⟨hp, g, d, tk0, os⟩ := s
  obtain ⟨w0, fl, hv0, hzz0⟩ := id hz
  show wpAny _ _ (field (.ref z) 2 >>= _) _ _ _
  refine wpAny_bind (wpAny_field hzz0 rfl (x := .bool false) rfl ?_)
  show wpAny _ _ (field (.ref z) 3 >>= _) _ _ _
  refine wpAny_bind (wpAny_field hzz0 rfl (x := .ref TI) rfl ?_)
  refine wpAny_bind (wpAny_seqItems hTI rfl ?_)
  show wpAny _ _ (Builtin.SmallTypes.ownedTupleIsFree (.ref z) >>= _) _ _ _
  refine wpAny_bind (wpAny_tupleAny hz (fun v0 f hz => ?_) fun h₁ hz₁ hs₁ => ?_)
  · simp only [if_true]
    refine wpAny_bind (wpAny_rule ?_)
    refine wpAny_bind (wpAny_field hz rfl (x := .ref TO) rfl ?_)
    refine wpAny_bind (wpAny_setField_rec hz (by simp) fun g0 hz0 hs0 => ?_)
    replace hz0 : IsZipF g0 z TI TO .ellipsis f := hz0
    replace hs0 : Heap.SameBut z hp g0 := hs0
    refine wpAny_bind ?_
    simp only [List.zipIdx_cons, List.zipIdx_nil, List.forIn_cons, List.forIn_nil]
    refine wpAny_bind (wpAny_bind (wpAny_onRaise ?_))
    show wpAny _ _ (Builtin.SmallTypes.nextOf (.ref i1) >>= _) _ _ ⟨g0, g, d, tk0, os⟩
    by_cases hlt1 : i < n1
    · refine wpAny_bind (D1.item i _ _ _ hlt1 (D1.over st1 hs0 S.zf1) fun x1 p1 tk1 hx1 sn1 hp1 => wpAny_pure ?_)
      replace hp1 : Heap.SameBut i1 g0 p1 := hp1
      have hU1 : IsTupOf2 p1 TO a1 a2 := hp1.extBut _ _ S.Ti1 (hs0.extBut _ _ S.TOz hTO)
      refine wpAny_bind (wpAny_seqItems (s := ⟨p1, g, d, tk1, os⟩) hU1 rfl ?_)
      refine wpAny_bind (updateSeq_IsTupOf2 (s := ⟨p1, g, d, tk1, os⟩) hU1 fun g1 hT1 hs1 => ?_)
      replace hT1 : IsTupOf2 g1 TO x1 a2 := hT1
      replace hs1 : Heap.SameBut TO p1 g1 := hs1
      refine wpAny_bind (wpAny_letGo (wpAny_pure ?_))
      have hi2 : i = n2 := by omega
      refine wpAny_bind (wpAny_bind (wpAny_onRaise ?_))
      show wpAny _ _ (Builtin.SmallTypes.nextOf (.ref i2) >>= _) _ _ ⟨g1, g, d, tk1, os⟩
      refine wpAny_bind (D2.done ⟨g1, g, d, tk1, os⟩ _ _ (by rw [← hi2]; exact (D2.over (D2.over (D2.over st2 hs0 S.zf2) hp1 S.sep1_2) hs1 S.Tf2)) fun q e hq he => ?_)
      replace hq : Heap.ExtBut i2 g1 q := hq
      obtain ⟨oe, hoe, hce⟩ := he
      replace hoe : q.get? e = some oe := hoe
      have hzq : IsZipF q z TI TO .ellipsis f := hq _ _ S.zi2 (hs1.extBut _ _ S.TOz.symm (hp1.extBut _ _ S.zi1 hz0))
      have hez : e ≠ z := fun x => by subst x; rw [hzq] at hoe; cases hoe; simp at hce
      refine wpAny_setField_rec (s := ⟨q, g, d, tk1, os⟩) hzq (by simp) fun q' _ hq' => ?_
      replace hq' : Heap.SameBut z q q' := hq'
      exact hE q' tk1 e (fun c o cz cT c1 c2 x => hq'.extBut _ _ cz (hq _ _ c2 (hs1.extBut _ _ cT (hp1.extBut _ _ c1 (hs0.extBut _ _ cz x))))) ⟨oe, hq'.extBut _ _ hez hoe, hce⟩
    · have hi1 : i = n1 := by omega
      refine wpAny_bind (D1.done ⟨g0, g, d, tk0, os⟩ _ _ (by rw [← hi1]; exact (D1.over st1 hs0 S.zf1)) fun q e hq he => ?_)
      replace hq : Heap.ExtBut i1 g0 q := hq
      obtain ⟨oe, hoe, hce⟩ := he
      replace hoe : q.get? e = some oe := hoe
      have hzq : IsZipF q z TI TO .ellipsis f := hq _ _ S.zi1 hz0
      have hez : e ≠ z := fun x => by subst x; rw [hzq] at hoe; cases hoe; simp at hce
      refine wpAny_setField_rec (s := ⟨q, g, d, tk0, os⟩) hzq (by simp) fun q' _ hq' => ?_
      replace hq' : Heap.SameBut z q q' := hq'
      exact hE q' tk0 e (fun c o cz cT c1 c2 x => hq'.extBut _ _ cz (hq _ _ c1 (hs0.extBut _ _ cz x))) ⟨oe, hq'.extBut _ _ hez hoe, hce⟩
  · replace hs₁ : Heap.SameBut z hp h₁ := hs₁
    simp only [Bool.false_eq_true, if_false]
    refine wpAny_bind ?_
    rw [← Array.forIn_toList]
    simp only [List.forIn_cons, List.forIn_nil]
    refine wpAny_bind (wpAny_bind (wpAny_holding ?_))
    show wpAny _ _ (Builtin.SmallTypes.nextOf (.ref i1) >>= _) _ _ ⟨h₁, g, d, tk0, os⟩
    by_cases hlt1 : i < n1
    · have hi2 : i = n2 := by omega
      refine wpAny_bind (D1.item i _ _ _ hlt1 (D1.over st1 hs₁ S.zf1) fun x1 h₂ tk1 hx1 sn1 hp1 => wpAny_pure ?_)
      replace hp1 : Heap.SameBut i1 h₁ h₂ := hp1
      refine wpAny_pure ?_
      refine wpAny_bind (wpAny_bind (wpAny_holding ?_))
      show wpAny _ _ (Builtin.SmallTypes.nextOf (.ref i2) >>= _) _ _ ⟨h₂, g, d, tk1, os⟩
      refine wpAny_bind (D2.done ⟨h₂, g, d, tk1, os⟩ _ _ (by rw [← hi2]; exact D2.over (D2.over st2 hs₁ S.zf2) hp1 S.sep1_2) fun q e hq he => ?_)
      replace hq : Heap.ExtBut i2 h₂ q := hq
      exact hE q tk1 e (fun c o cz cT c1 c2 x => hq _ _ c2 (hp1.extBut _ _ c1 (hs₁.extBut _ _ cz x))) he
    · have hi1 : i = n1 := by omega
      refine wpAny_bind (D1.done ⟨h₁, g, d, tk0, os⟩ _ _ (by rw [← hi1]; exact D1.over st1 hs₁ S.zf1) fun q e hq he => ?_)
      replace hq : Heap.ExtBut i1 h₁ q := hq
      exact hE q tk0 e (fun c o cz cT c1 c2 x => hq _ _ c1 (hs₁.extBut _ _ cz x)) he
/-- enumerate over an iterator whose next makes new cells -/
theorem enumAny_next_item {e it : Addr} {c : Int} {old : Value} {R : Value → Heap → Prop} {Q : Value → Shared → Prop} (he : IsEnum s.heap e it c old)
    (hN : wpAny (model prog w) A (Builtin.SmallTypes.nextOf (.ref it)) (fun x s1 => ∃ h1 tk, s1 = { s with heap := h1, toks := tk } ∧ IsEnum h1 e it c old ∧ R x h1) E s)
    (hQ : ∀ x h1 tk h', R x h1 → IsEnumOut h' e it (c + 1) x h1.objs.size → h'.get? h1.objs.size = some { cls := .type "tuple", data := .seq #[.int c tk, x] } → h'.objs.size = h1.objs.size + 1 → e < h1.objs.size →
      (∀ b o, b ≠ e → h1.get? b = some o → h'.get? b = some o) → Q (.ref h1.objs.size) { s with heap := h', toks := tk + 1 }) :
    wpAny (model prog w) A (Builtin.«enumerate.__next__» ⟨[.ref e], []⟩) (fun fin s' => ∃ v, fin = .done (.ret v) ∧ Q v s') E s := by
  obtain ⟨hp, g, d, tk₀, os⟩ := s
  show wpAny _ _ (field (.ref e) 2 >>= _) _ _ _
  refine wpAny_bind (wpAny_field he rfl (x := .ref it) rfl ?_)
  refine wpAny_bind (thn hN fun x s1 ⟨h₁, tk, es, he₁, hR⟩ => ?_)
  subst es
  show wpAny _ _ (field (.ref e) 3 >>= _) _ _ ⟨h₁, g, d, tk, os⟩
  refine wpAny_bind (wpAny_field he₁ rfl (x := rawInt c) rfl ?_)
  show wpAny _ _ (field (.ref e) 4 >>= _) _ _ ⟨h₁, g, d, tk, os⟩
  refine wpAny_bind (wpAny_field he₁ rfl (x := .none) rfl ?_)
  show wpAny _ _ (mkInt c >>= _) _ _ ⟨h₁, g, d, tk, os⟩
  refine wpAny_bind (wpAny_mkInt ?_)
  show wpAny _ _ (setField (.ref e) 3 (rawInt (c + 1)) >>= _) _ _ ⟨h₁, g, d, tk + 1, os⟩
  refine wpAny_bind (wpAny_setField_rec he₁ (by simp) fun h₂ he₂ hs₂ => ?_)
  replace hs₂ : Heap.SameBut e h₁ h₂ := hs₂
  replace he₂ : IsEnum h₂ e it (c + 1) old := he₂
  show wpAny _ _ (setField (.ref e) 4 .none >>= _) _ _ ⟨h₂, g, d, tk + 1, os⟩
  refine wpAny_bind (wpAny_setField_rec he₂ (by simp) fun h₃ he₃ hs₃ => ?_)
  replace hs₃ : Heap.SameBut e h₂ h₃ := hs₃
  replace he₃ : IsEnum h₃ e it (c + 1) old := he₃
  show wpAny _ _ (newTuple [.int c tk, x] >>= _) _ _ ⟨h₃, g, d, tk + 1, os⟩
  refine wpAny_bind (wpAny_newTuple ?_)
  have he₄ : IsEnum (h₃.push { cls := .type "tuple", data := .seq #[.int c tk, x] }) e it (c + 1) old := Heap.get?_push_of_some _ he₃
  generalize hh₄ : h₃.push { cls := .type "tuple", data := .seq #[.int c tk, x] } = h₄ at he₄
  have hsz : h₃.objs.size = h₁.objs.size := by rw [hs₃.1, hs₂.1]
  have hel : e < h₁.objs.size := Heap.lt_size he₁
  have ht₄ : h₄.get? h₁.objs.size = some { cls := .type "tuple", data := .seq #[.int c tk, x] } := by rw [← hh₄, ← hsz]; exact Heap.get?_push_size _ rfl
  have hz₄ : h₄.objs.size = h₁.objs.size + 1 := by rw [← hh₄, Heap.size_push, hsz]
  have hk₄ : ∀ b o, b ≠ e → h₁.get? b = some o → h₄.get? b = some o := fun b o hbe hb => by
    rw [← hh₄]; exact Heap.get?_push_of_some _ (hs₃.extBut b o hbe (hs₂.extBut b o hbe hb))
  show wpAny _ _ (Builtin.SmallTypes.ownedTupleIsFree (.ref e) >>= _) _ _ ⟨h₄, g, d, tk + 1, os⟩
  rw [hsz]
  clear hh₄ he₃ hs₃ he₂ hs₂ hsz h₃ h₂
  refine wpAny_bind ?_
  · unfold Builtin.SmallTypes.ownedTupleIsFree
    refine wpAny_bind (wpAny_field he₄ rfl (x := .none) rfl (wpAny_pure ?_))
    simp only [if_true]
    refine wpAny_bind (wpAny_rule ?_)
    refine wpAny_bind (wpAny_field he₄ rfl (x := old) rfl ?_)
    refine wpAny_bind (wpAny_setField_rec he₄ (by simp) fun h₅ he₅ hs₅ => ?_)
    replace hs₅ : Heap.SameBut e h₄ h₅ := hs₅
    replace he₅ : IsEnum h₅ e it (c + 1) x := he₅
    show wpAny _ _ (Builtin.SmallTypes.ownedTupleHandOut (.ref e) (.ref h₁.objs.size) >>= _) _ _ ⟨h₅, g, d, tk + 1, os⟩
    refine wpAny_bind ?_
    · unfold Builtin.SmallTypes.ownedTupleHandOut
      refine wpAny_bind (wpAny_setField_rec he₅ (by simp) fun h₆ he₆ hs₆ => ?_)
      replace hs₆ : Heap.SameBut e h₅ h₆ := hs₆
      replace he₆ : IsEnumOut h₆ e it (c + 1) x h₁.objs.size := he₆
      refine wpAny_setField_rec he₆ (by simp) fun h₇ he₇ hs₇ => ?_
      replace hs₇ : Heap.SameBut e h₆ h₇ := hs₇
      replace he₇ : IsEnumOut h₇ e it (c + 1) x h₁.objs.size := he₇
      refine wpAny_bind (wpAny_letGo (wpAny_pure ⟨_, rfl, hQ x h₁ tk h₇ hR he₇ ?_ ?_ hel ?_⟩))
      · exact hs₇.extBut _ _ (Nat.ne_of_gt hel) (hs₆.extBut _ _ (Nat.ne_of_gt hel) (hs₅.extBut _ _ (Nat.ne_of_gt hel) ht₄))
      · rw [hs₇.1, hs₆.1, hs₅.1, hz₄]
      · exact fun b o hbe hb => hs₇.extBut b o hbe (hs₆.extBut b o hbe (hs₅.extBut b o hbe (hk₄ b o hbe hb)))
end
end PF

namespace PF
open PySem PySem.Spec PyProof.Rows L2
open Sem (wp)
open AutoSeq1 (wpAny_loadPart')
theorem meets_enumerate_newZ (z TI TO : Addr) :
    Meets (Builtin.«enumerate.__new__» ⟨[.type "enumerate", .ref z], []⟩) (fun _ R s => IsZip s.heap z TI TO .none ∧
      R (.ok (.ret (.ref s.heap.objs.size))) { s with heap := s.heap.push { cls := .type "enumerate", data := .fields #[.none, .bool false, .ref z, rawInt 0, .none, .none] } }) :=
  .of_wp fun prog w A R s h => by
    obtain ⟨hp, g, d, tk, os⟩ := s; obtain ⟨hl, h⟩ := h
    have hsub := sub_enumerate
    have hL : IsZip (Shared.heap ⟨hp, g, d, tk, os⟩) z TI TO .none := hl
    wp_walk using wpAny_loadPart' hl
    refine wpAny_stack_any fun st => wpAny_pure ?_
    split
    · rename_i c _ _ _ _ _
      cases (c == Value.type "enumerate")
      · wp_walk using wpAny_loadPart' hl, wpAny_pyIter_zip hL
        exact ⟨_, rfl, h⟩
      · wp_walk using wpAny_loadPart' hl, wpAny_pyIter_zip hL
        exact ⟨_, rfl, h⟩
    · wp_walk using wpAny_loadPart' hl, wpAny_pyIter_zip hL
      exact ⟨_, rfl, h⟩
section
variable {prog : Program} {w : World} {A : Around} {E : Value → Shared → Prop} {s : Shared}
theorem call_enumerate_zip {z TI TO : Addr} {Q : Value → Shared → Prop} (hz : IsZip s.heap z TI TO .none)
    (h : ∀ h', IsEnum h' s.heap.objs.size z 0 .none → h'.objs.size = s.heap.objs.size + 1 → (∀ b o, s.heap.get? b = some o → h'.get? b = some o) → Q (.ref s.heap.objs.size) { s with heap := h' }) :
    wpAny (model prog w) A (call (.type "enumerate") [.ref z]) Q E s := by
  refine callType_new F.called_enumerate (by decide) (F.typeCall_enumerate_1 _) (F.newCall_enumerate_1 _) (fun obj => F.args_object_init_2 obj _) F.entry_enumerate_new
    (meets_enumerate_newZ z TI TO) ⟨hz, ?_⟩
  have he : IsEnum (s.heap.push { cls := .type "enumerate", data := .fields #[.none, .bool false, .ref z, rawInt 0, .none, .none] }) s.heap.objs.size z 0 .none := Heap.get?_push_size _ rfl
  show _ ∧ _
  exact ⟨⟨_, he, rfl⟩, h _ he (Heap.size_push ..) fun b o x => Heap.get?_push_of_some _ x⟩
end
end PF

namespace PF
open PySem PySem.Spec PyProof.Rows L2
section
variable {prog : Program} {w : World} {A : Around} {E : Value → Shared → Prop} {s : Shared} {z TI TO i1 i2 : Addr} {fp1 fp2 : List Addr} {n1 n2 i : Nat} {P1 P2 : Nat → Value → Prop} {St1 St2 : Nat → Heap → Prop} {a1 a2 : Value}
theorem nextOf_zipAny_item {Q : Value → Shared → Prop} (S : ZipSep2 z TI TO i1 i2 fp1 fp2) (D1 : Draws prog w A.in1 i1 fp1 n1 P1 St1) (D2 : Draws prog w A.in1 i2 fp2 n2 P2 St2)
    (hz : ZipAny s.heap z TI TO) (hTI : IsTupOf2 s.heap TI (.ref i1) (.ref i2)) (hTO : IsTupOf2 s.heap TO a1 a2) (st1 : St1 i s.heap) (st2 : St2 i s.heap) (hlt1 : i < n1) (hlt2 : i < n2)
    (hQ : ∀ x1 x2 h' tk, P1 i x1 → P2 i x2 → ZipAny h' z TI TO → (∃ b1 b2, IsTupOf2 h' TO b1 b2) → St1 (i + 1) h' → St2 (i + 1) h' → IsTupOf2 h' s.heap.objs.size x1 x2 → h'.objs.size = s.heap.objs.size + 1 →
      (∀ c o, c ≠ z → c ≠ TO → c ≠ i1 → c ≠ i2 → s.heap.get? c = some o → h'.get? c = some o) → Q (.ref s.heap.objs.size) { s with heap := h', toks := tk }) :
    wpAny (model prog w) A (Builtin.SmallTypes.nextOf (.ref z)) Q E s := by
  have hT : s.TypeIs (.ref z) "zip" := by
    obtain ⟨_, _, _, hz⟩ := hz
    exact ⟨_, hz, rfl⟩
  unfold Builtin.SmallTypes.nextOf
  exact wpAny_bind (wpAny_callSpecial?_slot (name := Str.ofString "__next__") hT F.slot_zip_next
    (wpAny_call_entry F.slot_zip_next hT F.entry_zip_next
      (zipAny_next_item S D1 D2 hz hTI hTO st1 st2 hlt1 hlt2 fun x1 x2 h' tk y1 y2 b1 b2 d1 d2 b5 b6 b7 => wpAny_pure (hQ x1 x2 h' tk y1 y2 b1 b2 d1 d2 b5 b6 b7)) (F.args_zip_next_1 _)))
theorem nextOf_zipAny_end {Q : Value → Shared → Prop} (S : ZipSep2 z TI TO i1 i2 fp1 fp2) (D1 : Draws prog w A.in1 i1 fp1 n1 P1 St1) (D2 : Draws prog w A.in1 i2 fp2 n2 P2 St2)
    (hz : ZipAny s.heap z TI TO) (hTI : IsTupOf2 s.heap TI (.ref i1) (.ref i2)) (hTO : IsTupOf2 s.heap TO a1 a2) (st1 : St1 i s.heap) (st2 : St2 i s.heap) (hle1 : i ≤ n1) (hle2 : i ≤ n2) (hend : i = n1 ∨ i = n2)
    (hE : ∀ h' tk e, (∀ c o, c ≠ z → c ≠ TO → c ≠ i1 → c ≠ i2 → s.heap.get? c = some o → h'.get? c = some o) → (∃ o, h'.get? e = some o ∧ o.cls = .type "StopIteration") → E (.ref e) { s with heap := h', toks := tk }) :
    wpAny (model prog w) A (Builtin.SmallTypes.nextOf (.ref z)) Q E s := by
  have hT : s.TypeIs (.ref z) "zip" := by
    obtain ⟨_, _, _, hz⟩ := hz
    exact ⟨_, hz, rfl⟩
  unfold Builtin.SmallTypes.nextOf
  exact wpAny_bind (wpAny_callSpecial?_slot (name := Str.ofString "__next__") hT F.slot_zip_next
    (wpAny_call_entry F.slot_zip_next hT F.entry_zip_next (zipAny_next_end S D1 D2 hz hTI hTO st1 st2 hle1 hle2 hend hE) (F.args_zip_next_1 _)))
theorem pyNext_enumAny_item {e it : Addr} {c : Int} {old : Value} {R : Value → Heap → Prop} {Q : Option Value → Shared → Prop} (he : IsEnum s.heap e it c old)
    (hN : ∀ E, wpAny (model prog w) A.in1 (Builtin.SmallTypes.nextOf (.ref it)) (fun x s1 => ∃ h1 tk, s1 = { s with heap := h1, toks := tk } ∧ IsEnum h1 e it c old ∧ R x h1) E s)
    (hQ : ∀ x h1 tk h', R x h1 → IsEnumOut h' e it (c + 1) x h1.objs.size → h'.get? h1.objs.size = some { cls := .type "tuple", data := .seq #[.int c tk, x] } → h'.objs.size = h1.objs.size + 1 → e < h1.objs.size →
      (∀ b o, b ≠ e → h1.get? b = some o → h'.get? b = some o) → Q (some (.ref h1.objs.size)) { s with heap := h', toks := tk + 1 }) :
    wpAny (model prog w) A (pyNext (.ref e)) Q E s := by
  have hT : s.TypeIs (.ref e) "enumerate" := ⟨_, he, rfl⟩
  unfold pyNext
  exact wpAny_bind (wpAny_attempt (wpAny_callSpecial?_slot (name := Str.ofString "__next__") hT F.slot_enumerate_next
    (wpAny_call_entry F.slot_enumerate_next hT F.entry_enumerate_next
      (enumAny_next_item he (hN _) fun x h1 tk h' a b c d k q => wpAny_pure (hQ x h1 tk h' a b c d k q)) (F.args_enumerate_next_1 _))))
theorem pyNext_enumAny_end {e it : Addr} {c : Int} {old : Value} {Q : Option Value → Shared → Prop} (he : IsEnum s.heap e it c old)
    (hN : ∀ (Q' : Value → Shared → Prop) (E' : Value → Shared → Prop), (∀ h' tk e, (∃ o, h'.get? e = some o ∧ o.cls = .type "StopIteration") → Q none { s with heap := h', toks := tk } → E' (.ref e) { s with heap := h', toks := tk }) → wpAny (model prog w) A.in1 (Builtin.SmallTypes.nextOf (.ref it)) Q' E' s) :
    wpAny (model prog w) A (pyNext (.ref e)) Q E s := by
  have hT : s.TypeIs (.ref e) "enumerate" := ⟨_, he, rfl⟩
  unfold pyNext
  refine wpAny_bind (wpAny_attempt (wpAny_callSpecial?_slot (name := Str.ofString "__next__") hT F.slot_enumerate_next
    (wpAny_call_entry F.slot_enumerate_next hT F.entry_enumerate_next ?_ (F.args_enumerate_next_1 _))))
  show wpAny _ _ (field (.ref e) 2 >>= _) _ _ _
  refine wpAny_bind (wpAny_field he rfl (x := .ref it) rfl ?_)
  refine wpAny_bind (hN _ _ fun h' tk x hx hq => ?_)
  obtain ⟨o, ho, hc⟩ := hx
  refine wpAny_bind (wpAny_isInstance (T := "StopIteration") (b := true) ⟨o, ho, hc⟩ isSubtype_stop ?_)
  exact wpAny_pure hq
end
/-- enumerate over zip over two sources, N turns -/
def ItZ (K : PySem.W.Frag) (q1 q2 : Src) (N : Nat) : It :=
  ⟨fun i H => i < N ∧ ∃ xs ys, srcV K H q1 xs ∧ srcV K H q2 ys ∧ N = min xs.length ys.length,
    fun i H v H' => ∃ T1 T2 x y, v = .ref T2 ∧ H T1 = none ∧ upd H T1 (.tup [x, y]) T2 = none ∧ H' = upd (upd H T1 (.tup [x, y])) T2 (.tup [.int (i : Nat), .ref T1]) ∧ (∀ xs, srcV K H q1 xs → xs[i]? = some x) ∧ ∀ ys, srcV K H q2 ys → ys[i]? = some y,
    fun i H => N ≤ i ∧ ∃ xs ys, srcV K H q1 xs ∧ srcV K H q2 ys ∧ N = min xs.length ys.length⟩
theorem ZipAny.keep {h h' : Heap} {z TI TO : Addr} (k : ZipAny h z TI TO) (hk : ∀ o, h.get? z = some o → h'.get? z = some o) : ZipAny h' z TI TO := by
  obtain ⟨v, f, hv, hz⟩ := k
  exact ⟨v, f, hv, hk _ hz⟩
theorem turn_enumZ {P : Program} {w : World} {K : PySem.W.Frag} {elts : List Expr} {kk : Nat} {tpos : Pos} {q1 q2 : Src} {e z TI TO i1 i2 : Addr} {N : Nat} (S : ZipSep2 z TI TO i1 i2 (i1 :: srcA q1) (i2 :: srcA q2)) (n1 : ∀ b ∈ srcA q1, b ≠ i1) (n2 : ∀ b ∈ srcA q2, b ≠ i2) (ne : e ≠ z ∧ e ≠ TO ∧ e ≠ i1 ∧ e ≠ i2 ∧ e ≠ TI) (ns1 : e ∉ srcA q1) (ns2 : e ∉ srcA q2) :
    Turn P w K (.Tuple elts kk tpos) (ItZ K q1 q2 N) [e, z, TI, TO, i1, i2] e (fun i h => i ≤ N ∧ (∃ old, IsEnum h e z (i : Nat) old) ∧ ZipAny h z TI TO ∧ IsTupOf2 h TI (.ref i1) (.ref i2) ∧ (∃ x y, IsTupOf2 h TO x y) ∧ srcSt i1 i h q1 ∧ srcSt i2 i h q2) where
  mem := by simp
  obj := fun i h st c hc => by
    obtain ⟨_, ⟨old, he⟩, ⟨v, f, hv, hz⟩, hTI, ⟨x, y, hTO⟩, h1, h2⟩ := st
    have e' : c = e ∨ c = z ∨ c = TI ∨ c = TO ∨ c = i1 ∨ c = i2 := by simpa using hc
    rcases e' with q | q | q | q | q | q
    · rw [q]; exact ⟨_, he, fun v q => nomatch q⟩
    · rw [q]; exact ⟨_, hz, fun v q => nomatch q⟩
    · rw [q]; exact ⟨_, hTI, fun v q => nomatch q⟩
    · rw [q]; exact ⟨_, hTO, fun v q => nomatch q⟩
    · rw [q]; exact srcSt_obj h1
    · rw [q]; exact srcSt_obj h2
  keep := fun i h h' st k => by
    obtain ⟨hN, ⟨old, he⟩, hz, hTI, ⟨x, y, hTO⟩, h1, h2⟩ := st
    exact ⟨hN, ⟨old, k e (by simp) _ he⟩, hz.keep fun o q => k z (by simp) o q, k TI (by simp) _ hTI, ⟨x, y, k TO (by simp) _ hTO⟩, srcSt_keep (fun o q => k i1 (by simp) o q) h1, srcSt_keep (fun o q => k i2 (by simp) o q) h2⟩
  item := by
    intro X hP hw hK hc i pins s σ H E I hf st hg
    subst hP hw hK
    obtain ⟨hN, ⟨old, he⟩, hz, hTI, ⟨x0, y0, hTO⟩, h1, h2⟩ := st
    obtain ⟨hlt, xs, ys, hx, hy, hn⟩ := hg
    obtain ⟨P1, St1, D1, a1, b1, c1⟩ := src_draws (A := X.A.in1.in1) (I.ok.hd hc) I n1 hx
    obtain ⟨P2, St2, D2, a2, b2, c2⟩ := src_draws (A := X.A.in1.in1) (I.ok.hd hc) I n2 hy
    refine pyNext_enumAny_item (c := (i : Nat)) (old := old) (R := fun v h1 => v = .ref s.heap.objs.size ∧ h1.objs.size = s.heap.objs.size + 1 ∧ (∃ x1 x2, P1 i x1 ∧ P2 i x2 ∧ IsTupOf2 h1 s.heap.objs.size x1 x2) ∧ ZipAny h1 z TI TO ∧ (∃ b1 b2, IsTupOf2 h1 TO b1 b2) ∧ srcSt i1 (i + 1) h1 q1 ∧ srcSt i2 (i + 1) h1 q2 ∧
      (∀ c o, c ≠ z → c ≠ TO → c ≠ i1 → c ≠ i2 → s.heap.get? c = some o → h1.get? c = some o)) he (fun E => ?_) fun v h1' tk h' hR hOut hT2 hsz hel hk => ?_
    · refine nextOf_zipAny_item S D1 D2 hz hTI hTO (a1 i h1) (a2 i h2) (by omega) (by omega) fun x1 x2 h' tk p1 p2 z1 z2 s1 s2 t1 t2 k => ?_
      exact ⟨h', tk, rfl, k e _ ne.1 ne.2.1 ne.2.2.1 ne.2.2.2.1 he, rfl, t2, ⟨x1, x2, p1, p2, t1⟩, z1, z2, b1 _ _ s1, b2 _ _ s2, k⟩
    · obtain ⟨rfl, sz1, ⟨u1, u2, p1, p2, hT1⟩, z1, ⟨o1, o2, zTO⟩, t1, t2, k1⟩ := hR
      refine ⟨.ref h1'.objs.size, rfl, wpAny_letOwnedTupleGo_enum hOut fun h'' he'' hs'' => ?_⟩
      replace hs'' : Heap.SameBut e h' h'' := hs''
      obtain ⟨x, gx, rx⟩ := c1 i u1 p1
      obtain ⟨y, gy, ry⟩ := c2 i u2 p2
      have kk2 : ∀ b o, b ≠ e → h1'.get? b = some o → h''.get? b = some o := fun b o hb q => hs''.extBut _ _ hb (hk b o hb q)
      -- the inner tuple
      have new1 : ObjOk X.prog X.w (upd H s.heap.objs.size (.tup [x, y])) h1' s.heap.objs.size (.tup [x, y]) := ⟨by show 2 ≤ sizeLine; decide, [u1, u2], .cons rx (.cons ry .nil), ⟨_, hT1, rfl, _, rfl⟩⟩
      have I1 : Inv X pins σ (upd H s.heap.objs.size (.tup [x, y])) { s with heap := h1', toks := tk } := I.turnedNew (t' := tk) (fun b o hb q => k1 b o (fun m => hb (by simp [m])) (fun m => hb (by simp [m])) (fun m => hb (by simp [m])) (fun m => hb (by simp [m])) q) hf (Nat.le_refl _) new1
      have hlt2 : ∀ c ∈ [e, z, TI, TO, i1, i2], c < s.heap.objs.size := fun c hcm => by
        have e' : c = e ∨ c = z ∨ c = TI ∨ c = TO ∨ c = i1 ∨ c = i2 := by simpa using hcm
        rcases e' with q | q | q | q | q | q
        · rw [q]; exact Heap.lt_size he
        · rw [q]; obtain ⟨_, _, _, hz⟩ := hz; exact Heap.lt_size hz
        · rw [q]; exact Heap.lt_size hTI
        · rw [q]; exact Heap.lt_size hTO
        · rw [q]; obtain ⟨_, e1, _⟩ := srcSt_obj h1; exact Heap.lt_size e1
        · rw [q]; obtain ⟨_, e2, _⟩ := srcSt_obj h2; exact Heap.lt_size e2
      have hf1 : ∀ b ∈ [e, z, TI, TO, i1, i2], FpOk X pins (upd H s.heap.objs.size (.tup [x, y])) b := fun b hb => by
        obtain ⟨f1, f2⟩ := hf b hb
        exact ⟨by rw [upd_ne (Nat.ne_of_lt (hlt2 b hb))]; exact f1, f2⟩
      have hne2 : s.heap.objs.size ≠ e := Nat.ne_of_gt (hlt2 e (by simp))
      have hT2' : h''.get? h1'.objs.size = some { cls := .type "tuple", data := .seq #[.int (i : Nat) tk, .ref s.heap.objs.size] } := hs''.extBut _ _ (Nat.ne_of_gt hel) hT2
      have new2 : ObjOk X.prog X.w (upd (upd H s.heap.objs.size (.tup [x, y])) h1'.objs.size (.tup [.int (i : Nat), .ref s.heap.objs.size])) h'' h1'.objs.size (.tup [.int (i : Nat), .ref s.heap.objs.size]) :=
        ⟨by show 2 ≤ sizeLine; decide, [.int (i : Nat) tk, .ref s.heap.objs.size], .cons ⟨tk, rfl⟩ (.cons rfl .nil), ⟨_, hT2', rfl, _, rfl⟩⟩
      have I2 : Inv X pins σ (upd (upd H s.heap.objs.size (.tup [x, y])) h1'.objs.size (.tup [.int (i : Nat), .ref s.heap.objs.size])) { s with heap := h'', toks := tk + 1 } := I1.turnedNew (t' := tk + 1) (ch := [e, z, TI, TO, i1, i2]) (fun b o hb q => kk2 b o (fun m => hb (by simp [m])) q) hf1 (Nat.le_refl _) new2
      refine ⟨.ref h1'.objs.size, _, I2, rfl, ⟨s.heap.objs.size, h1'.objs.size, x, y, rfl, I.hok.fresh (Nat.le_refl _), I1.hok.fresh (Nat.le_refl _), rfl, fun l hl => by rw [src_inj I hl hx]; exact gx, fun l hl => by rw [src_inj I hl hy]; exact gy⟩,
        ⟨hlt, ⟨_, he''⟩, z1.keep fun o q => kk2 z o ne.1.symm q, kk2 _ _ ne.2.2.2.2.symm (k1 TI _ S.TIz S.TITO S.TIi1 S.TIi2 hTI), ⟨_, _, kk2 _ _ ne.2.1.symm zTO⟩, srcSt_keep (fun o q => kk2 _ o ne.2.2.1.symm q) t1, srcSt_keep (fun o q => kk2 _ o ne.2.2.2.1.symm q) t2⟩, fun c hcm => ?_⟩
      have hc2 := hlt2 c hcm
      rw [upd_ne (Nat.ne_of_lt (by rw [sz1]; exact Nat.lt_succ_of_lt hc2)), upd_ne (Nat.ne_of_lt hc2)]
      exact (hf c hcm).1
  done := by
    intro X hP hw hK hc i pins s σ H E I hf st hg
    subst hP hw hK
    obtain ⟨hN, ⟨old, he⟩, hz, hTI, ⟨x0, y0, hTO⟩, h1, h2⟩ := st
    obtain ⟨hge, xs, ys, hx, hy, hn⟩ := hg
    obtain ⟨P1, St1, D1, a1, b1, c1⟩ := src_draws (A := X.A.in1.in1) (I.ok.hd hc) I n1 hx
    obtain ⟨P2, St2, D2, a2, b2, c2⟩ := src_draws (A := X.A.in1.in1) (I.ok.hd hc) I n2 hy
    refine pyNext_enumAny_end he fun Q' E' hE => ?_
    refine nextOf_zipAny_end S D1 D2 hz hTI hTO (a1 i h1) (a2 i h2) (by omega) (by omega) (by omega) fun h' tk ex hk hx => hE h' tk ex hx ⟨rfl, I.turnedL (t' := tk) (ch := [e, z, TI, TO, i1, i2]) (fun c o hb q => hk c o (fun m => hb (by simp [m])) (fun m => hb (by simp [m])) (fun m => hb (by simp [m])) (fun m => hb (by simp [m])) q) hf⟩
  self := fun A i s Q E st h => by
    obtain ⟨old, he⟩ := st.2.1
    exact wpAny_pyIter_enum he h
end PF

namespace PF
open PySem PySem.Spec PyProof.Rows L2
def iEnumZ (K : PySem.W.Frag) (ta : TA) : TI := fun σ H R => ta σ H fun vs H1 => ∃ a b xs ys q1 q2, vs = [.ref a, .ref b] ∧ (q1 = .l a ∨ q1 = .t a) ∧ (q2 = .l b ∨ q2 = .t b) ∧ srcV K H1 q1 xs ∧ srcV K H1 q2 ys ∧ R (ItZ K q1 q2 (min xs.length ys.length)) H1
theorem pi_enumZ {X : Cx} {e e2 : Expr} {ta : TA} {p p2 pos pos2 tpos : Pos} {elts : List Expr} {kk : Nat} (hge : Gl X "enumerate") (hme : X.mg "enumerate" = none) (hg : Gl X "zip") (hm : X.mg "zip" = none) (ha : PA X [e, e2] ta)
    (hs : starEach [e, e2] X.env = (false, eval e X.env) :: starEach [e2] X.env := by rfl) (hpl : (backTo pos2 (starEach [e2] X.env)).any (·.1) = false := by rfl)
    (hz : starEach [.Call (.Name "zip" p2) [e, e2] [] pos2] X.env = (false, eval (.Call (.Name "zip" p2) [e, e2] [] pos2) X.env) :: starEach [] X.env := by rfl) (hpl2 : (backTo pos (starEach [] X.env)).any (·.1) = false := by rfl) :
    PI X (.Tuple elts kk tpos) (.Call (.Name "enumerate" p) [.Call (.Name "zip" p2) [e, e2] [] pos2] [] pos) (iEnumZ X.K ta) := by
  refine ⟨fun pins s σ H R I h => ?_⟩
  refine Call_ (ld_blt I hge hme boot_enumerate (PyProof.Rows.callWith_type1 ?_ hz hpl2))
  refine PyProof.Rows.args_cons ?_ hz
  refine Call_ (ld_blt I hg hm PyProof.Rows.boot_zip (PyProof.Rows.callWith_type1 (thn (ha.run pos2 pins s σ H _ I h) fun us s1 ⟨vs, H1, I1, r1, q1⟩ => ?_) hs hpl))
  obtain ⟨a, b, xs, ys, qa, qb, ex, ea, eb, hx, hy, q⟩ := q1
  subst ex
  obtain ⟨o1, B1, b1, c1, d1, f1⟩ := src_begins I1 ea hx
  obtain ⟨o2, B2, b2, c2, d2, f2⟩ := src_begins I1 eb hy
  cases r1 with
  | cons r rr =>
    cases rr with
    | cons r' rr =>
      cases rr
      cases r
      cases r'
      refine zip_begins2 b1 b2 c1 c2 fun h' hz' hTI hTO e1 e2 hsz hk => PyProof.Rows.args_nil ?_
      have I2 : Inv X pins σ H1 { s1 with heap := h' } := I1.kept (t' := s1.toks) hk
      refine call_enumerate_zip hz' fun h'' he hsz2 hk2 => wpAny_pyIter_enum he ?_
      have I3 : Inv X pins σ H1 { s1 with heap := h'' } := I2.kept (t' := s1.toks) hk2
      have he5 : h'.objs.size = s1.heap.objs.size + 5 := hsz
      have hfp : ∀ c ∈ [h'.objs.size, s1.heap.objs.size + 4, s1.heap.objs.size + 2, s1.heap.objs.size + 3, s1.heap.objs.size, s1.heap.objs.size + 1], FpOk X pins H1 c := fun c hcm => by
        have hle : s1.heap.objs.size ≤ c := by
          have e' : c = h'.objs.size ∨ c = s1.heap.objs.size + 4 ∨ c = s1.heap.objs.size + 2 ∨ c = s1.heap.objs.size + 3 ∨ c = s1.heap.objs.size ∨ c = s1.heap.objs.size + 1 := by simpa using hcm
          rcases e' with z | z | z | z | z | z <;> rw [z]
          · rw [he5]; exact Nat.le_add_right _ _
          · exact Nat.le_add_right _ _
          · exact Nat.le_add_right _ _
          · exact Nat.le_add_right _ _
          · exact Nat.le_refl _
          · exact Nat.le_add_right _ _
        exact I1.fpOk hle (I1.hok.fresh hle)
      have apart : ∀ k : Nat, k < 5 → h'.objs.size ≠ s1.heap.objs.size + k := fun k hk => by rw [he5]; omega
      have old : ∀ c : Addr, c < s1.heap.objs.size → h'.objs.size ≠ c := fun c hc => by rw [he5]; exact Nat.ne_of_gt (Nat.lt_of_lt_of_le hc (Nat.le_add_right _ _))
      refine ⟨h'.objs.size, _, _, _, H1, rfl, I3, turn_enumZ (N := min xs.length ys.length) (zip_sep2 f1 f2) (fun b hb => Nat.ne_of_lt (f1 b hb)) (fun b hb => Nat.ne_of_lt (Nat.lt_succ_of_lt (f2 b hb)))
        ⟨apart 4 (by omega), apart 3 (by omega), apart 0 (by omega), apart 1 (by omega), apart 2 (by omega)⟩ (fun hm => old _ (f1 _ hm) rfl) (fun hm => old _ (f2 _ hm) rfl),
        ⟨Nat.zero_le _, ⟨_, he⟩, ⟨.none, false, .inl rfl, hk2 _ _ hz'⟩, hk2 _ _ hTI, ⟨_, _, hk2 _ _ hTO⟩, d1 _ _ (hk2 _ _ e1), d2 _ _ (hk2 _ _ e2)⟩, hfp, q⟩
/-! ### as data -/
def mEnumZ (ms : M (List D)) : M (List D) := mbind ms fun ds => mopt ((zipS ds).map enumL)
@[simp] theorem ev_mEnumZ (ms : M (List D)) (ρ : Sl) (p : Pst) : mEnumZ ms ρ p = mbind ms (fun ds => mopt ((zipS ds).map enumL)) ρ p := by cases p; rfl
theorem im_enumZ {m : M (List D)} (h : IM m) : IM (mEnumZ m) := im_bind h fun _ => im_opt _
theorem iter_enumZ {K : PySem.W.Frag} {F : Hp} {g : Nat} {pa : Option Addr} {q1 q2 : Src} {vs ws : List V} {ds es : List D} (h : SrcF F q1 vs) (r : Reps K F g pa vs ds) (h' : SrcF F q2 ws) (r' : Reps K F g pa ws es) : IterOk K F g pa (ItZ K q1 q2 (min vs.length ws.length)) (enumL (zipL ds es)) := by
  intro i F1 H1 pa1 p1 fz gs1
  have h1 : srcV K H1 q1 vs := h.v fun a o e => gs1.sub _ _ (fz.sub _ _ e)
  have h2 : srcV K H1 q2 ws := h'.v fun a o e => gs1.sub _ _ (fz.sub _ _ e)
  have hl : (enumL (zipL ds es)).length = min vs.length ws.length := by simp only [enumL, List.length_mapIdx, zipL, List.length_zipWith]; rw [r.1, r'.1]
  refine ⟨fun hi => ⟨by omega, vs, ws, h1, h2, rfl⟩, fun z hz => ?_⟩
  have hlt : i < (enumL (zipL ds es)).length := (List.getElem?_eq_some_iff.mp hz).1
  unfold enumL at hz
  rw [List.getElem?_mapIdx] at hz
  cases qz : (zipL ds es)[i]? with
  | none => rw [qz] at hz; cases hz
  | some zz =>
    rw [qz] at hz
    cases hz
    obtain ⟨d, e, q1, q2, rfl⟩ := zipL_get qz
    obtain ⟨v, hv, rv⟩ := (r.mono fz).get q1
    obtain ⟨w, hw, rw'⟩ := (r'.mono fz).get q2
    refine ⟨⟨by omega, vs, ws, h1, h2, rfl⟩, fun x H' ⟨T1, T2, y1, y2, e1, e2, e3, e4, hx, hy⟩ => ?_⟩
    subst e1 e4
    have t1 := hx vs h1
    rw [hv] at t1
    cases t1
    have t2 := hy ws h2
    rw [hw] at t2
    cases t2
    obtain ⟨F2, gr2, gs2, r2⟩ := zip_item gs1 e2 rv rw'
    obtain ⟨F3, gr3, gs3, r3⟩ := zip_item gs2 e3 (.int (i : Nat)) r2
    exact ⟨F3, gr2.trans gr3, gs3, r3⟩
section
variable {X : Cx} {Wx : WX} {a b : Expr} {ms : M (List D)} {p p2 pos pos2 : Pos}
theorem pmi_enumZ {elts : List Expr} {kk : Nat} {tpos : Pos} (hge : Gl X "enumerate") (hme : X.mg "enumerate" = none) (hg : Gl X "zip") (hm : X.mg "zip" = none) (ha : PMa X Wx [a, b] ms)
    (hs : starEach [a, b] X.env = (false, eval a X.env) :: starEach [b] X.env := by rfl) (hpl : (backTo pos2 (starEach [b] X.env)).any (·.1) = false := by rfl)
    (hz : starEach [.Call (.Name "zip" p2) [a, b] [] pos2] X.env = (false, eval (.Call (.Name "zip" p2) [a, b] [] pos2) X.env) :: starEach [] X.env := by rfl) (hpl2 : (backTo pos (starEach [] X.env)).any (·.1) = false := by rfl) :
    PMi X Wx (.Tuple elts kk tpos) (.Call (.Name "enumerate" p) [.Call (.Name "zip" p2) [a, b] [] pos2] [] pos) (mEnumZ ms) := ⟨(pi_enumZ hge hme hg hm ha.pa hs hpl hz hpl2).imp fun σ H R ⟨F, pa, p, ρ, gs, s, o⟩ => by
  refine TMa.of gs s (o.bind.mono fun ds p1 F1 H1 pa1 gr1 gs1 o1 s1 vs rs => ?_)
  obtain ⟨z, ez, o2⟩ := o1.opt
  unfold zipS at ez
  split at ez <;> first | (cases ez; done) | skip
  rename_i d e
  cases q : sqD d with
  | none => rw [q] at ez; cases ez
  | some xs =>
    cases q2 : sqD e with
    | none => rw [q, q2] at ez; cases ez
    | some ys =>
      rw [q, q2] at ez
      cases ez
      obtain ⟨v, w, rfl, r1, r2⟩ := reps2 rs
      obtain ⟨a, s1, vs, rfl, ea, f1, hz, ra⟩ := sq_src (H := H1) (p := p1) r1 q
      obtain ⟨b, s2, ws, rfl, eb, f2, hz', rb⟩ := sq_src (H := H1) (p := p1) r2 q2
      exact ⟨a, b, vs, ws, s1, s2, rfl, ea, eb, f1.v gs1.sub, f2.v gs1.sub, o2.ret gs1 _ (iter_enumZ f1 ra f2 rb) (by
        have := zipL_len xs ys
        simp only [enumL, List.length_mapIdx]
        exact Nat.le_trans this hz)⟩⟩
end
end PF

namespace PF
open PySem PySem.Spec PyProof.Rows L2
/-! ### not in, in a tuple of any data -/
def rNotInT (K : PySem.W.Frag) : R2 := fun x y H Q => ∃ d ds, Dp K H x d ∧ Dp K H y (.tuple ds) ∧ SeqAt.shaped d = true ∧ SeqAt.shaped (.tuple ds) = true ∧ Q (.bl (!ds.any fun z => PyData.eqv z d)) H
section
variable {X : Cx} {Wx : WX} {a b : Expr} {ma mb : M D} {pos : Pos}
theorem op_notInT (hu : X.A.units + 65 < cLine) : OpR X (compareOp .NotIn) (rNotInT X.K) := by
  intro pins s σ H x y v u Q I rx ry h
  obtain ⟨d, ds, hd, he, sd, se, q⟩ := h
  obtain ⟨as, r1⟩ := Dp.reads I d x v hd rx
  obtain ⟨bs, r2⟩ := Dp.reads I (.tuple ds) y u he ry
  exact SeqAt.notIn_tuple_reads r2 r1 (SeqAt.canLay_of_shaped se) (SeqAt.canLay_of_shaped sd) (room_in_shaped sd hu) ⟨.bl _, H, I, rfl, q⟩
def dNotInT : D → D → Option Bool := fun d e => (dInT d e).map fun b => !b
theorem cmps_notInT : CmpS X (rNotInT X.K) dNotInT := by
  intro x y d e z F H p pa Q gs rx ry ez k
  unfold dNotInT at ez
  cases e <;> first | (simp [dInT] at ez; done) | skip
  rename_i xs
  simp only [dInT] at ez
  split at ez
  · rename_i hc
    simp only [Bool.and_eq_true] at hc
    have h2 := ry.dp gs.sub (pl_of hc.2)
    have s2 := shaped_ok hc.2
    simp only [toPy] at h2 s2
    refine ⟨_, _, rx.dp gs.sub (pl_of hc.1), h2, shaped_ok hc.1, s2, ?_⟩
    rw [any_toPys]
    simp only [Option.map_some, Option.some.injEq] at ez
    rw [ez]; exact k
  · simp at ez
theorem pmt_notInT (hu : Un X) (ha : PM X Wx a ma) (hb : PM X Wx b mb) (hm : behindInMarks .NotIn b = false := by rfl) : PMt X Wx (.Compare a [.NotIn] [b] pos) (mCmp dNotInT ma mb) := pmt_cmp (op_notInT hu) cmps_notInT ha hb hm
theorem pm_notInT (hu : Un X) (ha : PM X Wx a ma) (hb : PM X Wx b mb) (hm : behindInMarks .NotIn b = false := by rfl) : PM X Wx (.Compare a [.NotIn] [b] pos) (mB (mCmp dNotInT ma mb)) := pm_cmp (op_notInT hu) cmps_notInT ha hb hm
end
/-! ### several targets of a list -/
def tgLst (n : Nat) (fs : List D → Sl → Pst → Option (Sl × Pst)) : D → Sl → Pst → Option (Sl × Pst) := fun d ρ p => match d with
  | .lst xs => if xs.length = n then fs xs ρ p else none
  | _ => none
theorem tg_lst {En : Ent} {Wx : WX} {K : PySem.W.Frag} {mg : Str → Option Value} {n : Nat} {g : TGs} {fs : List D → Sl → Pst → Option (Sl × Pst)} (h : TgsOk K mg En Wx g fs) : TgOk K mg En Wx (gLst K n g) (tgLst n fs) := by
  intro F H pa p x d σ ρ ρ' p' Q s r e k
  cases d <;> first | (simp [tgLst] at e; done) | skip
  simp only [tgLst] at e
  split at e
  · rename_i hn
    obtain ⟨a, ws, rfl, h1, hz, rs⟩ := r.lstH s.gs
    exact ⟨a, ws, rfl, SqL.of h1, by rw [rs.1]; exact hn, h F H pa p ws _ σ ρ ρ' p' Q s rs e k⟩
  · cases e
theorem it_lst (n) {fs} (h : ITgs fs) : ITg (tgLst n fs) := fun d ρ p q => by
  cases d <;> first | rfl | skip
  simp only [tgLst]
  split
  · exact h _ ρ p q
  · rfl
end PF

namespace HT
open PySem PyProof.Rows
section
variable {prog : Program} {w : World} {A : Around} {E : Value → Shared → Prop} {s : Shared}
theorem adjust_rev (n : Nat) : Builtin.Slice.sliceAdjust none none (-1) (n : Int) = ((n : Int) - 1, -1) := by
  unfold Builtin.Slice.sliceAdjust
  simp
theorem places_rev (n : Nat) : Builtin.Slice.slicePlaces ((n : Int) - 1) (-1) (-1) = n := by
  unfold Builtin.Slice.slicePlaces
  have h1 : ¬ ((-1 : Int) > 0) := by decide
  have h2 : (-(-1 : Int)) = 1 := by decide
  simp only [h1, if_false, h2, Int.ediv_one]
  split <;> omega
theorem sliceApplied_revN {sl : Addr} {vl vu vs : Value} {n : Nat} {Q : Int × Int × Nat → Shared → Prop} (hs : s.heap.IsSliceOf sl vl vu vs) (pl : IsPart vl none) (pu : IsPart vu none) (ps : IsPart vs (some (-1)))
    (h : Q ((n : Int) - 1, -1, n) s) : wpAny (model prog w) A (Builtin.Slice.sliceApplied (.ref sl) (pure (n : Int))) Q E s := by
  obtain ⟨os, hos, hcs, hds⟩ := id hs
  unfold Builtin.Slice.sliceApplied Builtin.Slice.sliceFields
  refine wpAny_bind (wpAny_bind (wpAny_field hos hds (x := vl) rfl (wpAny_bind (wpAny_field hos hds (x := vu) rfl (wpAny_bind (wpAny_field hos hds (x := vs) rfl (wpAny_pure ?_)))))))
  refine wpAny_bind (slicePart_ ps ?_)
  show wpAny _ _ (if ((-1 : Int) == 0) = true then _ else _) _ _ s
  rw [if_neg (by decide)]
  refine wpAny_bind (slicePart_ pl (wpAny_bind (slicePart_ pu (wpAny_bind (wpAny_pure ?_)))))
  show wpAny _ _ (match Builtin.Slice.sliceAdjust none none (-1) (n : Int) with | (lo, hi) => pure (lo, (-1 : Int), Builtin.Slice.slicePlaces lo hi (-1))) _ _ s
  rw [adjust_rev]
  show wpAny _ _ (pure (((n : Int) - 1), (-1 : Int), Builtin.Slice.slicePlaces ((n : Int) - 1) (-1) (-1))) _ _ s
  rw [places_rev]
  exact wpAny_pure h
theorem pick_rev (xs : Array Value) : ((List.range xs.size).filterMap fun (m : Nat) => xs[((xs.size : Int) - 1 + (m : Int) * (-1)).toNat]?).toArray = xs.toList.reverse.toArray := by
  have e : (fun (m : Nat) => xs[((xs.size : Int) - 1 + (m : Int) * (-1)).toNat]?) = (fun k => xs[k]?) ∘ fun m => xs.size - 1 - m := by
    funext m
    show xs[((xs.size : Int) - 1 + (m : Int) * (-1)).toNat]? = xs[xs.size - 1 - m]?
    have : ((xs.size : Int) - 1 + (m : Int) * (-1)).toNat = xs.size - 1 - m := by omega
    rw [this]
  rw [e, ← List.filterMap_map, PySem.W.krv_range, List.filterMap_reverse, PySem.W.krv_all]
theorem getItem_tuple_revN {t sl : Addr} {items : Array Value} {vl vu vs : Value} {Q : Value → Shared → Prop} (ht : IsTup s.heap t items) (hs : s.heap.IsSliceOf sl vl vu vs) (pl : IsPart vl none) (pu : IsPart vu none) (ps : IsPart vs (some (-1)))
    (h : Q (.ref s.heap.objs.size) { s with heap := s.heap.push { cls := .type "tuple", data := .seq items.toList.reverse.toArray } }) (hsz : items.size ≤ sizeLine) : wpAny (model prog w) A (getItem (.ref t) (.ref sl)) Q E s := by
  have htake : sizeOk (.seq items.toList.reverse.toArray) := by
    show items.toList.reverse.toArray.size ≤ sizeLine
    rw [List.size_toArray, List.length_reverse, Array.length_toList]; exact hsz
  obtain ⟨os, hos, hcs, hds⟩ := id hs
  have hTs : s.TypeIs (.ref sl) "slice" := ⟨os, hos, hcs⟩
  unfold getItem
  try with_reducible refine wpAny_holding ?_
  first | refine wpAny_bind (wpAny_pure ?_) | skip
  refine wpAny_bind (wpAny_sequenceKey ht.typeIs (by decide) ?_)
  refine wpAny_bind (wpAny_callSpecial?_slot (name := Str.ofString "__getitem__") ht.typeIs PyProof.Rows.slot_tuple_getitem
    (wpAny_call_entry PyProof.Rows.slot_tuple_getitem ht.typeIs entry_tuple_getitem ?_ (args_tuple_getitem _ _)))
  show wpAny _ _ (Builtin.Tuple.tupleItemsOf (.ref t) >>= _) _ _ s
  refine wpAny_bind (tupleItemsOf_ ht ?_)
  refine wpAny_bind (wpAny_typeOf hTs ?_)
  rw [if_pos (by decide)]
  refine wpAny_bind (sliceApplied_revN hs pl pu ps ?_)
  have hno : ¬ ((((items.size : Int) - 1) == 0 && (-1 : Int) == 1 && items.size == items.size) = true) := by
    intro q
    rw [Bool.and_eq_true, Bool.and_eq_true] at q
    exact absurd q.1.2 (by decide)
  show wpAny _ _ (if (((items.size : Int) - 1) == 0 && (-1 : Int) == 1 && items.size == items.size) = true then _ else _) _ _ s
  rw [if_neg hno, pick_rev]
  first
    | exact wpAny_bind (m := Builtin.Tuple.tupleExact _) (wpAny_newObj_type (wpAny_pure ⟨_, rfl, wpAny_pure h⟩) htake)
    | exact wpAny_bind (m := Builtin.Tuple.tupleExact _) (wpAny_newObj_type (wpAny_bind (wpAny_pure (wpAny_pure ⟨_, rfl, wpAny_pure h⟩))) htake)
    | exact wpAny_bind (wpAny_bind (m := Builtin.Tuple.tupleExact _) (wpAny_newObj_type (wpAny_pure (wpAny_pure ⟨_, rfl, wpAny_pure h⟩)) htake))
    | exact wpAny_bind (wpAny_bind (m := Builtin.Tuple.tupleExact _) (wpAny_newObj_type (wpAny_pure ⟨_, rfl, wpAny_pure h⟩) htake))
end
end HT
namespace PF
open PySem PySem.Spec PyProof.Rows L2
/-! ### xs[::-1], xs a list or a tuple -/
def tRevD (K : PySem.W.Frag) (te : TE) : TE := fun σ H Q => te σ H fun x H1 => (∃ a xs, x = .ref a ∧ SqL K H1 a xs ∧ ∀ p, H1 p = none → Q (.ref p) (upd H1 p (.lst xs.reverse))) ∨ (∃ a xs, x = .ref a ∧ SqT K H1 a xs ∧ ∀ p, H1 p = none → Q (.ref p) (upd H1 p (.tup xs.reverse)))
theorem pe_revD {X : Cx} {e : Expr} {te : TE} {k : Nat} {p1 p2 p3 pos : Pos} (he : PE X e te) : PE X (.Subscript e (.Slice none none (some (.UnaryOp .USub (.Constant (.int 1) k p1) p2)) p3) pos) (tRevD X.K te) := by
  refine ⟨fun pins s σ H Q I h => ?_⟩
  refine Subscript_ (thn (he.run pins s σ H _ I h) fun v s1 ⟨x, H1, I1, r1, q1⟩ => ?_)
  have hst : PO X (some (.UnaryOp .USub (.Constant (.int 1) k p1) p2)) (tPart (tUn (rU fun i => .int (-i)) (tC (.int 1)))) := po_some (pe_un un_neg pe_int)
  refine wpAny_Slice (thn (po_none.run pins s1 σ H1 (fun o H2 => o = none ∧ H2 = H1) I1 ⟨rfl, rfl⟩) fun vl s2 ⟨l, H2, I2, pl, el, e2⟩ => ?_)
  subst el e2
  refine thn (po_none.run pins s2 σ H2 (fun o H3 => o = none ∧ H3 = H2) I2 ⟨rfl, rfl⟩) fun vu s3 ⟨u, H3, I3, pu, eu, e3⟩ => ?_
  subst eu e3
  refine thn (hst.run pins s3 σ H3 (fun o H4 => o = some (-1) ∧ H4 = H3) I3 ⟨1, rfl, -1, rfl, rfl, rfl⟩) fun vs s4 ⟨o, H4, I4, ps, eo, e4⟩ => ?_
  subst eo e4
  have I5 : Inv X pins σ H4 { s4 with heap := s4.heap.push { cls := .type "slice", data := .fields #[vl, vu, vs] } } := I4.kept (t' := s4.toks) fun b ob q => Heap.get?_push_of_some _ q
  rcases q1 with ⟨a, xs, ex, hx, q⟩ | ⟨a, xs, ex, hx, q⟩
  · subst ex
    cases r1
    obtain ⟨its, r, ht, hz⟩ := I5.list hx
    have hlen := r.length
    show wpAny (model X.prog X.w) X.A (subscriptTail e (.Slice none none (some (.UnaryOp .USub (.Constant (.int 1) k p1) p2)) p3) (.ref a) (.ref s4.heap.objs.size)) (EP X pins σ Q) X.xe { s4 with heap := s4.heap.push { cls := .type "slice", data := .fields #[vl, vu, vs] } }
    refine tail_any (ops := [.ref a, .ref s4.heap.objs.size]) ht.isList.typeIs (PySem.slot_list_getitem.lookup) ?_ (by with_unfolding_all rfl)
    refine wpAny_getItem_list_slice ht.isList (Heap.IsSliceOf.new _ vl vu vs) pl pu ps (by decide) ?_ (by rw [List.size_toArray]; omega)
    rw [PySem.W.krv_pick]
    refine ⟨.ref _, _, I5.laid (t' := s4.toks) (o := .lst xs.reverse) (fun b ob q => Heap.get?_push_of_some _ q) (Nat.le_refl _) ?_, rfl, q _ (I5.hok.fresh (Nat.le_refl _))⟩
    exact ⟨by rw [List.length_reverse]; exact hz, _, 0, r.reverse, Heap.get?_push_size _ rfl⟩
  · subst ex
    cases r1
    obtain ⟨its, r, ht, hz⟩ := I5.tuple hx
    have hlen := r.length
    show wpAny (model X.prog X.w) X.A (subscriptTail e (.Slice none none (some (.UnaryOp .USub (.Constant (.int 1) k p1) p2)) p3) (.ref a) (.ref s4.heap.objs.size)) (EP X pins σ Q) X.xe { s4 with heap := s4.heap.push { cls := .type "slice", data := .fields #[vl, vu, vs] } }
    refine tail_any (ops := [.ref a, .ref s4.heap.objs.size]) ht.typeIs (PyProof.Rows.slot_tuple_getitem.lookup) ?_ (by with_unfolding_all rfl)
    refine HT.getItem_tuple_revN ht (Heap.IsSliceOf.new _ vl vu vs) pl pu ps ?_ (by rw [List.size_toArray]; omega)
    refine ⟨.ref _, _, I5.laid (t' := s4.toks) (o := .tup xs.reverse) (fun b ob q => Heap.get?_push_of_some _ q) (Nat.le_refl _) ?_, rfl, q _ (I5.hok.fresh (Nat.le_refl _))⟩
    exact ⟨by rw [List.length_reverse]; exact hz, _, r.reverse, ⟨_, Heap.get?_push_size _ rfl, rfl, _, rfl⟩⟩
def revD : D → Option D
  | .lst xs => some (.lst xs.reverse)
  | .tup xs => some (.tup xs.reverse)
  | _ => none
@[simp] theorem revD_lst (xs : List D) : revD (.lst xs) = some (.lst xs.reverse) := rfl
@[simp] theorem revD_tup (xs : List D) : revD (.tup xs) = some (.tup xs.reverse) := rfl
def mRevD (me : M D) : M D := mbind me fun d => mopt (revD d)
@[simp] theorem ev_mRevD (me : M D) (ρ : Sl) (p : Pst) : mRevD me ρ p = mbind me (fun d => mopt (revD d)) ρ p := by cases p; rfl
theorem im_revD {me : M D} (h : IM me) : IM (mRevD me) := im_bind h fun _ => im_opt _
theorem pm_revD {X : Cx} {Wx : WX} {e : Expr} {me : M D} {k : Nat} {p1 p2 p3 pos : Pos} (he : PM X Wx e me) : PM X Wx (.Subscript e (.Slice none none (some (.UnaryOp .USub (.Constant (.int 1) k p1) p2)) p3) pos) (mRevD me) := ⟨(pe_revD he.pe).imp fun σ H Q ⟨F, pa, p, ρ, gs, s, o⟩ => by
  refine TM.of gs s (o.bind.mono fun d p1 F1 H1 pa1 gr1 gs1 o1 s1 v1 r1 => ?_)
  obtain ⟨z, ez, o2⟩ := o1.opt
  unfold revD at ez
  split at ez <;> first | (cases ez; done) | skip
  · rename_i xs
    cases ez
    obtain ⟨a, ws, rfl, hl, hz, rs⟩ := r1.lstH gs1
    exact .inl ⟨a, ws, rfl, SqL.of hl, fun q hq => o2 _ _ pa1 (Gr.alloc gs1 hq) (gs1.alloc hq) _ (Rep.lst' upd_same (by rw [List.length_reverse]; exact hz) (rs.reverse.mono fun _ _ h => h.mono (Fz.upd (gs1.fnone hq))))⟩
  · rename_i xs
    cases ez
    obtain ⟨t, ws, rfl, ht, hz, rw'⟩ := r1.tup_inv
    exact .inr ⟨t, ws, rfl, SqT.of (gs1.sub _ _ ht), fun q hq => o2 _ _ pa1 (Gr.alloc gs1 hq) (gs1.alloc hq) _ (Rep.tup' upd_same (by rw [List.length_reverse]; exact hz) (rw'.reverse.mono fun _ _ h => h.mono (Fz.upd (gs1.fnone hq))))⟩⟩
/-! ### a def that is never reached -/
def F_stuck : Fn := fun _ _ => .stuck
theorem if_stuck : IF F_stuck := fun _ _ _ => rfl
theorem fnx_stuck {P : Program} {w : World} {K : PySem.W.Frag} {mg : Str → Option Value} {base : Heap} {x : Str} {params : Arguments} {body : List Stmt} {scope : Scope} {f : Addr} {fd : FuncData} {ps : List Str} {k : Nat}
    (F : FunD K x x params body scope [] [] f fd) (hm : mg x = some (.ref f)) : FnX P w K mg base x params k ps F_stuck := by
  obtain ⟨oc, od, dV, kV, doc, pm, an, cdv, ct, osl, rfl, lk, hcd, hD, _⟩ := F.ex
  obtain rfl : dV = .none := by
    rcases hD with ⟨_, h⟩ | ⟨h, _⟩
    · exact h
    · exact absurd rfl h
  refine ⟨f, _, hm, F.kp, ⟨body, scope, kV, doc, pm, an, cdv, ct, rfl⟩, ⟨fun ds p h => absurd rfl h, fun A outer s H args us vs ds Fz0 pa p Q E hr hgd e0 hbt rv gs rs o => o.elim⟩⟩
end PF

namespace PF
open PySem PySem.Spec PyProof.Rows L2
open Sem (wp)
/-! ### enumerate over a list or a tuple -/
theorem meets_enumerate_newB1 {v : Value} {o : Obj} {H : Heap → Prop} (B : Begins v o H) :
    Meets (Builtin.«enumerate.__new__» ⟨[.type "enumerate", v], []⟩) (fun _ R s => H s.heap ∧
      R (.ok (.ret (.ref (s.heap.push o).objs.size))) { s with heap := (s.heap.push o).push { cls := .type "enumerate", data := .fields #[.none, .bool false, .ref s.heap.objs.size, rawInt 0, .none, .none] } }) :=
  .of_wp fun prog w A R s h => by
    obtain ⟨hp, g, d, tk, os⟩ := s; obtain ⟨h1, h⟩ := h
    have hsub := sub_enumerate
    have q1 : ∀ {A' : Around} {E : Value → Shared → Prop} {Q : Value → Shared → Prop}, Q (.ref hp.objs.size) ⟨hp.push o, g, d, tk, os⟩ → wpAny (model prog w) A' (pyIter v) Q E ⟨hp, g, d, tk, os⟩ :=
      fun q => B.iter prog w _ _ ⟨hp, g, d, tk, os⟩ _ h1 q
    wp_walk using q1
    refine wpAny_stack_any fun st => wpAny_pure ?_
    split
    · rename_i c _ _ _ _ _
      cases (c == Value.type "enumerate")
      · wp_walk using q1
        exact ⟨_, rfl, h⟩
      · wp_walk using q1
        exact ⟨_, rfl, h⟩
    · wp_walk using q1
      exact ⟨_, rfl, h⟩
section
variable {prog : Program} {w : World} {A : Around} {E : Value → Shared → Prop} {s : Shared}
theorem enum_begins1 {v : Value} {o : Obj} {H : Heap → Prop} {Q : Value → Shared → Prop} (B : Begins v o H) (h1 : H s.heap)
    (h : ∀ h', IsEnum h' (s.heap.objs.size + 1) s.heap.objs.size 0 .none → h'.get? s.heap.objs.size = some o → h'.objs.size = s.heap.objs.size + 2 →
      (∀ b o, s.heap.get? b = some o → h'.get? b = some o) → Q (.ref (s.heap.objs.size + 1)) { s with heap := h' }) :
    wpAny (model prog w) A (call (.type "enumerate") [v]) Q E s := by
  refine callType_new F.called_enumerate (by decide) (F.typeCall_enumerate_1 _) (F.newCall_enumerate_1 _) (fun obj => F.args_object_init_2 obj _) F.entry_enumerate_new
    (meets_enumerate_newB1 B) ⟨h1, ?_⟩
  have hz : (s.heap.push o).objs.size = s.heap.objs.size + 1 := Heap.size_push ..
  show _ ∧ _
  rw [hz]
  have he : IsEnum ((s.heap.push o).push { cls := .type "enumerate", data := .fields #[.none, .bool false, .ref s.heap.objs.size, rawInt 0, .none, .none] }) (s.heap.objs.size + 1) s.heap.objs.size 0 .none := by
    have := Heap.get?_push_size (s.heap.push o) (o := { cls := .type "enumerate", data := .fields #[.none, .bool false, .ref s.heap.objs.size, rawInt 0, .none, .none] }) rfl
    rw [hz] at this; exact this
  refine ⟨⟨_, he, rfl⟩, h _ he (Heap.get?_push_of_some _ (Heap.get?_push_size _ B.free)) (by rw [Heap.size_push, hz]) fun b o x => Heap.get?_push_of_some _ (Heap.get?_push_of_some _ x)⟩
end
def ItEn (K : PySem.W.Frag) (q : Src) (N : Nat) : It :=
  ⟨fun i H => i < N ∧ ∃ xs, srcV K H q xs ∧ N = xs.length,
    fun i H v H' => ∃ T x, v = .ref T ∧ H T = none ∧ H' = upd H T (.tup [.int (i : Nat), x]) ∧ ∀ xs, srcV K H q xs → xs[i]? = some x,
    fun i H => N ≤ i ∧ ∃ xs, srcV K H q xs ∧ N = xs.length⟩
theorem turn_enumS {P : Program} {w : World} {K : PySem.W.Frag} {elts : List Expr} {kk : Nat} {tpos : Pos} {q : Src} {e it : Addr} {N : Nat} (n1 : ∀ b ∈ srcA q, b ≠ it) (ne : e ≠ it) (ns : e ∉ srcA q) :
    Turn P w K (.Tuple elts kk tpos) (ItEn K q N) [e, it] e (fun i h => i ≤ N ∧ (∃ old, IsEnum h e it ((i : Nat) : Int) old) ∧ srcSt it i h q) where
  mem := by simp
  obj := fun i h st b hb => by
    obtain ⟨_, ⟨old, he⟩, h1⟩ := st
    have e' : b = e ∨ b = it := by simpa using hb
    rcases e' with z | z
    · rw [z]; exact ⟨_, he, fun v q => nomatch q⟩
    · rw [z]; exact srcSt_obj h1
  keep := fun i h h' st k => let ⟨hN, ⟨old, he⟩, h1⟩ := st; ⟨hN, ⟨old, k e (by simp) _ he⟩, srcSt_keep (fun o q => k it (by simp) o q) h1⟩
  item := by
    intro X hP hw hK hc i pins s σ H E I hf st hg
    subst hP hw hK
    obtain ⟨hN, ⟨old, he⟩, h1⟩ := st
    obtain ⟨hlt, xs, hx, hn⟩ := hg
    obtain ⟨P1, St1, D1, a1, b1, c1⟩ := src_draws (A := X.A.in1) (I.ok.hd hc) I n1 hx
    have hel : e < s.heap.objs.size := Heap.lt_size he
    have hil : it < s.heap.objs.size := by obtain ⟨_, q, _⟩ := srcSt_obj h1; exact Heap.lt_size q
    refine wpAny_pyNext_enum_itemD D1 he (a1 i h1) (by omega) ne (fun hm => (List.mem_cons.mp hm).elim ne ns) fun u h' tk hP ho hst' hT hsz hk => ?_
    obtain ⟨x, gx, ru⟩ := c1 i u hP
    refine ⟨_, rfl, wpAny_letOwnedTupleGo_enum (s := { s with heap := h', toks := tk + 1 }) ho fun h'' he' sb => ?_⟩
    have hT2 : h''.get? s.heap.objs.size = some { cls := .type "tuple", data := .seq #[.int i tk, u] } := (sb.2 _ (Nat.ne_of_gt hel)).trans hT
    have new : ObjOk X.prog X.w (upd H s.heap.objs.size (.tup [.int (i : Nat), x])) h'' s.heap.objs.size (.tup [.int (i : Nat), x]) :=
      ⟨by show 2 ≤ sizeLine; decide, [.int i tk, u], .cons ⟨_, rfl⟩ (.cons ru .nil), ⟨_, hT2, rfl, _, rfl⟩⟩
    have I1 : Inv X pins σ (upd H s.heap.objs.size (.tup [.int (i : Nat), x])) { s with heap := h'', toks := tk + 1 } :=
      I.turnedNew (ch := [e, it]) (fun b ob hb q => (sb.2 b (fun z => hb (by simp [z]))).trans (hk b ob (fun z => hb (by simp [z])) (fun z => hb (by simp [z])) q)) hf (Nat.le_refl _) new
    refine ⟨.ref s.heap.objs.size, _, I1, rfl, ⟨_, x, rfl, I.hok.fresh (Nat.le_refl _), rfl, fun ys hy => by rw [src_inj I hy hx]; exact gx⟩, ⟨hlt, ⟨u, ?_⟩, srcSt_keep (fun o q => (sb.2 it (Ne.symm ne)).trans q) (b1 _ _ hst')⟩, fun b hb => ?_⟩
    · have e1 : ((i + 1 : Nat) : Int) = (i : Int) + 1 := by omega
      rw [e1]; exact he'
    · have hb' : b < s.heap.objs.size := by
        have e' : b = e ∨ b = it := by simpa using hb
        rcases e' with z | z
        · rw [z]; exact hel
        · rw [z]; exact hil
      rw [upd_ne (Nat.ne_of_lt hb')]
      exact (hf b hb).1
  done := by
    intro X hP hw hK hc i pins s σ H E I hf st hg
    subst hP hw hK
    obtain ⟨hN, ⟨old, he⟩, h1⟩ := st
    obtain ⟨hge, xs, hx, hn⟩ := hg
    obtain ⟨P1, St1, D1, a1, b1, c1⟩ := src_draws (A := X.A.in1) (I.ok.hd hc) I n1 hx
    obtain ⟨f0, f1, f2, f3, f4, f5⟩ := hf it (by simp)
    have e1 : i = xs.length := by omega
    subst e1
    exact wpAny_pyNext_enum_endD D1 he (a1 _ h1) fun h' eb => ⟨rfl, I.turned (t' := s.toks) (fun b o hb q => eb b o hb q) f0 f1 f3 f4 f5⟩
  self := fun A i s Q E st h => let ⟨_, ⟨_, he⟩, _⟩ := st; wpAny_pyIter_enum he h
def iEnumS (K : PySem.W.Frag) (ta : TA) : TI := fun σ H R => ta σ H fun vs H1 => ∃ a xs q, vs = [.ref a] ∧ (q = .l a ∨ q = .t a) ∧ srcV K H1 q xs ∧ R (ItEn K q xs.length) H1
theorem pi_enumS {X : Cx} {e : Expr} {ta : TA} {p pos tpos : Pos} {elts : List Expr} {kk : Nat} (hg : Gl X "enumerate") (hm : X.mg "enumerate" = none) (ha : PA X [e] ta) (hs : starEach [e] X.env = [(false, eval e X.env)] := by rfl) :
    PI X (.Tuple elts kk tpos) (.Call (.Name "enumerate" p) [e] [] pos) (iEnumS X.K ta) := by
  refine ⟨fun pins s σ H R I h => ?_⟩
  refine Call_ (ld_blt I hg hm boot_enumerate (PyProof.Rows.callWith_type1 (thn (ha.run pos pins s σ H _ I h) fun us s1 ⟨vs, H1, I1, r1, q1⟩ => ?_) hs rfl))
  obtain ⟨a, xs, qa, ex, ea, hx, q⟩ := q1
  subst ex
  obtain ⟨o1, B1, b1, c1, d1, f1⟩ := src_begins I1 ea hx
  cases r1 with
  | cons r rr =>
    cases rr
    cases r
    refine enum_begins1 b1 c1 fun h' he hit hsz hk => wpAny_pyIter_enum he ?_
    have I2 : Inv X pins σ H1 { s1 with heap := h' } := I1.kept (t' := s1.toks) hk
    refine ⟨s1.heap.objs.size + 1, [s1.heap.objs.size + 1, s1.heap.objs.size], _, _, H1, rfl, I2, turn_enumS (N := xs.length) (fun b hb => Nat.ne_of_lt (f1 b hb)) (Nat.succ_ne_self _) (fun hm => absurd (f1 _ hm) (Nat.not_lt.mpr (Nat.le_succ _))), ⟨Nat.zero_le _, ⟨.none, he⟩, d1 _ _ hit⟩, fun b hb => ?_, q⟩
    have e' : b = s1.heap.objs.size + 1 ∨ b = s1.heap.objs.size := by simpa using hb
    have hle : s1.heap.objs.size ≤ b := by
      rcases e' with z | z
      · rw [z]; exact Nat.le_add_right _ _
      · rw [z]; exact Nat.le_refl _
    exact I1.fpOk hle (I1.hok.fresh hle)
/-! ### as data -/
def enumS : List D → Option (List D)
  | [d] => (sqD d).map enumL
  | _ => none
@[simp] theorem enumS_one (d : D) : enumS [d] = (sqD d).map enumL := rfl
def mEnumS (ms : M (List D)) : M (List D) := mbind ms fun ds => mopt (enumS ds)
@[simp] theorem ev_mEnumS (ms : M (List D)) (ρ : Sl) (p : Pst) : mEnumS ms ρ p = mbind ms (fun ds => mopt (enumS ds)) ρ p := by cases p; rfl
theorem im_enumS {m : M (List D)} (h : IM m) : IM (mEnumS m) := im_bind h fun _ => im_opt _
theorem iter_enumS {K : PySem.W.Frag} {F : Hp} {g : Nat} {pa : Option Addr} {q : Src} {vs : List V} {ds : List D} (h : SrcF F q vs) (r : Reps K F g pa vs ds) : IterOk K F g pa (ItEn K q vs.length) (enumL ds) := by
  intro i F1 H1 pa1 p1 fz gs1
  have h1 : srcV K H1 q vs := h.v fun a o e => gs1.sub _ _ (fz.sub _ _ e)
  have hl : (enumL ds).length = vs.length := by simp only [enumL, List.length_mapIdx]; rw [r.1]
  refine ⟨fun hi => ⟨by omega, vs, h1, rfl⟩, fun z hz => ?_⟩
  have hlt : i < (enumL ds).length := (List.getElem?_eq_some_iff.mp hz).1
  unfold enumL at hz
  rw [List.getElem?_mapIdx] at hz
  cases qz : ds[i]? with
  | none => rw [qz] at hz; cases hz
  | some d =>
    rw [qz] at hz
    cases hz
    obtain ⟨v, hv, rv⟩ := (r.mono fz).get qz
    refine ⟨⟨by omega, vs, h1, rfl⟩, fun x H' ⟨T, y, e1, e2, e4, hx⟩ => ?_⟩
    subst e1 e4
    have t1 := hx vs h1
    rw [hv] at t1
    cases t1
    obtain ⟨F2, gr2, gs2, r2⟩ := zip_item gs1 e2 (.int (i : Nat)) rv
    exact ⟨F2, gr2, gs2, r2⟩
section
variable {X : Cx} {Wx : WX} {a : Expr} {ms : M (List D)} {p pos : Pos}
theorem pmi_enumS {elts : List Expr} {kk : Nat} {tpos : Pos} (hg : Gl X "enumerate") (hm : X.mg "enumerate" = none) (ha : PMa X Wx [a] ms) (hs : starEach [a] X.env = [(false, eval a X.env)] := by rfl) :
    PMi X Wx (.Tuple elts kk tpos) (.Call (.Name "enumerate" p) [a] [] pos) (mEnumS ms) := ⟨(pi_enumS hg hm ha.pa hs).imp fun σ H R ⟨F, pa, p, ρ, gs, s, o⟩ => by
  refine TMa.of gs s (o.bind.mono fun ds p1 F1 H1 pa1 gr1 gs1 o1 s1 vs rs => ?_)
  obtain ⟨z, ez, o2⟩ := o1.opt
  unfold enumS at ez
  split at ez <;> first | (cases ez; done) | skip
  rename_i d
  cases q : sqD d with
  | none => rw [q] at ez; cases ez
  | some xs =>
    rw [q] at ez
    cases ez
    obtain ⟨v, rfl, r1⟩ := reps1 rs
    obtain ⟨a, s1, vs, rfl, ea, f1, hz, ra⟩ := sq_src (H := H1) (p := p1) r1 q
    exact ⟨a, vs, s1, rfl, ea, f1.v gs1.sub, o2.ret gs1 _ (iter_enumS f1 ra) (by simpa [enumL] using hz)⟩⟩
end
end PF

namespace HeadT
open PySem PySem.Spec PyProof.Rows L2
def top (i : Nat) : Stmt := PySem.Challenge.pw_wholegrids_k69_any_value_as_coins_list_o.main.body.getD i (.Pass ⟨0, 0, 0, 0⟩)
abbrev s_is_integer : Stmt := top 5
def d_is_integer : He.DefD := ⟨("is_integer", none), "is_integer", "is_integer", defArgs s_is_integer, defBody s_is_integer, defScope s_is_integer, [], []⟩
abbrev s_is_count : Stmt := top 6
def d_is_count : He.DefD := ⟨("is_count", none), "is_count", "is_count", defArgs s_is_count, defBody s_is_count, defScope s_is_count, [], []⟩
abbrev s_is_within : Stmt := top 7
def d_is_within : He.DefD := ⟨("is_within", none), "is_within", "is_within", defArgs s_is_within, defBody s_is_within, defScope s_is_within, [], []⟩
abbrev s_is_list : Stmt := top 8
def d_is_list : He.DefD := ⟨("is_list", none), "is_list", "is_list", defArgs s_is_list, defBody s_is_list, defScope s_is_list, [], []⟩
abbrev s_check_number : Stmt := top 9
def d_check_number : He.DefD := ⟨("check_number", none), "check_number", "check_number", defArgs s_check_number, defBody s_check_number, defScope s_check_number, [], []⟩
abbrev s_are_coins_of : Stmt := top 14
def d_are_coins_of : He.DefD := ⟨("are_coins_of", none), "are_coins_of", "are_coins_of", defArgs s_are_coins_of, defBody s_are_coins_of, defScope s_are_coins_of, [], []⟩
abbrev s_check_coins : Stmt := top 15
def d_check_coins : He.DefD := ⟨("check_coins", none), "check_coins", "check_coins", defArgs s_check_coins, defBody s_check_coins, defScope s_check_coins, [], []⟩
abbrev s_check_both : Stmt := top 16
def d_check_both : He.DefD := ⟨("check_both", none), "check_both", "check_both", defArgs s_check_both, defBody s_check_both, defScope s_check_both, [], []⟩
abbrev s_leasts_of : Stmt := top 17
def d_leasts_of : He.DefD := ⟨("leasts_of", none), "leasts_of", "leasts_of", defArgs s_leasts_of, defBody s_leasts_of, defScope s_leasts_of, [], []⟩
abbrev s_fewest_rows : Stmt := top 18
def d_fewest_rows : He.DefD := ⟨("fewest_rows", none), "fewest_rows", "fewest_rows", defArgs s_fewest_rows, defBody s_fewest_rows, defScope s_fewest_rows, [], []⟩
abbrev s_told_list : Stmt := top 19
def d_told_list : He.DefD := ⟨("told_list", none), "told_list", "told_list", defArgs s_told_list, defBody s_told_list, defScope s_told_list, [], []⟩
abbrev s_is_low_list_of : Stmt := top 20
def d_is_low_list_of : He.DefD := ⟨("is_low_list_of", none), "is_low_list_of", "is_low_list_of", defArgs s_is_low_list_of, defBody s_is_low_list_of, defScope s_is_low_list_of, [], []⟩
abbrev s_does_bar : Stmt := top 21
def d_does_bar : He.DefD := ⟨("does_bar", none), "does_bar", "does_bar", defArgs s_does_bar, defBody s_does_bar, defScope s_does_bar, [], []⟩
abbrev s_are_coins : Stmt := top 22
def d_are_coins : He.DefD := ⟨("are_coins", none), "are_coins", "are_coins", defArgs s_are_coins, defBody s_are_coins, defScope s_are_coins, [], []⟩
abbrev s_coin_list : Stmt := top 23
def d_coin_list : He.DefD := ⟨("coin_list", none), "coin_list", "coin_list", defArgs s_coin_list, defBody s_coin_list, defScope s_coin_list, [], []⟩
abbrev s_is_coin_list : Stmt := top 24
def d_is_coin_list : He.DefD := ⟨("is_coin_list", none), "is_coin_list", "is_coin_list", defArgs s_is_coin_list, defBody s_is_coin_list, defScope s_is_coin_list, [], []⟩
abbrev s_low_bar : Stmt := top 25
def d_low_bar : He.DefD := ⟨("low_bar", none), "low_bar", "low_bar", defArgs s_low_bar, defBody s_low_bar, defScope s_low_bar, [], []⟩
abbrev s_is_low_bar : Stmt := top 26
def d_is_low_bar : He.DefD := ⟨("is_low_bar", none), "is_low_bar", "is_low_bar", defArgs s_is_low_bar, defBody s_is_low_bar, defScope s_is_low_bar, [], []⟩
abbrev s_least_numbers : Stmt := top 28
def d_least_numbers : He.DefD := ⟨("least_numbers", none), "least_numbers", "least_numbers", defArgs s_least_numbers, defBody s_least_numbers, defScope s_least_numbers, [], []⟩
abbrev s__law_pot : Stmt := top 30
def d__law_pot : He.DefD := ⟨("_law_pot", none), "_law_pot", "_law_pot", defArgs s__law_pot, defBody s__law_pot, defScope s__law_pot, [], []⟩
abbrev s__law_draw : Stmt := top 31
def d__law_draw : He.DefD := ⟨("_law_draw", none), "_law_draw", "_law_draw", defArgs s__law_draw, defBody s__law_draw, defScope s__law_draw, [], []⟩
abbrev s__law_pick : Stmt := top 32
def d__law_pick : He.DefD := ⟨("_law_pick", none), "_law_pick", "_law_pick", defArgs s__law_pick, defBody s__law_pick, defScope s__law_pick, [], []⟩
abbrev s__law_coins : Stmt := top 33
def d__law_coins : He.DefD := ⟨("_law_coins", none), "_law_coins", "_law_coins", defArgs s__law_coins, defBody s__law_coins, defScope s__law_coins, [], []⟩
abbrev s__law_is_count : Stmt := top 34
def d__law_is_count : He.DefD := ⟨("_law_is_count", none), "_law_is_count", "_law_is_count", defArgs s__law_is_count, defBody s__law_is_count, defScope s__law_is_count, [], []⟩
abbrev s__law_is_list : Stmt := top 35
def d__law_is_list : He.DefD := ⟨("_law_is_list", none), "_law_is_list", "_law_is_list", defArgs s__law_is_list, defBody s__law_is_list, defScope s__law_is_list, [], []⟩
abbrev s__law_is_low : Stmt := top 36
def d__law_is_low : He.DefD := ⟨("_law_is_low", none), "_law_is_low", "_law_is_low", defArgs s__law_is_low, defBody s__law_is_low, defScope s__law_is_low, [], []⟩
abbrev s__law_is_bar : Stmt := top 37
def d__law_is_bar : He.DefD := ⟨("_law_is_bar", none), "_law_is_bar", "_law_is_bar", defArgs s__law_is_bar, defBody s__law_is_bar, defScope s__law_is_bar, [], []⟩
abbrev s__law_are_coins : Stmt := top 38
def d__law_are_coins : He.DefD := ⟨("_law_are_coins", none), "_law_are_coins", "_law_are_coins", defArgs s__law_are_coins, defBody s__law_are_coins, defScope s__law_are_coins, [], []⟩
abbrev s__law_bent : Stmt := top 39
def d__law_bent : He.DefD := ⟨("_law_bent", none), "_law_bent", "_law_bent", defArgs s__law_bent, defBody s__law_bent, defScope s__law_bent, [], []⟩
abbrev s__law_right : Stmt := top 40
def d__law_right : He.DefD := ⟨("_law_right", none), "_law_right", "_law_right", defArgs s__law_right, defBody s__law_right, defScope s__law_right, [], []⟩
abbrev s_law : Stmt := top 41
def d_law : He.DefD := ⟨("law", none), "law", "law", defArgs s_law, defBody s_law, defScope s_law, [], []⟩
def fn0 : List He.DefD := [d_is_integer, d_is_count, d_is_within, d_is_list, d_check_number, d_are_coins_of, d_check_coins, d_check_both, d_leasts_of, d_fewest_rows, d_told_list, d_is_low_list_of, d_does_bar, d_are_coins, d_coin_list, d_is_coin_list, d_low_bar, d_is_low_bar, d_least_numbers, d__law_pot, d__law_draw, d__law_pick, d__law_coins, d__law_is_count, d__law_is_list, d__law_is_low, d__law_is_bar, d__law_are_coins, d__law_bent, d__law_right]
def fn1 : List He.DefD := [d_law]
def fn : List He.DefD := fn0 ++ fn1
def fa0 : List He.Fa := [.glo "is_integer", .glo "is_count", .glo "is_within", .glo "is_list", .glo "check_number", .glo "are_coins_of", .glo "check_coins", .glo "check_both", .glo "leasts_of", .glo "fewest_rows", .glo "told_list", .glo "is_low_list_of", .glo "does_bar", .glo "are_coins", .glo "coin_list", .glo "is_coin_list", .glo "low_bar", .glo "is_low_bar", .glo "least_numbers", .glo "_law_pot", .glo "_law_draw", .glo "_law_pick", .glo "_law_coins", .glo "_law_is_count", .glo "_law_is_list", .glo "_law_is_low", .glo "_law_is_bar", .glo "_law_are_coins", .glo "_law_bent", .glo "_law_right"]
def fa1 : List He.Fa := [.glo "law", .free "abs", .free "all", .free "bool", .free "divmod", .free "enumerate", .free "int", .free "isinstance", .free "len", .free "list", .free "max", .free "min", .free "range", .free "repr", .free "sorted", .free "sum", .free "tuple", .free "zip", .int "MOST_COINS" 4, .int "MOST_COIN" 60, .int "MOST_NUMBER" 9999]
def fa : List He.Fa := fa0 ++ fa1
def loose0 : List Str := ["GridError", "InvalidNumber", "InvalidCoins", "is_integer", "is_count", "is_within", "is_list", "check_number", "MOST_COINS", "MOST_COIN", "MOST_NUMBER", "are_coins_of", "check_coins", "check_both", "leasts_of", "fewest_rows", "told_list", "is_low_list_of", "does_bar", "are_coins", "coin_list", "is_coin_list", "low_bar", "is_low_bar", "least_numbers", "_law_pot", "_law_draw", "_law_pick", "_law_coins", "_law_is_count"]
def loose1 : List Str := ["_law_is_list", "_law_is_low", "_law_is_bar", "_law_are_coins", "_law_bent", "_law_right"]
def loose : List Str := loose0 ++ loose1
abbrev R : PySem.W.OpenRow := PySem.W.OpenLaw.row PySem.Challenge.rw_wholegrids_k69_any_value_as_coins_list_o
abbrev hk : PySem.W.Hook := He.hookD 4 fa fn
def ob (s : PySem.W.SharedT) : He.AlD := He.obsDG 4 fa fn (HandSHeadRun.getT s)
theorem ob_eq (s : PySem.W.SharedT) : ob s = hk.obs s.abs := He.obsDG_eq (HandSHeadRun.getT_eq s)
theorem run (w : World) : HandSHeadRun.RunEq R (PySem.W.view R.prog [41]) hk ob 4000 loose w := by
  intro os
  kernel_rfl
end HeadT

namespace PF
open PySem PySem.Spec PyProof.Rows L2
def FUEL : Nat := 2 ^ 80
/-- is_integer: slots 0 value -/
def N_is_integer : List Str := ["value"]
def ps_is_integer : List Str := ["value"]
def c_is_integer : C := cret (mAndV (mIsi .int (rd 0)) (mNotV (mIsi .bool (rd 0))))
def F_is_integer : Fn := fres 1 1 c_is_integer
theorem en_is_integer (a0 : D) (p : Pst) : F_is_integer [a0] p = sres (c_is_integer [some (.val a0)] p) := rfl
theorem ip_is_integer : IF F_is_integer := if_fres _ _ (by
  unfold c_is_integer
  repeat' first | with_reducible apply im_ret | with_reducible apply im_rd | with_reducible apply im_op | with_reducible apply im_cmp | with_reducible apply im_b | with_reducible apply im_cons | with_reducible apply ic_seq | with_reducible apply ic_if | with_reducible apply ic_ret | with_reducible apply ic_reto | with_reducible apply ic_retown | with_reducible apply ic_asg | with_reducible apply ic_aso | with_reducible apply ic_frz | with_reducible apply ic_asgW | with_reducible apply ic_app | with_reducible apply ic_pop | with_reducible apply ic_expr | with_reducible apply ic_skip | with_reducible apply ic_stuck | with_reducible apply ic_brk | with_reducible apply ic_cnt | with_reducible apply ic_retN | with_reducible apply ic_for | with_reducible apply ic_while | with_reducible apply it_name | with_reducible apply it_tup | with_reducible apply it_cons | with_reducible apply it_nil | with_reducible apply im_fn | with_reducible apply im_fno | with_reducible apply im_lc | with_reducible apply im_yes | with_reducible apply im_and | with_reducible apply im_or | with_reducible apply im_not | with_reducible apply im_if | with_reducible apply im_frz | with_reducible apply im_lim | with_reducible apply im_tup | with_reducible apply im_call | with_reducible apply im_lst | with_reducible apply im_isi | with_reducible apply im_isis | with_reducible apply im_isN | with_reducible apply im_notN | with_reducible apply im_chain | with_reducible apply im_seq | with_reducible apply im_range1 | with_reducible apply im_range2 | with_reducible apply im_enum | with_reducible apply im_zip | with_reducible apply im_t | with_reducible apply im_notV | with_reducible apply im_andV | with_reducible apply im_orV | with_reducible apply im_part | with_reducible apply im_sl | with_reducible apply im_slo | with_reducible apply im_rev | with_reducible apply im_uV | with_reducible apply im_uO | with_reducible apply im_un | with_reducible apply im_opo | with_reducible apply im_ixO | with_reducible apply im_scal | with_reducible apply im_scalt | with_reducible apply im_index | with_reducible apply im_lrg1 | with_reducible apply im_lrg2 | with_reducible apply ic_ext | with_reducible apply ic_asgT | with_reducible apply it_subO | with_reducible apply im_fnO | with_reducible apply im_fnOo | with_reducible apply im_zipS | with_reducible apply im_zipR | with_reducible apply im_revD | with_reducible apply im_enumS | with_reducible apply im_zipS3 | with_reducible apply im_enumZ)
/-- is_count: slots 0 value -/
def N_is_count : List Str := ["value"]
def ps_is_count : List Str := ["value"]
def c_is_count : C := cret (mAndV (mFn F_is_integer 1 0 [0] (mcons (rd 0) (mret [])) (mret [])) (mB (mCmp dGe (rd 0) (mret (.int 0)))))
def F_is_count : Fn := fres 1 1 c_is_count
theorem en_is_count (a0 : D) (p : Pst) : F_is_count [a0] p = sres (c_is_count [some (.val a0)] p) := rfl
theorem ip_is_count : IF F_is_count := if_fres _ _ (by
  unfold c_is_count
  repeat' first | exact ip_is_integer | with_reducible apply im_ret | with_reducible apply im_rd | with_reducible apply im_op | with_reducible apply im_cmp | with_reducible apply im_b | with_reducible apply im_cons | with_reducible apply ic_seq | with_reducible apply ic_if | with_reducible apply ic_ret | with_reducible apply ic_reto | with_reducible apply ic_retown | with_reducible apply ic_asg | with_reducible apply ic_aso | with_reducible apply ic_frz | with_reducible apply ic_asgW | with_reducible apply ic_app | with_reducible apply ic_pop | with_reducible apply ic_expr | with_reducible apply ic_skip | with_reducible apply ic_stuck | with_reducible apply ic_brk | with_reducible apply ic_cnt | with_reducible apply ic_retN | with_reducible apply ic_for | with_reducible apply ic_while | with_reducible apply it_name | with_reducible apply it_tup | with_reducible apply it_cons | with_reducible apply it_nil | with_reducible apply im_fn | with_reducible apply im_fno | with_reducible apply im_lc | with_reducible apply im_yes | with_reducible apply im_and | with_reducible apply im_or | with_reducible apply im_not | with_reducible apply im_if | with_reducible apply im_frz | with_reducible apply im_lim | with_reducible apply im_tup | with_reducible apply im_call | with_reducible apply im_lst | with_reducible apply im_isi | with_reducible apply im_isis | with_reducible apply im_isN | with_reducible apply im_notN | with_reducible apply im_chain | with_reducible apply im_seq | with_reducible apply im_range1 | with_reducible apply im_range2 | with_reducible apply im_enum | with_reducible apply im_zip | with_reducible apply im_t | with_reducible apply im_notV | with_reducible apply im_andV | with_reducible apply im_orV | with_reducible apply im_part | with_reducible apply im_sl | with_reducible apply im_slo | with_reducible apply im_rev | with_reducible apply im_uV | with_reducible apply im_uO | with_reducible apply im_un | with_reducible apply im_opo | with_reducible apply im_ixO | with_reducible apply im_scal | with_reducible apply im_scalt | with_reducible apply im_index | with_reducible apply im_lrg1 | with_reducible apply im_lrg2 | with_reducible apply ic_ext | with_reducible apply ic_asgT | with_reducible apply it_subO | with_reducible apply im_fnO | with_reducible apply im_fnOo | with_reducible apply im_zipS | with_reducible apply im_zipR | with_reducible apply im_revD | with_reducible apply im_enumS | with_reducible apply im_zipS3 | with_reducible apply im_enumZ)
/-- is_within: slots 0 value, 1 least, 2 most -/
def N_is_within : List Str := ["value", "least", "most"]
def ps_is_within : List Str := ["value", "least", "most"]
def c_is_within : C := cret (mAndV (mFn F_is_integer 1 0 [0] (mcons (rd 0) (mret [])) (mret [])) (mB (mChain iLe iLe (rd 1) (rd 0) (rd 2))))
def F_is_within : Fn := fres 3 3 c_is_within
theorem en_is_within (a0 a1 a2 : D) (p : Pst) : F_is_within [a0, a1, a2] p = sres (c_is_within [some (.val a0), some (.val a1), some (.val a2)] p) := rfl
theorem ip_is_within : IF F_is_within := if_fres _ _ (by
  unfold c_is_within
  repeat' first | exact ip_is_integer | with_reducible apply im_ret | with_reducible apply im_rd | with_reducible apply im_op | with_reducible apply im_cmp | with_reducible apply im_b | with_reducible apply im_cons | with_reducible apply ic_seq | with_reducible apply ic_if | with_reducible apply ic_ret | with_reducible apply ic_reto | with_reducible apply ic_retown | with_reducible apply ic_asg | with_reducible apply ic_aso | with_reducible apply ic_frz | with_reducible apply ic_asgW | with_reducible apply ic_app | with_reducible apply ic_pop | with_reducible apply ic_expr | with_reducible apply ic_skip | with_reducible apply ic_stuck | with_reducible apply ic_brk | with_reducible apply ic_cnt | with_reducible apply ic_retN | with_reducible apply ic_for | with_reducible apply ic_while | with_reducible apply it_name | with_reducible apply it_tup | with_reducible apply it_cons | with_reducible apply it_nil | with_reducible apply im_fn | with_reducible apply im_fno | with_reducible apply im_lc | with_reducible apply im_yes | with_reducible apply im_and | with_reducible apply im_or | with_reducible apply im_not | with_reducible apply im_if | with_reducible apply im_frz | with_reducible apply im_lim | with_reducible apply im_tup | with_reducible apply im_call | with_reducible apply im_lst | with_reducible apply im_isi | with_reducible apply im_isis | with_reducible apply im_isN | with_reducible apply im_notN | with_reducible apply im_chain | with_reducible apply im_seq | with_reducible apply im_range1 | with_reducible apply im_range2 | with_reducible apply im_enum | with_reducible apply im_zip | with_reducible apply im_t | with_reducible apply im_notV | with_reducible apply im_andV | with_reducible apply im_orV | with_reducible apply im_part | with_reducible apply im_sl | with_reducible apply im_slo | with_reducible apply im_rev | with_reducible apply im_uV | with_reducible apply im_uO | with_reducible apply im_un | with_reducible apply im_opo | with_reducible apply im_ixO | with_reducible apply im_scal | with_reducible apply im_scalt | with_reducible apply im_index | with_reducible apply im_lrg1 | with_reducible apply im_lrg2 | with_reducible apply ic_ext | with_reducible apply ic_asgT | with_reducible apply it_subO | with_reducible apply im_fnO | with_reducible apply im_fnOo | with_reducible apply im_zipS | with_reducible apply im_zipR | with_reducible apply im_revD | with_reducible apply im_enumS | with_reducible apply im_zipS3 | with_reducible apply im_enumZ)
/-- is_list: slots 0 value -/
def N_is_list : List Str := ["value"]
def ps_is_list : List Str := ["value"]
def c_is_list : C := cret (mIsis [.list, .tuple] (rd 0))
def F_is_list : Fn := fres 1 1 c_is_list
theorem en_is_list (a0 : D) (p : Pst) : F_is_list [a0] p = sres (c_is_list [some (.val a0)] p) := rfl
theorem ip_is_list : IF F_is_list := if_fres _ _ (by
  unfold c_is_list
  repeat' first | with_reducible apply im_ret | with_reducible apply im_rd | with_reducible apply im_op | with_reducible apply im_cmp | with_reducible apply im_b | with_reducible apply im_cons | with_reducible apply ic_seq | with_reducible apply ic_if | with_reducible apply ic_ret | with_reducible apply ic_reto | with_reducible apply ic_retown | with_reducible apply ic_asg | with_reducible apply ic_aso | with_reducible apply ic_frz | with_reducible apply ic_asgW | with_reducible apply ic_app | with_reducible apply ic_pop | with_reducible apply ic_expr | with_reducible apply ic_skip | with_reducible apply ic_stuck | with_reducible apply ic_brk | with_reducible apply ic_cnt | with_reducible apply ic_retN | with_reducible apply ic_for | with_reducible apply ic_while | with_reducible apply it_name | with_reducible apply it_tup | with_reducible apply it_cons | with_reducible apply it_nil | with_reducible apply im_fn | with_reducible apply im_fno | with_reducible apply im_lc | with_reducible apply im_yes | with_reducible apply im_and | with_reducible apply im_or | with_reducible apply im_not | with_reducible apply im_if | with_reducible apply im_frz | with_reducible apply im_lim | with_reducible apply im_tup | with_reducible apply im_call | with_reducible apply im_lst | with_reducible apply im_isi | with_reducible apply im_isis | with_reducible apply im_isN | with_reducible apply im_notN | with_reducible apply im_chain | with_reducible apply im_seq | with_reducible apply im_range1 | with_reducible apply im_range2 | with_reducible apply im_enum | with_reducible apply im_zip | with_reducible apply im_t | with_reducible apply im_notV | with_reducible apply im_andV | with_reducible apply im_orV | with_reducible apply im_part | with_reducible apply im_sl | with_reducible apply im_slo | with_reducible apply im_rev | with_reducible apply im_uV | with_reducible apply im_uO | with_reducible apply im_un | with_reducible apply im_opo | with_reducible apply im_ixO | with_reducible apply im_scal | with_reducible apply im_scalt | with_reducible apply im_index | with_reducible apply im_lrg1 | with_reducible apply im_lrg2 | with_reducible apply ic_ext | with_reducible apply ic_asgT | with_reducible apply it_subO | with_reducible apply im_fnO | with_reducible apply im_fnOo | with_reducible apply im_zipS | with_reducible apply im_zipR | with_reducible apply im_revD | with_reducible apply im_enumS | with_reducible apply im_zipS3 | with_reducible apply im_enumZ)
/-- check_number: slots 0 value, 1 least, 2 most -/
def N_check_number : List Str := ["value", "least", "most"]
def ps_check_number : List Str := ["value", "least", "most"]
def c_check_number : C := cif (mNot (mT (mFn F_is_within 3 0 [0, 1, 2] (mcons (rd 0) (mcons (rd 1) (mcons (rd 2) (mret [])))) (mret [])))) (cstuck) (cskip)
def F_check_number : Fn := fres 3 3 c_check_number
theorem en_check_number (a0 a1 a2 : D) (p : Pst) : F_check_number [a0, a1, a2] p = sres (c_check_number [some (.val a0), some (.val a1), some (.val a2)] p) := rfl
theorem ip_check_number : IF F_check_number := if_fres _ _ (by
  unfold c_check_number
  repeat' first | exact ip_is_within | with_reducible apply im_ret | with_reducible apply im_rd | with_reducible apply im_op | with_reducible apply im_cmp | with_reducible apply im_b | with_reducible apply im_cons | with_reducible apply ic_seq | with_reducible apply ic_if | with_reducible apply ic_ret | with_reducible apply ic_reto | with_reducible apply ic_retown | with_reducible apply ic_asg | with_reducible apply ic_aso | with_reducible apply ic_frz | with_reducible apply ic_asgW | with_reducible apply ic_app | with_reducible apply ic_pop | with_reducible apply ic_expr | with_reducible apply ic_skip | with_reducible apply ic_stuck | with_reducible apply ic_brk | with_reducible apply ic_cnt | with_reducible apply ic_retN | with_reducible apply ic_for | with_reducible apply ic_while | with_reducible apply it_name | with_reducible apply it_tup | with_reducible apply it_cons | with_reducible apply it_nil | with_reducible apply im_fn | with_reducible apply im_fno | with_reducible apply im_lc | with_reducible apply im_yes | with_reducible apply im_and | with_reducible apply im_or | with_reducible apply im_not | with_reducible apply im_if | with_reducible apply im_frz | with_reducible apply im_lim | with_reducible apply im_tup | with_reducible apply im_call | with_reducible apply im_lst | with_reducible apply im_isi | with_reducible apply im_isis | with_reducible apply im_isN | with_reducible apply im_notN | with_reducible apply im_chain | with_reducible apply im_seq | with_reducible apply im_range1 | with_reducible apply im_range2 | with_reducible apply im_enum | with_reducible apply im_zip | with_reducible apply im_t | with_reducible apply im_notV | with_reducible apply im_andV | with_reducible apply im_orV | with_reducible apply im_part | with_reducible apply im_sl | with_reducible apply im_slo | with_reducible apply im_rev | with_reducible apply im_uV | with_reducible apply im_uO | with_reducible apply im_un | with_reducible apply im_opo | with_reducible apply im_ixO | with_reducible apply im_scal | with_reducible apply im_scalt | with_reducible apply im_index | with_reducible apply im_lrg1 | with_reducible apply im_lrg2 | with_reducible apply ic_ext | with_reducible apply ic_asgT | with_reducible apply it_subO | with_reducible apply im_fnO | with_reducible apply im_fnOo | with_reducible apply im_zipS | with_reducible apply im_zipR | with_reducible apply im_revD | with_reducible apply im_enumS | with_reducible apply im_zipS3 | with_reducible apply im_enumZ)
/-- are_coins_of: slots 0 value, 1 one, 2 near, 3 far -/
def N_are_coins_of : List Str := ["value", "one", "near", "far"]
def ps_are_coins_of : List Str := ["value"]
def m_are_coins_of_1 : M (List D) := mLc [1] (mSeq (rd 0)) (fName 1) (mYes) (mFn F_is_within 3 0 [0, 1, 2] (mcons (rd 1) (mcons (mret (.int 1)) (mcons (mret (.int 60)) (mret [])))) (mret []))
def m_are_coins_of_2 : M (List D) := mLc [2, 3] (mZipS (mcons (rd 0) (mcons (mSl (rd 0) (mPart (mret (.int 1))) (mret none)) (mret [])))) (fTup (fCons (fName 2) (fCons (fName 3) (fNil)))) (mYes) (mB (mCmp dLt (rd 2) (rd 3)))
def c_are_coins_of : C := cseq (cif (mOr (mNot (mT (mFn F_is_list 1 0 [0] (mcons (rd 0) (mret [])) (mret [])))) (mNot (mChain iLe iLe (mret (.int 1)) (mCall dLen (mcons (rd 0) (mret []))) (mret (.int 4))))) (cret (mret (.bl false))) (cskip)) (cseq (cif (mNot (mT (mCall dAll (mcons (mfrz (m_are_coins_of_1)) (mret []))))) (cret (mret (.bl false))) (cskip)) (cret (mCall dAll (mcons (mfrz (m_are_coins_of_2)) (mret [])))))
def F_are_coins_of : Fn := fres 4 1 c_are_coins_of
theorem en_are_coins_of (a0 : D) (p : Pst) : F_are_coins_of [a0] p = sres (c_are_coins_of [some (.val a0), none, none, none] p) := rfl
theorem ip_are_coins_of : IF F_are_coins_of := if_fres _ _ (by
  unfold c_are_coins_of
  try unfold m_are_coins_of_2
  try unfold m_are_coins_of_1
  repeat' first | exact ip_is_list | exact ip_is_within | with_reducible apply im_ret | with_reducible apply im_rd | with_reducible apply im_op | with_reducible apply im_cmp | with_reducible apply im_b | with_reducible apply im_cons | with_reducible apply ic_seq | with_reducible apply ic_if | with_reducible apply ic_ret | with_reducible apply ic_reto | with_reducible apply ic_retown | with_reducible apply ic_asg | with_reducible apply ic_aso | with_reducible apply ic_frz | with_reducible apply ic_asgW | with_reducible apply ic_app | with_reducible apply ic_pop | with_reducible apply ic_expr | with_reducible apply ic_skip | with_reducible apply ic_stuck | with_reducible apply ic_brk | with_reducible apply ic_cnt | with_reducible apply ic_retN | with_reducible apply ic_for | with_reducible apply ic_while | with_reducible apply it_name | with_reducible apply it_tup | with_reducible apply it_cons | with_reducible apply it_nil | with_reducible apply im_fn | with_reducible apply im_fno | with_reducible apply im_lc | with_reducible apply im_yes | with_reducible apply im_and | with_reducible apply im_or | with_reducible apply im_not | with_reducible apply im_if | with_reducible apply im_frz | with_reducible apply im_lim | with_reducible apply im_tup | with_reducible apply im_call | with_reducible apply im_lst | with_reducible apply im_isi | with_reducible apply im_isis | with_reducible apply im_isN | with_reducible apply im_notN | with_reducible apply im_chain | with_reducible apply im_seq | with_reducible apply im_range1 | with_reducible apply im_range2 | with_reducible apply im_enum | with_reducible apply im_zip | with_reducible apply im_t | with_reducible apply im_notV | with_reducible apply im_andV | with_reducible apply im_orV | with_reducible apply im_part | with_reducible apply im_sl | with_reducible apply im_slo | with_reducible apply im_rev | with_reducible apply im_uV | with_reducible apply im_uO | with_reducible apply im_un | with_reducible apply im_opo | with_reducible apply im_ixO | with_reducible apply im_scal | with_reducible apply im_scalt | with_reducible apply im_index | with_reducible apply im_lrg1 | with_reducible apply im_lrg2 | with_reducible apply ic_ext | with_reducible apply ic_asgT | with_reducible apply it_subO | with_reducible apply im_fnO | with_reducible apply im_fnOo | with_reducible apply im_zipS | with_reducible apply im_zipR | with_reducible apply im_revD | with_reducible apply im_enumS | with_reducible apply im_zipS3 | with_reducible apply im_enumZ)
/-- check_coins: slots 0 value -/
def N_check_coins : List Str := ["value"]
def ps_check_coins : List Str := ["value"]
def c_check_coins : C := cif (mNot (mT (mFn F_are_coins_of 1 0 [0] (mcons (rd 0) (mret [])) (mret [])))) (cstuck) (cskip)
def F_check_coins : Fn := fres 1 1 c_check_coins
theorem en_check_coins (a0 : D) (p : Pst) : F_check_coins [a0] p = sres (c_check_coins [some (.val a0)] p) := rfl
theorem ip_check_coins : IF F_check_coins := if_fres _ _ (by
  unfold c_check_coins
  repeat' first | exact ip_are_coins_of | with_reducible apply im_ret | with_reducible apply im_rd | with_reducible apply im_op | with_reducible apply im_cmp | with_reducible apply im_b | with_reducible apply im_cons | with_reducible apply ic_seq | with_reducible apply ic_if | with_reducible apply ic_ret | with_reducible apply ic_reto | with_reducible apply ic_retown | with_reducible apply ic_asg | with_reducible apply ic_aso | with_reducible apply ic_frz | with_reducible apply ic_asgW | with_reducible apply ic_app | with_reducible apply ic_pop | with_reducible apply ic_expr | with_reducible apply ic_skip | with_reducible apply ic_stuck | with_reducible apply ic_brk | with_reducible apply ic_cnt | with_reducible apply ic_retN | with_reducible apply ic_for | with_reducible apply ic_while | with_reducible apply it_name | with_reducible apply it_tup | with_reducible apply it_cons | with_reducible apply it_nil | with_reducible apply im_fn | with_reducible apply im_fno | with_reducible apply im_lc | with_reducible apply im_yes | with_reducible apply im_and | with_reducible apply im_or | with_reducible apply im_not | with_reducible apply im_if | with_reducible apply im_frz | with_reducible apply im_lim | with_reducible apply im_tup | with_reducible apply im_call | with_reducible apply im_lst | with_reducible apply im_isi | with_reducible apply im_isis | with_reducible apply im_isN | with_reducible apply im_notN | with_reducible apply im_chain | with_reducible apply im_seq | with_reducible apply im_range1 | with_reducible apply im_range2 | with_reducible apply im_enum | with_reducible apply im_zip | with_reducible apply im_t | with_reducible apply im_notV | with_reducible apply im_andV | with_reducible apply im_orV | with_reducible apply im_part | with_reducible apply im_sl | with_reducible apply im_slo | with_reducible apply im_rev | with_reducible apply im_uV | with_reducible apply im_uO | with_reducible apply im_un | with_reducible apply im_opo | with_reducible apply im_ixO | with_reducible apply im_scal | with_reducible apply im_scalt | with_reducible apply im_index | with_reducible apply im_lrg1 | with_reducible apply im_lrg2 | with_reducible apply ic_ext | with_reducible apply ic_asgT | with_reducible apply it_subO | with_reducible apply im_fnO | with_reducible apply im_fnOo | with_reducible apply im_zipS | with_reducible apply im_zipR | with_reducible apply im_revD | with_reducible apply im_enumS | with_reducible apply im_zipS3 | with_reducible apply im_enumZ)
/-- check_both: slots 0 coins, 1 number, 2 most -/
def N_check_both : List Str := ["coins", "number", "most"]
def ps_check_both : List Str := ["coins", "number", "most"]
def c_check_both : C := cseq (cexpr (mFn F_check_coins 1 0 [0] (mcons (rd 0) (mret [])) (mret []))) (cexpr (mFn F_check_number 3 0 [0, 1, 2] (mcons (rd 1) (mcons (mret (.int 0)) (mcons (rd 2) (mret [])))) (mret [])))
def F_check_both : Fn := fres 3 3 c_check_both
theorem en_check_both (a0 a1 a2 : D) (p : Pst) : F_check_both [a0, a1, a2] p = sres (c_check_both [some (.val a0), some (.val a1), some (.val a2)] p) := rfl
theorem ip_check_both : IF F_check_both := if_fres _ _ (by
  unfold c_check_both
  repeat' first | exact ip_check_coins | exact ip_check_number | with_reducible apply im_ret | with_reducible apply im_rd | with_reducible apply im_op | with_reducible apply im_cmp | with_reducible apply im_b | with_reducible apply im_cons | with_reducible apply ic_seq | with_reducible apply ic_if | with_reducible apply ic_ret | with_reducible apply ic_reto | with_reducible apply ic_retown | with_reducible apply ic_asg | with_reducible apply ic_aso | with_reducible apply ic_frz | with_reducible apply ic_asgW | with_reducible apply ic_app | with_reducible apply ic_pop | with_reducible apply ic_expr | with_reducible apply ic_skip | with_reducible apply ic_stuck | with_reducible apply ic_brk | with_reducible apply ic_cnt | with_reducible apply ic_retN | with_reducible apply ic_for | with_reducible apply ic_while | with_reducible apply it_name | with_reducible apply it_tup | with_reducible apply it_cons | with_reducible apply it_nil | with_reducible apply im_fn | with_reducible apply im_fno | with_reducible apply im_lc | with_reducible apply im_yes | with_reducible apply im_and | with_reducible apply im_or | with_reducible apply im_not | with_reducible apply im_if | with_reducible apply im_frz | with_reducible apply im_lim | with_reducible apply im_tup | with_reducible apply im_call | with_reducible apply im_lst | with_reducible apply im_isi | with_reducible apply im_isis | with_reducible apply im_isN | with_reducible apply im_notN | with_reducible apply im_chain | with_reducible apply im_seq | with_reducible apply im_range1 | with_reducible apply im_range2 | with_reducible apply im_enum | with_reducible apply im_zip | with_reducible apply im_t | with_reducible apply im_notV | with_reducible apply im_andV | with_reducible apply im_orV | with_reducible apply im_part | with_reducible apply im_sl | with_reducible apply im_slo | with_reducible apply im_rev | with_reducible apply im_uV | with_reducible apply im_uO | with_reducible apply im_un | with_reducible apply im_opo | with_reducible apply im_ixO | with_reducible apply im_scal | with_reducible apply im_scalt | with_reducible apply im_index | with_reducible apply im_lrg1 | with_reducible apply im_lrg2 | with_reducible apply ic_ext | with_reducible apply ic_asgT | with_reducible apply it_subO | with_reducible apply im_fnO | with_reducible apply im_fnOo | with_reducible apply im_zipS | with_reducible apply im_zipR | with_reducible apply im_revD | with_reducible apply im_enumS | with_reducible apply im_zipS3 | with_reducible apply im_enumZ)
/-- leasts_of: slots 0 coins, 1 first, 2 found, 3 last, 4 late, 5 place, 6 coin, 7 number, 8 there -/
def N_leasts_of : List Str := ["coins", "first", "found", "last", "late", "place", "coin", "number", "there"]
def ps_leasts_of : List Str := ["coins"]
def b_leasts_of_1 : C := cseq (casgW [7, 8] (muV (mOp dAdd (mIxO 2 (rd 5)) (rd 6)) (muV (mOp dMod (mCall dInt (mcons (mOp dAdd (rd 5) (rd 6)) (mret []))) (rd 1)) (mret [])))) (cif (mOr (mIsN (mIxO 2 (rd 8))) (mCmp dLt (rd 7) (mIxO 2 (rd 8)))) (cseq (casgT (tgSubO 2 (rd 8)) (rd 7)) (capp 4 (rd 8))) (cskip))
def b_leasts_of_2 : C := cfor (mSeq (mSl (rd 0) (mPart (mret (.int 1))) (mret none))) (tgName 6) (b_leasts_of_1)
def b_leasts_of_3 : C := cseq (caso 4 (mlim (mret []))) (cseq (cfor (mSeq (rd 3)) (tgName 5) (b_leasts_of_2)) (cseq (cfrz 4) (casg 3 (rd 4))))
def t_leasts_of_4 : M Bool := mCmp dNe (rd 3) (mfrz (mlim (mret [])))
def c_leasts_of : C := cseq (casg 1 (mOp dIx (rd 0) (mret (.int 0)))) (cseq (casgW [2, 3] (muO (mOpo dRepO (mfrz (mlim (mcons (mret .non) (mret [])))) (rd 1)) (muV (mfrz (mlim (mcons (mret (.int 0)) (mret [])))) (mret [])))) (cseq (casgT (tgSubO 2 (mret (.int 0))) (mret (.int 0))) (cseq (cwhile (t_leasts_of_4) (b_leasts_of_3) FUEL) (cretown 2))))
def F_leasts_of : Fn := fres 9 1 c_leasts_of
theorem en_leasts_of (a0 : D) (p : Pst) : F_leasts_of [a0] p = sres (c_leasts_of [some (.val a0), none, none, none, none, none, none, none, none] p) := rfl
theorem ip_leasts_of : IF F_leasts_of := if_fres _ _ (by
  unfold c_leasts_of
  try unfold t_leasts_of_4
  try unfold b_leasts_of_3
  try unfold b_leasts_of_2
  try unfold b_leasts_of_1
  repeat' first | with_reducible apply im_ret | with_reducible apply im_rd | with_reducible apply im_op | with_reducible apply im_cmp | with_reducible apply im_b | with_reducible apply im_cons | with_reducible apply ic_seq | with_reducible apply ic_if | with_reducible apply ic_ret | with_reducible apply ic_reto | with_reducible apply ic_retown | with_reducible apply ic_asg | with_reducible apply ic_aso | with_reducible apply ic_frz | with_reducible apply ic_asgW | with_reducible apply ic_app | with_reducible apply ic_pop | with_reducible apply ic_expr | with_reducible apply ic_skip | with_reducible apply ic_stuck | with_reducible apply ic_brk | with_reducible apply ic_cnt | with_reducible apply ic_retN | with_reducible apply ic_for | with_reducible apply ic_while | with_reducible apply it_name | with_reducible apply it_tup | with_reducible apply it_cons | with_reducible apply it_nil | with_reducible apply im_fn | with_reducible apply im_fno | with_reducible apply im_lc | with_reducible apply im_yes | with_reducible apply im_and | with_reducible apply im_or | with_reducible apply im_not | with_reducible apply im_if | with_reducible apply im_frz | with_reducible apply im_lim | with_reducible apply im_tup | with_reducible apply im_call | with_reducible apply im_lst | with_reducible apply im_isi | with_reducible apply im_isis | with_reducible apply im_isN | with_reducible apply im_notN | with_reducible apply im_chain | with_reducible apply im_seq | with_reducible apply im_range1 | with_reducible apply im_range2 | with_reducible apply im_enum | with_reducible apply im_zip | with_reducible apply im_t | with_reducible apply im_notV | with_reducible apply im_andV | with_reducible apply im_orV | with_reducible apply im_part | with_reducible apply im_sl | with_reducible apply im_slo | with_reducible apply im_rev | with_reducible apply im_uV | with_reducible apply im_uO | with_reducible apply im_un | with_reducible apply im_opo | with_reducible apply im_ixO | with_reducible apply im_scal | with_reducible apply im_scalt | with_reducible apply im_index | with_reducible apply im_lrg1 | with_reducible apply im_lrg2 | with_reducible apply ic_ext | with_reducible apply ic_asgT | with_reducible apply it_subO | with_reducible apply im_fnO | with_reducible apply im_fnOo | with_reducible apply im_zipS | with_reducible apply im_zipR | with_reducible apply im_revD | with_reducible apply im_enumS | with_reducible apply im_zipS3 | with_reducible apply im_enumZ)
/-- fewest_rows: slots 0 coins, 1 number, 2 found, 3 coin, 4 row, 5 here, 6 known, 7 some -/
def N_fewest_rows : List Str := ["coins", "number", "found", "coin", "row", "here", "known", "some"]
def ps_fewest_rows : List Str := ["coins", "number"]
def b_fewest_rows_1 : C := cseq (caso 7 (mIf (mNotN (rd 6)) (mlim (mcons (rd 6) (mret []))) (mlim (mret [])))) (cseq (cif (mAnd (mCmp dGe (rd 5) (rd 3)) (mNotN (mIxO 4 (mOp dSub (rd 5) (rd 3))))) (capp 7 (mOp dAdd (mIxO 4 (mOp dSub (rd 5) (rd 3))) (mret (.int 1)))) (cskip)) (capp 4 (mIf (mscalt (mCmp dNe (rd 7) (mfrz (mlim (mret []))))) (mscal (mCall dMin1 (mcons (rd 7) (mret [])))) (mret .non))))
def b_fewest_rows_2 : C := cseq (caso 4 (mlim (mret []))) (cseq (cfor (mEnum (mcons (mOp dIx (rd 2) (mret (.int 0))) (mret []))) (tgTup 2 (tgCons (tgName 5) (tgCons (tgName 6) (tgNil)))) (b_fewest_rows_1)) (cseq (cfrz 4) (casg 2 (mOp dAdd (mfrz (mlim (mcons (rd 4) (mret [])))) (rd 2)))))
def c_fewest_rows : C := cseq (casg 2 (mfrz (mlim (mcons (mOp dAdd (mfrz (mlim (mcons (mret (.int 0)) (mret [])))) (mOp dMul (mfrz (mlim (mcons (mret .non) (mret [])))) (rd 1))) (mret []))))) (cseq (cfor (mSeq (mfrz (mRevo (rd 0)))) (tgName 3) (b_fewest_rows_2)) (cret (rd 2)))
def F_fewest_rows : Fn := fres 8 2 c_fewest_rows
theorem en_fewest_rows (a0 a1 : D) (p : Pst) : F_fewest_rows [a0, a1] p = sres (c_fewest_rows [some (.val a0), some (.val a1), none, none, none, none, none, none] p) := rfl
theorem ip_fewest_rows : IF F_fewest_rows := if_fres _ _ (by
  unfold c_fewest_rows
  try unfold b_fewest_rows_2
  try unfold b_fewest_rows_1
  repeat' first | with_reducible apply im_ret | with_reducible apply im_rd | with_reducible apply im_op | with_reducible apply im_cmp | with_reducible apply im_b | with_reducible apply im_cons | with_reducible apply ic_seq | with_reducible apply ic_if | with_reducible apply ic_ret | with_reducible apply ic_reto | with_reducible apply ic_retown | with_reducible apply ic_asg | with_reducible apply ic_aso | with_reducible apply ic_frz | with_reducible apply ic_asgW | with_reducible apply ic_app | with_reducible apply ic_pop | with_reducible apply ic_expr | with_reducible apply ic_skip | with_reducible apply ic_stuck | with_reducible apply ic_brk | with_reducible apply ic_cnt | with_reducible apply ic_retN | with_reducible apply ic_for | with_reducible apply ic_while | with_reducible apply it_name | with_reducible apply it_tup | with_reducible apply it_cons | with_reducible apply it_nil | with_reducible apply im_fn | with_reducible apply im_fno | with_reducible apply im_lc | with_reducible apply im_yes | with_reducible apply im_and | with_reducible apply im_or | with_reducible apply im_not | with_reducible apply im_if | with_reducible apply im_frz | with_reducible apply im_lim | with_reducible apply im_tup | with_reducible apply im_call | with_reducible apply im_lst | with_reducible apply im_isi | with_reducible apply im_isis | with_reducible apply im_isN | with_reducible apply im_notN | with_reducible apply im_chain | with_reducible apply im_seq | with_reducible apply im_range1 | with_reducible apply im_range2 | with_reducible apply im_enum | with_reducible apply im_zip | with_reducible apply im_t | with_reducible apply im_notV | with_reducible apply im_andV | with_reducible apply im_orV | with_reducible apply im_part | with_reducible apply im_sl | with_reducible apply im_slo | with_reducible apply im_rev | with_reducible apply im_uV | with_reducible apply im_uO | with_reducible apply im_un | with_reducible apply im_opo | with_reducible apply im_ixO | with_reducible apply im_scal | with_reducible apply im_scalt | with_reducible apply im_index | with_reducible apply im_lrg1 | with_reducible apply im_lrg2 | with_reducible apply ic_ext | with_reducible apply ic_asgT | with_reducible apply it_subO | with_reducible apply im_fnO | with_reducible apply im_fnOo | with_reducible apply im_zipS | with_reducible apply im_zipR | with_reducible apply im_revD | with_reducible apply im_enumS | with_reducible apply im_zipS3 | with_reducible apply im_enumZ)
/-- told_list: slots 0 coins, 1 number, 2 rows, 3 found, 4 left, 5 at, 6 coin, 7 some, 8 goal, 9 rest, 10 often -/
def N_told_list : List Str := ["coins", "number", "rows", "found", "left", "at", "coin", "some", "goal", "rest", "often"]
def ps_told_list : List Str := ["coins", "number"]
def m_told_list_1 : M (List D) := mLc [10] (mRange1 (mcons (mOp dAdd (mOp dDiv (rd 4) (rd 6)) (mret (.int 1))) (mret []))) (fName 10) (mCmp dEq (mOp dIx (rd 9) (mOp dSub (rd 4) (mOp dMul (rd 10) (rd 6)))) (mOp dSub (rd 8) (rd 10))) (rd 10)
def b_told_list_2 : C := cseq (casgW [8, 9] (muV (mOp dIx (mOp dIx (rd 2) (rd 5)) (rd 4)) (muV (mOp dIx (rd 2) (mOp dAdd (rd 5) (mret (.int 1)))) (mret [])))) (cseq (casg 7 (mfrz (m_told_list_1))) (cseq (capp 3 (mOp dIx (rd 7) (mret (.int 0)))) (casg 4 (mOp dSub (rd 4) (mOp dMul (mOp dIx (rd 7) (mret (.int 0))) (rd 6))))))
def c_told_list : C := cseq (casg 2 (mFn F_fewest_rows 2 0 [0, 1] (mcons (rd 0) (mcons (rd 1) (mret []))) (mret []))) (cseq (cif (mIsN (mOp dIx (mOp dIx (rd 2) (mret (.int 0))) (rd 1))) (cret (mret .non)) (cskip)) (cseq (casgW [3, 4] (muO (mlim (mret [])) (muV (rd 1) (mret [])))) (cseq (cfor (mEnum (mcons (rd 0) (mret []))) (tgTup 2 (tgCons (tgName 5) (tgCons (tgName 6) (tgNil)))) (b_told_list_2)) (cretown 3))))
def F_told_list : Fn := fres 11 2 c_told_list
theorem en_told_list (a0 a1 : D) (p : Pst) : F_told_list [a0, a1] p = sres (c_told_list [some (.val a0), some (.val a1), none, none, none, none, none, none, none, none, none] p) := rfl
theorem ip_told_list : IF F_told_list := if_fres _ _ (by
  unfold c_told_list
  try unfold b_told_list_2
  try unfold m_told_list_1
  repeat' first | exact ip_fewest_rows | with_reducible apply im_ret | with_reducible apply im_rd | with_reducible apply im_op | with_reducible apply im_cmp | with_reducible apply im_b | with_reducible apply im_cons | with_reducible apply ic_seq | with_reducible apply ic_if | with_reducible apply ic_ret | with_reducible apply ic_reto | with_reducible apply ic_retown | with_reducible apply ic_asg | with_reducible apply ic_aso | with_reducible apply ic_frz | with_reducible apply ic_asgW | with_reducible apply ic_app | with_reducible apply ic_pop | with_reducible apply ic_expr | with_reducible apply ic_skip | with_reducible apply ic_stuck | with_reducible apply ic_brk | with_reducible apply ic_cnt | with_reducible apply ic_retN | with_reducible apply ic_for | with_reducible apply ic_while | with_reducible apply it_name | with_reducible apply it_tup | with_reducible apply it_cons | with_reducible apply it_nil | with_reducible apply im_fn | with_reducible apply im_fno | with_reducible apply im_lc | with_reducible apply im_yes | with_reducible apply im_and | with_reducible apply im_or | with_reducible apply im_not | with_reducible apply im_if | with_reducible apply im_frz | with_reducible apply im_lim | with_reducible apply im_tup | with_reducible apply im_call | with_reducible apply im_lst | with_reducible apply im_isi | with_reducible apply im_isis | with_reducible apply im_isN | with_reducible apply im_notN | with_reducible apply im_chain | with_reducible apply im_seq | with_reducible apply im_range1 | with_reducible apply im_range2 | with_reducible apply im_enum | with_reducible apply im_zip | with_reducible apply im_t | with_reducible apply im_notV | with_reducible apply im_andV | with_reducible apply im_orV | with_reducible apply im_part | with_reducible apply im_sl | with_reducible apply im_slo | with_reducible apply im_rev | with_reducible apply im_uV | with_reducible apply im_uO | with_reducible apply im_un | with_reducible apply im_opo | with_reducible apply im_ixO | with_reducible apply im_scal | with_reducible apply im_scalt | with_reducible apply im_index | with_reducible apply im_lrg1 | with_reducible apply im_lrg2 | with_reducible apply ic_ext | with_reducible apply ic_asgT | with_reducible apply it_subO | with_reducible apply im_fnO | with_reducible apply im_fnOo | with_reducible apply im_zipS | with_reducible apply im_zipR | with_reducible apply im_revD | with_reducible apply im_enumS | with_reducible apply im_zipS3 | with_reducible apply im_enumZ)
/-- is_low_list_of: slots 0 coins, 1 value, 2 first, 3 place, 4 one, 5 coin, 6 late -/
def N_is_low_list_of : List Str := ["coins", "value", "first", "place", "one", "coin", "late"]
def ps_is_low_list_of : List Str := ["coins", "value"]
def m_is_low_list_of_1 : M (List D) := mLc [4] (mSeq (rd 1)) (fName 4) (mYes) (mOrV (mB (mIsN (rd 4))) (mFn F_is_integer 1 0 [0] (mcons (rd 4) (mret [])) (mret [])))
def b_is_low_list_of_2 : C := cseq (casg 6 (mOp dIx (rd 1) (mOp dMod (mCall dInt (mcons (mOp dAdd (rd 3) (rd 5)) (mret []))) (rd 2)))) (cif (mOr (mIsN (rd 6)) (mCmp dGt (rd 6) (mOp dAdd (rd 4) (rd 5)))) (cret (mret (.bl false))) (cskip))
def b_is_low_list_of_3 : C := cfor (mSeq (mIf (mNotN (rd 4)) (rd 0) (mfrz (mlim (mret []))))) (tgName 5) (b_is_low_list_of_2)
def c_is_low_list_of : C := cseq (casg 2 (mOp dIx (rd 0) (mret (.int 0)))) (cseq (cif (mOr (mNot (mT (mFn F_is_list 1 0 [0] (mcons (rd 1) (mret [])) (mret [])))) (mOr (mCmp dNe (mCall dLen (mcons (rd 1) (mret []))) (rd 2)) (mNot (mT (mCall dAll (mcons (mfrz (m_is_low_list_of_1)) (mret []))))))) (cret (mret (.bl false))) (cskip)) (cseq (cif (mOr (mIsN (mOp dIx (rd 1) (mret (.int 0)))) (mCmp dGt (mOp dIx (rd 1) (mret (.int 0))) (mret (.int 0)))) (cret (mret (.bl false))) (cskip)) (cseq (cfor (mEnumS (mcons (rd 1) (mret []))) (tgTup 2 (tgCons (tgName 3) (tgCons (tgName 4) (tgNil)))) (b_is_low_list_of_3)) (cret (mret (.bl true))))))
def F_is_low_list_of : Fn := fres 7 2 c_is_low_list_of
theorem en_is_low_list_of (a0 a1 : D) (p : Pst) : F_is_low_list_of [a0, a1] p = sres (c_is_low_list_of [some (.val a0), some (.val a1), none, none, none, none, none] p) := rfl
theorem ip_is_low_list_of : IF F_is_low_list_of := if_fres _ _ (by
  unfold c_is_low_list_of
  try unfold b_is_low_list_of_3
  try unfold b_is_low_list_of_2
  try unfold m_is_low_list_of_1
  repeat' first | exact ip_is_integer | exact ip_is_list | with_reducible apply im_ret | with_reducible apply im_rd | with_reducible apply im_op | with_reducible apply im_cmp | with_reducible apply im_b | with_reducible apply im_cons | with_reducible apply ic_seq | with_reducible apply ic_if | with_reducible apply ic_ret | with_reducible apply ic_reto | with_reducible apply ic_retown | with_reducible apply ic_asg | with_reducible apply ic_aso | with_reducible apply ic_frz | with_reducible apply ic_asgW | with_reducible apply ic_app | with_reducible apply ic_pop | with_reducible apply ic_expr | with_reducible apply ic_skip | with_reducible apply ic_stuck | with_reducible apply ic_brk | with_reducible apply ic_cnt | with_reducible apply ic_retN | with_reducible apply ic_for | with_reducible apply ic_while | with_reducible apply it_name | with_reducible apply it_tup | with_reducible apply it_cons | with_reducible apply it_nil | with_reducible apply im_fn | with_reducible apply im_fno | with_reducible apply im_lc | with_reducible apply im_yes | with_reducible apply im_and | with_reducible apply im_or | with_reducible apply im_not | with_reducible apply im_if | with_reducible apply im_frz | with_reducible apply im_lim | with_reducible apply im_tup | with_reducible apply im_call | with_reducible apply im_lst | with_reducible apply im_isi | with_reducible apply im_isis | with_reducible apply im_isN | with_reducible apply im_notN | with_reducible apply im_chain | with_reducible apply im_seq | with_reducible apply im_range1 | with_reducible apply im_range2 | with_reducible apply im_enum | with_reducible apply im_zip | with_reducible apply im_t | with_reducible apply im_notV | with_reducible apply im_andV | with_reducible apply im_orV | with_reducible apply im_part | with_reducible apply im_sl | with_reducible apply im_slo | with_reducible apply im_rev | with_reducible apply im_uV | with_reducible apply im_uO | with_reducible apply im_un | with_reducible apply im_opo | with_reducible apply im_ixO | with_reducible apply im_scal | with_reducible apply im_scalt | with_reducible apply im_index | with_reducible apply im_lrg1 | with_reducible apply im_lrg2 | with_reducible apply ic_ext | with_reducible apply ic_asgT | with_reducible apply it_subO | with_reducible apply im_fnO | with_reducible apply im_fnOo | with_reducible apply im_zipS | with_reducible apply im_zipR | with_reducible apply im_revD | with_reducible apply im_enumS | with_reducible apply im_zipS3 | with_reducible apply im_enumZ)
/-- does_bar: slots 0 coins, 1 number, 2 lows, 3 low -/
def N_does_bar : List Str := ["coins", "number", "lows", "low"]
def ps_does_bar : List Str := ["coins", "number", "lows"]
def c_does_bar : C := cseq (casg 3 (mOp dIx (rd 2) (mOp dMod (mCall dInt (mcons (rd 1) (mret []))) (mOp dIx (rd 0) (mret (.int 0)))))) (cret (mOrV (mB (mIsN (rd 3))) (mB (mCmp dGt (rd 3) (rd 1)))))
def F_does_bar : Fn := fres 4 3 c_does_bar
theorem en_does_bar (a0 a1 a2 : D) (p : Pst) : F_does_bar [a0, a1, a2] p = sres (c_does_bar [some (.val a0), some (.val a1), some (.val a2), none] p) := rfl
theorem ip_does_bar : IF F_does_bar := if_fres _ _ (by
  unfold c_does_bar
  repeat' first | with_reducible apply im_ret | with_reducible apply im_rd | with_reducible apply im_op | with_reducible apply im_cmp | with_reducible apply im_b | with_reducible apply im_cons | with_reducible apply ic_seq | with_reducible apply ic_if | with_reducible apply ic_ret | with_reducible apply ic_reto | with_reducible apply ic_retown | with_reducible apply ic_asg | with_reducible apply ic_aso | with_reducible apply ic_frz | with_reducible apply ic_asgW | with_reducible apply ic_app | with_reducible apply ic_pop | with_reducible apply ic_expr | with_reducible apply ic_skip | with_reducible apply ic_stuck | with_reducible apply ic_brk | with_reducible apply ic_cnt | with_reducible apply ic_retN | with_reducible apply ic_for | with_reducible apply ic_while | with_reducible apply it_name | with_reducible apply it_tup | with_reducible apply it_cons | with_reducible apply it_nil | with_reducible apply im_fn | with_reducible apply im_fno | with_reducible apply im_lc | with_reducible apply im_yes | with_reducible apply im_and | with_reducible apply im_or | with_reducible apply im_not | with_reducible apply im_if | with_reducible apply im_frz | with_reducible apply im_lim | with_reducible apply im_tup | with_reducible apply im_call | with_reducible apply im_lst | with_reducible apply im_isi | with_reducible apply im_isis | with_reducible apply im_isN | with_reducible apply im_notN | with_reducible apply im_chain | with_reducible apply im_seq | with_reducible apply im_range1 | with_reducible apply im_range2 | with_reducible apply im_enum | with_reducible apply im_zip | with_reducible apply im_t | with_reducible apply im_notV | with_reducible apply im_andV | with_reducible apply im_orV | with_reducible apply im_part | with_reducible apply im_sl | with_reducible apply im_slo | with_reducible apply im_rev | with_reducible apply im_uV | with_reducible apply im_uO | with_reducible apply im_un | with_reducible apply im_opo | with_reducible apply im_ixO | with_reducible apply im_scal | with_reducible apply im_scalt | with_reducible apply im_index | with_reducible apply im_lrg1 | with_reducible apply im_lrg2 | with_reducible apply ic_ext | with_reducible apply ic_asgT | with_reducible apply it_subO | with_reducible apply im_fnO | with_reducible apply im_fnOo | with_reducible apply im_zipS | with_reducible apply im_zipR | with_reducible apply im_revD | with_reducible apply im_enumS | with_reducible apply im_zipS3 | with_reducible apply im_enumZ)
/-- are_coins: slots 0 value -/
def N_are_coins : List Str := ["value"]
def ps_are_coins : List Str := ["value"]
def c_are_coins : C := cret (mFn F_are_coins_of 1 0 [0] (mcons (rd 0) (mret [])) (mret []))
def F_are_coins : Fn := fres 1 1 c_are_coins
theorem en_are_coins (a0 : D) (p : Pst) : F_are_coins [a0] p = sres (c_are_coins [some (.val a0)] p) := rfl
theorem ip_are_coins : IF F_are_coins := if_fres _ _ (by
  unfold c_are_coins
  repeat' first | exact ip_are_coins_of | with_reducible apply im_ret | with_reducible apply im_rd | with_reducible apply im_op | with_reducible apply im_cmp | with_reducible apply im_b | with_reducible apply im_cons | with_reducible apply ic_seq | with_reducible apply ic_if | with_reducible apply ic_ret | with_reducible apply ic_reto | with_reducible apply ic_retown | with_reducible apply ic_asg | with_reducible apply ic_aso | with_reducible apply ic_frz | with_reducible apply ic_asgW | with_reducible apply ic_app | with_reducible apply ic_pop | with_reducible apply ic_expr | with_reducible apply ic_skip | with_reducible apply ic_stuck | with_reducible apply ic_brk | with_reducible apply ic_cnt | with_reducible apply ic_retN | with_reducible apply ic_for | with_reducible apply ic_while | with_reducible apply it_name | with_reducible apply it_tup | with_reducible apply it_cons | with_reducible apply it_nil | with_reducible apply im_fn | with_reducible apply im_fno | with_reducible apply im_lc | with_reducible apply im_yes | with_reducible apply im_and | with_reducible apply im_or | with_reducible apply im_not | with_reducible apply im_if | with_reducible apply im_frz | with_reducible apply im_lim | with_reducible apply im_tup | with_reducible apply im_call | with_reducible apply im_lst | with_reducible apply im_isi | with_reducible apply im_isis | with_reducible apply im_isN | with_reducible apply im_notN | with_reducible apply im_chain | with_reducible apply im_seq | with_reducible apply im_range1 | with_reducible apply im_range2 | with_reducible apply im_enum | with_reducible apply im_zip | with_reducible apply im_t | with_reducible apply im_notV | with_reducible apply im_andV | with_reducible apply im_orV | with_reducible apply im_part | with_reducible apply im_sl | with_reducible apply im_slo | with_reducible apply im_rev | with_reducible apply im_uV | with_reducible apply im_uO | with_reducible apply im_un | with_reducible apply im_opo | with_reducible apply im_ixO | with_reducible apply im_scal | with_reducible apply im_scalt | with_reducible apply im_index | with_reducible apply im_lrg1 | with_reducible apply im_lrg2 | with_reducible apply ic_ext | with_reducible apply ic_asgT | with_reducible apply it_subO | with_reducible apply im_fnO | with_reducible apply im_fnOo | with_reducible apply im_zipS | with_reducible apply im_zipR | with_reducible apply im_revD | with_reducible apply im_enumS | with_reducible apply im_zipS3 | with_reducible apply im_enumZ)
/-- coin_list: slots 0 coins, 1 number -/
def N_coin_list : List Str := ["coins", "number"]
def ps_coin_list : List Str := ["coins", "number"]
def c_coin_list : C := cseq (cexpr (mFn F_check_both 3 0 [0, 1, 2] (mcons (rd 0) (mcons (rd 1) (mcons (mret (.int 9999)) (mret [])))) (mret []))) (cret (mFn F_told_list 2 0 [0, 1] (mcons (rd 0) (mcons (rd 1) (mret []))) (mret [])))
def F_coin_list : Fn := fres 2 2 c_coin_list
theorem en_coin_list (a0 a1 : D) (p : Pst) : F_coin_list [a0, a1] p = sres (c_coin_list [some (.val a0), some (.val a1)] p) := rfl
theorem ip_coin_list : IF F_coin_list := if_fres _ _ (by
  unfold c_coin_list
  repeat' first | exact ip_check_both | exact ip_told_list | with_reducible apply im_ret | with_reducible apply im_rd | with_reducible apply im_op | with_reducible apply im_cmp | with_reducible apply im_b | with_reducible apply im_cons | with_reducible apply ic_seq | with_reducible apply ic_if | with_reducible apply ic_ret | with_reducible apply ic_reto | with_reducible apply ic_retown | with_reducible apply ic_asg | with_reducible apply ic_aso | with_reducible apply ic_frz | with_reducible apply ic_asgW | with_reducible apply ic_app | with_reducible apply ic_pop | with_reducible apply ic_expr | with_reducible apply ic_skip | with_reducible apply ic_stuck | with_reducible apply ic_brk | with_reducible apply ic_cnt | with_reducible apply ic_retN | with_reducible apply ic_for | with_reducible apply ic_while | with_reducible apply it_name | with_reducible apply it_tup | with_reducible apply it_cons | with_reducible apply it_nil | with_reducible apply im_fn | with_reducible apply im_fno | with_reducible apply im_lc | with_reducible apply im_yes | with_reducible apply im_and | with_reducible apply im_or | with_reducible apply im_not | with_reducible apply im_if | with_reducible apply im_frz | with_reducible apply im_lim | with_reducible apply im_tup | with_reducible apply im_call | with_reducible apply im_lst | with_reducible apply im_isi | with_reducible apply im_isis | with_reducible apply im_isN | with_reducible apply im_notN | with_reducible apply im_chain | with_reducible apply im_seq | with_reducible apply im_range1 | with_reducible apply im_range2 | with_reducible apply im_enum | with_reducible apply im_zip | with_reducible apply im_t | with_reducible apply im_notV | with_reducible apply im_andV | with_reducible apply im_orV | with_reducible apply im_part | with_reducible apply im_sl | with_reducible apply im_slo | with_reducible apply im_rev | with_reducible apply im_uV | with_reducible apply im_uO | with_reducible apply im_un | with_reducible apply im_opo | with_reducible apply im_ixO | with_reducible apply im_scal | with_reducible apply im_scalt | with_reducible apply im_index | with_reducible apply im_lrg1 | with_reducible apply im_lrg2 | with_reducible apply ic_ext | with_reducible apply ic_asgT | with_reducible apply it_subO | with_reducible apply im_fnO | with_reducible apply im_fnOo | with_reducible apply im_zipS | with_reducible apply im_zipR | with_reducible apply im_revD | with_reducible apply im_enumS | with_reducible apply im_zipS3 | with_reducible apply im_enumZ)
/-- is_coin_list: slots 0 coins, 1 number, 2 value, 3 one, 4 coin -/
def N_is_coin_list : List Str := ["coins", "number", "value", "one", "coin"]
def ps_is_coin_list : List Str := ["coins", "number", "value"]
def m_is_coin_list_1 : M (List D) := mLc [3] (mSeq (rd 2)) (fName 3) (mYes) (mFn F_is_count 1 0 [0] (mcons (rd 3) (mret [])) (mret []))
def m_is_coin_list_2 : M (List D) := mLc [3, 4] (mZipS (mcons (rd 2) (mcons (rd 0) (mret [])))) (fTup (fCons (fName 3) (fCons (fName 4) (fNil)))) (mYes) (mOp dMul (rd 3) (rd 4))
def c_is_coin_list : C := cseq (cexpr (mFn F_check_both 3 0 [0, 1, 2] (mcons (rd 0) (mcons (rd 1) (mcons (mret (.int 9999)) (mret [])))) (mret []))) (cseq (cif (mOr (mNot (mT (mFn F_is_list 1 0 [0] (mcons (rd 2) (mret [])) (mret [])))) (mOr (mCmp dNe (mCall dLen (mcons (rd 2) (mret []))) (mCall dLen (mcons (rd 0) (mret [])))) (mNot (mT (mCall dAll (mcons (mfrz (m_is_coin_list_1)) (mret []))))))) (cret (mret (.bl false))) (cskip)) (cret (mB (mCmp dEq (mCall dSum (mcons (mfrz (m_is_coin_list_2)) (mret []))) (rd 1)))))
def F_is_coin_list : Fn := fres 5 3 c_is_coin_list
theorem en_is_coin_list (a0 a1 a2 : D) (p : Pst) : F_is_coin_list [a0, a1, a2] p = sres (c_is_coin_list [some (.val a0), some (.val a1), some (.val a2), none, none] p) := rfl
theorem ip_is_coin_list : IF F_is_coin_list := if_fres _ _ (by
  unfold c_is_coin_list
  try unfold m_is_coin_list_2
  try unfold m_is_coin_list_1
  repeat' first | exact ip_check_both | exact ip_is_count | exact ip_is_list | with_reducible apply im_ret | with_reducible apply im_rd | with_reducible apply im_op | with_reducible apply im_cmp | with_reducible apply im_b | with_reducible apply im_cons | with_reducible apply ic_seq | with_reducible apply ic_if | with_reducible apply ic_ret | with_reducible apply ic_reto | with_reducible apply ic_retown | with_reducible apply ic_asg | with_reducible apply ic_aso | with_reducible apply ic_frz | with_reducible apply ic_asgW | with_reducible apply ic_app | with_reducible apply ic_pop | with_reducible apply ic_expr | with_reducible apply ic_skip | with_reducible apply ic_stuck | with_reducible apply ic_brk | with_reducible apply ic_cnt | with_reducible apply ic_retN | with_reducible apply ic_for | with_reducible apply ic_while | with_reducible apply it_name | with_reducible apply it_tup | with_reducible apply it_cons | with_reducible apply it_nil | with_reducible apply im_fn | with_reducible apply im_fno | with_reducible apply im_lc | with_reducible apply im_yes | with_reducible apply im_and | with_reducible apply im_or | with_reducible apply im_not | with_reducible apply im_if | with_reducible apply im_frz | with_reducible apply im_lim | with_reducible apply im_tup | with_reducible apply im_call | with_reducible apply im_lst | with_reducible apply im_isi | with_reducible apply im_isis | with_reducible apply im_isN | with_reducible apply im_notN | with_reducible apply im_chain | with_reducible apply im_seq | with_reducible apply im_range1 | with_reducible apply im_range2 | with_reducible apply im_enum | with_reducible apply im_zip | with_reducible apply im_t | with_reducible apply im_notV | with_reducible apply im_andV | with_reducible apply im_orV | with_reducible apply im_part | with_reducible apply im_sl | with_reducible apply im_slo | with_reducible apply im_rev | with_reducible apply im_uV | with_reducible apply im_uO | with_reducible apply im_un | with_reducible apply im_opo | with_reducible apply im_ixO | with_reducible apply im_scal | with_reducible apply im_scalt | with_reducible apply im_index | with_reducible apply im_lrg1 | with_reducible apply im_lrg2 | with_reducible apply ic_ext | with_reducible apply ic_asgT | with_reducible apply it_subO | with_reducible apply im_fnO | with_reducible apply im_fnOo | with_reducible apply im_zipS | with_reducible apply im_zipR | with_reducible apply im_revD | with_reducible apply im_enumS | with_reducible apply im_zipS3 | with_reducible apply im_enumZ)
/-- low_bar: slots 0 coins, 1 number, 2 lows -/
def N_low_bar : List Str := ["coins", "number", "lows"]
def ps_low_bar : List Str := ["coins", "number"]
def c_low_bar : C := cseq (cexpr (mFn F_check_both 3 0 [0, 1, 2] (mcons (rd 0) (mcons (rd 1) (mcons (mret (.int 9999)) (mret [])))) (mret []))) (cseq (casg 2 (mFn F_leasts_of 1 0 [0] (mcons (rd 0) (mret [])) (mret []))) (cret (mIf (mT (mFn F_does_bar 3 0 [0, 1, 2] (mcons (rd 0) (mcons (rd 1) (mcons (rd 2) (mret [])))) (mret []))) (rd 2) (mret .non))))
def F_low_bar : Fn := fres 3 2 c_low_bar
theorem en_low_bar (a0 a1 : D) (p : Pst) : F_low_bar [a0, a1] p = sres (c_low_bar [some (.val a0), some (.val a1), none] p) := rfl
theorem ip_low_bar : IF F_low_bar := if_fres _ _ (by
  unfold c_low_bar
  repeat' first | exact ip_check_both | exact ip_does_bar | exact ip_leasts_of | with_reducible apply im_ret | with_reducible apply im_rd | with_reducible apply im_op | with_reducible apply im_cmp | with_reducible apply im_b | with_reducible apply im_cons | with_reducible apply ic_seq | with_reducible apply ic_if | with_reducible apply ic_ret | with_reducible apply ic_reto | with_reducible apply ic_retown | with_reducible apply ic_asg | with_reducible apply ic_aso | with_reducible apply ic_frz | with_reducible apply ic_asgW | with_reducible apply ic_app | with_reducible apply ic_pop | with_reducible apply ic_expr | with_reducible apply ic_skip | with_reducible apply ic_stuck | with_reducible apply ic_brk | with_reducible apply ic_cnt | with_reducible apply ic_retN | with_reducible apply ic_for | with_reducible apply ic_while | with_reducible apply it_name | with_reducible apply it_tup | with_reducible apply it_cons | with_reducible apply it_nil | with_reducible apply im_fn | with_reducible apply im_fno | with_reducible apply im_lc | with_reducible apply im_yes | with_reducible apply im_and | with_reducible apply im_or | with_reducible apply im_not | with_reducible apply im_if | with_reducible apply im_frz | with_reducible apply im_lim | with_reducible apply im_tup | with_reducible apply im_call | with_reducible apply im_lst | with_reducible apply im_isi | with_reducible apply im_isis | with_reducible apply im_isN | with_reducible apply im_notN | with_reducible apply im_chain | with_reducible apply im_seq | with_reducible apply im_range1 | with_reducible apply im_range2 | with_reducible apply im_enum | with_reducible apply im_zip | with_reducible apply im_t | with_reducible apply im_notV | with_reducible apply im_andV | with_reducible apply im_orV | with_reducible apply im_part | with_reducible apply im_sl | with_reducible apply im_slo | with_reducible apply im_rev | with_reducible apply im_uV | with_reducible apply im_uO | with_reducible apply im_un | with_reducible apply im_opo | with_reducible apply im_ixO | with_reducible apply im_scal | with_reducible apply im_scalt | with_reducible apply im_index | with_reducible apply im_lrg1 | with_reducible apply im_lrg2 | with_reducible apply ic_ext | with_reducible apply ic_asgT | with_reducible apply it_subO | with_reducible apply im_fnO | with_reducible apply im_fnOo | with_reducible apply im_zipS | with_reducible apply im_zipR | with_reducible apply im_revD | with_reducible apply im_enumS | with_reducible apply im_zipS3 | with_reducible apply im_enumZ)
/-- is_low_bar: slots 0 coins, 1 number, 2 value -/
def N_is_low_bar : List Str := ["coins", "number", "value"]
def ps_is_low_bar : List Str := ["coins", "number", "value"]
def c_is_low_bar : C := cseq (cexpr (mFn F_check_both 3 0 [0, 1, 2] (mcons (rd 0) (mcons (rd 1) (mcons (mret (.int 9999)) (mret [])))) (mret []))) (cret (mAndV (mFn F_is_low_list_of 2 0 [0, 1] (mcons (rd 0) (mcons (rd 2) (mret []))) (mret [])) (mFn F_does_bar 3 0 [0, 1, 2] (mcons (rd 0) (mcons (rd 1) (mcons (rd 2) (mret [])))) (mret []))))
def F_is_low_bar : Fn := fres 3 3 c_is_low_bar
theorem en_is_low_bar (a0 a1 a2 : D) (p : Pst) : F_is_low_bar [a0, a1, a2] p = sres (c_is_low_bar [some (.val a0), some (.val a1), some (.val a2)] p) := rfl
theorem ip_is_low_bar : IF F_is_low_bar := if_fres _ _ (by
  unfold c_is_low_bar
  repeat' first | exact ip_check_both | exact ip_does_bar | exact ip_is_low_list_of | with_reducible apply im_ret | with_reducible apply im_rd | with_reducible apply im_op | with_reducible apply im_cmp | with_reducible apply im_b | with_reducible apply im_cons | with_reducible apply ic_seq | with_reducible apply ic_if | with_reducible apply ic_ret | with_reducible apply ic_reto | with_reducible apply ic_retown | with_reducible apply ic_asg | with_reducible apply ic_aso | with_reducible apply ic_frz | with_reducible apply ic_asgW | with_reducible apply ic_app | with_reducible apply ic_pop | with_reducible apply ic_expr | with_reducible apply ic_skip | with_reducible apply ic_stuck | with_reducible apply ic_brk | with_reducible apply ic_cnt | with_reducible apply ic_retN | with_reducible apply ic_for | with_reducible apply ic_while | with_reducible apply it_name | with_reducible apply it_tup | with_reducible apply it_cons | with_reducible apply it_nil | with_reducible apply im_fn | with_reducible apply im_fno | with_reducible apply im_lc | with_reducible apply im_yes | with_reducible apply im_and | with_reducible apply im_or | with_reducible apply im_not | with_reducible apply im_if | with_reducible apply im_frz | with_reducible apply im_lim | with_reducible apply im_tup | with_reducible apply im_call | with_reducible apply im_lst | with_reducible apply im_isi | with_reducible apply im_isis | with_reducible apply im_isN | with_reducible apply im_notN | with_reducible apply im_chain | with_reducible apply im_seq | with_reducible apply im_range1 | with_reducible apply im_range2 | with_reducible apply im_enum | with_reducible apply im_zip | with_reducible apply im_t | with_reducible apply im_notV | with_reducible apply im_andV | with_reducible apply im_orV | with_reducible apply im_part | with_reducible apply im_sl | with_reducible apply im_slo | with_reducible apply im_rev | with_reducible apply im_uV | with_reducible apply im_uO | with_reducible apply im_un | with_reducible apply im_opo | with_reducible apply im_ixO | with_reducible apply im_scal | with_reducible apply im_scalt | with_reducible apply im_index | with_reducible apply im_lrg1 | with_reducible apply im_lrg2 | with_reducible apply ic_ext | with_reducible apply ic_asgT | with_reducible apply it_subO | with_reducible apply im_fnO | with_reducible apply im_fnOo | with_reducible apply im_zipS | with_reducible apply im_zipR | with_reducible apply im_revD | with_reducible apply im_enumS | with_reducible apply im_zipS3 | with_reducible apply im_enumZ)
/-- least_numbers: slots 0 coins -/
def N_least_numbers : List Str := ["coins"]
def ps_least_numbers : List Str := ["coins"]
def c_least_numbers : C := cseq (cexpr (mFn F_check_coins 1 0 [0] (mcons (rd 0) (mret [])) (mret []))) (creto (mFno F_leasts_of 1 0 [0] (mcons (rd 0) (mret [])) (mret [])))
def F_least_numbers : Fn := fres 1 1 c_least_numbers
theorem en_least_numbers (a0 : D) (p : Pst) : F_least_numbers [a0] p = sres (c_least_numbers [some (.val a0)] p) := rfl
theorem ip_least_numbers : IF F_least_numbers := if_fres _ _ (by
  unfold c_least_numbers
  repeat' first | exact ip_check_coins | exact ip_leasts_of | with_reducible apply im_ret | with_reducible apply im_rd | with_reducible apply im_op | with_reducible apply im_cmp | with_reducible apply im_b | with_reducible apply im_cons | with_reducible apply ic_seq | with_reducible apply ic_if | with_reducible apply ic_ret | with_reducible apply ic_reto | with_reducible apply ic_retown | with_reducible apply ic_asg | with_reducible apply ic_aso | with_reducible apply ic_frz | with_reducible apply ic_asgW | with_reducible apply ic_app | with_reducible apply ic_pop | with_reducible apply ic_expr | with_reducible apply ic_skip | with_reducible apply ic_stuck | with_reducible apply ic_brk | with_reducible apply ic_cnt | with_reducible apply ic_retN | with_reducible apply ic_for | with_reducible apply ic_while | with_reducible apply it_name | with_reducible apply it_tup | with_reducible apply it_cons | with_reducible apply it_nil | with_reducible apply im_fn | with_reducible apply im_fno | with_reducible apply im_lc | with_reducible apply im_yes | with_reducible apply im_and | with_reducible apply im_or | with_reducible apply im_not | with_reducible apply im_if | with_reducible apply im_frz | with_reducible apply im_lim | with_reducible apply im_tup | with_reducible apply im_call | with_reducible apply im_lst | with_reducible apply im_isi | with_reducible apply im_isis | with_reducible apply im_isN | with_reducible apply im_notN | with_reducible apply im_chain | with_reducible apply im_seq | with_reducible apply im_range1 | with_reducible apply im_range2 | with_reducible apply im_enum | with_reducible apply im_zip | with_reducible apply im_t | with_reducible apply im_notV | with_reducible apply im_andV | with_reducible apply im_orV | with_reducible apply im_part | with_reducible apply im_sl | with_reducible apply im_slo | with_reducible apply im_rev | with_reducible apply im_uV | with_reducible apply im_uO | with_reducible apply im_un | with_reducible apply im_opo | with_reducible apply im_ixO | with_reducible apply im_scal | with_reducible apply im_scalt | with_reducible apply im_index | with_reducible apply im_lrg1 | with_reducible apply im_lrg2 | with_reducible apply ic_ext | with_reducible apply ic_asgT | with_reducible apply it_subO | with_reducible apply im_fnO | with_reducible apply im_fnOo | with_reducible apply im_zipS | with_reducible apply im_zipR | with_reducible apply im_revD | with_reducible apply im_enumS | with_reducible apply im_zipS3 | with_reducible apply im_enumZ)
/-- _law_pot: slots 0 script, 1 k, 2 cell -/
def N__law_pot : List Str := ["script", "k", "cell"]
def ps__law_pot : List Str := ["script", "k"]
def c__law_pot : C := cseq (casg 2 (mIf (mCmp dLt (rd 1) (mCall dLen (mcons (rd 0) (mret [])))) (mCall dAbs (mcons (mOp dIx (rd 0) (rd 1)) (mret []))) (mOp dAdd (mOp dMul (mret (.int 3931)) (rd 1)) (mret (.int 3271))))) (cretpot (mcons (mCall dMax2 (mcons (mret (.int 0)) (mcons (mOp dSub (rd 2) (mOp dPow (mret (.int 10)) (mret (.int 18)))) (mret [])))) (mcons (mOp dAdd (mOp dMod (mCall dInt (mcons (mOp dAdd (mOp dAdd (mOp dMul (mOp dMod (mCall dInt (mcons (rd 2) (mret []))) (mret (.int 2147483549))) (mret (.int 40487))) (mOp dMul (mret (.int 37201)) (rd 1))) (mret (.int 2531))) (mret []))) (mret (.int 2147483563))) (mret (.int 1))) (mret []))))
def F__law_pot : Fn := fres 3 2 c__law_pot
theorem en__law_pot (a0 a1 : D) (p : Pst) : F__law_pot [a0, a1] p = sres (c__law_pot [some (.val a0), some (.val a1), none] p) := rfl
/-- _law_draw: slots 0 pot, 1 many, 2 digit -/
def N__law_draw : List Str := ["pot", "many", "digit"]
def ps__law_draw : List Str := ["pot", "many"]
def c__law_draw : C := cseq (cif (mCmp dGt (mIx (rd 0) (mret (.int 0))) (mret (.int 0))) (cseq (casgT (tgTup 2 (tgCons (tgSub 0 (mret (.int 0))) (tgCons (tgName 2) (tgNil)))) (mCall dDivmod (mcons (mIx (rd 0) (mret (.int 0))) (mcons (rd 1) (mret []))))) (cret (rd 2))) (cskip)) (cseq (casgT (tgSub 0 (mret (.int 1))) (mOp dMod (mCall dInt (mcons (mOp dAdd (mOp dMul (mIx (rd 0) (mret (.int 1))) (mret (.int 40692))) (mret (.int 11969))) (mret []))) (mret (.int 2147483563)))) (cret (mOp dMod (mCall dInt (mcons (mOp dDiv (mOp dMod (mCall dInt (mcons (mOp dMul (mIx (rd 0) (mret (.int 1))) (mIx (rd 0) (mret (.int 1)))) (mret []))) (mret (.int 2147483549))) (mret (.int 19))) (mret []))) (rd 1))))
def F__law_draw : Fn := fres 3 2 c__law_draw
theorem en__law_draw (a0 a1 : D) (p : Pst) : F__law_draw [a0, a1] p = sres (c__law_draw [some (.val a0), some (.val a1), none] p) := rfl
/-- _law_pick: slots 0 pot, 1 some -/
def N__law_pick : List Str := ["pot", "some"]
def ps__law_pick : List Str := ["pot", "some"]
def c__law_pick : C := cret (mOp dIx (rd 1) (mFn F__law_draw 2 0 [0, 1] (mcons (rd 0) (mcons (mCall dLen (mcons (rd 1) (mret []))) (mret []))) (mret [])))
def F__law_pick : Fn := fres 2 2 c__law_pick
theorem en__law_pick (a0 a1 : D) (p : Pst) : F__law_pick [a0, a1] p = sres (c__law_pick [some (.val a0), some (.val a1)] p) := rfl
/-- _law_coins: slots 0 pot, 1 many, 2 most, 3 found, 4 turn, 5 coin -/
def N__law_coins : List Str := ["pot", "many", "most", "found", "turn", "coin"]
def ps__law_coins : List Str := ["pot", "many", "most"]
def b__law_coins_1 : C := cseq (casg 5 (mOp dAdd (mret (.int 1)) (mFn F__law_draw 2 0 [0, 1] (mcons (rd 0) (mcons (rd 2) (mret []))) (mret [])))) (cext 3 (mIf (mscalt (mCmp dNotInX (rd 5) (rd 3))) (mfrz (mlim (mcons (rd 5) (mret [])))) (mfrz (mlim (mret [])))))
def c__law_coins : C := cseq (caso 3 (mlim (mret []))) (cseq (cfor (mRange1 (mcons (mOp dAdd (mret (.int 1)) (mFn F__law_draw 2 0 [0, 1] (mcons (rd 0) (mcons (rd 1) (mret []))) (mret []))) (mret []))) (tgName 4) (b__law_coins_1)) (cseq (cfrz 3) (creto (mLst dSorted (mcons (rd 3) (mret []))))))
def F__law_coins : Fn := fres 6 3 c__law_coins
theorem en__law_coins (a0 a1 a2 : D) (p : Pst) : F__law_coins [a0, a1, a2] p = sres (c__law_coins [some (.val a0), some (.val a1), some (.val a2), none, none, none] p) := rfl
/-- _law_is_count: slots 0 value -/
def N__law_is_count : List Str := ["value"]
def ps__law_is_count : List Str := ["value"]
def c__law_is_count : C := cret (mAndV (mIsi .int (rd 0)) (mAndV (mNotV (mIsi .bool (rd 0))) (mB (mCmp dGe (rd 0) (mret (.int 0))))))
def F__law_is_count : Fn := fres 1 1 c__law_is_count
theorem en__law_is_count (a0 : D) (p : Pst) : F__law_is_count [a0] p = sres (c__law_is_count [some (.val a0)] p) := rfl
theorem ip__law_is_count : IF F__law_is_count := if_fres _ _ (by
  unfold c__law_is_count
  repeat' first | with_reducible apply im_ret | with_reducible apply im_rd | with_reducible apply im_op | with_reducible apply im_cmp | with_reducible apply im_b | with_reducible apply im_cons | with_reducible apply ic_seq | with_reducible apply ic_if | with_reducible apply ic_ret | with_reducible apply ic_reto | with_reducible apply ic_retown | with_reducible apply ic_asg | with_reducible apply ic_aso | with_reducible apply ic_frz | with_reducible apply ic_asgW | with_reducible apply ic_app | with_reducible apply ic_pop | with_reducible apply ic_expr | with_reducible apply ic_skip | with_reducible apply ic_stuck | with_reducible apply ic_brk | with_reducible apply ic_cnt | with_reducible apply ic_retN | with_reducible apply ic_for | with_reducible apply ic_while | with_reducible apply it_name | with_reducible apply it_tup | with_reducible apply it_cons | with_reducible apply it_nil | with_reducible apply im_fn | with_reducible apply im_fno | with_reducible apply im_lc | with_reducible apply im_yes | with_reducible apply im_and | with_reducible apply im_or | with_reducible apply im_not | with_reducible apply im_if | with_reducible apply im_frz | with_reducible apply im_lim | with_reducible apply im_tup | with_reducible apply im_call | with_reducible apply im_lst | with_reducible apply im_isi | with_reducible apply im_isis | with_reducible apply im_isN | with_reducible apply im_notN | with_reducible apply im_chain | with_reducible apply im_seq | with_reducible apply im_range1 | with_reducible apply im_range2 | with_reducible apply im_enum | with_reducible apply im_zip | with_reducible apply im_t | with_reducible apply im_notV | with_reducible apply im_andV | with_reducible apply im_orV | with_reducible apply im_part | with_reducible apply im_sl | with_reducible apply im_slo | with_reducible apply im_rev | with_reducible apply im_uV | with_reducible apply im_uO | with_reducible apply im_un | with_reducible apply im_opo | with_reducible apply im_ixO | with_reducible apply im_scal | with_reducible apply im_scalt | with_reducible apply im_index | with_reducible apply im_lrg1 | with_reducible apply im_lrg2 | with_reducible apply ic_ext | with_reducible apply ic_asgT | with_reducible apply it_subO | with_reducible apply im_fnO | with_reducible apply im_fnOo | with_reducible apply im_zipS | with_reducible apply im_zipR | with_reducible apply im_revD | with_reducible apply im_enumS | with_reducible apply im_zipS3 | with_reducible apply im_enumZ)
/-- _law_is_list: slots 0 coins, 1 number, 2 value, 3 one, 4 coin, 5 many -/
def N__law_is_list : List Str := ["coins", "number", "value", "one", "coin", "many"]
def ps__law_is_list : List Str := ["coins", "number", "value"]
def m__law_is_list_1 : M (List D) := mLc [3] (mSeq (rd 2)) (fName 3) (mYes) (mFn F__law_is_count 1 0 [0] (mcons (rd 3) (mret [])) (mret []))
def m__law_is_list_2 : M (List D) := mLc [4, 5] (mZipS (mcons (rd 0) (mcons (rd 2) (mret [])))) (fTup (fCons (fName 4) (fCons (fName 5) (fNil)))) (mYes) (mOp dMul (rd 4) (rd 5))
def c__law_is_list : C := cseq (cif (mOr (mNot (mT (mIsis [.list, .tuple] (rd 2)))) (mOr (mCmp dNe (mCall dLen (mcons (rd 2) (mret []))) (mCall dLen (mcons (rd 0) (mret [])))) (mNot (mT (mCall dAll (mcons (mfrz (m__law_is_list_1)) (mret []))))))) (cret (mret (.bl false))) (cskip)) (cret (mB (mCmp dEq (mCall dSum (mcons (mfrz (m__law_is_list_2)) (mret []))) (rd 1))))
def F__law_is_list : Fn := fres 6 3 c__law_is_list
theorem en__law_is_list (a0 a1 a2 : D) (p : Pst) : F__law_is_list [a0, a1, a2] p = sres (c__law_is_list [some (.val a0), some (.val a1), some (.val a2), none, none, none] p) := rfl
theorem ip__law_is_list : IF F__law_is_list := if_fres _ _ (by
  unfold c__law_is_list
  try unfold m__law_is_list_2
  try unfold m__law_is_list_1
  repeat' first | exact ip__law_is_count | with_reducible apply im_ret | with_reducible apply im_rd | with_reducible apply im_op | with_reducible apply im_cmp | with_reducible apply im_b | with_reducible apply im_cons | with_reducible apply ic_seq | with_reducible apply ic_if | with_reducible apply ic_ret | with_reducible apply ic_reto | with_reducible apply ic_retown | with_reducible apply ic_asg | with_reducible apply ic_aso | with_reducible apply ic_frz | with_reducible apply ic_asgW | with_reducible apply ic_app | with_reducible apply ic_pop | with_reducible apply ic_expr | with_reducible apply ic_skip | with_reducible apply ic_stuck | with_reducible apply ic_brk | with_reducible apply ic_cnt | with_reducible apply ic_retN | with_reducible apply ic_for | with_reducible apply ic_while | with_reducible apply it_name | with_reducible apply it_tup | with_reducible apply it_cons | with_reducible apply it_nil | with_reducible apply im_fn | with_reducible apply im_fno | with_reducible apply im_lc | with_reducible apply im_yes | with_reducible apply im_and | with_reducible apply im_or | with_reducible apply im_not | with_reducible apply im_if | with_reducible apply im_frz | with_reducible apply im_lim | with_reducible apply im_tup | with_reducible apply im_call | with_reducible apply im_lst | with_reducible apply im_isi | with_reducible apply im_isis | with_reducible apply im_isN | with_reducible apply im_notN | with_reducible apply im_chain | with_reducible apply im_seq | with_reducible apply im_range1 | with_reducible apply im_range2 | with_reducible apply im_enum | with_reducible apply im_zip | with_reducible apply im_t | with_reducible apply im_notV | with_reducible apply im_andV | with_reducible apply im_orV | with_reducible apply im_part | with_reducible apply im_sl | with_reducible apply im_slo | with_reducible apply im_rev | with_reducible apply im_uV | with_reducible apply im_uO | with_reducible apply im_un | with_reducible apply im_opo | with_reducible apply im_ixO | with_reducible apply im_scal | with_reducible apply im_scalt | with_reducible apply im_index | with_reducible apply im_lrg1 | with_reducible apply im_lrg2 | with_reducible apply ic_ext | with_reducible apply ic_asgT | with_reducible apply it_subO | with_reducible apply im_fnO | with_reducible apply im_fnOo | with_reducible apply im_zipS | with_reducible apply im_zipR | with_reducible apply im_revD | with_reducible apply im_enumS | with_reducible apply im_zipS3 | with_reducible apply im_enumZ)
/-- _law_is_low: slots 0 coins, 1 value, 2 at, 3 one, 4 coin, 5 late -/
def N__law_is_low : List Str := ["coins", "value", "at", "one", "coin", "late"]
def ps__law_is_low : List Str := ["coins", "value"]
def m__law_is_low_1 : M (List D) := mLc [3] (mSeq (rd 1)) (fName 3) (mYes) (mOrV (mB (mIsN (rd 3))) (mAndV (mIsi .int (rd 3)) (mNotV (mIsi .bool (rd 3)))))
def b__law_is_low_2 : C := cif (mNotN (rd 3)) (cseq (casg 5 (mOp dIx (rd 1) (mOp dMod (mCall dInt (mcons (mOp dAdd (rd 2) (rd 4)) (mret []))) (mOp dIx (rd 0) (mret (.int 0)))))) (cif (mOr (mIsN (rd 5)) (mCmp dGt (rd 5) (mOp dAdd (rd 3) (rd 4)))) (cret (mret (.bl false))) (cskip))) (cskip)
def b__law_is_low_3 : C := cfor (mSeq (rd 0)) (tgName 4) (b__law_is_low_2)
def c__law_is_low : C := cseq (cif (mOr (mNot (mT (mIsis [.list, .tuple] (rd 1)))) (mCmp dNe (mCall dLen (mcons (rd 1) (mret []))) (mOp dIx (rd 0) (mret (.int 0))))) (cret (mret (.bl false))) (cskip)) (cseq (cif (mOr (mNot (mT (mCall dAll (mcons (mfrz (m__law_is_low_1)) (mret []))))) (mOr (mIsN (mOp dIx (rd 1) (mret (.int 0)))) (mCmp dGt (mOp dIx (rd 1) (mret (.int 0))) (mret (.int 0))))) (cret (mret (.bl false))) (cskip)) (cseq (cfor (mEnumS (mcons (rd 1) (mret []))) (tgTup 2 (tgCons (tgName 2) (tgCons (tgName 3) (tgNil)))) (b__law_is_low_3)) (cret (mret (.bl true)))))
def F__law_is_low : Fn := fres 6 2 c__law_is_low
theorem en__law_is_low (a0 a1 : D) (p : Pst) : F__law_is_low [a0, a1] p = sres (c__law_is_low [some (.val a0), some (.val a1), none, none, none, none] p) := rfl
theorem ip__law_is_low : IF F__law_is_low := if_fres _ _ (by
  unfold c__law_is_low
  try unfold b__law_is_low_3
  try unfold b__law_is_low_2
  try unfold m__law_is_low_1
  repeat' first | with_reducible apply im_ret | with_reducible apply im_rd | with_reducible apply im_op | with_reducible apply im_cmp | with_reducible apply im_b | with_reducible apply im_cons | with_reducible apply ic_seq | with_reducible apply ic_if | with_reducible apply ic_ret | with_reducible apply ic_reto | with_reducible apply ic_retown | with_reducible apply ic_asg | with_reducible apply ic_aso | with_reducible apply ic_frz | with_reducible apply ic_asgW | with_reducible apply ic_app | with_reducible apply ic_pop | with_reducible apply ic_expr | with_reducible apply ic_skip | with_reducible apply ic_stuck | with_reducible apply ic_brk | with_reducible apply ic_cnt | with_reducible apply ic_retN | with_reducible apply ic_for | with_reducible apply ic_while | with_reducible apply it_name | with_reducible apply it_tup | with_reducible apply it_cons | with_reducible apply it_nil | with_reducible apply im_fn | with_reducible apply im_fno | with_reducible apply im_lc | with_reducible apply im_yes | with_reducible apply im_and | with_reducible apply im_or | with_reducible apply im_not | with_reducible apply im_if | with_reducible apply im_frz | with_reducible apply im_lim | with_reducible apply im_tup | with_reducible apply im_call | with_reducible apply im_lst | with_reducible apply im_isi | with_reducible apply im_isis | with_reducible apply im_isN | with_reducible apply im_notN | with_reducible apply im_chain | with_reducible apply im_seq | with_reducible apply im_range1 | with_reducible apply im_range2 | with_reducible apply im_enum | with_reducible apply im_zip | with_reducible apply im_t | with_reducible apply im_notV | with_reducible apply im_andV | with_reducible apply im_orV | with_reducible apply im_part | with_reducible apply im_sl | with_reducible apply im_slo | with_reducible apply im_rev | with_reducible apply im_uV | with_reducible apply im_uO | with_reducible apply im_un | with_reducible apply im_opo | with_reducible apply im_ixO | with_reducible apply im_scal | with_reducible apply im_scalt | with_reducible apply im_index | with_reducible apply im_lrg1 | with_reducible apply im_lrg2 | with_reducible apply ic_ext | with_reducible apply ic_asgT | with_reducible apply it_subO | with_reducible apply im_fnO | with_reducible apply im_fnOo | with_reducible apply im_zipS | with_reducible apply im_zipR | with_reducible apply im_revD | with_reducible apply im_enumS | with_reducible apply im_zipS3 | with_reducible apply im_enumZ)
/-- _law_is_bar: slots 0 coins, 1 number, 2 value, 3 one -/
def N__law_is_bar : List Str := ["coins", "number", "value", "one"]
def ps__law_is_bar : List Str := ["coins", "number", "value"]
def c__law_is_bar : C := cseq (cif (mNot (mT (mFn F__law_is_low 2 0 [0, 1] (mcons (rd 0) (mcons (rd 2) (mret []))) (mret [])))) (cret (mret (.bl false))) (cskip)) (cseq (casg 3 (mOp dIx (rd 2) (mOp dMod (mCall dInt (mcons (rd 1) (mret []))) (mOp dIx (rd 0) (mret (.int 0)))))) (cret (mOrV (mB (mIsN (rd 3))) (mB (mCmp dGt (rd 3) (rd 1))))))
def F__law_is_bar : Fn := fres 4 3 c__law_is_bar
theorem en__law_is_bar (a0 a1 a2 : D) (p : Pst) : F__law_is_bar [a0, a1, a2] p = sres (c__law_is_bar [some (.val a0), some (.val a1), some (.val a2), none] p) := rfl
theorem ip__law_is_bar : IF F__law_is_bar := if_fres _ _ (by
  unfold c__law_is_bar
  repeat' first | exact ip__law_is_low | with_reducible apply im_ret | with_reducible apply im_rd | with_reducible apply im_op | with_reducible apply im_cmp | with_reducible apply im_b | with_reducible apply im_cons | with_reducible apply ic_seq | with_reducible apply ic_if | with_reducible apply ic_ret | with_reducible apply ic_reto | with_reducible apply ic_retown | with_reducible apply ic_asg | with_reducible apply ic_aso | with_reducible apply ic_frz | with_reducible apply ic_asgW | with_reducible apply ic_app | with_reducible apply ic_pop | with_reducible apply ic_expr | with_reducible apply ic_skip | with_reducible apply ic_stuck | with_reducible apply ic_brk | with_reducible apply ic_cnt | with_reducible apply ic_retN | with_reducible apply ic_for | with_reducible apply ic_while | with_reducible apply it_name | with_reducible apply it_tup | with_reducible apply it_cons | with_reducible apply it_nil | with_reducible apply im_fn | with_reducible apply im_fno | with_reducible apply im_lc | with_reducible apply im_yes | with_reducible apply im_and | with_reducible apply im_or | with_reducible apply im_not | with_reducible apply im_if | with_reducible apply im_frz | with_reducible apply im_lim | with_reducible apply im_tup | with_reducible apply im_call | with_reducible apply im_lst | with_reducible apply im_isi | with_reducible apply im_isis | with_reducible apply im_isN | with_reducible apply im_notN | with_reducible apply im_chain | with_reducible apply im_seq | with_reducible apply im_range1 | with_reducible apply im_range2 | with_reducible apply im_enum | with_reducible apply im_zip | with_reducible apply im_t | with_reducible apply im_notV | with_reducible apply im_andV | with_reducible apply im_orV | with_reducible apply im_part | with_reducible apply im_sl | with_reducible apply im_slo | with_reducible apply im_rev | with_reducible apply im_uV | with_reducible apply im_uO | with_reducible apply im_un | with_reducible apply im_opo | with_reducible apply im_ixO | with_reducible apply im_scal | with_reducible apply im_scalt | with_reducible apply im_index | with_reducible apply im_lrg1 | with_reducible apply im_lrg2 | with_reducible apply ic_ext | with_reducible apply ic_asgT | with_reducible apply it_subO | with_reducible apply im_fnO | with_reducible apply im_fnOo | with_reducible apply im_zipS | with_reducible apply im_zipR | with_reducible apply im_revD | with_reducible apply im_enumS | with_reducible apply im_zipS3 | with_reducible apply im_enumZ)
/-- _law_are_coins: slots 0 value, 1 one, 2 late -/
def N__law_are_coins : List Str := ["value", "one", "late"]
def ps__law_are_coins : List Str := ["value"]
def m__law_are_coins_1 : M (List D) := mLc [1] (mSeq (rd 0)) (fName 1) (mYes) (mAndV (mFn F__law_is_count 1 0 [0] (mcons (rd 1) (mret [])) (mret [])) (mB (mChain iLe iLe (mret (.int 1)) (rd 1) (mret (.int 60)))))
def m__law_are_coins_2 : M (List D) := mLc [1, 2] (mZipS (mcons (rd 0) (mcons (mSl (rd 0) (mPart (mret (.int 1))) (mret none)) (mret [])))) (fTup (fCons (fName 1) (fCons (fName 2) (fNil)))) (mYes) (mB (mCmp dLt (rd 1) (rd 2)))
def c__law_are_coins : C := cseq (cif (mOr (mNot (mT (mIsis [.list, .tuple] (rd 0)))) (mOr (mNot (mChain iLe iLe (mret (.int 1)) (mCall dLen (mcons (rd 0) (mret []))) (mret (.int 4)))) (mNot (mT (mCall dAll (mcons (mfrz (m__law_are_coins_1)) (mret []))))))) (cret (mret (.bl false))) (cskip)) (cret (mCall dAll (mcons (mfrz (m__law_are_coins_2)) (mret []))))
def F__law_are_coins : Fn := fres 3 1 c__law_are_coins
theorem en__law_are_coins (a0 : D) (p : Pst) : F__law_are_coins [a0] p = sres (c__law_are_coins [some (.val a0), none, none] p) := rfl
theorem ip__law_are_coins : IF F__law_are_coins := if_fres _ _ (by
  unfold c__law_are_coins
  try unfold m__law_are_coins_2
  try unfold m__law_are_coins_1
  repeat' first | exact ip__law_is_count | with_reducible apply im_ret | with_reducible apply im_rd | with_reducible apply im_op | with_reducible apply im_cmp | with_reducible apply im_b | with_reducible apply im_cons | with_reducible apply ic_seq | with_reducible apply ic_if | with_reducible apply ic_ret | with_reducible apply ic_reto | with_reducible apply ic_retown | with_reducible apply ic_asg | with_reducible apply ic_aso | with_reducible apply ic_frz | with_reducible apply ic_asgW | with_reducible apply ic_app | with_reducible apply ic_pop | with_reducible apply ic_expr | with_reducible apply ic_skip | with_reducible apply ic_stuck | with_reducible apply ic_brk | with_reducible apply ic_cnt | with_reducible apply ic_retN | with_reducible apply ic_for | with_reducible apply ic_while | with_reducible apply it_name | with_reducible apply it_tup | with_reducible apply it_cons | with_reducible apply it_nil | with_reducible apply im_fn | with_reducible apply im_fno | with_reducible apply im_lc | with_reducible apply im_yes | with_reducible apply im_and | with_reducible apply im_or | with_reducible apply im_not | with_reducible apply im_if | with_reducible apply im_frz | with_reducible apply im_lim | with_reducible apply im_tup | with_reducible apply im_call | with_reducible apply im_lst | with_reducible apply im_isi | with_reducible apply im_isis | with_reducible apply im_isN | with_reducible apply im_notN | with_reducible apply im_chain | with_reducible apply im_seq | with_reducible apply im_range1 | with_reducible apply im_range2 | with_reducible apply im_enum | with_reducible apply im_zip | with_reducible apply im_t | with_reducible apply im_notV | with_reducible apply im_andV | with_reducible apply im_orV | with_reducible apply im_part | with_reducible apply im_sl | with_reducible apply im_slo | with_reducible apply im_rev | with_reducible apply im_uV | with_reducible apply im_uO | with_reducible apply im_un | with_reducible apply im_opo | with_reducible apply im_ixO | with_reducible apply im_scal | with_reducible apply im_scalt | with_reducible apply im_index | with_reducible apply im_lrg1 | with_reducible apply im_lrg2 | with_reducible apply ic_ext | with_reducible apply ic_asgT | with_reducible apply it_subO | with_reducible apply im_fnO | with_reducible apply im_fnOo | with_reducible apply im_zipS | with_reducible apply im_zipR | with_reducible apply im_revD | with_reducible apply im_enumS | with_reducible apply im_zipS3 | with_reducible apply im_enumZ)
/-- _law_bent: slots 0 pot, 1 value, 2 one, 3 at, 4 way -/
def N__law_bent : List Str := ["pot", "value", "one", "at", "way"]
def ps__law_bent : List Str := ["pot", "value"]
abbrev F__law_bent_r0 : Fn := F_stuck
theorem ip__law_bent_r0 : IF F__law_bent_r0 := if_stuck
def c__law_bent_r1 : C := cseq (cif (mOr (mNot (mT (mIsis [.list, .tuple] (rd 1)))) (mOr (mCmp dEq (mCall dLen (mcons (rd 1) (mret []))) (mret (.int 0))) (mCmp dEq (mFn F__law_draw 2 0 [0, 1] (mcons (rd 0) (mcons (mret (.int 7)) (mret []))) (mret [])) (mret (.int 0))))) (cret (mFn F__law_pick 2 0 [0, 1] (mcons (rd 0) (mcons (mfrz (mlim (mcons (mret .non) (mcons (mret (.int 0)) (mcons (mret (.int 1)) (mcons (mUn dNeg (mret (.int 1))) (mcons (mret (.int 3)) (mcons (mret (.int 7)) (mcons (mret (.int 60)) (mcons (mret (.int 61)) (mcons (mret (.bl true)) (mcons (mret (.str "1")) (mcons (mtup (mcons (mret (.int 1)) (mcons (mret (.int 2)) (mret [])))) (mcons (mfrz (mlim (mret []))) (mcons (mtup (mret [])) (mcons (mOp dPow (mret (.int 10)) (mret (.int 20))) (mcons (mUn dNeg (mOp dPow (mret (.int 10)) (mret (.int 20)))) (mret [])))))))))))))))))) (mret []))) (mret []))) (cskip)) (cseq (casgW [3, 4] (muV (mFn F__law_draw 2 0 [0, 1] (mcons (rd 0) (mcons (mCall dLen (mcons (rd 1) (mret []))) (mret []))) (mret [])) (muV (mFn F__law_draw 2 0 [0, 1] (mcons (rd 0) (mcons (mret (.int 10)) (mret []))) (mret [])) (mret [])))) (cseq (cif (mCmp dEq (rd 4) (mret (.int 0))) (cret (mOp dAdd (mSl (rd 1) (mret none) (mPart (rd 3))) (mSl (rd 1) (mPart (mOp dAdd (rd 3) (mret (.int 1)))) (mret none)))) (cskip)) (cseq (cif (mCmp dEq (rd 4) (mret (.int 1))) (cret (mOp dAdd (rd 1) (mSl (rd 1) (mPart (rd 3)) (mPart (mOp dAdd (rd 3) (mret (.int 1))))))) (cskip)) (cseq (cif (mCmp dEq (rd 4) (mret (.int 2))) (cret (mRevD (rd 1))) (cskip)) (cseq (cif (mCmp dEq (rd 4) (mret (.int 3))) (cret (mIf (mT (mIsi .list (rd 1))) (mCall dTuple (mcons (rd 1) (mret []))) (mfrz (mLst dList (mcons (rd 1) (mret [])))))) (cskip)) (cseq (casg 2 (mFn F__law_bent_r0 2 0 [0, 1] (mcons (rd 0) (mcons (mOp dIx (rd 1) (rd 3)) (mret []))) (mret []))) (cseq (cif (mAnd (mCmp dGt (rd 4) (mret (.int 6))) (mT (mIsi .int (mOp dIx (rd 1) (rd 3))))) (casg 2 (mOp dAdd (mOp dIx (rd 1) (rd 3)) (mFn F__law_pick 2 0 [0, 1] (mcons (rd 0) (mcons (mfrz (mlim (mcons (mret (.int 1)) (mcons (mUn dNeg (mret (.int 1))) (mcons (mret (.int 2)) (mcons (mUn dNeg (mret (.int 10))) (mcons (mret (.int 10)) (mcons (mret (.int 100)) (mret []))))))))) (mret []))) (mret [])))) (cskip)) (cret (mOp dAdd (mOp dAdd (mSl (rd 1) (mret none) (mPart (rd 3))) (mIf (mT (mIsi .list (rd 1))) (mfrz (mlim (mcons (rd 2) (mret [])))) (mtup (mcons (rd 2) (mret []))))) (mSl (rd 1) (mPart (mOp dAdd (rd 3) (mret (.int 1)))) (mret none)))))))))))
def F__law_bent_r1 : Fn := fres 5 2 c__law_bent_r1
theorem en__law_bent_r1 (a0 a1 : D) (p : Pst) : F__law_bent_r1 [a0, a1] p = sres (c__law_bent_r1 [some (.val a0), some (.val a1), none, none, none] p) := rfl
def c__law_bent : C := cseq (cif (mOr (mNot (mT (mIsis [.list, .tuple] (rd 1)))) (mOr (mCmp dEq (mCall dLen (mcons (rd 1) (mret []))) (mret (.int 0))) (mCmp dEq (mFn F__law_draw 2 0 [0, 1] (mcons (rd 0) (mcons (mret (.int 7)) (mret []))) (mret [])) (mret (.int 0))))) (cret (mFn F__law_pick 2 0 [0, 1] (mcons (rd 0) (mcons (mfrz (mlim (mcons (mret .non) (mcons (mret (.int 0)) (mcons (mret (.int 1)) (mcons (mUn dNeg (mret (.int 1))) (mcons (mret (.int 3)) (mcons (mret (.int 7)) (mcons (mret (.int 60)) (mcons (mret (.int 61)) (mcons (mret (.bl true)) (mcons (mret (.str "1")) (mcons (mtup (mcons (mret (.int 1)) (mcons (mret (.int 2)) (mret [])))) (mcons (mfrz (mlim (mret []))) (mcons (mtup (mret [])) (mcons (mOp dPow (mret (.int 10)) (mret (.int 20))) (mcons (mUn dNeg (mOp dPow (mret (.int 10)) (mret (.int 20)))) (mret [])))))))))))))))))) (mret []))) (mret []))) (cskip)) (cseq (casgW [3, 4] (muV (mFn F__law_draw 2 0 [0, 1] (mcons (rd 0) (mcons (mCall dLen (mcons (rd 1) (mret []))) (mret []))) (mret [])) (muV (mFn F__law_draw 2 0 [0, 1] (mcons (rd 0) (mcons (mret (.int 10)) (mret []))) (mret [])) (mret [])))) (cseq (cif (mCmp dEq (rd 4) (mret (.int 0))) (cret (mOp dAdd (mSl (rd 1) (mret none) (mPart (rd 3))) (mSl (rd 1) (mPart (mOp dAdd (rd 3) (mret (.int 1)))) (mret none)))) (cskip)) (cseq (cif (mCmp dEq (rd 4) (mret (.int 1))) (cret (mOp dAdd (rd 1) (mSl (rd 1) (mPart (rd 3)) (mPart (mOp dAdd (rd 3) (mret (.int 1))))))) (cskip)) (cseq (cif (mCmp dEq (rd 4) (mret (.int 2))) (cret (mRevD (rd 1))) (cskip)) (cseq (cif (mCmp dEq (rd 4) (mret (.int 3))) (cret (mIf (mT (mIsi .list (rd 1))) (mCall dTuple (mcons (rd 1) (mret []))) (mfrz (mLst dList (mcons (rd 1) (mret [])))))) (cskip)) (cseq (casg 2 (mFn F__law_bent_r1 2 0 [0, 1] (mcons (rd 0) (mcons (mOp dIx (rd 1) (rd 3)) (mret []))) (mret []))) (cseq (cif (mAnd (mCmp dGt (rd 4) (mret (.int 6))) (mT (mIsi .int (mOp dIx (rd 1) (rd 3))))) (casg 2 (mOp dAdd (mOp dIx (rd 1) (rd 3)) (mFn F__law_pick 2 0 [0, 1] (mcons (rd 0) (mcons (mfrz (mlim (mcons (mret (.int 1)) (mcons (mUn dNeg (mret (.int 1))) (mcons (mret (.int 2)) (mcons (mUn dNeg (mret (.int 10))) (mcons (mret (.int 10)) (mcons (mret (.int 100)) (mret []))))))))) (mret []))) (mret [])))) (cskip)) (cret (mOp dAdd (mOp dAdd (mSl (rd 1) (mret none) (mPart (rd 3))) (mIf (mT (mIsi .list (rd 1))) (mfrz (mlim (mcons (rd 2) (mret [])))) (mtup (mcons (rd 2) (mret []))))) (mSl (rd 1) (mPart (mOp dAdd (rd 3) (mret (.int 1)))) (mret none)))))))))))
def F__law_bent : Fn := fres 5 2 c__law_bent
theorem en__law_bent (a0 a1 : D) (p : Pst) : F__law_bent [a0, a1] p = sres (c__law_bent [some (.val a0), some (.val a1), none, none, none] p) := rfl
/-- _law_right: slots 0 pot, 1 coins, 2 number, 3 value, 4 least, 5 told, 6 values, 7 one, 8 more, 9 some, 10 named, 11 due, 12 shown, 13 turn -/
def N__law_right : List Str := ["pot", "coins", "number", "value", "least", "told", "values", "one", "more", "some", "named", "due", "shown", "turn"]
def ps__law_right : List Str := ["pot"]
def m__law_right_1 : M (List D) := mLc [13] (mRange1 (mcons (mret (.int 14)) (mret []))) (fName 13) (mYes) (mFn F__law_bent 2 0 [0, 1] (mcons (rd 0) (mcons (rd 1) (mret []))) (mret []))
def b__law_right_2 : C := cseq (casgW [11, 12] (muV (mFn F__law_are_coins 1 0 [0] (mcons (rd 3) (mret [])) (mret [])) (muV (mCall dReprE (mcons (rd 3) (mret []))) (mret [])))) (cif (mOr (mCmp dNe (mCall dReprE (mcons (mfrz (mlim (mcons (mFn F_are_coins 1 0 [0] (mcons (rd 3) (mret [])) (mret [])) (mcons (mFn F_are_coins 0 1 [0] (mret []) (mcons (rd 3) (mret []))) (mret []))))) (mret []))) (mCall dReprE (mcons (mfrz (mlim (mcons (rd 11) (mcons (rd 11) (mret []))))) (mret [])))) (mCmp dNe (mCall dReprE (mcons (rd 3) (mret []))) (rd 12))) (cret (mret (.bl false))) (cskip))
def m__law_right_3 : M (List D) := mLc [13] (mRange1 (mcons (mret (.int 6)) (mret []))) (fName 13) (mYes) (mFn F__law_bent 2 0 [0, 1] (mcons (rd 0) (mcons (rd 7) (mret []))) (mret []))
def b__law_right_4 : C := cif (mNotN (rd 7)) (cseq (cfrz 6) (caso 6 (mOpo dAddO (mOp dAdd (rd 6) (mfrz (mlim (mcons (rd 7) (mcons (mCall dTuple (mcons (rd 7) (mret []))) (mret [])))))) (mfrz (m__law_right_3))))) (cskip)
def m__law_right_5 : M (List D) := mLc [7] (mSeq (rd 4)) (fName 7) (mYes) (mIf (mIsN (rd 7)) (mret .non) (mOp dSub (rd 7) (rd 8)))
def b__law_right_6 : C := capp 6 (mfrz (m__law_right_5))
def b__law_right_7 : C := cseq (casgW [11, 12] (muV (mfrz (mlim (mcons (mFn F__law_is_list 3 0 [0, 1, 2] (mcons (rd 1) (mcons (rd 2) (mcons (rd 3) (mret [])))) (mret [])) (mcons (mFn F__law_is_bar 3 0 [0, 1, 2] (mcons (rd 1) (mcons (rd 2) (mcons (rd 3) (mret [])))) (mret [])) (mret []))))) (muV (mCall dReprE (mcons (rd 3) (mret []))) (mret [])))) (cseq (casg 9 (mfrz (mlim (mcons (mFn F_is_coin_list 3 0 [0, 1, 2] (mcons (rd 1) (mcons (rd 2) (mcons (rd 3) (mret [])))) (mret [])) (mcons (mFn F_is_low_bar 3 0 [0, 1, 2] (mcons (rd 1) (mcons (rd 2) (mcons (rd 3) (mret [])))) (mret [])) (mret [])))))) (cseq (casg 10 (mfrz (mlim (mcons (mFn F_is_coin_list 0 3 [2, 1, 0] (mret []) (mcons (rd 3) (mcons (rd 2) (mcons (rd 1) (mret []))))) (mcons (mFn F_is_low_bar 0 3 [2, 1, 0] (mret []) (mcons (rd 3) (mcons (rd 2) (mcons (rd 1) (mret []))))) (mret [])))))) (cif (mOr (mCmp dNe (mCall dReprE (mcons (mfrz (mlim (mcons (rd 9) (mcons (rd 10) (mret []))))) (mret []))) (mCall dReprE (mcons (mfrz (mlim (mcons (rd 11) (mcons (rd 11) (mret []))))) (mret [])))) (mCmp dNe (mCall dReprE (mcons (rd 3) (mret []))) (rd 12))) (cret (mret (.bl false))) (cskip))))
def c__law_right : C := cseq (casg 1 (mFn F__law_coins 3 0 [0, 1, 2] (mcons (rd 0) (mcons (mret (.int 4)) (mcons (mret (.int 25)) (mret [])))) (mret []))) (cseq (casg 2 (mFn F__law_draw 2 0 [0, 1] (mcons (rd 0) (mcons (mret (.int 301)) (mret []))) (mret []))) (cseq (cfor (mSeq (mOp dAdd (mfrz (mlim (mcons (rd 1) (mcons (mCall dTuple (mcons (rd 1) (mret []))) (mcons (mfrz (mRevo (rd 1))) (mcons (mOp dAdd (rd 1) (rd 1)) (mcons (mfrz (mlim (mcons (mret (.int 60)) (mret [])))) (mcons (mfrz (mlim (mcons (mret (.int 61)) (mret [])))) (mcons (mret .non) (mcons (mret (.int 0)) (mcons (mtup (mret [])) (mcons (mfrz (mlim (mret []))) (mcons (mret .emp) (mcons (mret (.str "35")) (mret []))))))))))))))) (mfrz (m__law_right_1)))) (tgName 3) (b__law_right_2)) (cseq (casg 4 (mFn F_least_numbers 1 0 [0] (mcons (rd 1) (mret [])) (mret []))) (cseq (casg 5 (mfrz (mlim (mcons (mFn F_coin_list 2 0 [0, 1] (mcons (rd 1) (mcons (rd 2) (mret []))) (mret [])) (mcons (mFn F_low_bar 2 0 [0, 1] (mcons (rd 1) (mcons (rd 2) (mret []))) (mret [])) (mcons (rd 4) (mcons (mOp dAdd (mfrz (mlim (mcons (mret (.int 0)) (mret [])))) (mOp dMul (mfrz (mlim (mcons (mret .non) (mret [])))) (mOp dSub (mOp dIx (rd 1) (mret (.int 0))) (mret (.int 1))))) (mcons (mOp dMul (mfrz (mlim (mcons (mret (.int 0)) (mret [])))) (mOp dIx (rd 1) (mret (.int 0)))) (mcons (mOp dMul (mfrz (mlim (mcons (mUn dNeg (mret (.int 5))) (mret [])))) (mOp dIx (rd 1) (mret (.int 0)))) (mcons (mOp dMul (mfrz (mlim (mcons (mret (.int 0)) (mret [])))) (mCall dLen (mcons (rd 1) (mret [])))) (mcons (mOp dMul (mfrz (mlim (mcons (rd 2) (mret [])))) (mCall dLen (mcons (rd 1) (mret [])))) (mret [])))))))))))) (cseq (caso 6 (mlim (mcons (mret .non) (mcons (mret (.int 0)) (mcons (mtup (mret [])) (mcons (mfrz (mlim (mret []))) (mcons (mret .emp) (mcons (mret (.str "low")) (mcons (mOp dMul (mfrz (mlim (mcons (mret .non) (mret [])))) (mOp dIx (rd 1) (mret (.int 0)))) (mcons (mOp dAdd (mfrz (mlim (mcons (mret (.int 1)) (mret [])))) (mOp dMul (mfrz (mlim (mcons (mret (.int 0)) (mret [])))) (mOp dSub (mOp dIx (rd 1) (mret (.int 0))) (mret (.int 1))))) (mret []))))))))))) (cseq (cfor (mSeq (rd 5)) (tgName 7) (b__law_right_4)) (cseq (cfor (mSeq (mtup (mcons (mret (.int 1)) (mcons (mret (.int 10)) (mret []))))) (tgName 8) (b__law_right_6)) (cseq (cfrz 6) (cseq (cfor (mSeq (rd 6)) (tgName 3) (b__law_right_7)) (cret (mret (.bl true))))))))))))
def F__law_right : Fn := fres 14 1 c__law_right
theorem en__law_right (a0 : D) (p : Pst) : F__law_right [a0] p = sres (c__law_right [some (.val a0), none, none, none, none, none, none, none, none, none, none, none, none, none] p) := rfl
/-- law: slots 0 script, 1 k -/
def N_law : List Str := ["script", "k"]
def ps_law : List Str := ["script"]
def m_law_1 : M (List D) := mLc [1] (mRange1 (mcons (mCall dMax2 (mcons (mret (.int 1)) (mcons (mCall dMin2 (mcons (mret (.int 2)) (mcons (mCall dLen (mcons (rd 0) (mret []))) (mret [])))) (mret [])))) (mret []))) (fName 1) (mYes) (mFn F__law_right 1 0 [0] (mcons (mFn F__law_pot 2 0 [0, 1] (mcons (rd 0) (mcons (rd 1) (mret []))) (mret [])) (mret [])) (mret []))
def c_law : C := cret (mCall dAll (mcons (mfrz (m_law_1)) (mret [])))
def F_law : Fn := fres 2 1 c_law
theorem en_law (a0 : D) (p : Pst) : F_law [a0] p = sres (c_law [some (.val a0), none] p) := rfl
end PF

namespace PF
/-! ### the least numbers, round by round -/
abbrev ON := List (Option Nat)
def cntS : ON → Nat
  | [] => 0
  | none :: r => cntS r
  | some _ :: r => cntS r + 1
def wtS : ON → Nat
  | [] => 0
  | none :: r => 4000 + wtS r
  | some v :: r => v + wtS r
def atO (fd : ON) (i : Nat) : Option Nat := fd.getD i none
theorem cnt_le : ∀ fd : ON, cntS fd ≤ fd.length
  | [] => Nat.le_refl _
  | none :: r => by have := cnt_le r; simp only [cntS, List.length_cons]; omega
  | some v :: r => by have := cnt_le r; simp only [cntS, List.length_cons]; omega
theorem cnt_none : ∀ (fd : ON) (i : Nat), i < fd.length → atO fd i = none → cntS fd + 1 ≤ fd.length
  | [], i, h, _ => absurd h (Nat.not_lt_zero _)
  | none :: r, i, h, e => by have := cnt_le r; simp only [cntS, List.length_cons]; omega
  | some v :: r, 0, h, e => by simp [atO] at e
  | some v :: r, i + 1, h, e => by
    have := cnt_none r i (by simpa using h) (by simpa [atO] using e)
    simp only [cntS, List.length_cons]; omega
theorem cnt_set : ∀ (fd : ON) (i v : Nat), i < fd.length → cntS (fd.set i (some v)) = cntS fd + (if atO fd i = none then 1 else 0)
  | [], i, v, h => absurd h (Nat.not_lt_zero _)
  | none :: r, 0, v, h => by simp [cntS, atO]
  | some a :: r, 0, v, h => by simp [cntS, atO]
  | none :: r, i + 1, v, h => by
    have := cnt_set r i v (by simpa using h)
    simp only [List.set_cons_succ, cntS, this]; simp [atO]
  | some a :: r, i + 1, v, h => by
    have := cnt_set r i v (by simpa using h)
    simp only [List.set_cons_succ, cntS, this]
    have e : atO (some a :: r) (i + 1) = atO r i := by simp [atO]
    rw [e]; omega
theorem wt_set : ∀ (fd : ON) (i v : Nat), i < fd.length → wtS (fd.set i (some v)) + (match atO fd i with | none => 4000 | some a => a) = wtS fd + v
  | [], i, v, h => absurd h (Nat.not_lt_zero _)
  | none :: r, 0, v, h => by simp [wtS, atO]; omega
  | some a :: r, 0, v, h => by simp [wtS, atO]; omega
  | none :: r, i + 1, v, h => by
    have := wt_set r i v (by simpa using h)
    have e : atO (none :: r) (i + 1) = atO r i := by simp [atO]
    rw [e]
    simp only [List.set_cons_succ, wtS]; omega
  | some a :: r, i + 1, v, h => by
    have := wt_set r i v (by simpa using h)
    have e : atO (some a :: r) (i + 1) = atO r i := by simp [atO]
    rw [e]
    simp only [List.set_cons_succ, wtS]; omega
theorem at_set (fd : ON) (i j v : Nat) (h : i < fd.length) : atO (fd.set i (some v)) j = if i = j then some v else atO fd j := by
  unfold atO
  rw [List.getD_eq_getElem?_getD, List.getD_eq_getElem?_getD, List.getElem?_set]
  by_cases e : i = j
  · subst e; simp [h]
  · simp [e]
/-- one coin more from one place -/
def lessO (o : Option Nat) (n : Nat) : Bool := match o with
  | none => true
  | some v => decide (n < v)
def numO (fd : ON) (pl c : Nat) : Nat := (atO fd pl).getD 0 + c
def lstep (f pl : Nat) (x : ON × List Nat) (c : Nat) : ON × List Nat :=
  if lessO (atO x.1 ((pl + c) % f)) (numO x.1 pl c) = true then (x.1.set ((pl + c) % f) (some (numO x.1 pl c)), x.2 ++ [(pl + c) % f]) else x
def OKp (f : Nat) (fd : ON) (p : Nat) : Prop := p < f ∧ ∃ v, atO fd p = some v
structure LS (f w0 : Nat) (x : ON × List Nat) : Prop where
  len : x.1.length = f
  bd : ∀ p v, atO x.1 p = some v → v ≤ 60 * cntS x.1
  ok : ∀ p ∈ x.2, OKp f x.1 p
  wt : wtS x.1 ≤ w0
  lt : x.2 ≠ [] → wtS x.1 < w0
  ct : x.2.length + wtS x.1 ≤ w0
theorem lstep_ok {f w0 pl c : Nat} {x : ON × List Nat} (hf : 0 < f) (hf2 : f ≤ 60) (hc : c ≤ 60) (s : LS f w0 x) (hp : OKp f x.1 pl) : LS f w0 (lstep f pl x c) ∧ ∀ p, OKp f x.1 p → OKp f (lstep f pl x c).1 p := by
  obtain ⟨fd, late⟩ := x
  obtain ⟨h1, h2, h3, h4, h5, h6⟩ := s
  obtain ⟨hp1, v0, hv0⟩ := hp
  simp only at h1 h2 h3 h4 h5 h6 hv0
  have ht : (pl + c) % f < fd.length := by rw [h1]; exact Nat.mod_lt _ hf
  have hn : numO fd pl c ≤ 60 * cntS fd + 60 := by
    unfold numO
    rw [hv0]
    have := h2 _ _ hv0
    simp only [Option.getD_some]
    omega
  unfold lstep
  simp only
  by_cases hl : lessO (atO fd ((pl + c) % f)) (numO fd pl c) = true
  · rw [if_pos hl]
    have cs := cnt_set fd _ (numO fd pl c) ht
    have ws := wt_set fd _ (numO fd pl c) ht
    have mono : ∀ p, OKp f fd p → OKp f (fd.set ((pl + c) % f) (some (numO fd pl c))) p := fun p ⟨q1, v, q2⟩ => by
      refine ⟨q1, ?_⟩
      rw [at_set _ _ _ _ ht]
      split
      · exact ⟨_, rfl⟩
      · exact ⟨v, q2⟩
    have wlt : wtS (fd.set ((pl + c) % f) (some (numO fd pl c))) < wtS fd := by
      cases e : atO fd ((pl + c) % f) with
      | none =>
        rw [e] at ws
        have := cnt_none fd _ ht e
        simp only at ws
        omega
      | some a =>
        rw [e] at ws hl
        have hl : numO fd pl c < a := by simpa [lessO] using hl
        simp only at ws
        omega
    refine ⟨⟨by simp [h1], fun p v e => ?_, fun p hp => ?_, by simp only; omega, fun _ => by simp only; omega, by simp only [List.length_append, List.length_singleton]; omega⟩, mono⟩
    · simp only at e ⊢
      rw [at_set _ _ _ _ ht] at e
      rw [cs]
      cases en : atO fd ((pl + c) % f) with
      | none =>
        simp only [if_true]
        split at e
        · cases e; omega
        · have := h2 _ _ e; omega
      | some a =>
        rw [en] at hl
        have hl : numO fd pl c < a := by simpa [lessO] using hl
        have ha := h2 _ _ en
        simp only [reduceCtorEq, if_false]
        split at e
        · cases e; omega
        · have := h2 _ _ e; omega
    · simp only at hp ⊢
      rcases List.mem_append.mp hp with hp | hp
      · exact mono p (h3 p hp)
      · have : p = (pl + c) % f := by simpa using hp
        subst this
        exact ⟨Nat.mod_lt _ hf, _, by rw [at_set _ _ _ _ ht, if_pos rfl]⟩
  · rw [if_neg hl]
    exact ⟨⟨h1, h2, h3, h4, h5, h6⟩, fun p h => h⟩
def linner (f : Nat) (cs : List Nat) (x : ON × List Nat) (pl : Nat) : ON × List Nat := cs.foldl (lstep f pl) x
theorem linner_ok {f w0 pl : Nat} (hf : 0 < f) (hf2 : f ≤ 60) : ∀ (cs : List Nat) {x : ON × List Nat}, (∀ c ∈ cs, c ≤ 60) → LS f w0 x → OKp f x.1 pl → LS f w0 (linner f cs x pl) ∧ ∀ p, OKp f x.1 p → OKp f (linner f cs x pl).1 p
  | [], x, hc, s, hp => ⟨s, fun p h => h⟩
  | c :: cs, x, hc, s, hp => by
    obtain ⟨h1, h2⟩ := lstep_ok hf hf2 (hc c List.mem_cons_self) s hp
    obtain ⟨h3, h4⟩ := linner_ok hf hf2 cs (fun z hz => hc z (List.mem_cons_of_mem _ hz)) h1 (h2 _ hp)
    exact ⟨h3, fun p h => h4 p (h2 p h)⟩
def lround (f : Nat) (cs : List Nat) (x : ON × List Nat) (last : List Nat) : ON × List Nat := last.foldl (linner f cs) x
theorem lround_ok {f w0 : Nat} (hf : 0 < f) (hf2 : f ≤ 60) {cs : List Nat} (hc : ∀ c ∈ cs, c ≤ 60) : ∀ (last : List Nat) {x : ON × List Nat}, LS f w0 x → (∀ p ∈ last, OKp f x.1 p) → LS f w0 (lround f cs x last)
  | [], x, s, h => s
  | pl :: last, x, s, h => by
    obtain ⟨h1, h2⟩ := linner_ok hf hf2 cs hc s (h pl List.mem_cons_self)
    exact lround_ok hf hf2 hc last h1 fun p hp => h2 p (h p (List.mem_cons_of_mem _ hp))
/-- a state between the rounds -/
structure LB (f : Nat) (fd : ON) (last : List Nat) : Prop where
  len : fd.length = f
  bd : ∀ p v, atO fd p = some v → v ≤ 60 * cntS fd
  ok : ∀ p ∈ last, OKp f fd p
theorem lb_round {f : Nat} (hf : 0 < f) (hf2 : f ≤ 60) {cs : List Nat} (hc : ∀ c ∈ cs, c ≤ 60) {fd : ON} {last : List Nat} (h : LB f fd last) :
    LB f (lround f cs (fd, []) last).1 (lround f cs (fd, []) last).2 ∧ wtS (lround f cs (fd, []) last).1 ≤ wtS fd ∧ ((lround f cs (fd, []) last).2 ≠ [] → wtS (lround f cs (fd, []) last).1 < wtS fd) := by
  have s : LS f (wtS fd) (fd, []) := ⟨h.len, h.bd, (fun p hp => nomatch hp), Nat.le_refl _, fun q => absurd rfl q, by simp⟩
  obtain ⟨a, b, c, d, e, _⟩ := lround_ok hf hf2 hc last s h.ok
  exact ⟨⟨a, b, c⟩, d, e⟩
def base0 (f : Nat) : ON := (List.replicate f none).set 0 (some 0)
theorem cnt_rep : ∀ n : Nat, cntS (List.replicate n none) = 0
  | 0 => rfl
  | n + 1 => by rw [List.replicate_succ]; exact cnt_rep n
theorem wt_rep : ∀ n : Nat, wtS (List.replicate n none) = 4000 * n
  | 0 => rfl
  | n + 1 => by rw [List.replicate_succ]; simp only [wtS, wt_rep n]; omega
theorem at_rep (n i : Nat) : atO (List.replicate n none) i = none := by
  unfold atO
  rw [List.getD_eq_getElem?_getD, List.getElem?_replicate]
  split <;> rfl
theorem lb_start {f : Nat} (hf : 0 < f) : LB f (base0 f) [0] ∧ wtS (base0 f) ≤ 4000 * f := by
  have hl : 0 < (List.replicate f (none : Option Nat)).length := by simpa using hf
  have w := wt_set (List.replicate f none) 0 0 hl
  rw [at_rep, wt_rep] at w
  refine ⟨⟨by simp [base0], fun p v e => ?_, fun p hp => ?_⟩, ?_⟩
  · unfold base0 at e
    rw [at_set _ _ _ _ hl] at e
    split at e
    · cases e; exact Nat.zero_le _
    · rw [at_rep] at e; cases e
  · have : p = 0 := by simpa using hp
    subst this
    exact ⟨hf, 0, by unfold base0; rw [at_set _ _ _ _ hl, if_pos rfl]⟩
  · unfold base0
    simp only at w
    omega
/-! ### the fewest coins -/
def bst (a b : Option Nat) : Option Nat := match a, b with
  | none, none => none
  | some a, none => some a
  | none, some b => some (b + 1)
  | some a, some b => some (min a (b + 1))
def backO (c : Nat) (row : ON) (h : Nat) : Option Nat := if c ≤ h then atO row (h - c) else none
def rowAux (c : Nat) : ON → ON → ON
  | row, [] => row
  | row, k :: ks => rowAux c (row ++ [bst k (backO c row row.length)]) ks
theorem at_app (xs ys : ON) (i : Nat) (h : i < xs.length) : atO (xs ++ ys) i = atO xs i := by
  unfold atO
  rw [List.getD_eq_getElem?_getD, List.getD_eq_getElem?_getD, List.getElem?_append_left h]
theorem at_end (xs ys : ON) (y : Option Nat) : atO (xs ++ y :: ys) xs.length = y := by
  unfold atO
  rw [List.getD_eq_getElem?_getD, List.getElem?_append_right (Nat.le_refl _)]
  simp
/-- what a row is -/
def RowP (c : Nat) (prev row : ON) : Prop := row.length = prev.length ∧ ∀ h, h < prev.length → atO row h = bst (atO prev h) (backO c row h)
theorem row_aux {c : Nat} (hc : 0 < c) : ∀ (ks row pre : ON), RowP c pre row → RowP c (pre ++ ks) (rowAux c row ks)
  | [], row, pre, h => by rw [List.append_nil]; exact h
  | k :: ks, row, pre, ⟨h1, h2⟩ => by
    have := row_aux hc ks (row ++ [bst k (backO c row row.length)]) (pre ++ [k]) ⟨by simp [h1], fun h hh => by
      rw [List.length_append, List.length_singleton] at hh
      have bk : backO c (row ++ [bst k (backO c row row.length)]) h = backO c row h := by
        unfold backO
        split
        · rw [at_app _ _ _ (by omega)]
        · rfl
      rw [bk]
      by_cases e : h < pre.length
      · rw [at_app _ _ _ (by omega), at_app _ _ _ e, h2 h e]
      · have : h = pre.length := by omega
        subst this
        rw [at_end]
        rw [← h1, at_end]⟩
    rw [List.append_assoc] at this
    exact this
theorem row_of {c : Nat} (hc : 0 < c) (prev : ON) : RowP c prev (rowAux c [] prev) := row_aux hc prev [] [] ⟨rfl, fun h hh => absurd hh (Nat.not_lt_zero _)⟩
/-- some number of this coin leads to what is known without it -/
theorem row_often {c : Nat} (hc : 0 < c) {prev row : ON} (hr : RowP c prev row) : ∀ (n h g : Nat), h ≤ n → h < prev.length → atO row h = some g → ∃ o, o * c ≤ h ∧ o ≤ g ∧ atO prev (h - o * c) = some (g - o)
  | n, h, g, hn, hh, e => by
    have e2 := hr.2 h hh
    rw [e] at e2
    unfold backO at e2
    by_cases hc2 : c ≤ h
    · rw [if_pos hc2] at e2
      cases n with
      | zero => omega
      | succ n =>
        have down : ∀ b, atO row (h - c) = some b → g = b + 1 → ∃ o, o * c ≤ h ∧ o ≤ g ∧ atO prev (h - o * c) = some (g - o) := fun b eb hg => by
          obtain ⟨o, o1, o2, o3⟩ := row_often hc hr n (h - c) b (by omega) (by omega) eb
          have em : (o + 1) * c = o * c + c := Nat.succ_mul o c
          refine ⟨o + 1, by omega, by omega, ?_⟩
          rw [show h - (o + 1) * c = h - c - o * c by omega, o3]
          congr 1
          omega
        cases ea : atO prev h with
        | none =>
          rw [ea] at e2
          cases eb : atO row (h - c) with
          | none => rw [eb] at e2; cases e2
          | some b =>
            rw [eb] at e2
            have : g = b + 1 := by simpa [bst] using e2
            exact down b eb this
        | some a =>
          rw [ea] at e2
          cases eb : atO row (h - c) with
          | none =>
            rw [eb] at e2
            have : g = a := by simpa [bst] using e2
            subst this
            exact ⟨0, by omega, by omega, by simpa using ea⟩
          | some b =>
            rw [eb] at e2
            have : g = min a (b + 1) := by simpa [bst] using e2
            by_cases hab : a ≤ b + 1
            · have : g = a := by omega
              subst this
              exact ⟨0, by omega, by omega, by simpa using ea⟩
            · exact down b eb (by omega)
    · rw [if_neg hc2] at e2
      cases ea : atO prev h with
      | none => rw [ea] at e2; cases e2
      | some a =>
        rw [ea] at e2
        have : g = a := by simpa [bst] using e2
        subst this
        exact ⟨0, by omega, by omega, by simpa using ea⟩
def rowsF (n : Nat) : List Nat → List ON
  | [] => [some 0 :: List.replicate n none]
  | c :: cs => rowAux c [] ((rowsF n cs).headD []) :: rowsF n cs
theorem rows_ne (n : Nat) (cs : List Nat) : ∃ r rs, rowsF n cs = r :: rs := by
  cases cs <;> exact ⟨_, _, rfl⟩
def headF (n : Nat) (cs : List Nat) : ON := (rowsF n cs).headD []
theorem head_len {n : Nat} : ∀ {cs : List Nat}, (∀ c ∈ cs, 0 < c) → (headF n cs).length = n + 1
  | [], _ => by simp [headF, rowsF]
  | c :: cs, h => by
    have := (row_of (h c List.mem_cons_self) (headF n cs)).1
    rw [head_len (cs := cs) fun z hz => h z (List.mem_cons_of_mem _ hz)] at this
    exact this
def hits (rest : ON) (left goal c : Nat) (o : Nat) : Bool := match atO rest (left - o * c) with
  | none => false
  | some r => decide (r + o = goal)
def toldF (n : Nat) : List Nat → Nat → List Nat
  | [], _ => []
  | c :: cs, left =>
    let o := (((List.range (left / c + 1)).filter (hits (headF n cs) left ((atO (headF n (c :: cs)) left).getD 0) c)).headD 0)
    o :: toldF n cs (left - o * c)
theorem told_turn {n c : Nat} {cs : List Nat} (h : ∀ z ∈ c :: cs, 0 < z) {left g : Nat} (hl : left ≤ n) (e : atO (headF n (c :: cs)) left = some g) :
    ∃ o os, (List.range (left / c + 1)).filter (hits (headF n cs) left g c) = o :: os ∧ o * c ≤ left ∧ atO (headF n cs) (left - o * c) = some (g - o) := by
  have hc := h c List.mem_cons_self
  have hlen := head_len (n := n) (cs := cs) fun z hz => h z (List.mem_cons_of_mem _ hz)
  obtain ⟨o, o1, o2, o3⟩ := row_often hc (row_of hc (headF n cs)) left left g (Nat.le_refl _) (by omega) e
  have mem : o ∈ (List.range (left / c + 1)).filter (hits (headF n cs) left g c) := by
    rw [List.mem_filter, List.mem_range]
    refine ⟨Nat.lt_succ_of_le ((Nat.le_div_iff_mul_le hc).mpr o1), ?_⟩
    unfold hits
    rw [o3]
    simp only [decide_eq_true_eq]
    omega
  cases q : (List.range (left / c + 1)).filter (hits (headF n cs) left g c) with
  | nil => rw [q] at mem; cases mem
  | cons x xs =>
    refine ⟨x, xs, rfl, ?_, ?_⟩
    · have : x ∈ (List.range (left / c + 1)).filter (hits (headF n cs) left g c) := by rw [q]; exact List.mem_cons_self
      rw [List.mem_filter, List.mem_range] at this
      exact (Nat.le_div_iff_mul_le hc).mp (Nat.le_of_lt_succ this.1)
    · have : x ∈ (List.range (left / c + 1)).filter (hits (headF n cs) left g c) := by rw [q]; exact List.mem_cons_self
      rw [List.mem_filter] at this
      have hh := this.2
      unfold hits at hh
      cases ea : atO (headF n cs) (left - x * c) with
      | none => rw [ea] at hh; cases hh
      | some r =>
        rw [ea] at hh
        have : r + x = g := by simpa using hh
        congr 1
        omega
end PF

namespace PF
open PySem PySem.Spec PyProof.Rows L2
/-! ### common -/
theorem step {a b : C} {ρ ρ1 : Sl} {p p1 : Pst} {Q : SRes → Prop} (h : a ρ p = .nx ρ1 p1) (k : Q (b ρ1 p1)) : Q (cseq a b ρ p) := by
  rw [ev_cseq, h]; exact k
theorem step_if {t : M Bool} {a b : C} {ρ : Sl} {p p1 : Pst} {Q : SRes → Prop} (h : t ρ p = .ok false p1) (k : Q (b ρ p1)) : Q (cseq (cif t a cskip) b ρ p) := by
  rw [ev_cseq, ev_cif, ev_eout, h]; exact k
theorem step_rt {t : M Bool} {m : M D} {b : C} {ρ : Sl} {p p1 p2 : Pst} {d : D} (h : t ρ p = .ok true p1) (k : m ρ p1 = .ok d p2) : (cseq (cif t (cret m) cskip) b ρ p) = .rt d false p2 := by
  rw [ev_cseq, ev_cif, ev_eout, h, andS_ok, kC_ap, if_pos rfl, ev_cret, ev_eout, k]; rfl
theorem repE {d : D} (h : okX d = true) : dReprE [d] = some (.str (rtext d)) := dReprE_ok h
theorem mLc_lstY {i : Nat} {mi : M (List D)} {el : M D} {ρ : Sl} {p p1 : Pst} {items : List D} (hi : mi ρ p = .ok items p1) (g : D → D)
    (h : ∀ d ∈ items, el ((wipeS ρ [i]).set i (some (.val d))) p1 = .ok (g d) p1) : mLc [i] mi (fName i) mYes el ρ p = .ok (items.map g) p1 := by
  have := mLc_lst (i := i) (tt := mYes) hi (fun _ => true) g fun d hd => ⟨rfl, fun _ => h d hd⟩
  rwa [filter_yes] at this
theorem mul_s {i j : Int} (h : -1000000 ≤ i) (h' : i ≤ 1000000) : dMul (.int i) (.int j) = some (.int (i * j)) := dMul_int (.inl (by omega))
theorem mul_r {i j : Int} (h : -1000000 ≤ j) (h' : j ≤ 1000000) : dMul (.int i) (.int j) = some (.int (i * j)) := dMul_int (.inr (by omega))
theorem cat_ok {xs ys : List D} (h : xs.length + ys.length ≤ 16000000) : dAdd (.lst xs) (.lst ys) = some (.lst (xs ++ ys)) := by
  show dCatL (.lst xs) (.lst ys) = _
  simp only [dCatL]
  rw [if_pos (by rw [sizeLine_eq]; omega)]
/-- a loop that may say False -/
theorem for_ret {G : D → Sl → Pst → Option (Sl × Pst)} {body : C} {p : Pst} (b : D → Bool) (I : Sl → Prop) : ∀ (items : List D) (ρ : Sl), I ρ →
    (∀ d ∈ items, ∀ ρ, I ρ → ∃ ρ1, G d ρ p = some (ρ1, p) ∧ ((b d = true ∧ ∃ ρ2, body ρ1 p = .nx ρ2 p ∧ I ρ2) ∨ (b d = false ∧ body ρ1 p = .rt (.bl false) false p))) →
    ((items.all b = true ∧ ∃ ρ2, cforGo G body items ρ p = .nx ρ2 p ∧ I ρ2) ∨ (items.all b = false ∧ cforGo G body items ρ p = .rt (.bl false) false p))
  | [], ρ, h0, _ => .inl ⟨rfl, ρ, rfl, h0⟩
  | d :: ds, ρ, h0, hs => by
    obtain ⟨ρ1, e, hb⟩ := hs d List.mem_cons_self ρ h0
    rw [List.all_cons]
    rcases hb with ⟨hd, ρ2, e2, h2⟩ | ⟨hd, e2⟩
    · have := for_ret b I ds ρ2 h2 fun z hz => hs z (List.mem_cons_of_mem _ hz)
      have e3 : cforGo G body (d :: ds) ρ p = cforGo G body ds ρ2 p := by simp only [cforGo, e, e2]
      rw [e3, hd, Bool.true_and]
      exact this
    · exact .inr ⟨by rw [hd, Bool.false_and], by simp only [cforGo, e, e2]⟩
/-! ### values -/
def vk : D → Bool
  | .scr _ => false
  | .pot _ => false
  | _ => true
theorem vk_np {d : D} (h : vk d = true) : noPot d = true := by cases d <;> first | rfl | cases h
structure Sqv (d : D) (xs : List D) : Prop where
  np : noPot d = true
  ty : isTys [.list, .tuple] d = true
  sq : sqD d = some xs
  sd : ∀ ρ p, seqD d ρ p = .ok xs p
  ln : dLen [d] = some (.int xs.length)
  ix : ∀ i, dIx d (.int i) = atI xs i
  dr : ∃ d', dSl d (some 1) none = some d' ∧ sqD d' = some (xs.drop 1)
theorem cut_from {α : Type} (k : Nat) (xs : List α) : cutA xs (some (k : Int)) none = xs.drop k := by
  unfold cutA
  have e : HT.sIx xs.length 0 (some (k : Int)) = min k xs.length := HT.sIx_nat xs.length 0 k
  have e2 : HT.sIx xs.length xs.length none = xs.length := rfl
  rw [e, e2]
  by_cases h : k ≤ xs.length
  · rw [Nat.min_eq_left h, List.take_of_length_le (by simp)]
  · rw [Nat.min_eq_right (by omega), List.drop_of_length_le (by omega), List.drop_of_length_le (by omega)]; simp
theorem sl_from1 (xs : List D) : dSl (.lst xs) (some 1) none = some (.lst (xs.drop 1)) := by
  show some (D.lst (cutA xs (some ((1 : Nat) : Int)) none)) = _
  rw [cut_from]
theorem slt_from1 (xs : List D) : dSl (.tup xs) (some 1) none = some (.tup (xs.drop 1)) := by
  show some (D.tup (cutA xs (some ((1 : Nat) : Int)) none)) = _
  rw [cut_from]
theorem sqv_lst (xs : List D) : Sqv (.lst xs) xs := ⟨rfl, rfl, rfl, fun ρ p => by rw [ev_seqD_lst], rfl, fun i => rfl, _, sl_from1 xs, rfl⟩
theorem sqv_tup (xs : List D) : Sqv (.tup xs) xs := ⟨rfl, rfl, rfl, fun ρ p => by rw [ev_seqD_tup], rfl, fun i => rfl, _, slt_from1 xs, rfl⟩
theorem sqv {d : D} (h : vk d = true) : (∃ xs, Sqv d xs) ∨ (noPot d = true ∧ isTys [.list, .tuple] d = false ∧ sqD d = none) := by
  cases d <;> first | (cases h; done) | exact .inl ⟨_, sqv_lst _⟩ | exact .inl ⟨_, sqv_tup _⟩ | exact .inr ⟨rfl, rfl, rfl⟩
def isI : D → Bool
  | .int _ => true
  | _ => false
def cnB : D → Bool
  | .int i => decide (0 ≤ i)
  | _ => false
def wiB (l m : Int) : D → Bool
  | .int i => decide (l ≤ i) && decide (i ≤ m)
  | _ => false
def intD : D → Int
  | .int i => i
  | _ => 0
theorem ints_of : ∀ {xs : List D}, xs.all isI = true → xs = (xs.map intD).map .int
  | [], _ => rfl
  | x :: xs, h => by
    rw [List.all_cons, Bool.and_eq_true] at h
    cases x <;> first | (cases h.1; done) | skip
    rw [List.map_cons, List.map_cons, ← ints_of h.2]; rfl
theorem all_imp {α : Type} {b c : α → Bool} (h : ∀ x, b x = true → c x = true) {xs : List α} (h2 : xs.all b = true) : xs.all c = true := by
  rw [List.all_eq_true] at *
  exact fun x hx => h x (h2 x hx)
theorem cn_isI (x : D) (h : cnB x = true) : isI x = true := by cases x <;> first | rfl | cases h
theorem wi_isI {l m : Int} (x : D) (h : wiB l m x = true) : isI x = true := by cases x <;> first | rfl | cases h
theorem e_is_integer (d : D) (h : noPot d = true) (p : Pst) : F_is_integer [d] p = .ok (.bl (isI d)) false p := by
  rw [en_is_integer, c_is_integer]
  cases d <;> first | (simp [noPot] at h; done) | simp [isTy, isI]
theorem e_is_count (d : D) (h : noPot d = true) (p : Pst) : F_is_count [d] p = .ok (.bl (cnB d)) false p := by
  rw [en_is_count, c_is_count]
  have e := e_is_integer d h p
  cases d <;> simp [e, isI, cnB]
theorem e__law_is_count (d : D) (h : noPot d = true) (p : Pst) : F__law_is_count [d] p = .ok (.bl (cnB d)) false p := by
  rw [en__law_is_count, c__law_is_count]
  cases d <;> first | (simp [noPot] at h; done) | simp [isTy, cnB]
theorem e_is_within (d : D) (h : noPot d = true) (l m : Int) (p : Pst) : F_is_within [d, .int l, .int m] p = .ok (.bl (wiB l m d)) false p := by
  rw [en_is_within, c_is_within]
  have e := e_is_integer d h p
  cases d <;> first | (simp [e, isI, wiB]; done) | skip
  rename_i i
  by_cases h : l ≤ i <;> simp [e, isI, wiB, iLe, h]
theorem e_is_list (d : D) (h : noPot d = true) (p : Pst) : F_is_list [d] p = .ok (.bl (isTys [.list, .tuple] d)) false p := by
  rw [en_is_list, c_is_list]
  simp [h]
theorem e_check_number (d : D) (h : noPot d = true) (l m : Int) (hw : wiB l m d = true) (p : Pst) : F_check_number [d, .int l, .int m] p = .ok .non false p := by
  rw [en_check_number, c_check_number]
  simp [e_is_within d h, hw]
/-! ### coins -/
def ascs : List Int → List Bool
  | a :: b :: r => decide (a < b) :: ascs (b :: r)
  | _ => []
def gAsc : D → D
  | .tup [.int a, .int b] => .bl (decide (a < b))
  | _ => .non
theorem zip_asc : ∀ ns : List Int, (zipL (ns.map .int) ((ns.map .int).drop 1)).map gAsc = (ascs ns).map .bl
  | [] => rfl
  | [a] => rfl
  | a :: b :: r => by
    have ih := zip_asc (b :: r)
    simp only [List.map_cons, List.drop_succ_cons, List.drop_zero, ascs] at ih ⊢
    rw [← ih]
    rfl
theorem zip_ints {ns : List Int} {d : D} (h : d ∈ zipL (ns.map .int) ((ns.map .int).drop 1)) : ∃ a b, d = .tup [.int a, .int b] := by
  obtain ⟨i, hi, rfl⟩ := List.mem_iff_getElem.mp h
  obtain ⟨x, y, h1, h2, h3⟩ := zipL_get (List.getElem?_eq_getElem hi)
  rw [h3]
  rw [List.getElem?_map] at h1
  rw [List.getElem?_drop, List.getElem?_map] at h2
  cases e1 : ns[i]? with
  | none => rw [e1] at h1; cases h1
  | some a =>
    rw [e1] at h1; cases h1
    cases e2 : ns[1 + i]? with
    | none => rw [e2] at h2; cases h2
    | some b => rw [e2] at h2; cases h2; exact ⟨a, b, rfl⟩
def areB (d : D) : Bool := match sqD d with
  | none => false
  | some xs => decide (1 ≤ xs.length) && decide (xs.length ≤ 4) && xs.all (wiB 1 60) && (ascs (xs.map intD)).all id
def NP (d : D) : Prop := vk d = true ∧ ∀ xs, sqD d = some xs → ∀ x ∈ xs, noPot x = true
theorem e_are_coins_of (d : D) (h : NP d) (p : Pst) : F_are_coins_of [d] p = .ok (.bl (areB d)) false p := by
  rw [en_are_coins_of, c_are_coins_of]
  have e1 := e_is_list d (vk_np h.1) p
  rcases sqv h.1 with ⟨xs, s⟩ | ⟨np, h1, h2⟩
  · have a1 : areB d = (decide (1 ≤ xs.length) && decide (xs.length ≤ 4) && xs.all (wiB 1 60) && (ascs (xs.map intD)).all id) := by unfold areB; rw [s.sq]
    rw [s.ty] at e1
    by_cases hl : 1 ≤ xs.length ∧ xs.length ≤ 4
    · have m1 : m_are_coins_of_1 [some (.val d), none, none, none] p = .ok (xs.map fun x => .bl (wiB 1 60 x)) p := mLc_lstY (by simp [s.sd]) _ (fun x hx => by simp [wipeS, e_is_within x (h.2 xs s.sq x hx)])
      have m2 := dAll_map (wiB 1 60) xs
      have hl1 : (1 : Int) ≤ xs.length := by omega
      have hl2 : (xs.length : Int) ≤ 4 := by omega
      refine (congrArg sres (step_if (Q := fun r => r = .rt (.bl (areB d)) false p) (p1 := p) (by simp [e1, s.ln, iLe, hl1, hl2]) ?_))
      by_cases hw : xs.all (wiB 1 60) = true
      · rw [hw] at m2
        refine step_if (Q := fun r => r = .rt (.bl (areB d)) false p) (p1 := p) (by simp [m1, m2]) ?_
        have hx := ints_of (all_imp wi_isI hw)
        obtain ⟨d', q1, q2⟩ := s.dr
        have m3 : m_are_coins_of_2 [some (.val d), none, none, none] p = .ok ((ascs (xs.map intD)).map .bl) p := by
          have hz : mZipS (mcons (rd 0) (mcons (mSl (rd 0) (mPart (mret (.int 1))) (mret none)) (mret []))) [some (.val d), none, none, none] p = .ok (zipL xs (xs.drop 1)) p := by simp [q1, q2, s.sq]
          have := mLc_pure (vs := [2, 3]) (f := fTup (fCons (fName 2) (fCons (fName 3) (fNil)))) (tt := mYes) (el := mB (mCmp dLt (rd 2) (rd 3))) hz (fun _ => true) gAsc (by
            intro z hz
            rw [hx] at hz
            obtain ⟨a, b, rfl⟩ := zip_ints hz
            exact ⟨_, rfl, rfl, fun _ => by simp [gAsc, wipeS]⟩)
          rw [filter_yes] at this
          rw [← zip_asc, ← hx]
          exact this
        have m4 := dAll_bls (ascs (xs.map intD))
        rw [a1, hw]
        simp [m3, m4, hl.1, hl.2]
      · have hw : xs.all (wiB 1 60) = false := by simpa using hw
        rw [hw] at m2
        rw [a1, hw]
        refine step_rt (p1 := p) (by simp [m1, m2]) (by simp)
    · rw [a1]
      have : (decide (1 ≤ xs.length) && decide (xs.length ≤ 4)) = false := by
        rw [Bool.and_eq_false_iff]
        by_cases h1 : 1 ≤ xs.length
        · right; exact decide_eq_false fun q => hl ⟨h1, q⟩
        · left; exact decide_eq_false h1
      rw [this, Bool.false_and, Bool.false_and]
      refine congrArg sres (step_rt (p1 := p) ?_ (by simp))
      by_cases h1 : (1 : Int) ≤ xs.length
      · have h2 : ¬ ((xs.length : Int) ≤ 4) := by omega
        simp [e1, s.ln, iLe, h1, h2]
      · simp [e1, s.ln, iLe, h1]
  · have a1 : areB d = false := by unfold areB; rw [h2]
    rw [a1]
    rw [h1] at e1
    refine congrArg sres (step_rt (p1 := p) (by simp [e1]) (by simp))
theorem e__law_are_coins (d : D) (h : NP d) (p : Pst) : F__law_are_coins [d] p = .ok (.bl (areB d)) false p := by
  rw [en__law_are_coins, c__law_are_coins]
  rcases sqv h.1 with ⟨xs, s⟩ | ⟨np, h1, h2⟩
  · have a1 : areB d = (decide (1 ≤ xs.length) && decide (xs.length ≤ 4) && xs.all (wiB 1 60) && (ascs (xs.map intD)).all id) := by unfold areB; rw [s.sq]
    by_cases hl : 1 ≤ xs.length ∧ xs.length ≤ 4
    · have m1 : m__law_are_coins_1 [some (.val d), none, none] p = .ok (xs.map fun x => .bl (wiB 1 60 x)) p := mLc_lstY (by simp [s.sd]) _ (fun x hx => by
        have e := e__law_is_count x (h.2 xs s.sq x hx) p
        cases x <;> first | (simp [wipeS, e, cnB, wiB]; done) | skip
        rename_i i
        by_cases h0 : 0 ≤ i
        · by_cases h1 : 1 ≤ i <;> simp [wipeS, e, cnB, wiB, iLe, h0, h1]
        · have h1 : ¬ 1 ≤ i := by omega
          simp [wipeS, e, cnB, wiB, iLe, h0, h1])
      have m2 := dAll_map (wiB 1 60) xs
      have hl1 : (1 : Int) ≤ xs.length := by omega
      have hl2 : (xs.length : Int) ≤ 4 := by omega
      by_cases hw : xs.all (wiB 1 60) = true
      · rw [hw] at m2
        refine congrArg sres (step_if (Q := fun r => r = .rt (.bl (areB d)) false p) (p1 := p) (by simp [s.np, s.ty, s.ln, iLe, hl1, hl2, m1, m2]) ?_)
        have hx := ints_of (all_imp wi_isI hw)
        obtain ⟨d', q1, q2⟩ := s.dr
        have m3 : m__law_are_coins_2 [some (.val d), none, none] p = .ok ((ascs (xs.map intD)).map .bl) p := by
          have hz : mZipS (mcons (rd 0) (mcons (mSl (rd 0) (mPart (mret (.int 1))) (mret none)) (mret []))) [some (.val d), none, none] p = .ok (zipL xs (xs.drop 1)) p := by simp [q1, q2, s.sq]
          have := mLc_pure (vs := [1, 2]) (f := fTup (fCons (fName 1) (fCons (fName 2) (fNil)))) (tt := mYes) (el := mB (mCmp dLt (rd 1) (rd 2))) hz (fun _ => true) gAsc (by
            intro z hz
            rw [hx] at hz
            obtain ⟨a, b, rfl⟩ := zip_ints hz
            exact ⟨_, rfl, rfl, fun _ => by simp [gAsc, wipeS]⟩)
          rw [filter_yes] at this
          rw [← zip_asc, ← hx]
          exact this
        have m4 := dAll_bls (ascs (xs.map intD))
        rw [a1, hw]
        simp [m3, m4, hl.1, hl.2]
      · have hw : xs.all (wiB 1 60) = false := by simpa using hw
        rw [hw] at m2
        rw [a1, hw]
        simp only [Bool.and_false, Bool.false_and]
        refine congrArg sres (step_rt (p1 := p) (by simp [s.np, s.ty, s.ln, iLe, hl1, hl2, m1, m2]) (by simp))
    · rw [a1]
      have : (decide (1 ≤ xs.length) && decide (xs.length ≤ 4)) = false := by
        rw [Bool.and_eq_false_iff]
        by_cases h1 : 1 ≤ xs.length
        · right; exact decide_eq_false fun q => hl ⟨h1, q⟩
        · left; exact decide_eq_false h1
      rw [this, Bool.false_and, Bool.false_and]
      refine congrArg sres (step_rt (p1 := p) ?_ (by simp))
      by_cases h1 : (1 : Int) ≤ xs.length
      · have h2 : ¬ ((xs.length : Int) ≤ 4) := by omega
        simp [s.np, s.ty, s.ln, iLe, h1, h2]
      · simp [s.np, s.ty, s.ln, iLe, h1]
  · have a1 : areB d = false := by unfold areB; rw [h2]
    rw [a1]
    refine congrArg sres (step_rt (p1 := p) (by simp [np, h1]) (by simp))
end PF

namespace PF
open PySem PySem.Spec PyProof.Rows L2
/-! ### the guards -/
structure Cn (cs : List Nat) : Prop where
  ar : areB (.lst (cs.map dI)) = true
  len : 1 ≤ cs.length ∧ cs.length ≤ 4
  bd : ∀ c ∈ cs, 1 ≤ c ∧ c ≤ 60
theorem np_ints {xs : List D} (h : ∀ x ∈ xs, noPot x = true) : NP (.lst xs) := ⟨rfl, fun ys e x hx => by cases e; exact h x hx⟩
theorem np_intsT {xs : List D} (h : ∀ x ∈ xs, noPot x = true) : NP (.tup xs) := ⟨rfl, fun ys e x hx => by cases e; exact h x hx⟩
theorem np_cs (cs : List Nat) : ∀ x ∈ cs.map dI, noPot x = true := fun x hx => by
  obtain ⟨c, _, rfl⟩ := List.mem_map.mp hx
  exact noPot_dI c
theorem e_check_coins {cs : List Nat} (h : Cn cs) (p : Pst) : F_check_coins [.lst (cs.map dI)] p = .ok .non false p := by
  rw [en_check_coins, c_check_coins]
  have e := e_are_coins_of _ (np_ints (np_cs cs)) p
  rw [h.ar] at e
  generalize cs.map dI = L at *
  simp [e]
theorem e_check_both {cs : List Nat} (h : Cn cs) {n : Nat} (hn : n ≤ 9999) (p : Pst) : F_check_both [.lst (cs.map dI), dI n, .int 9999] p = .ok .non false p := by
  rw [en_check_both, c_check_both]
  have e := e_check_coins h p
  have e2 := e_check_number (dI n) (noPot_dI n) 0 9999 (by simp [dI, wiB]; omega) p
  generalize cs.map dI = L at *
  simp [e, e2]
theorem cs_head {cs : List Nat} (h : Cn cs) : ∃ f r, cs = f :: r ∧ 1 ≤ f ∧ f ≤ 60 := by
  cases cs with
  | nil => have := h.len.1; simp at this
  | cons f r => exact ⟨f, r, rfl, h.bd f List.mem_cons_self⟩
/-! ### coin lists -/
def dot (cs : List Nat) (ns : List Int) : Int := (List.zipWith (fun (a : Int) (c : Nat) => a * (c : Int)) ns cs).sum
def gMul : D → D
  | .tup [.int a, .int b] => .int (a * b)
  | _ => .non
theorem zip_m1 : ∀ (ns : List Int) (cs : List Nat), (zipL (ns.map .int) (cs.map dI)).map gMul = (List.zipWith (fun (a : Int) (c : Nat) => a * (c : Int)) ns cs).map .int
  | [], _ => rfl
  | _ :: _, [] => rfl
  | a :: ns, c :: cs => by
    have := zip_m1 ns cs
    simp only [List.map_cons, List.zipWith_cons_cons] at this ⊢
    rw [← this]; rfl
theorem zip_m2 : ∀ (cs : List Nat) (ns : List Int), (zipL (cs.map dI) (ns.map .int)).map gMul = (List.zipWith (fun (a : Int) (c : Nat) => a * (c : Int)) ns cs).map .int
  | [], [] => rfl
  | [], _ :: _ => rfl
  | _ :: _, [] => rfl
  | c :: cs, a :: ns => by
    have := zip_m2 cs ns
    simp only [List.map_cons, List.zipWith_cons_cons] at this ⊢
    rw [← this, Int.mul_comm a]; rfl
theorem zip_i1 {ns : List Int} {cs : List Nat} {d : D} (h : d ∈ zipL (ns.map .int) (cs.map dI)) : ∃ a, ∃ c ∈ cs, d = .tup [.int a, dI c] := by
  obtain ⟨i, hi, rfl⟩ := List.mem_iff_getElem.mp h
  obtain ⟨x, y, h1, h2, h3⟩ := zipL_get (List.getElem?_eq_getElem hi)
  rw [h3]
  rw [List.getElem?_map] at h1 h2
  cases e1 : ns[i]? with
  | none => rw [e1] at h1; cases h1
  | some a =>
    rw [e1] at h1; cases h1
    cases e2 : cs[i]? with
    | none => rw [e2] at h2; cases h2
    | some b => rw [e2] at h2; cases h2; exact ⟨a, b, List.mem_of_getElem? e2, rfl⟩
theorem zip_i2 {ns : List Int} {cs : List Nat} {d : D} (h : d ∈ zipL (cs.map dI) (ns.map .int)) : ∃ a, ∃ c ∈ cs, d = .tup [dI c, .int a] := by
  obtain ⟨i, hi, rfl⟩ := List.mem_iff_getElem.mp h
  obtain ⟨x, y, h1, h2, h3⟩ := zipL_get (List.getElem?_eq_getElem hi)
  rw [h3]
  rw [List.getElem?_map] at h1 h2
  cases e1 : cs[i]? with
  | none => rw [e1] at h1; cases h1
  | some a =>
    rw [e1] at h1; cases h1
    cases e2 : ns[i]? with
    | none => rw [e2] at h2; cases h2
    | some b => rw [e2] at h2; cases h2; exact ⟨b, a, List.mem_of_getElem? e1, rfl⟩
theorem dSum_ints (ns : List Int) : dSum [.lst (ns.map .int)] = some (.int ns.sum) := by simp [dSum, intsOf_map]
def lisB (cs : List Nat) (n : Nat) (d : D) : Bool := match sqD d with
  | none => false
  | some xs => decide (xs.length = cs.length) && xs.all cnB && decide (dot cs (xs.map intD) = n)
theorem e_is_coin_list {cs : List Nat} (h : Cn cs) {n : Nat} (hn : n ≤ 9999) (d : D) (hd : NP d) (p : Pst) : F_is_coin_list [.lst (cs.map dI), dI n, d] p = .ok (.bl (lisB cs n d)) false p := by
  rw [en_is_coin_list, c_is_coin_list]
  have e0 := e_check_both h hn p
  have e1 := e_is_list d (vk_np hd.1) p
  have hlen : dLen [.lst (cs.map dI)] = some (dI cs.length) := by rw [nLen_lst, List.length_map]
  refine congrArg sres (step (Q := fun r => r = .rt (.bl (lisB cs n d)) false p) (p1 := p) (ρ1 := [some (.val (.lst (cs.map dI))), some (.val (dI n)), some (.val d), none, none]) (by generalize cs.map dI = L at *; simp [e0]) ?_)
  rcases sqv hd.1 with ⟨xs, s⟩ | ⟨np, h1, h2⟩
  · have a1 : lisB cs n d = (decide (xs.length = cs.length) && xs.all cnB && decide (dot cs (xs.map intD) = n)) := by unfold lisB; rw [s.sq]
    have sl : dLen [d] = some (dI xs.length) := s.ln
    rw [s.ty] at e1
    by_cases hl : xs.length = cs.length
    · have m1 : m_is_coin_list_1 [some (.val (.lst (cs.map dI))), some (.val (dI n)), some (.val d), none, none] p = .ok (xs.map fun x => .bl (cnB x)) p := mLc_lstY (by simp [s.sd]) _ (fun x hx => by simp [wipeS, e_is_count x (hd.2 xs s.sq x hx)])
      have m2 := dAll_map cnB xs
      by_cases hw : xs.all cnB = true
      · rw [hw] at m2
        have hx := ints_of (all_imp cn_isI hw)
        have m3 : m_is_coin_list_2 [some (.val (.lst (cs.map dI))), some (.val (dI n)), some (.val d), none, none] p = .ok ((List.zipWith (fun (a : Int) (c : Nat) => a * (c : Int)) (xs.map intD) cs).map .int) p := by
          have hz : mZipS (mcons (rd 2) (mcons (rd 0) (mret []))) [some (.val (.lst (cs.map dI))), some (.val (dI n)), some (.val d), none, none] p = .ok (zipL xs (cs.map dI)) p := by simp [s.sq]
          have := mLc_pure (vs := [3, 4]) (f := fTup (fCons (fName 3) (fCons (fName 4) (fNil)))) (tt := mYes) (el := mOp dMul (rd 3) (rd 4)) hz (fun _ => true) gMul (by
            intro z hz
            rw [hx] at hz
            obtain ⟨a, c, hc, rfl⟩ := zip_i1 hz
            have := h.bd c hc
            exact ⟨_, rfl, rfl, fun _ => by simp [gMul, wipeS, dI, mul_r (i := a) (j := (c : Int)) (by omega) (by omega)]⟩)
          rw [filter_yes] at this
          rw [← zip_m1, ← hx]
          exact this
        have m4 := dSum_ints (List.zipWith (fun (a : Int) (c : Nat) => a * (c : Int)) (xs.map intD) cs)
        rw [a1, hw]
        generalize hL : cs.map dI = L at *
        refine step_if (Q := fun r => r = .rt _ false p) (p1 := p) (by simp [-nLen_lst, e1, sl, hlen, hl, m1, m2]) ?_
        have m5 : ∀ S : Int, dEq (.int S) (dI n) = some (decide (S = n)) := fun S => dEq_int S n
        unfold dot
        generalize List.zipWith (fun (a : Int) (c : Nat) => a * (c : Int)) (xs.map intD) cs = Z at *
        simp [m3, m4, hl, m5]
      · have hw : xs.all cnB = false := by simpa using hw
        rw [hw] at m2
        rw [a1, hw]
        generalize hL : cs.map dI = L at *
        simp only [Bool.and_false, Bool.false_and]
        refine step_rt (p1 := p) (by simp [-nLen_lst, e1, sl, hlen, hl, m1, m2]) (by simp)
    · rw [a1, decide_eq_false hl]
      generalize hL : cs.map dI = L at *
      refine step_rt (p1 := p) (by simp [-nLen_lst, e1, sl, hlen, hl]) (by simp)
  · have a1 : lisB cs n d = false := by unfold lisB; rw [h2]
    rw [a1]
    rw [h1] at e1
    generalize hL : cs.map dI = L at *
    refine step_rt (p1 := p) (by simp [e1]) (by simp)
theorem e__law_is_list {cs : List Nat} (h : Cn cs) {n : Nat} (d : D) (hd : NP d) (p : Pst) : F__law_is_list [.lst (cs.map dI), dI n, d] p = .ok (.bl (lisB cs n d)) false p := by
  rw [en__law_is_list, c__law_is_list]
  have hlen : dLen [.lst (cs.map dI)] = some (dI cs.length) := by rw [nLen_lst, List.length_map]
  rcases sqv hd.1 with ⟨xs, s⟩ | ⟨np, h1, h2⟩
  · have a1 : lisB cs n d = (decide (xs.length = cs.length) && xs.all cnB && decide (dot cs (xs.map intD) = n)) := by unfold lisB; rw [s.sq]
    have sl : dLen [d] = some (dI xs.length) := s.ln
    have ty := s.ty
    have np := s.np
    by_cases hl : xs.length = cs.length
    · have m1 : m__law_is_list_1 [some (.val (.lst (cs.map dI))), some (.val (dI n)), some (.val d), none, none, none] p = .ok (xs.map fun x => .bl (cnB x)) p := mLc_lstY (by simp [s.sd]) _ (fun x hx => by simp [wipeS, e__law_is_count x (hd.2 xs s.sq x hx)])
      have m2 := dAll_map cnB xs
      by_cases hw : xs.all cnB = true
      · rw [hw] at m2
        have hx := ints_of (all_imp cn_isI hw)
        have m3 : m__law_is_list_2 [some (.val (.lst (cs.map dI))), some (.val (dI n)), some (.val d), none, none, none] p = .ok ((List.zipWith (fun (a : Int) (c : Nat) => a * (c : Int)) (xs.map intD) cs).map .int) p := by
          have hz : mZipS (mcons (rd 0) (mcons (rd 2) (mret []))) [some (.val (.lst (cs.map dI))), some (.val (dI n)), some (.val d), none, none, none] p = .ok (zipL (cs.map dI) xs) p := by simp [s.sq]
          have := mLc_pure (vs := [4, 5]) (f := fTup (fCons (fName 4) (fCons (fName 5) (fNil)))) (tt := mYes) (el := mOp dMul (rd 4) (rd 5)) hz (fun _ => true) gMul (by
            intro z hz
            rw [hx] at hz
            obtain ⟨a, c, hc, rfl⟩ := zip_i2 hz
            have := h.bd c hc
            exact ⟨_, rfl, rfl, fun _ => by simp [gMul, wipeS, dI, mul_s (i := (c : Int)) (j := a) (by omega) (by omega)]⟩)
          rw [filter_yes] at this
          rw [← zip_m2, ← hx]
          exact this
        have m4 := dSum_ints (List.zipWith (fun (a : Int) (c : Nat) => a * (c : Int)) (xs.map intD) cs)
        rw [a1, hw]
        generalize hL : cs.map dI = L at *
        refine congrArg sres (step_if (Q := fun r => r = .rt _ false p) (p1 := p) (by simp [-nLen_lst, np, ty, sl, hlen, hl, m1, m2]) ?_)
        have m5 : ∀ S : Int, dEq (.int S) (dI n) = some (decide (S = n)) := fun S => dEq_int S n
        unfold dot
        generalize List.zipWith (fun (a : Int) (c : Nat) => a * (c : Int)) (xs.map intD) cs = Z at *
        simp [m3, m4, hl, m5]
      · have hw : xs.all cnB = false := by simpa using hw
        rw [hw] at m2
        rw [a1, hw]
        generalize hL : cs.map dI = L at *
        simp only [Bool.and_false, Bool.false_and]
        refine congrArg sres (step_rt (p1 := p) (by simp [-nLen_lst, np, ty, sl, hlen, hl, m1, m2]) (by simp))
    · rw [a1, decide_eq_false hl]
      generalize hL : cs.map dI = L at *
      refine congrArg sres (step_rt (p1 := p) (by simp [-nLen_lst, np, ty, sl, hlen, hl]) (by simp))
  · have a1 : lisB cs n d = false := by unfold lisB; rw [h2]
    rw [a1]
    generalize hL : cs.map dI = L at *
    refine congrArg sres (step_rt (p1 := p) (by simp [np, h1]) (by simp))
end PF

namespace PF
open PySem PySem.Spec PyProof.Rows L2
/-! ### low lists -/
def oD : Option Int → D
  | none => .non
  | some i => .int i
def oI : D → Option Int
  | .int i => some i
  | _ => none
def onB : D → Bool
  | .non => true
  | .int _ => true
  | _ => false
theorem ons_of : ∀ {xs : List D}, xs.all onB = true → xs = (xs.map oI).map oD
  | [], _ => rfl
  | x :: xs, h => by
    rw [List.all_cons, Bool.and_eq_true] at h
    cases x <;> first | (cases h.1; done) | skip
    all_goals rw [List.map_cons, List.map_cons, ← ons_of h.2]; rfl
def stD (f : Nat) (ys : List (Option Int)) (k : Nat) (v : Int) : D → Bool
  | .int c => (match ys.getD ((k + c.toNat) % f) none with | none => false | some w => decide (w ≤ v + c))
  | _ => true
def bLow (f : Nat) (cs : List Nat) (ys : List (Option Int)) : D → Bool
  | .tup [.int i, .int v] => (cs.map dI).all (stD f ys i.toNat v)
  | _ => true
def firB (ys : List (Option Int)) : Bool := match ys.getD 0 none with
  | none => false
  | some v => decide (v ≤ 0)
def lowY (f : Nat) (cs : List Nat) (ys : List (Option Int)) : Bool := firB ys && (enumL (ys.map oD)).all (bLow f cs ys)
def lowB (cs : List Nat) (d : D) : Bool := match sqD d with
  | none => false
  | some xs => decide (xs.length = cs.headD 0) && xs.all onB && lowY (cs.headD 0) cs (xs.map oI)
theorem sqv_nix {d : D} {xs : List D} (s : Sqv d xs) {k : Nat} {x : D} (h : xs[k]? = some x) : dIx d (dI k) = some x := by
  have := s.ix (k : Int)
  have e : dIx (.lst xs) (dI k) = some x := nIx_lst h
  exact this.trans e
theorem ys_at (ys : List (Option Int)) {k : Nat} (h : k < ys.length) : (ys.map oD)[k]? = some (oD (ys.getD k none)) := by
  rw [List.getElem?_map, List.getElem?_eq_getElem h]
  simp [List.getD_eq_getElem?_getD, List.getElem?_eq_getElem h]
theorem enum_mem {xs : List D} {d : D} (h : d ∈ enumL xs) : ∃ i, i < xs.length ∧ ∃ x, xs[i]? = some x ∧ d = .tup [dI i, x] := by
  unfold enumL at h
  obtain ⟨i, hi, rfl⟩ := List.mem_iff_getElem.mp h
  rw [List.length_mapIdx] at hi
  exact ⟨i, hi, xs[i], List.getElem?_eq_getElem hi, by rw [List.getElem_mapIdx]; rfl⟩
section
variable {f : Nat} {cs : List Nat} {ys : List (Option Int)} {d : D}
/-- one look, from a place by a coin -/
theorem look (hf : 0 < f) (hl : ys.length = f) (s : Sqv d (ys.map oD)) (k c : Nat) : ∃ z, dIx d (dI ((k + c) % f)) = some (oD z) ∧ ∀ v, stD f ys k v (dI c) = (match z with | none => false | some w => decide (w ≤ v + c)) := by
  refine ⟨_, sqv_nix s (ys_at ys (by rw [hl]; exact Nat.mod_lt _ hf)), fun v => ?_⟩
  simp only [stD, dI, Int.toNat_natCast]
theorem k_inner (hf : 0 < f) (hl : ys.length = f) (s : Sqv d (ys.map oD)) (k : Nat) (v : Int) (s5 s6 : Option W) (p : Pst) :
    ((cs.map dI).all (stD f ys k v) = true ∧ ∃ ρ2, cforGo (tgName 5) b_is_low_list_of_2 (cs.map dI) [some (.val (.lst (cs.map dI))), some (.val d), some (.val (dI f)), some (.val (dI k)), some (.val (.int v)), s5, s6] p = .nx ρ2 p ∧ ∃ s5 s6, ρ2 = [some (.val (.lst (cs.map dI))), some (.val d), some (.val (dI f)), some (.val (dI k)), some (.val (.int v)), s5, s6])
    ∨ ((cs.map dI).all (stD f ys k v) = false ∧ cforGo (tgName 5) b_is_low_list_of_2 (cs.map dI) [some (.val (.lst (cs.map dI))), some (.val d), some (.val (dI f)), some (.val (dI k)), some (.val (.int v)), s5, s6] p = .rt (.bl false) false p) := by
  refine for_ret (stD f ys k v) (fun ρ => ∃ s5 s6, ρ = [some (.val (.lst (cs.map dI))), some (.val d), some (.val (dI f)), some (.val (dI k)), some (.val (.int v)), s5, s6]) (cs.map dI) _ ⟨s5, s6, rfl⟩ fun z hz ρ hρ => ?_
  obtain ⟨c, hc, rfl⟩ := List.mem_map.mp hz
  obtain ⟨s5, s6, rfl⟩ := hρ
  obtain ⟨z, e1, e2⟩ := look hf hl s k c
  rw [e2 v]
  refine ⟨_, rfl, ?_⟩
  unfold b_is_low_list_of_2
  have m := nMod (a := k + c) hf
  generalize cs.map dI = L at *
  have ad : dAdd (.int v) (dI c) = some (.int (v + c)) := rfl
  cases z with
  | none =>
    refine .inr ⟨rfl, ?_⟩
    simp [m, e1, oD]
  | some w =>
    simp only [oD] at e1
    by_cases hw : w ≤ v + c
    · refine .inl ⟨by simpa using hw, _, ?_, some (.val (dI c)), some (.val (.int w)), rfl⟩
      have : ¬ v + (c : Int) < w := by omega
      simp [m, e1, ad, this]
    · refine .inr ⟨by simpa using hw, ?_⟩
      have : v + (c : Int) < w := by omega
      simp [m, e1, ad, this]
theorem k_outer (hf : 0 < f) (hl : ys.length = f) (s : Sqv d (ys.map oD)) (s3 s4 s5 s6 : Option W) (p : Pst) :
    ((enumL (ys.map oD)).all (bLow f cs ys) = true ∧ ∃ ρ2, cforGo (tgTup 2 (tgCons (tgName 3) (tgCons (tgName 4) (tgNil)))) b_is_low_list_of_3 (enumL (ys.map oD)) [some (.val (.lst (cs.map dI))), some (.val d), some (.val (dI f)), s3, s4, s5, s6] p = .nx ρ2 p ∧ ∃ s3 s4 s5 s6, ρ2 = [some (.val (.lst (cs.map dI))), some (.val d), some (.val (dI f)), s3, s4, s5, s6])
    ∨ ((enumL (ys.map oD)).all (bLow f cs ys) = false ∧ cforGo (tgTup 2 (tgCons (tgName 3) (tgCons (tgName 4) (tgNil)))) b_is_low_list_of_3 (enumL (ys.map oD)) [some (.val (.lst (cs.map dI))), some (.val d), some (.val (dI f)), s3, s4, s5, s6] p = .rt (.bl false) false p) := by
  refine for_ret (bLow f cs ys) (fun ρ => ∃ s3 s4 s5 s6, ρ = [some (.val (.lst (cs.map dI))), some (.val d), some (.val (dI f)), s3, s4, s5, s6]) (enumL (ys.map oD)) _ ⟨s3, s4, s5, s6, rfl⟩ fun z hz ρ hρ => ?_
  obtain ⟨i, hi, x, ex, rfl⟩ := enum_mem hz
  obtain ⟨s3, s4, s5, s6, rfl⟩ := hρ
  rw [List.length_map] at hi
  rw [ys_at ys hi] at ex
  cases ex
  refine ⟨[some (.val (.lst (cs.map dI))), some (.val d), some (.val (dI f)), some (.val (dI i)), some (.val (oD (ys.getD i none))), s5, s6], rfl, ?_⟩
  unfold b_is_low_list_of_3
  cases e : ys.getD i none with
  | none =>
    simp only [oD]
    generalize cs.map dI = L at *
    exact .inl ⟨rfl, [some (.val (.lst L)), some (.val d), some (.val (dI f)), some (.val (dI i)), some (.val .non), s5, s6], by simp [cfor, cforGo], _, _, _, _, rfl⟩
  | some v =>
    have k := k_inner (cs := cs) hf hl s i v s5 s6 p
    have e2 : bLow f cs ys (.tup [dI i, .int v]) = (cs.map dI).all (stD f ys i v) := by simp only [bLow, dI, Int.toNat_natCast]
    simp only [oD]
    rw [e2]
    rcases k with ⟨hb, ρ2, k1, s5', s6', rfl⟩ | ⟨hb, k⟩
    · generalize cs.map dI = L at *
      exact .inl ⟨hb, [some (.val (.lst L)), some (.val d), some (.val (dI f)), some (.val (dI i)), some (.val (.int v)), s5', s6'], by simp [cfor, k1], _, _, _, _, rfl⟩
    · generalize cs.map dI = L at *
      exact .inr ⟨hb, by simp [cfor, k]⟩
theorem l_inner {r : List Nat} (hc : cs = f :: r) (hf : 0 < f) (hl : ys.length = f) (s : Sqv d (ys.map oD)) (k : Nat) (v : Int) (s4 s5 : Option W) (p : Pst) :
    ((cs.map dI).all (stD f ys k v) = true ∧ ∃ ρ2, cforGo (tgName 4) b__law_is_low_2 (cs.map dI) [some (.val (.lst (cs.map dI))), some (.val d), some (.val (dI k)), some (.val (.int v)), s4, s5] p = .nx ρ2 p ∧ ∃ s4 s5, ρ2 = [some (.val (.lst (cs.map dI))), some (.val d), some (.val (dI k)), some (.val (.int v)), s4, s5])
    ∨ ((cs.map dI).all (stD f ys k v) = false ∧ cforGo (tgName 4) b__law_is_low_2 (cs.map dI) [some (.val (.lst (cs.map dI))), some (.val d), some (.val (dI k)), some (.val (.int v)), s4, s5] p = .rt (.bl false) false p) := by
  refine for_ret (stD f ys k v) (fun ρ => ∃ s4 s5, ρ = [some (.val (.lst (cs.map dI))), some (.val d), some (.val (dI k)), some (.val (.int v)), s4, s5]) (cs.map dI) _ ⟨s4, s5, rfl⟩ fun z hz ρ hρ => ?_
  obtain ⟨c, hc2, rfl⟩ := List.mem_map.mp hz
  obtain ⟨s4, s5, rfl⟩ := hρ
  obtain ⟨z, e1, e2⟩ := look hf hl s k c
  rw [e2 v]
  refine ⟨_, rfl, ?_⟩
  unfold b__law_is_low_2
  have m := nMod (a := k + c) hf
  have x0 : dIx (.lst (cs.map dI)) (.int 0) = some (dI f) := dIx_lst (k := 0) (by rw [hc]; rfl)
  generalize cs.map dI = L at *
  have ad : dAdd (.int v) (dI c) = some (.int (v + c)) := rfl
  cases z with
  | none =>
    refine .inr ⟨rfl, ?_⟩
    simp [m, e1, oD, x0]
  | some w =>
    simp only [oD] at e1
    by_cases hw : w ≤ v + c
    · refine .inl ⟨by simpa using hw, _, ?_, some (.val (dI c)), some (.val (.int w)), rfl⟩
      have : ¬ v + (c : Int) < w := by omega
      simp [m, e1, ad, this, x0]
    · refine .inr ⟨by simpa using hw, ?_⟩
      have : v + (c : Int) < w := by omega
      simp [m, e1, ad, this, x0]
/-- where there is nothing, no coin is looked at -/
theorem l_none (k : Nat) : ∀ (L : List Nat) (s4 s5 : Option W) (p : Pst) (C : D), ∃ s4', cforGo (tgName 4) b__law_is_low_2 (L.map dI) [some (.val C), some (.val d), some (.val (dI k)), some (.val .non), s4, s5] p = .nx [some (.val C), some (.val d), some (.val (dI k)), some (.val .non), s4', s5] p
  | [], s4, s5, p, C => ⟨s4, rfl⟩
  | c :: L, s4, s5, p, C => by
    obtain ⟨s4', e⟩ := l_none k L (some (.val (dI c))) s5 p C
    refine ⟨s4', ?_⟩
    have e1 : b__law_is_low_2 [some (.val C), some (.val d), some (.val (dI k)), some (.val .non), some (.val (dI c)), s5] p = .nx [some (.val C), some (.val d), some (.val (dI k)), some (.val .non), some (.val (dI c)), s5] p := by
      unfold b__law_is_low_2
      simp
    rw [List.map_cons]
    have e2 : tgName 4 (dI c) [some (.val C), some (.val d), some (.val (dI k)), some (.val .non), s4, s5] p = some ([some (.val C), some (.val d), some (.val (dI k)), some (.val .non), some (.val (dI c)), s5], p) := rfl
    simp only [cforGo, e2, e1]
    exact e
theorem l_outer {r : List Nat} (hc : cs = f :: r) (hf : 0 < f) (hl : ys.length = f) (s : Sqv d (ys.map oD)) (s2 s3 s4 s5 : Option W) (p : Pst) :
    ((enumL (ys.map oD)).all (bLow f cs ys) = true ∧ ∃ ρ2, cforGo (tgTup 2 (tgCons (tgName 2) (tgCons (tgName 3) (tgNil)))) b__law_is_low_3 (enumL (ys.map oD)) [some (.val (.lst (cs.map dI))), some (.val d), s2, s3, s4, s5] p = .nx ρ2 p ∧ ∃ s2 s3 s4 s5, ρ2 = [some (.val (.lst (cs.map dI))), some (.val d), s2, s3, s4, s5])
    ∨ ((enumL (ys.map oD)).all (bLow f cs ys) = false ∧ cforGo (tgTup 2 (tgCons (tgName 2) (tgCons (tgName 3) (tgNil)))) b__law_is_low_3 (enumL (ys.map oD)) [some (.val (.lst (cs.map dI))), some (.val d), s2, s3, s4, s5] p = .rt (.bl false) false p) := by
  refine for_ret (bLow f cs ys) (fun ρ => ∃ s2 s3 s4 s5, ρ = [some (.val (.lst (cs.map dI))), some (.val d), s2, s3, s4, s5]) (enumL (ys.map oD)) _ ⟨s2, s3, s4, s5, rfl⟩ fun z hz ρ hρ => ?_
  obtain ⟨i, hi, x, ex, rfl⟩ := enum_mem hz
  obtain ⟨s2, s3, s4, s5, rfl⟩ := hρ
  rw [List.length_map] at hi
  rw [ys_at ys hi] at ex
  cases ex
  refine ⟨[some (.val (.lst (cs.map dI))), some (.val d), some (.val (dI i)), some (.val (oD (ys.getD i none))), s4, s5], rfl, ?_⟩
  unfold b__law_is_low_3
  cases e : ys.getD i none with
  | none =>
    simp only [oD]
    obtain ⟨s4', k⟩ := l_none (d := d) i cs s4 s5 p (.lst (cs.map dI))
    generalize cs.map dI = L at *
    exact .inl ⟨rfl, [some (.val (.lst L)), some (.val d), some (.val (dI i)), some (.val .non), s4', s5], by simp [cfor, k], _, _, _, _, rfl⟩
  | some v =>
    have k := l_inner (cs := cs) hc hf hl s i v s4 s5 p
    have e2 : bLow f cs ys (.tup [dI i, .int v]) = (cs.map dI).all (stD f ys i v) := by simp only [bLow, dI, Int.toNat_natCast]
    simp only [oD]
    rw [e2]
    rcases k with ⟨hb, ρ2, k1, s5', s6', rfl⟩ | ⟨hb, k⟩
    · generalize cs.map dI = L at *
      exact .inl ⟨hb, [some (.val (.lst L)), some (.val d), some (.val (dI i)), some (.val (.int v)), s5', s6'], by simp [cfor, k1], _, _, _, _, rfl⟩
    · generalize cs.map dI = L at *
      exact .inr ⟨hb, by simp [cfor, k]⟩
end
theorem e_is_low_list {cs : List Nat} (h : Cn cs) (d : D) (hd : NP d) (p : Pst) : F_is_low_list_of [.lst (cs.map dI), d] p = .ok (.bl (lowB cs d)) false p := by
  rw [en_is_low_list_of, c_is_low_list_of]
  obtain ⟨f, r, hc, hf1, hf2⟩ := cs_head h
  have x0 : dIx (.lst (cs.map dI)) (.int 0) = some (dI f) := dIx_lst (k := 0) (by rw [hc]; rfl)
  have hh : cs.headD 0 = f := by rw [hc]; rfl
  have e1 := e_is_list d (vk_np hd.1) p
  refine congrArg sres (step (Q := fun r => r = .rt (.bl (lowB cs d)) false p) (p1 := p) (ρ1 := [some (.val (.lst (cs.map dI))), some (.val d), some (.val (dI f)), none, none, none, none]) (by generalize cs.map dI = L at *; simp [x0]) ?_)
  rcases sqv hd.1 with ⟨xs, s⟩ | ⟨np, h1, h2⟩
  · have a1 : lowB cs d = (decide (xs.length = f) && xs.all onB && lowY f cs (xs.map oI)) := by unfold lowB; rw [s.sq, hh]
    have sl : dLen [d] = some (dI xs.length) := s.ln
    rw [s.ty] at e1
    by_cases hl : xs.length = f
    · have m1 : m_is_low_list_of_1 [some (.val (.lst (cs.map dI))), some (.val d), some (.val (dI f)), none, none, none, none] p = .ok (xs.map fun x => .bl (onB x)) p := mLc_lstY (by simp [s.sd]) _ (fun x hx => by
        have np := hd.2 xs s.sq x hx
        have e := e_is_integer x np p
        cases x <;> first | (simp [noPot] at np; done) | simp [wipeS, e, isI, onB, np, isNon])
      have m2 := dAll_map onB xs
      by_cases hw : xs.all onB = true
      · rw [hw] at m2
        refine step_if (Q := fun r => r = .rt _ false p) (p1 := p) (by generalize hL : cs.map dI = L at *; simp [-nLen_lst, e1, sl, hl, m1, m2]) ?_
        have hx := ons_of hw
        obtain ⟨ys, hys⟩ : ∃ ys, ys = xs.map oI := ⟨_, rfl⟩
        rw [← hys] at hx a1
        subst hx
        have hly : ys.length = f := by rw [List.length_map] at hl; exact hl
        have y0 := sqv_nix s (ys_at ys (k := 0) (by omega))
        have y0' : dIx d (.int 0) = some (oD (ys.getD 0 none)) := y0
        rw [a1, hw, List.length_map, hly]
        have ko := k_outer (cs := cs) (by omega) hly s none none none none p
        have en : enumS [d] = some (enumL (ys.map oD)) := by rw [enumS_one, s.sq]; rfl
        simp only [decide_true, Bool.true_and, lowY, firB]
        cases e : ys.getD 0 none with
        | none =>
          rw [e] at y0'
          simp only [oD] at y0'
          generalize hL : cs.map dI = L at *
          simp only [Bool.false_and]
          exact step_rt (p1 := p) (by simp [y0']) (by simp)
        | some v =>
          rw [e] at y0'
          simp only [oD] at y0'
          by_cases hv : v ≤ 0
          · have hv' : ¬ 0 < v := by omega
            simp only [decide_eq_true hv, Bool.true_and]
            obtain ⟨A, hA⟩ : ∃ A, A = (enumL (ys.map oD)).all (bLow f cs ys) := ⟨_, rfl⟩
            rw [← hA] at ko ⊢
            clear hA
            refine step_if (Q := fun r => r = .rt _ false p) (p1 := p) (by generalize cs.map dI = L at *; simp [y0', hv']) ?_
            rcases ko with ⟨ha, ρ2, k1, _⟩ | ⟨ha, ko⟩
            · subst ha
              generalize (enumL (ys.map oD)) = E at *
              generalize cs.map dI = L at *
              refine step (Q := fun r => r = .rt _ false p) (p1 := p) (ρ1 := ρ2) (by simp [cfor, en, k1]) (by simp)
            · subst ha
              generalize (enumL (ys.map oD)) = E at *
              generalize cs.map dI = L at *
              simp [cfor, en, ko]
          · have hv' : 0 < v := by omega
            simp only [decide_eq_false hv, Bool.false_and]
            generalize cs.map dI = L at *
            exact step_rt (p1 := p) (by simp [y0', hv']) (by simp)
      · have hw : xs.all onB = false := by simpa using hw
        rw [hw] at m2
        rw [a1, hw]
        generalize hL : cs.map dI = L at *
        simp only [Bool.and_false, Bool.false_and]
        refine step_rt (p1 := p) (by simp [-nLen_lst, e1, sl, hl, m1, m2]) (by simp)
    · rw [a1, decide_eq_false hl]
      generalize hL : cs.map dI = L at *
      refine step_rt (p1 := p) (by simp [-nLen_lst, e1, sl, hl]) (by simp)
  · have a1 : lowB cs d = false := by unfold lowB; rw [h2]
    rw [a1]
    rw [h1] at e1
    generalize hL : cs.map dI = L at *
    refine step_rt (p1 := p) (by simp [e1]) (by simp)
theorem e__law_is_low {cs : List Nat} (h : Cn cs) (d : D) (hd : NP d) (p : Pst) : F__law_is_low [.lst (cs.map dI), d] p = .ok (.bl (lowB cs d)) false p := by
  rw [en__law_is_low, c__law_is_low]
  obtain ⟨f, r, hc, hf1, hf2⟩ := cs_head h
  have x0 : dIx (.lst (cs.map dI)) (.int 0) = some (dI f) := dIx_lst (k := 0) (by rw [hc]; rfl)
  have hh : cs.headD 0 = f := by rw [hc]; rfl
  rcases sqv hd.1 with ⟨xs, s⟩ | ⟨np, h1, h2⟩
  · have a1 : lowB cs d = (decide (xs.length = f) && xs.all onB && lowY f cs (xs.map oI)) := by unfold lowB; rw [s.sq, hh]
    have sl : dLen [d] = some (dI xs.length) := s.ln
    have ty := s.ty
    have np := s.np
    by_cases hl : xs.length = f
    · refine congrArg sres (step_if (Q := fun r => r = .rt (.bl (lowB cs d)) false p) (p1 := p) (by generalize hL : cs.map dI = L at *; simp [-nLen_lst, np, ty, sl, hl, x0]) ?_)
      have m1 : m__law_is_low_1 [some (.val (.lst (cs.map dI))), some (.val d), none, none, none, none] p = .ok (xs.map fun x => .bl (onB x)) p := mLc_lstY (by simp [s.sd]) _ (fun x hx => by
        have np := hd.2 xs s.sq x hx
        cases x <;> first | (simp [noPot] at np; done) | simp [wipeS, isTy, onB, np, isNon])
      have m2 := dAll_map onB xs
      by_cases hw : xs.all onB = true
      · rw [hw] at m2
        have hx := ons_of hw
        obtain ⟨ys, hys⟩ : ∃ ys, ys = xs.map oI := ⟨_, rfl⟩
        rw [← hys] at hx a1
        subst hx
        generalize List.map (fun x => D.bl (onB x)) (List.map oD ys) = M at m1 m2
        have hly : ys.length = f := by rw [List.length_map] at hl; exact hl
        have y0 := sqv_nix s (ys_at ys (k := 0) (by omega))
        have y0' : dIx d (.int 0) = some (oD (ys.getD 0 none)) := y0
        rw [a1, hw, List.length_map, hly]
        have ko := l_outer (cs := cs) hc (by omega) hly s none none none none p
        have en : enumS [d] = some (enumL (ys.map oD)) := by rw [enumS_one, s.sq]; rfl
        simp only [decide_true, Bool.true_and, lowY, firB]
        cases e : ys.getD 0 none with
        | none =>
          rw [e] at y0'
          simp only [oD] at y0'
          generalize hL : cs.map dI = L at *
          simp only [Bool.false_and]
          exact step_rt (p1 := p) (by simp [y0', m1, m2]) (by simp)
        | some v =>
          rw [e] at y0'
          simp only [oD] at y0'
          by_cases hv : v ≤ 0
          · have hv' : ¬ 0 < v := by omega
            simp only [decide_eq_true hv, Bool.true_and]
            obtain ⟨A, hA⟩ : ∃ A, A = (enumL (ys.map oD)).all (bLow f cs ys) := ⟨_, rfl⟩
            rw [← hA] at ko ⊢
            clear hA
            refine step_if (Q := fun r => r = .rt _ false p) (p1 := p) (by generalize cs.map dI = L at *; simp [y0', hv', m1, m2]) ?_
            rcases ko with ⟨ha, ρ2, k1, _⟩ | ⟨ha, ko⟩
            · subst ha
              generalize (enumL (ys.map oD)) = E at *
              generalize cs.map dI = L at *
              refine step (Q := fun r => r = .rt _ false p) (p1 := p) (ρ1 := ρ2) (by simp [cfor, en, k1]) (by simp)
            · subst ha
              generalize (enumL (ys.map oD)) = E at *
              generalize cs.map dI = L at *
              simp [cfor, en, ko]
          · have hv' : 0 < v := by omega
            simp only [decide_eq_false hv, Bool.false_and]
            generalize cs.map dI = L at *
            exact step_rt (p1 := p) (by simp [y0', hv', m1, m2]) (by simp)
      · have hw : xs.all onB = false := by simpa using hw
        rw [hw] at m2
        rw [a1, hw]
        generalize hL : cs.map dI = L at *
        simp only [Bool.and_false, Bool.false_and]
        refine step_rt (p1 := p) (by simp [m1, m2]) (by simp)
    · rw [a1, decide_eq_false hl]
      generalize hL : cs.map dI = L at *
      refine congrArg sres (step_rt (p1 := p) (by simp [-nLen_lst, np, ty, sl, hl, x0]) (by simp))
  · have a1 : lowB cs d = false := by unfold lowB; rw [h2]
    rw [a1]
    generalize hL : cs.map dI = L at *
    refine congrArg sres (step_rt (p1 := p) (by simp [np, h1]) (by simp))
def barB (cs : List Nat) (n : Nat) (d : D) : Bool := lowB cs d && (match sqD d with
  | none => false
  | some xs => match (xs.map oI).getD (n % cs.headD 0) none with
    | none => true
    | some w => decide ((n : Int) < w))
/-- what a low list shows at a number -/
theorem low_at {cs : List Nat} (h : Cn cs) (n : Nat) {d : D} (hd : NP d) (hb : lowB cs d = true) : ∃ f z, dIx (.lst (cs.map dI)) (.int 0) = some (dI f) ∧ 0 < f ∧ dIx d (dI (n % f)) = some (oD z) ∧ barB cs n d = (match z with | none => true | some w => decide ((n : Int) < w)) := by
  obtain ⟨f, r, hc, hf1, hf2⟩ := cs_head h
  have x0 : dIx (.lst (cs.map dI)) (.int 0) = some (dI f) := dIx_lst (k := 0) (by rw [hc]; rfl)
  have hh : cs.headD 0 = f := by rw [hc]; rfl
  unfold barB
  rw [hb, Bool.true_and]
  unfold lowB at hb
  rcases sqv hd.1 with ⟨xs, s⟩ | ⟨np, h1, h2⟩
  · rw [s.sq] at hb ⊢
    rw [hh] at hb ⊢
    simp only [Bool.and_eq_true, decide_eq_true_eq] at hb
    obtain ⟨⟨hl, ho⟩, _⟩ := hb
    have hx := ons_of ho
    obtain ⟨ys, hys⟩ : ∃ ys, ys = xs.map oI := ⟨_, rfl⟩
    simp only
    rw [← hys] at hx ⊢
    subst hx
    rw [List.length_map] at hl
    exact ⟨f, _, x0, by omega, sqv_nix s (ys_at ys (by rw [hl]; exact Nat.mod_lt _ (by omega))), rfl⟩
  · rw [h2] at hb; cases hb
theorem e_is_low_bar {cs : List Nat} (h : Cn cs) {n : Nat} (hn : n ≤ 9999) (d : D) (hd : NP d) (p : Pst) : F_is_low_bar [.lst (cs.map dI), dI n, d] p = .ok (.bl (barB cs n d)) false p := by
  rw [en_is_low_bar, c_is_low_bar]
  have e0 := e_check_both h hn p
  have e1 := e_is_low_list h d hd p
  cases hb : lowB cs d with
  | false =>
    have : barB cs n d = false := by unfold barB; rw [hb]; rfl
    rw [hb] at e1
    rw [this]
    generalize cs.map dI = L at *
    simp [e0, e1]
  | true =>
    obtain ⟨f, z, x0, hf, xz, e⟩ := low_at h n hd hb
    rw [hb] at e1
    have e2 : F_does_bar [.lst (cs.map dI), dI n, d] p = .ok (.bl (barB cs n d)) false p := by
      rw [en_does_bar, c_does_bar, e]
      have m := nMod (a := n) hf
      generalize cs.map dI = L at *
      cases z with
      | none => simp only [oD] at xz; simp [x0, m, xz]
      | some w =>
        simp only [oD] at xz
        have g : dGt (.int w) (dI n) = some (decide ((n : Int) < w)) := rfl
        simp [x0, m, xz, g]
    generalize cs.map dI = L at *
    simp [e0, e1, e2]
theorem e__law_is_bar {cs : List Nat} (h : Cn cs) {n : Nat} (d : D) (hd : NP d) (p : Pst) : F__law_is_bar [.lst (cs.map dI), dI n, d] p = .ok (.bl (barB cs n d)) false p := by
  rw [en__law_is_bar, c__law_is_bar]
  have e1 := e__law_is_low h d hd p
  cases hb : lowB cs d with
  | false =>
    have : barB cs n d = false := by unfold barB; rw [hb]; rfl
    rw [hb] at e1
    rw [this]
    generalize cs.map dI = L at *
    simp [e1]
  | true =>
    obtain ⟨f, z, x0, hf, xz, e⟩ := low_at h n hd hb
    rw [hb] at e1
    rw [e]
    have m := nMod (a := n) hf
    generalize cs.map dI = L at *
    cases z with
    | none => simp only [oD] at xz; simp [x0, m, xz, e1]
    | some w =>
      simp only [oD] at xz
      have g : dGt (.int w) (dI n) = some (decide ((n : Int) < w)) := rfl
      simp [x0, m, xz, g, e1]
end PF

namespace PF
open PySem PySem.Spec PyProof.Rows L2
/-! ### own lists, looked at and written -/
theorem atI_nat {xs : List D} {k : Nat} {x : D} (h : xs[k]? = some x) : atI xs (k : Int) = some x := nIx_lst h
theorem ixo {i k : Nat} {mb : M D} {ρ : Sl} {p p1 : Pst} {xs : List D} {x : D} (h : ρ[i]? = some (some (.own xs))) (hb : mb ρ p = .ok (dI k) p1) (hx : xs[k]? = some x) : mIxO i mb ρ p = .ok x p1 := by
  unfold mIxO
  rw [h]
  show mbind mb _ ρ p = _
  rw [ev_mbind, hb, andThen_ok, kM_ap]
  show mopt (atI xs (k : Int)) ρ p1 = _
  rw [atI_nat hx, ev_mopt_some]
theorem capp_ok {i : Nat} {me : M D} {ρ : Sl} {p p1 : Pst} {xs : List D} {d : D} (h : ρ[i]? = some (some (.own xs))) (hm : me ρ p = .ok d p1) (hl : xs.length < 16000000) : capp i me ρ p = .nx (ρ.set i (some (.own (xs ++ [d])))) p1 := by
  unfold capp
  rw [h]
  show eout me _ ρ p = _
  rw [ev_eout, hm, andS_ok, kC_ap]
  rw [if_pos hl]
theorem subo_ok {r k : Nat} {mi m : M D} {ρ : Sl} {p : Pst} {xs : List D} {d : D} (h : ρ[r]? = some (some (.own xs))) (hm : m ρ p = .ok d p) (hi : mi ρ p = .ok (dI k) p) (hk : k < xs.length) : casgT (tgSubO r mi) m ρ p = .nx (ρ.set r (some (.own (xs.set k d)))) p := by
  unfold casgT
  rw [ev_eout, hm, andS_ok, kC_ap]
  have ix : ixN xs.length (k : Int) = some k := by
    simp only [ixN]
    rw [if_pos (by omega), if_pos (by omega), Int.toNat_natCast]
  have e : tgSubO r mi d ρ p = some (ρ.set r (some (.own (xs.set k d))), p) := by
    unfold tgSubO
    rw [h]
    simp only [tgSub, hi, h, dI, ix]
  simp only [e]
theorem for_rel {α β : Type} {G : D → Sl → Pst → Option (Sl × Pst)} {body : C} {p : Pst} (st : α → Sl → Prop) (it : β → D) (f : α → β → α) (Inv : α → Prop) : ∀ (l : List β) (ρ : Sl) (a : α), st a ρ → Inv a →
    (∀ a b, b ∈ l → Inv a → ∀ ρ, st a ρ → ∃ ρ1 ρ2, G (it b) ρ p = some (ρ1, p) ∧ body ρ1 p = .nx ρ2 p ∧ st (f a b) ρ2 ∧ Inv (f a b)) → ∃ ρ2, cforGo G body (l.map it) ρ p = .nx ρ2 p ∧ st (l.foldl f a) ρ2 ∧ Inv (l.foldl f a)
  | [], ρ, a, h1, h2, _ => ⟨ρ, rfl, h1, h2⟩
  | b :: l, ρ, a, h1, h2, h => by
    obtain ⟨ρ1, ρ2, e1, e2, h3, h4⟩ := h a b List.mem_cons_self h2 ρ h1
    obtain ⟨ρ3, e3, h5, h6⟩ := for_rel st it f Inv l ρ2 (f a b) h3 h4 fun a b hb => h a b (List.mem_cons_of_mem _ hb)
    refine ⟨ρ3, ?_, h5, h6⟩
    rw [List.map_cons]
    simp only [cforGo, e1, e2]
    exact e3
/-! ### the least numbers -/
def oN : Option Nat → D
  | none => .non
  | some n => dI n
theorem on_at {fd : ON} {k : Nat} (h : k < fd.length) : (fd.map oN)[k]? = some (oN (atO fd k)) := by
  rw [List.getElem?_map, List.getElem?_eq_getElem h]
  simp [atO, List.getD_eq_getElem?_getD, List.getElem?_eq_getElem h]
theorem in_step (s0 s3 : Option W) {f w0 pl c : Nat} {x : ON × List Nat} (hf : 0 < f) (hw : w0 ≤ 240000) (s : LS f w0 x) (hp : OKp f x.1 pl) (s7 s8 : Option W) (p : Pst) :
    ∃ t7 t8, b_leasts_of_1 [s0, some (.val (dI f)), some (.own (x.1.map oN)), s3, some (.own (x.2.map dI)), some (.val (dI pl)), some (.val (dI c)), s7, s8] p
      = .nx [s0, some (.val (dI f)), some (.own ((lstep f pl x c).1.map oN)), s3, some (.own ((lstep f pl x c).2.map dI)), some (.val (dI pl)), some (.val (dI c)), t7, t8] p := by
  obtain ⟨fd, late⟩ := x
  obtain ⟨hp1, v, hv⟩ := hp
  have hlen : fd.length = f := s.len
  have hct : late.length + wtS fd ≤ w0 := s.ct
  simp only at hv
  have ht : (pl + c) % f < fd.length := by rw [hlen]; exact Nat.mod_lt _ hf
  have xp := on_at (fd := fd) (k := pl) (by omega)
  rw [hv] at xp
  have xt := on_at ht
  have m := nMod (a := pl + c) hf
  have hn : numO fd pl c = v + c := by unfold numO; rw [hv]; rfl
  refine ⟨some (.val (dI (v + c))), some (.val (dI ((pl + c) % f))), ?_⟩
  unfold b_leasts_of_1
  refine step (Q := fun r => r = _) (ρ1 := [s0, some (.val (dI f)), some (.own (fd.map oN)), s3, some (.own (late.map dI)), some (.val (dI pl)), some (.val (dI c)), some (.val (dI (v + c))), some (.val (dI ((pl + c) % f)))]) (p1 := p) ?_ ?_
  · have e1 := ixo (p1 := p) (i := 2) (mb := rd 5) (ρ := [s0, some (.val (dI f)), some (.own (fd.map oN)), s3, some (.own (late.map dI)), some (.val (dI pl)), some (.val (dI c)), s7, s8]) (p := p) rfl (by simp) xp
    simp only [oN] at e1
    generalize fd.map oN = A at *
    generalize late.map dI = B at *
    simp [e1, m]
  have e2 := ixo (p1 := p) (i := 2) (mb := rd 8) (ρ := [s0, some (.val (dI f)), some (.own (fd.map oN)), s3, some (.own (late.map dI)), some (.val (dI pl)), some (.val (dI c)), some (.val (dI (v + c))), some (.val (dI ((pl + c) % f)))]) (p := p) rfl (by simp) xt
  have e3 := subo_ok (r := 2) (mi := rd 8) (m := rd 7) (ρ := [s0, some (.val (dI f)), some (.own (fd.map oN)), s3, some (.own (late.map dI)), some (.val (dI pl)), some (.val (dI c)), some (.val (dI (v + c))), some (.val (dI ((pl + c) % f)))]) (p := p) (d := dI (v + c)) (k := (pl + c) % f) (xs := fd.map oN) rfl (by simp) (by simp) (by rw [List.length_map]; exact ht)
  have e4 : capp 4 (rd 8) [s0, some (.val (dI f)), some (.own ((fd.map oN).set ((pl + c) % f) (dI (v + c)))), s3, some (.own (late.map dI)), some (.val (dI pl)), some (.val (dI c)), some (.val (dI (v + c))), some (.val (dI ((pl + c) % f)))] p = .nx [s0, some (.val (dI f)), some (.own ((fd.map oN).set ((pl + c) % f) (dI (v + c)))), s3, some (.own (late.map dI ++ [dI ((pl + c) % f)])), some (.val (dI pl)), some (.val (dI c)), some (.val (dI (v + c))), some (.val (dI ((pl + c) % f)))] p :=
    capp_ok (xs := late.map dI) (d := dI ((pl + c) % f)) rfl (by simp) (by rw [List.length_map]; omega)
  have e5 : (fd.map oN).set ((pl + c) % f) (dI (v + c)) = (fd.set ((pl + c) % f) (some (v + c))).map oN := by rw [List.map_set]; rfl
  have e6 : late.map dI ++ [dI ((pl + c) % f)] = (late ++ [(pl + c) % f]).map dI := by rw [List.map_append]; rfl
  have e3' : casgT (tgSubO 2 (rd 8)) (rd 7) [s0, some (.val (dI f)), some (.own (fd.map oN)), s3, some (.own (late.map dI)), some (.val (dI pl)), some (.val (dI c)), some (.val (dI (v + c))), some (.val (dI ((pl + c) % f)))] p = .nx [s0, some (.val (dI f)), some (.own ((fd.map oN).set ((pl + c) % f) (dI (v + c)))), s3, some (.own (late.map dI)), some (.val (dI pl)), some (.val (dI c)), some (.val (dI (v + c))), some (.val (dI ((pl + c) % f)))] p := e3
  rw [e5] at e4 e3'
  rw [e6] at e4
  unfold lstep
  simp only
  rw [hn]
  cases hz : atO fd ((pl + c) % f) with
  | none =>
    rw [hz] at e2
    simp only [oN] at e2
    have lo : lessO none (v + c) = true := rfl
    rw [if_pos lo]
    simp only
    generalize (fd.set ((pl + c) % f) (some (v + c))).map oN = A2 at *
    generalize (late ++ [(pl + c) % f]).map dI = B2 at *
    generalize fd.map oN = A at *
    generalize late.map dI = B at *
    simp [e2, e3', e4]
  | some a =>
    rw [hz] at e2
    simp only [oN] at e2
    by_cases hl : v + c < a
    · rw [if_pos (by simpa [lessO] using hl)]
      simp only
      generalize (fd.set ((pl + c) % f) (some (v + c))).map oN = A2 at *
      generalize (late ++ [(pl + c) % f]).map dI = B2 at *
      generalize fd.map oN = A at *
      generalize late.map dI = B at *
      simp [e2, e3', e4, hl]
    · rw [if_neg (by simpa [lessO] using hl)]
      simp only
      generalize fd.map oN = A at *
      generalize late.map dI = B at *
      simp [e2, hl]
theorem in_for (L s3 : D) {f w0 pl : Nat} {rest : List Nat} (hs : dSl L (some 1) none = some (.lst (rest.map dI))) (hf : 0 < f) (hf2 : f ≤ 60) (hw : w0 ≤ 240000) (hr : ∀ c ∈ rest, c ≤ 60) (x : ON × List Nat) (s : LS f w0 x) (hp : OKp f x.1 pl) (s6 s7 s8 : Option W) (p : Pst) :
    ∃ t6 t7 t8, b_leasts_of_2 [some (.val L), some (.val (dI f)), some (.own (x.1.map oN)), some (.val s3), some (.own (x.2.map dI)), some (.val (dI pl)), s6, s7, s8] p
      = .nx [some (.val L), some (.val (dI f)), some (.own ((linner f rest x pl).1.map oN)), some (.val s3), some (.own ((linner f rest x pl).2.map dI)), some (.val (dI pl)), t6, t7, t8] p := by
  obtain ⟨ρ2, e, ⟨t6, t7, t8, rfl⟩, _⟩ := for_rel (G := tgName 6) (body := b_leasts_of_1) (p := p) (fun (a : ON × List Nat) ρ => ∃ s6 s7 s8, ρ = [some (.val L), some (.val (dI f)), some (.own (a.1.map oN)), some (.val s3), some (.own (a.2.map dI)), some (.val (dI pl)), s6, s7, s8]) dI (lstep f pl) (fun a => LS f w0 a ∧ OKp f a.1 pl) rest _ x ⟨s6, s7, s8, rfl⟩ ⟨s, hp⟩ (by
    rintro a c hc ⟨sa, ha⟩ ρ ⟨s6, s7, s8, rfl⟩
    obtain ⟨t7, t8, e⟩ := in_step (some (.val L)) (some (.val s3)) (c := c) hf hw sa ha s7 s8 p
    obtain ⟨q1, q2⟩ := lstep_ok hf hf2 (hr c hc) sa ha
    exact ⟨_, _, rfl, e, ⟨_, _, _, rfl⟩, q1, q2 _ ha⟩)
  refine ⟨t6, t7, t8, ?_⟩
  unfold b_leasts_of_2 linner
  generalize x.1.map oN = A at *
  generalize x.2.map dI = B at *
  generalize rest.map dI = R at *
  simp [cfor, hs, e]
theorem out_for (L s3 : D) {f w0 : Nat} {rest : List Nat} (hs : dSl L (some 1) none = some (.lst (rest.map dI))) (hf : 0 < f) (hf2 : f ≤ 60) (hw : w0 ≤ 240000) (hr : ∀ c ∈ rest, c ≤ 60) (last : List Nat) (x : ON × List Nat) (s : LS f w0 x) (hp : ∀ pl ∈ last, OKp f x.1 pl) (s5 s6 s7 s8 : Option W) (p : Pst) :
    ∃ t5 t6 t7 t8, cforGo (tgName 5) b_leasts_of_2 (last.map dI) [some (.val L), some (.val (dI f)), some (.own (x.1.map oN)), some (.val s3), some (.own (x.2.map dI)), s5, s6, s7, s8] p
      = .nx [some (.val L), some (.val (dI f)), some (.own ((lround f rest x last).1.map oN)), some (.val s3), some (.own ((lround f rest x last).2.map dI)), t5, t6, t7, t8] p := by
  obtain ⟨ρ2, e, ⟨t5, t6, t7, t8, rfl⟩, _⟩ := for_rel (G := tgName 5) (body := b_leasts_of_2) (p := p) (fun (a : ON × List Nat) ρ => ∃ s5 s6 s7 s8, ρ = [some (.val L), some (.val (dI f)), some (.own (a.1.map oN)), some (.val s3), some (.own (a.2.map dI)), s5, s6, s7, s8]) dI (linner f rest) (fun a => LS f w0 a ∧ ∀ pl ∈ last, OKp f a.1 pl) last _ x ⟨s5, s6, s7, s8, rfl⟩ ⟨s, hp⟩ (by
    rintro a pl hpl ⟨sa, ha⟩ ρ ⟨s5, s6, s7, s8, rfl⟩
    obtain ⟨t6, t7, t8, e⟩ := in_for L s3 hs hf hf2 hw hr a sa (ha pl hpl) s6 s7 s8 p
    obtain ⟨q1, q2⟩ := linner_ok hf hf2 rest hr sa (ha pl hpl)
    exact ⟨_, _, rfl, e, ⟨_, _, _, _, rfl⟩, q1, fun z hz => q2 z (ha z hz)⟩)
  exact ⟨t5, t6, t7, t8, e⟩
theorem round_ok (L : D) {f : Nat} {rest : List Nat} (hs : dSl L (some 1) none = some (.lst (rest.map dI))) (hf : 0 < f) (hf2 : f ≤ 60) (hr : ∀ c ∈ rest, c ≤ 60) (fd : ON) (last : List Nat) (h : LB f fd last) (hw : wtS fd ≤ 240000) (s4 s5 s6 s7 s8 : Option W) (p : Pst) :
    ∃ t4 t5 t6 t7 t8, b_leasts_of_3 [some (.val L), some (.val (dI f)), some (.own (fd.map oN)), some (.val (.lst (last.map dI))), s4, s5, s6, s7, s8] p
      = .nx [some (.val L), some (.val (dI f)), some (.own ((lround f rest (fd, []) last).1.map oN)), some (.val (.lst ((lround f rest (fd, []) last).2.map dI))), t4, t5, t6, t7, t8] p := by
  have s : LS f (wtS fd) (fd, []) := ⟨h.len, h.bd, (fun p hp => nomatch hp), Nat.le_refl _, fun q => absurd rfl q, by simp⟩
  obtain ⟨t5, t6, t7, t8, e⟩ := out_for L (.lst (last.map dI)) hs hf hf2 hw hr last (fd, []) s h.ok s5 s6 s7 s8 p
  simp only [List.map_nil] at e
  refine ⟨some (.val (.lst ((lround f rest (fd, []) last).2.map dI))), t5, t6, t7, t8, ?_⟩
  unfold b_leasts_of_3
  generalize (lround f rest (fd, []) last).1.map oN = A2 at *
  generalize (lround f rest (fd, []) last).2.map dI = B2 at *
  generalize fd.map oN = A at *
  generalize last.map dI = B at *
  simp [cfor, e, cfrz]
theorem fuel_big : (1000000 : Nat) < FUEL := by unfold FUEL; omega
theorem leasts_while (L : D) {f : Nat} {r : List Nat} (hs : dSl L (some 1) none = some (.lst (r.map dI))) (hf1 : 0 < f) (hf2 : f ≤ 60) (hr : ∀ c ∈ r, c ≤ 60) (n : Nat) (hn : 1000000 < n) (p : Pst) :
    ∃ (fd : ON) (last : List Nat) (t4 t5 t6 t7 t8 : Option W), cwhile t_leasts_of_4 b_leasts_of_3 n [some (.val L), some (.val (dI f)), some (.own ((base0 f).map oN)), some (.val (.lst ([0].map dI))), none, none, none, none, none] p
      = .nx [some (.val L), some (.val (dI f)), some (.own (fd.map oN)), some (.val (.lst (last.map dI))), t4, t5, t6, t7, t8] p ∧ LB f fd last := by
  obtain ⟨b1, b2⟩ := lb_start hf1
  obtain ⟨⟨⟨fd, last⟩, t4, t5, t6, t7, t8⟩, e, ⟨hI, hIw⟩, ht⟩ := cwhile_st (mt := t_leasts_of_4) (body := b_leasts_of_3) (p := p)
    (fun a : (ON × List Nat) × Option W × Option W × Option W × Option W × Option W => [some (.val L), some (.val (dI f)), some (.own (a.1.1.map oN)), some (.val (.lst (a.1.2.map dI))), a.2.1, a.2.2.1, a.2.2.2.1, a.2.2.2.2.1, a.2.2.2.2.2])
    (fun a => 2 * wtS a.1.1 + (if a.1.2 = [] then 0 else 1)) (fun a => LB f a.1.1 a.1.2 ∧ wtS a.1.1 ≤ 240000) (fun a => !decide (a.1.2 = [])) (by
      rintro ⟨⟨fd, last⟩, t4, t5, t6, t7, t8⟩ ⟨hI, hIw⟩
      unfold t_leasts_of_4
      have := nNeNil last
      simp only
      generalize last.map dI = B at *
      simp [this]) (by
      rintro ⟨⟨fd, last⟩, t4, t5, t6, t7, t8⟩ ⟨hI, hIw⟩ ht
      simp only at hI hIw ht
      obtain ⟨u4, u5, u6, u7, u8, e⟩ := round_ok L hs hf1 hf2 hr fd last hI hIw t4 t5 t6 t7 t8 p
      obtain ⟨q1, q2, q3⟩ := lb_round hf1 hf2 hr hI
      refine ⟨(((lround f r (fd, []) last).1, (lround f r (fd, []) last).2), u4, u5, u6, u7, u8), e, ⟨q1, by simp only; omega⟩, ?_⟩
      have hne : last ≠ [] := by simpa using ht
      simp only
      rw [if_neg hne]
      split
      · omega
      · rename_i hq; have := q3 hq; omega) n ((base0 f, [0]), none, none, none, none, none) ⟨b1, by simp only; omega⟩ (by
      simp only
      have : (if ([0] : List Nat) = [] then 0 else 1) ≤ 1 := by split <;> omega
      omega)
  exact ⟨fd, last, t4, t5, t6, t7, t8, e, hI⟩
theorem leasts_walk {L R A B x0 Fd : D} {Rl Al : List D} {t4 t5 t6 t7 t8 : Option W} (W1 : C) (p : Pst) (h0 : dIx L (.int 0) = some Fd) (rp : dRepO (.lst [.non]) Fd = some Rl) (lR : 0 < Rl.length)
    (e : W1 [some (.val L), some (.val Fd), some (.own (Rl.set 0 (.int 0))), some (.val (.lst [.int 0])), none, none, none, none, none] p = .nx [some (.val L), some (.val Fd), some (.own Al), some (.val B), t4, t5, t6, t7, t8] p) :
    sres (cseq (casg 1 (mOp dIx (rd 0) (mret (.int 0)))) (cseq (casgW [2, 3] (muO (mOpo dRepO (mfrz (mlim (mcons (mret .non) (mret [])))) (rd 1)) (muV (mfrz (mlim (mcons (mret (.int 0)) (mret [])))) (mret [])))) (cseq (casgT (tgSubO 2 (mret (.int 0))) (mret (.int 0))) (cseq W1 (cretown 2)))) [some (.val L), none, none, none, none, none, none, none, none] p) = .ok (.lst Al) true p := by
  have h1 : casg 1 (mOp dIx (rd 0) (mret (.int 0))) [some (.val L), none, none, none, none, none, none, none, none] p = .nx [some (.val L), some (.val Fd), none, none, none, none, none, none, none] p := by simp [h0]
  rw [ev_cseq, h1, andC_nx]
  have h2 : casgW [2, 3] (muO (mOpo dRepO (mfrz (mlim (mcons (mret .non) (mret [])))) (rd 1)) (muV (mfrz (mlim (mcons (mret (.int 0)) (mret [])))) (mret []))) [some (.val L), some (.val Fd), none, none, none, none, none, none, none] p = .nx [some (.val L), some (.val Fd), some (.own Rl), some (.val (.lst [.int 0])), none, none, none, none, none] p := by simp [rp]
  rw [ev_cseq, h2, andC_nx]
  have st := subo_ok (r := 2) (k := 0) (mi := mret (.int 0)) (m := mret (.int 0)) (ρ := [some (.val L), some (.val Fd), some (.own Rl), some (.val (.lst [.int 0])), none, none, none, none, none]) (p := p) (d := .int 0) (xs := Rl) rfl (by rw [ev_mret]) (by rw [ev_mret]; rfl) lR
  have st' : casgT (tgSubO 2 (mret (.int 0))) (mret (.int 0)) [some (.val L), some (.val Fd), some (.own Rl), some (.val (.lst [.int 0])), none, none, none, none, none] p = .nx [some (.val L), some (.val Fd), some (.own (Rl.set 0 (.int 0))), some (.val (.lst [.int 0])), none, none, none, none, none] p := st
  rw [ev_cseq, st', andC_nx, ev_cseq, e, andC_nx]
  rfl
theorem rep_none (f : Nat) (hf : f ≤ 10000) : (List.replicate f [D.non]).flatten = (List.replicate f (none : Option Nat)).map oN := by
  rw [List.map_replicate]
  induction f with
  | zero => rfl
  | succ n ih => rw [List.replicate_succ, List.flatten_cons, ih (by omega), List.replicate_succ]; rfl
theorem e_leasts_of {cs : List Nat} (h : Cn cs) (p : Pst) : ∃ fd : ON, fd.length = cs.headD 0 ∧ (∀ i v, atO fd i = some v → v ≤ 3600) ∧ F_leasts_of [.lst (cs.map dI)] p = .ok (.lst (fd.map oN)) true p := by
  obtain ⟨f, r, hc, hf1, hf2⟩ := cs_head h
  have x0 : dIx (.lst (cs.map dI)) (.int 0) = some (dI f) := dIx_lst (k := 0) (by rw [hc]; rfl)
  have hs : dSl (.lst (cs.map dI)) (some 1) none = some (.lst (r.map dI)) := by rw [sl_from1, hc]; rfl
  have hr : ∀ c ∈ r, c ≤ 60 := fun c hc2 => (h.bd c (by rw [hc]; exact List.mem_cons_of_mem _ hc2)).2
  have hlen : cs.headD 0 = f := by rw [hc]; rfl
  rw [hlen]
  obtain ⟨fd, last, t4, t5, t6, t7, t8, e, hI⟩ := leasts_while (.lst (cs.map dI)) hs (by omega) hf2 hr FUEL fuel_big p
  refine ⟨fd, hI.len, fun i v hv => ?_, ?_⟩
  · have := hI.bd i v hv
    have := cnt_le fd
    have := hI.len
    have : 60 * cntS fd ≤ 60 * 60 := Nat.mul_le_mul_left _ (by omega)
    omega
  rw [en_leasts_of, c_leasts_of]
  have rp : dRepO (.lst [.non]) (dI f) = some ((List.replicate f (none : Option Nat)).map oN) := by
    unfold dI
    simp only [dRepO]
    rw [if_pos ⟨by omega, by omega, by rw [sizeLine_eq, Int.toNat_natCast, List.length_singleton]; omega⟩, Int.toNat_natCast, rep_none f (by omega)]
  have e0 : (base0 f).map oN = ((List.replicate f (none : Option Nat)).map oN).set 0 (.int 0) := by unfold base0; rw [List.map_set]; rfl
  have e1 : ([0] : List Nat).map dI = [.int 0] := rfl
  rw [e0, e1] at e
  exact leasts_walk (A := .non) (x0 := .non) (R := .non) _ p x0 rp (by rw [List.length_map, List.length_replicate]; omega) e
end PF

namespace PF
open PySem PySem.Spec PyProof.Rows L2
/-! ### rows of fewest coins -/
theorem scal_ok {m : M D} {ρ : Sl} {p : Pst} {d : D} (h : m (thaw ρ) p = .ok d p) (hs : scal d = true) : mscal m ρ p = .ok d p := by
  unfold mscal
  simp only [h, hs, if_true]
theorem scalt_ok {m : M Bool} {ρ : Sl} {p : Pst} {d : Bool} (h : m (thaw ρ) p = .ok d p) : mscalt m ρ p = .ok d p := by
  unfold mscalt
  simp only [h]
def bsL (a b : Option Nat) : List Nat := (match a with | none => [] | some x => [x]) ++ (match b with | none => [] | some x => [x + 1])
theorem bs_min (a b : Option Nat) : (if bsL a b = [] then some D.non else dMin1 [.lst ((bsL a b).map dI)]) = some (oN (bst a b)) := by
  cases a <;> cases b <;> first | rfl | skip
  rename_i x y
  show dMin1 [.lst [dI x, dI (y + 1)]] = some (dI (min x (y + 1)))
  have : min (x : Int) ((y + 1 : Nat) : Int) = ((min x (y + 1) : Nat) : Int) := by omega
  simp only [dI, dMin1, intsOf, minI, Option.map_some, Option.bind_some]
  rw [if_neg (by simp)]
  simp only [this]
section
variable (s0 s1 s2 : Option W)
/-- the end of one place: the least of what is known -/
theorem row_end (c i : Nat) (row : ON) (known : D) (a b : Option Nat) (hl : row.length < 16000000) (p : Pst) :
    capp 4 (mIf (mscalt (mCmp dNe (rd 7) (mfrz (mlim (mret []))))) (mscal (mCall dMin1 (mcons (rd 7) (mret [])))) (mret .non)) [s0, s1, s2, some (.val (dI c)), some (.own (row.map oN)), some (.val (dI i)), some (.val known), some (.own ((bsL a b).map dI))] p
      = .nx [s0, s1, s2, some (.val (dI c)), some (.own ((row ++ [bst a b]).map oN)), some (.val (dI i)), some (.val known), some (.own ((bsL a b).map dI))] p := by
  have e : (row ++ [bst a b]).map oN = row.map oN ++ [oN (bst a b)] := by rw [List.map_append]; rfl
  rw [e]
  refine capp_ok (xs := row.map oN) (d := oN (bst a b)) rfl ?_ (by rw [List.length_map]; exact hl)
  have bm := bs_min a b
  have t1 : mscalt (mCmp dNe (rd 7) (mfrz (mlim (mret [])))) [s0, s1, s2, some (.val (dI c)), some (.own (row.map oN)), some (.val (dI i)), some (.val known), some (.own ((bsL a b).map dI))] p = .ok (!decide (bsL a b = [])) p := by
    refine scalt_ok ?_
    have := nNeNil (bsL a b)
    generalize (bsL a b).map dI = B at *
    simp [thaw, this]
  rw [ev_mIf, ev_mbind, t1, andThen_ok, kM_ap]
  by_cases hb : bsL a b = []
  · rw [if_pos hb] at bm
    have h : oN (bst a b) = .non := (Option.some.inj bm).symm
    rw [decide_eq_true hb, h]
    simp only [Bool.not_true]
    rw [if_neg (by simp), ev_mret]
  · rw [if_neg hb] at bm
    rw [decide_eq_false hb]
    simp only [Bool.not_false, if_true]
    refine scal_ok ?_ (by cases bst a b <;> rfl)
    generalize (bsL a b).map dI = B at *
    simp [thaw, bm]
theorem row_step (c : Nat) (row : ON) (k : Option Nat) (hc : 0 < c) (hl : row.length < 16000000) (s7 : Option W) (p : Pst) :
    b_fewest_rows_1 [s0, s1, s2, some (.val (dI c)), some (.own (row.map oN)), some (.val (dI row.length)), some (.val (oN k)), s7] p
      = .nx [s0, s1, s2, some (.val (dI c)), some (.own ((row ++ [bst k (backO c row row.length)]).map oN)), some (.val (dI row.length)), some (.val (oN k)), some (.own ((bsL k (backO c row row.length)).map dI))] p := by
  unfold b_fewest_rows_1
  refine step (Q := fun r => r = _) (ρ1 := [s0, s1, s2, some (.val (dI c)), some (.own (row.map oN)), some (.val (dI row.length)), some (.val (oN k)), some (.own ((bsL k none).map dI))]) (p1 := p) ?_ ?_
  · generalize row.map oN = R at *
    cases k with
    | none => simp [oN, bsL]
    | some v => simp [oN, bsL]
  refine step (Q := fun r => r = _) (ρ1 := [s0, s1, s2, some (.val (dI c)), some (.own (row.map oN)), some (.val (dI row.length)), some (.val (oN k)), some (.own ((bsL k (backO c row row.length)).map dI))]) (p1 := p) ?_ (row_end s0 s1 s2 c row.length row (oN k) k (backO c row row.length) hl p)
  by_cases hcl : c ≤ row.length
  · have bk : backO c row row.length = atO row (row.length - c) := by unfold backO; rw [if_pos hcl]
    rw [bk]
    have sb := nSub (a := row.length) (b := c) hcl
    have ix : ∀ s7, mIxO 4 (mOp dSub (rd 5) (rd 3)) [s0, s1, s2, some (.val (dI c)), some (.own (row.map oN)), some (.val (dI row.length)), some (.val (oN k)), s7] p = .ok (oN (atO row (row.length - c))) p := fun s7 => ixo (k := row.length - c) rfl (by simp [sb]) (on_at (by omega))
    cases hz : atO row (row.length - c) with
    | none =>
      rw [hz] at ix
      have o1 : oN none = .non := rfl
      have o2 : ∀ v, oN (some v) = dI v := fun _ => rfl
      simp only [o1, o2] at ix
      generalize row.map oN = R at *
      simp [ix, hcl]
    | some v =>
      rw [hz] at ix
      have o1 : oN none = .non := rfl
      have o2 : ∀ v, oN (some v) = dI v := fun _ => rfl
      simp only [o1, o2] at ix
      have e : (bsL k (some v)).map dI = (bsL k none).map dI ++ [dI (v + 1)] := by unfold bsL; simp
      rw [e]
      have cp : capp 7 (mOp dAdd (mIxO 4 (mOp dSub (rd 5) (rd 3))) (mret (.int 1))) [s0, s1, s2, some (.val (dI c)), some (.own (row.map oN)), some (.val (dI row.length)), some (.val (oN k)), some (.own ((bsL k none).map dI))] p = .nx [s0, s1, s2, some (.val (dI c)), some (.own (row.map oN)), some (.val (dI row.length)), some (.val (oN k)), some (.own ((bsL k none).map dI ++ [dI (v + 1)]))] p := by
        refine capp_ok (xs := (bsL k none).map dI) (d := dI (v + 1)) rfl ?_ ?_
        · have ad : dAdd (dI v) (.int 1) = some (dI (v + 1)) := nAdd (a := v) (b := 1)
          simp [ix, ad]
        · rw [List.length_map]; unfold bsL; cases k <;> simp
      generalize row.map oN = R at *
      generalize (bsL k none).map dI ++ [dI (v + 1)] = B at *
      generalize (bsL k none).map dI = B2 at *
      simp [ix, hcl, cp]
  · have bk : backO c row row.length = none := by unfold backO; rw [if_neg hcl]
    rw [bk]
    generalize row.map oN = R at *
    generalize (bsL k none).map dI = B at *
    simp [hcl]
def enumF (k : Nat) (xs : List D) : List D := xs.mapIdx fun i x => .tup [dI (k + i), x]
theorem enumF_nil (k : Nat) : enumF k [] = [] := rfl
theorem enumF_cons (k : Nat) (x : D) (xs : List D) : enumF k (x :: xs) = .tup [dI k, x] :: enumF (k + 1) xs := by
  unfold enumF
  rw [List.mapIdx_cons]
  congr 1
  apply List.ext_getElem
  · simp
  · intro i h1 h2
    simp only [List.getElem_mapIdx]
    rw [show k + (i + 1) = k + 1 + i by omega]
theorem enumL_F (xs : List D) : enumL xs = enumF 0 xs := by
  unfold enumL enumF
  simp only [Nat.zero_add]; rfl
theorem row_for (c : Nat) (hc : 0 < c) (p : Pst) : ∀ (ks row : ON), row.length + ks.length < 16000000 → ∀ s5 s6 s7 : Option W,
    ∃ t5 t6 t7, cforGo (tgTup 2 (tgCons (tgName 5) (tgCons (tgName 6) (tgNil)))) b_fewest_rows_1 (enumF row.length (ks.map oN)) [s0, s1, s2, some (.val (dI c)), some (.own (row.map oN)), s5, s6, s7] p
      = .nx [s0, s1, s2, some (.val (dI c)), some (.own ((rowAux c row ks).map oN)), t5, t6, t7] p
  | [], row, _, s5, s6, s7 => ⟨s5, s6, s7, rfl⟩
  | k :: ks, row, h, s5, s6, s7 => by
    rw [List.length_cons] at h
    have e := row_step s0 s1 s2 c row k hc (by omega) s7 p
    obtain ⟨t5, t6, t7, e2⟩ := row_for c hc p ks (row ++ [bst k (backO c row row.length)]) (by rw [List.length_append, List.length_singleton]; omega) (some (.val (dI row.length))) (some (.val (oN k))) (some (.own ((bsL k (backO c row row.length)).map dI)))
    refine ⟨t5, t6, t7, ?_⟩
    rw [List.length_append, List.length_singleton] at e2
    rw [List.map_cons, enumF_cons]
    have g : tgTup 2 (tgCons (tgName 5) (tgCons (tgName 6) (tgNil))) (.tup [dI row.length, oN k]) [s0, s1, s2, some (.val (dI c)), some (.own (row.map oN)), s5, s6, s7] p = some ([s0, s1, s2, some (.val (dI c)), some (.own (row.map oN)), some (.val (dI row.length)), some (.val (oN k)), s7], p) := rfl
    simp only [cforGo, g, e]
    exact e2
end
def rowD (r : ON) : D := .lst (r.map oN)
def rowsD (fs : List ON) : D := .lst (fs.map rowD)
def stepF (fs : List ON) (c : Nat) : List ON := rowAux c [] (fs.headD []) :: fs
theorem rows_len (n : Nat) (cs : List Nat) : (rowsF n cs).length = cs.length + 1 := by
  induction cs with
  | nil => rfl
  | cons c cs ih => show (rowsF n cs).length + 1 = _; rw [ih]; rfl
theorem rows_step (s0 s1 : Option W) (c : Nat) (hc : 0 < c) (fs : List ON) (hne : fs ≠ []) (hl : (fs.headD []).length < 16000000) (hl2 : fs.length < 1000) (s4 s5 s6 s7 : Option W) (p : Pst) :
    ∃ t4 t5 t6 t7, b_fewest_rows_2 [s0, s1, some (.val (rowsD fs)), some (.val (dI c)), s4, s5, s6, s7] p = .nx [s0, s1, some (.val (rowsD (stepF fs c))), some (.val (dI c)), t4, t5, t6, t7] p := by
  obtain ⟨r, rs, rfl⟩ : ∃ r rs, fs = r :: rs := by
    cases fs with
    | nil => exact absurd rfl hne
    | cons r rs => exact ⟨r, rs, rfl⟩
  have x0 : dIx (rowsD (r :: rs)) (.int 0) = some (.lst (r.map oN)) := dIx_lst (k := 0) rfl
  obtain ⟨t5, t6, t7, e⟩ := row_for s0 s1 (some (.val (rowsD (r :: rs)))) c hc p r [] (by simpa using hl) s5 s6 s7
  simp only [List.length_nil, List.map_nil, ← enumL_F] at e
  have cat : dAdd (.lst [rowD (rowAux c [] r)]) (rowsD (r :: rs)) = some (rowsD (stepF (r :: rs) c)) := cat_ok (by rw [List.length_map, List.length_singleton]; omega)
  refine ⟨some (.val (.lst ((rowAux c [] r).map oN))), t5, t6, t7, ?_⟩
  have cat' : dAdd (.lst [.lst ((rowAux c [] r).map oN)]) (rowsD (r :: rs)) = some (rowsD (stepF (r :: rs) c)) := cat
  unfold b_fewest_rows_2
  generalize rowsD (stepF (r :: rs) c) = R3 at *
  generalize rowsD (r :: rs) = R2 at *
  generalize (rowAux c [] r).map oN = R1 at *
  generalize hE : enumL (r.map oN) = E at *
  generalize r.map oN = R0 at *
  simp [x0, cfor, mEnum, hE, e, cfrz, cat']
theorem rows_for (s0 s1 : Option W) (n : Nat) (hn : n ≤ 9999) (p : Pst) : ∀ (l cs : List Nat), (∀ c ∈ l, 0 < c) → (∀ c ∈ cs, 0 < c) → l.length + cs.length ≤ 4 → ∀ s3 s4 s5 s6 s7 : Option W,
    ∃ t3 t4 t5 t6 t7, cforGo (tgName 3) b_fewest_rows_2 (l.map dI) [s0, s1, some (.val (rowsD (rowsF n cs))), s3, s4, s5, s6, s7] p = .nx [s0, s1, some (.val (rowsD (rowsF n (l.reverse ++ cs)))), t3, t4, t5, t6, t7] p
  | [], cs, _, _, _, s3, s4, s5, s6, s7 => ⟨s3, s4, s5, s6, s7, rfl⟩
  | c :: l, cs, h1, h2, h3, s3, s4, s5, s6, s7 => by
    rw [List.length_cons] at h3
    have hc := h1 c List.mem_cons_self
    have hlen : ((rowsF n cs).headD []).length = n + 1 := head_len h2
    obtain ⟨u4, u5, u6, u7, e⟩ := rows_step s0 s1 c hc (rowsF n cs) (by obtain ⟨r, rs, e⟩ := rows_ne n cs; rw [e]; simp) (by omega) (by rw [rows_len]; omega) s4 s5 s6 s7 p
    obtain ⟨t3, t4, t5, t6, t7, e2⟩ := rows_for s0 s1 n hn p l (c :: cs) (fun z hz => h1 z (List.mem_cons_of_mem _ hz)) (fun z hz => by
      rcases List.mem_cons.mp hz with rfl | hz
      · exact hc
      · exact h2 z hz) (by rw [List.length_cons]; omega) (some (.val (dI c))) u4 u5 u6 u7
    refine ⟨t3, t4, t5, t6, t7, ?_⟩
    have g : tgName 3 (dI c) [s0, s1, some (.val (rowsD (rowsF n cs))), s3, s4, s5, s6, s7] p = some ([s0, s1, some (.val (rowsD (rowsF n cs))), some (.val (dI c)), s4, s5, s6, s7], p) := rfl
    have es : stepF (rowsF n cs) c = rowsF n (c :: cs) := rfl
    rw [es] at e
    rw [List.map_cons, List.reverse_cons, List.append_assoc, List.singleton_append]
    simp only [cforGo, g, e]
    exact e2
theorem dMul_rep (xs : List D) (k : Int) : dMul (.lst xs) (.int k) = dRep (.lst xs) (.int k) := rfl
theorem rp_ok (n : Nat) (hn : n ≤ 9999) : dMul (.lst [.non]) (dI n) = some (.lst ((List.replicate n (none : Option Nat)).map oN)) := by
  unfold dI
  rw [dMul_rep]
  simp only [dRep]
  rw [if_pos ⟨by omega, by omega, by rw [sizeLine_eq, Int.toNat_natCast, List.length_singleton]; omega⟩, Int.toNat_natCast, rep_none n (by omega)]
theorem rows_start (L : List D) (Nn : D) (R : List D) (R1 : D) (rp : dMul (.lst [.non]) Nn = some (.lst R)) (cat : dAdd (.lst [.int 0]) (.lst R) = some R1) (p : Pst) : casg 2 (mfrz (mlim (mcons (mOp dAdd (mfrz (mlim (mcons (mret (.int 0)) (mret [])))) (mOp dMul (mfrz (mlim (mcons (mret .non) (mret [])))) (rd 1))) (mret [])))) [some (.val (.lst L)), some (.val Nn), none, none, none, none, none, none] p = .nx [some (.val (.lst L)), some (.val Nn), some (.val (.lst [R1])), none, none, none, none, none] p := by simp [rp, cat]
theorem e_fewest_rows {cs : List Nat} (h : Cn cs) {n : Nat} (hn : n ≤ 9999) (p : Pst) : F_fewest_rows [.lst (cs.map dI), dI n] p = .ok (rowsD (rowsF n cs)) false p := by
  rw [en_fewest_rows, c_fewest_rows]
  have rp := rp_ok n hn
  have cat : dAdd (.lst [.int 0]) (.lst ((List.replicate n (none : Option Nat)).map oN)) = some (rowD (some 0 :: List.replicate n none)) := cat_ok (by rw [List.length_map, List.length_replicate, List.length_singleton]; omega)
  have hpos : ∀ c ∈ cs, 0 < c := fun c hc => (h.bd c hc).1
  obtain ⟨t3, t4, t5, t6, t7, e⟩ := rows_for (some (.val (.lst (cs.map dI)))) (some (.val (dI n))) n hn p cs.reverse [] (fun c hc => hpos c (List.mem_reverse.mp hc)) (by simp) (by simp; exact h.len.2) none none none none none
  rw [List.reverse_reverse, List.append_nil] at e
  have e0 : rowsF n [] = [some 0 :: List.replicate n none] := rfl
  rw [e0] at e
  have rv : (cs.map dI).reverse = cs.reverse.map dI := List.map_reverse.symm
  have e1 : rowsD [some 0 :: List.replicate n none] = .lst [rowD (some 0 :: List.replicate n none)] := rfl
  rw [e1] at e
  rw [← rv] at e
  generalize rowsD (rowsF n cs) = R2 at *
  generalize rowD (some 0 :: List.replicate n none) = R1 at *
  generalize (List.replicate n (none : Option Nat)).map oN = R at *
  generalize cs.map dI = L at *
  generalize dI n = Nn at *
  have h1 := rows_start L Nn R R1 rp cat p
  rw [ev_cseq, h1, andC_nx]
  simp [cfor, mRevo, e]
end PF

namespace PF
open PySem PySem.Spec PyProof.Rows L2
/-! ### the coin list told -/
theorem rows_at (n : Nat) : ∀ (pre cs : List Nat), (rowsF n (pre ++ cs))[pre.length]? = some (headF n cs)
  | [], cs => by
    obtain ⟨r, rs, e⟩ := rows_ne n cs
    show (rowsF n cs)[0]? = some ((rowsF n cs).headD [])
    rw [e]; rfl
  | c :: pre, cs => by
    show (rowAux c [] ((rowsF n (pre ++ cs)).headD []) :: rowsF n (pre ++ cs))[pre.length + 1]? = _
    rw [List.getElem?_cons_succ]
    exact rows_at n pre cs
theorem rowsD_at (n : Nat) (pre cs : List Nat) : dIx (rowsD (rowsF n (pre ++ cs))) (dI pre.length) = some (rowD (headF n cs)) := nIx_lst (by rw [List.getElem?_map, rows_at]; rfl)
theorem dEq_nonI (i : Int) : dEq .non (.int i) = some false := by
  show (if (okEq .non && okEq (.int i)) = true then some (PyData.eqv (toPy .non) (toPy (.int i))) else none) = _
  rw [okEq_non, okEq_int]; rfl
theorem often_range (s0 s1 s2 s3 s5 s7 s10 : Option W) (A B Cc K G R0 : D) (R : List D) (d1 : dDiv A B = some Cc) (ad : dAdd Cc (.int 1) = some K) (r1 : dRange1 [K] = some R) (p : Pst) :
    mRange1 (mcons (mOp dAdd (mOp dDiv (rd 4) (rd 6)) (mret (.int 1))) (mret [])) [s0, s1, s2, s3, some (.val A), s5, some (.val B), s7, some (.val G), some (.val R0), s10] p = .ok R p := by simp [d1, ad, r1]
theorem often_ok (s0 s1 s2 s3 s5 s7 s10 : Option W) {left c g : Nat} {rest : ON} (hc : 0 < c) (hc2 : c ≤ 60) (hl : left ≤ 9999) (hlr : left < rest.length) (p : Pst) :
    m_told_list_1 [s0, s1, s2, s3, some (.val (dI left)), s5, some (.val (dI c)), s7, some (.val (dI g)), some (.val (rowD rest)), s10] p = .ok (((List.range (left / c + 1)).filter (hits rest left g c)).map dI) p := by
  have d1 := nDiv (a := left) (c := c) hc (by omega)
  have hd : left / c ≤ left := Nat.div_le_self _ _
  have r1 := nRange1 (n := left / c + 1) (by omega)
  have ad : dAdd (dI (left / c)) (.int 1) = some (dI (left / c + 1)) := nAdd (a := left / c) (b := 1)
  have hi := often_range s0 s1 s2 s3 s5 s7 s10 (dI left) (dI c) (dI (left / c)) (dI (left / c + 1)) (dI g) (rowD rest) _ d1 ad r1 p
  refine mLc_rng hi (hits rest left g c) dI fun k hk => ?_
  have hk1 : k * c ≤ left := (Nat.le_div_iff_mul_le hc).mp (Nat.le_of_lt_succ hk)
  have hk2 : k < 10000 := by omega
  have ek : D.int (0 + (k : Int)) = dI k := by rw [Int.zero_add]; rfl
  rw [ek]
  have m1 := nMul (a := k) (b := c) (.inl (by omega))
  have m2 := nSub (a := left) (b := k * c) hk1
  have ix : dIx (rowD rest) (dI (left - k * c)) = some (oN (atO rest (left - k * c))) := nIx_lst (on_at (by omega))
  have sb : dSub (dI g) (dI k) = some (.int ((g : Int) - k)) := dSub_int _ _
  constructor
  · unfold hits
    cases hz : atO rest (left - k * c) with
    | none =>
      rw [hz] at ix
      have := dEq_nonI ((g : Int) - k)
      simp only [oN] at ix
      simp [wipeS, m1, m2, ix, sb, this]
    | some r =>
      rw [hz] at ix
      have : dEq (dI r) (.int ((g : Int) - k)) = some (decide (r + k = g)) := by
        show dEq (.int (r : Int)) _ = _
        rw [dEq_int]
        have : decide ((r : Int) = (g : Int) - k) = decide (r + k = g) := by rw [decide_eq_decide]; omega
        rw [this]
      simp only [oN] at ix
      simp [wipeS, m1, m2, ix, sb, this]
  · intro _
    simp [wipeS]
theorem told_step (s0 s1 s10 : Option W) {n c left g : Nat} {pre cs : List Nat} {found : List D} (h : ∀ z ∈ c :: cs, 0 < z ∧ z ≤ 60) (hn : n ≤ 9999) (hl : left ≤ n) (e : atO (headF n (c :: cs)) left = some g) (hf : found.length < 1000) (s7 s8 s9 : Option W) (p : Pst) :
    ∃ o t7 t8 t9, b_told_list_2 [s0, s1, some (.val (rowsD (rowsF n (pre ++ c :: cs)))), some (.own found), some (.val (dI left)), some (.val (dI pre.length)), some (.val (dI c)), s7, s8, s9, s10] p
      = .nx [s0, s1, some (.val (rowsD (rowsF n (pre ++ c :: cs)))), some (.own (found ++ [dI o])), some (.val (dI (left - o * c))), some (.val (dI pre.length)), some (.val (dI c)), t7, t8, t9, s10] p
      ∧ o ≤ left ∧ atO (headF n cs) (left - o * c) = some (g - o) := by
  have hpos : ∀ z ∈ c :: cs, 0 < z := fun z hz => (h z hz).1
  obtain ⟨hc1, hc2⟩ := h c List.mem_cons_self
  obtain ⟨o, os, f1, f2, f3⟩ := told_turn hpos hl e
  have ho : o ≤ left := Nat.le_trans (Nat.le_mul_of_pos_right o hc1) f2
  have l1 : (headF n (c :: cs)).length = n + 1 := head_len hpos
  have l2 : (headF n cs).length = n + 1 := head_len fun z hz => hpos z (List.mem_cons_of_mem _ hz)
  have x1 := rowsD_at n pre (c :: cs)
  have x2 := rowsD_at n (pre ++ [c]) cs
  rw [List.append_assoc, List.singleton_append, List.length_append, List.length_singleton] at x2
  have x3 : dIx (rowD (headF n (c :: cs))) (dI left) = some (dI g) := by
    have := nIx_lst (on_at (fd := headF n (c :: cs)) (k := left) (by omega))
    rw [e] at this
    exact this
  have ad : dAdd (dI pre.length) (.int 1) = some (dI (pre.length + 1)) := nAdd (a := pre.length) (b := 1)
  have of := fun s7 s10 => often_ok s0 s1 (some (.val (rowsD (rowsF n (pre ++ c :: cs))))) (some (.own found)) (some (.val (dI pre.length))) s7 s10 (left := left) (g := g) (rest := headF n cs) hc1 hc2 (by omega) (by omega) p
  rw [f1] at of
  refine ⟨o, some (.val (.lst ((o :: os).map dI))), some (.val (dI g)), some (.val (rowD (headF n cs))), ?_, ho, f3⟩
  have x4 : dIx (.lst ((o :: os).map dI)) (.int 0) = some (dI o) := dIx_lst (k := 0) rfl
  have m1 := nMul (a := o) (b := c) (.inl (by omega))
  have m2 := nSub (a := left) (b := o * c) f2
  unfold b_told_list_2
  generalize (o :: os).map dI = OS at *
  generalize rowsD (rowsF n (pre ++ c :: cs)) = RR at *
  generalize rowD (headF n (c :: cs)) = R1 at *
  generalize rowD (headF n cs) = R2 at *
  refine step (Q := fun r => r = _) (ρ1 := [s0, s1, some (.val RR), some (.own found), some (.val (dI left)), some (.val (dI pre.length)), some (.val (dI c)), s7, some (.val (dI g)), some (.val R2), s10]) (p1 := p) (by simp [x1, x2, x3, ad]) ?_
  refine step (Q := fun r => r = _) (ρ1 := [s0, s1, some (.val RR), some (.own found), some (.val (dI left)), some (.val (dI pre.length)), some (.val (dI c)), some (.val (.lst OS)), some (.val (dI g)), some (.val R2), s10]) (p1 := p) (by simp [of]) ?_
  have cp : capp 3 (mOp dIx (rd 7) (mret (.int 0))) [s0, s1, some (.val RR), some (.own found), some (.val (dI left)), some (.val (dI pre.length)), some (.val (dI c)), some (.val (.lst OS)), some (.val (dI g)), some (.val R2), s10] p = .nx [s0, s1, some (.val RR), some (.own (found ++ [dI o])), some (.val (dI left)), some (.val (dI pre.length)), some (.val (dI c)), some (.val (.lst OS)), some (.val (dI g)), some (.val R2), s10] p := capp_ok (xs := found) (d := dI o) rfl (by simp [x4]) (by omega)
  refine step (Q := fun r => r = _) cp ?_
  simp [x4, m1, m2]
theorem told_for (s0 s1 : Option W) {n : Nat} (hn : n ≤ 9999) (p : Pst) : ∀ (cs pre : List Nat) (found : List D) (left g : Nat), (∀ z ∈ cs, 0 < z ∧ z ≤ 60) → left ≤ n → atO (headF n cs) left = some g → found.length + cs.length < 1000 → ∀ s5 s6 s7 s8 s9 s10 : Option W,
    ∃ (os : List Nat) (t4 t5 t6 t7 t8 t9 : Option W), cforGo (tgTup 2 (tgCons (tgName 5) (tgCons (tgName 6) (tgNil)))) b_told_list_2 (enumF pre.length (cs.map dI)) [s0, s1, some (.val (rowsD (rowsF n (pre ++ cs)))), some (.own found), some (.val (dI left)), s5, s6, s7, s8, s9, s10] p
      = .nx [s0, s1, some (.val (rowsD (rowsF n (pre ++ cs)))), some (.own (found ++ os.map dI)), t4, t5, t6, t7, t8, t9, s10] p ∧ os.length = cs.length ∧ ∀ o ∈ os, o ≤ n
  | [], pre, found, left, g, _, _, _, _, s5, s6, s7, s8, s9, s10 => ⟨[], some (.val (dI left)), s5, s6, s7, s8, s9, by simp only [List.map_nil, List.append_nil]; rfl, rfl, fun o ho => nomatch ho⟩
  | c :: cs, pre, found, left, g, h, hl, e, hf, s5, s6, s7, s8, s9, s10 => by
    rw [List.length_cons] at hf
    obtain ⟨o, u7, u8, u9, e1, ho, e2⟩ := told_step s0 s1 s10 (pre := pre) (found := found) h hn hl e (by omega) s7 s8 s9 p
    obtain ⟨os, t4, t5, t6, t7, t8, t9, e3, h3, h4⟩ := told_for s0 s1 hn p cs (pre ++ [c]) (found ++ [dI o]) (left - o * c) (g - o) (fun z hz => h z (List.mem_cons_of_mem _ hz)) (by omega) e2 (by rw [List.length_append, List.length_singleton]; omega) (some (.val (dI pre.length))) (some (.val (dI c))) u7 u8 u9 s10
    refine ⟨o :: os, t4, t5, t6, t7, t8, t9, ?_, by rw [List.length_cons, List.length_cons, h3], fun z hz => ?_⟩
    · rw [List.length_append, List.length_singleton, List.append_assoc, List.singleton_append] at e3
      rw [List.map_cons, enumF_cons]
      have g : tgTup 2 (tgCons (tgName 5) (tgCons (tgName 6) (tgNil))) (.tup [dI pre.length, dI c]) [s0, s1, some (.val (rowsD (rowsF n (pre ++ c :: cs)))), some (.own found), some (.val (dI left)), s5, s6, s7, s8, s9, s10] p = some ([s0, s1, some (.val (rowsD (rowsF n (pre ++ c :: cs)))), some (.own found), some (.val (dI left)), some (.val (dI pre.length)), some (.val (dI c)), s7, s8, s9, s10], p) := rfl
      simp only [cforGo, g, e1]
      rw [List.append_assoc, List.singleton_append] at e3
      exact e3
    · rcases List.mem_cons.mp hz with rfl | hz
      · omega
      · exact h4 z hz
theorem told_none (L : List D) (Nn RR R0 : D) (e1 : ∀ p, F_fewest_rows [.lst L, Nn] p = .ok RR false p) (x0 : dIx RR (.int 0) = some R0) (x1 : dIx R0 Nn = some .non) (p : Pst) : F_told_list [.lst L, Nn] p = .ok .non false p := by
  rw [en_told_list, c_told_list]
  have h1 : casg 2 (mFn F_fewest_rows 2 0 [0, 1] (mcons (rd 0) (mcons (rd 1) (mret []))) (mret [])) [some (.val (.lst L)), some (.val Nn), none, none, none, none, none, none, none, none, none] p = .nx [some (.val (.lst L)), some (.val Nn), some (.val RR), none, none, none, none, none, none, none, none] p := by simp [e1]
  rw [ev_cseq, h1, andC_nx]
  simp [x0, x1]
theorem told_some (L E OS : List D) (Nn RR R0 G : D) (hE : enumL L = E) (e1 : ∀ p, F_fewest_rows [.lst L, Nn] p = .ok RR false p) (x0 : dIx RR (.int 0) = some R0) (x1 : dIx R0 Nn = some G) (np : noPot G = true) (nn : isNon G = false) (p : Pst) (t4 t5 t6 t7 t8 t9 : Option W)
    (e3 : cforGo (tgTup 2 (tgCons (tgName 5) (tgCons (tgName 6) (tgNil)))) b_told_list_2 E [some (.val (.lst L)), some (.val Nn), some (.val RR), some (.own []), some (.val Nn), none, none, none, none, none, none] p = .nx [some (.val (.lst L)), some (.val Nn), some (.val RR), some (.own OS), t4, t5, t6, t7, t8, t9, none] p) :
    F_told_list [.lst L, Nn] p = .ok (.lst OS) true p := by
  rw [en_told_list, c_told_list]
  have h1 : casg 2 (mFn F_fewest_rows 2 0 [0, 1] (mcons (rd 0) (mcons (rd 1) (mret []))) (mret [])) [some (.val (.lst L)), some (.val Nn), none, none, none, none, none, none, none, none, none] p = .nx [some (.val (.lst L)), some (.val Nn), some (.val RR), none, none, none, none, none, none, none, none] p := by simp [e1]
  rw [ev_cseq, h1, andC_nx]
  have h2 : cif (mIsN (mOp dIx (mOp dIx (rd 2) (mret (.int 0))) (rd 1))) (cret (mret .non)) (cskip) [some (.val (.lst L)), some (.val Nn), some (.val RR), none, none, none, none, none, none, none, none] p = .nx [some (.val (.lst L)), some (.val Nn), some (.val RR), none, none, none, none, none, none, none, none] p := by simp [x0, x1, np, nn]
  rw [ev_cseq, h2, andC_nx]
  have h3 : casgW [3, 4] (muO (mlim (mret [])) (muV (rd 1) (mret []))) [some (.val (.lst L)), some (.val Nn), some (.val RR), none, none, none, none, none, none, none, none] p = .nx [some (.val (.lst L)), some (.val Nn), some (.val RR), some (.own []), some (.val Nn), none, none, none, none, none, none] p := by simp
  rw [ev_cseq, h3, andC_nx]
  have h4 : cfor (mEnum (mcons (rd 0) (mret []))) (tgTup 2 (tgCons (tgName 5) (tgCons (tgName 6) (tgNil)))) b_told_list_2 [some (.val (.lst L)), some (.val Nn), some (.val RR), some (.own []), some (.val Nn), none, none, none, none, none, none] p = .nx [some (.val (.lst L)), some (.val Nn), some (.val RR), some (.own OS), t4, t5, t6, t7, t8, t9, none] p := by simp [cfor, mEnum, hE, e3]
  rw [ev_cseq, h4, andC_nx]
  rfl
theorem cl_1 (L : List D) (Nn K : D) (p : Pst) (e0 : F_check_both [.lst L, Nn, K] p = .ok .non false p) : cexpr (mFn F_check_both 3 0 [0, 1, 2] (mcons (rd 0) (mcons (rd 1) (mcons (mret K) (mret [])))) (mret [])) [some (.val (.lst L)), some (.val Nn)] p = .nx [some (.val (.lst L)), some (.val Nn)] p := by simp [e0]
theorem cl_2 (L : List D) (Nn z : D) (fr : Bool) (p : Pst) (e : F_told_list [.lst L, Nn] p = .ok z fr p) : cret (mFn F_told_list 2 0 [0, 1] (mcons (rd 0) (mcons (rd 1) (mret []))) (mret [])) [some (.val (.lst L)), some (.val Nn)] p = .rt z false p := by simp [e]
theorem coin_list_of {cs : List Nat} (h : Cn cs) {n : Nat} (hn : n ≤ 9999) (p : Pst) {z : D} {fr : Bool} (e : F_told_list [.lst (cs.map dI), dI n] p = .ok z fr p) : F_coin_list [.lst (cs.map dI), dI n] p = .ok z false p := by
  rw [en_coin_list, c_coin_list, ev_cseq, cl_1 _ _ _ p (e_check_both h hn p), andC_nx, cl_2 _ _ _ _ p e]
  rfl
theorem e_coin_list {cs : List Nat} (h : Cn cs) {n : Nat} (hn : n ≤ 9999) (p : Pst) : ∃ z, F_coin_list [.lst (cs.map dI), dI n] p = .ok z false p ∧ (z = .non ∨ ∃ os : List Nat, z = .lst (os.map dI) ∧ os.length = cs.length ∧ ∀ o ∈ os, o ≤ n) := by
  have e1 := fun p => e_fewest_rows h hn p
  have x0 : dIx (rowsD (rowsF n cs)) (.int 0) = some (rowD (headF n cs)) := rowsD_at n [] cs
  have hl : (headF n cs).length = n + 1 := head_len fun c hc => (h.bd c hc).1
  have x1 : dIx (rowD (headF n cs)) (dI n) = some (oN (atO (headF n cs) n)) := nIx_lst (on_at (by omega))
  cases hz : atO (headF n cs) n with
  | none =>
    rw [hz] at x1
    exact ⟨.non, coin_list_of h hn p (told_none _ _ _ _ e1 x0 x1 p), .inl rfl⟩
  | some g =>
    rw [hz] at x1
    obtain ⟨os, t4, t5, t6, t7, t8, t9, e3, h3, h4⟩ := told_for (some (.val (.lst (cs.map dI)))) (some (.val (dI n))) hn p cs [] [] n g (fun z hz => h.bd z hz) (Nat.le_refl _) hz (by have := h.len.2; simp only [List.length_nil]; omega) none none none none none none
    rw [List.length_nil, ← enumL_F] at e3
    simp only [List.nil_append] at e3
    exact ⟨.lst (os.map dI), coin_list_of h hn p (told_some _ _ _ _ _ _ _ rfl e1 x0 x1 (noPot_dI g) (isNon_dI g) p t4 t5 t6 t7 t8 t9 e3), .inr ⟨os, rfl, h3, h4⟩⟩
/-! ### the low bar told -/
def barZ (n : Nat) : Option Int → Bool
  | none => true
  | some w => decide ((n : Int) < w)
theorem does_bar_ok {cs : List Nat} {n f : Nat} {d : D} {z : Option Int} (x0 : dIx (.lst (cs.map dI)) (.int 0) = some (dI f)) (hf : 0 < f) (xz : dIx d (dI (n % f)) = some (oD z)) (p : Pst) :
    F_does_bar [.lst (cs.map dI), dI n, d] p = .ok (.bl (barZ n z)) false p := by
  rw [en_does_bar, c_does_bar]
  have m := nMod (a := n) hf
  generalize cs.map dI = L at *
  cases z with
  | none => simp only [oD] at xz; simp [x0, m, xz, barZ]
  | some w =>
    simp only [oD] at xz
    have g : dGt (.int w) (dI n) = some (decide ((n : Int) < w)) := rfl
    simp [x0, m, xz, g, barZ]
def onI (o : Option Nat) : Option Int := o.map fun n => (n : Int)
theorem oN_oD (fd : ON) : fd.map oN = (fd.map onI).map oD := by
  rw [List.map_map]
  congr 1
  funext o
  cases o <;> rfl
theorem e_leasts (cs : List Nat) (h : Cn cs) : ∃ fd : ON, fd.length = cs.headD 0 ∧ (∀ i v, atO fd i = some v → v ≤ 3600) ∧ ∀ p, F_leasts_of [.lst (cs.map dI)] p = .ok (.lst (fd.map oN)) true p := by
  obtain ⟨fd, h1, h2, e⟩ := e_leasts_of h ⟨0, 0, 0⟩
  refine ⟨fd, h1, h2, fun p => ?_⟩
  rw [ip_leasts_of _ ⟨0, 0, 0⟩ p, e]; rfl
theorem e_least_numbers {cs : List Nat} (h : Cn cs) {A : D} (e : ∀ p, F_leasts_of [.lst (cs.map dI)] p = .ok A true p) {xs : List D} (hA : A = .lst xs) (p : Pst) : F_least_numbers [.lst (cs.map dI)] p = .ok A true p := by
  rw [en_least_numbers, c_least_numbers]
  have e0 := e_check_coins h p
  subst hA
  generalize cs.map dI = L at *
  simp [e0, e p]
theorem e_low_bar {cs : List Nat} (h : Cn cs) {n : Nat} (hn : n ≤ 9999) {fd : ON} (hl : fd.length = cs.headD 0) (e : ∀ p, F_leasts_of [.lst (cs.map dI)] p = .ok (.lst (fd.map oN)) true p) (p : Pst) :
    ∃ z, F_low_bar [.lst (cs.map dI), dI n] p = .ok z false p ∧ (z = .non ∨ z = .lst (fd.map oN)) := by
  have e0 := e_check_both h hn p
  obtain ⟨f, r, hc, hf1, hf2⟩ := cs_head h
  have x0 : dIx (.lst (cs.map dI)) (.int 0) = some (dI f) := dIx_lst (k := 0) (by rw [hc]; rfl)
  have hh : cs.headD 0 = f := by rw [hc]; rfl
  rw [hh] at hl
  have xz : dIx (.lst (fd.map oN)) (dI (n % f)) = some (oD ((fd.map onI).getD (n % f) none)) := by
    rw [oN_oD]
    exact nIx_lst (ys_at _ (by rw [List.length_map, hl]; exact Nat.mod_lt _ (by omega)))
  have e2 := does_bar_ok x0 (by omega) xz p
  generalize barZ n ((fd.map onI).getD (n % f) none) = B at e2
  have e1 := e p
  rw [en_low_bar, c_low_bar]
  generalize cs.map dI = L at *
  generalize fd.map oN = A at *
  cases B with
  | true => exact ⟨.lst A, by simp [e0, e1, e2], .inr rfl⟩
  | false => exact ⟨.non, by simp [e0, e1, e2], .inl rfl⟩
end PF

namespace PF
open PySem PySem.Spec PyProof.Rows L2
theorem drw {g : Nat} {m : Int} {p : Pst} (hm : 0 < m) (hm2 : m < 1073741824) (hp : Good g p) : ∃ d p', F__law_draw [.pot g, .int m] p = .ok (.int d) false p' ∧ 0 ≤ d ∧ d < m ∧ Good g p' :=
  draw_ok (A := 40692) (B := 11969) (M1 := 2147483563) (M2 := 2147483549) (S := 19) (by decide) (by decide) (by decide) (by decide) (by decide) hm hm2 hp
theorem pck {g : Nat} {p : Pst} {xs : List D} (h0 : xs ≠ []) (hl : xs.length < 1073741824) (hp : Good g p) : ∃ d p', F__law_pick [.pot g, .lst xs] p = .ok d false p' ∧ d ∈ xs ∧ Good g p' :=
  pick_ok (fun a b c => drw a b c) h0 hl hp
/-! ### values that are shown -/
def IT (d : D) : Prop := noPot d = true ∧ RL 40 1 d
def GV (d : D) : Prop := NP d ∧ okX d = true
theorem it_int {v : Int} (h : v.natAbs ≤ 200000) : IT (.int v) := ⟨rfl, (rl_int (by omega)).mono (by omega) (by omega)⟩
theorem it_non : IT .non := ⟨rfl, rl_non.mono (by omega) (by omega)⟩
def lits (K : Int) : List D := [.non, .int 0, .int 1, .int (-1), .int 3, .int 7, .int 60, .int 61, .bl true, .str "1", .tup [.int 1, .int 2], .lst [], .tup [], .int K, .int (-K)]
theorem it_lits : ∀ x ∈ lits (10 ^ 20), IT x := by
  intro x hx
  simp only [lits, List.mem_cons, List.not_mem_nil, or_false] at hx
  rcases hx with rfl | rfl | rfl | rfl | rfl | rfl | rfl | rfl | rfl | rfl | rfl | rfl | rfl | rfl | rfl <;>
    exact ⟨rfl, by decide +kernel, by decide +kernel, by decide +kernel, by decide +kernel⟩
theorem gv_lst {xs : List D} (h : ∀ x ∈ xs, IT x) (hl : xs.length ≤ 1000) : GV (.lst xs) :=
  ⟨np_ints fun x hx => (h x hx).1, okX_of ((rl_lst (n := 40) (k := 1) (xs := xs) fun x hx => (h x hx).2).ok (by omega) (by omega))⟩
theorem gv_tup {xs : List D} (h : ∀ x ∈ xs, IT x) (hl : xs.length ≤ 1000) : GV (.tup xs) :=
  ⟨np_intsT fun x hx => (h x hx).1, okX_of ((rl_tup (n := 40) (k := 1) (xs := xs) fun x hx => (h x hx).2).ok (by omega) (by omega))⟩
theorem vk_lits : ∀ x ∈ lits (10 ^ 20), vk x = true ∧ ∀ xs, sqD x = some xs → ∀ y ∈ xs, noPot y = true := by
  intro x hx
  simp only [lits, List.mem_cons, List.not_mem_nil, or_false] at hx
  rcases hx with rfl | rfl | rfl | rfl | rfl | rfl | rfl | rfl | rfl | rfl | rfl | rfl | rfl | rfl | rfl <;>
    refine ⟨rfl, fun xs e y hy => ?_⟩ <;> first | (cases e; done) | skip
  · cases e
    simp only [List.mem_cons, List.not_mem_nil, or_false] at hy
    rcases hy with rfl | rfl <;> rfl
  · cases e; cases hy
  · cases e; cases hy
theorem gv_lits {x : D} (h : x ∈ lits (10 ^ 20)) : GV x := ⟨vk_lits x h, okX_of ((it_lits x h).2.ok (by omega) (by omega))⟩
/-- a flat list -/
def Fl (xs : List D) : Prop := xs.length ≤ 60 ∧ ∀ x ∈ xs, x = .non ∨ ∃ v : Int, x = .int v ∧ v.natAbs ≤ 100000
theorem Fl.it {xs : List D} (h : Fl xs) : ∀ x ∈ xs, IT x := fun x hx => by
  rcases h.2 x hx with rfl | ⟨v, rfl, hv⟩
  · exact it_non
  · exact it_int (by omega)
theorem cutA_mem {xs : List D} {lo hi : Option Int} {x : D} (h : x ∈ cutA xs lo hi) : x ∈ xs := List.mem_of_mem_drop (List.mem_of_mem_take h)
theorem pow20 : dPow (.int 10) (.int 20) = some (.int (10 ^ 20)) := by
  rw [dPow_int (by decide) (by decide) (by decide)]; rfl
theorem lit_ev (s1 s2 s3 s4 : Option W) (g : Nat) (K : Int) (pw : dPow (.int 10) (.int 20) = some (.int K)) (p p' : Pst) (d : D) (e : F__law_pick [.pot g, .lst (lits K)] p = .ok d false p') :
    mFn F__law_pick 2 0 [0, 1] (mcons (rd 0) (mcons (mfrz (mlim (mcons (mret .non) (mcons (mret (.int 0)) (mcons (mret (.int 1)) (mcons (mUn dNeg (mret (.int 1))) (mcons (mret (.int 3)) (mcons (mret (.int 7)) (mcons (mret (.int 60)) (mcons (mret (.int 61)) (mcons (mret (.bl true)) (mcons (mret (.str "1")) (mcons (mtup (mcons (mret (.int 1)) (mcons (mret (.int 2)) (mret [])))) (mcons (mfrz (mlim (mret []))) (mcons (mtup (mret [])) (mcons (mOp dPow (mret (.int 10)) (mret (.int 20))) (mcons (mUn dNeg (mOp dPow (mret (.int 10)) (mret (.int 20)))) (mret [])))))))))))))))))) (mret []))) (mret []) [some (.val (.pot g)), s1, s2, s3, s4] p = .ok d p' := by
  unfold lits at e
  simp [pw, e]
theorem e_bent1 (g : Nat) (d : D) (np : noPot d = true) (ty : isTys [.list, .tuple] d = false) (p : Pst) (hp : Good g p) : ∃ y p', F__law_bent_r1 [.pot g, d] p = .ok y false p' ∧ Good g p' ∧ y ∈ lits (10 ^ 20) := by
  obtain ⟨y, p', e, hy, g'⟩ := pck (xs := lits (10 ^ 20)) (by unfold lits; simp) (by unfold lits; simp) hp
  refine ⟨y, p', ?_, g', hy⟩
  rw [en__law_bent_r1, c__law_bent_r1]
  exact congrArg sres (step_rt (p1 := p) (by simp [np, ty]) (lit_ev _ _ _ _ g _ pow20 p p' y e))
theorem e__law_bent (g : Nat) (xs : List D) (h : Fl xs) (p : Pst) (hp : Good g p) : ∃ y p', F__law_bent [.pot g, .lst xs] p = .ok y false p' ∧ Good g p' ∧ GV y := by
  rw [en__law_bent, c__law_bent]
  have hit := h.it
  have hlx := h.1
  have ll : dLen [.lst xs] = some (.int xs.length) := rfl
  by_cases hnil : xs = []
  · obtain ⟨y, p', e, hy, g'⟩ := pck (xs := lits (10 ^ 20)) (by unfold lits; simp) (by unfold lits; simp) hp
    refine ⟨y, p', ?_, g', gv_lits hy⟩
    have l0 : ((xs.length : Nat) : Int) = 0 := by rw [hnil]; rfl
    exact congrArg sres (step_rt (p1 := p) (by simp [-nLen_lst, isTys, isTy, ll, l0]) (lit_ev _ _ _ _ g _ pow20 p p' y e))
  have hpos : 0 < xs.length := List.length_pos_iff.mpr hnil
  have l0 : ¬ ((xs.length : Nat) : Int) = 0 := by omega
  obtain ⟨d0, p1, e0, a0, b0, g1⟩ := drw (m := 7) (by omega) (by omega) hp
  by_cases hd0 : d0 = 0
  · subst hd0
    obtain ⟨y, p', e, hy, g'⟩ := pck (xs := lits (10 ^ 20)) (by unfold lits; simp) (by unfold lits; simp) g1
    refine ⟨y, p', ?_, g', gv_lits hy⟩
    exact congrArg sres (step_rt (p1 := p1) (by simp [-nLen_lst, isTys, isTy, ll, l0, hnil, e0]) (lit_ev _ _ _ _ g _ pow20 p1 p' y e))
  obtain ⟨a, p2, e1, a1, b1, g2⟩ := drw (m := (xs.length : Int)) (by omega) (by omega) g1
  obtain ⟨w, p3, e2, a2, b2, g3⟩ := drw (m := 10) (by omega) (by omega) g2
  let Q : SRes → Prop := fun r => ∃ y p', sres r = .ok y false p' ∧ Good g p' ∧ GV y
  show Q _
  refine step_if (p1 := p1) (by simp [-nLen_lst, isTys, isTy, ll, l0, hnil, e0, hd0]) ?_
  refine step (ρ1 := [some (.val (.pot g)), some (.val (.lst xs)), none, some (.val (.int a)), some (.val (.int w))]) (p1 := p3) (by simp [-nLen_lst, ll, e1, e2]) ?_
  have sl : ∀ lo hi, dSl (.lst xs) lo hi = some (.lst (cutA xs lo hi)) := fun _ _ => rfl
  have l1 := cutA_len xs none (some a)
  have l2 := cutA_len xs (some (a + 1)) none
  have l3 := cutA_len xs (some a) (some (a + 1))
  have k1 : ∀ x ∈ cutA xs none (some a), IT x := fun x hx => hit x (cutA_mem hx)
  have k2 : ∀ x ∈ cutA xs (some (a + 1)) none, IT x := fun x hx => hit x (cutA_mem hx)
  have k3 : ∀ x ∈ cutA xs (some a) (some (a + 1)), IT x := fun x hx => hit x (cutA_mem hx)
  have sl1 := sl none (some a)
  have sl2 := sl (some (a + 1)) none
  have sl3 := sl (some a) (some (a + 1))
  obtain ⟨k, hk⟩ : ∃ k : Nat, a = k := ⟨a.toNat, by omega⟩
  have hkl : k < xs.length := by omega
  have ix : dIx (.lst xs) (.int a) = some xs[k] := by rw [hk]; exact dIx_lst (List.getElem?_eq_getElem hkl)
  have hxk := h.2 xs[k] (List.getElem_mem hkl)
  generalize xs[k] = xk at *
  generalize cutA xs none (some a) = X1 at *
  generalize cutA xs (some (a + 1)) none = X2 at *
  generalize cutA xs (some a) (some (a + 1)) = X3 at *
  clear sl
  have mem2 : ∀ {A B : List D}, (∀ x ∈ A, IT x) → (∀ x ∈ B, IT x) → ∀ x ∈ A ++ B, IT x := fun hA hB x hx => (List.mem_append.mp hx).elim (hA x) (hB x)
  by_cases w0 : w = 0
  · subst w0
    have c := cat_ok (xs := X1) (ys := X2) (by omega)
    exact ⟨_, p3, congrArg sres (step_rt (p1 := p3) (d := .lst (X1 ++ X2)) (p2 := p3) (by simp) (by simp [sl1, sl2, c])), g3, gv_lst (mem2 k1 k2) (by rw [List.length_append]; omega)⟩
  refine step_if (p1 := p3) (by simp [w0]) ?_
  by_cases w1 : w = 1
  · subst w1
    have c := cat_ok (xs := xs) (ys := X3) (by omega)
    exact ⟨_, p3, congrArg sres (step_rt (p1 := p3) (d := .lst (xs ++ X3)) (p2 := p3) (by simp) (by simp [sl3, c])), g3, gv_lst (mem2 hit k3) (by rw [List.length_append]; omega)⟩
  refine step_if (p1 := p3) (by simp [w1]) ?_
  by_cases w2 : w = 2
  · subst w2
    exact ⟨_, p3, congrArg sres (step_rt (p1 := p3) (d := .lst xs.reverse) (p2 := p3) (by simp) (by simp)), g3, gv_lst (fun x hx => hit x (List.mem_reverse.mp hx)) (by rw [List.length_reverse]; omega)⟩
  refine step_if (p1 := p3) (by simp [w2]) ?_
  by_cases w3 : w = 3
  · subst w3
    have tp : dTuple [.lst xs] = some (.tup xs) := rfl
    exact ⟨_, p3, congrArg sres (step_rt (p1 := p3) (d := .tup xs) (p2 := p3) (by simp) (by simp [isTy, tp])), g3, gv_tup hit (by omega)⟩
  refine step_if (p1 := p3) (by simp [w3]) ?_
  have npk : noPot xk = true := by rcases hxk with rfl | ⟨v, rfl, _⟩ <;> rfl
  have tyk : isTys [.list, .tuple] xk = false := by rcases hxk with rfl | ⟨v, rfl, _⟩ <;> rfl
  obtain ⟨y, p4, e4, g4, hy⟩ := e_bent1 g xk npk tyk p3 g3
  refine step (ρ1 := [some (.val (.pot g)), some (.val (.lst xs)), some (.val y), some (.val (.int a)), some (.val (.int w))]) (p1 := p4) (by simp [ix, e4]) ?_
  have fin : ∀ (z : D) (q : Pst), IT z → Good g q → Q ((cret (mOp dAdd (mOp dAdd (mSl (rd 1) (mret none) (mPart (rd 3))) (mIf (mT (mIsi .list (rd 1))) (mfrz (mlim (mcons (rd 2) (mret [])))) (mtup (mcons (rd 2) (mret []))))) (mSl (rd 1) (mPart (mOp dAdd (rd 3) (mret (.int 1)))) (mret none)))) [some (.val (.pot g)), some (.val (.lst xs)), some (.val z), some (.val (.int a)), some (.val (.int w))] q) := by
    intro z q hz hq
    have c1 := cat_ok (xs := X1) (ys := [z]) (by simp; omega)
    have c2 := cat_ok (xs := X1 ++ [z]) (ys := X2) (by simp; omega)
    refine ⟨.lst (X1 ++ [z] ++ X2), q, ?_, hq, gv_lst (mem2 (mem2 k1 fun x hx => by rw [List.mem_singleton.mp hx]; exact hz) k2) (by simp; omega)⟩
    generalize X1 ++ [z] = X1z at *
    generalize X1z ++ X2 = X1z2 at *
    simp [sl1, sl2, isTy, c1, c2]
  by_cases hw : 6 < w
  · rcases hxk with rfl | ⟨v, rfl, hv⟩
    · refine step (ρ1 := [some (.val (.pot g)), some (.val (.lst xs)), some (.val y), some (.val (.int a)), some (.val (.int w))]) (p1 := p4) (by simp [hw, ix, isTy]) ?_
      exact fin y p4 (it_lits y hy) g4
    · obtain ⟨c, p5, e5, hc, g5⟩ := pck (xs := [.int 1, .int (-1), .int 2, .int (-10), .int 10, .int 100]) (by simp) (by simp) g4
      obtain ⟨i, rfl, hi⟩ : ∃ i : Int, c = .int i ∧ i.natAbs ≤ 100 := by
        simp only [List.mem_cons, List.not_mem_nil, or_false] at hc
        rcases hc with rfl | rfl | rfl | rfl | rfl | rfl <;> exact ⟨_, rfl, by decide⟩
      refine step (ρ1 := [some (.val (.pot g)), some (.val (.lst xs)), some (.val (.int (v + i))), some (.val (.int a)), some (.val (.int w))]) (p1 := p5) (by simp [hw, ix, isTy, e5]) ?_
      exact fin _ p5 (it_int (by omega)) g5
  · refine step (ρ1 := [some (.val (.pot g)), some (.val (.lst xs)), some (.val y), some (.val (.int a)), some (.val (.int w))]) (p1 := p4) (by simp [hw]) ?_
    exact fin y p4 (it_lits y hy) g4
end PF

namespace PF
open PySem PySem.Spec PyProof.Rows L2
/-! ### coins drawn -/
theorem cext_ok {i : Nat} {me : M D} {ρ : Sl} {p p1 : Pst} {xs ys : List D} (h : ρ[i]? = some (some (.own xs))) (hm : me ρ p = .ok (.lst ys) p1) (hl : xs.length + ys.length ≤ 16000000) : cext i me ρ p = .nx (ρ.set i (some (.own (xs ++ ys)))) p1 := by
  unfold cext
  rw [h]
  show eout me _ ρ p = _
  rw [ev_eout, hm, andS_ok, kC_ap]
  show (if xs.length + ys.length ≤ 16000000 then SRes.nx (ρ.set i (some (.own (xs ++ ys)))) p1 else .stuck) = _
  rw [if_pos hl]
structure Cf (ns : List Int) : Prop where
  nd : ns.Nodup
  bd : ∀ n ∈ ns, 1 ≤ n ∧ n ≤ 25
theorem coin_turn (g : Nat) (s1 s4 : Option W) (ns : List Int) (h : Cf ns) (hl : ns.length ≤ 100) (s5 : Option W) (p : Pst) (hp : Good g p) :
    ∃ ns' t5 p', b__law_coins_1 [some (.val (.pot g)), s1, some (.val (.int 25)), some (.own (ns.map .int)), s4, s5] p = .nx [some (.val (.pot g)), s1, some (.val (.int 25)), some (.own (ns'.map .int)), s4, t5] p' ∧ Good g p' ∧ Cf ns' ∧ ns'.length ≤ ns.length + 1 ∧ ns' ≠ [] := by
  obtain ⟨d, p1, e1, a1, b1, g1⟩ := drw (m := 25) (by omega) (by omega) hp
  have ni := dNotIn_ints (1 + d) ns
  unfold b__law_coins_1
  by_cases hm : (1 + d) ∈ ns
  · rw [decide_eq_true hm] at ni
    refine ⟨ns, some (.val (.int (1 + d))), p1, ?_, g1, h, by omega, by intro q; rw [q] at hm; cases hm⟩
    refine step (Q := fun r => r = _) (ρ1 := [some (.val (.pot g)), s1, some (.val (.int 25)), some (.own (ns.map .int)), s4, some (.val (.int (1 + d)))]) (p1 := p1) (by generalize ns.map D.int = L at *; simp [e1]) ?_
    have t1 : mscalt (mCmp dNotInX (rd 5) (rd 3)) [some (.val (.pot g)), s1, some (.val (.int 25)), some (.own (ns.map .int)), s4, some (.val (.int (1 + d)))] p1 = .ok false p1 := scalt_ok (by generalize ns.map D.int = L at *; simp [thaw, ni])
    have := cext_ok (i := 3) (me := mIf (mscalt (mCmp dNotInX (rd 5) (rd 3))) (mfrz (mlim (mcons (rd 5) (mret [])))) (mfrz (mlim (mret [])))) (ρ := [some (.val (.pot g)), s1, some (.val (.int 25)), some (.own (ns.map .int)), s4, some (.val (.int (1 + d)))]) (p := p1) (p1 := p1) (xs := ns.map .int) (ys := []) rfl (by generalize ns.map D.int = L at *; simp [t1]) (by rw [List.length_map, List.length_nil]; omega)
    rw [List.append_nil] at this
    exact this
  · rw [decide_eq_false hm] at ni
    refine ⟨ns ++ [1 + d], some (.val (.int (1 + d))), p1, ?_, g1, ⟨?_, ?_⟩, by rw [List.length_append, List.length_singleton]; omega, by simp⟩
    · refine step (Q := fun r => r = _) (ρ1 := [some (.val (.pot g)), s1, some (.val (.int 25)), some (.own (ns.map .int)), s4, some (.val (.int (1 + d)))]) (p1 := p1) (by generalize ns.map D.int = L at *; simp [e1]) ?_
      have t1 : mscalt (mCmp dNotInX (rd 5) (rd 3)) [some (.val (.pot g)), s1, some (.val (.int 25)), some (.own (ns.map .int)), s4, some (.val (.int (1 + d)))] p1 = .ok true p1 := scalt_ok (by generalize ns.map D.int = L at *; simp [thaw, ni])
      have := cext_ok (i := 3) (me := mIf (mscalt (mCmp dNotInX (rd 5) (rd 3))) (mfrz (mlim (mcons (rd 5) (mret [])))) (mfrz (mlim (mret [])))) (ρ := [some (.val (.pot g)), s1, some (.val (.int 25)), some (.own (ns.map .int)), s4, some (.val (.int (1 + d)))]) (p := p1) (p1 := p1) (xs := ns.map .int) (ys := [.int (1 + d)]) rfl (by generalize ns.map D.int = L at *; simp [t1]) (by rw [List.length_map, List.length_singleton]; omega)
      rw [List.map_append]
      exact this
    · rw [List.nodup_append]
      refine ⟨h.nd, List.nodup_cons.mpr ⟨by simp, List.nodup_nil⟩, fun a ha b hb q => hm ?_⟩
      rw [List.mem_singleton.mp hb] at q
      rw [← q]; exact ha
    · intro n hn
      rcases List.mem_append.mp hn with q | q
      · exact h.bd n q
      · rw [List.mem_singleton.mp q]; omega
theorem coins_for (g : Nat) (s1 : Option W) : ∀ (its : List D) (ns : List Int), Cf ns → ns.length + its.length ≤ 100 → (its ≠ [] ∨ ns ≠ []) → ∀ (s4 s5 : Option W) (p : Pst), Good g p →
    ∃ ns' t4 t5 p', cforGo (tgName 4) b__law_coins_1 its [some (.val (.pot g)), s1, some (.val (.int 25)), some (.own (ns.map .int)), s4, s5] p = .nx [some (.val (.pot g)), s1, some (.val (.int 25)), some (.own (ns'.map .int)), t4, t5] p' ∧ Good g p' ∧ Cf ns' ∧ ns'.length ≤ ns.length + its.length ∧ ns' ≠ []
  | [], ns, h, hl, hne, s4, s5, p, hp => ⟨ns, s4, s5, p, rfl, hp, h, by simp, hne.elim (fun q => absurd rfl q) id⟩
  | d :: its, ns, h, hl, hne, s4, s5, p, hp => by
    rw [List.length_cons] at hl
    obtain ⟨ns1, t5, p1, e1, g1, h1, l1, n1⟩ := coin_turn g s1 (some (.val d)) ns h (by omega) s5 p hp
    obtain ⟨ns2, u4, u5, p2, e2, g2, h2, l2, n2⟩ := coins_for g s1 its ns1 h1 (by omega) (.inr n1) (some (.val d)) t5 p1 g1
    refine ⟨ns2, u4, u5, p2, ?_, g2, h2, by rw [List.length_cons]; omega, n2⟩
    have gg : tgName 4 d [some (.val (.pot g)), s1, some (.val (.int 25)), some (.own (ns.map .int)), s4, s5] p = some ([some (.val (.pot g)), s1, some (.val (.int 25)), some (.own (ns.map .int)), some (.val d), s5], p) := rfl
    simp only [cforGo, gg, e1]
    exact e2
theorem asc_all : ∀ ms : List Int, ms.Pairwise (· < ·) → (ascs ms).all id = true
  | [], _ => rfl
  | [a], _ => rfl
  | a :: b :: r, h => by
    have h1 := List.pairwise_cons.mp h
    have : a < b := h1.1 b List.mem_cons_self
    simp only [ascs, List.all_cons, decide_eq_true this, id, Bool.true_and]
    exact asc_all (b :: r) h1.2
theorem cn_of {ns : List Int} (h : Cf ns) (hne : ns ≠ []) (hl : ns.length ≤ 4) : ∃ cs : List Nat, (srt ns).map D.int = cs.map dI ∧ Cn cs ∧ ∀ c ∈ cs, c ≤ 25 := by
  have hp := srt_perm ns
  have hb : ∀ n ∈ srt ns, 1 ≤ n ∧ n ≤ 25 := fun n hn => h.bd n (hp.mem_iff.mp hn)
  have hlen : (srt ns).length = ns.length := hp.length_eq
  have hlt : (srt ns).Pairwise (· < ·) := by
    have h1 := srt_sorted ns
    have h2 : (srt ns).Nodup := hp.nodup_iff.mpr h.nd
    exact (h1.and h2).imp fun ⟨a, b⟩ => by omega
  have e : (srt ns).map D.int = ((srt ns).map Int.toNat).map dI := by
    rw [List.map_map]
    exact List.map_congr_left fun n hn => dI_toNat (by have := hb n hn; omega)
  have hpos : 0 < ns.length := List.length_pos_iff.mpr hne
  refine ⟨(srt ns).map Int.toNat, e, ⟨?_, by rw [List.length_map, hlen]; omega, fun c hc => ?_⟩, fun c hc => ?_⟩
  · rw [← e]
    have ei : ((srt ns).map D.int).map intD = srt ns := by rw [List.map_map]; exact List.map_id' _ |>.trans rfl
    unfold areB
    simp only [sqD_lst]
    rw [ei, asc_all _ hlt, List.length_map, hlen, decide_eq_true (by omega : 1 ≤ ns.length), decide_eq_true hl]
    simp only [Bool.true_and, Bool.and_true]
    rw [List.all_eq_true]
    intro x hx
    obtain ⟨n, hn, rfl⟩ := List.mem_map.mp hx
    have := hb n hn
    simp only [wiB, Bool.and_eq_true, decide_eq_true_eq]
    omega
  · obtain ⟨n, hn, rfl⟩ := List.mem_map.mp hc
    have := hb n hn
    omega
  · obtain ⟨n, hn, rfl⟩ := List.mem_map.mp hc
    have := hb n hn
    omega
theorem e__law_coins (g : Nat) (p : Pst) (hp : Good g p) : ∃ cs p', F__law_coins [.pot g, .int 4, .int 25] p = .ok (.lst (cs.map dI)) true p' ∧ Good g p' ∧ Cn cs ∧ ∀ c ∈ cs, c ≤ 25 := by
  rw [en__law_coins, c__law_coins]
  obtain ⟨d, p1, e1, a1, b1, g1⟩ := drw (m := 4) (by omega) (by omega) hp
  obtain ⟨k, hk⟩ : ∃ k : Nat, d = k := ⟨d.toNat, by omega⟩
  have r1 : dRange1 [.int (1 + d)] = some (rgL 0 (1 + k)) := by
    have := nRange1 (n := 1 + k) (by omega)
    have e : D.int (1 + d) = dI (1 + k) := by unfold dI; congr 1; omega
    rw [e]; exact this
  have lR : (rgL 0 (1 + k)).length = 1 + k := by simp [rgL]
  generalize rgL 0 (1 + k) = R at *
  obtain ⟨ns, t4, t5, p2, e2, g2, h2, l2, n2⟩ := coins_for g (some (.val (.int 4))) R [] ⟨List.nodup_nil, by simp⟩ (by rw [List.length_nil]; omega) (.inl (by intro q; rw [q] at lR; simp at lR; omega)) none none p1 g1
  rw [List.length_nil] at l2
  obtain ⟨cs, ec, hc, hc2⟩ := cn_of h2 n2 (by omega)
  have so : dSorted [.lst (ns.map .int)] = some (cs.map dI) := by simp [dSorted, intsOf_map, ec]
  refine ⟨cs, p2, ?_, g2, hc, hc2⟩
  simp only [List.map_nil] at e2
  generalize ns.map D.int = L at *
  generalize cs.map dI = L2 at *
  have h1 : caso 3 (mlim (mret [])) [some (.val (.pot g)), some (.val (.int 4)), some (.val (.int 25)), none, none, none] p = .nx [some (.val (.pot g)), some (.val (.int 4)), some (.val (.int 25)), some (.own []), none, none] p := by simp
  rw [ev_cseq, h1, andC_nx]
  have h3 : cfor (mRange1 (mcons (mOp dAdd (mret (.int 1)) (mFn F__law_draw 2 0 [0, 1] (mcons (rd 0) (mcons (rd 1) (mret []))) (mret []))) (mret []))) (tgName 4) (b__law_coins_1) [some (.val (.pot g)), some (.val (.int 4)), some (.val (.int 25)), some (.own []), none, none] p = .nx [some (.val (.pot g)), some (.val (.int 4)), some (.val (.int 25)), some (.own L), t4, t5] p2 := by
    simp [cfor, e1, r1, e2]
  rw [ev_cseq, h3, andC_nx]
  simp [cfrz, so]
end PF

namespace PF
open PySem PySem.Spec PyProof.Rows L2
theorem ok_b2 (b c : Bool) : okX (.lst [.bl b, .bl c]) = true := by cases b <;> cases c <;> decide +kernel
theorem ok_b22 (b c : Bool) : okX (.lst [.lst [.bl b, .bl c], .lst [.bl b, .bl c]]) = true := by cases b <;> cases c <;> decide +kernel
/-- one value as coins -/
theorem coin_val (s0 s1 s2 s4 s5 s6 s7 s8 s9 s10 s11 s12 s13 : Option W) (d : D) (hd : GV d) (p : Pst) :
    ∃ t11 t12, b__law_right_2 [s0, s1, s2, some (.val d), s4, s5, s6, s7, s8, s9, s10, s11, s12, s13] p = .nx [s0, s1, s2, some (.val d), s4, s5, s6, s7, s8, s9, s10, t11, t12, s13] p := by
  have e1 := e__law_are_coins d hd.1 p
  have e2 : F_are_coins [d] p = .ok (.bl (areB d)) false p := by
    rw [en_are_coins, c_are_coins]
    have := e_are_coins_of d hd.1 p
    simp [this]
  have o1 := repE hd.2
  have o2 := repE (ok_b2 (areB d) (areB d))
  refine ⟨some (.val (.bl (areB d))), some (.val (.str (rtext d))), ?_⟩
  generalize areB d = B at *
  unfold b__law_right_2
  refine step (Q := fun r => r = _) (ρ1 := [s0, s1, s2, some (.val d), s4, s5, s6, s7, s8, s9, s10, some (.val (.bl B)), some (.val (.str (rtext d))), s13]) (p1 := p) (by simp [e1, o1]) ?_
  simp [e2, o1, o2]
theorem coin_vals (s0 s1 s2 s4 s5 s6 s7 s8 s9 s10 s13 : Option W) (p : Pst) : ∀ (its : List D), (∀ d ∈ its, GV d) → ∀ s3 s11 s12 : Option W,
    ∃ t3 t11 t12, cforGo (tgName 3) b__law_right_2 its [s0, s1, s2, s3, s4, s5, s6, s7, s8, s9, s10, s11, s12, s13] p = .nx [s0, s1, s2, t3, s4, s5, s6, s7, s8, s9, s10, t11, t12, s13] p
  | [], _, s3, s11, s12 => ⟨s3, s11, s12, rfl⟩
  | d :: its, h, s3, s11, s12 => by
    obtain ⟨u11, u12, e1⟩ := coin_val s0 s1 s2 s4 s5 s6 s7 s8 s9 s10 s11 s12 s13 d (h d List.mem_cons_self) p
    obtain ⟨t3, t11, t12, e2⟩ := coin_vals s0 s1 s2 s4 s5 s6 s7 s8 s9 s10 s13 p its (fun z hz => h z (List.mem_cons_of_mem _ hz)) (some (.val d)) u11 u12
    refine ⟨t3, t11, t12, ?_⟩
    have g : tgName 3 d [s0, s1, s2, s3, s4, s5, s6, s7, s8, s9, s10, s11, s12, s13] p = some ([s0, s1, s2, some (.val d), s4, s5, s6, s7, s8, s9, s10, s11, s12, s13], p) := rfl
    simp only [cforGo, g, e1]
    exact e2
/-- one value as a coin list and as a low bar -/
theorem list_val (s0 s4 s5 s6 s7 s8 s9 s10 s11 s12 s13 : Option W) {cs : List Nat} (h : Cn cs) {n : Nat} (hn : n ≤ 9999) (d : D) (hd : GV d) (p : Pst) :
    ∃ t9 t10 t11 t12, b__law_right_7 [s0, some (.val (.lst (cs.map dI))), some (.val (dI n)), some (.val d), s4, s5, s6, s7, s8, s9, s10, s11, s12, s13] p = .nx [s0, some (.val (.lst (cs.map dI))), some (.val (dI n)), some (.val d), s4, s5, s6, s7, s8, t9, t10, t11, t12, s13] p := by
  have e1 := e__law_is_list h (n := n) d hd.1 p
  have e2 := e__law_is_bar h (n := n) d hd.1 p
  have e3 := e_is_coin_list h hn d hd.1 p
  have e4 := e_is_low_bar h hn d hd.1 p
  have o1 := repE hd.2
  have o2 := repE (ok_b22 (lisB cs n d) (barB cs n d))
  generalize lisB cs n d = B1 at *
  generalize barB cs n d = B2 at *
  generalize cs.map dI = L at *
  generalize dI n = Nn at *
  refine ⟨some (.val (.lst [.bl B1, .bl B2])), some (.val (.lst [.bl B1, .bl B2])), some (.val (.lst [.bl B1, .bl B2])), some (.val (.str (rtext d))), ?_⟩
  unfold b__law_right_7
  refine step (Q := fun r => r = _) (ρ1 := [s0, some (.val (.lst L)), some (.val Nn), some (.val d), s4, s5, s6, s7, s8, s9, s10, some (.val (.lst [.bl B1, .bl B2])), some (.val (.str (rtext d))), s13]) (p1 := p) (by simp [e1, e2, o1]) ?_
  refine step (Q := fun r => r = _) (ρ1 := [s0, some (.val (.lst L)), some (.val Nn), some (.val d), s4, s5, s6, s7, s8, some (.val (.lst [.bl B1, .bl B2])), s10, some (.val (.lst [.bl B1, .bl B2])), some (.val (.str (rtext d))), s13]) (p1 := p) (by simp [e3, e4]) ?_
  refine step (Q := fun r => r = _) (ρ1 := [s0, some (.val (.lst L)), some (.val Nn), some (.val d), s4, s5, s6, s7, s8, some (.val (.lst [.bl B1, .bl B2])), some (.val (.lst [.bl B1, .bl B2])), some (.val (.lst [.bl B1, .bl B2])), some (.val (.str (rtext d))), s13]) (p1 := p) (by simp [e3, e4]) ?_
  simp [o1, o2]
theorem list_vals (s0 s4 s5 s6 s7 s8 s13 : Option W) {cs : List Nat} (h : Cn cs) {n : Nat} (hn : n ≤ 9999) (p : Pst) : ∀ (its : List D), (∀ d ∈ its, GV d) → ∀ s3 s9 s10 s11 s12 : Option W,
    ∃ t3 t9 t10 t11 t12, cforGo (tgName 3) b__law_right_7 its [s0, some (.val (.lst (cs.map dI))), some (.val (dI n)), s3, s4, s5, s6, s7, s8, s9, s10, s11, s12, s13] p = .nx [s0, some (.val (.lst (cs.map dI))), some (.val (dI n)), t3, s4, s5, s6, s7, s8, t9, t10, t11, t12, s13] p
  | [], _, s3, s9, s10, s11, s12 => ⟨s3, s9, s10, s11, s12, rfl⟩
  | d :: its, hi, s3, s9, s10, s11, s12 => by
    obtain ⟨u9, u10, u11, u12, e1⟩ := list_val s0 s4 s5 s6 s7 s8 s9 s10 s11 s12 s13 h hn d (hi d List.mem_cons_self) p
    obtain ⟨t3, t9, t10, t11, t12, e2⟩ := list_vals s0 s4 s5 s6 s7 s8 s13 h hn p its (fun z hz => hi z (List.mem_cons_of_mem _ hz)) (some (.val d)) u9 u10 u11 u12
    refine ⟨t3, t9, t10, t11, t12, ?_⟩
    have g : tgName 3 d [s0, some (.val (.lst (cs.map dI))), some (.val (dI n)), s3, s4, s5, s6, s7, s8, s9, s10, s11, s12, s13] p = some ([s0, some (.val (.lst (cs.map dI))), some (.val (dI n)), some (.val d), s4, s5, s6, s7, s8, s9, s10, s11, s12, s13], p) := rfl
    simp only [cforGo, g, e1]
    exact e2
/-! ### bent ones -/
theorem bents1 (g : Nat) (xs : List D) (h : Fl xs) (s2 s3 s4 s5 s6 s7 s8 s9 s10 s11 s12 s13 : Option W) (p : Pst) (hp : Good g p) :
    ∃ ys p', m__law_right_1 [some (.val (.pot g)), some (.val (.lst xs)), s2, s3, s4, s5, s6, s7, s8, s9, s10, s11, s12, s13] p = .ok ys p' ∧ Good g p' ∧ ys.length = 14 ∧ ∀ y ∈ ys, GV y := by
  have r6 : dRange1 [.int 14] = some (rgL 0 14) := dRange1_nat 14 (by omega)
  have lR : (rgL 0 14).length = 14 := by simp [rgL]
  generalize rgL 0 14 = R at *
  have hr6 : mRange1 (mcons (mret (.int 14)) (mret [])) [some (.val (.pot g)), some (.val (.lst xs)), s2, s3, s4, s5, s6, s7, s8, s9, s10, s11, s12, s13] p = .ok R p := by simp [r6]
  obtain ⟨ys, p', e, gg, rs⟩ := mLc_draw (vs := [13]) (f := fName 13) (el := mFn F__law_bent 2 0 [0, 1] (mcons (rd 0) (mcons (rd 1) (mret []))) (mret [])) hr6 (fun p => Good g p) (fun _ y => GV y) hp (by
    intro d hd p hp
    obtain ⟨y, p2, e2, g2, gy⟩ := e__law_bent g xs h p hp
    exact ⟨_, rfl, y, p2, by simp [wipeS, e2], g2, gy⟩)
  refine ⟨ys, p', e, gg, by rw [← rs.1, lR], fun y hy => ?_⟩
  obtain ⟨k, hk, rfl⟩ := List.mem_iff_getElem.mp hy
  have hk2 : k < R.length := by rw [rs.1]; exact hk
  exact rs.2 k _ _ (List.getElem?_eq_getElem hk2) (List.getElem?_eq_getElem hk)
theorem bents3 (g : Nat) (xs : List D) (h : Fl xs) (s1 s2 s3 s4 s5 s6 s8 s9 s10 s11 s12 s13 : Option W) (p : Pst) (hp : Good g p) :
    ∃ ys p', m__law_right_3 [some (.val (.pot g)), s1, s2, s3, s4, s5, s6, some (.val (.lst xs)), s8, s9, s10, s11, s12, s13] p = .ok ys p' ∧ Good g p' ∧ ys.length = 6 ∧ ∀ y ∈ ys, GV y := by
  have r6 : dRange1 [.int 6] = some (rgL 0 6) := dRange1_nat 6 (by omega)
  have lR : (rgL 0 6).length = 6 := by simp [rgL]
  generalize rgL 0 6 = R at *
  have hr6 : mRange1 (mcons (mret (.int 6)) (mret [])) [some (.val (.pot g)), s1, s2, s3, s4, s5, s6, some (.val (.lst xs)), s8, s9, s10, s11, s12, s13] p = .ok R p := by simp [r6]
  obtain ⟨ys, p', e, gg, rs⟩ := mLc_draw (vs := [13]) (f := fName 13) (el := mFn F__law_bent 2 0 [0, 1] (mcons (rd 0) (mcons (rd 7) (mret []))) (mret [])) hr6 (fun p => Good g p) (fun _ y => GV y) hp (by
    intro d hd p hp
    obtain ⟨y, p2, e2, g2, gy⟩ := e__law_bent g xs h p hp
    exact ⟨_, rfl, y, p2, by simp [wipeS, e2], g2, gy⟩)
  refine ⟨ys, p', e, gg, by rw [← rs.1, lR], fun y hy => ?_⟩
  obtain ⟨k, hk, rfl⟩ := List.mem_iff_getElem.mp hy
  have hk2 : k < R.length := by rw [rs.1]; exact hk
  exact rs.2 k _ _ (List.getElem?_eq_getElem hk2) (List.getElem?_eq_getElem hk)
def TO (d : D) : Prop := d = .non ∨ ∃ xs, d = .lst xs ∧ Fl xs
theorem catO (xs ys : List D) (h : xs.length + ys.length ≤ 16000000) : dAddO (.lst xs) (.lst ys) = some (xs ++ ys) := by
  simp only [dAddO]
  rw [if_pos (by rw [sizeLine_eq]; omega)]
theorem told_vals (g : Nat) (s1 s2 s3 s4 s5 s8 s9 s10 s11 s12 s13 : Option W) : ∀ (its : List D), (∀ d ∈ its, TO d) → ∀ vs : List D, (∀ v ∈ vs, GV v) → vs.length + 8 * its.length ≤ 1000 → ∀ (s7 : Option W) (p : Pst), Good g p →
    ∃ vs' t7 p', cforGo (tgName 7) b__law_right_4 its [some (.val (.pot g)), s1, s2, s3, s4, s5, some (.own vs), s7, s8, s9, s10, s11, s12, s13] p = .nx [some (.val (.pot g)), s1, s2, s3, s4, s5, some (.own vs'), t7, s8, s9, s10, s11, s12, s13] p' ∧ (∀ v ∈ vs', GV v) ∧ vs'.length ≤ 1000 ∧ Good g p'
  | [], _, vs, hv, hl, s7, p, hp => ⟨vs, s7, p, rfl, hv, by simpa using hl, hp⟩
  | d :: its, h, vs, hv, hl, s7, p, hp => by
    rw [List.length_cons] at hl
    have gt : tgName 7 d [some (.val (.pot g)), s1, s2, s3, s4, s5, some (.own vs), s7, s8, s9, s10, s11, s12, s13] p = some ([some (.val (.pot g)), s1, s2, s3, s4, s5, some (.own vs), some (.val d), s8, s9, s10, s11, s12, s13], p) := rfl
    rcases h d List.mem_cons_self with rfl | ⟨xs, rfl, hx⟩
    · obtain ⟨vs', t7, p', e, q1, q2, q3⟩ := told_vals g s1 s2 s3 s4 s5 s8 s9 s10 s11 s12 s13 its (fun z hz => h z (List.mem_cons_of_mem _ hz)) vs hv (by omega) (some (.val .non)) p hp
      refine ⟨vs', t7, p', ?_, q1, q2, q3⟩
      have e1 : b__law_right_4 [some (.val (.pot g)), s1, s2, s3, s4, s5, some (.own vs), some (.val .non), s8, s9, s10, s11, s12, s13] p = .nx [some (.val (.pot g)), s1, s2, s3, s4, s5, some (.own vs), some (.val .non), s8, s9, s10, s11, s12, s13] p := by
        unfold b__law_right_4; simp
      simp only [cforGo, gt, e1]
      exact e
    · obtain ⟨ys, p1, e1, g1, l1, gy⟩ := bents3 g xs hx s1 s2 s3 s4 s5 (some (.val (.lst vs))) s8 s9 s10 s11 s12 s13 p hp
      have hx1 : GV (.lst xs) := gv_lst hx.it (by have := hx.1; omega)
      have hx2 : GV (.tup xs) := gv_tup hx.it (by have := hx.1; omega)
      obtain ⟨vs', t7, p', e, q1, q2, q3⟩ := told_vals g s1 s2 s3 s4 s5 s8 s9 s10 s11 s12 s13 its (fun z hz => h z (List.mem_cons_of_mem _ hz)) (vs ++ [.lst xs, .tup xs] ++ ys) (by
        intro v hv2
        rcases List.mem_append.mp hv2 with k | k
        · rcases List.mem_append.mp k with k | k
          · exact hv v k
          · simp only [List.mem_cons, List.not_mem_nil, or_false] at k
            rcases k with rfl | rfl
            · exact hx1
            · exact hx2
        · exact gy v k) (by simp only [List.length_append, List.length_cons, List.length_nil]; omega) (some (.val (.lst xs))) p1 g1
      refine ⟨vs', t7, p', ?_, q1, q2, q3⟩
      have c1 := cat_ok (xs := vs) (ys := [.lst xs, .tup xs]) (by simp; omega)
      have c2 := catO (vs ++ [.lst xs, .tup xs]) ys (by simp; omega)
      have tp : dTuple [.lst xs] = some (.tup xs) := rfl
      have e2 : b__law_right_4 [some (.val (.pot g)), s1, s2, s3, s4, s5, some (.own vs), some (.val (.lst xs)), s8, s9, s10, s11, s12, s13] p = .nx [some (.val (.pot g)), s1, s2, s3, s4, s5, some (.own (vs ++ [.lst xs, .tup xs] ++ ys)), some (.val (.lst xs)), s8, s9, s10, s11, s12, s13] p1 := by
        unfold b__law_right_4
        generalize vs ++ [.lst xs, .tup xs] = A at *
        generalize A ++ ys = B at *
        simp [cfrz, c1, tp, e1, c2]
      simp only [cforGo, gt, e2]
      exact e
/-! ### lower ones -/
def lowD (m : Int) : D → D
  | .int v => .int (v - m)
  | _ => .non
theorem low_vals (s0 s1 s2 s3 s5 s7 s9 s10 s11 s12 s13 : Option W) (fd : ON) (hl : fd.length ≤ 60) (hv : ∀ i v, atO fd i = some v → v ≤ 3600) (m : Int) (hm : 0 ≤ m) (hm2 : m ≤ 10) (vs : List D) (hvs : ∀ v ∈ vs, GV v) (hl2 : vs.length ≤ 2000) (p : Pst) :
    ∃ vs', b__law_right_6 [s0, s1, s2, s3, some (.val (.lst (fd.map oN))), s5, some (.own vs), s7, some (.val (.int m)), s9, s10, s11, s12, s13] p = .nx [s0, s1, s2, s3, some (.val (.lst (fd.map oN))), s5, some (.own vs'), s7, some (.val (.int m)), s9, s10, s11, s12, s13] p ∧ (∀ v ∈ vs', GV v) ∧ vs'.length ≤ vs.length + 1 := by
  have items : ∀ d ∈ fd.map oN, d = .non ∨ ∃ v : Int, d = .int v ∧ 0 ≤ v ∧ v ≤ 3600 := by
    intro d hd
    obtain ⟨i, hi, rfl⟩ := List.mem_iff_getElem.mp hd
    rw [List.length_map] at hi
    have := on_at hi
    rw [List.getElem?_eq_getElem (by rw [List.length_map]; exact hi)] at this
    have e := Option.some.inj this
    rw [e]
    cases q : atO fd i with
    | none => exact .inl rfl
    | some v => exact .inr ⟨v, rfl, by omega, by have := hv i v q; omega⟩
  have lA : (fd.map oN).length ≤ 60 := by rw [List.length_map]; exact hl
  generalize fd.map oN = A at *
  have e1 : m__law_right_5 [s0, s1, s2, s3, some (.val (.lst A)), s5, some (.own vs), s7, some (.val (.int m)), s9, s10, s11, s12, s13] p = .ok (A.map (lowD m)) p := mLc_lstY (by simp) _ (fun d hd => by
    rcases items d hd with rfl | ⟨v, rfl, _, _⟩ <;> simp [wipeS, lowD])
  have gn : GV (.lst (A.map (lowD m))) := gv_lst (fun x hx => by
    obtain ⟨d, hd, rfl⟩ := List.mem_map.mp hx
    rcases items d hd with rfl | ⟨v, rfl, _, _⟩
    · exact it_non
    · exact it_int (by omega)) (by rw [List.length_map]; omega)
  generalize (A.map (lowD m)) = N at *
  refine ⟨vs ++ [.lst N], ?_, fun v hv => ?_, by rw [List.length_append, List.length_singleton]; omega⟩
  · exact capp_ok (xs := vs) (d := .lst N) rfl (by simp [e1]) (by omega)
  · rcases List.mem_append.mp hv with k | k
    · exact hvs v k
    · rw [List.mem_singleton.mp k]; exact gn
theorem rep_of (x : D) (n : Nat) (hn : n ≤ 9999) : dMul (.lst [x]) (dI n) = some (.lst (List.replicate n x)) := by
  unfold dI
  rw [dMul_rep]
  simp only [dRep]
  rw [if_pos ⟨by omega, by omega, by rw [sizeLine_eq, Int.toNat_natCast, List.length_singleton]; omega⟩, Int.toNat_natCast]
  congr 2
  clear hn
  induction n with
  | zero => rfl
  | succ n ih => rw [List.replicate_succ, List.flatten_cons, ih, List.replicate_succ]; rfl
theorem fl_rep {x : D} {n : Nat} (hn : n ≤ 60) (hx : x = .non ∨ ∃ v : Int, x = .int v ∧ v.natAbs ≤ 100000) : Fl (List.replicate n x) :=
  ⟨by rw [List.length_replicate]; exact hn, fun y hy => by rw [(List.mem_replicate.mp hy).2]; exact hx⟩
theorem fl_cons {x : D} {xs : List D} (h : Fl xs) (hl : xs.length ≤ 59) (hx : x = .non ∨ ∃ v : Int, x = .int v ∧ v.natAbs ≤ 100000) : Fl (x :: xs) :=
  ⟨by rw [List.length_cons]; omega, fun y hy => by
    rcases List.mem_cons.mp hy with rfl | k
    · exact hx
    · exact h.2 y k⟩
theorem fl_nat {l : List Nat} {m : Nat} (hl : l.length ≤ 60) (hm : m ≤ 100000) (h : ∀ x ∈ l, x ≤ m) : Fl (l.map dI) :=
  ⟨by rw [List.length_map]; exact hl, fun y hy => by
    obtain ⟨k, hk, rfl⟩ := List.mem_map.mp hy
    have := h k hk
    exact .inr ⟨(k : Int), rfl, by omega⟩⟩
theorem fl_on {fd : ON} (hl : fd.length ≤ 60) (hv : ∀ i v, atO fd i = some v → v ≤ 3600) : Fl (fd.map oN) :=
  ⟨by rw [List.length_map]; exact hl, fun d hd => by
    obtain ⟨i, hi, rfl⟩ := List.mem_iff_getElem.mp hd
    rw [List.length_map] at hi
    have := on_at hi
    rw [List.getElem?_eq_getElem (by rw [List.length_map]; exact hi)] at this
    rw [Option.some.inj this]
    cases q : atO fd i with
    | none => exact .inl rfl
    | some v => exact .inr ⟨(v : Int), rfl, by have := hv i v q; omega⟩⟩
end PF

namespace PF
open PySem PySem.Spec PyProof.Rows L2
theorem fn1 {G : Fn} {ρ : Sl} {p p' : Pst} {i : Nat} {d z : D} {fr : Bool} (h : ρ[i]? = some (some (.val d))) (e : G [d] p = .ok z fr p') : mFn G 1 0 [0] (mcons (rd i) (mret [])) (mret []) ρ p = .ok z p' := by
  simp [ev_rd, h, e]
theorem st3 (g : Nat) (L CC VA ys : List D) (Nn : D) (p2 p3 : Pst) {t3 t11 t12 : Option W} (cc : dAdd (.lst L) (.lst L) = some (.lst CC)) (cV : dAdd (.lst [.lst L, .tup L, .lst L.reverse, .lst CC, .lst [.int 60], .lst [.int 61], .non, .int 0, .tup [], .lst [], .emp, .str "35"]) (.lst ys) = some (.lst VA))
    (e3 : m__law_right_1 [some (.val (.pot g)), some (.val (.lst L)), some (.val Nn), none, none, none, none, none, none, none, none, none, none, none] p2 = .ok ys p3)
    (ev : cforGo (tgName 3) b__law_right_2 VA [some (.val (.pot g)), some (.val (.lst L)), some (.val Nn), none, none, none, none, none, none, none, none, none, none, none] p3 = .nx [some (.val (.pot g)), some (.val (.lst L)), some (.val Nn), t3, none, none, none, none, none, none, none, t11, t12, none] p3) :
    cfor (mSeq (mOp dAdd (mfrz (mlim (mcons (rd 1) (mcons (mCall dTuple (mcons (rd 1) (mret []))) (mcons (mfrz (mRevo (rd 1))) (mcons (mOp dAdd (rd 1) (rd 1)) (mcons (mfrz (mlim (mcons (mret (.int 60)) (mret [])))) (mcons (mfrz (mlim (mcons (mret (.int 61)) (mret [])))) (mcons (mret .non) (mcons (mret (.int 0)) (mcons (mtup (mret [])) (mcons (mfrz (mlim (mret []))) (mcons (mret .emp) (mcons (mret (.str "35")) (mret []))))))))))))))) (mfrz (m__law_right_1)))) (tgName 3) (b__law_right_2) [some (.val (.pot g)), some (.val (.lst L)), some (.val Nn), none, none, none, none, none, none, none, none, none, none, none] p2 = .nx [some (.val (.pot g)), some (.val (.lst L)), some (.val Nn), t3, none, none, none, none, none, none, none, t11, t12, none] p3 := by
  have tp : dTuple [.lst L] = some (.tup L) := rfl
  simp [cfor, tp, mRevo, cc, e3, cV, ev]
theorem st4 (s0 s2 t3 t11 t12 : Option W) (L : List D) (A : D) (p : Pst) (e4 : F_least_numbers [.lst L] p = .ok A true p) :
    casg 4 (mFn F_least_numbers 1 0 [0] (mcons (rd 1) (mret [])) (mret [])) [s0, some (.val (.lst L)), s2, t3, none, none, none, none, none, none, none, t11, t12, none] p = .nx [s0, some (.val (.lst L)), s2, t3, some (.val A), none, none, none, none, none, none, t11, t12, none] p := by
  rw [ev_casg, ev_eout, fn1 (i := 1) rfl e4]; rfl
theorem list8 (M1 M2 M3 M4 M5 M6 M7 M8 : M D) (v1 v2 v3 v4 v5 v6 v7 v8 : D) (ρ : Sl) (p : Pst) (h1 : M1 ρ p = .ok v1 p) (h2 : M2 ρ p = .ok v2 p) (h3 : M3 ρ p = .ok v3 p) (h4 : M4 ρ p = .ok v4 p) (h5 : M5 ρ p = .ok v5 p) (h6 : M6 ρ p = .ok v6 p) (h7 : M7 ρ p = .ok v7 p) (h8 : M8 ρ p = .ok v8 p) :
    mfrz (mlim (mcons M1 (mcons M2 (mcons M3 (mcons M4 (mcons M5 (mcons M6 (mcons M7 (mcons M8 (mret []))))))))) ) ρ p = .ok (.lst [v1, v2, v3, v4, v5, v6, v7, v8]) p := by
  simp [h1, h2, h3, h4, h5, h6, h7, h8]
theorem fn2 {G : Fn} {ρ : Sl} {p p' : Pst} {i j : Nat} {d e z : D} {fr : Bool} (h : ρ[i]? = some (some (.val d))) (h2 : ρ[j]? = some (some (.val e))) (q : G [d, e] p = .ok z fr p') : mFn G 2 0 [0, 1] (mcons (rd i) (mcons (rd j) (mret []))) (mret []) ρ p = .ok z p' := by
  simp [ev_rd, h, h2, q]
theorem rep1 {x F R : D} {mx mf : M D} {ρ : Sl} {p : Pst} (hx : mx ρ p = .ok x p) (hf : mf ρ p = .ok F p) (r : dMul (.lst [x]) F = some R) : mOp dMul (mfrz (mlim (mcons mx (mret [])))) mf ρ p = .ok R p := by
  have e1 : mfrz (mlim (mcons mx (mret []))) ρ p = .ok (.lst [x]) p := by simp [hx]
  rw [ev_mOp, ev_mbind, e1, andThen_ok, kM_ap, ev_mbind, hf, andThen_ok, kM_ap, r, ev_mopt_some]
theorem rep2 {x F R C : D} {my mx mf : M D} {y : D} {ρ : Sl} {p : Pst} (hy : my ρ p = .ok y p) (hx : mx ρ p = .ok x p) (hf : mf ρ p = .ok F p) (r : dMul (.lst [x]) F = some R) (c : dAdd (.lst [y]) R = some C) : mOp dAdd (mfrz (mlim (mcons my (mret [])))) (mOp dMul (mfrz (mlim (mcons mx (mret [])))) mf) ρ p = .ok C p := by
  have e1 : mfrz (mlim (mcons my (mret []))) ρ p = .ok (.lst [y]) p := by simp [hy]
  rw [ev_mOp, ev_mbind, e1, andThen_ok, kM_ap, ev_mbind, rep1 hx hf r, andThen_ok, kM_ap, c, ev_mopt_some]
theorem st5 (s0 t3 t11 t12 : Option W) (L : List D) (A F0 Fm Ln Nn z1 z2 : D) (R1 R2 R3 R4 R5 C1 : List D) (p : Pst) (x0 : dIx (.lst L) (.int 0) = some F0) (sb : dSub F0 (.int 1) = some Fm) (ll : dLen [.lst L] = some Ln)
    (e5 : F_coin_list [.lst L, Nn] p = .ok z1 false p) (e6 : F_low_bar [.lst L, Nn] p = .ok z2 false p) (r1 : dMul (.lst [.non]) Fm = some (.lst R1)) (r2 : dMul (.lst [.int 0]) F0 = some (.lst R2)) (r3 : dMul (.lst [.int (-5)]) F0 = some (.lst R3))
    (r4 : dMul (.lst [.int 0]) Ln = some (.lst R4)) (r5 : dMul (.lst [Nn]) Ln = some (.lst R5)) (c1 : dAdd (.lst [.int 0]) (.lst R1) = some (.lst C1)) :
    casg 5 (mfrz (mlim (mcons (mFn F_coin_list 2 0 [0, 1] (mcons (rd 1) (mcons (rd 2) (mret []))) (mret [])) (mcons (mFn F_low_bar 2 0 [0, 1] (mcons (rd 1) (mcons (rd 2) (mret []))) (mret [])) (mcons (rd 4) (mcons (mOp dAdd (mfrz (mlim (mcons (mret (.int 0)) (mret [])))) (mOp dMul (mfrz (mlim (mcons (mret .non) (mret [])))) (mOp dSub (mOp dIx (rd 1) (mret (.int 0))) (mret (.int 1))))) (mcons (mOp dMul (mfrz (mlim (mcons (mret (.int 0)) (mret [])))) (mOp dIx (rd 1) (mret (.int 0)))) (mcons (mOp dMul (mfrz (mlim (mcons (mUn dNeg (mret (.int 5))) (mret [])))) (mOp dIx (rd 1) (mret (.int 0)))) (mcons (mOp dMul (mfrz (mlim (mcons (mret (.int 0)) (mret [])))) (mCall dLen (mcons (rd 1) (mret [])))) (mcons (mOp dMul (mfrz (mlim (mcons (rd 2) (mret [])))) (mCall dLen (mcons (rd 1) (mret [])))) (mret []))))))))))) [s0, some (.val (.lst L)), some (.val Nn), t3, some (.val A), none, none, none, none, none, none, t11, t12, none] p = .nx [s0, some (.val (.lst L)), some (.val Nn), t3, some (.val A), some (.val (.lst [z1, z2, A, .lst C1, .lst R2, .lst R3, .lst R4, .lst R5])), none, none, none, none, none, t11, t12, none] p := by
  have f0 : mOp dIx (rd 1) (mret (.int 0)) [s0, some (.val (.lst L)), some (.val Nn), t3, some (.val A), none, none, none, none, none, none, t11, t12, none] p = .ok F0 p := by simp [x0]
  have fm : mOp dSub (mOp dIx (rd 1) (mret (.int 0))) (mret (.int 1)) [s0, some (.val (.lst L)), some (.val Nn), t3, some (.val A), none, none, none, none, none, none, t11, t12, none] p = .ok Fm p := by simp [x0, sb]
  have fl : mCall dLen (mcons (rd 1) (mret [])) [s0, some (.val (.lst L)), some (.val Nn), t3, some (.val A), none, none, none, none, none, none, t11, t12, none] p = .ok Ln p := by simp [-nLen_lst, ll]
  have m5 : mUn dNeg (mret (.int 5)) [s0, some (.val (.lst L)), some (.val Nn), t3, some (.val A), none, none, none, none, none, none, t11, t12, none] p = .ok (.int (-5)) p := by simp
  rw [ev_casg, ev_eout, list8 _ _ _ _ _ _ _ _ _ _ _ _ _ _ _ _ _ p (fn2 (i := 1) (j := 2) rfl rfl e5) (fn2 (i := 1) (j := 2) rfl rfl e6) (ev_rd 4) (rep2 (ev_mret _) (ev_mret _) fm r1 c1) (rep1 (ev_mret _) f0 r2) (rep1 m5 f0 r3) (rep1 (ev_mret _) fl r4) (rep1 (ev_rd 2) fl r5)]
  rfl
theorem st6 (s0 s2 t3 s4 s5 t11 t12 : Option W) (L : List D) (F0 Fm : D) (R6 R7 C2 : List D) (p : Pst) (x0 : dIx (.lst L) (.int 0) = some F0) (sb : dSub F0 (.int 1) = some Fm) (r6 : dMul (.lst [.non]) F0 = some (.lst R6)) (r7 : dMul (.lst [.int 0]) Fm = some (.lst R7)) (c2 : dAdd (.lst [.int 1]) (.lst R7) = some (.lst C2)) :
    caso 6 (mlim (mcons (mret .non) (mcons (mret (.int 0)) (mcons (mtup (mret [])) (mcons (mfrz (mlim (mret []))) (mcons (mret .emp) (mcons (mret (.str "low")) (mcons (mOp dMul (mfrz (mlim (mcons (mret .non) (mret [])))) (mOp dIx (rd 1) (mret (.int 0)))) (mcons (mOp dAdd (mfrz (mlim (mcons (mret (.int 1)) (mret [])))) (mOp dMul (mfrz (mlim (mcons (mret (.int 0)) (mret [])))) (mOp dSub (mOp dIx (rd 1) (mret (.int 0))) (mret (.int 1))))) (mret [])))))))))) [s0, some (.val (.lst L)), s2, t3, s4, s5, none, none, none, none, none, t11, t12, none] p = .nx [s0, some (.val (.lst L)), s2, t3, s4, s5, some (.own [.non, .int 0, .tup [], .lst [], .emp, .str "low", .lst R6, .lst C2]), none, none, none, none, t11, t12, none] p := by
  simp [x0, sb, r6, r7, c2]
theorem e__law_right (g : Nat) (p : Pst) (hp : Good g p) : ∃ p', F__law_right [.pot g] p = .ok (.bl true) false p' ∧ Good g p' := by
  rw [en__law_right, c__law_right]
  let Q : SRes → Prop := fun r => ∃ p', sres r = .ok (.bl true) false p' ∧ Good g p'
  show Q _
  obtain ⟨cs, p1, e1, g1, hc, hb⟩ := e__law_coins g p hp
  obtain ⟨d, p2, e2, a2, b2, g2⟩ := drw (m := 301) (by omega) (by omega) g1
  obtain ⟨n, hn⟩ : ∃ n : Nat, d = n := ⟨d.toNat, by omega⟩
  have hd : D.int d = dI n := by rw [hn]; rfl
  rw [hd] at e2
  have hn9 : n ≤ 300 := by omega
  clear hd
  have flc : Fl (cs.map dI) := fl_nat (m := 25) (by have := hc.len.2; omega) (by omega) hb
  have lc : (cs.map dI).length ≤ 4 := by rw [List.length_map]; exact hc.len.2
  obtain ⟨f, r, hcs, hf1, hf2⟩ := cs_head hc
  have x0 : dIx (.lst (cs.map dI)) (.int 0) = some (dI f) := dIx_lst (k := 0) (by rw [hcs]; rfl)
  have hh : cs.headD 0 = f := by rw [hcs]; rfl
  -- the first values
  obtain ⟨ys, p3, e3, g3, l3, gy⟩ := bents1 g (cs.map dI) flc (some (.val (dI n))) none none none none none none none none none none none p2 g2
  have hrev : ∀ x ∈ (cs.map dI).reverse, IT x := fun x hx => flc.it x (List.mem_reverse.mp hx)
  have cc := cat_ok (xs := cs.map dI) (ys := cs.map dI) (by omega)
  obtain ⟨V1, hV1⟩ : ∃ V1 : List D, V1 = [.lst (cs.map dI), .tup (cs.map dI), .lst (cs.map dI).reverse, .lst (cs.map dI ++ cs.map dI), .lst [.int 60], .lst [.int 61], .non, .int 0, .tup [], .lst [], .emp, .str "35"] := ⟨_, rfl⟩
  have gV1 : ∀ v ∈ V1 ++ ys, GV v := by
    intro v hv
    rcases List.mem_append.mp hv with k | k
    · rw [hV1] at k
      simp only [List.mem_cons, List.not_mem_nil, or_false] at k
      rcases k with rfl | rfl | rfl | rfl | rfl | rfl | rfl | rfl | rfl | rfl | rfl | rfl
      · exact gv_lst flc.it (by omega)
      · exact gv_tup flc.it (by omega)
      · exact gv_lst hrev (by rw [List.length_reverse]; omega)
      · exact gv_lst (fun x hx => (List.mem_append.mp hx).elim (flc.it x) (flc.it x)) (by rw [List.length_append]; omega)
      · exact gv_lst (fun x hx => by rw [List.mem_singleton.mp hx]; exact it_int (by decide)) (by simp)
      · exact gv_lst (fun x hx => by rw [List.mem_singleton.mp hx]; exact it_int (by decide)) (by simp)
      · exact ⟨⟨rfl, fun xs e => nomatch e⟩, by decide +kernel⟩
      · exact ⟨⟨rfl, fun xs e => nomatch e⟩, by decide +kernel⟩
      · exact gv_tup (fun x hx => nomatch hx) (by simp)
      · exact gv_lst (fun x hx => nomatch hx) (by simp)
      · exact ⟨⟨rfl, fun xs e => nomatch e⟩, by decide +kernel⟩
      · exact ⟨⟨rfl, fun xs e => nomatch e⟩, by decide +kernel⟩
    · exact gy v k
  have lV1 : V1.length = 12 := by rw [hV1]; rfl
  have cV := cat_ok (xs := V1) (ys := ys) (by omega)
  -- the papers told
  obtain ⟨fd, hfl, hfv, ef⟩ := e_leasts cs hc
  have e4 := e_least_numbers hc ef rfl p3
  obtain ⟨z1, e5, hz1⟩ := e_coin_list hc (n := n) (by omega) p3
  obtain ⟨z2, e6, hz2⟩ := e_low_bar hc (n := n) (by omega) hfl ef p3
  have hfl60 : fd.length ≤ 60 := by rw [hfl, hh]; exact hf2
  have flf : Fl (fd.map oN) := fl_on hfl60 hfv
  have sb : dSub (dI f) (.int 1) = some (dI (f - 1)) := nSub (a := f) (b := 1) hf1
  have r1 := rep_of .non (f - 1) (by omega)
  have r2 := rep_of (.int 0) f (by omega)
  have r3 := rep_of (.int (-5)) f (by omega)
  have r4 := rep_of (.int 0) cs.length (by have := hc.len.2; omega)
  have r5 := rep_of (dI n) cs.length (by have := hc.len.2; omega)
  have r6 := rep_of .non f (by omega)
  have r7 := rep_of (.int 0) (f - 1) (by omega)
  have c1 := cat_ok (xs := [.int 0]) (ys := List.replicate (f - 1) .non) (by rw [List.length_replicate, List.length_singleton]; omega)
  have c2 := cat_ok (xs := [.int 1]) (ys := List.replicate (f - 1) (.int 0)) (by rw [List.length_replicate, List.length_singleton]; omega)
  have ll : dLen [.lst (cs.map dI)] = some (dI cs.length) := by rw [nLen_lst, List.length_map]
  have i0 : (D.int 0 = .non ∨ ∃ v : Int, D.int 0 = .int v ∧ v.natAbs ≤ 100000) := .inr ⟨0, rfl, by decide⟩
  have i1 : (D.int 1 = .non ∨ ∃ v : Int, D.int 1 = .int v ∧ v.natAbs ≤ 100000) := .inr ⟨1, rfl, by decide⟩
  have i5 : (D.int (-5) = .non ∨ ∃ v : Int, D.int (-5) = .int v ∧ v.natAbs ≤ 100000) := .inr ⟨-5, rfl, by decide⟩
  have inn : (dI n = .non ∨ ∃ v : Int, dI n = .int v ∧ v.natAbs ≤ 100000) := .inr ⟨(n : Int), rfl, by omega⟩
  have hl4 : cs.length ≤ 60 := by have := hc.len.2; omega
  have f1 : Fl ([.int 0] ++ List.replicate (f - 1) .non) := by
    show Fl (D.int 0 :: List.replicate (f - 1) .non)
    exact fl_cons (fl_rep (by omega) (.inl rfl)) (by rw [List.length_replicate]; omega) i0
  have f2 : Fl (List.replicate f (.int 0)) := fl_rep hf2 i0
  have f3 : Fl (List.replicate f (.int (-5))) := fl_rep hf2 i5
  have f4 : Fl (List.replicate cs.length (.int 0)) := fl_rep hl4 i0
  have f5 : Fl (List.replicate cs.length (dI n)) := fl_rep hl4 inn
  have f6 : Fl (List.replicate f .non) := fl_rep hf2 (.inl rfl)
  have f7 : Fl ([.int 1] ++ List.replicate (f - 1) (.int 0)) := by
    show Fl (D.int 1 :: List.replicate (f - 1) (.int 0))
    exact fl_cons (fl_rep (by omega) i0) (by rw [List.length_replicate]; omega) i1
  have tz1 : TO z1 := by
    rcases hz1 with rfl | ⟨os, rfl, h1, h2⟩
    · exact .inl rfl
    · exact .inr ⟨_, rfl, fl_nat (m := n) (by omega) (by omega) h2⟩
  have tz2 : TO z2 := by
    rcases hz2 with rfl | rfl
    · exact .inl rfl
    · exact .inr ⟨_, rfl, flf⟩
  obtain ⟨T, hT⟩ : ∃ T : List D, T = [z1, z2, .lst (fd.map oN), .lst ([.int 0] ++ List.replicate (f - 1) .non), .lst (List.replicate f (.int 0)), .lst (List.replicate f (.int (-5))), .lst (List.replicate cs.length (.int 0)), .lst (List.replicate cs.length (dI n))] := ⟨_, rfl⟩
  have tT : ∀ t ∈ T, TO t := by
    intro t ht
    rw [hT] at ht
    simp only [List.mem_cons, List.not_mem_nil, or_false] at ht
    rcases ht with rfl | rfl | rfl | rfl | rfl | rfl | rfl | rfl
    · exact tz1
    · exact tz2
    · exact .inr ⟨_, rfl, flf⟩
    · exact .inr ⟨_, rfl, f1⟩
    · exact .inr ⟨_, rfl, f2⟩
    · exact .inr ⟨_, rfl, f3⟩
    · exact .inr ⟨_, rfl, f4⟩
    · exact .inr ⟨_, rfl, f5⟩
  have lT : T.length = 8 := by rw [hT]; rfl
  obtain ⟨V2, hV2⟩ : ∃ V2 : List D, V2 = [.non, .int 0, .tup [], .lst [], .emp, .str "low", .lst (List.replicate f .non), .lst ([.int 1] ++ List.replicate (f - 1) (.int 0))] := ⟨_, rfl⟩
  have gV2 : ∀ v ∈ V2, GV v := by
    intro v k
    rw [hV2] at k
    simp only [List.mem_cons, List.not_mem_nil, or_false] at k
    rcases k with rfl | rfl | rfl | rfl | rfl | rfl | rfl | rfl
    · exact ⟨⟨rfl, fun xs e => nomatch e⟩, by decide +kernel⟩
    · exact ⟨⟨rfl, fun xs e => nomatch e⟩, by decide +kernel⟩
    · exact gv_tup (fun x hx => nomatch hx) (by simp)
    · exact gv_lst (fun x hx => nomatch hx) (by simp)
    · exact ⟨⟨rfl, fun xs e => nomatch e⟩, by decide +kernel⟩
    · exact ⟨⟨rfl, fun xs e => nomatch e⟩, by decide +kernel⟩
    · exact gv_lst f6.it (by have := f6.1; omega)
    · exact gv_lst f7.it (by have := f7.1; omega)
  have lV2 : V2.length = 8 := by rw [hV2]; rfl
  -- the walk
  have s1 : casg 1 (mFn F__law_coins 3 0 [0, 1, 2] (mcons (rd 0) (mcons (mret (.int 4)) (mcons (mret (.int 25)) (mret [])))) (mret [])) [some (.val (.pot g)), none, none, none, none, none, none, none, none, none, none, none, none, none] p = .nx [some (.val (.pot g)), some (.val (.lst (cs.map dI))), none, none, none, none, none, none, none, none, none, none, none, none] p1 := by
    generalize cs.map dI = L at *
    simp [e1]
  refine step s1 ?_
  refine step (ρ1 := [some (.val (.pot g)), some (.val (.lst (cs.map dI))), some (.val (dI n)), none, none, none, none, none, none, none, none, none, none, none]) (p1 := p2) (by generalize cs.map dI = L at *; simp [e2]) ?_
  obtain ⟨t3, t11, t12, ev⟩ := coin_vals (some (.val (.pot g))) (some (.val (.lst (cs.map dI)))) (some (.val (dI n))) none none none none none none none none p3 (V1 ++ ys) gV1 none none none
  have s3 := st3 g (cs.map dI) (cs.map dI ++ cs.map dI) (V1 ++ ys) ys (dI n) p2 p3 cc (by rw [hV1] at cV; rw [hV1]; exact cV) e3 ev
  refine step s3 ?_
  refine step (st4 (some (.val (.pot g))) (some (.val (dI n))) t3 t11 t12 _ _ p3 e4) ?_
  have s5 := st5 (some (.val (.pot g))) t3 t11 t12 (cs.map dI) (.lst (fd.map oN)) (dI f) (dI (f - 1)) (dI cs.length) (dI n) z1 z2 _ _ _ _ _ _ p3 x0 sb ll e5 e6 r1 r2 r3 r4 r5 c1
  rw [← hT] at s5
  refine step s5 ?_
  have s6 := st6 (some (.val (.pot g))) (some (.val (dI n))) t3 (some (.val (.lst (fd.map oN)))) (some (.val (.lst T))) t11 t12 (cs.map dI) (dI f) (dI (f - 1)) _ _ _ p3 x0 sb r6 r7 c2
  rw [← hV2] at s6
  refine step s6 ?_
  clear s6 s5 s3 s1 hT hV1 hV2
  obtain ⟨V3, t7, p4, e7, gV3, lV3, g4⟩ := told_vals g (some (.val (.lst (cs.map dI)))) (some (.val (dI n))) t3 (some (.val (.lst (fd.map oN)))) (some (.val (.lst T))) none none none t11 t12 none T tT V2 gV2 (by omega) none p3 g3
  refine step (ρ1 := [some (.val (.pot g)), some (.val (.lst (cs.map dI))), some (.val (dI n)), t3, some (.val (.lst (fd.map oN))), some (.val (.lst T)), some (.own V3), t7, none, none, none, t11, t12, none]) (p1 := p4) (by
    generalize cs.map dI = L at *
    generalize fd.map oN = A at *
    simp [cfor, e7]) ?_
  obtain ⟨V4, e8, gV4, lV4⟩ := low_vals (some (.val (.pot g))) (some (.val (.lst (cs.map dI)))) (some (.val (dI n))) t3 (some (.val (.lst T))) t7 none none t11 t12 none fd hfl60 hfv 1 (by decide) (by decide) V3 gV3 (by omega) p4
  obtain ⟨V5, e9, gV5, lV5⟩ := low_vals (some (.val (.pot g))) (some (.val (.lst (cs.map dI)))) (some (.val (dI n))) t3 (some (.val (.lst T))) t7 none none t11 t12 none fd hfl60 hfv 10 (by decide) (by decide) V4 gV4 (by omega) p4
  refine step (ρ1 := [some (.val (.pot g)), some (.val (.lst (cs.map dI))), some (.val (dI n)), t3, some (.val (.lst (fd.map oN))), some (.val (.lst T)), some (.own V5), t7, some (.val (.int 10)), none, none, t11, t12, none]) (p1 := p4) (by
    generalize cs.map dI = L at *
    generalize fd.map oN = A at *
    simp [cfor, cforGo, tgName, e8, e9]) ?_
  refine step (ρ1 := [some (.val (.pot g)), some (.val (.lst (cs.map dI))), some (.val (dI n)), t3, some (.val (.lst (fd.map oN))), some (.val (.lst T)), some (.val (.lst V5)), t7, some (.val (.int 10)), none, none, t11, t12, none]) (p1 := p4) (by simp [cfrz]) ?_
  obtain ⟨u3, u9, u10, u11, u12, e10⟩ := list_vals (some (.val (.pot g))) (some (.val (.lst (fd.map oN)))) (some (.val (.lst T))) (some (.val (.lst V5))) t7 (some (.val (.int 10))) none hc (n := n) (by omega) p4 V5 gV5 t3 none none t11 t12
  refine step (ρ1 := [some (.val (.pot g)), some (.val (.lst (cs.map dI))), some (.val (dI n)), u3, some (.val (.lst (fd.map oN))), some (.val (.lst T)), some (.val (.lst V5)), t7, some (.val (.int 10)), u9, u10, u11, u12, none]) (p1 := p4) (by
    generalize cs.map dI = L at *
    generalize fd.map oN = A at *
    simp [cfor, e10]) ?_
  exact ⟨p4, by simp, g4⟩
theorem law_ok (ns : List Int) (hl : ns.length ≤ 63) : ∃ p', F_law [.scr ns] ⟨0, 0, 0⟩ = .ok (.bl true) false p' := by
  rw [en_law, c_law]
  have hi : mRange1 (mcons (mCall dMax2 (mcons (mret (.int 1)) (mcons (mCall dMin2 (mcons (mret (.int 2)) (mcons (mCall dLen (mcons (rd 0) (mret []))) (mret [])))) (mret [])))) (mret [])) [some (.val (.scr ns)), none] ⟨0, 0, 0⟩ = .ok ((List.range (max 1 (min 2 ns.length))).map dI) ⟨0, 0, 0⟩ := by
    show mRange1 (mcons (mCall dMax2 (mcons (mret (dI 1)) (mcons (mCall dMin2 (mcons (mret (dI 2)) (mcons (mCall dLen (mcons (rd 0) (mret []))) (mret [])))) (mret [])))) (mret [])) [some (.val (.scr ns)), none] ⟨0, 0, 0⟩ = _
    have e : mcons (mCall dMax2 (mcons (mret (dI 1)) (mcons (mCall dMin2 (mcons (mret (dI 2)) (mcons (mCall dLen (mcons (rd 0) (mret []))) (mret [])))) (mret [])))) (mret []) [some (.val (.scr ns)), none] ⟨0, 0, 0⟩ = .ok [dI (max 1 (min 2 ns.length))] ⟨0, 0, 0⟩ := by simp [nMin2, nMax2]
    rw [ev_mRange1, ev_mbind, e, andThen_ok, kM_ap, nRange1 (by omega), ev_mopt_some, rgL_dI]
  obtain ⟨ys, p', e, _, rs⟩ := mLc_draw (vs := [1]) (f := fName 1) (el := mFn F__law_right 1 0 [0] (mcons (mFn F__law_pot 2 0 [0, 1] (mcons (rd 0) (mcons (rd 1) (mret []))) (mret [])) (mret [])) (mret [])) hi (fun _ => True) (fun _ y => y = .bl true) trivial (by
    intro d hd p _
    obtain ⟨k, hk, rfl⟩ := List.mem_map.mp hd
    refine ⟨_, rfl, ?_⟩
    obtain ⟨g, p1, e1, g1⟩ := pot_ok (A := 3931) (B := 3271) (U := 40487) (V := 37201) (W := 2531) (M1 := 2147483549) (M2 := 2147483563) (Z := 1) (by decide) (by decide) (by decide) (by decide) (by decide) (by decide) (by decide) (ns := ns) (k := k) (p := p)
    have e1' : F__law_pot [.scr ns, dI k] p = .ok (.pot g) false p1 := e1
    obtain ⟨p2, e2, _⟩ := e__law_right g p1 g1
    exact ⟨_, p2, by simp [wipeS, e1', e2], trivial, rfl⟩)
  have e' : m_law_1 [some (.val (.scr ns)), none] ⟨0, 0, 0⟩ = .ok ys p' := e
  have hy : ys = (ys.map fun _ => true).map .bl := by
    apply List.ext_getElem?
    intro i
    rw [List.getElem?_map, List.getElem?_map]
    cases q : ys[i]? with
    | none => rfl
    | some y =>
      have hi2 : i < ((List.range (max 1 (min 2 ns.length))).map dI).length := by rw [rs.1]; exact (List.getElem?_eq_some_iff.mp q).1
      have := rs.2 i _ y (List.getElem?_eq_getElem hi2) q
      rw [this]; rfl
  have ha : dAll [.lst ys] = some (.bl true) := by
    rw [hy, dAll_bls]
    congr 2
    simp
  exact ⟨p', by simp [e', ha]⟩
end PF

namespace PF
open PySem PySem.Spec PyProof.Rows L2
theorem b_is_integer {P : Program} {w : World} {K : PySem.W.Frag} {mg : Str → Option Value} {base : Heap} (m_bool : mg "bool" = none) (m_int : mg "int" = none) (m_isinstance : mg "isinstance" = none) : BodyOk P w K mg base 0 "is_integer" (defBody HeadT.s_is_integer) (defScope HeadT.s_is_integer) N_is_integer c_is_integer := by
  intro f cdv A outer s H E En hr hgd
  have nd : N_is_integer.Nodup := by decide +kernel
  have tk : Takes (cxOf (L2.CX P w) P w K mg base N_is_integer "is_integer" (defScope HeadT.s_is_integer) f cdv A outer s H E) (EX E) := takes_of rfl rfl rfl rfl
  have hp : PassesOwn (model P w) (cxOf (L2.CX P w) P w K mg base N_is_integer "is_integer" (defScope HeadT.s_is_integer) f cdv A outer s H E).A (cxOf (L2.CX P w) P w K mg base N_is_integer "is_integer" (defScope HeadT.s_is_integer) f cdv A outer s H E).env (cxOf (L2.CX P w) P w K mg base N_is_integer "is_integer" (defScope HeadT.s_is_integer) f cdv A outer s H E).xe := passes_of rfl
  delta c_is_integer
  exact (cs_one (cs_ret (pm_and (pm_isi .int (by rfl) m_isinstance (pm_of (pv 0)) (by rfl) m_int ty_int) (pm_one (pm_not (pm_isi .bool (by rfl) m_isinstance (pm_of (pv 0)) (by rfl) m_bool ty_bool))))))
theorem sc_is_integer : FnScope N_is_integer ps_is_integer (defScope HeadT.s_is_integer) := ⟨rfl, rfl, rfl, by decide +kernel, rfl, by decide +kernel, by decide +kernel⟩
theorem b_is_count {P : Program} {w : World} {K : PySem.W.Frag} {mg : Str → Option Value} {base : Heap} (h_is_integer : FnX P w K mg base "is_integer" (defArgs HeadT.s_is_integer) 1 ps_is_integer F_is_integer) : BodyOk P w K mg base 1 "is_count" (defBody HeadT.s_is_count) (defScope HeadT.s_is_count) N_is_count c_is_count := by
  intro f cdv A outer s H E En hr hgd
  have nd : N_is_count.Nodup := by decide +kernel
  have tk : Takes (cxOf (L2.CX P w) P w K mg base N_is_count "is_count" (defScope HeadT.s_is_count) f cdv A outer s H E) (EX E) := takes_of rfl rfl rfl rfl
  have hp : PassesOwn (model P w) (cxOf (L2.CX P w) P w K mg base N_is_count "is_count" (defScope HeadT.s_is_count) f cdv A outer s H E).A (cxOf (L2.CX P w) P w K mg base N_is_count "is_count" (defScope HeadT.s_is_count) f cdv A outer s H E).env (cxOf (L2.CX P w) P w K mg base N_is_count "is_count" (defScope HeadT.s_is_count) f cdv A outer s H E).xe := passes_of rfl
  delta c_is_count
  exact (cs_one (cs_ret (pm_and (pm_fn1 h_is_integer (hr.mono (by decide)) hgd tk (fun _ _ _ _ _ _ _ _ us ws h1 h2 => match us, ws, h1, h2 with | [_], [], _, _ => rfl) (by rfl) (pma_cons (pm_of (pv 0)) pma_nil)) (pm_one (pm_ge (pm_of (pv 0)) pm_int)))))
theorem sc_is_count : FnScope N_is_count ps_is_count (defScope HeadT.s_is_count) := ⟨rfl, rfl, rfl, by decide +kernel, rfl, by decide +kernel, by decide +kernel⟩
theorem b_is_within {P : Program} {w : World} {K : PySem.W.Frag} {mg : Str → Option Value} {base : Heap} (h_is_integer : FnX P w K mg base "is_integer" (defArgs HeadT.s_is_integer) 1 ps_is_integer F_is_integer) : BodyOk P w K mg base 1 "is_within" (defBody HeadT.s_is_within) (defScope HeadT.s_is_within) N_is_within c_is_within := by
  intro f cdv A outer s H E En hr hgd
  have nd : N_is_within.Nodup := by decide +kernel
  have tk : Takes (cxOf (L2.CX P w) P w K mg base N_is_within "is_within" (defScope HeadT.s_is_within) f cdv A outer s H E) (EX E) := takes_of rfl rfl rfl rfl
  have hp : PassesOwn (model P w) (cxOf (L2.CX P w) P w K mg base N_is_within "is_within" (defScope HeadT.s_is_within) f cdv A outer s H E).A (cxOf (L2.CX P w) P w K mg base N_is_within "is_within" (defScope HeadT.s_is_within) f cdv A outer s H E).env (cxOf (L2.CX P w) P w K mg base N_is_within "is_within" (defScope HeadT.s_is_within) f cdv A outer s H E).xe := passes_of rfl
  delta c_is_within
  exact (cs_one (cs_ret (pm_and (pm_fn1 h_is_integer (hr.mono (by decide)) hgd tk (fun _ _ _ _ _ _ _ _ us ws h1 h2 => match us, ws, h1, h2 with | [_], [], _, _ => rfl) (by rfl) (pma_cons (pm_of (pv 0)) pma_nil)) (pm_one (pm_chain (f := iLe) (g := iLe) op_le op_le (pm_of (pv 1)) (pm_of (pv 0)) (pm_of (pv 2)))))))
theorem sc_is_within : FnScope N_is_within ps_is_within (defScope HeadT.s_is_within) := ⟨rfl, rfl, rfl, by decide +kernel, rfl, by decide +kernel, by decide +kernel⟩
theorem b_is_list {P : Program} {w : World} {K : PySem.W.Frag} {mg : Str → Option Value} {base : Heap} (m_isinstance : mg "isinstance" = none) (m_list : mg "list" = none) (m_tuple : mg "tuple" = none) : BodyOk P w K mg base 0 "is_list" (defBody HeadT.s_is_list) (defScope HeadT.s_is_list) N_is_list c_is_list := by
  intro f cdv A outer s H E En hr hgd
  have nd : N_is_list.Nodup := by decide +kernel
  have tk : Takes (cxOf (L2.CX P w) P w K mg base N_is_list "is_list" (defScope HeadT.s_is_list) f cdv A outer s H E) (EX E) := takes_of rfl rfl rfl rfl
  have hp : PassesOwn (model P w) (cxOf (L2.CX P w) P w K mg base N_is_list "is_list" (defScope HeadT.s_is_list) f cdv A outer s H E).A (cxOf (L2.CX P w) P w K mg base N_is_list "is_list" (defScope HeadT.s_is_list) f cdv A outer s H E).env (cxOf (L2.CX P w) P w K mg base N_is_list "is_list" (defScope HeadT.s_is_list) f cdv A outer s H E).xe := passes_of rfl
  delta c_is_list
  exact (cs_one (cs_ret (pm_isi2 .list .tuple (by rfl) m_isinstance (pm_of (pv 0)) (by rfl) m_list ty_list (by rfl) m_tuple ty_tuple)))
theorem sc_is_list : FnScope N_is_list ps_is_list (defScope HeadT.s_is_list) := ⟨rfl, rfl, rfl, by decide +kernel, rfl, by decide +kernel, by decide +kernel⟩
theorem b_check_number {P : Program} {w : World} {K : PySem.W.Frag} {mg : Str → Option Value} {base : Heap} (h_is_within : FnX P w K mg base "is_within" (defArgs HeadT.s_is_within) 2 ps_is_within F_is_within) : BodyOk P w K mg base 2 "check_number" (defBody HeadT.s_check_number) (defScope HeadT.s_check_number) N_check_number c_check_number := by
  intro f cdv A outer s H E En hr hgd
  have nd : N_check_number.Nodup := by decide +kernel
  have tk : Takes (cxOf (L2.CX P w) P w K mg base N_check_number "check_number" (defScope HeadT.s_check_number) f cdv A outer s H E) (EX E) := takes_of rfl rfl rfl rfl
  have hp : PassesOwn (model P w) (cxOf (L2.CX P w) P w K mg base N_check_number "check_number" (defScope HeadT.s_check_number) f cdv A outer s H E).A (cxOf (L2.CX P w) P w K mg base N_check_number "check_number" (defScope HeadT.s_check_number) f cdv A outer s H E).env (cxOf (L2.CX P w) P w K mg base N_check_number "check_number" (defScope HeadT.s_check_number) f cdv A outer s H E).xe := passes_of rfl
  delta c_check_number
  exact (cs_one (cs_if (pmt_not (pmt_val (pm_fn1 h_is_within (hr.mono (by decide)) hgd tk (fun _ _ _ _ _ _ _ _ us ws h1 h2 => match us, ws, h1, h2 with | [_, _, _], [], _, _ => rfl) (by rfl) (pma_cons (pm_of (pv 0)) (pma_cons (pm_of (pv 1)) (pma_cons (pm_of (pv 2)) pma_nil)))))) (cs_one cs_never) cs_nil))
theorem sc_check_number : FnScope N_check_number ps_check_number (defScope HeadT.s_check_number) := ⟨rfl, rfl, rfl, by decide +kernel, rfl, by decide +kernel, by decide +kernel⟩
theorem b_are_coins_of {P : Program} {w : World} {K : PySem.W.Frag} {mg : Str → Option Value} {base : Heap} (m_MOST_COIN : ∃ t, mg "MOST_COIN" = some (.int 60 t)) (m_MOST_COINS : ∃ t, mg "MOST_COINS" = some (.int 4 t)) (h_is_list : FnX P w K mg base "is_list" (defArgs HeadT.s_is_list) 1 ps_is_list F_is_list) (h_is_within : FnX P w K mg base "is_within" (defArgs HeadT.s_is_within) 2 ps_is_within F_is_within) (m_all : mg "all" = none) (m_len : mg "len" = none) (m_zip : mg "zip" = none) : BodyOk P w K mg base 2 "are_coins_of" (defBody HeadT.s_are_coins_of) (defScope HeadT.s_are_coins_of) N_are_coins_of c_are_coins_of := by
  intro f cdv A outer s H E En hr hgd
  have nd : N_are_coins_of.Nodup := by decide +kernel
  have tk : Takes (cxOf (L2.CX P w) P w K mg base N_are_coins_of "are_coins_of" (defScope HeadT.s_are_coins_of) f cdv A outer s H E) (EX E) := takes_of rfl rfl rfl rfl
  have hp : PassesOwn (model P w) (cxOf (L2.CX P w) P w K mg base N_are_coins_of "are_coins_of" (defScope HeadT.s_are_coins_of) f cdv A outer s H E).A (cxOf (L2.CX P w) P w K mg base N_are_coins_of "are_coins_of" (defScope HeadT.s_are_coins_of) f cdv A outer s H E).env (cxOf (L2.CX P w) P w K mg base N_are_coins_of "are_coins_of" (defScope HeadT.s_are_coins_of) f cdv A outer s H E).xe := passes_of rfl
  delta c_are_coins_of
  try delta m_are_coins_of_2
  try delta m_are_coins_of_1
  exact (cs_cons (cs_if (PMw.pt (pmw_or (pmt_not (pmt_val (pm_fn1 h_is_list (hr.mono (by decide)) hgd tk (fun _ _ _ _ _ _ _ _ us ws h1 h2 => match us, ws, h1, h2 with | [_], [], _, _ => rfl) (by rfl) (pma_cons (pm_of (pv 0)) pma_nil)))) (pmw_or1 (pmt_not (pmt_chain (f := iLe) (g := iLe) op_le op_le pm_int (b_len m_len (pma_cons (pm_of (pv 0)) pma_nil)) (pm_gint (by rfl) m_MOST_COINS)))))) (cs_one (cs_ret pm_bl)) cs_nil) (cs_cons (cs_if (pmt_not (pmt_val (b_all rfl m_all (pma_cons (PMo.pm (pmo_lc (own := [("one", 1)]) rfl nd (pmi_seq (pm_of (pv 0))) (blkOk_by (by kernel_rfl)) (fun _ _ _ _ _ => (pg_name (i := 1) nd rfl (by first | exact Or.inl rfl | exact Or.inr rfl))) gok_name (fun _ _ _ _ _ => pmts_nil) (fun _ _ _ _ _ => (pm_fn1 h_is_within (hr.mono (by decide)) hgd takes_w0 (fun _ _ _ _ _ _ _ _ us ws h1 h2 => match us, ws, h1, h2 with | [_, _, _], [], _, _ => rfl) (by rfl) (pma_cons (pm_of (pv 1)) (pma_cons pm_int (pma_cons (pm_gint (by rfl) m_MOST_COIN) pma_nil))))))) pma_nil)))) (cs_one (cs_ret pm_bl)) cs_nil) (cs_one (cs_ret (b_all rfl m_all (pma_cons (PMo.pm (pmo_lc (own := [("near", 2), ("far", 3)]) rfl nd (pmi_zipS (by rfl) m_zip (pma_cons (pm_of (pv 0)) (pma_cons (pm_sl (pm_of (pv 0)) (pmO_some pm_int) pmO_none) pma_nil))) (blkOk_by (by kernel_rfl)) (fun _ _ _ _ _ => (pg_tup rfl (pgs_cons (pg_name (i := 2) nd rfl (by first | exact Or.inl rfl | exact Or.inr rfl)) (pgs_cons (pg_name (i := 3) nd rfl (by first | exact Or.inl rfl | exact Or.inr rfl)) pgs_nil)))) (gok_tup (gsok_cons gok_name (gsok_cons gok_name gsok_nil)) (fs_len_cons (fs_len_cons fs_len_nil))) (fun _ _ _ _ _ => pmts_nil) (fun _ _ _ _ _ => (pm_lt (pm_of (pv 2)) (pm_of (pv 3)))))) pma_nil))))))
theorem sc_are_coins_of : FnScope N_are_coins_of ps_are_coins_of (defScope HeadT.s_are_coins_of) := ⟨rfl, rfl, rfl, by decide +kernel, rfl, by decide +kernel, by decide +kernel⟩
theorem b_check_coins {P : Program} {w : World} {K : PySem.W.Frag} {mg : Str → Option Value} {base : Heap} (h_are_coins_of : FnX P w K mg base "are_coins_of" (defArgs HeadT.s_are_coins_of) 3 ps_are_coins_of F_are_coins_of) : BodyOk P w K mg base 3 "check_coins" (defBody HeadT.s_check_coins) (defScope HeadT.s_check_coins) N_check_coins c_check_coins := by
  intro f cdv A outer s H E En hr hgd
  have nd : N_check_coins.Nodup := by decide +kernel
  have tk : Takes (cxOf (L2.CX P w) P w K mg base N_check_coins "check_coins" (defScope HeadT.s_check_coins) f cdv A outer s H E) (EX E) := takes_of rfl rfl rfl rfl
  have hp : PassesOwn (model P w) (cxOf (L2.CX P w) P w K mg base N_check_coins "check_coins" (defScope HeadT.s_check_coins) f cdv A outer s H E).A (cxOf (L2.CX P w) P w K mg base N_check_coins "check_coins" (defScope HeadT.s_check_coins) f cdv A outer s H E).env (cxOf (L2.CX P w) P w K mg base N_check_coins "check_coins" (defScope HeadT.s_check_coins) f cdv A outer s H E).xe := passes_of rfl
  delta c_check_coins
  exact (cs_one (cs_if (pmt_not (pmt_val (pm_fn1 h_are_coins_of (hr.mono (by decide)) hgd tk (fun _ _ _ _ _ _ _ _ us ws h1 h2 => match us, ws, h1, h2 with | [_], [], _, _ => rfl) (by rfl) (pma_cons (pm_of (pv 0)) pma_nil)))) (cs_one cs_never) cs_nil))
theorem sc_check_coins : FnScope N_check_coins ps_check_coins (defScope HeadT.s_check_coins) := ⟨rfl, rfl, rfl, by decide +kernel, rfl, by decide +kernel, by decide +kernel⟩
theorem b_check_both {P : Program} {w : World} {K : PySem.W.Frag} {mg : Str → Option Value} {base : Heap} (h_check_coins : FnX P w K mg base "check_coins" (defArgs HeadT.s_check_coins) 4 ps_check_coins F_check_coins) (h_check_number : FnX P w K mg base "check_number" (defArgs HeadT.s_check_number) 3 ps_check_number F_check_number) : BodyOk P w K mg base 4 "check_both" (defBody HeadT.s_check_both) (defScope HeadT.s_check_both) N_check_both c_check_both := by
  intro f cdv A outer s H E En hr hgd
  have nd : N_check_both.Nodup := by decide +kernel
  have tk : Takes (cxOf (L2.CX P w) P w K mg base N_check_both "check_both" (defScope HeadT.s_check_both) f cdv A outer s H E) (EX E) := takes_of rfl rfl rfl rfl
  have hp : PassesOwn (model P w) (cxOf (L2.CX P w) P w K mg base N_check_both "check_both" (defScope HeadT.s_check_both) f cdv A outer s H E).A (cxOf (L2.CX P w) P w K mg base N_check_both "check_both" (defScope HeadT.s_check_both) f cdv A outer s H E).env (cxOf (L2.CX P w) P w K mg base N_check_both "check_both" (defScope HeadT.s_check_both) f cdv A outer s H E).xe := passes_of rfl
  delta c_check_both
  exact (cs_cons (cs_expr (pm_fn1 h_check_coins (hr.mono (by decide)) hgd tk (fun _ _ _ _ _ _ _ _ us ws h1 h2 => match us, ws, h1, h2 with | [_], [], _, _ => rfl) (by rfl) (pma_cons (pm_of (pv 0)) pma_nil))) (cs_one (cs_expr (pm_fn1 h_check_number (hr.mono (by decide)) hgd tk (fun _ _ _ _ _ _ _ _ us ws h1 h2 => match us, ws, h1, h2 with | [_, _, _], [], _, _ => rfl) (by rfl) (pma_cons (pm_of (pv 1)) (pma_cons pm_int (pma_cons (pm_of (pv 2)) pma_nil)))))))
theorem sc_check_both : FnScope N_check_both ps_check_both (defScope HeadT.s_check_both) := ⟨rfl, rfl, rfl, by decide +kernel, rfl, by decide +kernel, by decide +kernel⟩
theorem b_leasts_of {P : Program} {w : World} {K : PySem.W.Frag} {mg : Str → Option Value} {base : Heap} (m_int : mg "int" = none) : BodyOk P w K mg base 0 "leasts_of" (defBody HeadT.s_leasts_of) (defScope HeadT.s_leasts_of) N_leasts_of c_leasts_of := by
  intro f cdv A outer s H E En hr hgd
  have nd : N_leasts_of.Nodup := by decide +kernel
  have tk : Takes (cxOf (L2.CX P w) P w K mg base N_leasts_of "leasts_of" (defScope HeadT.s_leasts_of) f cdv A outer s H E) (EX E) := takes_of rfl rfl rfl rfl
  have hp : PassesOwn (model P w) (cxOf (L2.CX P w) P w K mg base N_leasts_of "leasts_of" (defScope HeadT.s_leasts_of) f cdv A outer s H E).A (cxOf (L2.CX P w) P w K mg base N_leasts_of "leasts_of" (defScope HeadT.s_leasts_of) f cdv A outer s H E).env (cxOf (L2.CX P w) P w K mg base N_leasts_of "leasts_of" (defScope HeadT.s_leasts_of) f cdv A outer s H E).xe := passes_of rfl
  delta c_leasts_of
  try delta t_leasts_of_4
  try delta b_leasts_of_3
  try delta b_leasts_of_2
  try delta b_leasts_of_1
  exact (cs_cons (cs_set (i := 1) nd rfl (by first | exact Or.inl rfl | exact Or.inr rfl) (pm_ixd (pm_of (pv 0)) pm_int)) (cs_cons (cs_par (ps_par (i := 2) (j := 3) rfl nd rfl rfl (by decide) rfl rfl (PMu.pa (pmu_own (pmo_mul (PMo.pm (pmo_lst (pma_cons pm_non pma_nil))) (pm_of (pv 1))) (pmu_val (PMo.pm (pmo_lst (pma_cons pm_int pma_nil))) pmu_nil))) rfl)) (cs_cons (cs_asgT (ps_asg (PM.pe pm_int) (pg_sub (pv 2) (PM.pe pm_int) set_list)) tg_subO) (cs_cons (cs_while FUEL hp (pmt_ne (un_of hr) (pm_of (pv 3)) (PMo.pm (pmo_lst pma_nil))) (cs_cons (cs_seto (i := 4) nd rfl (by first | exact Or.inl rfl | exact Or.inr rfl) (pmo_lst pma_nil)) (cs_cons (cs_for hp rfl (pmi_seq (pm_of (pv 3))) (pg_name (i := 5) nd rfl (by first | exact Or.inl rfl | exact Or.inr rfl)) tg_name (cs_one (cs_for hp rfl (pmi_seq (pm_sl (pm_of (pv 0)) (pmO_some pm_int) pmO_none)) (pg_name (i := 6) nd rfl (by first | exact Or.inl rfl | exact Or.inr rfl)) tg_name (cs_cons (cs_par (ps_par (i := 7) (j := 8) rfl nd rfl rfl (by decide) rfl rfl (PMu.pa (pmu_val (pm_add (pm_ixo (pv 2) (pm_of (pv 5))) (pm_of (pv 6))) (pmu_val (pm_mod (b_int m_int (pma_cons (pm_add (pm_of (pv 5)) (pm_of (pv 6))) pma_nil)) (pm_of (pv 1))) pmu_nil))) rfl)) (cs_one (cs_if (PMw.pt (pmw_or (pmt_isN (pm_ixo (pv 2) (pm_of (pv 8)))) (pmw_or1 (pmt_lt (pm_of (pv 7)) (pm_ixo (pv 2) (pm_of (pv 8))))))) (cs_cons (cs_asgT (ps_asg (PM.pe (pm_of (pv 7))) (pg_sub (pv 2) (PM.pe (pm_of (pv 8))) set_list)) tg_subO) (cs_one (cs_append (pe_bm PySem.F.plainAttrs_list PySem.F.slot_list_append PySem.F.type_list_append mt_append (pv 4) (pa_cons (PM.pe (pm_of (pv 8))) pa_nil))))) cs_nil)))))) (cs_frz (i := 4) (cs_one (cs_set (i := 3) nd rfl (by first | exact Or.inl rfl | exact Or.inr rfl) (pm_of (pv 4)))))))) (cs_one (cs_retown (pv 2)))))))
theorem sc_leasts_of : FnScope N_leasts_of ps_leasts_of (defScope HeadT.s_leasts_of) := ⟨rfl, rfl, rfl, by decide +kernel, rfl, by decide +kernel, by decide +kernel⟩
theorem b_fewest_rows {P : Program} {w : World} {K : PySem.W.Frag} {mg : Str → Option Value} {base : Heap} (m_enumerate : mg "enumerate" = none) (m_min : mg "min" = none) : BodyOk P w K mg base 0 "fewest_rows" (defBody HeadT.s_fewest_rows) (defScope HeadT.s_fewest_rows) N_fewest_rows c_fewest_rows := by
  intro f cdv A outer s H E En hr hgd
  have nd : N_fewest_rows.Nodup := by decide +kernel
  have tk : Takes (cxOf (L2.CX P w) P w K mg base N_fewest_rows "fewest_rows" (defScope HeadT.s_fewest_rows) f cdv A outer s H E) (EX E) := takes_of rfl rfl rfl rfl
  have hp : PassesOwn (model P w) (cxOf (L2.CX P w) P w K mg base N_fewest_rows "fewest_rows" (defScope HeadT.s_fewest_rows) f cdv A outer s H E).A (cxOf (L2.CX P w) P w K mg base N_fewest_rows "fewest_rows" (defScope HeadT.s_fewest_rows) f cdv A outer s H E).env (cxOf (L2.CX P w) P w K mg base N_fewest_rows "fewest_rows" (defScope HeadT.s_fewest_rows) f cdv A outer s H E).xe := passes_of rfl
  delta c_fewest_rows
  try delta b_fewest_rows_2
  try delta b_fewest_rows_1
  exact (cs_cons (cs_set (i := 2) nd rfl (by first | exact Or.inl rfl | exact Or.inr rfl) (PMo.pm (pmo_lst (pma_cons (pm_add (PMo.pm (pmo_lst (pma_cons pm_int pma_nil))) (pm_mul (PMo.pm (pmo_lst (pma_cons pm_non pma_nil))) (pm_of (pv 1)))) pma_nil)))) (cs_cons (cs_for hp rfl (pmi_seq (PMo.pm (pmo_rev (pm_of (pv 0))))) (pg_name (i := 3) nd rfl (by first | exact Or.inl rfl | exact Or.inr rfl)) tg_name (cs_cons (cs_seto (i := 4) nd rfl (by first | exact Or.inl rfl | exact Or.inr rfl) (pmo_lst pma_nil)) (cs_cons (cs_for hp rfl (pmi_enum (by rfl) m_enumerate (pma_cons (pm_ixd (pm_of (pv 2)) pm_int) pma_nil)) (pg_tup rfl (pgs_cons (pg_name (i := 5) nd rfl (by first | exact Or.inl rfl | exact Or.inr rfl)) (pgs_cons (pg_name (i := 6) nd rfl (by first | exact Or.inl rfl | exact Or.inr rfl)) pgs_nil))) (tg_tup (tgs_cons tg_name (tgs_cons tg_name tgs_nil))) (cs_cons (cs_seto (i := 7) nd rfl (by first | exact Or.inl rfl | exact Or.inr rfl) (pmo_if (pmt_notN (pm_of (pv 6))) (pmo_lst (pma_cons (pm_of (pv 6)) pma_nil)) (pmo_lst pma_nil))) (cs_cons (cs_if (PMw.pt (pmw_and (pmt_ge (pm_of (pv 5)) (pm_of (pv 3))) (pmw_and1 (pmt_notN (pm_ixo (pv 4) (pm_sub (pm_of (pv 5)) (pm_of (pv 3)))))))) (cs_one (cs_append (pe_bm PySem.F.plainAttrs_list PySem.F.slot_list_append PySem.F.type_list_append mt_append (pv 7) (pa_cons (PM.pe (pm_add (pm_ixo (pv 4) (pm_sub (pm_of (pv 5)) (pm_of (pv 3)))) pm_int)) pa_nil)))) cs_nil) (cs_one (cs_append (pe_bm PySem.F.plainAttrs_list PySem.F.slot_list_append PySem.F.type_list_append mt_append (pv 4) (pa_cons (PM.pe (pm_if (pmt_scal (pmt_ne (un_of hr) (pm_of (pv 7)) (PMo.pm (pmo_lst pma_nil)))) (pm_scal (b_min1 rfl m_min (pma_cons (pm_of (pv 7)) pma_nil))) pm_non)) pa_nil))))))) (cs_frz (i := 4) (cs_one (cs_set (i := 2) nd rfl (by first | exact Or.inl rfl | exact Or.inr rfl) (pm_add (PMo.pm (pmo_lst (pma_cons (pm_of (pv 4)) pma_nil))) (pm_of (pv 2))))))))) (cs_one (cs_ret (pm_of (pv 2))))))
theorem sc_fewest_rows : FnScope N_fewest_rows ps_fewest_rows (defScope HeadT.s_fewest_rows) := ⟨rfl, rfl, rfl, by decide +kernel, rfl, by decide +kernel, by decide +kernel⟩
theorem b_told_list {P : Program} {w : World} {K : PySem.W.Frag} {mg : Str → Option Value} {base : Heap} (h_fewest_rows : FnX P w K mg base "fewest_rows" (defArgs HeadT.s_fewest_rows) 1 ps_fewest_rows F_fewest_rows) (m_enumerate : mg "enumerate" = none) (m_range : mg "range" = none) : BodyOk P w K mg base 1 "told_list" (defBody HeadT.s_told_list) (defScope HeadT.s_told_list) N_told_list c_told_list := by
  intro f cdv A outer s H E En hr hgd
  have nd : N_told_list.Nodup := by decide +kernel
  have tk : Takes (cxOf (L2.CX P w) P w K mg base N_told_list "told_list" (defScope HeadT.s_told_list) f cdv A outer s H E) (EX E) := takes_of rfl rfl rfl rfl
  have hp : PassesOwn (model P w) (cxOf (L2.CX P w) P w K mg base N_told_list "told_list" (defScope HeadT.s_told_list) f cdv A outer s H E).A (cxOf (L2.CX P w) P w K mg base N_told_list "told_list" (defScope HeadT.s_told_list) f cdv A outer s H E).env (cxOf (L2.CX P w) P w K mg base N_told_list "told_list" (defScope HeadT.s_told_list) f cdv A outer s H E).xe := passes_of rfl
  delta c_told_list
  try delta b_told_list_2
  try delta m_told_list_1
  exact (cs_cons (cs_set (i := 2) nd rfl (by first | exact Or.inl rfl | exact Or.inr rfl) (pm_fn1 h_fewest_rows (hr.mono (by decide)) hgd tk (fun _ _ _ _ _ _ _ _ us ws h1 h2 => match us, ws, h1, h2 with | [_, _], [], _, _ => rfl) (by rfl) (pma_cons (pm_of (pv 0)) (pma_cons (pm_of (pv 1)) pma_nil)))) (cs_cons (cs_if (pmt_isN (pm_ixd (pm_ixd (pm_of (pv 2)) pm_int) (pm_of (pv 1)))) (cs_one (cs_ret pm_non)) cs_nil) (cs_cons (cs_parT (is := [3, 4]) (n := 2) rfl (by decide) (ps_asg (pe_tup (PMu.pa (pmu_own (pmo_lst pma_nil) (pmu_val (pm_of (pv 1)) pmu_nil)))) (pg_tup rfl (pgs_cons (pg_name (i := 3) nd rfl (by first | exact Or.inl rfl | exact Or.inr rfl)) (pgs_cons (pg_name (i := 4) nd rfl (by first | exact Or.inl rfl | exact Or.inr rfl)) pgs_nil))))) (cs_cons (cs_for hp rfl (pmi_enum (by rfl) m_enumerate (pma_cons (pm_of (pv 0)) pma_nil)) (pg_tup rfl (pgs_cons (pg_name (i := 5) nd rfl (by first | exact Or.inl rfl | exact Or.inr rfl)) (pgs_cons (pg_name (i := 6) nd rfl (by first | exact Or.inl rfl | exact Or.inr rfl)) pgs_nil))) (tg_tup (tgs_cons tg_name (tgs_cons tg_name tgs_nil))) (cs_cons (cs_parT (is := [8, 9]) (n := 2) rfl (by decide) (ps_asg (pe_tup (PMu.pa (pmu_val (pm_ixd (pm_ixd (pm_of (pv 2)) (pm_of (pv 5))) (pm_of (pv 4))) (pmu_val (pm_ixd (pm_of (pv 2)) (pm_add (pm_of (pv 5)) pm_int)) pmu_nil)))) (pg_tup rfl (pgs_cons (pg_name (i := 8) nd rfl (by first | exact Or.inl rfl | exact Or.inr rfl)) (pgs_cons (pg_name (i := 9) nd rfl (by first | exact Or.inl rfl | exact Or.inr rfl)) pgs_nil))))) (cs_cons (cs_lcv (cs_setlc_gen (i := 7) (own := [("often", 10)]) rfl nd rfl rfl (sw_true rfl rfl rfl (by decide +kernel)) (pmi_range1 (by rfl) m_range (pma_cons (pm_add (pm_div (pm_of (pv 4)) (pm_of (pv 6))) pm_int) pma_nil)) (blkOk_by (by kernel_rfl)) (fun _ _ _ _ _ => (pg_name (i := 10) nd rfl (by first | exact Or.inl rfl | exact Or.inr rfl))) gok_name (fun _ _ _ _ _ => (pmts_one (pmt_eq (un_of hr) (pm_ixd (pm_of (pv 9)) (pm_sub (pm_of (pv 4)) (pm_mul (pm_of (pv 10)) (pm_of (pv 6))))) (pm_sub (pm_of (pv 8)) (pm_of (pv 10)))))) (fun _ _ _ _ _ => (pm_of (pv 10))))) (cs_cons (cs_append (pe_bm PySem.F.plainAttrs_list PySem.F.slot_list_append PySem.F.type_list_append mt_append (pv 3) (pa_cons (PM.pe (pm_ixd (pm_of (pv 7)) pm_int)) pa_nil))) (cs_one (cs_set (i := 4) nd rfl (by first | exact Or.inl rfl | exact Or.inr rfl) (pm_sub (pm_of (pv 4)) (pm_mul (pm_ixd (pm_of (pv 7)) pm_int) (pm_of (pv 6)))))))))) (cs_one (cs_retown (pv 3)))))))
theorem sc_told_list : FnScope N_told_list ps_told_list (defScope HeadT.s_told_list) := ⟨rfl, rfl, rfl, by decide +kernel, rfl, by decide +kernel, by decide +kernel⟩
theorem b_is_low_list_of {P : Program} {w : World} {K : PySem.W.Frag} {mg : Str → Option Value} {base : Heap} (h_is_integer : FnX P w K mg base "is_integer" (defArgs HeadT.s_is_integer) 1 ps_is_integer F_is_integer) (h_is_list : FnX P w K mg base "is_list" (defArgs HeadT.s_is_list) 1 ps_is_list F_is_list) (m_all : mg "all" = none) (m_enumerate : mg "enumerate" = none) (m_int : mg "int" = none) (m_len : mg "len" = none) : BodyOk P w K mg base 1 "is_low_list_of" (defBody HeadT.s_is_low_list_of) (defScope HeadT.s_is_low_list_of) N_is_low_list_of c_is_low_list_of := by
  intro f cdv A outer s H E En hr hgd
  have nd : N_is_low_list_of.Nodup := by decide +kernel
  have tk : Takes (cxOf (L2.CX P w) P w K mg base N_is_low_list_of "is_low_list_of" (defScope HeadT.s_is_low_list_of) f cdv A outer s H E) (EX E) := takes_of rfl rfl rfl rfl
  have hp : PassesOwn (model P w) (cxOf (L2.CX P w) P w K mg base N_is_low_list_of "is_low_list_of" (defScope HeadT.s_is_low_list_of) f cdv A outer s H E).A (cxOf (L2.CX P w) P w K mg base N_is_low_list_of "is_low_list_of" (defScope HeadT.s_is_low_list_of) f cdv A outer s H E).env (cxOf (L2.CX P w) P w K mg base N_is_low_list_of "is_low_list_of" (defScope HeadT.s_is_low_list_of) f cdv A outer s H E).xe := passes_of rfl
  delta c_is_low_list_of
  try delta b_is_low_list_of_3
  try delta b_is_low_list_of_2
  try delta m_is_low_list_of_1
  exact (cs_cons (cs_set (i := 2) nd rfl (by first | exact Or.inl rfl | exact Or.inr rfl) (pm_ixd (pm_of (pv 0)) pm_int)) (cs_cons (cs_if (PMw.pt (pmw_or (pmt_not (pmt_val (pm_fn1 h_is_list (hr.mono (by decide)) hgd tk (fun _ _ _ _ _ _ _ _ us ws h1 h2 => match us, ws, h1, h2 with | [_], [], _, _ => rfl) (by rfl) (pma_cons (pm_of (pv 1)) pma_nil)))) (pmw_or (pmt_ne (un_of hr) (b_len m_len (pma_cons (pm_of (pv 1)) pma_nil)) (pm_of (pv 2))) (pmw_or1 (pmt_not (pmt_val (b_all rfl m_all (pma_cons (PMo.pm (pmo_lc (own := [("one", 4)]) rfl nd (pmi_seq (pm_of (pv 1))) (blkOk_by (by kernel_rfl)) (fun _ _ _ _ _ => (pg_name (i := 4) nd rfl (by first | exact Or.inl rfl | exact Or.inr rfl))) gok_name (fun _ _ _ _ _ => pmts_nil) (fun _ _ _ _ _ => (pm_or (pm_isN (pm_of (pv 4))) (pm_one (pm_fn1 h_is_integer (hr.mono (by decide)) hgd takes_w0 (fun _ _ _ _ _ _ _ _ us ws h1 h2 => match us, ws, h1, h2 with | [_], [], _, _ => rfl) (by rfl) (pma_cons (pm_of (pv 4)) pma_nil))))))) pma_nil)))))))) (cs_one (cs_ret pm_bl)) cs_nil) (cs_cons (cs_if (PMw.pt (pmw_or (pmt_isN (pm_ixd (pm_of (pv 1)) pm_int)) (pmw_or1 (pmt_gt (pm_ixd (pm_of (pv 1)) pm_int) pm_int)))) (cs_one (cs_ret pm_bl)) cs_nil) (cs_cons (cs_for hp rfl (pmi_enumS (by rfl) m_enumerate (pma_cons (pm_of (pv 1)) pma_nil)) (pg_tup rfl (pgs_cons (pg_name (i := 3) nd rfl (by first | exact Or.inl rfl | exact Or.inr rfl)) (pgs_cons (pg_name (i := 4) nd rfl (by first | exact Or.inl rfl | exact Or.inr rfl)) pgs_nil))) (tg_tup (tgs_cons tg_name (tgs_cons tg_name tgs_nil))) (cs_one (cs_for hp rfl (pmi_seq (pm_if (pmt_notN (pm_of (pv 4))) (pm_of (pv 0)) (PMo.pm (pmo_lst pma_nil)))) (pg_name (i := 5) nd rfl (by first | exact Or.inl rfl | exact Or.inr rfl)) tg_name (cs_cons (cs_set (i := 6) nd rfl (by first | exact Or.inl rfl | exact Or.inr rfl) (pm_ixd (pm_of (pv 1)) (pm_mod (b_int m_int (pma_cons (pm_add (pm_of (pv 3)) (pm_of (pv 5))) pma_nil)) (pm_of (pv 2))))) (cs_one (cs_if (PMw.pt (pmw_or (pmt_isN (pm_of (pv 6))) (pmw_or1 (pmt_gt (pm_of (pv 6)) (pm_add (pm_of (pv 4)) (pm_of (pv 5))))))) (cs_one (cs_ret pm_bl)) cs_nil)))))) (cs_one (cs_ret pm_bl))))))
theorem sc_is_low_list_of : FnScope N_is_low_list_of ps_is_low_list_of (defScope HeadT.s_is_low_list_of) := ⟨rfl, rfl, rfl, by decide +kernel, rfl, by decide +kernel, by decide +kernel⟩
theorem b_does_bar {P : Program} {w : World} {K : PySem.W.Frag} {mg : Str → Option Value} {base : Heap} (m_int : mg "int" = none) : BodyOk P w K mg base 0 "does_bar" (defBody HeadT.s_does_bar) (defScope HeadT.s_does_bar) N_does_bar c_does_bar := by
  intro f cdv A outer s H E En hr hgd
  have nd : N_does_bar.Nodup := by decide +kernel
  have tk : Takes (cxOf (L2.CX P w) P w K mg base N_does_bar "does_bar" (defScope HeadT.s_does_bar) f cdv A outer s H E) (EX E) := takes_of rfl rfl rfl rfl
  have hp : PassesOwn (model P w) (cxOf (L2.CX P w) P w K mg base N_does_bar "does_bar" (defScope HeadT.s_does_bar) f cdv A outer s H E).A (cxOf (L2.CX P w) P w K mg base N_does_bar "does_bar" (defScope HeadT.s_does_bar) f cdv A outer s H E).env (cxOf (L2.CX P w) P w K mg base N_does_bar "does_bar" (defScope HeadT.s_does_bar) f cdv A outer s H E).xe := passes_of rfl
  delta c_does_bar
  exact (cs_cons (cs_set (i := 3) nd rfl (by first | exact Or.inl rfl | exact Or.inr rfl) (pm_ixd (pm_of (pv 2)) (pm_mod (b_int m_int (pma_cons (pm_of (pv 1)) pma_nil)) (pm_ixd (pm_of (pv 0)) pm_int)))) (cs_one (cs_ret (pm_or (pm_isN (pm_of (pv 3))) (pm_one (pm_gt (pm_of (pv 3)) (pm_of (pv 1))))))))
theorem sc_does_bar : FnScope N_does_bar ps_does_bar (defScope HeadT.s_does_bar) := ⟨rfl, rfl, rfl, by decide +kernel, rfl, by decide +kernel, by decide +kernel⟩
theorem b_are_coins {P : Program} {w : World} {K : PySem.W.Frag} {mg : Str → Option Value} {base : Heap} (h_are_coins_of : FnX P w K mg base "are_coins_of" (defArgs HeadT.s_are_coins_of) 3 ps_are_coins_of F_are_coins_of) : BodyOk P w K mg base 3 "are_coins" (defBody HeadT.s_are_coins) (defScope HeadT.s_are_coins) N_are_coins c_are_coins := by
  intro f cdv A outer s H E En hr hgd
  have nd : N_are_coins.Nodup := by decide +kernel
  have tk : Takes (cxOf (L2.CX P w) P w K mg base N_are_coins "are_coins" (defScope HeadT.s_are_coins) f cdv A outer s H E) (EX E) := takes_of rfl rfl rfl rfl
  have hp : PassesOwn (model P w) (cxOf (L2.CX P w) P w K mg base N_are_coins "are_coins" (defScope HeadT.s_are_coins) f cdv A outer s H E).A (cxOf (L2.CX P w) P w K mg base N_are_coins "are_coins" (defScope HeadT.s_are_coins) f cdv A outer s H E).env (cxOf (L2.CX P w) P w K mg base N_are_coins "are_coins" (defScope HeadT.s_are_coins) f cdv A outer s H E).xe := passes_of rfl
  delta c_are_coins
  exact (cs_one (cs_ret (pm_fn1 h_are_coins_of (hr.mono (by decide)) hgd tk (fun _ _ _ _ _ _ _ _ us ws h1 h2 => match us, ws, h1, h2 with | [_], [], _, _ => rfl) (by rfl) (pma_cons (pm_of (pv 0)) pma_nil))))
theorem sc_are_coins : FnScope N_are_coins ps_are_coins (defScope HeadT.s_are_coins) := ⟨rfl, rfl, rfl, by decide +kernel, rfl, by decide +kernel, by decide +kernel⟩
theorem b_coin_list {P : Program} {w : World} {K : PySem.W.Frag} {mg : Str → Option Value} {base : Heap} (m_MOST_NUMBER : ∃ t, mg "MOST_NUMBER" = some (.int 9999 t)) (h_check_both : FnX P w K mg base "check_both" (defArgs HeadT.s_check_both) 5 ps_check_both F_check_both) (h_told_list : FnX P w K mg base "told_list" (defArgs HeadT.s_told_list) 2 ps_told_list F_told_list) : BodyOk P w K mg base 5 "coin_list" (defBody HeadT.s_coin_list) (defScope HeadT.s_coin_list) N_coin_list c_coin_list := by
  intro f cdv A outer s H E En hr hgd
  have nd : N_coin_list.Nodup := by decide +kernel
  have tk : Takes (cxOf (L2.CX P w) P w K mg base N_coin_list "coin_list" (defScope HeadT.s_coin_list) f cdv A outer s H E) (EX E) := takes_of rfl rfl rfl rfl
  have hp : PassesOwn (model P w) (cxOf (L2.CX P w) P w K mg base N_coin_list "coin_list" (defScope HeadT.s_coin_list) f cdv A outer s H E).A (cxOf (L2.CX P w) P w K mg base N_coin_list "coin_list" (defScope HeadT.s_coin_list) f cdv A outer s H E).env (cxOf (L2.CX P w) P w K mg base N_coin_list "coin_list" (defScope HeadT.s_coin_list) f cdv A outer s H E).xe := passes_of rfl
  delta c_coin_list
  exact (cs_cons (cs_expr (pm_fn1 h_check_both (hr.mono (by decide)) hgd tk (fun _ _ _ _ _ _ _ _ us ws h1 h2 => match us, ws, h1, h2 with | [_, _, _], [], _, _ => rfl) (by rfl) (pma_cons (pm_of (pv 0)) (pma_cons (pm_of (pv 1)) (pma_cons (pm_gint (by rfl) m_MOST_NUMBER) pma_nil))))) (cs_one (cs_ret (pm_fn1 h_told_list (hr.mono (by decide)) hgd tk (fun _ _ _ _ _ _ _ _ us ws h1 h2 => match us, ws, h1, h2 with | [_, _], [], _, _ => rfl) (by rfl) (pma_cons (pm_of (pv 0)) (pma_cons (pm_of (pv 1)) pma_nil))))))
theorem sc_coin_list : FnScope N_coin_list ps_coin_list (defScope HeadT.s_coin_list) := ⟨rfl, rfl, rfl, by decide +kernel, rfl, by decide +kernel, by decide +kernel⟩
theorem b_is_coin_list {P : Program} {w : World} {K : PySem.W.Frag} {mg : Str → Option Value} {base : Heap} (m_MOST_NUMBER : ∃ t, mg "MOST_NUMBER" = some (.int 9999 t)) (h_check_both : FnX P w K mg base "check_both" (defArgs HeadT.s_check_both) 5 ps_check_both F_check_both) (h_is_count : FnX P w K mg base "is_count" (defArgs HeadT.s_is_count) 2 ps_is_count F_is_count) (h_is_list : FnX P w K mg base "is_list" (defArgs HeadT.s_is_list) 1 ps_is_list F_is_list) (m_all : mg "all" = none) (m_len : mg "len" = none) (m_sum : mg "sum" = none) (m_zip : mg "zip" = none) : BodyOk P w K mg base 5 "is_coin_list" (defBody HeadT.s_is_coin_list) (defScope HeadT.s_is_coin_list) N_is_coin_list c_is_coin_list := by
  intro f cdv A outer s H E En hr hgd
  have nd : N_is_coin_list.Nodup := by decide +kernel
  have tk : Takes (cxOf (L2.CX P w) P w K mg base N_is_coin_list "is_coin_list" (defScope HeadT.s_is_coin_list) f cdv A outer s H E) (EX E) := takes_of rfl rfl rfl rfl
  have hp : PassesOwn (model P w) (cxOf (L2.CX P w) P w K mg base N_is_coin_list "is_coin_list" (defScope HeadT.s_is_coin_list) f cdv A outer s H E).A (cxOf (L2.CX P w) P w K mg base N_is_coin_list "is_coin_list" (defScope HeadT.s_is_coin_list) f cdv A outer s H E).env (cxOf (L2.CX P w) P w K mg base N_is_coin_list "is_coin_list" (defScope HeadT.s_is_coin_list) f cdv A outer s H E).xe := passes_of rfl
  delta c_is_coin_list
  try delta m_is_coin_list_2
  try delta m_is_coin_list_1
  exact (cs_cons (cs_expr (pm_fn1 h_check_both (hr.mono (by decide)) hgd tk (fun _ _ _ _ _ _ _ _ us ws h1 h2 => match us, ws, h1, h2 with | [_, _, _], [], _, _ => rfl) (by rfl) (pma_cons (pm_of (pv 0)) (pma_cons (pm_of (pv 1)) (pma_cons (pm_gint (by rfl) m_MOST_NUMBER) pma_nil))))) (cs_cons (cs_if (PMw.pt (pmw_or (pmt_not (pmt_val (pm_fn1 h_is_list (hr.mono (by decide)) hgd tk (fun _ _ _ _ _ _ _ _ us ws h1 h2 => match us, ws, h1, h2 with | [_], [], _, _ => rfl) (by rfl) (pma_cons (pm_of (pv 2)) pma_nil)))) (pmw_or (pmt_ne (un_of hr) (b_len m_len (pma_cons (pm_of (pv 2)) pma_nil)) (b_len m_len (pma_cons (pm_of (pv 0)) pma_nil))) (pmw_or1 (pmt_not (pmt_val (b_all rfl m_all (pma_cons (PMo.pm (pmo_lc (own := [("one", 3)]) rfl nd (pmi_seq (pm_of (pv 2))) (blkOk_by (by kernel_rfl)) (fun _ _ _ _ _ => (pg_name (i := 3) nd rfl (by first | exact Or.inl rfl | exact Or.inr rfl))) gok_name (fun _ _ _ _ _ => pmts_nil) (fun _ _ _ _ _ => (pm_fn1 h_is_count (hr.mono (by decide)) hgd takes_w0 (fun _ _ _ _ _ _ _ _ us ws h1 h2 => match us, ws, h1, h2 with | [_], [], _, _ => rfl) (by rfl) (pma_cons (pm_of (pv 3)) pma_nil))))) pma_nil)))))))) (cs_one (cs_ret pm_bl)) cs_nil) (cs_one (cs_ret (pm_eq (un_of hr) (b_sum rfl m_sum (pma_cons (PMo.pm (pmo_lc (own := [("one", 3), ("coin", 4)]) rfl nd (pmi_zipS (by rfl) m_zip (pma_cons (pm_of (pv 2)) (pma_cons (pm_of (pv 0)) pma_nil))) (blkOk_by (by kernel_rfl)) (fun _ _ _ _ _ => (pg_tup rfl (pgs_cons (pg_name (i := 3) nd rfl (by first | exact Or.inl rfl | exact Or.inr rfl)) (pgs_cons (pg_name (i := 4) nd rfl (by first | exact Or.inl rfl | exact Or.inr rfl)) pgs_nil)))) (gok_tup (gsok_cons gok_name (gsok_cons gok_name gsok_nil)) (fs_len_cons (fs_len_cons fs_len_nil))) (fun _ _ _ _ _ => pmts_nil) (fun _ _ _ _ _ => (pm_mul (pm_of (pv 3)) (pm_of (pv 4)))))) pma_nil)) (pm_of (pv 1)))))))
theorem sc_is_coin_list : FnScope N_is_coin_list ps_is_coin_list (defScope HeadT.s_is_coin_list) := ⟨rfl, rfl, rfl, by decide +kernel, rfl, by decide +kernel, by decide +kernel⟩
theorem b_low_bar {P : Program} {w : World} {K : PySem.W.Frag} {mg : Str → Option Value} {base : Heap} (m_MOST_NUMBER : ∃ t, mg "MOST_NUMBER" = some (.int 9999 t)) (h_check_both : FnX P w K mg base "check_both" (defArgs HeadT.s_check_both) 5 ps_check_both F_check_both) (h_does_bar : FnX P w K mg base "does_bar" (defArgs HeadT.s_does_bar) 1 ps_does_bar F_does_bar) (h_leasts_of : FnX P w K mg base "leasts_of" (defArgs HeadT.s_leasts_of) 1 ps_leasts_of F_leasts_of) : BodyOk P w K mg base 5 "low_bar" (defBody HeadT.s_low_bar) (defScope HeadT.s_low_bar) N_low_bar c_low_bar := by
  intro f cdv A outer s H E En hr hgd
  have nd : N_low_bar.Nodup := by decide +kernel
  have tk : Takes (cxOf (L2.CX P w) P w K mg base N_low_bar "low_bar" (defScope HeadT.s_low_bar) f cdv A outer s H E) (EX E) := takes_of rfl rfl rfl rfl
  have hp : PassesOwn (model P w) (cxOf (L2.CX P w) P w K mg base N_low_bar "low_bar" (defScope HeadT.s_low_bar) f cdv A outer s H E).A (cxOf (L2.CX P w) P w K mg base N_low_bar "low_bar" (defScope HeadT.s_low_bar) f cdv A outer s H E).env (cxOf (L2.CX P w) P w K mg base N_low_bar "low_bar" (defScope HeadT.s_low_bar) f cdv A outer s H E).xe := passes_of rfl
  delta c_low_bar
  exact (cs_cons (cs_expr (pm_fn1 h_check_both (hr.mono (by decide)) hgd tk (fun _ _ _ _ _ _ _ _ us ws h1 h2 => match us, ws, h1, h2 with | [_, _, _], [], _, _ => rfl) (by rfl) (pma_cons (pm_of (pv 0)) (pma_cons (pm_of (pv 1)) (pma_cons (pm_gint (by rfl) m_MOST_NUMBER) pma_nil))))) (cs_cons (cs_set (i := 2) nd rfl (by first | exact Or.inl rfl | exact Or.inr rfl) (pm_fn1 h_leasts_of (hr.mono (by decide)) hgd tk (fun _ _ _ _ _ _ _ _ us ws h1 h2 => match us, ws, h1, h2 with | [_], [], _, _ => rfl) (by rfl) (pma_cons (pm_of (pv 0)) pma_nil))) (cs_one (cs_ret (pm_if (pmt_val (pm_fn1 h_does_bar (hr.mono (by decide)) hgd tk (fun _ _ _ _ _ _ _ _ us ws h1 h2 => match us, ws, h1, h2 with | [_, _, _], [], _, _ => rfl) (by rfl) (pma_cons (pm_of (pv 0)) (pma_cons (pm_of (pv 1)) (pma_cons (pm_of (pv 2)) pma_nil))))) (pm_of (pv 2)) pm_non)))))
theorem sc_low_bar : FnScope N_low_bar ps_low_bar (defScope HeadT.s_low_bar) := ⟨rfl, rfl, rfl, by decide +kernel, rfl, by decide +kernel, by decide +kernel⟩
theorem b_is_low_bar {P : Program} {w : World} {K : PySem.W.Frag} {mg : Str → Option Value} {base : Heap} (m_MOST_NUMBER : ∃ t, mg "MOST_NUMBER" = some (.int 9999 t)) (h_check_both : FnX P w K mg base "check_both" (defArgs HeadT.s_check_both) 5 ps_check_both F_check_both) (h_does_bar : FnX P w K mg base "does_bar" (defArgs HeadT.s_does_bar) 1 ps_does_bar F_does_bar) (h_is_low_list_of : FnX P w K mg base "is_low_list_of" (defArgs HeadT.s_is_low_list_of) 2 ps_is_low_list_of F_is_low_list_of) : BodyOk P w K mg base 5 "is_low_bar" (defBody HeadT.s_is_low_bar) (defScope HeadT.s_is_low_bar) N_is_low_bar c_is_low_bar := by
  intro f cdv A outer s H E En hr hgd
  have nd : N_is_low_bar.Nodup := by decide +kernel
  have tk : Takes (cxOf (L2.CX P w) P w K mg base N_is_low_bar "is_low_bar" (defScope HeadT.s_is_low_bar) f cdv A outer s H E) (EX E) := takes_of rfl rfl rfl rfl
  have hp : PassesOwn (model P w) (cxOf (L2.CX P w) P w K mg base N_is_low_bar "is_low_bar" (defScope HeadT.s_is_low_bar) f cdv A outer s H E).A (cxOf (L2.CX P w) P w K mg base N_is_low_bar "is_low_bar" (defScope HeadT.s_is_low_bar) f cdv A outer s H E).env (cxOf (L2.CX P w) P w K mg base N_is_low_bar "is_low_bar" (defScope HeadT.s_is_low_bar) f cdv A outer s H E).xe := passes_of rfl
  delta c_is_low_bar
  exact (cs_cons (cs_expr (pm_fn1 h_check_both (hr.mono (by decide)) hgd tk (fun _ _ _ _ _ _ _ _ us ws h1 h2 => match us, ws, h1, h2 with | [_, _, _], [], _, _ => rfl) (by rfl) (pma_cons (pm_of (pv 0)) (pma_cons (pm_of (pv 1)) (pma_cons (pm_gint (by rfl) m_MOST_NUMBER) pma_nil))))) (cs_one (cs_ret (pm_and (pm_fn1 h_is_low_list_of (hr.mono (by decide)) hgd tk (fun _ _ _ _ _ _ _ _ us ws h1 h2 => match us, ws, h1, h2 with | [_, _], [], _, _ => rfl) (by rfl) (pma_cons (pm_of (pv 0)) (pma_cons (pm_of (pv 2)) pma_nil))) (pm_one (pm_fn1 h_does_bar (hr.mono (by decide)) hgd tk (fun _ _ _ _ _ _ _ _ us ws h1 h2 => match us, ws, h1, h2 with | [_, _, _], [], _, _ => rfl) (by rfl) (pma_cons (pm_of (pv 0)) (pma_cons (pm_of (pv 1)) (pma_cons (pm_of (pv 2)) pma_nil)))))))))
theorem sc_is_low_bar : FnScope N_is_low_bar ps_is_low_bar (defScope HeadT.s_is_low_bar) := ⟨rfl, rfl, rfl, by decide +kernel, rfl, by decide +kernel, by decide +kernel⟩
theorem b_least_numbers {P : Program} {w : World} {K : PySem.W.Frag} {mg : Str → Option Value} {base : Heap} (h_check_coins : FnX P w K mg base "check_coins" (defArgs HeadT.s_check_coins) 4 ps_check_coins F_check_coins) (h_leasts_of : FnX P w K mg base "leasts_of" (defArgs HeadT.s_leasts_of) 1 ps_leasts_of F_leasts_of) : BodyOk P w K mg base 4 "least_numbers" (defBody HeadT.s_least_numbers) (defScope HeadT.s_least_numbers) N_least_numbers c_least_numbers := by
  intro f cdv A outer s H E En hr hgd
  have nd : N_least_numbers.Nodup := by decide +kernel
  have tk : Takes (cxOf (L2.CX P w) P w K mg base N_least_numbers "least_numbers" (defScope HeadT.s_least_numbers) f cdv A outer s H E) (EX E) := takes_of rfl rfl rfl rfl
  have hp : PassesOwn (model P w) (cxOf (L2.CX P w) P w K mg base N_least_numbers "least_numbers" (defScope HeadT.s_least_numbers) f cdv A outer s H E).A (cxOf (L2.CX P w) P w K mg base N_least_numbers "least_numbers" (defScope HeadT.s_least_numbers) f cdv A outer s H E).env (cxOf (L2.CX P w) P w K mg base N_least_numbers "least_numbers" (defScope HeadT.s_least_numbers) f cdv A outer s H E).xe := passes_of rfl
  delta c_least_numbers
  exact (cs_cons (cs_expr (pm_fn1 h_check_coins (hr.mono (by decide)) hgd tk (fun _ _ _ _ _ _ _ _ us ws h1 h2 => match us, ws, h1, h2 with | [_], [], _, _ => rfl) (by rfl) (pma_cons (pm_of (pv 0)) pma_nil))) (cs_one (cs_reto (pmo_fn1 h_leasts_of (hr.mono (by decide)) hgd tk (fun _ _ _ _ _ _ _ _ us ws h1 h2 => match us, ws, h1, h2 with | [_], [], _, _ => rfl) (by rfl) (pma_cons (pm_of (pv 0)) pma_nil)))))
theorem sc_least_numbers : FnScope N_least_numbers ps_least_numbers (defScope HeadT.s_least_numbers) := ⟨rfl, rfl, rfl, by decide +kernel, rfl, by decide +kernel, by decide +kernel⟩
theorem b__law_pot {P : Program} {w : World} {K : PySem.W.Frag} {mg : Str → Option Value} {base : Heap} (m_abs : mg "abs" = none) (m_int : mg "int" = none) (m_len : mg "len" = none) (m_max : mg "max" = none) : BodyOk P w K mg base 0 "_law_pot" (defBody HeadT.s__law_pot) (defScope HeadT.s__law_pot) N__law_pot c__law_pot := by
  intro f cdv A outer s H E En hr hgd
  have nd : N__law_pot.Nodup := by decide +kernel
  have tk : Takes (cxOf (L2.CX P w) P w K mg base N__law_pot "_law_pot" (defScope HeadT.s__law_pot) f cdv A outer s H E) (EX E) := takes_of rfl rfl rfl rfl
  have hp : PassesOwn (model P w) (cxOf (L2.CX P w) P w K mg base N__law_pot "_law_pot" (defScope HeadT.s__law_pot) f cdv A outer s H E).A (cxOf (L2.CX P w) P w K mg base N__law_pot "_law_pot" (defScope HeadT.s__law_pot) f cdv A outer s H E).env (cxOf (L2.CX P w) P w K mg base N__law_pot "_law_pot" (defScope HeadT.s__law_pot) f cdv A outer s H E).xe := passes_of rfl
  delta c__law_pot
  exact (cs_cons (cs_set (i := 2) nd rfl (by first | exact Or.inl rfl | exact Or.inr rfl) (pm_if (pmt_lt (pm_of (pv 1)) (b_len m_len (pma_cons (pm_of (pv 0)) pma_nil))) (b_abs m_abs (pma_cons (pm_ixd (pm_of (pv 0)) (pm_of (pv 1))) pma_nil)) (pm_add (pm_mul pm_int (pm_of (pv 1))) pm_int))) (cs_one (cs_retpot (pma_cons (b_max2 rfl m_max (pma_cons pm_int (pma_cons (pm_sub (pm_of (pv 2)) (pm_pow pm_int pm_int)) pma_nil))) (pma_cons (pm_add (pm_mod (b_int m_int (pma_cons (pm_add (pm_add (pm_mul (pm_mod (b_int m_int (pma_cons (pm_of (pv 2)) pma_nil)) pm_int) pm_int) (pm_mul pm_int (pm_of (pv 1)))) pm_int) pma_nil)) pm_int) pm_int) pma_nil)))))
theorem sc__law_pot : FnScope N__law_pot ps__law_pot (defScope HeadT.s__law_pot) := ⟨rfl, rfl, rfl, by decide +kernel, rfl, by decide +kernel, by decide +kernel⟩
theorem b__law_draw {P : Program} {w : World} {K : PySem.W.Frag} {mg : Str → Option Value} {base : Heap} (m_divmod : mg "divmod" = none) (m_int : mg "int" = none) : BodyOk P w K mg base 0 "_law_draw" (defBody HeadT.s__law_draw) (defScope HeadT.s__law_draw) N__law_draw c__law_draw := by
  intro f cdv A outer s H E En hr hgd
  have nd : N__law_draw.Nodup := by decide +kernel
  have tk : Takes (cxOf (L2.CX P w) P w K mg base N__law_draw "_law_draw" (defScope HeadT.s__law_draw) f cdv A outer s H E) (EX E) := takes_of rfl rfl rfl rfl
  have hp : PassesOwn (model P w) (cxOf (L2.CX P w) P w K mg base N__law_draw "_law_draw" (defScope HeadT.s__law_draw) f cdv A outer s H E).A (cxOf (L2.CX P w) P w K mg base N__law_draw "_law_draw" (defScope HeadT.s__law_draw) f cdv A outer s H E).env (cxOf (L2.CX P w) P w K mg base N__law_draw "_law_draw" (defScope HeadT.s__law_draw) f cdv A outer s H E).xe := passes_of rfl
  delta c__law_draw
  exact (cs_cons (cs_if (pmt_gt (pm_ix (pm_of (pv 0)) pm_int) pm_int) (cs_cons (cs_asgT (ps_asg (PM.pe (b_divmod m_divmod (pma_cons (pm_ix (pm_of (pv 0)) pm_int) (pma_cons (pm_of (pv 1)) pma_nil)))) (pg_tup rfl (pgs_cons (pg_sub (pv 0) (PM.pe pm_int) set_list) (pgs_cons (pg_name (i := 2) nd rfl (by first | exact Or.inl rfl | exact Or.inr rfl)) pgs_nil)))) (tg_tup (tgs_cons tg_sub (tgs_cons tg_name tgs_nil)))) (cs_one (cs_ret (pm_of (pv 2))))) cs_nil) (cs_cons (cs_asgT (ps_asg (PM.pe (pm_mod (b_int m_int (pma_cons (pm_add (pm_mul (pm_ix (pm_of (pv 0)) pm_int) pm_int) pm_int) pma_nil)) pm_int)) (pg_sub (pv 0) (PM.pe pm_int) set_list)) tg_sub) (cs_one (cs_ret (pm_mod (b_int m_int (pma_cons (pm_div (pm_mod (b_int m_int (pma_cons (pm_mul (pm_ix (pm_of (pv 0)) pm_int) (pm_ix (pm_of (pv 0)) pm_int)) pma_nil)) pm_int) pm_int) pma_nil)) (pm_of (pv 1)))))))
theorem sc__law_draw : FnScope N__law_draw ps__law_draw (defScope HeadT.s__law_draw) := ⟨rfl, rfl, rfl, by decide +kernel, rfl, by decide +kernel, by decide +kernel⟩
theorem b__law_pick {P : Program} {w : World} {K : PySem.W.Frag} {mg : Str → Option Value} {base : Heap} (h__law_draw : FnX P w K mg base "_law_draw" (defArgs HeadT.s__law_draw) 1 ps__law_draw F__law_draw) (m_len : mg "len" = none) : BodyOk P w K mg base 1 "_law_pick" (defBody HeadT.s__law_pick) (defScope HeadT.s__law_pick) N__law_pick c__law_pick := by
  intro f cdv A outer s H E En hr hgd
  have nd : N__law_pick.Nodup := by decide +kernel
  have tk : Takes (cxOf (L2.CX P w) P w K mg base N__law_pick "_law_pick" (defScope HeadT.s__law_pick) f cdv A outer s H E) (EX E) := takes_of rfl rfl rfl rfl
  have hp : PassesOwn (model P w) (cxOf (L2.CX P w) P w K mg base N__law_pick "_law_pick" (defScope HeadT.s__law_pick) f cdv A outer s H E).A (cxOf (L2.CX P w) P w K mg base N__law_pick "_law_pick" (defScope HeadT.s__law_pick) f cdv A outer s H E).env (cxOf (L2.CX P w) P w K mg base N__law_pick "_law_pick" (defScope HeadT.s__law_pick) f cdv A outer s H E).xe := passes_of rfl
  delta c__law_pick
  exact (cs_one (cs_ret (pm_ixd (pm_of (pv 1)) (pm_fn1 h__law_draw (hr.mono (by decide)) hgd tk (fun _ _ _ _ _ _ _ _ us ws h1 h2 => match us, ws, h1, h2 with | [_, _], [], _, _ => rfl) (by rfl) (pma_cons (pm_of (pv 0)) (pma_cons (b_len m_len (pma_cons (pm_of (pv 1)) pma_nil)) pma_nil))))))
theorem sc__law_pick : FnScope N__law_pick ps__law_pick (defScope HeadT.s__law_pick) := ⟨rfl, rfl, rfl, by decide +kernel, rfl, by decide +kernel, by decide +kernel⟩
theorem b__law_coins {P : Program} {w : World} {K : PySem.W.Frag} {mg : Str → Option Value} {base : Heap} (h__law_draw : FnX P w K mg base "_law_draw" (defArgs HeadT.s__law_draw) 1 ps__law_draw F__law_draw) (m_range : mg "range" = none) (m_sorted : mg "sorted" = none) : BodyOk P w K mg base 1 "_law_coins" (defBody HeadT.s__law_coins) (defScope HeadT.s__law_coins) N__law_coins c__law_coins := by
  intro f cdv A outer s H E En hr hgd
  have nd : N__law_coins.Nodup := by decide +kernel
  have tk : Takes (cxOf (L2.CX P w) P w K mg base N__law_coins "_law_coins" (defScope HeadT.s__law_coins) f cdv A outer s H E) (EX E) := takes_of rfl rfl rfl rfl
  have hp : PassesOwn (model P w) (cxOf (L2.CX P w) P w K mg base N__law_coins "_law_coins" (defScope HeadT.s__law_coins) f cdv A outer s H E).A (cxOf (L2.CX P w) P w K mg base N__law_coins "_law_coins" (defScope HeadT.s__law_coins) f cdv A outer s H E).env (cxOf (L2.CX P w) P w K mg base N__law_coins "_law_coins" (defScope HeadT.s__law_coins) f cdv A outer s H E).xe := passes_of rfl
  delta c__law_coins
  try delta b__law_coins_1
  exact (cs_cons (cs_seto (i := 3) nd rfl (by first | exact Or.inl rfl | exact Or.inr rfl) (pmo_lst pma_nil)) (cs_cons (cs_for hp rfl (pmi_range1 (by rfl) m_range (pma_cons (pm_add pm_int (pm_fn1 h__law_draw (hr.mono (by decide)) hgd tk (fun _ _ _ _ _ _ _ _ us ws h1 h2 => match us, ws, h1, h2 with | [_, _], [], _, _ => rfl) (by rfl) (pma_cons (pm_of (pv 0)) (pma_cons (pm_of (pv 1)) pma_nil)))) pma_nil)) (pg_name (i := 4) nd rfl (by first | exact Or.inl rfl | exact Or.inr rfl)) tg_name (cs_cons (cs_set (i := 5) nd rfl (by first | exact Or.inl rfl | exact Or.inr rfl) (pm_add pm_int (pm_fn1 h__law_draw (hr.mono (by decide)) hgd tk (fun _ _ _ _ _ _ _ _ us ws h1 h2 => match us, ws, h1, h2 with | [_, _], [], _, _ => rfl) (by rfl) (pma_cons (pm_of (pv 0)) (pma_cons (pm_of (pv 2)) pma_nil))))) (cs_one (cs_extend (pe_bm PySem.F.plainAttrs_list PySem.F.slot_list_extend PySem.F.type_list_extend mt_extend (pv 3) (pa_cons (PM.pe (pm_if (pmt_scal (pmt_notInX (un_of hr) (pm_of (pv 5)) (pm_of (pv 3)))) (PMo.pm (pmo_lst (pma_cons (pm_of (pv 5)) pma_nil))) (PMo.pm (pmo_lst pma_nil)))) pa_nil)))))) (cs_frz (i := 3) (cs_one (cs_reto (b_sorted m_sorted (pma_cons (pm_of (pv 3)) pma_nil)))))))
theorem sc__law_coins : FnScope N__law_coins ps__law_coins (defScope HeadT.s__law_coins) := ⟨rfl, rfl, rfl, by decide +kernel, rfl, by decide +kernel, by decide +kernel⟩
theorem b__law_is_count {P : Program} {w : World} {K : PySem.W.Frag} {mg : Str → Option Value} {base : Heap} (m_bool : mg "bool" = none) (m_int : mg "int" = none) (m_isinstance : mg "isinstance" = none) : BodyOk P w K mg base 0 "_law_is_count" (defBody HeadT.s__law_is_count) (defScope HeadT.s__law_is_count) N__law_is_count c__law_is_count := by
  intro f cdv A outer s H E En hr hgd
  have nd : N__law_is_count.Nodup := by decide +kernel
  have tk : Takes (cxOf (L2.CX P w) P w K mg base N__law_is_count "_law_is_count" (defScope HeadT.s__law_is_count) f cdv A outer s H E) (EX E) := takes_of rfl rfl rfl rfl
  have hp : PassesOwn (model P w) (cxOf (L2.CX P w) P w K mg base N__law_is_count "_law_is_count" (defScope HeadT.s__law_is_count) f cdv A outer s H E).A (cxOf (L2.CX P w) P w K mg base N__law_is_count "_law_is_count" (defScope HeadT.s__law_is_count) f cdv A outer s H E).env (cxOf (L2.CX P w) P w K mg base N__law_is_count "_law_is_count" (defScope HeadT.s__law_is_count) f cdv A outer s H E).xe := passes_of rfl
  delta c__law_is_count
  exact (cs_one (cs_ret (pm_and (pm_isi .int (by rfl) m_isinstance (pm_of (pv 0)) (by rfl) m_int ty_int) (pm_and (pm_not (pm_isi .bool (by rfl) m_isinstance (pm_of (pv 0)) (by rfl) m_bool ty_bool)) (pm_one (pm_ge (pm_of (pv 0)) pm_int))))))
theorem sc__law_is_count : FnScope N__law_is_count ps__law_is_count (defScope HeadT.s__law_is_count) := ⟨rfl, rfl, rfl, by decide +kernel, rfl, by decide +kernel, by decide +kernel⟩
theorem b__law_is_list {P : Program} {w : World} {K : PySem.W.Frag} {mg : Str → Option Value} {base : Heap} (h__law_is_count : FnX P w K mg base "_law_is_count" (defArgs HeadT.s__law_is_count) 1 ps__law_is_count F__law_is_count) (m_all : mg "all" = none) (m_isinstance : mg "isinstance" = none) (m_len : mg "len" = none) (m_list : mg "list" = none) (m_sum : mg "sum" = none) (m_tuple : mg "tuple" = none) (m_zip : mg "zip" = none) : BodyOk P w K mg base 1 "_law_is_list" (defBody HeadT.s__law_is_list) (defScope HeadT.s__law_is_list) N__law_is_list c__law_is_list := by
  intro f cdv A outer s H E En hr hgd
  have nd : N__law_is_list.Nodup := by decide +kernel
  have tk : Takes (cxOf (L2.CX P w) P w K mg base N__law_is_list "_law_is_list" (defScope HeadT.s__law_is_list) f cdv A outer s H E) (EX E) := takes_of rfl rfl rfl rfl
  have hp : PassesOwn (model P w) (cxOf (L2.CX P w) P w K mg base N__law_is_list "_law_is_list" (defScope HeadT.s__law_is_list) f cdv A outer s H E).A (cxOf (L2.CX P w) P w K mg base N__law_is_list "_law_is_list" (defScope HeadT.s__law_is_list) f cdv A outer s H E).env (cxOf (L2.CX P w) P w K mg base N__law_is_list "_law_is_list" (defScope HeadT.s__law_is_list) f cdv A outer s H E).xe := passes_of rfl
  delta c__law_is_list
  try delta m__law_is_list_2
  try delta m__law_is_list_1
  exact (cs_cons (cs_if (PMw.pt (pmw_or (pmt_not (pmt_val (pm_isi2 .list .tuple (by rfl) m_isinstance (pm_of (pv 2)) (by rfl) m_list ty_list (by rfl) m_tuple ty_tuple))) (pmw_or (pmt_ne (un_of hr) (b_len m_len (pma_cons (pm_of (pv 2)) pma_nil)) (b_len m_len (pma_cons (pm_of (pv 0)) pma_nil))) (pmw_or1 (pmt_not (pmt_val (b_all rfl m_all (pma_cons (PMo.pm (pmo_lc (own := [("one", 3)]) rfl nd (pmi_seq (pm_of (pv 2))) (blkOk_by (by kernel_rfl)) (fun _ _ _ _ _ => (pg_name (i := 3) nd rfl (by first | exact Or.inl rfl | exact Or.inr rfl))) gok_name (fun _ _ _ _ _ => pmts_nil) (fun _ _ _ _ _ => (pm_fn1 h__law_is_count (hr.mono (by decide)) hgd takes_w0 (fun _ _ _ _ _ _ _ _ us ws h1 h2 => match us, ws, h1, h2 with | [_], [], _, _ => rfl) (by rfl) (pma_cons (pm_of (pv 3)) pma_nil))))) pma_nil)))))))) (cs_one (cs_ret pm_bl)) cs_nil) (cs_one (cs_ret (pm_eq (un_of hr) (b_sum rfl m_sum (pma_cons (PMo.pm (pmo_lc (own := [("coin", 4), ("many", 5)]) rfl nd (pmi_zipS (by rfl) m_zip (pma_cons (pm_of (pv 0)) (pma_cons (pm_of (pv 2)) pma_nil))) (blkOk_by (by kernel_rfl)) (fun _ _ _ _ _ => (pg_tup rfl (pgs_cons (pg_name (i := 4) nd rfl (by first | exact Or.inl rfl | exact Or.inr rfl)) (pgs_cons (pg_name (i := 5) nd rfl (by first | exact Or.inl rfl | exact Or.inr rfl)) pgs_nil)))) (gok_tup (gsok_cons gok_name (gsok_cons gok_name gsok_nil)) (fs_len_cons (fs_len_cons fs_len_nil))) (fun _ _ _ _ _ => pmts_nil) (fun _ _ _ _ _ => (pm_mul (pm_of (pv 4)) (pm_of (pv 5)))))) pma_nil)) (pm_of (pv 1))))))
theorem sc__law_is_list : FnScope N__law_is_list ps__law_is_list (defScope HeadT.s__law_is_list) := ⟨rfl, rfl, rfl, by decide +kernel, rfl, by decide +kernel, by decide +kernel⟩
theorem b__law_is_low {P : Program} {w : World} {K : PySem.W.Frag} {mg : Str → Option Value} {base : Heap} (m_all : mg "all" = none) (m_bool : mg "bool" = none) (m_enumerate : mg "enumerate" = none) (m_int : mg "int" = none) (m_isinstance : mg "isinstance" = none) (m_len : mg "len" = none) (m_list : mg "list" = none) (m_tuple : mg "tuple" = none) : BodyOk P w K mg base 0 "_law_is_low" (defBody HeadT.s__law_is_low) (defScope HeadT.s__law_is_low) N__law_is_low c__law_is_low := by
  intro f cdv A outer s H E En hr hgd
  have nd : N__law_is_low.Nodup := by decide +kernel
  have tk : Takes (cxOf (L2.CX P w) P w K mg base N__law_is_low "_law_is_low" (defScope HeadT.s__law_is_low) f cdv A outer s H E) (EX E) := takes_of rfl rfl rfl rfl
  have hp : PassesOwn (model P w) (cxOf (L2.CX P w) P w K mg base N__law_is_low "_law_is_low" (defScope HeadT.s__law_is_low) f cdv A outer s H E).A (cxOf (L2.CX P w) P w K mg base N__law_is_low "_law_is_low" (defScope HeadT.s__law_is_low) f cdv A outer s H E).env (cxOf (L2.CX P w) P w K mg base N__law_is_low "_law_is_low" (defScope HeadT.s__law_is_low) f cdv A outer s H E).xe := passes_of rfl
  delta c__law_is_low
  try delta b__law_is_low_3
  try delta b__law_is_low_2
  try delta m__law_is_low_1
  exact (cs_cons (cs_if (PMw.pt (pmw_or (pmt_not (pmt_val (pm_isi2 .list .tuple (by rfl) m_isinstance (pm_of (pv 1)) (by rfl) m_list ty_list (by rfl) m_tuple ty_tuple))) (pmw_or1 (pmt_ne (un_of hr) (b_len m_len (pma_cons (pm_of (pv 1)) pma_nil)) (pm_ixd (pm_of (pv 0)) pm_int))))) (cs_one (cs_ret pm_bl)) cs_nil) (cs_cons (cs_if (PMw.pt (pmw_or (pmt_not (pmt_val (b_all rfl m_all (pma_cons (PMo.pm (pmo_lc (own := [("one", 3)]) rfl nd (pmi_seq (pm_of (pv 1))) (blkOk_by (by kernel_rfl)) (fun _ _ _ _ _ => (pg_name (i := 3) nd rfl (by first | exact Or.inl rfl | exact Or.inr rfl))) gok_name (fun _ _ _ _ _ => pmts_nil) (fun _ _ _ _ _ => (pm_or (pm_isN (pm_of (pv 3))) (pm_one (pm_and (pm_isi .int (by rfl) m_isinstance (pm_of (pv 3)) (by rfl) m_int ty_int) (pm_one (pm_not (pm_isi .bool (by rfl) m_isinstance (pm_of (pv 3)) (by rfl) m_bool ty_bool))))))))) pma_nil)))) (pmw_or (pmt_isN (pm_ixd (pm_of (pv 1)) pm_int)) (pmw_or1 (pmt_gt (pm_ixd (pm_of (pv 1)) pm_int) pm_int))))) (cs_one (cs_ret pm_bl)) cs_nil) (cs_cons (cs_for hp rfl (pmi_enumS (by rfl) m_enumerate (pma_cons (pm_of (pv 1)) pma_nil)) (pg_tup rfl (pgs_cons (pg_name (i := 2) nd rfl (by first | exact Or.inl rfl | exact Or.inr rfl)) (pgs_cons (pg_name (i := 3) nd rfl (by first | exact Or.inl rfl | exact Or.inr rfl)) pgs_nil))) (tg_tup (tgs_cons tg_name (tgs_cons tg_name tgs_nil))) (cs_one (cs_for hp rfl (pmi_seq (pm_of (pv 0))) (pg_name (i := 4) nd rfl (by first | exact Or.inl rfl | exact Or.inr rfl)) tg_name (cs_one (cs_if (pmt_notN (pm_of (pv 3))) (cs_cons (cs_set (i := 5) nd rfl (by first | exact Or.inl rfl | exact Or.inr rfl) (pm_ixd (pm_of (pv 1)) (pm_mod (b_int m_int (pma_cons (pm_add (pm_of (pv 2)) (pm_of (pv 4))) pma_nil)) (pm_ixd (pm_of (pv 0)) pm_int)))) (cs_one (cs_if (PMw.pt (pmw_or (pmt_isN (pm_of (pv 5))) (pmw_or1 (pmt_gt (pm_of (pv 5)) (pm_add (pm_of (pv 3)) (pm_of (pv 4))))))) (cs_one (cs_ret pm_bl)) cs_nil))) cs_nil))))) (cs_one (cs_ret pm_bl)))))
theorem sc__law_is_low : FnScope N__law_is_low ps__law_is_low (defScope HeadT.s__law_is_low) := ⟨rfl, rfl, rfl, by decide +kernel, rfl, by decide +kernel, by decide +kernel⟩
theorem b__law_is_bar {P : Program} {w : World} {K : PySem.W.Frag} {mg : Str → Option Value} {base : Heap} (h__law_is_low : FnX P w K mg base "_law_is_low" (defArgs HeadT.s__law_is_low) 1 ps__law_is_low F__law_is_low) (m_int : mg "int" = none) : BodyOk P w K mg base 1 "_law_is_bar" (defBody HeadT.s__law_is_bar) (defScope HeadT.s__law_is_bar) N__law_is_bar c__law_is_bar := by
  intro f cdv A outer s H E En hr hgd
  have nd : N__law_is_bar.Nodup := by decide +kernel
  have tk : Takes (cxOf (L2.CX P w) P w K mg base N__law_is_bar "_law_is_bar" (defScope HeadT.s__law_is_bar) f cdv A outer s H E) (EX E) := takes_of rfl rfl rfl rfl
  have hp : PassesOwn (model P w) (cxOf (L2.CX P w) P w K mg base N__law_is_bar "_law_is_bar" (defScope HeadT.s__law_is_bar) f cdv A outer s H E).A (cxOf (L2.CX P w) P w K mg base N__law_is_bar "_law_is_bar" (defScope HeadT.s__law_is_bar) f cdv A outer s H E).env (cxOf (L2.CX P w) P w K mg base N__law_is_bar "_law_is_bar" (defScope HeadT.s__law_is_bar) f cdv A outer s H E).xe := passes_of rfl
  delta c__law_is_bar
  exact (cs_cons (cs_if (pmt_not (pmt_val (pm_fn1 h__law_is_low (hr.mono (by decide)) hgd tk (fun _ _ _ _ _ _ _ _ us ws h1 h2 => match us, ws, h1, h2 with | [_, _], [], _, _ => rfl) (by rfl) (pma_cons (pm_of (pv 0)) (pma_cons (pm_of (pv 2)) pma_nil))))) (cs_one (cs_ret pm_bl)) cs_nil) (cs_cons (cs_set (i := 3) nd rfl (by first | exact Or.inl rfl | exact Or.inr rfl) (pm_ixd (pm_of (pv 2)) (pm_mod (b_int m_int (pma_cons (pm_of (pv 1)) pma_nil)) (pm_ixd (pm_of (pv 0)) pm_int)))) (cs_one (cs_ret (pm_or (pm_isN (pm_of (pv 3))) (pm_one (pm_gt (pm_of (pv 3)) (pm_of (pv 1)))))))))
theorem sc__law_is_bar : FnScope N__law_is_bar ps__law_is_bar (defScope HeadT.s__law_is_bar) := ⟨rfl, rfl, rfl, by decide +kernel, rfl, by decide +kernel, by decide +kernel⟩
theorem b__law_are_coins {P : Program} {w : World} {K : PySem.W.Frag} {mg : Str → Option Value} {base : Heap} (h__law_is_count : FnX P w K mg base "_law_is_count" (defArgs HeadT.s__law_is_count) 1 ps__law_is_count F__law_is_count) (m_all : mg "all" = none) (m_isinstance : mg "isinstance" = none) (m_len : mg "len" = none) (m_list : mg "list" = none) (m_tuple : mg "tuple" = none) (m_zip : mg "zip" = none) : BodyOk P w K mg base 1 "_law_are_coins" (defBody HeadT.s__law_are_coins) (defScope HeadT.s__law_are_coins) N__law_are_coins c__law_are_coins := by
  intro f cdv A outer s H E En hr hgd
  have nd : N__law_are_coins.Nodup := by decide +kernel
  have tk : Takes (cxOf (L2.CX P w) P w K mg base N__law_are_coins "_law_are_coins" (defScope HeadT.s__law_are_coins) f cdv A outer s H E) (EX E) := takes_of rfl rfl rfl rfl
  have hp : PassesOwn (model P w) (cxOf (L2.CX P w) P w K mg base N__law_are_coins "_law_are_coins" (defScope HeadT.s__law_are_coins) f cdv A outer s H E).A (cxOf (L2.CX P w) P w K mg base N__law_are_coins "_law_are_coins" (defScope HeadT.s__law_are_coins) f cdv A outer s H E).env (cxOf (L2.CX P w) P w K mg base N__law_are_coins "_law_are_coins" (defScope HeadT.s__law_are_coins) f cdv A outer s H E).xe := passes_of rfl
  delta c__law_are_coins
  try delta m__law_are_coins_2
  try delta m__law_are_coins_1
  exact (cs_cons (cs_if (PMw.pt (pmw_or (pmt_not (pmt_val (pm_isi2 .list .tuple (by rfl) m_isinstance (pm_of (pv 0)) (by rfl) m_list ty_list (by rfl) m_tuple ty_tuple))) (pmw_or (pmt_not (pmt_chain (f := iLe) (g := iLe) op_le op_le pm_int (b_len m_len (pma_cons (pm_of (pv 0)) pma_nil)) pm_int)) (pmw_or1 (pmt_not (pmt_val (b_all rfl m_all (pma_cons (PMo.pm (pmo_lc (own := [("one", 1)]) rfl nd (pmi_seq (pm_of (pv 0))) (blkOk_by (by kernel_rfl)) (fun _ _ _ _ _ => (pg_name (i := 1) nd rfl (by first | exact Or.inl rfl | exact Or.inr rfl))) gok_name (fun _ _ _ _ _ => pmts_nil) (fun _ _ _ _ _ => (pm_and (pm_fn1 h__law_is_count (hr.mono (by decide)) hgd takes_w0 (fun _ _ _ _ _ _ _ _ us ws h1 h2 => match us, ws, h1, h2 with | [_], [], _, _ => rfl) (by rfl) (pma_cons (pm_of (pv 1)) pma_nil)) (pm_one (pm_chain (f := iLe) (g := iLe) op_le op_le pm_int (pm_of (pv 1)) pm_int)))))) pma_nil)))))))) (cs_one (cs_ret pm_bl)) cs_nil) (cs_one (cs_ret (b_all rfl m_all (pma_cons (PMo.pm (pmo_lc (own := [("one", 1), ("late", 2)]) rfl nd (pmi_zipS (by rfl) m_zip (pma_cons (pm_of (pv 0)) (pma_cons (pm_sl (pm_of (pv 0)) (pmO_some pm_int) pmO_none) pma_nil))) (blkOk_by (by kernel_rfl)) (fun _ _ _ _ _ => (pg_tup rfl (pgs_cons (pg_name (i := 1) nd rfl (by first | exact Or.inl rfl | exact Or.inr rfl)) (pgs_cons (pg_name (i := 2) nd rfl (by first | exact Or.inl rfl | exact Or.inr rfl)) pgs_nil)))) (gok_tup (gsok_cons gok_name (gsok_cons gok_name gsok_nil)) (fs_len_cons (fs_len_cons fs_len_nil))) (fun _ _ _ _ _ => pmts_nil) (fun _ _ _ _ _ => (pm_lt (pm_of (pv 1)) (pm_of (pv 2)))))) pma_nil)))))
theorem sc__law_are_coins : FnScope N__law_are_coins ps__law_are_coins (defScope HeadT.s__law_are_coins) := ⟨rfl, rfl, rfl, by decide +kernel, rfl, by decide +kernel, by decide +kernel⟩
theorem b__law_bent_r1 {P : Program} {w : World} {K : PySem.W.Frag} {mg : Str → Option Value} {base : Heap} (h__law_bent_r0 : FnX P w K mg base "_law_bent" (defArgs HeadT.s__law_bent) 3 ps__law_bent F__law_bent_r0) (h__law_draw : FnX P w K mg base "_law_draw" (defArgs HeadT.s__law_draw) 1 ps__law_draw F__law_draw) (h__law_pick : FnX P w K mg base "_law_pick" (defArgs HeadT.s__law_pick) 2 ps__law_pick F__law_pick) (m_int : mg "int" = none) (m_isinstance : mg "isinstance" = none) (m_len : mg "len" = none) (m_list : mg "list" = none) (m_tuple : mg "tuple" = none) : BodyOk P w K mg base 3 "_law_bent" (defBody HeadT.s__law_bent) (defScope HeadT.s__law_bent) N__law_bent c__law_bent_r1 := by
  intro f cdv A outer s H E En hr hgd
  have nd : N__law_bent.Nodup := by decide +kernel
  have tk : Takes (cxOf (L2.CX P w) P w K mg base N__law_bent "_law_bent" (defScope HeadT.s__law_bent) f cdv A outer s H E) (EX E) := takes_of rfl rfl rfl rfl
  have hp : PassesOwn (model P w) (cxOf (L2.CX P w) P w K mg base N__law_bent "_law_bent" (defScope HeadT.s__law_bent) f cdv A outer s H E).A (cxOf (L2.CX P w) P w K mg base N__law_bent "_law_bent" (defScope HeadT.s__law_bent) f cdv A outer s H E).env (cxOf (L2.CX P w) P w K mg base N__law_bent "_law_bent" (defScope HeadT.s__law_bent) f cdv A outer s H E).xe := passes_of rfl
  delta c__law_bent_r1
  exact (cs_cons (cs_if (PMw.pt (pmw_or (pmt_not (pmt_val (pm_isi2 .list .tuple (by rfl) m_isinstance (pm_of (pv 1)) (by rfl) m_list ty_list (by rfl) m_tuple ty_tuple))) (pmw_or (pmt_eq (un_of hr) (b_len m_len (pma_cons (pm_of (pv 1)) pma_nil)) pm_int) (pmw_or1 (pmt_eq (un_of hr) (pm_fn1 h__law_draw (hr.mono (by decide)) hgd tk (fun _ _ _ _ _ _ _ _ us ws h1 h2 => match us, ws, h1, h2 with | [_, _], [], _, _ => rfl) (by rfl) (pma_cons (pm_of (pv 0)) (pma_cons pm_int pma_nil))) pm_int))))) (cs_one (cs_ret (pm_fn1 h__law_pick (hr.mono (by decide)) hgd tk (fun _ _ _ _ _ _ _ _ us ws h1 h2 => match us, ws, h1, h2 with | [_, _], [], _, _ => rfl) (by rfl) (pma_cons (pm_of (pv 0)) (pma_cons (PMo.pm (pmo_lst (pma_cons pm_non (pma_cons pm_int (pma_cons pm_int (pma_cons (pm_neg pm_int) (pma_cons pm_int (pma_cons pm_int (pma_cons pm_int (pma_cons pm_int (pma_cons pm_bl (pma_cons pm_str (pma_cons (pm_tup (pma_cons pm_int (pma_cons pm_int pma_nil))) (pma_cons (PMo.pm (pmo_lst pma_nil)) (pma_cons (pm_tup pma_nil) (pma_cons (pm_pow pm_int pm_int) (pma_cons (pm_neg (pm_pow pm_int pm_int)) pma_nil))))))))))))))))) pma_nil))))) cs_nil) (cs_cons (cs_par (ps_par (i := 3) (j := 4) rfl nd rfl rfl (by decide) rfl rfl (PMu.pa (pmu_val (pm_fn1 h__law_draw (hr.mono (by decide)) hgd tk (fun _ _ _ _ _ _ _ _ us ws h1 h2 => match us, ws, h1, h2 with | [_, _], [], _, _ => rfl) (by rfl) (pma_cons (pm_of (pv 0)) (pma_cons (b_len m_len (pma_cons (pm_of (pv 1)) pma_nil)) pma_nil))) (pmu_val (pm_fn1 h__law_draw (hr.mono (by decide)) hgd tk (fun _ _ _ _ _ _ _ _ us ws h1 h2 => match us, ws, h1, h2 with | [_, _], [], _, _ => rfl) (by rfl) (pma_cons (pm_of (pv 0)) (pma_cons pm_int pma_nil))) pmu_nil))) rfl)) (cs_cons (cs_if (pmt_eq (un_of hr) (pm_of (pv 4)) pm_int) (cs_one (cs_ret (pm_add (pm_sl (pm_of (pv 1)) pmO_none (pmO_some (pm_of (pv 3)))) (pm_sl (pm_of (pv 1)) (pmO_some (pm_add (pm_of (pv 3)) pm_int)) pmO_none)))) cs_nil) (cs_cons (cs_if (pmt_eq (un_of hr) (pm_of (pv 4)) pm_int) (cs_one (cs_ret (pm_add (pm_of (pv 1)) (pm_sl (pm_of (pv 1)) (pmO_some (pm_of (pv 3))) (pmO_some (pm_add (pm_of (pv 3)) pm_int)))))) cs_nil) (cs_cons (cs_if (pmt_eq (un_of hr) (pm_of (pv 4)) pm_int) (cs_one (cs_ret (pm_revD (pm_of (pv 1))))) cs_nil) (cs_cons (cs_if (pmt_eq (un_of hr) (pm_of (pv 4)) pm_int) (cs_one (cs_ret (pm_if (pmt_val (pm_isi .list (by rfl) m_isinstance (pm_of (pv 1)) (by rfl) m_list ty_list)) (b_tuple m_tuple (pma_cons (pm_of (pv 1)) pma_nil)) (PMo.pm (b_list m_list (pma_cons (pm_of (pv 1)) pma_nil)))))) cs_nil) (cs_cons (cs_set (i := 2) nd rfl (by first | exact Or.inl rfl | exact Or.inr rfl) (pm_fn1 h__law_bent_r0 (hr.mono (by decide)) hgd tk (fun _ _ _ _ _ _ _ _ us ws h1 h2 => match us, ws, h1, h2 with | [_, _], [], _, _ => rfl) (by rfl) (pma_cons (pm_of (pv 0)) (pma_cons (pm_ixd (pm_of (pv 1)) (pm_of (pv 3))) pma_nil)))) (cs_cons (cs_if (PMw.pt (pmw_and (pmt_gt (pm_of (pv 4)) pm_int) (pmw_and1 (pmt_val (pm_isi .int (by rfl) m_isinstance (pm_ixd (pm_of (pv 1)) (pm_of (pv 3))) (by rfl) m_int ty_int))))) (cs_one (cs_set (i := 2) nd rfl (by first | exact Or.inl rfl | exact Or.inr rfl) (pm_add (pm_ixd (pm_of (pv 1)) (pm_of (pv 3))) (pm_fn1 h__law_pick (hr.mono (by decide)) hgd tk (fun _ _ _ _ _ _ _ _ us ws h1 h2 => match us, ws, h1, h2 with | [_, _], [], _, _ => rfl) (by rfl) (pma_cons (pm_of (pv 0)) (pma_cons (PMo.pm (pmo_lst (pma_cons pm_int (pma_cons (pm_neg pm_int) (pma_cons pm_int (pma_cons (pm_neg pm_int) (pma_cons pm_int (pma_cons pm_int pma_nil)))))))) pma_nil)))))) cs_nil) (cs_one (cs_ret (pm_add (pm_add (pm_sl (pm_of (pv 1)) pmO_none (pmO_some (pm_of (pv 3)))) (pm_if (pmt_val (pm_isi .list (by rfl) m_isinstance (pm_of (pv 1)) (by rfl) m_list ty_list)) (PMo.pm (pmo_lst (pma_cons (pm_of (pv 2)) pma_nil))) (pm_tup (pma_cons (pm_of (pv 2)) pma_nil)))) (pm_sl (pm_of (pv 1)) (pmO_some (pm_add (pm_of (pv 3)) pm_int)) pmO_none))))))))))))
theorem sc__law_bent : FnScope N__law_bent ps__law_bent (defScope HeadT.s__law_bent) := ⟨rfl, rfl, rfl, by decide +kernel, rfl, by decide +kernel, by decide +kernel⟩
theorem b__law_bent {P : Program} {w : World} {K : PySem.W.Frag} {mg : Str → Option Value} {base : Heap} (h__law_bent_r1 : FnX P w K mg base "_law_bent" (defArgs HeadT.s__law_bent) 4 ps__law_bent F__law_bent_r1) (h__law_draw : FnX P w K mg base "_law_draw" (defArgs HeadT.s__law_draw) 1 ps__law_draw F__law_draw) (h__law_pick : FnX P w K mg base "_law_pick" (defArgs HeadT.s__law_pick) 2 ps__law_pick F__law_pick) (m_int : mg "int" = none) (m_isinstance : mg "isinstance" = none) (m_len : mg "len" = none) (m_list : mg "list" = none) (m_tuple : mg "tuple" = none) : BodyOk P w K mg base 4 "_law_bent" (defBody HeadT.s__law_bent) (defScope HeadT.s__law_bent) N__law_bent c__law_bent := by
  intro f cdv A outer s H E En hr hgd
  have nd : N__law_bent.Nodup := by decide +kernel
  have tk : Takes (cxOf (L2.CX P w) P w K mg base N__law_bent "_law_bent" (defScope HeadT.s__law_bent) f cdv A outer s H E) (EX E) := takes_of rfl rfl rfl rfl
  have hp : PassesOwn (model P w) (cxOf (L2.CX P w) P w K mg base N__law_bent "_law_bent" (defScope HeadT.s__law_bent) f cdv A outer s H E).A (cxOf (L2.CX P w) P w K mg base N__law_bent "_law_bent" (defScope HeadT.s__law_bent) f cdv A outer s H E).env (cxOf (L2.CX P w) P w K mg base N__law_bent "_law_bent" (defScope HeadT.s__law_bent) f cdv A outer s H E).xe := passes_of rfl
  delta c__law_bent
  exact (cs_cons (cs_if (PMw.pt (pmw_or (pmt_not (pmt_val (pm_isi2 .list .tuple (by rfl) m_isinstance (pm_of (pv 1)) (by rfl) m_list ty_list (by rfl) m_tuple ty_tuple))) (pmw_or (pmt_eq (un_of hr) (b_len m_len (pma_cons (pm_of (pv 1)) pma_nil)) pm_int) (pmw_or1 (pmt_eq (un_of hr) (pm_fn1 h__law_draw (hr.mono (by decide)) hgd tk (fun _ _ _ _ _ _ _ _ us ws h1 h2 => match us, ws, h1, h2 with | [_, _], [], _, _ => rfl) (by rfl) (pma_cons (pm_of (pv 0)) (pma_cons pm_int pma_nil))) pm_int))))) (cs_one (cs_ret (pm_fn1 h__law_pick (hr.mono (by decide)) hgd tk (fun _ _ _ _ _ _ _ _ us ws h1 h2 => match us, ws, h1, h2 with | [_, _], [], _, _ => rfl) (by rfl) (pma_cons (pm_of (pv 0)) (pma_cons (PMo.pm (pmo_lst (pma_cons pm_non (pma_cons pm_int (pma_cons pm_int (pma_cons (pm_neg pm_int) (pma_cons pm_int (pma_cons pm_int (pma_cons pm_int (pma_cons pm_int (pma_cons pm_bl (pma_cons pm_str (pma_cons (pm_tup (pma_cons pm_int (pma_cons pm_int pma_nil))) (pma_cons (PMo.pm (pmo_lst pma_nil)) (pma_cons (pm_tup pma_nil) (pma_cons (pm_pow pm_int pm_int) (pma_cons (pm_neg (pm_pow pm_int pm_int)) pma_nil))))))))))))))))) pma_nil))))) cs_nil) (cs_cons (cs_par (ps_par (i := 3) (j := 4) rfl nd rfl rfl (by decide) rfl rfl (PMu.pa (pmu_val (pm_fn1 h__law_draw (hr.mono (by decide)) hgd tk (fun _ _ _ _ _ _ _ _ us ws h1 h2 => match us, ws, h1, h2 with | [_, _], [], _, _ => rfl) (by rfl) (pma_cons (pm_of (pv 0)) (pma_cons (b_len m_len (pma_cons (pm_of (pv 1)) pma_nil)) pma_nil))) (pmu_val (pm_fn1 h__law_draw (hr.mono (by decide)) hgd tk (fun _ _ _ _ _ _ _ _ us ws h1 h2 => match us, ws, h1, h2 with | [_, _], [], _, _ => rfl) (by rfl) (pma_cons (pm_of (pv 0)) (pma_cons pm_int pma_nil))) pmu_nil))) rfl)) (cs_cons (cs_if (pmt_eq (un_of hr) (pm_of (pv 4)) pm_int) (cs_one (cs_ret (pm_add (pm_sl (pm_of (pv 1)) pmO_none (pmO_some (pm_of (pv 3)))) (pm_sl (pm_of (pv 1)) (pmO_some (pm_add (pm_of (pv 3)) pm_int)) pmO_none)))) cs_nil) (cs_cons (cs_if (pmt_eq (un_of hr) (pm_of (pv 4)) pm_int) (cs_one (cs_ret (pm_add (pm_of (pv 1)) (pm_sl (pm_of (pv 1)) (pmO_some (pm_of (pv 3))) (pmO_some (pm_add (pm_of (pv 3)) pm_int)))))) cs_nil) (cs_cons (cs_if (pmt_eq (un_of hr) (pm_of (pv 4)) pm_int) (cs_one (cs_ret (pm_revD (pm_of (pv 1))))) cs_nil) (cs_cons (cs_if (pmt_eq (un_of hr) (pm_of (pv 4)) pm_int) (cs_one (cs_ret (pm_if (pmt_val (pm_isi .list (by rfl) m_isinstance (pm_of (pv 1)) (by rfl) m_list ty_list)) (b_tuple m_tuple (pma_cons (pm_of (pv 1)) pma_nil)) (PMo.pm (b_list m_list (pma_cons (pm_of (pv 1)) pma_nil)))))) cs_nil) (cs_cons (cs_set (i := 2) nd rfl (by first | exact Or.inl rfl | exact Or.inr rfl) (pm_fn1 h__law_bent_r1 (hr.mono (by decide)) hgd tk (fun _ _ _ _ _ _ _ _ us ws h1 h2 => match us, ws, h1, h2 with | [_, _], [], _, _ => rfl) (by rfl) (pma_cons (pm_of (pv 0)) (pma_cons (pm_ixd (pm_of (pv 1)) (pm_of (pv 3))) pma_nil)))) (cs_cons (cs_if (PMw.pt (pmw_and (pmt_gt (pm_of (pv 4)) pm_int) (pmw_and1 (pmt_val (pm_isi .int (by rfl) m_isinstance (pm_ixd (pm_of (pv 1)) (pm_of (pv 3))) (by rfl) m_int ty_int))))) (cs_one (cs_set (i := 2) nd rfl (by first | exact Or.inl rfl | exact Or.inr rfl) (pm_add (pm_ixd (pm_of (pv 1)) (pm_of (pv 3))) (pm_fn1 h__law_pick (hr.mono (by decide)) hgd tk (fun _ _ _ _ _ _ _ _ us ws h1 h2 => match us, ws, h1, h2 with | [_, _], [], _, _ => rfl) (by rfl) (pma_cons (pm_of (pv 0)) (pma_cons (PMo.pm (pmo_lst (pma_cons pm_int (pma_cons (pm_neg pm_int) (pma_cons pm_int (pma_cons (pm_neg pm_int) (pma_cons pm_int (pma_cons pm_int pma_nil)))))))) pma_nil)))))) cs_nil) (cs_one (cs_ret (pm_add (pm_add (pm_sl (pm_of (pv 1)) pmO_none (pmO_some (pm_of (pv 3)))) (pm_if (pmt_val (pm_isi .list (by rfl) m_isinstance (pm_of (pv 1)) (by rfl) m_list ty_list)) (PMo.pm (pmo_lst (pma_cons (pm_of (pv 2)) pma_nil))) (pm_tup (pma_cons (pm_of (pv 2)) pma_nil)))) (pm_sl (pm_of (pv 1)) (pmO_some (pm_add (pm_of (pv 3)) pm_int)) pmO_none))))))))))))
theorem b__law_right {P : Program} {w : World} {K : PySem.W.Frag} {mg : Str → Option Value} {base : Heap} (h__law_are_coins : FnX P w K mg base "_law_are_coins" (defArgs HeadT.s__law_are_coins) 2 ps__law_are_coins F__law_are_coins) (h__law_bent : FnX P w K mg base "_law_bent" (defArgs HeadT.s__law_bent) 5 ps__law_bent F__law_bent) (h__law_coins : FnX P w K mg base "_law_coins" (defArgs HeadT.s__law_coins) 2 ps__law_coins F__law_coins) (h__law_draw : FnX P w K mg base "_law_draw" (defArgs HeadT.s__law_draw) 1 ps__law_draw F__law_draw) (h__law_is_bar : FnX P w K mg base "_law_is_bar" (defArgs HeadT.s__law_is_bar) 2 ps__law_is_bar F__law_is_bar) (h__law_is_list : FnX P w K mg base "_law_is_list" (defArgs HeadT.s__law_is_list) 2 ps__law_is_list F__law_is_list) (h_are_coins : FnX P w K mg base "are_coins" (defArgs HeadT.s_are_coins) 4 ps_are_coins F_are_coins) (h_coin_list : FnX P w K mg base "coin_list" (defArgs HeadT.s_coin_list) 6 ps_coin_list F_coin_list) (h_is_coin_list : FnX P w K mg base "is_coin_list" (defArgs HeadT.s_is_coin_list) 6 ps_is_coin_list F_is_coin_list) (h_is_low_bar : FnX P w K mg base "is_low_bar" (defArgs HeadT.s_is_low_bar) 6 ps_is_low_bar F_is_low_bar) (h_least_numbers : FnX P w K mg base "least_numbers" (defArgs HeadT.s_least_numbers) 5 ps_least_numbers F_least_numbers) (h_low_bar : FnX P w K mg base "low_bar" (defArgs HeadT.s_low_bar) 6 ps_low_bar F_low_bar) (m_len : mg "len" = none) (m_range : mg "range" = none) (m_repr : mg "repr" = none) (m_tuple : mg "tuple" = none) : BodyOk P w K mg base 6 "_law_right" (defBody HeadT.s__law_right) (defScope HeadT.s__law_right) N__law_right c__law_right := by
  intro f cdv A outer s H E En hr hgd
  have nd : N__law_right.Nodup := by decide +kernel
  have tk : Takes (cxOf (L2.CX P w) P w K mg base N__law_right "_law_right" (defScope HeadT.s__law_right) f cdv A outer s H E) (EX E) := takes_of rfl rfl rfl rfl
  have hp : PassesOwn (model P w) (cxOf (L2.CX P w) P w K mg base N__law_right "_law_right" (defScope HeadT.s__law_right) f cdv A outer s H E).A (cxOf (L2.CX P w) P w K mg base N__law_right "_law_right" (defScope HeadT.s__law_right) f cdv A outer s H E).env (cxOf (L2.CX P w) P w K mg base N__law_right "_law_right" (defScope HeadT.s__law_right) f cdv A outer s H E).xe := passes_of rfl
  delta c__law_right
  try delta b__law_right_7
  try delta b__law_right_6
  try delta m__law_right_5
  try delta b__law_right_4
  try delta m__law_right_3
  try delta b__law_right_2
  try delta m__law_right_1
  exact (cs_cons (cs_set (i := 1) nd rfl (by first | exact Or.inl rfl | exact Or.inr rfl) (pm_fn1 h__law_coins (hr.mono (by decide)) hgd tk (fun _ _ _ _ _ _ _ _ us ws h1 h2 => match us, ws, h1, h2 with | [_, _, _], [], _, _ => rfl) (by rfl) (pma_cons (pm_of (pv 0)) (pma_cons pm_int (pma_cons pm_int pma_nil))))) (cs_cons (cs_set (i := 2) nd rfl (by first | exact Or.inl rfl | exact Or.inr rfl) (pm_fn1 h__law_draw (hr.mono (by decide)) hgd tk (fun _ _ _ _ _ _ _ _ us ws h1 h2 => match us, ws, h1, h2 with | [_, _], [], _, _ => rfl) (by rfl) (pma_cons (pm_of (pv 0)) (pma_cons pm_int pma_nil)))) (cs_cons (cs_for hp rfl (pmi_seq (pm_add (PMo.pm (pmo_lst (pma_cons (pm_of (pv 1)) (pma_cons (b_tuple m_tuple (pma_cons (pm_of (pv 1)) pma_nil)) (pma_cons (PMo.pm (pmo_rev (pm_of (pv 1)))) (pma_cons (pm_add (pm_of (pv 1)) (pm_of (pv 1))) (pma_cons (PMo.pm (pmo_lst (pma_cons pm_int pma_nil))) (pma_cons (PMo.pm (pmo_lst (pma_cons pm_int pma_nil))) (pma_cons pm_non (pma_cons pm_int (pma_cons (pm_tup pma_nil) (pma_cons (PMo.pm (pmo_lst pma_nil)) (pma_cons pm_emp (pma_cons pm_str pma_nil)))))))))))))) (PMo.pm (pmo_lc (own := [("turn", 13)]) rfl nd (pmi_range1 (by rfl) m_range (pma_cons pm_int pma_nil)) (blkOk_by (by kernel_rfl)) (fun _ _ _ _ _ => (pg_name (i := 13) nd rfl (by first | exact Or.inl rfl | exact Or.inr rfl))) gok_name (fun _ _ _ _ _ => pmts_nil) (fun _ _ _ _ _ => (pm_fn1 h__law_bent (hr.mono (by decide)) hgd takes_w0 (fun _ _ _ _ _ _ _ _ us ws h1 h2 => match us, ws, h1, h2 with | [_, _], [], _, _ => rfl) (by rfl) (pma_cons (pm_of (pv 0)) (pma_cons (pm_of (pv 1)) pma_nil)))))))) (pg_name (i := 3) nd rfl (by first | exact Or.inl rfl | exact Or.inr rfl)) tg_name (cs_cons (cs_par (ps_par (i := 11) (j := 12) rfl nd rfl rfl (by decide) rfl rfl (PMu.pa (pmu_val (pm_fn1 h__law_are_coins (hr.mono (by decide)) hgd tk (fun _ _ _ _ _ _ _ _ us ws h1 h2 => match us, ws, h1, h2 with | [_], [], _, _ => rfl) (by rfl) (pma_cons (pm_of (pv 3)) pma_nil)) (pmu_val (b_reprE (un_of hr) hgd m_repr (pma_cons (pm_of (pv 3)) pma_nil)) pmu_nil))) rfl)) (cs_one (cs_if (PMw.pt (pmw_or (pmt_ne (un_of hr) (b_reprE (un_of hr) hgd m_repr (pma_cons (PMo.pm (pmo_lst (pma_cons (pm_fn1 h_are_coins (hr.mono (by decide)) hgd tk (fun _ _ _ _ _ _ _ _ us ws h1 h2 => match us, ws, h1, h2 with | [_], [], _, _ => rfl) (by rfl) (pma_cons (pm_of (pv 3)) pma_nil)) (pma_cons (pm_fnk0 (ks := ["value"]) h_are_coins (hr.mono (by decide)) hgd tk (fun _ _ _ _ _ _ _ _ us ws h1 h2 => match us, ws, h1, h2 with | [], [_], _, _ => rfl) (by rfl) (pmk_cons (pm_of (pv 3)) pmk_nil)) pma_nil)))) pma_nil)) (b_reprE (un_of hr) hgd m_repr (pma_cons (PMo.pm (pmo_lst (pma_cons (pm_of (pv 11)) (pma_cons (pm_of (pv 11)) pma_nil)))) pma_nil))) (pmw_or1 (pmt_ne (un_of hr) (b_reprE (un_of hr) hgd m_repr (pma_cons (pm_of (pv 3)) pma_nil)) (pm_of (pv 12)))))) (cs_one (cs_ret pm_bl)) cs_nil)))) (cs_cons (cs_set (i := 4) nd rfl (by first | exact Or.inl rfl | exact Or.inr rfl) (pm_fn1 h_least_numbers (hr.mono (by decide)) hgd tk (fun _ _ _ _ _ _ _ _ us ws h1 h2 => match us, ws, h1, h2 with | [_], [], _, _ => rfl) (by rfl) (pma_cons (pm_of (pv 1)) pma_nil))) (cs_cons (cs_set (i := 5) nd rfl (by first | exact Or.inl rfl | exact Or.inr rfl) (PMo.pm (pmo_lst (pma_cons (pm_fn1 h_coin_list (hr.mono (by decide)) hgd tk (fun _ _ _ _ _ _ _ _ us ws h1 h2 => match us, ws, h1, h2 with | [_, _], [], _, _ => rfl) (by rfl) (pma_cons (pm_of (pv 1)) (pma_cons (pm_of (pv 2)) pma_nil))) (pma_cons (pm_fn1 h_low_bar (hr.mono (by decide)) hgd tk (fun _ _ _ _ _ _ _ _ us ws h1 h2 => match us, ws, h1, h2 with | [_, _], [], _, _ => rfl) (by rfl) (pma_cons (pm_of (pv 1)) (pma_cons (pm_of (pv 2)) pma_nil))) (pma_cons (pm_of (pv 4)) (pma_cons (pm_add (PMo.pm (pmo_lst (pma_cons pm_int pma_nil))) (pm_mul (PMo.pm (pmo_lst (pma_cons pm_non pma_nil))) (pm_sub (pm_ixd (pm_of (pv 1)) pm_int) pm_int))) (pma_cons (pm_mul (PMo.pm (pmo_lst (pma_cons pm_int pma_nil))) (pm_ixd (pm_of (pv 1)) pm_int)) (pma_cons (pm_mul (PMo.pm (pmo_lst (pma_cons (pm_neg pm_int) pma_nil))) (pm_ixd (pm_of (pv 1)) pm_int)) (pma_cons (pm_mul (PMo.pm (pmo_lst (pma_cons pm_int pma_nil))) (b_len m_len (pma_cons (pm_of (pv 1)) pma_nil))) (pma_cons (pm_mul (PMo.pm (pmo_lst (pma_cons (pm_of (pv 2)) pma_nil))) (b_len m_len (pma_cons (pm_of (pv 1)) pma_nil))) pma_nil))))))))))) (cs_cons (cs_seto (i := 6) nd rfl (by first | exact Or.inl rfl | exact Or.inr rfl) (pmo_lst (pma_cons pm_non (pma_cons pm_int (pma_cons (pm_tup pma_nil) (pma_cons (PMo.pm (pmo_lst pma_nil)) (pma_cons pm_emp (pma_cons pm_str (pma_cons (pm_mul (PMo.pm (pmo_lst (pma_cons pm_non pma_nil))) (pm_ixd (pm_of (pv 1)) pm_int)) (pma_cons (pm_add (PMo.pm (pmo_lst (pma_cons pm_int pma_nil))) (pm_mul (PMo.pm (pmo_lst (pma_cons pm_int pma_nil))) (pm_sub (pm_ixd (pm_of (pv 1)) pm_int) pm_int))) pma_nil)))))))))) (cs_cons (cs_for hp rfl (pmi_seq (pm_of (pv 5))) (pg_name (i := 7) nd rfl (by first | exact Or.inl rfl | exact Or.inr rfl)) tg_name (cs_one (cs_if (pmt_notN (pm_of (pv 7))) (cs_frz (i := 6) (cs_one (cs_seto (i := 6) nd rfl (by first | exact Or.inl rfl | exact Or.inr rfl) (pmo_add (pm_add (pm_of (pv 6)) (PMo.pm (pmo_lst (pma_cons (pm_of (pv 7)) (pma_cons (b_tuple m_tuple (pma_cons (pm_of (pv 7)) pma_nil)) pma_nil))))) (PMo.pm (pmo_lc (own := [("turn", 13)]) rfl nd (pmi_range1 (by rfl) m_range (pma_cons pm_int pma_nil)) (blkOk_by (by kernel_rfl)) (fun _ _ _ _ _ => (pg_name (i := 13) nd rfl (by first | exact Or.inl rfl | exact Or.inr rfl))) gok_name (fun _ _ _ _ _ => pmts_nil) (fun _ _ _ _ _ => (pm_fn1 h__law_bent (hr.mono (by decide)) hgd takes_w0 (fun _ _ _ _ _ _ _ _ us ws h1 h2 => match us, ws, h1, h2 with | [_, _], [], _, _ => rfl) (by rfl) (pma_cons (pm_of (pv 0)) (pma_cons (pm_of (pv 7)) pma_nil)))))))))) cs_nil))) (cs_cons (cs_for hp rfl (pmi_seq (pm_tup (pma_cons pm_int (pma_cons pm_int pma_nil)))) (pg_name (i := 8) nd rfl (by first | exact Or.inl rfl | exact Or.inr rfl)) tg_name (cs_one (cs_append (pe_bm PySem.F.plainAttrs_list PySem.F.slot_list_append PySem.F.type_list_append mt_append (pv 6) (pa_cons (PM.pe (PMo.pm (pmo_lc (own := [("one", 7)]) rfl nd (pmi_seq (pm_of (pv 4))) (blkOk_by (by kernel_rfl)) (fun _ _ _ _ _ => (pg_name (i := 7) nd rfl (by first | exact Or.inl rfl | exact Or.inr rfl))) gok_name (fun _ _ _ _ _ => pmts_nil) (fun _ _ _ _ _ => (pm_if (pmt_isN (pm_of (pv 7))) pm_non (pm_sub (pm_of (pv 7)) (pm_of (pv 8)))))))) pa_nil))))) (cs_frz (i := 6) (cs_cons (cs_for hp rfl (pmi_seq (pm_of (pv 6))) (pg_name (i := 3) nd rfl (by first | exact Or.inl rfl | exact Or.inr rfl)) tg_name (cs_cons (cs_par (ps_par (i := 11) (j := 12) rfl nd rfl rfl (by decide) rfl rfl (PMu.pa (pmu_val (PMo.pm (pmo_lst (pma_cons (pm_fn1 h__law_is_list (hr.mono (by decide)) hgd tk (fun _ _ _ _ _ _ _ _ us ws h1 h2 => match us, ws, h1, h2 with | [_, _, _], [], _, _ => rfl) (by rfl) (pma_cons (pm_of (pv 1)) (pma_cons (pm_of (pv 2)) (pma_cons (pm_of (pv 3)) pma_nil)))) (pma_cons (pm_fn1 h__law_is_bar (hr.mono (by decide)) hgd tk (fun _ _ _ _ _ _ _ _ us ws h1 h2 => match us, ws, h1, h2 with | [_, _, _], [], _, _ => rfl) (by rfl) (pma_cons (pm_of (pv 1)) (pma_cons (pm_of (pv 2)) (pma_cons (pm_of (pv 3)) pma_nil)))) pma_nil)))) (pmu_val (b_reprE (un_of hr) hgd m_repr (pma_cons (pm_of (pv 3)) pma_nil)) pmu_nil))) rfl)) (cs_cons (cs_set (i := 9) nd rfl (by first | exact Or.inl rfl | exact Or.inr rfl) (PMo.pm (pmo_lst (pma_cons (pm_fn1 h_is_coin_list (hr.mono (by decide)) hgd tk (fun _ _ _ _ _ _ _ _ us ws h1 h2 => match us, ws, h1, h2 with | [_, _, _], [], _, _ => rfl) (by rfl) (pma_cons (pm_of (pv 1)) (pma_cons (pm_of (pv 2)) (pma_cons (pm_of (pv 3)) pma_nil)))) (pma_cons (pm_fn1 h_is_low_bar (hr.mono (by decide)) hgd tk (fun _ _ _ _ _ _ _ _ us ws h1 h2 => match us, ws, h1, h2 with | [_, _, _], [], _, _ => rfl) (by rfl) (pma_cons (pm_of (pv 1)) (pma_cons (pm_of (pv 2)) (pma_cons (pm_of (pv 3)) pma_nil)))) pma_nil))))) (cs_cons (cs_set (i := 10) nd rfl (by first | exact Or.inl rfl | exact Or.inr rfl) (PMo.pm (pmo_lst (pma_cons (pm_fnk0 (ks := ["value", "number", "coins"]) h_is_coin_list (hr.mono (by decide)) hgd tk (fun _ _ _ _ _ _ _ _ us ws h1 h2 => match us, ws, h1, h2 with | [], [_, _, _], _, _ => rfl) (by rfl) (pmk_cons (pm_of (pv 3)) (pmk_cons (pm_of (pv 2)) (pmk_cons (pm_of (pv 1)) pmk_nil)))) (pma_cons (pm_fnk0 (ks := ["value", "number", "coins"]) h_is_low_bar (hr.mono (by decide)) hgd tk (fun _ _ _ _ _ _ _ _ us ws h1 h2 => match us, ws, h1, h2 with | [], [_, _, _], _, _ => rfl) (by rfl) (pmk_cons (pm_of (pv 3)) (pmk_cons (pm_of (pv 2)) (pmk_cons (pm_of (pv 1)) pmk_nil)))) pma_nil))))) (cs_one (cs_if (PMw.pt (pmw_or (pmt_ne (un_of hr) (b_reprE (un_of hr) hgd m_repr (pma_cons (PMo.pm (pmo_lst (pma_cons (pm_of (pv 9)) (pma_cons (pm_of (pv 10)) pma_nil)))) pma_nil)) (b_reprE (un_of hr) hgd m_repr (pma_cons (PMo.pm (pmo_lst (pma_cons (pm_of (pv 11)) (pma_cons (pm_of (pv 11)) pma_nil)))) pma_nil))) (pmw_or1 (pmt_ne (un_of hr) (b_reprE (un_of hr) hgd m_repr (pma_cons (pm_of (pv 3)) pma_nil)) (pm_of (pv 12)))))) (cs_one (cs_ret pm_bl)) cs_nil)))))) (cs_one (cs_ret pm_bl))))))))))))
theorem sc__law_right : FnScope N__law_right ps__law_right (defScope HeadT.s__law_right) := ⟨rfl, rfl, rfl, by decide +kernel, rfl, by decide +kernel, by decide +kernel⟩
theorem b_law {P : Program} {w : World} {K : PySem.W.Frag} {mg : Str → Option Value} {base : Heap} (h__law_pot : FnX P w K mg base "_law_pot" (defArgs HeadT.s__law_pot) 1 ps__law_pot F__law_pot) (h__law_right : FnX P w K mg base "_law_right" (defArgs HeadT.s__law_right) 7 ps__law_right F__law_right) (m_all : mg "all" = none) (m_len : mg "len" = none) (m_max : mg "max" = none) (m_min : mg "min" = none) (m_range : mg "range" = none) : BodyOk P w K mg base 7 "law" (defBody HeadT.s_law) (defScope HeadT.s_law) N_law c_law := by
  intro f cdv A outer s H E En hr hgd
  have nd : N_law.Nodup := by decide +kernel
  have tk : Takes (cxOf (L2.CX P w) P w K mg base N_law "law" (defScope HeadT.s_law) f cdv A outer s H E) (EX E) := takes_of rfl rfl rfl rfl
  have hp : PassesOwn (model P w) (cxOf (L2.CX P w) P w K mg base N_law "law" (defScope HeadT.s_law) f cdv A outer s H E).A (cxOf (L2.CX P w) P w K mg base N_law "law" (defScope HeadT.s_law) f cdv A outer s H E).env (cxOf (L2.CX P w) P w K mg base N_law "law" (defScope HeadT.s_law) f cdv A outer s H E).xe := passes_of rfl
  delta c_law
  try delta m_law_1
  exact (cs_one (cs_ret (b_all rfl m_all (pma_cons (PMo.pm (pmo_lc (own := [("k", 1)]) rfl nd (pmi_range1 (by rfl) m_range (pma_cons (b_max2 rfl m_max (pma_cons pm_int (pma_cons (b_min2 rfl m_min (pma_cons pm_int (pma_cons (b_len m_len (pma_cons (pm_of (pv 0)) pma_nil)) pma_nil))) pma_nil))) pma_nil)) (blkOk_by (by kernel_rfl)) (fun _ _ _ _ _ => (pg_name (i := 1) nd rfl (by first | exact Or.inl rfl | exact Or.inr rfl))) gok_name (fun _ _ _ _ _ => pmts_nil) (fun _ _ _ _ _ => (pm_fn1 h__law_right (hr.mono (by decide)) hgd takes_w0 (fun _ _ _ _ _ _ _ _ us ws h1 h2 => match us, ws, h1, h2 with | [_], [], _, _ => rfl) (by rfl) (pma_cons (pm_fn1 h__law_pot (hr.mono (by decide)) hgd takes_w0 (fun _ _ _ _ _ _ _ _ us ws h1 h2 => match us, ws, h1, h2 with | [_, _], [], _, _ => rfl) (by rfl) (pma_cons (pm_of (pv 0)) (pma_cons (pm_of (pv 1)) pma_nil))) pma_nil))))) pma_nil))))
theorem sc_law : FnScope N_law ps_law (defScope HeadT.s_law) := ⟨rfl, rfl, rfl, by decide +kernel, rfl, by decide +kernel, by decide +kernel⟩
abbrev lawParams : Arguments := defArgs HeadT.s_law
theorem facts {P : Program} {w : World} {K : PySem.W.Frag} {base : Heap} {mg : Str → Option Value} (KX : K.In base) (G : base.Ns mainGlobals mg) (c : He.SaysD HeadT.fa HeadT.fn K) : FnX P w K mg base "law" (defArgs HeadT.s_law) 8 ps_law F_law := by
  have m_abs : mg "abs" = none := He.free_ok KX G (c.fact 31 (f := .free "abs") rfl)
  have m_all : mg "all" = none := He.free_ok KX G (c.fact 32 (f := .free "all") rfl)
  have m_bool : mg "bool" = none := He.free_ok KX G (c.fact 33 (f := .free "bool") rfl)
  have m_divmod : mg "divmod" = none := He.free_ok KX G (c.fact 34 (f := .free "divmod") rfl)
  have m_enumerate : mg "enumerate" = none := He.free_ok KX G (c.fact 35 (f := .free "enumerate") rfl)
  have m_int : mg "int" = none := He.free_ok KX G (c.fact 36 (f := .free "int") rfl)
  have m_isinstance : mg "isinstance" = none := He.free_ok KX G (c.fact 37 (f := .free "isinstance") rfl)
  have m_len : mg "len" = none := He.free_ok KX G (c.fact 38 (f := .free "len") rfl)
  have m_list : mg "list" = none := He.free_ok KX G (c.fact 39 (f := .free "list") rfl)
  have m_max : mg "max" = none := He.free_ok KX G (c.fact 40 (f := .free "max") rfl)
  have m_min : mg "min" = none := He.free_ok KX G (c.fact 41 (f := .free "min") rfl)
  have m_range : mg "range" = none := He.free_ok KX G (c.fact 42 (f := .free "range") rfl)
  have m_repr : mg "repr" = none := He.free_ok KX G (c.fact 43 (f := .free "repr") rfl)
  have m_sorted : mg "sorted" = none := He.free_ok KX G (c.fact 44 (f := .free "sorted") rfl)
  have m_sum : mg "sum" = none := He.free_ok KX G (c.fact 45 (f := .free "sum") rfl)
  have m_tuple : mg "tuple" = none := He.free_ok KX G (c.fact 46 (f := .free "tuple") rfl)
  have m_zip : mg "zip" = none := He.free_ok KX G (c.fact 47 (f := .free "zip") rfl)
  have m_MOST_COINS : ∃ t, mg "MOST_COINS" = some (.int 4 t) := He.int_ok KX G (c.fact 48 (f := .int "MOST_COINS" 4) rfl)
  have m_MOST_COIN : ∃ t, mg "MOST_COIN" = some (.int 60 t) := He.int_ok KX G (c.fact 49 (f := .int "MOST_COIN" 60) rfl)
  have m_MOST_NUMBER : ∃ t, mg "MOST_NUMBER" = some (.int 9999 t) := He.int_ok KX G (c.fact 50 (f := .int "MOST_NUMBER" 9999) rfl)
  obtain ⟨fd_is_integer, D_is_integer⟩ := c.def_ 0 (d := HeadT.d_is_integer) rfl
  have h_is_integer : FnX P w K mg base "is_integer" (defArgs HeadT.s_is_integer) 1 ps_is_integer F_is_integer := fnx D_is_integer (He.glo_ok KX G (c.fact 0 (f := .glo "is_integer") rfl)) sc_is_integer (b_is_integer m_bool m_int m_isinstance)
  obtain ⟨fd_is_count, D_is_count⟩ := c.def_ 1 (d := HeadT.d_is_count) rfl
  have h_is_count : FnX P w K mg base "is_count" (defArgs HeadT.s_is_count) 2 ps_is_count F_is_count := fnx D_is_count (He.glo_ok KX G (c.fact 1 (f := .glo "is_count") rfl)) sc_is_count (b_is_count h_is_integer)
  obtain ⟨fd_is_within, D_is_within⟩ := c.def_ 2 (d := HeadT.d_is_within) rfl
  have h_is_within : FnX P w K mg base "is_within" (defArgs HeadT.s_is_within) 2 ps_is_within F_is_within := fnx D_is_within (He.glo_ok KX G (c.fact 2 (f := .glo "is_within") rfl)) sc_is_within (b_is_within h_is_integer)
  obtain ⟨fd_is_list, D_is_list⟩ := c.def_ 3 (d := HeadT.d_is_list) rfl
  have h_is_list : FnX P w K mg base "is_list" (defArgs HeadT.s_is_list) 1 ps_is_list F_is_list := fnx D_is_list (He.glo_ok KX G (c.fact 3 (f := .glo "is_list") rfl)) sc_is_list (b_is_list m_isinstance m_list m_tuple)
  obtain ⟨fd_check_number, D_check_number⟩ := c.def_ 4 (d := HeadT.d_check_number) rfl
  have h_check_number : FnX P w K mg base "check_number" (defArgs HeadT.s_check_number) 3 ps_check_number F_check_number := fnx D_check_number (He.glo_ok KX G (c.fact 4 (f := .glo "check_number") rfl)) sc_check_number (b_check_number h_is_within)
  obtain ⟨fd_are_coins_of, D_are_coins_of⟩ := c.def_ 5 (d := HeadT.d_are_coins_of) rfl
  have h_are_coins_of : FnX P w K mg base "are_coins_of" (defArgs HeadT.s_are_coins_of) 3 ps_are_coins_of F_are_coins_of := fnx D_are_coins_of (He.glo_ok KX G (c.fact 5 (f := .glo "are_coins_of") rfl)) sc_are_coins_of (b_are_coins_of m_MOST_COIN m_MOST_COINS h_is_list h_is_within m_all m_len m_zip)
  obtain ⟨fd_check_coins, D_check_coins⟩ := c.def_ 6 (d := HeadT.d_check_coins) rfl
  have h_check_coins : FnX P w K mg base "check_coins" (defArgs HeadT.s_check_coins) 4 ps_check_coins F_check_coins := fnx D_check_coins (He.glo_ok KX G (c.fact 6 (f := .glo "check_coins") rfl)) sc_check_coins (b_check_coins h_are_coins_of)
  obtain ⟨fd_check_both, D_check_both⟩ := c.def_ 7 (d := HeadT.d_check_both) rfl
  have h_check_both : FnX P w K mg base "check_both" (defArgs HeadT.s_check_both) 5 ps_check_both F_check_both := fnx D_check_both (He.glo_ok KX G (c.fact 7 (f := .glo "check_both") rfl)) sc_check_both (b_check_both h_check_coins h_check_number)
  obtain ⟨fd_leasts_of, D_leasts_of⟩ := c.def_ 8 (d := HeadT.d_leasts_of) rfl
  have h_leasts_of : FnX P w K mg base "leasts_of" (defArgs HeadT.s_leasts_of) 1 ps_leasts_of F_leasts_of := fnx D_leasts_of (He.glo_ok KX G (c.fact 8 (f := .glo "leasts_of") rfl)) sc_leasts_of (b_leasts_of m_int)
  obtain ⟨fd_fewest_rows, D_fewest_rows⟩ := c.def_ 9 (d := HeadT.d_fewest_rows) rfl
  have h_fewest_rows : FnX P w K mg base "fewest_rows" (defArgs HeadT.s_fewest_rows) 1 ps_fewest_rows F_fewest_rows := fnx D_fewest_rows (He.glo_ok KX G (c.fact 9 (f := .glo "fewest_rows") rfl)) sc_fewest_rows (b_fewest_rows m_enumerate m_min)
  obtain ⟨fd_told_list, D_told_list⟩ := c.def_ 10 (d := HeadT.d_told_list) rfl
  have h_told_list : FnX P w K mg base "told_list" (defArgs HeadT.s_told_list) 2 ps_told_list F_told_list := fnx D_told_list (He.glo_ok KX G (c.fact 10 (f := .glo "told_list") rfl)) sc_told_list (b_told_list h_fewest_rows m_enumerate m_range)
  obtain ⟨fd_is_low_list_of, D_is_low_list_of⟩ := c.def_ 11 (d := HeadT.d_is_low_list_of) rfl
  have h_is_low_list_of : FnX P w K mg base "is_low_list_of" (defArgs HeadT.s_is_low_list_of) 2 ps_is_low_list_of F_is_low_list_of := fnx D_is_low_list_of (He.glo_ok KX G (c.fact 11 (f := .glo "is_low_list_of") rfl)) sc_is_low_list_of (b_is_low_list_of h_is_integer h_is_list m_all m_enumerate m_int m_len)
  obtain ⟨fd_does_bar, D_does_bar⟩ := c.def_ 12 (d := HeadT.d_does_bar) rfl
  have h_does_bar : FnX P w K mg base "does_bar" (defArgs HeadT.s_does_bar) 1 ps_does_bar F_does_bar := fnx D_does_bar (He.glo_ok KX G (c.fact 12 (f := .glo "does_bar") rfl)) sc_does_bar (b_does_bar m_int)
  obtain ⟨fd_are_coins, D_are_coins⟩ := c.def_ 13 (d := HeadT.d_are_coins) rfl
  have h_are_coins : FnX P w K mg base "are_coins" (defArgs HeadT.s_are_coins) 4 ps_are_coins F_are_coins := fnx D_are_coins (He.glo_ok KX G (c.fact 13 (f := .glo "are_coins") rfl)) sc_are_coins (b_are_coins h_are_coins_of)
  obtain ⟨fd_coin_list, D_coin_list⟩ := c.def_ 14 (d := HeadT.d_coin_list) rfl
  have h_coin_list : FnX P w K mg base "coin_list" (defArgs HeadT.s_coin_list) 6 ps_coin_list F_coin_list := fnx D_coin_list (He.glo_ok KX G (c.fact 14 (f := .glo "coin_list") rfl)) sc_coin_list (b_coin_list m_MOST_NUMBER h_check_both h_told_list)
  obtain ⟨fd_is_coin_list, D_is_coin_list⟩ := c.def_ 15 (d := HeadT.d_is_coin_list) rfl
  have h_is_coin_list : FnX P w K mg base "is_coin_list" (defArgs HeadT.s_is_coin_list) 6 ps_is_coin_list F_is_coin_list := fnx D_is_coin_list (He.glo_ok KX G (c.fact 15 (f := .glo "is_coin_list") rfl)) sc_is_coin_list (b_is_coin_list m_MOST_NUMBER h_check_both h_is_count h_is_list m_all m_len m_sum m_zip)
  obtain ⟨fd_low_bar, D_low_bar⟩ := c.def_ 16 (d := HeadT.d_low_bar) rfl
  have h_low_bar : FnX P w K mg base "low_bar" (defArgs HeadT.s_low_bar) 6 ps_low_bar F_low_bar := fnx D_low_bar (He.glo_ok KX G (c.fact 16 (f := .glo "low_bar") rfl)) sc_low_bar (b_low_bar m_MOST_NUMBER h_check_both h_does_bar h_leasts_of)
  obtain ⟨fd_is_low_bar, D_is_low_bar⟩ := c.def_ 17 (d := HeadT.d_is_low_bar) rfl
  have h_is_low_bar : FnX P w K mg base "is_low_bar" (defArgs HeadT.s_is_low_bar) 6 ps_is_low_bar F_is_low_bar := fnx D_is_low_bar (He.glo_ok KX G (c.fact 17 (f := .glo "is_low_bar") rfl)) sc_is_low_bar (b_is_low_bar m_MOST_NUMBER h_check_both h_does_bar h_is_low_list_of)
  obtain ⟨fd_least_numbers, D_least_numbers⟩ := c.def_ 18 (d := HeadT.d_least_numbers) rfl
  have h_least_numbers : FnX P w K mg base "least_numbers" (defArgs HeadT.s_least_numbers) 5 ps_least_numbers F_least_numbers := fnx D_least_numbers (He.glo_ok KX G (c.fact 18 (f := .glo "least_numbers") rfl)) sc_least_numbers (b_least_numbers h_check_coins h_leasts_of)
  obtain ⟨fd__law_pot, D__law_pot⟩ := c.def_ 19 (d := HeadT.d__law_pot) rfl
  have h__law_pot : FnX P w K mg base "_law_pot" (defArgs HeadT.s__law_pot) 1 ps__law_pot F__law_pot := fnx D__law_pot (He.glo_ok KX G (c.fact 19 (f := .glo "_law_pot") rfl)) sc__law_pot (b__law_pot m_abs m_int m_len m_max)
  obtain ⟨fd__law_draw, D__law_draw⟩ := c.def_ 20 (d := HeadT.d__law_draw) rfl
  have h__law_draw : FnX P w K mg base "_law_draw" (defArgs HeadT.s__law_draw) 1 ps__law_draw F__law_draw := fnx D__law_draw (He.glo_ok KX G (c.fact 20 (f := .glo "_law_draw") rfl)) sc__law_draw (b__law_draw m_divmod m_int)
  obtain ⟨fd__law_pick, D__law_pick⟩ := c.def_ 21 (d := HeadT.d__law_pick) rfl
  have h__law_pick : FnX P w K mg base "_law_pick" (defArgs HeadT.s__law_pick) 2 ps__law_pick F__law_pick := fnx D__law_pick (He.glo_ok KX G (c.fact 21 (f := .glo "_law_pick") rfl)) sc__law_pick (b__law_pick h__law_draw m_len)
  obtain ⟨fd__law_coins, D__law_coins⟩ := c.def_ 22 (d := HeadT.d__law_coins) rfl
  have h__law_coins : FnX P w K mg base "_law_coins" (defArgs HeadT.s__law_coins) 2 ps__law_coins F__law_coins := fnx D__law_coins (He.glo_ok KX G (c.fact 22 (f := .glo "_law_coins") rfl)) sc__law_coins (b__law_coins h__law_draw m_range m_sorted)
  obtain ⟨fd__law_is_count, D__law_is_count⟩ := c.def_ 23 (d := HeadT.d__law_is_count) rfl
  have h__law_is_count : FnX P w K mg base "_law_is_count" (defArgs HeadT.s__law_is_count) 1 ps__law_is_count F__law_is_count := fnx D__law_is_count (He.glo_ok KX G (c.fact 23 (f := .glo "_law_is_count") rfl)) sc__law_is_count (b__law_is_count m_bool m_int m_isinstance)
  obtain ⟨fd__law_is_list, D__law_is_list⟩ := c.def_ 24 (d := HeadT.d__law_is_list) rfl
  have h__law_is_list : FnX P w K mg base "_law_is_list" (defArgs HeadT.s__law_is_list) 2 ps__law_is_list F__law_is_list := fnx D__law_is_list (He.glo_ok KX G (c.fact 24 (f := .glo "_law_is_list") rfl)) sc__law_is_list (b__law_is_list h__law_is_count m_all m_isinstance m_len m_list m_sum m_tuple m_zip)
  obtain ⟨fd__law_is_low, D__law_is_low⟩ := c.def_ 25 (d := HeadT.d__law_is_low) rfl
  have h__law_is_low : FnX P w K mg base "_law_is_low" (defArgs HeadT.s__law_is_low) 1 ps__law_is_low F__law_is_low := fnx D__law_is_low (He.glo_ok KX G (c.fact 25 (f := .glo "_law_is_low") rfl)) sc__law_is_low (b__law_is_low m_all m_bool m_enumerate m_int m_isinstance m_len m_list m_tuple)
  obtain ⟨fd__law_is_bar, D__law_is_bar⟩ := c.def_ 26 (d := HeadT.d__law_is_bar) rfl
  have h__law_is_bar : FnX P w K mg base "_law_is_bar" (defArgs HeadT.s__law_is_bar) 2 ps__law_is_bar F__law_is_bar := fnx D__law_is_bar (He.glo_ok KX G (c.fact 26 (f := .glo "_law_is_bar") rfl)) sc__law_is_bar (b__law_is_bar h__law_is_low m_int)
  obtain ⟨fd__law_are_coins, D__law_are_coins⟩ := c.def_ 27 (d := HeadT.d__law_are_coins) rfl
  have h__law_are_coins : FnX P w K mg base "_law_are_coins" (defArgs HeadT.s__law_are_coins) 2 ps__law_are_coins F__law_are_coins := fnx D__law_are_coins (He.glo_ok KX G (c.fact 27 (f := .glo "_law_are_coins") rfl)) sc__law_are_coins (b__law_are_coins h__law_is_count m_all m_isinstance m_len m_list m_tuple m_zip)
  obtain ⟨fd__law_bent, D__law_bent⟩ := c.def_ 28 (d := HeadT.d__law_bent) rfl
  have h__law_bent_r0 : FnX P w K mg base "_law_bent" (defArgs HeadT.s__law_bent) 3 ps__law_bent F__law_bent_r0 := fnx_stuck D__law_bent (He.glo_ok KX G (c.fact 28 (f := .glo "_law_bent") rfl))
  have h__law_bent_r1 : FnX P w K mg base "_law_bent" (defArgs HeadT.s__law_bent) 4 ps__law_bent F__law_bent_r1 := fnx D__law_bent (He.glo_ok KX G (c.fact 28 (f := .glo "_law_bent") rfl)) sc__law_bent (b__law_bent_r1 h__law_bent_r0 h__law_draw h__law_pick m_int m_isinstance m_len m_list m_tuple)
  have h__law_bent : FnX P w K mg base "_law_bent" (defArgs HeadT.s__law_bent) 5 ps__law_bent F__law_bent := fnx D__law_bent (He.glo_ok KX G (c.fact 28 (f := .glo "_law_bent") rfl)) sc__law_bent (b__law_bent h__law_bent_r1 h__law_draw h__law_pick m_int m_isinstance m_len m_list m_tuple)
  obtain ⟨fd__law_right, D__law_right⟩ := c.def_ 29 (d := HeadT.d__law_right) rfl
  have h__law_right : FnX P w K mg base "_law_right" (defArgs HeadT.s__law_right) 7 ps__law_right F__law_right := fnx D__law_right (He.glo_ok KX G (c.fact 29 (f := .glo "_law_right") rfl)) sc__law_right (b__law_right h__law_are_coins h__law_bent h__law_coins h__law_draw h__law_is_bar h__law_is_list h_are_coins h_coin_list h_is_coin_list h_is_low_bar h_least_numbers h_low_bar m_len m_range m_repr m_tuple)
  obtain ⟨fd_law, D_law⟩ := c.def_ 30 (d := HeadT.d_law) rfl
  have h_law : FnX P w K mg base "law" (defArgs HeadT.s_law) 8 ps_law F_law := fnx D_law (He.glo_ok KX G (c.fact 30 (f := .glo "law") rfl)) sc_law (b_law h__law_pot h__law_right m_all m_len m_max m_min m_range)
  exact h_law
end PF

open PySem PySem.W PySem.Calls PyProof.Rows
theorem PySem.Challenge.cw_wholegrids_k69_any_value_as_coins_list_o_holds : PySem.Challenge.rw_wholegrids_k69_any_value_as_coins_list_o.Holds := by
  w_on; o_law
  refine HandSHeadRun.head_any (r := OpenLaw.row PySem.Challenge.rw_wholegrids_k69_any_value_as_coins_list_o) (q := view (OpenLaw.row PySem.Challenge.rw_wholegrids_k69_any_value_as_coins_list_o).prog [41]) (H := HeadT.hk) (ob := HeadT.ob) (M := 4000) (loose := HeadT.loose) (d := HandSHeadRun.topDef (OpenLaw.row PySem.Challenge.rw_wholegrids_k69_any_value_as_coins_list_o).prog 41) (kwd := []) HeadT.ob_eq
    (by kernel_rfl) (fun s => by kernel_rfl) HeadT.run (by kernel_rfl) (by kernel_rfl) (by kernel_rfl) (by rfl) (by first | assumption | decide +kernel) (by decide +kernel) ⟨rfl, rfl, rfl, rfl, rfl, by decide +kernel⟩ ?hw ?hc
  case hw => w_witness2
  case hc =>
    have en : (HandSHeadRun.topDef (OpenLaw.row PySem.Challenge.rw_wholegrids_k69_any_value_as_coins_list_o).prog 41).name = ("law" : PySem.Str) := by kernel_rfl
    refine PF.law_walk (l := PySem.Challenge.rw_wholegrids_k69_any_value_as_coins_list_o) (n := 63) (k := 8) (x := "script") (params := PF.lawParams) (G := PF.F_law) rfl (by decide) (by kernel_rfl) ⟨rfl, by decide, by decide⟩ (by rw [en]; exact fun _ _ _ _ _ _ _ _ us ws h1 h2 => match us, ws, h1, h2 with | [_], [], _, _ => rfl) ?F PF.law_ok
    intro w mg fa h Y G hmg0
    obtain ⟨K, KX, c⟩ := Y
    refine ⟨K, KX, fun base KB GB => ?_⟩
    rw [en]
    exact PF.facts KB GB c

